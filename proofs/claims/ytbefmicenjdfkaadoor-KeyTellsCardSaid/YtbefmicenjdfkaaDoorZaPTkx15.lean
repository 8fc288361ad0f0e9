import Derived.Test.YtbefmicenjdfkaaDoorZaPTkx0
import Derived.Test.YtbefmicenjdfkaaDoorZaPTkx4
import Derived.Test.YtbefmicenjdfkaaDoorZaPTkx7
import Derived.Test.YtbefmicenjdfkaaDoorZaPTkx13
import Derived.Test.YtbefmicenjdfkaaDoorZaPTkx14
namespace Go.Proofs.YtbefmicenjdfkaaDoor.PTk
open Go.RowKit Go.Proofs.YtbefmicenjdfkaaDoorW.PrintWords Go.Proofs.YtbefmicenjdfkaaDoorW.PrintLast Go.Proofs.YtbefmicenjdfkaaDoorW.PrintMore
attribute [local go_sem] max2_int min2_int max_two min_two max_three min_three max_four min_four
set_option linter.unusedVariables false
set_option linter.unusedSimpArgs false
def ebbtidelaw04_KeyTells.j0:Nat→Bool→ByteArray→List (S52)→ByteArray→List (S52)→Option (Bool)
 | 0,_,_,_,_,_=>none
 | k+1,x31,x488000,x488001,x489000,x489001=>if x31=true then (some true) else ((some (([]:List (S52)):List (S52))).bind fun y492=>(if y492.length+x488001.length<4398046511104 then ((some (y492++x488001:List (S52))).bind fun y495=>((key_Make.f k x488000 y495).bind fun bt498=>((ebbtideref04_Make.f k x488000 x488001).bind fun bt504=>((ebbtideref04_Same.f k bt498.1 bt498.2.1 bt504.1 bt504.2.1).bind fun t510=>(if t510=true then (if bt498.2.2=bt504.2.2 then ((key_Right.f k x488000 x488001).bind fun t511=>((ebbtideref04_Right.f k x488000 x488001).bind fun t512=>(if (t511 ==t512)=true then ((key_Text.f k x488000 x488001).bind fun t513=>((ebbtideref04_Text.f k x488000 x488001).bind fun t514=>(if t513.toList=t514.toList then ((key_Same.f k x488000 x488001 x489000 x489001).bind fun t515=>((ebbtideref04_Same.f k x488000 x488001 x489000 x489001).bind fun t516=>(if (t515 ==t516)=true then ((key_Same.f k x488000 x488001 x488000 x488001).bind fun t517=>(if t517=true then ((ebbtideref03_Same.f k y495 x488001).bind fun t518=>(some t518)) else (none))) else (none)))) else (none)))) else (none)))) else (none)) else (none)))))) else (none)))
def ebbtidelaw04_KeyTells.f (k:Nat) (a0_0:ByteArray) (l0_1:List (S52)) (a1_0:ByteArray) (l1_1:List (S52)):Option (Bool):=(ebbtidelaw04_alive.f k).bind fun t489=>(if t489=true then ((ebbtideref03_Great.f k l0_1).bind fun t490=>(if t490=true then (ebbtidelaw04_KeyTells.j0 k true a0_0 l0_1 a1_0 l1_1) else ((ebbtideref03_Great.f k l1_1).bind fun t491=>(if t491=true then (ebbtidelaw04_KeyTells.j0 k true a0_0 l0_1 a1_0 l1_1) else (if (a0_0.size:Int)>200 then (ebbtidelaw04_KeyTells.j0 k true a0_0 l0_1 a1_0 l1_1) else (ebbtidelaw04_KeyTells.j0 k (decide ((a1_0.size:Int)>200)) a0_0 l0_1 a1_0 l1_1)))))) else (none))
theorem ebbtidelaw04_KeyTells.mono_l:∀ k,(∀ y0 y1 y2 y3 y4,LeO (ebbtidelaw04_KeyTells.j0 k y0 y1 y2 y3 y4) (ebbtidelaw04_KeyTells.j0 (k+1) y0 y1 y2 y3 y4))
 | 0=>fun _ _ _ _ _ r h=>by simp [ebbtidelaw04_KeyTells.j0] at h
 | k+1=>by
  have ih0:=ebbtidelaw04_KeyTells.mono_l k
  ·intro y0 y1 y2 y3 y4
   unfold ebbtidelaw04_KeyTells.j0
   repeat' first
   | (with_reducible exact ih0 _ _ _ _ _)
   | (with_reducible exact ebbtidelaw04_alive.mono _)
   | (with_reducible exact ebbtideref03_Great.mono _ _)
   | (with_reducible exact ebbtideref03_Same.mono _ _ _)
   | (with_reducible exact ebbtideref04_Make.mono _ _ _)
   | (with_reducible exact ebbtideref04_Right.mono _ _ _)
   | (with_reducible exact ebbtideref04_Same.mono _ _ _ _ _)
   | (with_reducible exact ebbtideref04_Text.mono _ _ _)
   | (with_reducible exact key_Make.mono _ _ _)
   | (with_reducible exact key_Right.mono _ _ _)
   | (with_reducible exact key_Same.mono _ _ _ _ _)
   | (with_reducible exact key_Text.mono _ _ _)
   | (with_reducible exact LeO.refl _)
   | (with_reducible exact LeO.none _)
   | (with_reducible refine LeO.ite ?_ ?_)
   | (with_reducible refine LeO.bind ?_ (fun _=>?_))
   | exact ih0 _ _ _ _ _
   | exact ebbtidelaw04_alive.mono _
   | exact ebbtideref03_Great.mono _ _
   | exact ebbtideref03_Same.mono _ _ _
   | exact ebbtideref04_Make.mono _ _ _
   | exact ebbtideref04_Right.mono _ _ _
   | exact ebbtideref04_Same.mono _ _ _ _ _
   | exact ebbtideref04_Text.mono _ _ _
   | exact key_Make.mono _ _ _
   | exact key_Right.mono _ _ _
   | exact key_Same.mono _ _ _ _ _
   | exact key_Text.mono _ _ _
   | exact LeO.none _
   | refine LeO.ite ?_ ?_
   | refine LeO.bind ?_ (fun _=>?_)
theorem ebbtidelaw04_KeyTells.mono:∀ a0 a1 a2 a3 k,LeO (ebbtidelaw04_KeyTells.f k a0 a1 a2 a3) (ebbtidelaw04_KeyTells.f (k+1) a0 a1 a2 a3):=by
 intro a0 a1 a2 a3 k
 have ih0:=ebbtidelaw04_KeyTells.mono_l k
 unfold ebbtidelaw04_KeyTells.f
 repeat' first
   | (with_reducible exact ih0 _ _ _ _ _)
   | (with_reducible exact ebbtidelaw04_alive.mono _)
   | (with_reducible exact ebbtideref03_Great.mono _ _)
   | (with_reducible exact ebbtideref03_Same.mono _ _ _)
   | (with_reducible exact ebbtideref04_Make.mono _ _ _)
   | (with_reducible exact ebbtideref04_Right.mono _ _ _)
   | (with_reducible exact ebbtideref04_Same.mono _ _ _ _ _)
   | (with_reducible exact ebbtideref04_Text.mono _ _ _)
   | (with_reducible exact key_Make.mono _ _ _)
   | (with_reducible exact key_Right.mono _ _ _)
   | (with_reducible exact key_Same.mono _ _ _ _ _)
   | (with_reducible exact key_Text.mono _ _ _)
   | (with_reducible exact LeO.refl _)
   | (with_reducible exact LeO.none _)
   | (with_reducible refine LeO.ite ?_ ?_)
   | (with_reducible refine LeO.bind ?_ (fun _=>?_))
   | exact ih0 _ _ _ _ _
   | exact ebbtidelaw04_alive.mono _
   | exact ebbtideref03_Great.mono _ _
   | exact ebbtideref03_Same.mono _ _ _
   | exact ebbtideref04_Make.mono _ _ _
   | exact ebbtideref04_Right.mono _ _ _
   | exact ebbtideref04_Same.mono _ _ _ _ _
   | exact ebbtideref04_Text.mono _ _ _
   | exact key_Make.mono _ _ _
   | exact key_Right.mono _ _ _
   | exact key_Same.mono _ _ _ _ _
   | exact key_Text.mono _ _ _
   | exact LeO.none _
   | refine LeO.ite ?_ ?_
   | refine LeO.bind ?_ (fun _=>?_)
def ebbtidelaw04_KeyTells.T8:Bool×List (List Nat×List Nat):=(true,[([],[]),([],[]),([0,1],[0,1]),([2,2],[2]),([3],[3]),([3],[3]),([4,5,3],[3,4,5]),([3,6],[3,6]),([7,3],[7]),([8],[8]),([9,8,8],[8,9]),([8],[8]),([11,10,8],[8,11]),([10,12,8],[8,10,12]),([8,13],[8,13]),([14,12],[14]),([15],[15]),([16,15,15],[15,16]),([15],[15]),([18,17,15],[15,18]),([17,19,15],[15,17,19]),([15,20],[15,20]),([21,19],[21]),([22],[22]),([22],[22]),([23,24,22,22],[22,23,24]),([22],[22]),([22],[22]),([26,27,25,22],[22,26,27]),([25,28,22],[22,25,28]),([22,29],[22,29]),([30,28],[30]),([31],[31]),([31],[31]),([32,33,31,31],[31,32,33]),([31,34],[31,34]),([35,34],[35]),([36],[36]),([36],[36]),([38,36],[36,38]),([37,39,36,36],[36,37,39]),([36,40],[36,40]),([41,40,0,1,2,3,4,5,6,7,8,9,10,11,12,13,14,15,16,17,18,19,20,21,22,23,24,25,26,27,28,29,30,31,32,33,34,35,36,37,38,39,40,41],[41])])
def ebbtidelaw04_KeyTells.B8:List Nat:=[0,0,3,7,15,15,63,127,255,511,1023,511,4095,8191,16383,32767,65535,131071,65535,524287,1048575,2097151,4194303,8388607,8388607,33554431,8388607,8388607,268435455,536870911,1073741823,2147483647,4294967295,4294967295,17179869183,34359738367,68719476735,137438953471,137438953471,412316860415,1099511627775,2199023255551,4398046511103]
theorem ebbtidelaw04_KeyTells.tab8:rtab .any (opsOf Tryd.f7 8)=ebbtidelaw04_KeyTells.T8:=by kernel_rfl
theorem ebbtidelaw04_KeyTells.bits8:waitsOk ebbtidelaw04_KeyTells.T8.2 ebbtidelaw04_KeyTells.B8=true:=by kernel_rfl
set_option maxHeartbeats 8000000 in
set_option maxRecDepth 100000 in
theorem ebbtidelaw04_KeyTells.calls (k:Nat) (a0_0:ByteArray) (A0_1:Option Addr) (c0_1:Nat) (l0_1:List (S52)) (a1_0:ByteArray) (A1_1:Option Addr) (c1_1:Nat) (l1_1:List (S52)) (r:Bool) (w:World) (hr0_1:Kd.C k52 w A0_1 l0_1.length l0_1) (hc0_1:l0_1.length≤c0_1) (hr1_1:Kd.C k52 w A1_1 l1_1.length l1_1) (hc1_1:l1_1.length≤c1_1) (h:ebbtidelaw04_KeyTells.f k a0_0 l0_1 a1_0 l1_1=some r) :
  Calls Tryd.prog 7 #[.agg #[.string a0_0, .slice A0_1 l0_1.length c0_1], .agg #[.string a1_0, .slice A1_1 l1_1.length c1_1]] w fun e w'=>e = .returned (.bool r)∧Below w.heap.size w w':=by
 have hu41:=Tryd.underlying41
 have HR0_1:=Aside0.mk hr0_1
 have HC0_1:=Aside0.mk hc0_1
 clear hr0_1 hc0_1
 have HR1_1:=Aside0.mk hr1_1
 have HC1_1:=Aside0.mk hc1_1
 clear hr1_1 hc1_1
 have HB:=Aside0.mk (Below.refl w.heap.size w)
 have H:((ebbtidelaw04_alive.f k).bind fun t489=>(if t489=true then ((ebbtideref03_Great.f k l0_1).bind fun t490=>(if t490=true then (ebbtidelaw04_KeyTells.j0 k true a0_0 l0_1 a1_0 l1_1) else ((ebbtideref03_Great.f k l1_1).bind fun t491=>(if t491=true then (ebbtidelaw04_KeyTells.j0 k true a0_0 l0_1 a1_0 l1_1) else (if (a0_0.size:Int)>200 then (ebbtidelaw04_KeyTells.j0 k true a0_0 l0_1 a1_0 l1_1) else (ebbtidelaw04_KeyTells.j0 k (decide ((a1_0.size:Int)>200)) a0_0 l0_1 a1_0 l1_1)))))) else (none)))=some r:=h
 clear h
 replace H:=Option.bind_eq_some_iff.mp H
 obtain ⟨t489,A30,H⟩:=H
 replace H:(if t489=true then ((ebbtideref03_Great.f k l0_1).bind fun t490=>(if t490=true then (ebbtidelaw04_KeyTells.j0 k true a0_0 l0_1 a1_0 l1_1) else ((ebbtideref03_Great.f k l1_1).bind fun t491=>(if t491=true then (ebbtidelaw04_KeyTells.j0 k true a0_0 l0_1 a1_0 l1_1) else (if (a0_0.size:Int)>200 then (ebbtidelaw04_KeyTells.j0 k true a0_0 l0_1 a1_0 l1_1) else (ebbtidelaw04_KeyTells.j0 k (decide ((a1_0.size:Int)>200)) a0_0 l0_1 a1_0 l1_1)))))) else (none))=some r:=H
 have A3:=Aside0.mk A30
 clear A30
 by_cases c4:t489=true
 ·subst c4
  have H1:((ebbtideref03_Great.f k l0_1).bind fun t490=>(if t490=true then (ebbtidelaw04_KeyTells.j0 k true a0_0 l0_1 a1_0 l1_1) else ((ebbtideref03_Great.f k l1_1).bind fun t491=>(if t491=true then (ebbtidelaw04_KeyTells.j0 k true a0_0 l0_1 a1_0 l1_1) else (if (a0_0.size:Int)>200 then (ebbtidelaw04_KeyTells.j0 k true a0_0 l0_1 a1_0 l1_1) else (ebbtidelaw04_KeyTells.j0 k (decide ((a1_0.size:Int)>200)) a0_0 l0_1 a1_0 l1_1))))))=some r:=by rw [if_pos rfl] at H;exact H
  clear H
  have H:=H1
  clear H1
  have HC5:=Aside0.mk H
  clear H
  go_enter Tryd.func7,Tryd.ntmps7
  go_upto_region 3 with (first|((with_reducible refine gate_dst (N:=2) rfl ?_);(try (refine gate_guard (by rfl) ?_;dsimp only));refine box_event ?hg (N:=2) ?hd (cs:=#[.string a0_0, .slice A0_1 l0_1.length c0_1]) (t:=41) ?hr ?_;(case hd=>rfl);(case hg=>rfl);(case hr=>first|(go_simp;done)|(go_simp;rfl));intro gb487 hg w6 hbox hb;have n0_:=Aside0.mk (below_step (by repeat (first|(with_reducible first|exact HB.out|apply below_alloc|apply pw_below_drewN|apply below_drew1)|exact HB.out)) hb);have n1_:=Aside0.mk (hbox);have n2_:=Aside0.mk ((by rw [hg];exact (below_size (by repeat (first|(with_reducible first|exact HB.out|apply below_alloc|apply pw_below_drewN|apply below_drew1)|exact HB.out))):w.heap.size≤gb487));have n3_:=Aside0.mk ((by rw [hg];exact (below_size (by repeat (first|(with_reducible first|exact HB.out|apply below_alloc|apply pw_below_drewN|apply below_drew1)|exact HB.out))):w.heap.size≤gb487));clear HB;have HB:=n0_;have BK487:=n1_;have GW487:=n2_;have GE487:=n3_;clear n0_ n1_ n2_ n3_;clear hb hbox hg)|((with_reducible refine gate_dst (N:=3) rfl ?_);(try (refine gate_guard (by rfl) ?_;dsimp only));refine box_event ?hg (N:=3) ?hd (cs:=#[.string a1_0, .slice A1_1 l1_1.length c1_1]) (t:=41) ?hr ?_;(case hd=>rfl);(case hg=>rfl);(case hr=>first|(go_simp;done)|(go_simp;rfl));intro gb488 hg w7 hbox hb;have n0_:=Aside0.mk (blk_below (g:=gb487) (o := .cells #[.string a0_0, .slice A0_1 l0_1.length c0_1] 41 (0,0)) (by (with_reducible repeat (first|refine blk_drewN ?_ _|refine blk_drew ?_|refine blk_alloc ?_ _));exact BK487.out) hb);have n1_:=Aside0.mk (below_step (by repeat (first|(with_reducible first|exact HB.out|apply below_alloc|apply pw_below_drewN|apply below_drew1|refine below_set ?_ GE487.out)|exact HB.out)) hb);have n2_:=Aside0.mk (hbox);have n3_:=Aside0.mk ((by rw [hg];exact (below_size (by repeat (first|(with_reducible first|exact HB.out|apply below_alloc|apply pw_below_drewN|apply below_drew1|refine below_set ?_ GE487.out)|exact HB.out))):w.heap.size≤gb488));have n4_:=Aside0.mk ((by rw [hg];exact (below_size (by repeat (first|(with_reducible first|exact HB.out|apply below_alloc|apply pw_below_drewN|apply below_drew1|refine below_set ?_ GE487.out)|exact HB.out))):w.heap.size≤gb488));have n5_:=Aside0.mk ((by rw [hg];exact Nat.ne_of_lt (blk_lt (g:=gb487) (o := .cells #[.string a0_0, .slice A0_1 l0_1.length c0_1] 41 (0,0)) (by (with_reducible repeat (first|refine blk_drewN ?_ _|refine blk_drew ?_|refine blk_alloc ?_ _));exact BK487.out)):gb487≠gb488));have n6_:=Aside0.mk ((by rw [hg];exact Nat.ne_of_gt (blk_lt (g:=gb487) (o := .cells #[.string a0_0, .slice A0_1 l0_1.length c0_1] 41 (0,0)) (by (with_reducible repeat (first|refine blk_drewN ?_ _|refine blk_drew ?_|refine blk_alloc ?_ _));exact BK487.out)):gb488≠gb487));clear BK487;clear HB;have BK487:=n0_;have HB:=n1_;have BK488:=n2_;have GW488:=n3_;have GE488:=n4_;have NB487_488:=n5_;have NB488_487:=n6_;clear n0_ n1_ n2_ n3_ n4_ n5_ n6_;clear hb hbox hg)|((with_reducible refine gate_callee (f:=27) rfl ?_);refine goesL_ (some 10) rfl rfl Tryd.func27 (by kernel_rfl) rfl #[] rfl (by (try simp only [List.map_toArray,List.map_cons,List.map_nil]);first|done|rfl|(simp only [List.length_drop,List.length_take];rfl)) ?_;(with_reducible refine (ebbtidelaw04_alive.calls k  true _ A3.out).mono ?_);rintro e w8 ⟨rfl,hb⟩;refine ⟨_,rfl,?_⟩;have n0_:=Aside0.mk (blk_below (g:=gb487) (o := .cells #[.string a0_0, .slice A0_1 l0_1.length c0_1] 41 (0,0)) (by (with_reducible repeat (first|refine blk_drewN ?_ _|refine blk_drew ?_|refine blk_alloc ?_ _));exact BK487.out) hb);have n1_:=Aside0.mk (blk_below (g:=gb488) (o := .cells #[.string a1_0, .slice A1_1 l1_1.length c1_1] 41 (0,0)) (by (with_reducible repeat (first|refine blk_drewN ?_ _|refine blk_drew ?_|refine blk_alloc ?_ _));exact BK488.out) hb);have n2_:=Aside0.mk (below_step (by repeat (first|(with_reducible first|exact HB.out|apply below_alloc|apply pw_below_drewN|apply below_drew1|refine below_set ?_ GE487.out|refine below_set ?_ GE488.out)|exact HB.out)) hb);clear BK487;clear BK488;clear HB;have BK487:=n0_;have BK488:=n1_;have HB:=n2_;clear n0_ n1_ n2_;(try clear hb);(try clear hb2);(try clear hk);(try clear hi)))
  (try simp only [Act.put,List.setIfInBounds_toArray,List.set_cons_zero,List.set_cons_succ])
  go_cut [31] (fun v31 wc=>∃ (kq:Nat) (x31_4:Bool),v31 = .bool x31_4∧Aside0 (ebbtidelaw04_KeyTells.j0 kq x31_4 a0_0 l0_1 a1_0 l1_1=some r)∧Aside0 (kq≤k)∧Aside0 (wc.heap[gb487]?=some (.cells #[.string a0_0,(.slice A0_1 l0_1.length c0_1)] 41 (0,0)))∧Aside0 (wc.heap[gb488]?=some (.cells #[.string a1_0,(.slice A1_1 l1_1.length c1_1)] 41 (0,0)))∧Aside0 (Below w.heap.size w wc))
  case first =>
   have H:=HC5.out
   clear HC5
   replace H:=Option.bind_eq_some_iff.mp H
   obtain ⟨t490,A90,H⟩:=H
   replace H:(if t490=true then (ebbtidelaw04_KeyTells.j0 k true a0_0 l0_1 a1_0 l1_1) else ((ebbtideref03_Great.f k l1_1).bind fun t491=>(if t491=true then (ebbtidelaw04_KeyTells.j0 k true a0_0 l0_1 a1_0 l1_1) else (if (a0_0.size:Int)>200 then (ebbtidelaw04_KeyTells.j0 k true a0_0 l0_1 a1_0 l1_1) else (ebbtidelaw04_KeyTells.j0 k (decide ((a1_0.size:Int)>200)) a0_0 l0_1 a1_0 l1_1)))))=some r:=H
   have A9:=Aside0.mk A90
   clear A90
   by_cases c10:t490=true
   ·subst c10
    have H1:(ebbtidelaw04_KeyTells.j0 k true a0_0 l0_1 a1_0 l1_1)=some r:=by rw [if_pos rfl] at H;exact H
    clear H
    have H:=H1
    clear H1
    have H':=Aside0.mk H
    clear H
    have hnb11:=NB487_488.out
    have hnc11:=NB488_487.out
    have hcz12_0:w8.cell? ⟨gb487,0,none⟩=some (.string a0_0):=(blk_cell BK487.out 0).trans rfl
    have hcz12_1:w8.cell? ⟨gb487,1,none⟩=some (.slice A0_1 l0_1.length c0_1):=(blk_cell BK487.out 1).trans rfl
    have hfz12_0:=blk_frozen BK487.out 0
    have hfz12_1:=blk_frozen BK487.out 1
    go_wp2_with (first|((with_reducible refine gate_callee (f:=13) rfl ?_);refine goesL_ (some 14) rfl rfl Tryd.func13 (by kernel_rfl) rfl #[.slice A0_1 l0_1.length c0_1] rfl (by (try simp only [List.map_toArray,List.map_cons,List.map_nil]);first|done|rfl|(simp only [List.length_drop,List.length_take];rfl)) ?_;(with_reducible refine (ebbtideref03_Great.calls k _ _ l0_1 true _ ?side1 ?side2 A9.out).mono ?_);(case side1=>repeat (first|exact (Kd.C_below HR0_1.out HB.out)|(with_reducible refine Kd.C_alloc ?_ _)|(with_reducible refine Kd.C_drewN ?_ _)|(with_reducible refine Kd.C_drew ?_)));(case side2=>exact HC0_1.out);rintro e w' ⟨rfl,⟨nd,rfl⟩⟩;refine ⟨_,rfl,?_⟩))
    go_meet
    case rel=>exact ⟨_,(true),(by first|rfl|(simp;done)|(simp [*];done)),H',⟨by first|omega|exact Nat.le_refl _⟩,⟨by (with_reducible repeat (first|refine blk_drewN ?_ _|refine blk_drew ?_|refine blk_alloc ?_ _));exact BK487.out⟩,⟨by (with_reducible repeat (first|refine blk_drewN ?_ _|refine blk_drew ?_|refine blk_alloc ?_ _));exact BK488.out⟩,⟨by repeat (first|(with_reducible first|exact HB.out|apply below_alloc|apply pw_below_drewN|apply below_drew1|refine below_set ?_ GE487.out|refine below_set ?_ GE488.out)|exact HB.out)⟩⟩
   ·replace c10:=Bool.eq_false_iff.mpr c10
    subst c10
    have H1:((ebbtideref03_Great.f k l1_1).bind fun t491=>(if t491=true then (ebbtidelaw04_KeyTells.j0 k true a0_0 l0_1 a1_0 l1_1) else (if (a0_0.size:Int)>200 then (ebbtidelaw04_KeyTells.j0 k true a0_0 l0_1 a1_0 l1_1) else (ebbtidelaw04_KeyTells.j0 k (decide ((a1_0.size:Int)>200)) a0_0 l0_1 a1_0 l1_1))))=some r:=by rw [if_neg (show ¬ (false=true) by decide)] at H;exact H
    clear H
    have H:=H1
    clear H1
    replace H:=Option.bind_eq_some_iff.mp H
    obtain ⟨t491,A130,H⟩:=H
    replace H:(if t491=true then (ebbtidelaw04_KeyTells.j0 k true a0_0 l0_1 a1_0 l1_1) else (if (a0_0.size:Int)>200 then (ebbtidelaw04_KeyTells.j0 k true a0_0 l0_1 a1_0 l1_1) else (ebbtidelaw04_KeyTells.j0 k (decide ((a1_0.size:Int)>200)) a0_0 l0_1 a1_0 l1_1)))=some r:=H
    have A13:=Aside0.mk A130
    clear A130
    by_cases c14:t491=true
    ·subst c14
     have H1:(ebbtidelaw04_KeyTells.j0 k true a0_0 l0_1 a1_0 l1_1)=some r:=by rw [if_pos rfl] at H;exact H
     clear H
     have H:=H1
     clear H1
     have H':=Aside0.mk H
     clear H
     have hnb15:=NB487_488.out
     have hnc15:=NB488_487.out
     have hcz16_0:w8.cell? ⟨gb487,0,none⟩=some (.string a0_0):=(blk_cell BK487.out 0).trans rfl
     have hcz16_1:w8.cell? ⟨gb487,1,none⟩=some (.slice A0_1 l0_1.length c0_1):=(blk_cell BK487.out 1).trans rfl
     have hfz16_0:=blk_frozen BK487.out 0
     have hfz16_1:=blk_frozen BK487.out 1
     go_wp2_with (first|((with_reducible refine gate_callee (f:=13) rfl ?_);refine goesL_ (some 14) rfl rfl Tryd.func13 (by kernel_rfl) rfl #[.slice A0_1 l0_1.length c0_1] rfl (by (try simp only [List.map_toArray,List.map_cons,List.map_nil]);first|done|rfl|(simp only [List.length_drop,List.length_take];rfl)) ?_;(with_reducible refine (ebbtideref03_Great.calls k _ _ l0_1 false _ ?side1 ?side2 A9.out).mono ?_);(case side1=>repeat (first|exact (Kd.C_below HR0_1.out HB.out)|(with_reducible refine Kd.C_alloc ?_ _)|(with_reducible refine Kd.C_drewN ?_ _)|(with_reducible refine Kd.C_drew ?_)));(case side2=>exact HC0_1.out);rintro e w' ⟨rfl,⟨nd,rfl⟩⟩;refine ⟨_,rfl,?_⟩;have hcz17_0:w8.cell? ⟨gb488,0,none⟩=some (.string a1_0):=(blk_cell BK488.out 0).trans rfl;have hcz17_1:w8.cell? ⟨gb488,1,none⟩=some (.slice A1_1 l1_1.length c1_1):=(blk_cell BK488.out 1).trans rfl;have hfz17_0:=blk_frozen BK488.out 0;have hfz17_1:=blk_frozen BK488.out 1)|(go_at_call 13;(with_reducible refine (ebbtideref03_Great.calls k _ _ l1_1 true _ ?side1 ?side2 A13.out).mono ?_);(case side1=>repeat (first|exact (Kd.C_below HR1_1.out (by repeat (first|(with_reducible first|exact HB.out|apply below_alloc|apply pw_below_drewN|apply below_drew1|refine below_set ?_ GE487.out|refine below_set ?_ GE488.out)|exact HB.out)))|(with_reducible refine Kd.C_alloc ?_ _)|(with_reducible refine Kd.C_drewN ?_ _)|(with_reducible refine Kd.C_drew ?_)));(case side2=>exact HC1_1.out);rintro e w' ⟨rfl,⟨nd,rfl⟩⟩))
     go_meet
     case rel=>exact ⟨_,(true),(by first|rfl|(simp;done)|(simp [*];done)),H',⟨by first|omega|exact Nat.le_refl _⟩,⟨by (with_reducible repeat (first|refine blk_drewN ?_ _|refine blk_drew ?_|refine blk_alloc ?_ _));exact BK487.out⟩,⟨by (with_reducible repeat (first|refine blk_drewN ?_ _|refine blk_drew ?_|refine blk_alloc ?_ _));exact BK488.out⟩,⟨by repeat (first|(with_reducible first|exact HB.out|apply below_alloc|apply pw_below_drewN|apply below_drew1|refine below_set ?_ GE487.out|refine below_set ?_ GE488.out)|exact HB.out)⟩⟩
    ·replace c14:=Bool.eq_false_iff.mpr c14
     subst c14
     have H1:(if (a0_0.size:Int)>200 then (ebbtidelaw04_KeyTells.j0 k true a0_0 l0_1 a1_0 l1_1) else (ebbtidelaw04_KeyTells.j0 k (decide ((a1_0.size:Int)>200)) a0_0 l0_1 a1_0 l1_1))=some r:=by rw [if_neg (show ¬ (false=true) by decide)] at H;exact H
     clear H
     have H:=H1
     clear H1
     by_cases c18:(a0_0.size:Int)>200
     ·rw [if_pos c18] at H
      have c18b0:decide (200<(a0_0.size:Int))=true:=decide_eq_true c18
      have c18b1:decide (200<a0_0.size)=true:=decide_eq_true (by omega)
      clear c18
      (first|rw [c18b0]|(simp only [i64_w,i32_w];rw [c18b0])|skip)
      have H':=Aside0.mk H
      clear H
      have hnb19:=NB487_488.out
      have hnc19:=NB488_487.out
      have hcz20_0:w8.cell? ⟨gb487,0,none⟩=some (.string a0_0):=(blk_cell BK487.out 0).trans rfl
      have hcz20_1:w8.cell? ⟨gb487,1,none⟩=some (.slice A0_1 l0_1.length c0_1):=(blk_cell BK487.out 1).trans rfl
      have hfz20_0:=blk_frozen BK487.out 0
      have hfz20_1:=blk_frozen BK487.out 1
      go_wp2_with (first|((with_reducible refine gate_callee (f:=13) rfl ?_);refine goesL_ (some 14) rfl rfl Tryd.func13 (by kernel_rfl) rfl #[.slice A0_1 l0_1.length c0_1] rfl (by (try simp only [List.map_toArray,List.map_cons,List.map_nil]);first|done|rfl|(simp only [List.length_drop,List.length_take];rfl)) ?_;(with_reducible refine (ebbtideref03_Great.calls k _ _ l0_1 false _ ?side1 ?side2 A9.out).mono ?_);(case side1=>repeat (first|exact (Kd.C_below HR0_1.out HB.out)|(with_reducible refine Kd.C_alloc ?_ _)|(with_reducible refine Kd.C_drewN ?_ _)|(with_reducible refine Kd.C_drew ?_)));(case side2=>exact HC0_1.out);rintro e w' ⟨rfl,⟨nd,rfl⟩⟩;refine ⟨_,rfl,?_⟩;have hcz21_0:w8.cell? ⟨gb488,0,none⟩=some (.string a1_0):=(blk_cell BK488.out 0).trans rfl;have hcz21_1:w8.cell? ⟨gb488,1,none⟩=some (.slice A1_1 l1_1.length c1_1):=(blk_cell BK488.out 1).trans rfl;have hfz21_0:=blk_frozen BK488.out 0;have hfz21_1:=blk_frozen BK488.out 1)|(go_at_call 13;(with_reducible refine (ebbtideref03_Great.calls k _ _ l1_1 false _ ?side1 ?side2 A13.out).mono ?_);(case side1=>repeat (first|exact (Kd.C_below HR1_1.out (by repeat (first|(with_reducible first|exact HB.out|apply below_alloc|apply pw_below_drewN|apply below_drew1|refine below_set ?_ GE487.out|refine below_set ?_ GE488.out)|exact HB.out)))|(with_reducible refine Kd.C_alloc ?_ _)|(with_reducible refine Kd.C_drewN ?_ _)|(with_reducible refine Kd.C_drew ?_)));(case side2=>exact HC1_1.out);rintro e w' ⟨rfl,⟨nd,rfl⟩⟩))
      go_meet
      case rel=>exact ⟨_,(true),(by first|rfl|(simp;done)|(simp [*];done)),H',⟨by first|omega|exact Nat.le_refl _⟩,⟨by (with_reducible repeat (first|refine blk_drewN ?_ _|refine blk_drew ?_|refine blk_alloc ?_ _));exact BK487.out⟩,⟨by (with_reducible repeat (first|refine blk_drewN ?_ _|refine blk_drew ?_|refine blk_alloc ?_ _));exact BK488.out⟩,⟨by repeat (first|(with_reducible first|exact HB.out|apply below_alloc|apply pw_below_drewN|apply below_drew1|refine below_set ?_ GE487.out|refine below_set ?_ GE488.out)|exact HB.out)⟩⟩
     ·rw [if_neg c18] at H
      have c18b0:decide (200<(a0_0.size:Int))=false:=decide_eq_false c18
      have c18b1:decide (200<a0_0.size)=false:=decide_eq_false (by omega)
      clear c18
      (first|rw [c18b0]|(simp only [i64_w,i32_w];rw [c18b0])|skip)
      have H':=Aside0.mk H
      clear H
      have hnb22:=NB487_488.out
      have hnc22:=NB488_487.out
      have hcz23_0:w8.cell? ⟨gb487,0,none⟩=some (.string a0_0):=(blk_cell BK487.out 0).trans rfl
      have hcz23_1:w8.cell? ⟨gb487,1,none⟩=some (.slice A0_1 l0_1.length c0_1):=(blk_cell BK487.out 1).trans rfl
      have hfz23_0:=blk_frozen BK487.out 0
      have hfz23_1:=blk_frozen BK487.out 1
      go_wp2_with (first|((with_reducible refine gate_callee (f:=13) rfl ?_);refine goesL_ (some 14) rfl rfl Tryd.func13 (by kernel_rfl) rfl #[.slice A0_1 l0_1.length c0_1] rfl (by (try simp only [List.map_toArray,List.map_cons,List.map_nil]);first|done|rfl|(simp only [List.length_drop,List.length_take];rfl)) ?_;(with_reducible refine (ebbtideref03_Great.calls k _ _ l0_1 false _ ?side1 ?side2 A9.out).mono ?_);(case side1=>repeat (first|exact (Kd.C_below HR0_1.out HB.out)|(with_reducible refine Kd.C_alloc ?_ _)|(with_reducible refine Kd.C_drewN ?_ _)|(with_reducible refine Kd.C_drew ?_)));(case side2=>exact HC0_1.out);rintro e w' ⟨rfl,⟨nd,rfl⟩⟩;refine ⟨_,rfl,?_⟩;have hcz24_0:w8.cell? ⟨gb488,0,none⟩=some (.string a1_0):=(blk_cell BK488.out 0).trans rfl;have hcz24_1:w8.cell? ⟨gb488,1,none⟩=some (.slice A1_1 l1_1.length c1_1):=(blk_cell BK488.out 1).trans rfl;have hfz24_0:=blk_frozen BK488.out 0;have hfz24_1:=blk_frozen BK488.out 1)|(go_at_call 13;(with_reducible refine (ebbtideref03_Great.calls k _ _ l1_1 false _ ?side1 ?side2 A13.out).mono ?_);(case side1=>repeat (first|exact (Kd.C_below HR1_1.out (by repeat (first|(with_reducible first|exact HB.out|apply below_alloc|apply pw_below_drewN|apply below_drew1|refine below_set ?_ GE487.out|refine below_set ?_ GE488.out)|exact HB.out)))|(with_reducible refine Kd.C_alloc ?_ _)|(with_reducible refine Kd.C_drewN ?_ _)|(with_reducible refine Kd.C_drew ?_)));(case side2=>exact HC1_1.out);rintro e w' ⟨rfl,⟨nd,rfl⟩⟩))
      go_meet
      case rel=>exact ⟨_,(decide ((a1_0.size:Int)>200)),(by first|rfl|(simp;done)|(simp [*];done)),H',⟨by first|omega|exact Nat.le_refl _⟩,⟨by (with_reducible repeat (first|refine blk_drewN ?_ _|refine blk_drew ?_|refine blk_alloc ?_ _));exact BK487.out⟩,⟨by (with_reducible repeat (first|refine blk_drewN ?_ _|refine blk_drew ?_|refine blk_alloc ?_ _));exact BK488.out⟩,⟨by repeat (first|(with_reducible first|exact HB.out|apply below_alloc|apply pw_below_drewN|apply below_drew1|refine below_set ?_ GE487.out|refine below_set ?_ GE488.out)|exact HB.out)⟩⟩
  case rest =>
   clear HC5
   try clear c1
   try clear c2
   try clear p2
   try clear c4
   try clear c7
   try clear c10
   try clear c11
   try clear c13
   try clear c14
   try clear c15
   try clear c18
   try clear c18b0
   try clear c18b1
   try clear c19
   try clear c22
   try clear hcz12_0
   try clear hcz12_1
   try clear hcz16_0
   try clear hcz16_1
   try clear hcz17_0
   try clear hcz17_1
   try clear hcz20_0
   try clear hcz20_1
   try clear hcz21_0
   try clear hcz21_1
   try clear hcz23_0
   try clear hcz23_1
   try clear hcz24_0
   try clear hcz24_1
   try clear hfz12_0
   try clear hfz12_1
   try clear hfz16_0
   try clear hfz16_1
   try clear hfz17_0
   try clear hfz17_1
   try clear hfz20_0
   try clear hfz20_1
   try clear hfz21_0
   try clear hfz21_1
   try clear hfz23_0
   try clear hfz23_1
   try clear hfz24_0
   try clear hfz24_1
   obtain ⟨kq,x31_4,rfl,HA,HJ4,BK487,BK488,HB⟩:=hcut
   cases kq with
   | zero=>exact absurd HA.out (by simp [ebbtidelaw04_KeyTells.j0])
   | succ kj4 =>
    have H:=HA.out
    clear HA
    simp only [ebbtidelaw04_KeyTells.j0] at H
    by_cases c25:x31_4=true
    ·subst c25
     have H1:(some true)=some r:=by rw [if_pos rfl] at H;exact H
     clear H
     have H:=H1
     clear H1
     obtain rfl:=Option.some.inj H
     go_wp2
     go_ret
     exact ⟨by first|rfl|(simp [errW_none,errW_some]<;>rfl)|(simp [*,errW_none,errW_some]<;>rfl),by repeat (first|(with_reducible first|exact HB.out|apply below_alloc|apply pw_below_drewN|apply below_drew1|refine below_set ?_ GE487.out|refine below_set ?_ GE488.out)|exact HB.out)⟩
    ·replace c25:=Bool.eq_false_iff.mpr c25
     subst c25
     have H1:((some (([]:List (S52)):List (S52))).bind fun y492=>(if y492.length+l0_1.length<4398046511104 then ((some (y492++l0_1:List (S52))).bind fun y495=>((key_Make.f kj4 a0_0 y495).bind fun bt498=>((ebbtideref04_Make.f kj4 a0_0 l0_1).bind fun bt504=>((ebbtideref04_Same.f kj4 bt498.1 bt498.2.1 bt504.1 bt504.2.1).bind fun t510=>(if t510=true then (if bt498.2.2=bt504.2.2 then ((key_Right.f kj4 a0_0 l0_1).bind fun t511=>((ebbtideref04_Right.f kj4 a0_0 l0_1).bind fun t512=>(if (t511 ==t512)=true then ((key_Text.f kj4 a0_0 l0_1).bind fun t513=>((ebbtideref04_Text.f kj4 a0_0 l0_1).bind fun t514=>(if t513.toList=t514.toList then ((key_Same.f kj4 a0_0 l0_1 a1_0 l1_1).bind fun t515=>((ebbtideref04_Same.f kj4 a0_0 l0_1 a1_0 l1_1).bind fun t516=>(if (t515 ==t516)=true then ((key_Same.f kj4 a0_0 l0_1 a0_0 l0_1).bind fun t517=>(if t517=true then ((ebbtideref03_Same.f kj4 y495 l0_1).bind fun t518=>(some t518)) else (none))) else (none)))) else (none)))) else (none)))) else (none)) else (none)))))) else (none)))=some r:=by rw [if_neg (show ¬ (false=true) by decide)] at H;exact H
     clear H
     have H:=H1
     clear H1
     obtain ⟨y492,hy492⟩:∃ y_:List (S52),y_=(([]:List (S52))):=⟨_,rfl⟩
     replace H:(if y492.length+l0_1.length<4398046511104 then ((some (y492++l0_1:List (S52))).bind fun y495=>((key_Make.f kj4 a0_0 y495).bind fun bt498=>((ebbtideref04_Make.f kj4 a0_0 l0_1).bind fun bt504=>((ebbtideref04_Same.f kj4 bt498.1 bt498.2.1 bt504.1 bt504.2.1).bind fun t510=>(if t510=true then (if bt498.2.2=bt504.2.2 then ((key_Right.f kj4 a0_0 l0_1).bind fun t511=>((ebbtideref04_Right.f kj4 a0_0 l0_1).bind fun t512=>(if (t511 ==t512)=true then ((key_Text.f kj4 a0_0 l0_1).bind fun t513=>((ebbtideref04_Text.f kj4 a0_0 l0_1).bind fun t514=>(if t513.toList=t514.toList then ((key_Same.f kj4 a0_0 l0_1 a1_0 l1_1).bind fun t515=>((ebbtideref04_Same.f kj4 a0_0 l0_1 a1_0 l1_1).bind fun t516=>(if (t515 ==t516)=true then ((key_Same.f kj4 a0_0 l0_1 a0_0 l0_1).bind fun t517=>(if t517=true then ((ebbtideref03_Same.f kj4 y495 l0_1).bind fun t518=>(some t518)) else (none))) else (none)))) else (none)))) else (none)))) else (none)) else (none)))))) else (none))=some r:=by first|(rw [hy492];with_reducible exact H)|(have H2_:=(Option.bind_some _ _).symm.trans H;rw [hy492];with_reducible exact H2_)|(have H2_:=(Option.bind_some _ _).symm.trans H;with_reducible exact H2_)|with_reducible exact H|(rw [hy492];exact H)|exact H
     have Ny492:=Aside0.mk hy492
     clear hy492
     by_cases c26:y492.length+l0_1.length<4398046511104
     ·rw [if_pos c26] at H
      have LMc26:=Aside0.mk c26
      clear c26
      obtain ⟨y495,hy495⟩:∃ y_:List (S52),y_=(y492++l0_1):=⟨_,rfl⟩
      replace H:((key_Make.f kj4 a0_0 y495).bind fun bt498=>((ebbtideref04_Make.f kj4 a0_0 l0_1).bind fun bt504=>((ebbtideref04_Same.f kj4 bt498.1 bt498.2.1 bt504.1 bt504.2.1).bind fun t510=>(if t510=true then (if bt498.2.2=bt504.2.2 then ((key_Right.f kj4 a0_0 l0_1).bind fun t511=>((ebbtideref04_Right.f kj4 a0_0 l0_1).bind fun t512=>(if (t511 ==t512)=true then ((key_Text.f kj4 a0_0 l0_1).bind fun t513=>((ebbtideref04_Text.f kj4 a0_0 l0_1).bind fun t514=>(if t513.toList=t514.toList then ((key_Same.f kj4 a0_0 l0_1 a1_0 l1_1).bind fun t515=>((ebbtideref04_Same.f kj4 a0_0 l0_1 a1_0 l1_1).bind fun t516=>(if (t515 ==t516)=true then ((key_Same.f kj4 a0_0 l0_1 a0_0 l0_1).bind fun t517=>(if t517=true then ((ebbtideref03_Same.f kj4 y495 l0_1).bind fun t518=>(some t518)) else (none))) else (none)))) else (none)))) else (none)))) else (none)) else (none)))))=some r:=by first|(rw [hy495];with_reducible exact H)|(have H2_:=(Option.bind_some _ _).symm.trans H;rw [hy495];with_reducible exact H2_)|(have H2_:=(Option.bind_some _ _).symm.trans H;with_reducible exact H2_)|with_reducible exact H|(rw [hy495];exact H)|exact H
      have Ny495:=Aside0.mk hy495
      clear hy495
      replace H:=Option.bind_eq_some_iff.mp H
      obtain ⟨⟨t498,t499,t502⟩,A270,H⟩:=H
      replace H:((ebbtideref04_Make.f kj4 a0_0 l0_1).bind fun bt504=>((ebbtideref04_Same.f kj4 t498 t499 bt504.1 bt504.2.1).bind fun t510=>(if t510=true then (if t502=bt504.2.2 then ((key_Right.f kj4 a0_0 l0_1).bind fun t511=>((ebbtideref04_Right.f kj4 a0_0 l0_1).bind fun t512=>(if (t511 ==t512)=true then ((key_Text.f kj4 a0_0 l0_1).bind fun t513=>((ebbtideref04_Text.f kj4 a0_0 l0_1).bind fun t514=>(if t513.toList=t514.toList then ((key_Same.f kj4 a0_0 l0_1 a1_0 l1_1).bind fun t515=>((ebbtideref04_Same.f kj4 a0_0 l0_1 a1_0 l1_1).bind fun t516=>(if (t515 ==t516)=true then ((key_Same.f kj4 a0_0 l0_1 a0_0 l0_1).bind fun t517=>(if t517=true then ((ebbtideref03_Same.f kj4 y495 l0_1).bind fun t518=>(some t518)) else (none))) else (none)))) else (none)))) else (none)))) else (none)) else (none))))=some r:=H
      have A27:=Aside0.mk A270
      clear A270
      replace H:=Option.bind_eq_some_iff.mp H
      obtain ⟨⟨t504,t505,t508⟩,A280,H⟩:=H
      replace H:((ebbtideref04_Same.f kj4 t498 t499 t504 t505).bind fun t510=>(if t510=true then (if t502=t508 then ((key_Right.f kj4 a0_0 l0_1).bind fun t511=>((ebbtideref04_Right.f kj4 a0_0 l0_1).bind fun t512=>(if (t511 ==t512)=true then ((key_Text.f kj4 a0_0 l0_1).bind fun t513=>((ebbtideref04_Text.f kj4 a0_0 l0_1).bind fun t514=>(if t513.toList=t514.toList then ((key_Same.f kj4 a0_0 l0_1 a1_0 l1_1).bind fun t515=>((ebbtideref04_Same.f kj4 a0_0 l0_1 a1_0 l1_1).bind fun t516=>(if (t515 ==t516)=true then ((key_Same.f kj4 a0_0 l0_1 a0_0 l0_1).bind fun t517=>(if t517=true then ((ebbtideref03_Same.f kj4 y495 l0_1).bind fun t518=>(some t518)) else (none))) else (none)))) else (none)))) else (none)))) else (none)) else (none)))=some r:=H
      have A28:=Aside0.mk A280
      clear A280
      replace H:=Option.bind_eq_some_iff.mp H
      obtain ⟨t510,A290,H⟩:=H
      replace H:(if t510=true then (if t502=t508 then ((key_Right.f kj4 a0_0 l0_1).bind fun t511=>((ebbtideref04_Right.f kj4 a0_0 l0_1).bind fun t512=>(if (t511 ==t512)=true then ((key_Text.f kj4 a0_0 l0_1).bind fun t513=>((ebbtideref04_Text.f kj4 a0_0 l0_1).bind fun t514=>(if t513.toList=t514.toList then ((key_Same.f kj4 a0_0 l0_1 a1_0 l1_1).bind fun t515=>((ebbtideref04_Same.f kj4 a0_0 l0_1 a1_0 l1_1).bind fun t516=>(if (t515 ==t516)=true then ((key_Same.f kj4 a0_0 l0_1 a0_0 l0_1).bind fun t517=>(if t517=true then ((ebbtideref03_Same.f kj4 y495 l0_1).bind fun t518=>(some t518)) else (none))) else (none)))) else (none)))) else (none)))) else (none)) else (none))=some r:=H
      have A29:=Aside0.mk A290
      clear A290
      by_cases c30:t510=true
      ·subst c30
       have H1:(if t502=t508 then ((key_Right.f kj4 a0_0 l0_1).bind fun t511=>((ebbtideref04_Right.f kj4 a0_0 l0_1).bind fun t512=>(if (t511 ==t512)=true then ((key_Text.f kj4 a0_0 l0_1).bind fun t513=>((ebbtideref04_Text.f kj4 a0_0 l0_1).bind fun t514=>(if t513.toList=t514.toList then ((key_Same.f kj4 a0_0 l0_1 a1_0 l1_1).bind fun t515=>((ebbtideref04_Same.f kj4 a0_0 l0_1 a1_0 l1_1).bind fun t516=>(if (t515 ==t516)=true then ((key_Same.f kj4 a0_0 l0_1 a0_0 l0_1).bind fun t517=>(if t517=true then ((ebbtideref03_Same.f kj4 y495 l0_1).bind fun t518=>(some t518)) else (none))) else (none)))) else (none)))) else (none)))) else (none))=some r:=by rw [if_pos rfl] at H;exact H
       clear H
       have H:=H1
       clear H1
       by_cases c31:t502=t508
       ·rw [if_pos c31] at H
        have c31b0:(t502 ==t508)=true:=beq_iff_eq.mpr c31
        have c31b1:(t502 != t508)=false:=bne_eq_false_iff_eq.mpr c31
        clear c31
        replace H:=Option.bind_eq_some_iff.mp H
        obtain ⟨t511,A320,H⟩:=H
        replace H:((ebbtideref04_Right.f kj4 a0_0 l0_1).bind fun t512=>(if (t511 ==t512)=true then ((key_Text.f kj4 a0_0 l0_1).bind fun t513=>((ebbtideref04_Text.f kj4 a0_0 l0_1).bind fun t514=>(if t513.toList=t514.toList then ((key_Same.f kj4 a0_0 l0_1 a1_0 l1_1).bind fun t515=>((ebbtideref04_Same.f kj4 a0_0 l0_1 a1_0 l1_1).bind fun t516=>(if (t515 ==t516)=true then ((key_Same.f kj4 a0_0 l0_1 a0_0 l0_1).bind fun t517=>(if t517=true then ((ebbtideref03_Same.f kj4 y495 l0_1).bind fun t518=>(some t518)) else (none))) else (none)))) else (none)))) else (none)))=some r:=H
        have A32:=Aside0.mk A320
        clear A320
        replace H:=Option.bind_eq_some_iff.mp H
        obtain ⟨t512,A330,H⟩:=H
        replace H:(if (t511 ==t512)=true then ((key_Text.f kj4 a0_0 l0_1).bind fun t513=>((ebbtideref04_Text.f kj4 a0_0 l0_1).bind fun t514=>(if t513.toList=t514.toList then ((key_Same.f kj4 a0_0 l0_1 a1_0 l1_1).bind fun t515=>((ebbtideref04_Same.f kj4 a0_0 l0_1 a1_0 l1_1).bind fun t516=>(if (t515 ==t516)=true then ((key_Same.f kj4 a0_0 l0_1 a0_0 l0_1).bind fun t517=>(if t517=true then ((ebbtideref03_Same.f kj4 y495 l0_1).bind fun t518=>(some t518)) else (none))) else (none)))) else (none)))) else (none))=some r:=H
        have A33:=Aside0.mk A330
        clear A330
        by_cases c34:(t511 ==t512)=true
        ·rw [if_pos c34] at H
         have c34b0:(t511 ==t512)=true:=c34
         (try (have c34b1:decide (t511=t512)=true:=by simpa using c34))
         (try (have c34b2:(t511 ==t512)=true:=by simpa using c34))
         clear c34
         replace H:=Option.bind_eq_some_iff.mp H
         obtain ⟨t513,A350,H⟩:=H
         replace H:((ebbtideref04_Text.f kj4 a0_0 l0_1).bind fun t514=>(if t513.toList=t514.toList then ((key_Same.f kj4 a0_0 l0_1 a1_0 l1_1).bind fun t515=>((ebbtideref04_Same.f kj4 a0_0 l0_1 a1_0 l1_1).bind fun t516=>(if (t515 ==t516)=true then ((key_Same.f kj4 a0_0 l0_1 a0_0 l0_1).bind fun t517=>(if t517=true then ((ebbtideref03_Same.f kj4 y495 l0_1).bind fun t518=>(some t518)) else (none))) else (none)))) else (none)))=some r:=H
         have A35:=Aside0.mk A350
         clear A350
         replace H:=Option.bind_eq_some_iff.mp H
         obtain ⟨t514,A360,H⟩:=H
         replace H:(if t513.toList=t514.toList then ((key_Same.f kj4 a0_0 l0_1 a1_0 l1_1).bind fun t515=>((ebbtideref04_Same.f kj4 a0_0 l0_1 a1_0 l1_1).bind fun t516=>(if (t515 ==t516)=true then ((key_Same.f kj4 a0_0 l0_1 a0_0 l0_1).bind fun t517=>(if t517=true then ((ebbtideref03_Same.f kj4 y495 l0_1).bind fun t518=>(some t518)) else (none))) else (none)))) else (none))=some r:=H
         have A36:=Aside0.mk A360
         clear A360
         by_cases c37:t513.toList=t514.toList
         ·rw [if_pos c37] at H
          have c37b0:(t513.toList ==t514.toList)=true:=beq_iff_eq.mpr c37
          have c37b1:(t513.toList != t514.toList)=false:=bne_eq_false_iff_eq.mpr c37
          clear c37
          replace H:=Option.bind_eq_some_iff.mp H
          obtain ⟨t515,A380,H⟩:=H
          replace H:((ebbtideref04_Same.f kj4 a0_0 l0_1 a1_0 l1_1).bind fun t516=>(if (t515 ==t516)=true then ((key_Same.f kj4 a0_0 l0_1 a0_0 l0_1).bind fun t517=>(if t517=true then ((ebbtideref03_Same.f kj4 y495 l0_1).bind fun t518=>(some t518)) else (none))) else (none)))=some r:=H
          have A38:=Aside0.mk A380
          clear A380
          replace H:=Option.bind_eq_some_iff.mp H
          obtain ⟨t516,A390,H⟩:=H
          replace H:(if (t515 ==t516)=true then ((key_Same.f kj4 a0_0 l0_1 a0_0 l0_1).bind fun t517=>(if t517=true then ((ebbtideref03_Same.f kj4 y495 l0_1).bind fun t518=>(some t518)) else (none))) else (none))=some r:=H
          have A39:=Aside0.mk A390
          clear A390
          by_cases c40:(t515 ==t516)=true
          ·rw [if_pos c40] at H
           have c40b0:(t515 ==t516)=true:=c40
           (try (have c40b1:decide (t515=t516)=true:=by simpa using c40))
           (try (have c40b2:(t515 ==t516)=true:=by simpa using c40))
           clear c40
           replace H:=Option.bind_eq_some_iff.mp H
           obtain ⟨t517,A410,H⟩:=H
           replace H:(if t517=true then ((ebbtideref03_Same.f kj4 y495 l0_1).bind fun t518=>(some t518)) else (none))=some r:=H
           have A41:=Aside0.mk A410
           clear A410
           by_cases c42:t517=true
           ·subst c42
            have H1:((ebbtideref03_Same.f kj4 y495 l0_1).bind fun t518=>(some t518))=some r:=by rw [if_pos rfl] at H;exact H
            clear H
            have H:=H1
            clear H1
            replace H:=Option.bind_eq_some_iff.mp H
            obtain ⟨t518,A430,H⟩:=H
            replace H:(some t518)=some r:=H
            have A43:=Aside0.mk A430
            clear A430
            obtain rfl:=Option.some.inj H
            try go_wp2_with (first|((with_reducible refine gate_dst (N:=32) rfl ?_);(try (refine gate_guard (by rfl) ?_;dsimp only));refine Kd.R_lit k52 _ 52 ?hg (N:=32) ?hd (xs:=([]:List (S52))) (inner:=[]) (ok:=fun _=>True) (okp:=fun _=>True) ?hr ?hp (fun _ hk=>hk) trivial (Below.refl _ _) (Nat.le_refl _) (by simp) ?_;(case hd=>rfl);(case hg=>rfl);(case hr=>first|(go_simp;done)|(go_simp;rfl));(case hp=>exact (Reps.none _ _));intro v493 w44 ho45 hb hg_ hnew_;clear hg_ hnew_;(first|rw [← Ny492.out] at ho45|(simp only [Int.reduceToNat] at ho45;rw [← Ny492.out] at ho45));have n0_:=Aside0.mk (Kd.R_lower ho45 (below_size (by repeat (first|(with_reducible first|exact HB.out|apply below_alloc|apply pw_below_drewN|apply below_drew1|refine below_set ?_ GE487.out|refine below_set ?_ GE488.out)|exact HB.out))));have n1_:=Aside0.mk (blk_below (g:=gb487) (o := .cells #[.string a0_0, .slice A0_1 l0_1.length c0_1] 41 (0,0)) (by (with_reducible repeat (first|refine blk_drewN ?_ _|refine blk_drew ?_|refine blk_alloc ?_ _));exact BK487.out) hb);have n2_:=Aside0.mk (blk_below (g:=gb488) (o := .cells #[.string a1_0, .slice A1_1 l1_1.length c1_1] 41 (0,0)) (by (with_reducible repeat (first|refine blk_drewN ?_ _|refine blk_drew ?_|refine blk_alloc ?_ _));exact BK488.out) hb);have n3_:=Aside0.mk (below_step (by repeat (first|(with_reducible first|exact HB.out|apply below_alloc|apply pw_below_drewN|apply below_drew1|refine below_set ?_ GE487.out|refine below_set ?_ GE488.out)|exact HB.out)) hb);clear BK487;clear BK488;clear HB;have HO494:=n0_;have BK487:=n1_;have BK488:=n2_;have HB:=n3_;clear n0_ n1_ n2_ n3_;clear hb ho45;have hnb46:=NB487_488.out;have hnc46:=NB488_487.out;have hcz47_0:w44.cell? ⟨gb487,0,none⟩=some (.string a0_0):=(blk_cell BK487.out 0).trans rfl;have hcz47_1:w44.cell? ⟨gb487,1,none⟩=some (.slice A0_1 l0_1.length c0_1):=(blk_cell BK487.out 1).trans rfl;have hfz47_0:=blk_frozen BK487.out 0;have hfz47_1:=blk_frozen BK487.out 1)|((with_reducible refine gate_builtin (b := .append) (xs:=#[.tmp 32, .tmp 34]) rfl ?_);(try (refine gate_guard (by rfl) ?_;dsimp only));at_builtin;refine Kd.R_append_rows k52 (w0:=w) w.heap.size rfl (.tmp 32) (.tmp 34) 22 52 (.agg #[(.string ⟨#[]⟩),(.string ⟨#[]⟩)]) 32 rfl Tryd.underlying22 info52 rfl (by decide) (by omega) v493 y492 l0_1 _ _ _ (fun _=>True) (fun _=>False) rfl rfl ?aO ?aR (fun _ _ h=>h) (fun _ h=>h.elim) ?aF ?aB ?aS ?aL ?_;(case aR=>repeat (first|exact (Kd.C_below HR0_1.out HB.out)|(with_reducible refine Kd.C_alloc ?_ _)|(with_reducible refine Kd.C_drewN ?_ _)|(with_reducible refine Kd.C_drew ?_)));(case aB=>exact (by repeat (first|(with_reducible first|exact HB.out|apply below_alloc|apply pw_below_drewN|apply below_drew1|refine below_set ?_ GE487.out|refine below_set ?_ GE488.out)|exact HB.out)));(case aF=>exact (fun _ _=>trivial));(case aO=>exact (by (with_reducible repeat (first|apply Kd.R_alloc|apply Kd.R_drewN|apply Kd.R_drew));exact HO494.out));(case aS=>exact (below_size (by repeat (first|(with_reducible first|exact HB.out|apply below_alloc|apply pw_below_drewN|apply below_drew1|refine below_set ?_ GE487.out|refine below_set ?_ GE488.out)|exact HB.out))));(case aL=>have:=LMc26.out;omega);intro v496 w48 ho hb hg hat;rw [← Ny495.out] at ho;have n0_:=Aside0.mk (blk_grown (g:=gb487) (o := .cells #[.string a0_0, .slice A0_1 l0_1.length c0_1] 41 (0,0)) (by (with_reducible repeat (first|refine blk_drewN ?_ _|refine blk_drew ?_|refine blk_alloc ?_ _));exact BK487.out) hg (Kd.R_ne HO494.out BK487.out (by decide)));have n1_:=Aside0.mk (blk_grown (g:=gb488) (o := .cells #[.string a1_0, .slice A1_1 l1_1.length c1_1] 41 (0,0)) (by (with_reducible repeat (first|refine blk_drewN ?_ _|refine blk_drew ?_|refine blk_alloc ?_ _));exact BK488.out) hg (Kd.R_ne HO494.out BK488.out (by decide)));have n2_:=Aside0.mk (hb);have n3_:=Aside0.mk (ho);clear BK487;clear BK488;clear HB;clear HO494;have BK487:=n0_;have BK488:=n1_;have HB:=n2_;have HO497:=n3_;clear n0_ n1_ n2_ n3_;clear ho hb hg hat;have hcz49_0:w48.cell? ⟨gb487,0,none⟩=some (.string a0_0):=(blk_cell BK487.out 0).trans rfl;have hcz49_1:w48.cell? ⟨gb487,1,none⟩=some (.slice A0_1 l0_1.length c0_1):=(blk_cell BK487.out 1).trans rfl;have hfz49_0:=blk_frozen BK487.out 0;have hfz49_1:=blk_frozen BK487.out 1;obtain ⟨Ao50,co50,eo50⟩:=Kd.R_slice HO497.out;subst eo50)|((with_reducible refine gate_callee (f:=28) rfl ?_);refine goesL_ (some 40) rfl rfl Tryd.func28 (by kernel_rfl) rfl #[.string a0_0, .slice Ao50 y495.length co50] rfl (by (try simp only [List.map_toArray,List.map_cons,List.map_nil]);first|done|rfl|(simp only [List.length_drop,List.length_take];rfl)) ?_;(with_reducible refine (key_Make.calls kj4 a0_0 _ _ y495 t498 t499 t502 _ ?side1 ?side2 A27.out).mono ?_);(case side1=>repeat (first|exact (Kd.R_reads' HO497.out).2.2|(with_reducible refine Kd.C_alloc ?_ _)|(with_reducible refine Kd.C_drewN ?_ _)|(with_reducible refine Kd.C_drew ?_)));(case side2=>exact (Kd.R_reads' HO497.out).2.1);rintro e w51 ⟨v500,rfl,ho0,hb⟩;refine ⟨_,rfl,?_⟩;have n0_:=Aside0.mk (Kd.R_elder' (by (with_reducible repeat (first|apply Kd.R_alloc|apply Kd.R_drewN|apply Kd.R_drew));exact HO497.out) (Kd.R_base ho0) hb);have n1_:=Aside0.mk (Kd.R_lower (Kd.R_new' ho0 (Kd.R_lt (by (with_reducible repeat (first|apply Kd.R_alloc|apply Kd.R_drewN|apply Kd.R_drew));exact HO497.out))) (below_size (by repeat (first|(with_reducible first|exact HB.out|apply below_alloc|apply pw_below_drewN|apply below_drew1|refine below_set ?_ GE487.out|refine below_set ?_ GE488.out)|exact HB.out))));have n2_:=Aside0.mk (blk_below (g:=gb487) (o := .cells #[.string a0_0, .slice A0_1 l0_1.length c0_1] 41 (0,0)) (by (with_reducible repeat (first|refine blk_drewN ?_ _|refine blk_drew ?_|refine blk_alloc ?_ _));exact BK487.out) hb);have n3_:=Aside0.mk (blk_below (g:=gb488) (o := .cells #[.string a1_0, .slice A1_1 l1_1.length c1_1] 41 (0,0)) (by (with_reducible repeat (first|refine blk_drewN ?_ _|refine blk_drew ?_|refine blk_alloc ?_ _));exact BK488.out) hb);have n4_:=Aside0.mk (below_step (by repeat (first|(with_reducible first|exact HB.out|apply below_alloc|apply pw_below_drewN|apply below_drew1|refine below_set ?_ GE487.out|refine below_set ?_ GE488.out)|exact HB.out)) hb);clear HO497;clear BK487;clear BK488;clear HB;have HO497:=n0_;have HO501:=n1_;have BK487:=n2_;have BK488:=n3_;have HB:=n4_;clear n0_ n1_ n2_ n3_ n4_;(try clear hb);(try clear hb2);(try clear hk);(try clear hi);(try clear ho0))|((with_reducible refine gate_dst (N:=6) rfl ?_);(try (refine gate_guard (by rfl) ?_;dsimp only));refine box_event ?hg (N:=6) ?hd (cs:=#[.string (⟨#[]⟩:ByteArray), .slice none 0 0]) (t:=41) ?hr ?_;(case hd=>rfl);(case hg=>rfl);(case hr=>first|(go_simp;done)|(go_simp;rfl));intro gb503 hg w52 hbox hb;have n0_:=Aside0.mk (Kd.R_below (by (with_reducible repeat (first|apply Kd.R_alloc|apply Kd.R_drewN|apply Kd.R_drew));exact HO497.out) hb);have n1_:=Aside0.mk (Kd.R_below (by (with_reducible repeat (first|apply Kd.R_alloc|apply Kd.R_drewN|apply Kd.R_drew));exact HO501.out) hb);have n2_:=Aside0.mk (blk_below (g:=gb487) (o := .cells #[.string a0_0, .slice A0_1 l0_1.length c0_1] 41 (0,0)) (by (with_reducible repeat (first|refine blk_drewN ?_ _|refine blk_drew ?_|refine blk_alloc ?_ _));exact BK487.out) hb);have n3_:=Aside0.mk (blk_below (g:=gb488) (o := .cells #[.string a1_0, .slice A1_1 l1_1.length c1_1] 41 (0,0)) (by (with_reducible repeat (first|refine blk_drewN ?_ _|refine blk_drew ?_|refine blk_alloc ?_ _));exact BK488.out) hb);have n4_:=Aside0.mk (below_step (by repeat (first|(with_reducible first|exact HB.out|apply below_alloc|apply pw_below_drewN|apply below_drew1|refine below_set ?_ GE487.out|refine below_set ?_ GE488.out)|exact HB.out)) hb);have n5_:=Aside0.mk (hbox);have n6_:=Aside0.mk ((by rw [hg];exact (below_size (by repeat (first|(with_reducible first|exact HB.out|apply below_alloc|apply pw_below_drewN|apply below_drew1|refine below_set ?_ GE487.out|refine below_set ?_ GE488.out)|exact HB.out))):w.heap.size≤gb503));have n7_:=Aside0.mk ((by rw [hg];exact (below_size (by repeat (first|(with_reducible first|exact HB.out|apply below_alloc|apply pw_below_drewN|apply below_drew1|refine below_set ?_ GE487.out|refine below_set ?_ GE488.out)|exact HB.out))):w.heap.size≤gb503));have n8_:=Aside0.mk ((by rw [hg];exact Nat.ne_of_lt (blk_lt (g:=gb487) (o := .cells #[.string a0_0, .slice A0_1 l0_1.length c0_1] 41 (0,0)) (by (with_reducible repeat (first|refine blk_drewN ?_ _|refine blk_drew ?_|refine blk_alloc ?_ _));exact BK487.out)):gb487≠gb503));have n9_:=Aside0.mk ((by rw [hg];exact Nat.ne_of_gt (blk_lt (g:=gb487) (o := .cells #[.string a0_0, .slice A0_1 l0_1.length c0_1] 41 (0,0)) (by (with_reducible repeat (first|refine blk_drewN ?_ _|refine blk_drew ?_|refine blk_alloc ?_ _));exact BK487.out)):gb503≠gb487));have n10_:=Aside0.mk ((by rw [hg];exact Nat.ne_of_lt (blk_lt (g:=gb488) (o := .cells #[.string a1_0, .slice A1_1 l1_1.length c1_1] 41 (0,0)) (by (with_reducible repeat (first|refine blk_drewN ?_ _|refine blk_drew ?_|refine blk_alloc ?_ _));exact BK488.out)):gb488≠gb503));have n11_:=Aside0.mk ((by rw [hg];exact Nat.ne_of_gt (blk_lt (g:=gb488) (o := .cells #[.string a1_0, .slice A1_1 l1_1.length c1_1] 41 (0,0)) (by (with_reducible repeat (first|refine blk_drewN ?_ _|refine blk_drew ?_|refine blk_alloc ?_ _));exact BK488.out)):gb503≠gb488));clear HO497;clear HO501;clear BK487;clear BK488;clear HB;have HO497:=n0_;have HO501:=n1_;have BK487:=n2_;have BK488:=n3_;have HB:=n4_;have BK503:=n5_;have GW503:=n6_;have GE503:=n7_;have NB487_503:=n8_;have NB503_487:=n9_;have NB488_503:=n10_;have NB503_488:=n11_;clear n0_ n1_ n2_ n3_ n4_ n5_ n6_ n7_ n8_ n9_ n10_ n11_;clear hb hbox hg;have hnb53:=NB503_487.out;have hnc53:=NB487_503.out;have hnb54:=NB503_488.out;have hnc54:=NB488_503.out;have hcz55_0:w52.cell? ⟨gb503,0,none⟩=some (.string (⟨#[]⟩:ByteArray)):=(blk_cell BK503.out 0).trans rfl;have hcz55_1:w52.cell? ⟨gb503,1,none⟩=some (.slice none 0 0):=(blk_cell BK503.out 1).trans rfl;have hfz55_0:=blk_frozen BK503.out 0;have hfz55_1:=blk_frozen BK503.out 1;obtain ⟨Ao56,co56,eo56⟩:=Kd.R_slice HO501.out;subst eo56;have hcz57_0:w52.cell? ⟨gb487,0,none⟩=some (.string a0_0):=(blk_cell BK487.out 0).trans rfl;have hcz57_1:w52.cell? ⟨gb487,1,none⟩=some (.slice A0_1 l0_1.length c0_1):=(blk_cell BK487.out 1).trans rfl;have hfz57_0:=blk_frozen BK487.out 0;have hfz57_1:=blk_frozen BK487.out 1)|((with_reducible refine gate_callee (f:=29) rfl ?_);refine goesL_ (some 48) rfl rfl Tryd.func29 (by kernel_rfl) rfl #[.string a0_0, .slice A0_1 l0_1.length c0_1] rfl (by (try simp only [List.map_toArray,List.map_cons,List.map_nil]);first|done|rfl|(simp only [List.length_drop,List.length_take];rfl)) ?_;(with_reducible refine (ebbtideref04_Make.calls kj4 a0_0 _ _ l0_1 t504 t505 t508 _ ?side1 ?side2 A28.out).mono ?_);(case side1=>exact Kd.C_below HR0_1.out (by repeat (first|(with_reducible first|exact HB.out|apply below_alloc|apply pw_below_drewN|apply below_drew1|refine below_set ?_ GE487.out|refine below_set ?_ GE488.out|refine below_set ?_ GE503.out)|exact HB.out)));(case side2=>exact HC0_1.out);rintro e w58 ⟨v506,rfl,ho0,hb⟩;refine ⟨_,rfl,?_⟩;have n0_:=Aside0.mk (Kd.R_elder' (by (with_reducible repeat (first|apply Kd.R_alloc|apply Kd.R_drewN|apply Kd.R_drew));exact (Kd.R_mono (Kd.R_far (p:=⟨gb503,1,none⟩) (Kd.R_far (p:=⟨gb503,0,none⟩) (Kd.R_types HO497.out BK503.out (by decide)) (fun _ hk=>hk.2) (.string t498)) (fun _ hk=>hk.2) (.slice Ao56 t499.length co56)) (fun _ h_=>h_.1))) (Kd.R_base ho0) hb);have n1_:=Aside0.mk (Kd.R_elder' (by (with_reducible repeat (first|apply Kd.R_alloc|apply Kd.R_drewN|apply Kd.R_drew));exact (Kd.R_mono (Kd.R_far (p:=⟨gb503,1,none⟩) (Kd.R_far (p:=⟨gb503,0,none⟩) (Kd.R_types HO501.out BK503.out (by decide)) (fun _ hk=>hk.2) (.string t498)) (fun _ hk=>hk.2) (.slice Ao56 t499.length co56)) (fun _ h_=>h_.1))) (Kd.R_base ho0) hb);have n2_:=Aside0.mk (Kd.R_lower (Kd.R_new' (Kd.R_new' ho0 (Kd.R_lt (by (with_reducible repeat (first|apply Kd.R_alloc|apply Kd.R_drewN|apply Kd.R_drew));exact (Kd.R_mono (Kd.R_far (p:=⟨gb503,1,none⟩) (Kd.R_far (p:=⟨gb503,0,none⟩) (Kd.R_types HO497.out BK503.out (by decide)) (fun _ hk=>hk.2) (.string t498)) (fun _ hk=>hk.2) (.slice Ao56 t499.length co56)) (fun _ h_=>h_.1))))) (Kd.R_lt (by (with_reducible repeat (first|apply Kd.R_alloc|apply Kd.R_drewN|apply Kd.R_drew));exact (Kd.R_mono (Kd.R_far (p:=⟨gb503,1,none⟩) (Kd.R_far (p:=⟨gb503,0,none⟩) (Kd.R_types HO501.out BK503.out (by decide)) (fun _ hk=>hk.2) (.string t498)) (fun _ hk=>hk.2) (.slice Ao56 t499.length co56)) (fun _ h_=>h_.1))))) (below_size (by repeat (first|(with_reducible first|exact HB.out|apply below_alloc|apply pw_below_drewN|apply below_drew1|refine below_set ?_ GE487.out|refine below_set ?_ GE488.out|refine below_set ?_ GE503.out)|exact HB.out))));have n3_:=Aside0.mk (blk_below (g:=gb487) (o := .cells #[.string a0_0, .slice A0_1 l0_1.length c0_1] 41 (0,0)) (by (with_reducible repeat (first|refine blk_drewN ?_ _|refine blk_drew ?_|refine blk_alloc ?_ _));refine blk_far ?_ NB487_503.out _;(with_reducible repeat (first|refine blk_drewN ?_ _|refine blk_drew ?_|refine blk_alloc ?_ _));refine blk_far ?_ NB487_503.out _;(with_reducible repeat (first|refine blk_drewN ?_ _|refine blk_drew ?_|refine blk_alloc ?_ _));exact BK487.out) hb);have n4_:=Aside0.mk (blk_below (g:=gb488) (o := .cells #[.string a1_0, .slice A1_1 l1_1.length c1_1] 41 (0,0)) (by (with_reducible repeat (first|refine blk_drewN ?_ _|refine blk_drew ?_|refine blk_alloc ?_ _));refine blk_far ?_ NB488_503.out _;(with_reducible repeat (first|refine blk_drewN ?_ _|refine blk_drew ?_|refine blk_alloc ?_ _));refine blk_far ?_ NB488_503.out _;(with_reducible repeat (first|refine blk_drewN ?_ _|refine blk_drew ?_|refine blk_alloc ?_ _));exact BK488.out) hb);have n5_:=Aside0.mk (blk_below (g:=gb503) (o := .cells #[.string t498, .slice Ao56 t499.length co56] 41 (0,0)) (by (with_reducible repeat (first|refine blk_drewN ?_ _|refine blk_drew ?_|refine blk_alloc ?_ _));refine blk_put (cs:=#[.string t498, .slice none 0 0]) ?_ 1 _ rfl;(with_reducible repeat (first|refine blk_drewN ?_ _|refine blk_drew ?_|refine blk_alloc ?_ _));refine blk_put (cs:=#[.string (⟨#[]⟩:ByteArray), .slice none 0 0]) ?_ 0 _ rfl;(with_reducible repeat (first|refine blk_drewN ?_ _|refine blk_drew ?_|refine blk_alloc ?_ _));exact BK503.out) hb);have n6_:=Aside0.mk (below_step (by repeat (first|(with_reducible first|exact HB.out|apply below_alloc|apply pw_below_drewN|apply below_drew1|refine below_set ?_ GE487.out|refine below_set ?_ GE488.out|refine below_set ?_ GE503.out)|exact HB.out)) hb);clear HO497;clear HO501;clear BK487;clear BK488;clear BK503;clear HB;have HO497:=n0_;have HO501:=n1_;have HO507:=n2_;have BK487:=n3_;have BK488:=n4_;have BK503:=n5_;have HB:=n6_;clear n0_ n1_ n2_ n3_ n4_ n5_ n6_;(try clear hb);(try clear hb2);(try clear hk);(try clear hi);(try clear ho0))|((with_reducible refine gate_dst (N:=8) rfl ?_);(try (refine gate_guard (by rfl) ?_;dsimp only));refine box_event ?hg (N:=8) ?hd (cs:=#[.string (⟨#[]⟩:ByteArray), .slice none 0 0]) (t:=41) ?hr ?_;(case hd=>rfl);(case hg=>rfl);(case hr=>first|(go_simp;done)|(go_simp;rfl));intro gb509 hg w59 hbox hb;have n0_:=Aside0.mk (Kd.R_below (by (with_reducible repeat (first|apply Kd.R_alloc|apply Kd.R_drewN|apply Kd.R_drew));exact HO497.out) hb);have n1_:=Aside0.mk (Kd.R_below (by (with_reducible repeat (first|apply Kd.R_alloc|apply Kd.R_drewN|apply Kd.R_drew));exact HO501.out) hb);have n2_:=Aside0.mk (Kd.R_below (by (with_reducible repeat (first|apply Kd.R_alloc|apply Kd.R_drewN|apply Kd.R_drew));exact HO507.out) hb);have n3_:=Aside0.mk (blk_below (g:=gb487) (o := .cells #[.string a0_0, .slice A0_1 l0_1.length c0_1] 41 (0,0)) (by (with_reducible repeat (first|refine blk_drewN ?_ _|refine blk_drew ?_|refine blk_alloc ?_ _));exact BK487.out) hb);have n4_:=Aside0.mk (blk_below (g:=gb488) (o := .cells #[.string a1_0, .slice A1_1 l1_1.length c1_1] 41 (0,0)) (by (with_reducible repeat (first|refine blk_drewN ?_ _|refine blk_drew ?_|refine blk_alloc ?_ _));exact BK488.out) hb);have n5_:=Aside0.mk (blk_below (g:=gb503) (o := .cells #[.string t498, .slice Ao56 t499.length co56] 41 (0,0)) (by (with_reducible repeat (first|refine blk_drewN ?_ _|refine blk_drew ?_|refine blk_alloc ?_ _));exact BK503.out) hb);have n6_:=Aside0.mk (below_step (by repeat (first|(with_reducible first|exact HB.out|apply below_alloc|apply pw_below_drewN|apply below_drew1|refine below_set ?_ GE487.out|refine below_set ?_ GE488.out|refine below_set ?_ GE503.out)|exact HB.out)) hb);have n7_:=Aside0.mk (hbox);have n8_:=Aside0.mk ((by rw [hg];exact (below_size (by repeat (first|(with_reducible first|exact HB.out|apply below_alloc|apply pw_below_drewN|apply below_drew1|refine below_set ?_ GE487.out|refine below_set ?_ GE488.out|refine below_set ?_ GE503.out)|exact HB.out))):w.heap.size≤gb509));have n9_:=Aside0.mk ((by rw [hg];exact (below_size (by repeat (first|(with_reducible first|exact HB.out|apply below_alloc|apply pw_below_drewN|apply below_drew1|refine below_set ?_ GE487.out|refine below_set ?_ GE488.out|refine below_set ?_ GE503.out)|exact HB.out))):w.heap.size≤gb509));have n10_:=Aside0.mk ((by rw [hg];exact Nat.ne_of_lt (blk_lt (g:=gb487) (o := .cells #[.string a0_0, .slice A0_1 l0_1.length c0_1] 41 (0,0)) (by (with_reducible repeat (first|refine blk_drewN ?_ _|refine blk_drew ?_|refine blk_alloc ?_ _));exact BK487.out)):gb487≠gb509));have n11_:=Aside0.mk ((by rw [hg];exact Nat.ne_of_gt (blk_lt (g:=gb487) (o := .cells #[.string a0_0, .slice A0_1 l0_1.length c0_1] 41 (0,0)) (by (with_reducible repeat (first|refine blk_drewN ?_ _|refine blk_drew ?_|refine blk_alloc ?_ _));exact BK487.out)):gb509≠gb487));have n12_:=Aside0.mk ((by rw [hg];exact Nat.ne_of_lt (blk_lt (g:=gb488) (o := .cells #[.string a1_0, .slice A1_1 l1_1.length c1_1] 41 (0,0)) (by (with_reducible repeat (first|refine blk_drewN ?_ _|refine blk_drew ?_|refine blk_alloc ?_ _));exact BK488.out)):gb488≠gb509));have n13_:=Aside0.mk ((by rw [hg];exact Nat.ne_of_gt (blk_lt (g:=gb488) (o := .cells #[.string a1_0, .slice A1_1 l1_1.length c1_1] 41 (0,0)) (by (with_reducible repeat (first|refine blk_drewN ?_ _|refine blk_drew ?_|refine blk_alloc ?_ _));exact BK488.out)):gb509≠gb488));have n14_:=Aside0.mk ((by rw [hg];exact Nat.ne_of_lt (blk_lt (g:=gb503) (o := .cells #[.string t498, .slice Ao56 t499.length co56] 41 (0,0)) (by (with_reducible repeat (first|refine blk_drewN ?_ _|refine blk_drew ?_|refine blk_alloc ?_ _));exact BK503.out)):gb503≠gb509));have n15_:=Aside0.mk ((by rw [hg];exact Nat.ne_of_gt (blk_lt (g:=gb503) (o := .cells #[.string t498, .slice Ao56 t499.length co56] 41 (0,0)) (by (with_reducible repeat (first|refine blk_drewN ?_ _|refine blk_drew ?_|refine blk_alloc ?_ _));exact BK503.out)):gb509≠gb503));clear HO497;clear HO501;clear HO507;clear BK487;clear BK488;clear BK503;clear HB;have HO497:=n0_;have HO501:=n1_;have HO507:=n2_;have BK487:=n3_;have BK488:=n4_;have BK503:=n5_;have HB:=n6_;have BK509:=n7_;have GW509:=n8_;have GE509:=n9_;have NB487_509:=n10_;have NB509_487:=n11_;have NB488_509:=n12_;have NB509_488:=n13_;have NB503_509:=n14_;have NB509_503:=n15_;clear n0_ n1_ n2_ n3_ n4_ n5_ n6_ n7_ n8_ n9_ n10_ n11_ n12_ n13_ n14_ n15_;clear hb hbox hg;have hnb60:=NB509_487.out;have hnc60:=NB487_509.out;have hnb61:=NB509_488.out;have hnc61:=NB488_509.out;have hnb62:=NB509_503.out;have hnc62:=NB503_509.out;have hcz63_0:w59.cell? ⟨gb509,0,none⟩=some (.string (⟨#[]⟩:ByteArray)):=(blk_cell BK509.out 0).trans rfl;have hcz63_1:w59.cell? ⟨gb509,1,none⟩=some (.slice none 0 0):=(blk_cell BK509.out 1).trans rfl;have hfz63_0:=blk_frozen BK509.out 0;have hfz63_1:=blk_frozen BK509.out 1;obtain ⟨Ao64,co64,eo64⟩:=Kd.R_slice HO507.out;subst eo64))
            have n0_:Aside0 (Kd.R k52 52 ((w59.setCell ⟨gb509,0,none⟩ (.string t504)).setCell ⟨gb509,1,none⟩ (.slice Ao64 t505.length co64)) w.heap.size (fun k_=>some k_≠(.slice Ao56 t499.length co56:Value).ownBlock∧some k_≠(.slice Ao64 t505.length co64:Value).ownBlock) (.slice Ao50 y495.length co50) y495):=⟨by (with_reducible repeat (first|apply Kd.R_alloc|apply Kd.R_drewN|apply Kd.R_drew));exact Kd.R_mono (Kd.R_far (p:=⟨gb509,1,none⟩) (Kd.R_far (p:=⟨gb509,0,none⟩) (Kd.R_types HO497.out BK509.out (by decide)) (fun _ hk=>hk.2) (.string t504)) (fun _ hk=>hk.2) (.slice Ao64 t505.length co64)) (fun _ hk=>⟨hk.1.1.2,hk.1.2⟩)⟩
            have n1_:Aside0 (Kd.R k52 52 ((w59.setCell ⟨gb509,0,none⟩ (.string t504)).setCell ⟨gb509,1,none⟩ (.slice Ao64 t505.length co64)) w.heap.size (fun k_=>some k_≠(.slice Ao50 y495.length co50:Value).ownBlock∧some k_≠(.slice Ao64 t505.length co64:Value).ownBlock) (.slice Ao56 t499.length co56) t499):=⟨by (with_reducible repeat (first|apply Kd.R_alloc|apply Kd.R_drewN|apply Kd.R_drew));exact Kd.R_mono (Kd.R_far (p:=⟨gb509,1,none⟩) (Kd.R_far (p:=⟨gb509,0,none⟩) (Kd.R_types HO501.out BK509.out (by decide)) (fun _ hk=>hk.2) (.string t504)) (fun _ hk=>hk.2) (.slice Ao64 t505.length co64)) (fun _ hk=>⟨hk.1.1.2,hk.1.2⟩)⟩
            have n2_:Aside0 (Kd.R k52 52 ((w59.setCell ⟨gb509,0,none⟩ (.string t504)).setCell ⟨gb509,1,none⟩ (.slice Ao64 t505.length co64)) w.heap.size (fun k_=>some k_≠(.slice Ao50 y495.length co50:Value).ownBlock∧some k_≠(.slice Ao56 t499.length co56:Value).ownBlock) (.slice Ao64 t505.length co64) t505):=⟨by (with_reducible repeat (first|apply Kd.R_alloc|apply Kd.R_drewN|apply Kd.R_drew));exact Kd.R_mono (Kd.R_far (p:=⟨gb509,1,none⟩) (Kd.R_far (p:=⟨gb509,0,none⟩) (Kd.R_types HO507.out BK509.out (by decide)) (fun _ hk=>hk.2) (.string t504)) (fun _ hk=>hk.2) (.slice Ao64 t505.length co64)) (fun _ hk=>⟨hk.1.1.2,hk.1.2⟩)⟩
            have n3_:Aside0 (((w59.setCell ⟨gb509,0,none⟩ (.string t504)).setCell ⟨gb509,1,none⟩ (.slice Ao64 t505.length co64)).heap[gb487]?=some (.cells #[.string a0_0, .slice A0_1 l0_1.length c0_1] 41 (0,0))):=⟨by (with_reducible repeat (first|refine blk_drewN ?_ _|refine blk_drew ?_|refine blk_alloc ?_ _));refine blk_far ?_ NB487_509.out _;(with_reducible repeat (first|refine blk_drewN ?_ _|refine blk_drew ?_|refine blk_alloc ?_ _));refine blk_far ?_ NB487_509.out _;(with_reducible repeat (first|refine blk_drewN ?_ _|refine blk_drew ?_|refine blk_alloc ?_ _));exact BK487.out⟩
            have n4_:Aside0 (((w59.setCell ⟨gb509,0,none⟩ (.string t504)).setCell ⟨gb509,1,none⟩ (.slice Ao64 t505.length co64)).heap[gb488]?=some (.cells #[.string a1_0, .slice A1_1 l1_1.length c1_1] 41 (0,0))):=⟨by (with_reducible repeat (first|refine blk_drewN ?_ _|refine blk_drew ?_|refine blk_alloc ?_ _));refine blk_far ?_ NB488_509.out _;(with_reducible repeat (first|refine blk_drewN ?_ _|refine blk_drew ?_|refine blk_alloc ?_ _));refine blk_far ?_ NB488_509.out _;(with_reducible repeat (first|refine blk_drewN ?_ _|refine blk_drew ?_|refine blk_alloc ?_ _));exact BK488.out⟩
            have n5_:Aside0 (((w59.setCell ⟨gb509,0,none⟩ (.string t504)).setCell ⟨gb509,1,none⟩ (.slice Ao64 t505.length co64)).heap[gb503]?=some (.cells #[.string t498, .slice Ao56 t499.length co56] 41 (0,0))):=⟨by (with_reducible repeat (first|refine blk_drewN ?_ _|refine blk_drew ?_|refine blk_alloc ?_ _));refine blk_far ?_ NB503_509.out _;(with_reducible repeat (first|refine blk_drewN ?_ _|refine blk_drew ?_|refine blk_alloc ?_ _));refine blk_far ?_ NB503_509.out _;(with_reducible repeat (first|refine blk_drewN ?_ _|refine blk_drew ?_|refine blk_alloc ?_ _));exact BK503.out⟩
            have n6_:Aside0 (((w59.setCell ⟨gb509,0,none⟩ (.string t504)).setCell ⟨gb509,1,none⟩ (.slice Ao64 t505.length co64)).heap[gb509]?=some (.cells #[.string t504, .slice Ao64 t505.length co64] 41 (0,0))):=⟨by (with_reducible repeat (first|refine blk_drewN ?_ _|refine blk_drew ?_|refine blk_alloc ?_ _));refine blk_put (cs:=#[.string t504, .slice none 0 0]) ?_ 1 _ rfl;(with_reducible repeat (first|refine blk_drewN ?_ _|refine blk_drew ?_|refine blk_alloc ?_ _));refine blk_put (cs:=#[.string (⟨#[]⟩:ByteArray), .slice none 0 0]) ?_ 0 _ rfl;(with_reducible repeat (first|refine blk_drewN ?_ _|refine blk_drew ?_|refine blk_alloc ?_ _));exact BK509.out⟩
            have n7_:Aside0 (Below w.heap.size w ((w59.setCell ⟨gb509,0,none⟩ (.string t504)).setCell ⟨gb509,1,none⟩ (.slice Ao64 t505.length co64))):=⟨by repeat (first|(with_reducible first|exact HB.out|apply below_alloc|apply pw_below_drewN|apply below_drew1|refine below_set ?_ GE487.out|refine below_set ?_ GE488.out|refine below_set ?_ GE503.out|refine below_set ?_ GE509.out)|exact HB.out)⟩
            (try clear HO497)
            (try clear HO501)
            (try clear HO507)
            (try clear BK487)
            (try clear BK488)
            (try clear BK503)
            (try clear BK509)
            (try clear HB)
            generalize ((w59.setCell ⟨gb509,0,none⟩ (.string t504)).setCell ⟨gb509,1,none⟩ (.slice Ao64 t505.length co64))=w65 at n0_ n1_ n2_ n3_ n4_ n5_ n6_ n7_ ⊢
            have HO497:=n0_
            have HO501:=n1_
            have HO507:=n2_
            have BK487:=n3_
            have BK488:=n4_
            have BK503:=n5_
            have BK509:=n6_
            have HB:=n7_
            clear n0_ n1_ n2_ n3_ n4_ n5_ n6_ n7_
            have n0_:=Aside0.mk (Kd.R_drew HO497.out)
            have n1_:=Aside0.mk (Kd.R_drew HO501.out)
            have n2_:=Aside0.mk (Kd.R_drew HO507.out)
            have n3_:=Aside0.mk (blk_drew BK487.out)
            have n4_:=Aside0.mk (blk_drew BK488.out)
            have n5_:=Aside0.mk (blk_drew BK503.out)
            have n6_:=Aside0.mk (blk_drew BK509.out)
            have n7_:=Aside0.mk (below_drew1 HB.out)
            clear HO497
            clear HO501
            clear HO507
            clear BK487
            clear BK488
            clear BK503
            clear BK509
            clear HB
            have HO497:=n0_
            have HO501:=n1_
            have HO507:=n2_
            have BK487:=n3_
            have BK488:=n4_
            have BK503:=n5_
            have BK509:=n6_
            have HB:=n7_
            clear n0_ n1_ n2_ n3_ n4_ n5_ n6_ n7_
            refine start_ (n:=43) (S:=fun w'=>w'.cell? ⟨gb503,0,none⟩=some (.string t498)∧w'.cell? ⟨gb503,1,none⟩=some (.slice Ao56 t499.length co56)∧w'.cell? ⟨gb509,0,none⟩=some (.string t504)∧w'.cell? ⟨gb509,1,none⟩=some (.slice Ao64 t505.length co64)∧w'.cell? ⟨gb487,0,none⟩=some (.string a0_0)∧w'.cell? ⟨gb487,1,none⟩=some (.slice A0_1 l0_1.length c0_1)∧w'.cell? ⟨gb488,0,none⟩=some (.string a1_0)∧w'.cell? ⟨gb488,1,none⟩=some (.slice A1_1 l1_1.length c1_1)) (ds:=[]) #[false,false,false,false,false,false,false,false,false,false,false,false,false,false,false,false,false,false,false,false,false,false,false,false,false,false,false,false,false,false,false,false,false,false,false,false,false,false,false,false,false,false,false] (by kernel_rfl) rfl rfl ⟨(blk_cell BK503.out 0).trans rfl,(blk_cell BK503.out 1).trans rfl,(blk_cell BK509.out 0).trans rfl,(blk_cell BK509.out 1).trans rfl,(blk_cell BK487.out 0).trans rfl,(blk_cell BK487.out 1).trans rfl,(blk_cell BK488.out 0).trans rfl,(blk_cell BK488.out 1).trans rfl⟩ (fun hHeld=>?_);refine with_tabW ebbtidelaw04_KeyTells.tab8 ebbtidelaw04_KeyTells.bits8 (fun HT_ HW_=>?_)
            generalize w65.drew=w66 at HO497 HO501 HO507 BK487 BK488 BK503 BK509 HB hHeld ⊢
            refine take_ (i:=0) (N:=some 51) (v:=?_) (a':=?_) #[true,false,false,false,false,false,false,false,false,false,false,false,false,false,false,false,false,false,false,false,false,false,false,false,false,false,false,false,false,false,false,false,false,false,false,false,false,false,false,false,false,false,false] rfl rfl (take_ofW HT_.out HW_.out (by kernel_rfl)) (fun _ _ _ h=>h) (Or.inl ⟨by rfl,?_⟩) hHeld ?_ ?_
            rotate_left
            ·rintro w' ⟨s0,s1,s2,s3,s4,s5,s6,s7⟩;go_simp;with_reducible rfl
            rotate_left
            ·simp only [Act.put,List.setIfInBounds_toArray,List.set_cons_zero,List.set_cons_succ,i64_w,i32_w];rfl
            refine take_ (i:=1) (N:=some 52) (v:=?_) (a':=?_) #[true,true,false,false,false,false,false,false,false,false,false,false,false,false,false,false,false,false,false,false,false,false,false,false,false,false,false,false,false,false,false,false,false,false,false,false,false,false,false,false,false,false,false] rfl rfl (take_ofW HT_.out HW_.out (by kernel_rfl)) (fun _ _ _ h=>h) (Or.inl ⟨by rfl,?_⟩) hHeld ?_ ?_
            rotate_left
            ·rintro w' ⟨s0,s1,s2,s3,s4,s5,s6,s7⟩;go_simp;with_reducible rfl
            rotate_left
            ·simp only [Act.put,List.setIfInBounds_toArray,List.set_cons_zero,List.set_cons_succ,i64_w,i32_w];rfl
            refine one_ (i:=2) (N:=some 53) #[true,true,true,false,false,false,false,false,false,false,false,false,false,false,false,false,false,false,false,false,false,false,false,false,false,false,false,false,false,false,false,false,false,false,false,false,false,false,false,false,false,false,false] rfl rfl (one_of HT_.out (by kernel_rfl)) (by decide) (fun K hK=>?_)
            refine goes_ Tryd.func30 (by kernel_rfl) rfl #[.agg #[.string t498, .slice Ao56 t499.length co56], .agg #[.string t504, .slice Ao64 t505.length co64]] (by rfl) rfl rfl (by (try simp only [List.map_toArray,List.map_cons,List.map_nil]);first|done|rfl|(simp only [List.length_drop,List.length_take];rfl)) ?_
            with_reducible refine (ebbtideref04_Same.calls kj4 t498 _ _ t499 t504 _ _ t505 true _ ?side1 ?side2 ?side3 ?side4 A29.out).mono ?_
            (case side1=>repeat (first|exact (Kd.R_reads' HO501.out).2.2|(with_reducible refine Kd.C_alloc ?_ _)|(with_reducible refine Kd.C_drewN ?_ _)|(with_reducible refine Kd.C_drew ?_)))
            (case side2=>exact (Kd.R_reads' HO501.out).2.1)
            (case side3=>repeat (first|exact (Kd.R_reads' HO507.out).2.2|(with_reducible refine Kd.C_alloc ?_ _)|(with_reducible refine Kd.C_drewN ?_ _)|(with_reducible refine Kd.C_drew ?_)))
            (case side4=>exact (Kd.R_reads' HO507.out).2.1)
            rintro e w67 ⟨rfl,hb⟩
            refine ⟨_,rfl,?_⟩
            have n0_:=Aside0.mk (Kd.R_below (by (with_reducible repeat (first|apply Kd.R_alloc|apply Kd.R_drewN|apply Kd.R_drew));exact HO497.out) hb)
            have n1_:=Aside0.mk (Kd.R_below (by (with_reducible repeat (first|apply Kd.R_alloc|apply Kd.R_drewN|apply Kd.R_drew));exact HO501.out) hb)
            have n2_:=Aside0.mk (Kd.R_below (by (with_reducible repeat (first|apply Kd.R_alloc|apply Kd.R_drewN|apply Kd.R_drew));exact HO507.out) hb)
            have n3_:=Aside0.mk (blk_below (g:=gb487) (o := .cells #[.string a0_0, .slice A0_1 l0_1.length c0_1] 41 (0,0)) (by (with_reducible repeat (first|refine blk_drewN ?_ _|refine blk_drew ?_|refine blk_alloc ?_ _));exact BK487.out) hb)
            have n4_:=Aside0.mk (blk_below (g:=gb488) (o := .cells #[.string a1_0, .slice A1_1 l1_1.length c1_1] 41 (0,0)) (by (with_reducible repeat (first|refine blk_drewN ?_ _|refine blk_drew ?_|refine blk_alloc ?_ _));exact BK488.out) hb)
            have n5_:=Aside0.mk (blk_below (g:=gb503) (o := .cells #[.string t498, .slice Ao56 t499.length co56] 41 (0,0)) (by (with_reducible repeat (first|refine blk_drewN ?_ _|refine blk_drew ?_|refine blk_alloc ?_ _));exact BK503.out) hb)
            have n6_:=Aside0.mk (blk_below (g:=gb509) (o := .cells #[.string t504, .slice Ao64 t505.length co64] 41 (0,0)) (by (with_reducible repeat (first|refine blk_drewN ?_ _|refine blk_drew ?_|refine blk_alloc ?_ _));exact BK509.out) hb)
            have n7_:=Aside0.mk (below_step (by repeat (first|(with_reducible first|exact HB.out|apply below_alloc|apply pw_below_drewN|apply below_drew1|refine below_set ?_ GE487.out|refine below_set ?_ GE488.out|refine below_set ?_ GE503.out|refine below_set ?_ GE509.out)|exact HB.out)) hb)
            clear HO497
            clear HO501
            clear HO507
            clear BK487
            clear BK488
            clear BK503
            clear BK509
            clear HB
            have HO497:=n0_
            have HO501:=n1_
            have HO507:=n2_
            have BK487:=n3_
            have BK488:=n4_
            have BK503:=n5_
            have BK509:=n6_
            have HB:=n7_
            clear n0_ n1_ n2_ n3_ n4_ n5_ n6_ n7_
            (try clear hb)
            (try clear hb2)
            (try clear hk)
            (try clear hi)
            refine hK.out _ _ ⟨(blk_cell BK503.out 0).trans rfl,(blk_cell BK503.out 1).trans rfl,(blk_cell BK509.out 0).trans rfl,(blk_cell BK509.out 1).trans rfl,(blk_cell BK487.out 0).trans rfl,(blk_cell BK487.out 1).trans rfl,(blk_cell BK488.out 0).trans rfl,(blk_cell BK488.out 1).trans rfl⟩ (fun hHeld=>?_)
            clear hK K
            refine norm_ (a':=?_) ?_ ?_
            rotate_left
            ·show Act.put _ (some 53) _=_
             simp only [Act.put,List.setIfInBounds_toArray,List.set_cons_zero,List.set_cons_succ,i64_w,i32_w]
             rfl
            refine pure_ (i:=3) (N:=some 54) (v:=?_) (a':=?_) #[true,true,true,true,false,false,false,false,false,false,false,false,false,false,false,false,false,false,false,false,false,false,false,false,false,false,false,false,false,false,false,false,false,false,false,false,false,false,false,false,false,false,false] rfl rfl (any_of HT_.out (by kernel_rfl)) (fun _ _ _ h=>h) (Or.inl ⟨by rfl,?_⟩) ?_ ?_
            rotate_left
            ·intro w';go_simp;with_reducible rfl
            rotate_left
            ·simp only [Act.put,List.setIfInBounds_toArray,List.set_cons_zero,List.set_cons_succ,i64_w,i32_w];rfl
            refine pure_ (i:=4) (N:=some 55) (v:=?_) (a':=?_) #[true,true,true,true,true,false,false,false,false,false,false,false,false,false,false,false,false,false,false,false,false,false,false,false,false,false,false,false,false,false,false,false,false,false,false,false,false,false,false,false,false,false,false] rfl rfl (any_of HT_.out (by kernel_rfl)) (fun _ _ _ h=>h) (Or.inl ⟨by rfl,?_⟩) ?_ ?_
            rotate_left
            ·intro w';go_simp;with_reducible rfl
            rotate_left
            ·simp only [Act.put,List.setIfInBounds_toArray,List.set_cons_zero,List.set_cons_succ,i64_w,i32_w];rfl
            refine pure_ (i:=5) (N:=some 56) (v:=?_) (a':=?_) #[true,true,true,true,true,true,false,false,false,false,false,false,false,false,false,false,false,false,false,false,false,false,false,false,false,false,false,false,false,false,false,false,false,false,false,false,false,false,false,false,false,false,false] rfl rfl (any_of HT_.out (by kernel_rfl)) (fun _ _ _ h=>h) (Or.inl ⟨by rfl,?_⟩) ?_ ?_
            rotate_left
            ·intro w';go_simp;with_reducible rfl
            rotate_left
            ·simp only [Act.put,List.setIfInBounds_toArray,List.set_cons_zero,List.set_cons_succ,i64_w,i32_w];rfl
            refine pure_ (i:=6) (N:=some 57) (v:=?_) (a':=?_) #[true,true,true,true,true,true,true,false,false,false,false,false,false,false,false,false,false,false,false,false,false,false,false,false,false,false,false,false,false,false,false,false,false,false,false,false,false,false,false,false,false,false,false] rfl rfl (any_of HT_.out (by kernel_rfl)) (fun _ _ _ h=>h) (Or.inl ⟨by rfl,?_⟩) ?_ ?_
            rotate_left
            ·intro w';go_simp;with_reducible rfl
            rotate_left
            ·simp only [Act.put,List.setIfInBounds_toArray,List.set_cons_zero,List.set_cons_succ,i64_w,i32_w];rfl
            refine pure_ (i:=7) (N:=some 58) (v:=?_) (a':=?_) #[true,true,true,true,true,true,true,true,false,false,false,false,false,false,false,false,false,false,false,false,false,false,false,false,false,false,false,false,false,false,false,false,false,false,false,false,false,false,false,false,false,false,false] rfl rfl (any_of HT_.out (by kernel_rfl)) (fun _ _ _ h=>h) (Or.inl ⟨by rfl,?_⟩) ?_ ?_
            rotate_left
            ·intro w';go_simp;with_reducible rfl
            rotate_left
            ·simp only [Act.put,List.setIfInBounds_toArray,List.set_cons_zero,List.set_cons_succ,i64_w,i32_w];rfl
            refine pure_ (i:=8) (N:=some 59) (v:=?_) (a':=?_) #[true,true,true,true,true,true,true,true,true,false,false,false,false,false,false,false,false,false,false,false,false,false,false,false,false,false,false,false,false,false,false,false,false,false,false,false,false,false,false,false,false,false,false] rfl rfl (any_of HT_.out (by kernel_rfl)) (fun _ _ _ h=>h) (Or.inl ⟨by rfl,?_⟩) ?_ ?_
            rotate_left
            ·intro w';go_simp;with_reducible rfl
            rotate_left
            ·simp only [Act.put,List.setIfInBounds_toArray,List.set_cons_zero,List.set_cons_succ,i64_w,i32_w];rfl
            refine take_ (i:=9) (N:=some 60) (v:=?_) (a':=?_) #[true,true,true,true,true,true,true,true,true,true,false,false,false,false,false,false,false,false,false,false,false,false,false,false,false,false,false,false,false,false,false,false,false,false,false,false,false,false,false,false,false,false,false] rfl rfl (take_ofW HT_.out HW_.out (by kernel_rfl)) (fun _ _ _ h=>h) (Or.inl ⟨by rfl,?_⟩) hHeld ?_ ?_
            rotate_left
            ·rintro w' ⟨s0,s1,s2,s3,s4,s5,s6,s7⟩;go_simp;with_reducible rfl
            rotate_left
            ·simp only [Act.put,List.setIfInBounds_toArray,List.set_cons_zero,List.set_cons_succ,i64_w,i32_w];rfl
            refine take_ (i:=11) (N:=some 62) (v:=?_) (a':=?_) #[true,true,true,true,true,true,true,true,true,true,false,true,false,false,false,false,false,false,false,false,false,false,false,false,false,false,false,false,false,false,false,false,false,false,false,false,false,false,false,false,false,false,false] rfl rfl (take_ofW HT_.out HW_.out (by kernel_rfl)) (fun _ _ _ h=>h) (Or.inl ⟨by rfl,?_⟩) hHeld ?_ ?_
            rotate_left
            ·rintro w' ⟨s0,s1,s2,s3,s4,s5,s6,s7⟩;go_simp;with_reducible rfl
            rotate_left
            ·simp only [Act.put,List.setIfInBounds_toArray,List.set_cons_zero,List.set_cons_succ,i64_w,i32_w];rfl
            refine one_ (i:=10) (N:=some 61) #[true,true,true,true,true,true,true,true,true,true,true,true,false,false,false,false,false,false,false,false,false,false,false,false,false,false,false,false,false,false,false,false,false,false,false,false,false,false,false,false,false,false,false] rfl rfl (one_of HT_.out (by kernel_rfl)) (by decide) (fun K hK=>?_)
            refine goes_ Tryd.func31 (by kernel_rfl) rfl #[.agg #[.string a0_0, .slice A0_1 l0_1.length c0_1]] (by rfl) rfl rfl (by (try simp only [List.map_toArray,List.map_cons,List.map_nil]);first|done|rfl|(simp only [List.length_drop,List.length_take];rfl)) ?_
            with_reducible refine (key_Right.calls kj4 a0_0 _ _ l0_1 t511 _ ?side1 ?side2 A32.out).mono ?_
            (case side1=>repeat (first|exact (Kd.C_below HR0_1.out HB.out)|(with_reducible refine Kd.C_alloc ?_ _)|(with_reducible refine Kd.C_drewN ?_ _)|(with_reducible refine Kd.C_drew ?_)))
            (case side2=>exact HC0_1.out)
            rintro e w68 ⟨rfl,hb⟩
            refine ⟨_,rfl,?_⟩
            have n0_:=Aside0.mk (Kd.R_below (by (with_reducible repeat (first|apply Kd.R_alloc|apply Kd.R_drewN|apply Kd.R_drew));exact HO497.out) hb)
            have n1_:=Aside0.mk (Kd.R_below (by (with_reducible repeat (first|apply Kd.R_alloc|apply Kd.R_drewN|apply Kd.R_drew));exact HO501.out) hb)
            have n2_:=Aside0.mk (Kd.R_below (by (with_reducible repeat (first|apply Kd.R_alloc|apply Kd.R_drewN|apply Kd.R_drew));exact HO507.out) hb)
            have n3_:=Aside0.mk (blk_below (g:=gb487) (o := .cells #[.string a0_0, .slice A0_1 l0_1.length c0_1] 41 (0,0)) (by (with_reducible repeat (first|refine blk_drewN ?_ _|refine blk_drew ?_|refine blk_alloc ?_ _));exact BK487.out) hb)
            have n4_:=Aside0.mk (blk_below (g:=gb488) (o := .cells #[.string a1_0, .slice A1_1 l1_1.length c1_1] 41 (0,0)) (by (with_reducible repeat (first|refine blk_drewN ?_ _|refine blk_drew ?_|refine blk_alloc ?_ _));exact BK488.out) hb)
            have n5_:=Aside0.mk (blk_below (g:=gb503) (o := .cells #[.string t498, .slice Ao56 t499.length co56] 41 (0,0)) (by (with_reducible repeat (first|refine blk_drewN ?_ _|refine blk_drew ?_|refine blk_alloc ?_ _));exact BK503.out) hb)
            have n6_:=Aside0.mk (blk_below (g:=gb509) (o := .cells #[.string t504, .slice Ao64 t505.length co64] 41 (0,0)) (by (with_reducible repeat (first|refine blk_drewN ?_ _|refine blk_drew ?_|refine blk_alloc ?_ _));exact BK509.out) hb)
            have n7_:=Aside0.mk (below_step (by repeat (first|(with_reducible first|exact HB.out|apply below_alloc|apply pw_below_drewN|apply below_drew1|refine below_set ?_ GE487.out|refine below_set ?_ GE488.out|refine below_set ?_ GE503.out|refine below_set ?_ GE509.out)|exact HB.out)) hb)
            clear HO497
            clear HO501
            clear HO507
            clear BK487
            clear BK488
            clear BK503
            clear BK509
            clear HB
            have HO497:=n0_
            have HO501:=n1_
            have HO507:=n2_
            have BK487:=n3_
            have BK488:=n4_
            have BK503:=n5_
            have BK509:=n6_
            have HB:=n7_
            clear n0_ n1_ n2_ n3_ n4_ n5_ n6_ n7_
            (try clear hb)
            (try clear hb2)
            (try clear hk)
            (try clear hi)
            refine hK.out _ _ ⟨(blk_cell BK503.out 0).trans rfl,(blk_cell BK503.out 1).trans rfl,(blk_cell BK509.out 0).trans rfl,(blk_cell BK509.out 1).trans rfl,(blk_cell BK487.out 0).trans rfl,(blk_cell BK487.out 1).trans rfl,(blk_cell BK488.out 0).trans rfl,(blk_cell BK488.out 1).trans rfl⟩ (fun hHeld=>?_)
            clear hK K
            refine norm_ (a':=?_) ?_ ?_
            rotate_left
            ·show Act.put _ (some 61) _=_
             simp only [Act.put,List.setIfInBounds_toArray,List.set_cons_zero,List.set_cons_succ,i64_w,i32_w]
             rfl
            refine one_ (i:=12) (N:=some 63) #[true,true,true,true,true,true,true,true,true,true,true,true,true,false,false,false,false,false,false,false,false,false,false,false,false,false,false,false,false,false,false,false,false,false,false,false,false,false,false,false,false,false,false] rfl rfl (one_of HT_.out (by kernel_rfl)) (by decide) (fun K hK=>?_)
            refine goes_ Tryd.func32 (by kernel_rfl) rfl #[.agg #[.string a0_0, .slice A0_1 l0_1.length c0_1]] (by rfl) rfl rfl (by (try simp only [List.map_toArray,List.map_cons,List.map_nil]);first|done|rfl|(simp only [List.length_drop,List.length_take];rfl)) ?_
            with_reducible refine (ebbtideref04_Right.calls kj4 a0_0 _ _ l0_1 t512 _ ?side1 ?side2 A33.out).mono ?_
            (case side1=>repeat (first|exact (Kd.C_below HR0_1.out HB.out)|(with_reducible refine Kd.C_alloc ?_ _)|(with_reducible refine Kd.C_drewN ?_ _)|(with_reducible refine Kd.C_drew ?_)))
            (case side2=>exact HC0_1.out)
            rintro e w69 ⟨rfl,hb⟩
            refine ⟨_,rfl,?_⟩
            have n0_:=Aside0.mk (Kd.R_below (by (with_reducible repeat (first|apply Kd.R_alloc|apply Kd.R_drewN|apply Kd.R_drew));exact HO497.out) hb)
            have n1_:=Aside0.mk (Kd.R_below (by (with_reducible repeat (first|apply Kd.R_alloc|apply Kd.R_drewN|apply Kd.R_drew));exact HO501.out) hb)
            have n2_:=Aside0.mk (Kd.R_below (by (with_reducible repeat (first|apply Kd.R_alloc|apply Kd.R_drewN|apply Kd.R_drew));exact HO507.out) hb)
            have n3_:=Aside0.mk (blk_below (g:=gb487) (o := .cells #[.string a0_0, .slice A0_1 l0_1.length c0_1] 41 (0,0)) (by (with_reducible repeat (first|refine blk_drewN ?_ _|refine blk_drew ?_|refine blk_alloc ?_ _));exact BK487.out) hb)
            have n4_:=Aside0.mk (blk_below (g:=gb488) (o := .cells #[.string a1_0, .slice A1_1 l1_1.length c1_1] 41 (0,0)) (by (with_reducible repeat (first|refine blk_drewN ?_ _|refine blk_drew ?_|refine blk_alloc ?_ _));exact BK488.out) hb)
            have n5_:=Aside0.mk (blk_below (g:=gb503) (o := .cells #[.string t498, .slice Ao56 t499.length co56] 41 (0,0)) (by (with_reducible repeat (first|refine blk_drewN ?_ _|refine blk_drew ?_|refine blk_alloc ?_ _));exact BK503.out) hb)
            have n6_:=Aside0.mk (blk_below (g:=gb509) (o := .cells #[.string t504, .slice Ao64 t505.length co64] 41 (0,0)) (by (with_reducible repeat (first|refine blk_drewN ?_ _|refine blk_drew ?_|refine blk_alloc ?_ _));exact BK509.out) hb)
            have n7_:=Aside0.mk (below_step (by repeat (first|(with_reducible first|exact HB.out|apply below_alloc|apply pw_below_drewN|apply below_drew1|refine below_set ?_ GE487.out|refine below_set ?_ GE488.out|refine below_set ?_ GE503.out|refine below_set ?_ GE509.out)|exact HB.out)) hb)
            clear HO497
            clear HO501
            clear HO507
            clear BK487
            clear BK488
            clear BK503
            clear BK509
            clear HB
            have HO497:=n0_
            have HO501:=n1_
            have HO507:=n2_
            have BK487:=n3_
            have BK488:=n4_
            have BK503:=n5_
            have BK509:=n6_
            have HB:=n7_
            clear n0_ n1_ n2_ n3_ n4_ n5_ n6_ n7_
            (try clear hb)
            (try clear hb2)
            (try clear hk)
            (try clear hi)
            refine hK.out _ _ ⟨(blk_cell BK503.out 0).trans rfl,(blk_cell BK503.out 1).trans rfl,(blk_cell BK509.out 0).trans rfl,(blk_cell BK509.out 1).trans rfl,(blk_cell BK487.out 0).trans rfl,(blk_cell BK487.out 1).trans rfl,(blk_cell BK488.out 0).trans rfl,(blk_cell BK488.out 1).trans rfl⟩ (fun hHeld=>?_)
            clear hK K
            refine norm_ (a':=?_) ?_ ?_
            rotate_left
            ·show Act.put _ (some 63) _=_
             simp only [Act.put,List.setIfInBounds_toArray,List.set_cons_zero,List.set_cons_succ,i64_w,i32_w]
             rfl
            refine pure_ (i:=13) (N:=some 64) (v:=?_) (a':=?_) #[true,true,true,true,true,true,true,true,true,true,true,true,true,true,false,false,false,false,false,false,false,false,false,false,false,false,false,false,false,false,false,false,false,false,false,false,false,false,false,false,false,false,false] rfl rfl (any_of HT_.out (by kernel_rfl)) (fun _ _ _ h=>h) (Or.inl ⟨by rfl,?_⟩) ?_ ?_
            rotate_left
            ·intro w';go_simp;with_reducible rfl
            rotate_left
            ·simp only [Act.put,List.setIfInBounds_toArray,List.set_cons_zero,List.set_cons_succ,i64_w,i32_w];rfl
            refine pure_ (i:=14) (N:=some 65) (v:=?_) (a':=?_) #[true,true,true,true,true,true,true,true,true,true,true,true,true,true,true,false,false,false,false,false,false,false,false,false,false,false,false,false,false,false,false,false,false,false,false,false,false,false,false,false,false,false,false] rfl rfl (any_of HT_.out (by kernel_rfl)) (fun _ _ _ h=>h) (Or.inl ⟨by rfl,?_⟩) ?_ ?_
            rotate_left
            ·intro w';go_simp;with_reducible rfl
            rotate_left
            ·simp only [Act.put,List.setIfInBounds_toArray,List.set_cons_zero,List.set_cons_succ,i64_w,i32_w];rfl
            refine pure_ (i:=15) (N:=some 66) (v:=?_) (a':=?_) #[true,true,true,true,true,true,true,true,true,true,true,true,true,true,true,true,false,false,false,false,false,false,false,false,false,false,false,false,false,false,false,false,false,false,false,false,false,false,false,false,false,false,false] rfl rfl (any_of HT_.out (by kernel_rfl)) (fun _ _ _ h=>h) (Or.inl ⟨by rfl,?_⟩) ?_ ?_
            rotate_left
            ·intro w';go_simp;with_reducible rfl
            rotate_left
            ·simp only [Act.put,List.setIfInBounds_toArray,List.set_cons_zero,List.set_cons_succ,i64_w,i32_w];rfl
            refine take_ (i:=16) (N:=some 67) (v:=?_) (a':=?_) #[true,true,true,true,true,true,true,true,true,true,true,true,true,true,true,true,true,false,false,false,false,false,false,false,false,false,false,false,false,false,false,false,false,false,false,false,false,false,false,false,false,false,false] rfl rfl (take_ofW HT_.out HW_.out (by kernel_rfl)) (fun _ _ _ h=>h) (Or.inl ⟨by rfl,?_⟩) hHeld ?_ ?_
            rotate_left
            ·rintro w' ⟨s0,s1,s2,s3,s4,s5,s6,s7⟩;go_simp;with_reducible rfl
            rotate_left
            ·simp only [Act.put,List.setIfInBounds_toArray,List.set_cons_zero,List.set_cons_succ,i64_w,i32_w];rfl
            refine take_ (i:=18) (N:=some 69) (v:=?_) (a':=?_) #[true,true,true,true,true,true,true,true,true,true,true,true,true,true,true,true,true,false,true,false,false,false,false,false,false,false,false,false,false,false,false,false,false,false,false,false,false,false,false,false,false,false,false] rfl rfl (take_ofW HT_.out HW_.out (by kernel_rfl)) (fun _ _ _ h=>h) (Or.inl ⟨by rfl,?_⟩) hHeld ?_ ?_
            rotate_left
            ·rintro w' ⟨s0,s1,s2,s3,s4,s5,s6,s7⟩;go_simp;with_reducible rfl
            rotate_left
            ·simp only [Act.put,List.setIfInBounds_toArray,List.set_cons_zero,List.set_cons_succ,i64_w,i32_w];rfl
            refine one_ (i:=17) (N:=some 68) #[true,true,true,true,true,true,true,true,true,true,true,true,true,true,true,true,true,true,true,false,false,false,false,false,false,false,false,false,false,false,false,false,false,false,false,false,false,false,false,false,false,false,false] rfl rfl (one_of HT_.out (by kernel_rfl)) (by decide) (fun K hK=>?_)
            refine goes_ Tryd.func33 (by kernel_rfl) rfl #[.agg #[.string a0_0, .slice A0_1 l0_1.length c0_1]] (by rfl) rfl rfl (by (try simp only [List.map_toArray,List.map_cons,List.map_nil]);first|done|rfl|(simp only [List.length_drop,List.length_take];rfl)) ?_
            with_reducible refine (key_Text.calls kj4 a0_0 _ _ l0_1 t513 _ ?side1 ?side2 A35.out).mono ?_
            (case side1=>repeat (first|exact (Kd.C_below HR0_1.out HB.out)|(with_reducible refine Kd.C_alloc ?_ _)|(with_reducible refine Kd.C_drewN ?_ _)|(with_reducible refine Kd.C_drew ?_)))
            (case side2=>exact HC0_1.out)
            rintro e w70 ⟨rfl,hb⟩
            refine ⟨_,rfl,?_⟩
            have n0_:=Aside0.mk (Kd.R_below (by (with_reducible repeat (first|apply Kd.R_alloc|apply Kd.R_drewN|apply Kd.R_drew));exact HO497.out) hb)
            have n1_:=Aside0.mk (Kd.R_below (by (with_reducible repeat (first|apply Kd.R_alloc|apply Kd.R_drewN|apply Kd.R_drew));exact HO501.out) hb)
            have n2_:=Aside0.mk (Kd.R_below (by (with_reducible repeat (first|apply Kd.R_alloc|apply Kd.R_drewN|apply Kd.R_drew));exact HO507.out) hb)
            have n3_:=Aside0.mk (blk_below (g:=gb487) (o := .cells #[.string a0_0, .slice A0_1 l0_1.length c0_1] 41 (0,0)) (by (with_reducible repeat (first|refine blk_drewN ?_ _|refine blk_drew ?_|refine blk_alloc ?_ _));exact BK487.out) hb)
            have n4_:=Aside0.mk (blk_below (g:=gb488) (o := .cells #[.string a1_0, .slice A1_1 l1_1.length c1_1] 41 (0,0)) (by (with_reducible repeat (first|refine blk_drewN ?_ _|refine blk_drew ?_|refine blk_alloc ?_ _));exact BK488.out) hb)
            have n5_:=Aside0.mk (blk_below (g:=gb503) (o := .cells #[.string t498, .slice Ao56 t499.length co56] 41 (0,0)) (by (with_reducible repeat (first|refine blk_drewN ?_ _|refine blk_drew ?_|refine blk_alloc ?_ _));exact BK503.out) hb)
            have n6_:=Aside0.mk (blk_below (g:=gb509) (o := .cells #[.string t504, .slice Ao64 t505.length co64] 41 (0,0)) (by (with_reducible repeat (first|refine blk_drewN ?_ _|refine blk_drew ?_|refine blk_alloc ?_ _));exact BK509.out) hb)
            have n7_:=Aside0.mk (below_step (by repeat (first|(with_reducible first|exact HB.out|apply below_alloc|apply pw_below_drewN|apply below_drew1|refine below_set ?_ GE487.out|refine below_set ?_ GE488.out|refine below_set ?_ GE503.out|refine below_set ?_ GE509.out)|exact HB.out)) hb)
            clear HO497
            clear HO501
            clear HO507
            clear BK487
            clear BK488
            clear BK503
            clear BK509
            clear HB
            have HO497:=n0_
            have HO501:=n1_
            have HO507:=n2_
            have BK487:=n3_
            have BK488:=n4_
            have BK503:=n5_
            have BK509:=n6_
            have HB:=n7_
            clear n0_ n1_ n2_ n3_ n4_ n5_ n6_ n7_
            (try clear hb)
            (try clear hb2)
            (try clear hk)
            (try clear hi)
            refine hK.out _ _ ⟨(blk_cell BK503.out 0).trans rfl,(blk_cell BK503.out 1).trans rfl,(blk_cell BK509.out 0).trans rfl,(blk_cell BK509.out 1).trans rfl,(blk_cell BK487.out 0).trans rfl,(blk_cell BK487.out 1).trans rfl,(blk_cell BK488.out 0).trans rfl,(blk_cell BK488.out 1).trans rfl⟩ (fun hHeld=>?_)
            clear hK K
            refine norm_ (a':=?_) ?_ ?_
            rotate_left
            ·show Act.put _ (some 68) _=_
             simp only [Act.put,List.setIfInBounds_toArray,List.set_cons_zero,List.set_cons_succ,i64_w,i32_w]
             rfl
            refine one_ (i:=19) (N:=some 70) #[true,true,true,true,true,true,true,true,true,true,true,true,true,true,true,true,true,true,true,true,false,false,false,false,false,false,false,false,false,false,false,false,false,false,false,false,false,false,false,false,false,false,false] rfl rfl (one_of HT_.out (by kernel_rfl)) (by decide) (fun K hK=>?_)
            refine goes_ Tryd.func34 (by kernel_rfl) rfl #[.agg #[.string a0_0, .slice A0_1 l0_1.length c0_1]] (by rfl) rfl rfl (by (try simp only [List.map_toArray,List.map_cons,List.map_nil]);first|done|rfl|(simp only [List.length_drop,List.length_take];rfl)) ?_
            with_reducible refine (ebbtideref04_Text.calls kj4 a0_0 _ _ l0_1 t514 _ ?side1 ?side2 A36.out).mono ?_
            (case side1=>repeat (first|exact (Kd.C_below HR0_1.out HB.out)|(with_reducible refine Kd.C_alloc ?_ _)|(with_reducible refine Kd.C_drewN ?_ _)|(with_reducible refine Kd.C_drew ?_)))
            (case side2=>exact HC0_1.out)
            rintro e w71 ⟨rfl,hb⟩
            refine ⟨_,rfl,?_⟩
            have n0_:=Aside0.mk (Kd.R_below (by (with_reducible repeat (first|apply Kd.R_alloc|apply Kd.R_drewN|apply Kd.R_drew));exact HO497.out) hb)
            have n1_:=Aside0.mk (Kd.R_below (by (with_reducible repeat (first|apply Kd.R_alloc|apply Kd.R_drewN|apply Kd.R_drew));exact HO501.out) hb)
            have n2_:=Aside0.mk (Kd.R_below (by (with_reducible repeat (first|apply Kd.R_alloc|apply Kd.R_drewN|apply Kd.R_drew));exact HO507.out) hb)
            have n3_:=Aside0.mk (blk_below (g:=gb487) (o := .cells #[.string a0_0, .slice A0_1 l0_1.length c0_1] 41 (0,0)) (by (with_reducible repeat (first|refine blk_drewN ?_ _|refine blk_drew ?_|refine blk_alloc ?_ _));exact BK487.out) hb)
            have n4_:=Aside0.mk (blk_below (g:=gb488) (o := .cells #[.string a1_0, .slice A1_1 l1_1.length c1_1] 41 (0,0)) (by (with_reducible repeat (first|refine blk_drewN ?_ _|refine blk_drew ?_|refine blk_alloc ?_ _));exact BK488.out) hb)
            have n5_:=Aside0.mk (blk_below (g:=gb503) (o := .cells #[.string t498, .slice Ao56 t499.length co56] 41 (0,0)) (by (with_reducible repeat (first|refine blk_drewN ?_ _|refine blk_drew ?_|refine blk_alloc ?_ _));exact BK503.out) hb)
            have n6_:=Aside0.mk (blk_below (g:=gb509) (o := .cells #[.string t504, .slice Ao64 t505.length co64] 41 (0,0)) (by (with_reducible repeat (first|refine blk_drewN ?_ _|refine blk_drew ?_|refine blk_alloc ?_ _));exact BK509.out) hb)
            have n7_:=Aside0.mk (below_step (by repeat (first|(with_reducible first|exact HB.out|apply below_alloc|apply pw_below_drewN|apply below_drew1|refine below_set ?_ GE487.out|refine below_set ?_ GE488.out|refine below_set ?_ GE503.out|refine below_set ?_ GE509.out)|exact HB.out)) hb)
            clear HO497
            clear HO501
            clear HO507
            clear BK487
            clear BK488
            clear BK503
            clear BK509
            clear HB
            have HO497:=n0_
            have HO501:=n1_
            have HO507:=n2_
            have BK487:=n3_
            have BK488:=n4_
            have BK503:=n5_
            have BK509:=n6_
            have HB:=n7_
            clear n0_ n1_ n2_ n3_ n4_ n5_ n6_ n7_
            (try clear hb)
            (try clear hb2)
            (try clear hk)
            (try clear hi)
            refine hK.out _ _ ⟨(blk_cell BK503.out 0).trans rfl,(blk_cell BK503.out 1).trans rfl,(blk_cell BK509.out 0).trans rfl,(blk_cell BK509.out 1).trans rfl,(blk_cell BK487.out 0).trans rfl,(blk_cell BK487.out 1).trans rfl,(blk_cell BK488.out 0).trans rfl,(blk_cell BK488.out 1).trans rfl⟩ (fun hHeld=>?_)
            clear hK K
            refine norm_ (a':=?_) ?_ ?_
            rotate_left
            ·show Act.put _ (some 70) _=_
             simp only [Act.put,List.setIfInBounds_toArray,List.set_cons_zero,List.set_cons_succ,i64_w,i32_w]
             rfl
            refine pure_ (i:=20) (N:=some 71) (v:=?_) (a':=?_) #[true,true,true,true,true,true,true,true,true,true,true,true,true,true,true,true,true,true,true,true,true,false,false,false,false,false,false,false,false,false,false,false,false,false,false,false,false,false,false,false,false,false,false] rfl rfl (any_of HT_.out (by kernel_rfl)) (fun _ _ _ h=>h) (Or.inl ⟨by rfl,?_⟩) ?_ ?_
            rotate_left
            ·intro w';go_simp;with_reducible rfl
            rotate_left
            ·simp only [Act.put,List.setIfInBounds_toArray,List.set_cons_zero,List.set_cons_succ,i64_w,i32_w];rfl
            refine pure_ (i:=21) (N:=some 72) (v:=?_) (a':=?_) #[true,true,true,true,true,true,true,true,true,true,true,true,true,true,true,true,true,true,true,true,true,true,false,false,false,false,false,false,false,false,false,false,false,false,false,false,false,false,false,false,false,false,false] rfl rfl (any_of HT_.out (by kernel_rfl)) (fun _ _ _ h=>h) (Or.inl ⟨by rfl,?_⟩) ?_ ?_
            rotate_left
            ·intro w';go_simp;with_reducible rfl
            rotate_left
            ·simp only [Act.put,List.setIfInBounds_toArray,List.set_cons_zero,List.set_cons_succ,i64_w,i32_w];rfl
            refine pure_ (i:=22) (N:=some 73) (v:=?_) (a':=?_) #[true,true,true,true,true,true,true,true,true,true,true,true,true,true,true,true,true,true,true,true,true,true,true,false,false,false,false,false,false,false,false,false,false,false,false,false,false,false,false,false,false,false,false] rfl rfl (any_of HT_.out (by kernel_rfl)) (fun _ _ _ h=>h) (Or.inl ⟨by rfl,?_⟩) ?_ ?_
            rotate_left
            ·intro w';go_simp;with_reducible rfl
            rotate_left
            ·simp only [Act.put,List.setIfInBounds_toArray,List.set_cons_zero,List.set_cons_succ,i64_w,i32_w];rfl
            refine take_ (i:=23) (N:=some 74) (v:=?_) (a':=?_) #[true,true,true,true,true,true,true,true,true,true,true,true,true,true,true,true,true,true,true,true,true,true,true,true,false,false,false,false,false,false,false,false,false,false,false,false,false,false,false,false,false,false,false] rfl rfl (take_ofW HT_.out HW_.out (by kernel_rfl)) (fun _ _ _ h=>h) (Or.inl ⟨by rfl,?_⟩) hHeld ?_ ?_
            rotate_left
            ·rintro w' ⟨s0,s1,s2,s3,s4,s5,s6,s7⟩;go_simp;with_reducible rfl
            rotate_left
            ·simp only [Act.put,List.setIfInBounds_toArray,List.set_cons_zero,List.set_cons_succ,i64_w,i32_w];rfl
            refine take_ (i:=24) (N:=some 75) (v:=?_) (a':=?_) #[true,true,true,true,true,true,true,true,true,true,true,true,true,true,true,true,true,true,true,true,true,true,true,true,true,false,false,false,false,false,false,false,false,false,false,false,false,false,false,false,false,false,false] rfl rfl (take_ofW HT_.out HW_.out (by kernel_rfl)) (fun _ _ _ h=>h) (Or.inl ⟨by rfl,?_⟩) hHeld ?_ ?_
            rotate_left
            ·rintro w' ⟨s0,s1,s2,s3,s4,s5,s6,s7⟩;go_simp;with_reducible rfl
            rotate_left
            ·simp only [Act.put,List.setIfInBounds_toArray,List.set_cons_zero,List.set_cons_succ,i64_w,i32_w];rfl
            refine take_ (i:=26) (N:=some 77) (v:=?_) (a':=?_) #[true,true,true,true,true,true,true,true,true,true,true,true,true,true,true,true,true,true,true,true,true,true,true,true,true,false,true,false,false,false,false,false,false,false,false,false,false,false,false,false,false,false,false] rfl rfl (take_ofW HT_.out HW_.out (by kernel_rfl)) (fun _ _ _ h=>h) (Or.inl ⟨by rfl,?_⟩) hHeld ?_ ?_
            rotate_left
            ·rintro w' ⟨s0,s1,s2,s3,s4,s5,s6,s7⟩;go_simp;with_reducible rfl
            rotate_left
            ·simp only [Act.put,List.setIfInBounds_toArray,List.set_cons_zero,List.set_cons_succ,i64_w,i32_w];rfl
            refine take_ (i:=27) (N:=some 78) (v:=?_) (a':=?_) #[true,true,true,true,true,true,true,true,true,true,true,true,true,true,true,true,true,true,true,true,true,true,true,true,true,false,true,true,false,false,false,false,false,false,false,false,false,false,false,false,false,false,false] rfl rfl (take_ofW HT_.out HW_.out (by kernel_rfl)) (fun _ _ _ h=>h) (Or.inl ⟨by rfl,?_⟩) hHeld ?_ ?_
            rotate_left
            ·rintro w' ⟨s0,s1,s2,s3,s4,s5,s6,s7⟩;go_simp;with_reducible rfl
            rotate_left
            ·simp only [Act.put,List.setIfInBounds_toArray,List.set_cons_zero,List.set_cons_succ,i64_w,i32_w];rfl
            refine one_ (i:=25) (N:=some 76) #[true,true,true,true,true,true,true,true,true,true,true,true,true,true,true,true,true,true,true,true,true,true,true,true,true,true,true,true,false,false,false,false,false,false,false,false,false,false,false,false,false,false,false] rfl rfl (one_of HT_.out (by kernel_rfl)) (by decide) (fun K hK=>?_)
            refine goes_ Tryd.func35 (by kernel_rfl) rfl #[.agg #[.string a0_0, .slice A0_1 l0_1.length c0_1], .agg #[.string a1_0, .slice A1_1 l1_1.length c1_1]] (by rfl) rfl rfl (by (try simp only [List.map_toArray,List.map_cons,List.map_nil]);first|done|rfl|(simp only [List.length_drop,List.length_take];rfl)) ?_
            with_reducible refine (key_Same.calls kj4 a0_0 _ _ l0_1 a1_0 _ _ l1_1 t515 _ ?side1 ?side2 ?side3 ?side4 A38.out).mono ?_
            (case side1=>repeat (first|exact (Kd.C_below HR0_1.out HB.out)|(with_reducible refine Kd.C_alloc ?_ _)|(with_reducible refine Kd.C_drewN ?_ _)|(with_reducible refine Kd.C_drew ?_)))
            (case side2=>exact HC0_1.out)
            (case side3=>repeat (first|exact (Kd.C_below HR1_1.out HB.out)|(with_reducible refine Kd.C_alloc ?_ _)|(with_reducible refine Kd.C_drewN ?_ _)|(with_reducible refine Kd.C_drew ?_)))
            (case side4=>exact HC1_1.out)
            rintro e w72 ⟨rfl,hb⟩
            refine ⟨_,rfl,?_⟩
            have n0_:=Aside0.mk (Kd.R_below (by (with_reducible repeat (first|apply Kd.R_alloc|apply Kd.R_drewN|apply Kd.R_drew));exact HO497.out) hb)
            have n1_:=Aside0.mk (Kd.R_below (by (with_reducible repeat (first|apply Kd.R_alloc|apply Kd.R_drewN|apply Kd.R_drew));exact HO501.out) hb)
            have n2_:=Aside0.mk (Kd.R_below (by (with_reducible repeat (first|apply Kd.R_alloc|apply Kd.R_drewN|apply Kd.R_drew));exact HO507.out) hb)
            have n3_:=Aside0.mk (blk_below (g:=gb487) (o := .cells #[.string a0_0, .slice A0_1 l0_1.length c0_1] 41 (0,0)) (by (with_reducible repeat (first|refine blk_drewN ?_ _|refine blk_drew ?_|refine blk_alloc ?_ _));exact BK487.out) hb)
            have n4_:=Aside0.mk (blk_below (g:=gb488) (o := .cells #[.string a1_0, .slice A1_1 l1_1.length c1_1] 41 (0,0)) (by (with_reducible repeat (first|refine blk_drewN ?_ _|refine blk_drew ?_|refine blk_alloc ?_ _));exact BK488.out) hb)
            have n5_:=Aside0.mk (blk_below (g:=gb503) (o := .cells #[.string t498, .slice Ao56 t499.length co56] 41 (0,0)) (by (with_reducible repeat (first|refine blk_drewN ?_ _|refine blk_drew ?_|refine blk_alloc ?_ _));exact BK503.out) hb)
            have n6_:=Aside0.mk (blk_below (g:=gb509) (o := .cells #[.string t504, .slice Ao64 t505.length co64] 41 (0,0)) (by (with_reducible repeat (first|refine blk_drewN ?_ _|refine blk_drew ?_|refine blk_alloc ?_ _));exact BK509.out) hb)
            have n7_:=Aside0.mk (below_step (by repeat (first|(with_reducible first|exact HB.out|apply below_alloc|apply pw_below_drewN|apply below_drew1|refine below_set ?_ GE487.out|refine below_set ?_ GE488.out|refine below_set ?_ GE503.out|refine below_set ?_ GE509.out)|exact HB.out)) hb)
            clear HO497
            clear HO501
            clear HO507
            clear BK487
            clear BK488
            clear BK503
            clear BK509
            clear HB
            have HO497:=n0_
            have HO501:=n1_
            have HO507:=n2_
            have BK487:=n3_
            have BK488:=n4_
            have BK503:=n5_
            have BK509:=n6_
            have HB:=n7_
            clear n0_ n1_ n2_ n3_ n4_ n5_ n6_ n7_
            (try clear hb)
            (try clear hb2)
            (try clear hk)
            (try clear hi)
            refine hK.out _ _ ⟨(blk_cell BK503.out 0).trans rfl,(blk_cell BK503.out 1).trans rfl,(blk_cell BK509.out 0).trans rfl,(blk_cell BK509.out 1).trans rfl,(blk_cell BK487.out 0).trans rfl,(blk_cell BK487.out 1).trans rfl,(blk_cell BK488.out 0).trans rfl,(blk_cell BK488.out 1).trans rfl⟩ (fun hHeld=>?_)
            clear hK K
            refine norm_ (a':=?_) ?_ ?_
            rotate_left
            ·show Act.put _ (some 76) _=_
             simp only [Act.put,List.setIfInBounds_toArray,List.set_cons_zero,List.set_cons_succ,i64_w,i32_w]
             rfl
            refine one_ (i:=28) (N:=some 79) #[true,true,true,true,true,true,true,true,true,true,true,true,true,true,true,true,true,true,true,true,true,true,true,true,true,true,true,true,true,false,false,false,false,false,false,false,false,false,false,false,false,false,false] rfl rfl (one_of HT_.out (by kernel_rfl)) (by decide) (fun K hK=>?_)
            refine goes_ Tryd.func30 (by kernel_rfl) rfl #[.agg #[.string a0_0, .slice A0_1 l0_1.length c0_1], .agg #[.string a1_0, .slice A1_1 l1_1.length c1_1]] (by rfl) rfl rfl (by (try simp only [List.map_toArray,List.map_cons,List.map_nil]);first|done|rfl|(simp only [List.length_drop,List.length_take];rfl)) ?_
            with_reducible refine (ebbtideref04_Same.calls kj4 a0_0 _ _ l0_1 a1_0 _ _ l1_1 t516 _ ?side1 ?side2 ?side3 ?side4 A39.out).mono ?_
            (case side1=>repeat (first|exact (Kd.C_below HR0_1.out HB.out)|(with_reducible refine Kd.C_alloc ?_ _)|(with_reducible refine Kd.C_drewN ?_ _)|(with_reducible refine Kd.C_drew ?_)))
            (case side2=>exact HC0_1.out)
            (case side3=>repeat (first|exact (Kd.C_below HR1_1.out HB.out)|(with_reducible refine Kd.C_alloc ?_ _)|(with_reducible refine Kd.C_drewN ?_ _)|(with_reducible refine Kd.C_drew ?_)))
            (case side4=>exact HC1_1.out)
            rintro e w73 ⟨rfl,hb⟩
            refine ⟨_,rfl,?_⟩
            have n0_:=Aside0.mk (Kd.R_below (by (with_reducible repeat (first|apply Kd.R_alloc|apply Kd.R_drewN|apply Kd.R_drew));exact HO497.out) hb)
            have n1_:=Aside0.mk (Kd.R_below (by (with_reducible repeat (first|apply Kd.R_alloc|apply Kd.R_drewN|apply Kd.R_drew));exact HO501.out) hb)
            have n2_:=Aside0.mk (Kd.R_below (by (with_reducible repeat (first|apply Kd.R_alloc|apply Kd.R_drewN|apply Kd.R_drew));exact HO507.out) hb)
            have n3_:=Aside0.mk (blk_below (g:=gb487) (o := .cells #[.string a0_0, .slice A0_1 l0_1.length c0_1] 41 (0,0)) (by (with_reducible repeat (first|refine blk_drewN ?_ _|refine blk_drew ?_|refine blk_alloc ?_ _));exact BK487.out) hb)
            have n4_:=Aside0.mk (blk_below (g:=gb488) (o := .cells #[.string a1_0, .slice A1_1 l1_1.length c1_1] 41 (0,0)) (by (with_reducible repeat (first|refine blk_drewN ?_ _|refine blk_drew ?_|refine blk_alloc ?_ _));exact BK488.out) hb)
            have n5_:=Aside0.mk (blk_below (g:=gb503) (o := .cells #[.string t498, .slice Ao56 t499.length co56] 41 (0,0)) (by (with_reducible repeat (first|refine blk_drewN ?_ _|refine blk_drew ?_|refine blk_alloc ?_ _));exact BK503.out) hb)
            have n6_:=Aside0.mk (blk_below (g:=gb509) (o := .cells #[.string t504, .slice Ao64 t505.length co64] 41 (0,0)) (by (with_reducible repeat (first|refine blk_drewN ?_ _|refine blk_drew ?_|refine blk_alloc ?_ _));exact BK509.out) hb)
            have n7_:=Aside0.mk (below_step (by repeat (first|(with_reducible first|exact HB.out|apply below_alloc|apply pw_below_drewN|apply below_drew1|refine below_set ?_ GE487.out|refine below_set ?_ GE488.out|refine below_set ?_ GE503.out|refine below_set ?_ GE509.out)|exact HB.out)) hb)
            clear HO497
            clear HO501
            clear HO507
            clear BK487
            clear BK488
            clear BK503
            clear BK509
            clear HB
            have HO497:=n0_
            have HO501:=n1_
            have HO507:=n2_
            have BK487:=n3_
            have BK488:=n4_
            have BK503:=n5_
            have BK509:=n6_
            have HB:=n7_
            clear n0_ n1_ n2_ n3_ n4_ n5_ n6_ n7_
            (try clear hb)
            (try clear hb2)
            (try clear hk)
            (try clear hi)
            refine hK.out _ _ ⟨(blk_cell BK503.out 0).trans rfl,(blk_cell BK503.out 1).trans rfl,(blk_cell BK509.out 0).trans rfl,(blk_cell BK509.out 1).trans rfl,(blk_cell BK487.out 0).trans rfl,(blk_cell BK487.out 1).trans rfl,(blk_cell BK488.out 0).trans rfl,(blk_cell BK488.out 1).trans rfl⟩ (fun hHeld=>?_)
            clear hK K
            refine norm_ (a':=?_) ?_ ?_
            rotate_left
            ·show Act.put _ (some 79) _=_
             simp only [Act.put,List.setIfInBounds_toArray,List.set_cons_zero,List.set_cons_succ,i64_w,i32_w]
             rfl
            refine pure_ (i:=29) (N:=some 80) (v:=?_) (a':=?_) #[true,true,true,true,true,true,true,true,true,true,true,true,true,true,true,true,true,true,true,true,true,true,true,true,true,true,true,true,true,true,false,false,false,false,false,false,false,false,false,false,false,false,false] rfl rfl (any_of HT_.out (by kernel_rfl)) (fun _ _ _ h=>h) (Or.inl ⟨by rfl,?_⟩) ?_ ?_
            rotate_left
            ·intro w';go_simp;with_reducible rfl
            rotate_left
            ·simp only [Act.put,List.setIfInBounds_toArray,List.set_cons_zero,List.set_cons_succ,i64_w,i32_w];rfl
            refine pure_ (i:=30) (N:=some 81) (v:=?_) (a':=?_) #[true,true,true,true,true,true,true,true,true,true,true,true,true,true,true,true,true,true,true,true,true,true,true,true,true,true,true,true,true,true,true,false,false,false,false,false,false,false,false,false,false,false,false] rfl rfl (any_of HT_.out (by kernel_rfl)) (fun _ _ _ h=>h) (Or.inl ⟨by rfl,?_⟩) ?_ ?_
            rotate_left
            ·intro w';go_simp;with_reducible rfl
            rotate_left
            ·simp only [Act.put,List.setIfInBounds_toArray,List.set_cons_zero,List.set_cons_succ,i64_w,i32_w];rfl
            refine pure_ (i:=31) (N:=some 82) (v:=?_) (a':=?_) #[true,true,true,true,true,true,true,true,true,true,true,true,true,true,true,true,true,true,true,true,true,true,true,true,true,true,true,true,true,true,true,true,false,false,false,false,false,false,false,false,false,false,false] rfl rfl (any_of HT_.out (by kernel_rfl)) (fun _ _ _ h=>h) (Or.inl ⟨by rfl,?_⟩) ?_ ?_
            rotate_left
            ·intro w';go_simp;with_reducible rfl
            rotate_left
            ·simp only [Act.put,List.setIfInBounds_toArray,List.set_cons_zero,List.set_cons_succ,i64_w,i32_w];rfl
            refine take_ (i:=32) (N:=some 83) (v:=?_) (a':=?_) #[true,true,true,true,true,true,true,true,true,true,true,true,true,true,true,true,true,true,true,true,true,true,true,true,true,true,true,true,true,true,true,true,true,false,false,false,false,false,false,false,false,false,false] rfl rfl (take_ofW HT_.out HW_.out (by kernel_rfl)) (fun _ _ _ h=>h) (Or.inl ⟨by rfl,?_⟩) hHeld ?_ ?_
            rotate_left
            ·rintro w' ⟨s0,s1,s2,s3,s4,s5,s6,s7⟩;go_simp;with_reducible rfl
            rotate_left
            ·simp only [Act.put,List.setIfInBounds_toArray,List.set_cons_zero,List.set_cons_succ,i64_w,i32_w];rfl
            refine take_ (i:=33) (N:=some 84) (v:=?_) (a':=?_) #[true,true,true,true,true,true,true,true,true,true,true,true,true,true,true,true,true,true,true,true,true,true,true,true,true,true,true,true,true,true,true,true,true,true,false,false,false,false,false,false,false,false,false] rfl rfl (take_ofW HT_.out HW_.out (by kernel_rfl)) (fun _ _ _ h=>h) (Or.inl ⟨by rfl,?_⟩) hHeld ?_ ?_
            rotate_left
            ·rintro w' ⟨s0,s1,s2,s3,s4,s5,s6,s7⟩;go_simp;with_reducible rfl
            rotate_left
            ·simp only [Act.put,List.setIfInBounds_toArray,List.set_cons_zero,List.set_cons_succ,i64_w,i32_w];rfl
            refine one_ (i:=34) (N:=some 85) #[true,true,true,true,true,true,true,true,true,true,true,true,true,true,true,true,true,true,true,true,true,true,true,true,true,true,true,true,true,true,true,true,true,true,true,false,false,false,false,false,false,false,false] rfl rfl (one_of HT_.out (by kernel_rfl)) (by decide) (fun K hK=>?_)
            refine goes_ Tryd.func35 (by kernel_rfl) rfl #[.agg #[.string a0_0, .slice A0_1 l0_1.length c0_1], .agg #[.string a0_0, .slice A0_1 l0_1.length c0_1]] (by rfl) rfl rfl (by (try simp only [List.map_toArray,List.map_cons,List.map_nil]);first|done|rfl|(simp only [List.length_drop,List.length_take];rfl)) ?_
            with_reducible refine (key_Same.calls kj4 a0_0 _ _ l0_1 a0_0 _ _ l0_1 true _ ?side1 ?side2 ?side3 ?side4 A41.out).mono ?_
            (case side1=>repeat (first|exact (Kd.C_below HR0_1.out HB.out)|(with_reducible refine Kd.C_alloc ?_ _)|(with_reducible refine Kd.C_drewN ?_ _)|(with_reducible refine Kd.C_drew ?_)))
            (case side2=>exact HC0_1.out)
            (case side3=>repeat (first|exact (Kd.C_below HR0_1.out HB.out)|(with_reducible refine Kd.C_alloc ?_ _)|(with_reducible refine Kd.C_drewN ?_ _)|(with_reducible refine Kd.C_drew ?_)))
            (case side4=>exact HC0_1.out)
            rintro e w74 ⟨rfl,hb⟩
            refine ⟨_,rfl,?_⟩
            have n0_:=Aside0.mk (Kd.R_below (by (with_reducible repeat (first|apply Kd.R_alloc|apply Kd.R_drewN|apply Kd.R_drew));exact HO497.out) hb)
            have n1_:=Aside0.mk (Kd.R_below (by (with_reducible repeat (first|apply Kd.R_alloc|apply Kd.R_drewN|apply Kd.R_drew));exact HO501.out) hb)
            have n2_:=Aside0.mk (Kd.R_below (by (with_reducible repeat (first|apply Kd.R_alloc|apply Kd.R_drewN|apply Kd.R_drew));exact HO507.out) hb)
            have n3_:=Aside0.mk (blk_below (g:=gb487) (o := .cells #[.string a0_0, .slice A0_1 l0_1.length c0_1] 41 (0,0)) (by (with_reducible repeat (first|refine blk_drewN ?_ _|refine blk_drew ?_|refine blk_alloc ?_ _));exact BK487.out) hb)
            have n4_:=Aside0.mk (blk_below (g:=gb488) (o := .cells #[.string a1_0, .slice A1_1 l1_1.length c1_1] 41 (0,0)) (by (with_reducible repeat (first|refine blk_drewN ?_ _|refine blk_drew ?_|refine blk_alloc ?_ _));exact BK488.out) hb)
            have n5_:=Aside0.mk (blk_below (g:=gb503) (o := .cells #[.string t498, .slice Ao56 t499.length co56] 41 (0,0)) (by (with_reducible repeat (first|refine blk_drewN ?_ _|refine blk_drew ?_|refine blk_alloc ?_ _));exact BK503.out) hb)
            have n6_:=Aside0.mk (blk_below (g:=gb509) (o := .cells #[.string t504, .slice Ao64 t505.length co64] 41 (0,0)) (by (with_reducible repeat (first|refine blk_drewN ?_ _|refine blk_drew ?_|refine blk_alloc ?_ _));exact BK509.out) hb)
            have n7_:=Aside0.mk (below_step (by repeat (first|(with_reducible first|exact HB.out|apply below_alloc|apply pw_below_drewN|apply below_drew1|refine below_set ?_ GE487.out|refine below_set ?_ GE488.out|refine below_set ?_ GE503.out|refine below_set ?_ GE509.out)|exact HB.out)) hb)
            clear HO497
            clear HO501
            clear HO507
            clear BK487
            clear BK488
            clear BK503
            clear BK509
            clear HB
            have HO497:=n0_
            have HO501:=n1_
            have HO507:=n2_
            have BK487:=n3_
            have BK488:=n4_
            have BK503:=n5_
            have BK509:=n6_
            have HB:=n7_
            clear n0_ n1_ n2_ n3_ n4_ n5_ n6_ n7_
            (try clear hb)
            (try clear hb2)
            (try clear hk)
            (try clear hi)
            refine hK.out _ _ ⟨(blk_cell BK503.out 0).trans rfl,(blk_cell BK503.out 1).trans rfl,(blk_cell BK509.out 0).trans rfl,(blk_cell BK509.out 1).trans rfl,(blk_cell BK487.out 0).trans rfl,(blk_cell BK487.out 1).trans rfl,(blk_cell BK488.out 0).trans rfl,(blk_cell BK488.out 1).trans rfl⟩ (fun hHeld=>?_)
            clear hK K
            refine norm_ (a':=?_) ?_ ?_
            rotate_left
            ·show Act.put _ (some 85) _=_
             simp only [Act.put,List.setIfInBounds_toArray,List.set_cons_zero,List.set_cons_succ,i64_w,i32_w]
             rfl
            refine pure_ (i:=35) (N:=some 86) (v:=?_) (a':=?_) #[true,true,true,true,true,true,true,true,true,true,true,true,true,true,true,true,true,true,true,true,true,true,true,true,true,true,true,true,true,true,true,true,true,true,true,true,false,false,false,false,false,false,false] rfl rfl (any_of HT_.out (by kernel_rfl)) (fun _ _ _ h=>h) (Or.inl ⟨by rfl,?_⟩) ?_ ?_
            rotate_left
            ·intro w';go_simp;with_reducible rfl
            rotate_left
            ·simp only [Act.put,List.setIfInBounds_toArray,List.set_cons_zero,List.set_cons_succ,i64_w,i32_w];rfl
            refine pure_ (i:=36) (N:=some 87) (v:=?_) (a':=?_) #[true,true,true,true,true,true,true,true,true,true,true,true,true,true,true,true,true,true,true,true,true,true,true,true,true,true,true,true,true,true,true,true,true,true,true,true,true,false,false,false,false,false,false] rfl rfl (any_of HT_.out (by kernel_rfl)) (fun _ _ _ h=>h) (Or.inl ⟨by rfl,?_⟩) ?_ ?_
            rotate_left
            ·intro w';go_simp;with_reducible rfl
            rotate_left
            ·simp only [Act.put,List.setIfInBounds_toArray,List.set_cons_zero,List.set_cons_succ,i64_w,i32_w];rfl
            refine pure_ (i:=37) (N:=some 88) (v:=?_) (a':=?_) #[true,true,true,true,true,true,true,true,true,true,true,true,true,true,true,true,true,true,true,true,true,true,true,true,true,true,true,true,true,true,true,true,true,true,true,true,true,true,false,false,false,false,false] rfl rfl (any_of HT_.out (by kernel_rfl)) (fun _ _ _ h=>h) (Or.inl ⟨by rfl,?_⟩) ?_ ?_
            rotate_left
            ·intro w';go_simp;with_reducible rfl
            rotate_left
            ·simp only [Act.put,List.setIfInBounds_toArray,List.set_cons_zero,List.set_cons_succ,i64_w,i32_w];rfl
            refine pure_ (i:=38) (N:=some 89) (v:=?_) (a':=?_) #[true,true,true,true,true,true,true,true,true,true,true,true,true,true,true,true,true,true,true,true,true,true,true,true,true,true,true,true,true,true,true,true,true,true,true,true,true,true,true,false,false,false,false] rfl rfl (any_of HT_.out (by kernel_rfl)) (fun _ _ _ h=>h) (Or.inl ⟨by rfl,?_⟩) ?_ ?_
            rotate_left
            ·intro w';go_simp;with_reducible rfl
            rotate_left
            ·simp only [Act.put,List.setIfInBounds_toArray,List.set_cons_zero,List.set_cons_succ,i64_w,i32_w];rfl
            refine take_ (i:=39) (N:=some 90) (v:=?_) (a':=?_) #[true,true,true,true,true,true,true,true,true,true,true,true,true,true,true,true,true,true,true,true,true,true,true,true,true,true,true,true,true,true,true,true,true,true,true,true,true,true,true,true,false,false,false] rfl rfl (take_ofW HT_.out HW_.out (by kernel_rfl)) (fun _ _ _ h=>h) (Or.inl ⟨by rfl,?_⟩) hHeld ?_ ?_
            rotate_left
            ·rintro w' ⟨s0,s1,s2,s3,s4,s5,s6,s7⟩;go_simp;with_reducible rfl
            rotate_left
            ·simp only [Act.put,List.setIfInBounds_toArray,List.set_cons_zero,List.set_cons_succ,i64_w,i32_w];rfl
            refine one_ (i:=40) (N:=some 91) #[true,true,true,true,true,true,true,true,true,true,true,true,true,true,true,true,true,true,true,true,true,true,true,true,true,true,true,true,true,true,true,true,true,true,true,true,true,true,true,true,true,false,false] rfl rfl (one_of HT_.out (by kernel_rfl)) (by decide) (fun K hK=>?_)
            refine goes_ Tryd.func18 (by kernel_rfl) rfl #[.slice Ao50 y495.length co50, .slice A0_1 l0_1.length c0_1] (by rfl) rfl rfl (by (try simp only [List.map_toArray,List.map_cons,List.map_nil]);first|done|rfl|(simp only [List.length_drop,List.length_take];rfl)) ?_
            with_reducible refine (ebbtideref03_Same.calls kj4 _ _ y495 _ _ l0_1 t518 _ ?side1 ?side2 ?side3 ?side4 A43.out).mono ?_
            (case side1=>repeat (first|exact (Kd.R_reads' HO497.out).2.2|(with_reducible refine Kd.C_alloc ?_ _)|(with_reducible refine Kd.C_drewN ?_ _)|(with_reducible refine Kd.C_drew ?_)))
            (case side2=>exact (Kd.R_reads' HO497.out).2.1)
            (case side3=>repeat (first|exact (Kd.C_below HR0_1.out HB.out)|(with_reducible refine Kd.C_alloc ?_ _)|(with_reducible refine Kd.C_drewN ?_ _)|(with_reducible refine Kd.C_drew ?_)))
            (case side4=>exact HC0_1.out)
            rintro e w' ⟨rfl,⟨nd,rfl⟩⟩
            refine ⟨_,rfl,?_⟩
            refine hK.out _ _ ⟨(blk_cell BK503.out 0).trans rfl,(blk_cell BK503.out 1).trans rfl,(blk_cell BK509.out 0).trans rfl,(blk_cell BK509.out 1).trans rfl,(blk_cell BK487.out 0).trans rfl,(blk_cell BK487.out 1).trans rfl,(blk_cell BK488.out 0).trans rfl,(blk_cell BK488.out 1).trans rfl⟩ (fun hHeld=>?_)
            clear hK K
            refine norm_ (a':=?_) ?_ ?_
            rotate_left
            ·show Act.put _ (some 91) _=_
             simp only [Act.put,List.setIfInBounds_toArray,List.set_cons_zero,List.set_cons_succ,i64_w,i32_w]
             rfl
            refine pure_ (i:=41) (N:=some 92) (v:=?_) (a':=?_) #[true,true,true,true,true,true,true,true,true,true,true,true,true,true,true,true,true,true,true,true,true,true,true,true,true,true,true,true,true,true,true,true,true,true,true,true,true,true,true,true,true,true,false] rfl rfl (any_of HT_.out (by kernel_rfl)) (fun _ _ _ h=>h) (Or.inl ⟨by rfl,?_⟩) ?_ ?_
            rotate_left
            ·intro w';go_simp;with_reducible rfl
            rotate_left
            ·simp only [Act.put,List.setIfInBounds_toArray,List.set_cons_zero,List.set_cons_succ,i64_w,i32_w];rfl
            refine pure_ (i:=42) (N:=some 4) (v:=?_) (a':=?_) #[true,true,true,true,true,true,true,true,true,true,true,true,true,true,true,true,true,true,true,true,true,true,true,true,true,true,true,true,true,true,true,true,true,true,true,true,true,true,true,true,true,true,true] rfl rfl (any_of HT_.out (by kernel_rfl)) (fun _ _ _ h=>h) (Or.inl ⟨by rfl,?_⟩) ?_ ?_
            rotate_left
            ·intro w';go_simp;with_reducible rfl
            rotate_left
            ·simp only [Act.put,List.setIfInBounds_toArray,List.set_cons_zero,List.set_cons_succ,i64_w,i32_w];rfl
            refine done_ (done_of HT_.out (by kernel_rfl)) ?_
            try go_wp2
            go_ret
            exact ⟨by first|rfl|(simp [errW_none,errW_some]<;>rfl)|(simp [*,errW_none,errW_some]<;>rfl),by repeat (first|(with_reducible first|exact HB.out|apply below_alloc|apply pw_below_drewN|apply below_drew1|refine below_set ?_ GE487.out|refine below_set ?_ GE488.out|refine below_set ?_ GE503.out|refine below_set ?_ GE509.out)|exact HB.out)⟩
           ·replace c42:=Bool.eq_false_iff.mpr c42
            subst c42
            have H1:(none)=some r:=by rw [if_neg (show ¬ (false=true) by decide)] at H;exact H
            clear H
            have H:=H1
            clear H1
            exact absurd H (by simp)
          ·rw [if_neg c40] at H
           have c40b0:(t515 ==t516)=false:=by simpa using c40
           (try (have c40b1:decide (t515=t516)=false:=by simpa using c40))
           (try (have c40b2:(t515 ==t516)=false:=by simpa using c40))
           (try (have c40b3:¬ (t515=t516):=by simpa using c40))
           clear c40
           exact absurd H (by simp)
         ·rw [if_neg c37] at H
          have c37b0:(t513.toList ==t514.toList)=false:=beq_eq_false_iff_ne.mpr c37
          have c37b1:(t513.toList != t514.toList)=true:=bne_iff_ne.mpr c37
          exact absurd H (by simp)
        ·rw [if_neg c34] at H
         have c34b0:(t511 ==t512)=false:=by simpa using c34
         (try (have c34b1:decide (t511=t512)=false:=by simpa using c34))
         (try (have c34b2:(t511 ==t512)=false:=by simpa using c34))
         (try (have c34b3:¬ (t511=t512):=by simpa using c34))
         clear c34
         exact absurd H (by simp)
       ·rw [if_neg c31] at H
        have c31b0:(t502 ==t508)=false:=beq_eq_false_iff_ne.mpr c31
        have c31b1:(t502 != t508)=true:=bne_iff_ne.mpr c31
        exact absurd H (by simp)
      ·replace c30:=Bool.eq_false_iff.mpr c30
       subst c30
       have H1:(none)=some r:=by rw [if_neg (show ¬ (false=true) by decide)] at H;exact H
       clear H
       have H:=H1
       clear H1
       exact absurd H (by simp)
     ·rw [if_neg c26] at H
      exact absurd H (by simp)
 ·replace c4:=Bool.eq_false_iff.mpr c4
  subst c4
  have H1:(none)=some r:=by rw [if_neg (show ¬ (false=true) by decide)] at H;exact H
  clear H
  have H:=H1
  clear H1
  exact absurd H (by simp)
end Go.Proofs.YtbefmicenjdfkaaDoor.PTk
