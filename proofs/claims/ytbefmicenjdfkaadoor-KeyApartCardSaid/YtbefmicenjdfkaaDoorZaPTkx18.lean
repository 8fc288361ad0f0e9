import Derived.Test.YtbefmicenjdfkaaDoorZaPTkx0
import Derived.Test.YtbefmicenjdfkaaDoorZaPTkx4
import Derived.Test.YtbefmicenjdfkaaDoorZaPTkx13
import Derived.Test.YtbefmicenjdfkaaDoorZaPTkx14
namespace Go.Proofs.YtbefmicenjdfkaaDoor.PTk
open Go.RowKit Go.Proofs.YtbefmicenjdfkaaDoorW.PrintWords Go.Proofs.YtbefmicenjdfkaaDoorW.PrintLast Go.Proofs.YtbefmicenjdfkaaDoorW.PrintMore
attribute [local go_sem] max2_int min2_int max_two min_two max_three min_three max_four min_four
set_option linter.unusedVariables false
set_option linter.unusedSimpArgs false
def ebbtidelaw04_KeyApart.j0:Nat→Bool→ByteArray→List (S52)→ByteArray→List (S52)→Option (Bool)
 | 0,_,_,_,_,_=>none
 | k+1,x24,x570000,x570001,x571000,x571001=>if x24=true then (some true) else ((key_Text.f k x570000 x570001).bind fun t576=>((key_Text.f k x571000 x571001).bind fun t577=>((ebbtideref04_Same.f k x570000 x570001 x571000 x571001).bind fun t578=>(if ((t576.toList ==t577.toList) ==t578)=true then ((key_Same.f k x570000 x570001 x571000 x571001).bind fun t579=>((ebbtideref04_Same.f k x570000 x570001 x571000 x571001).bind fun t580=>(some (t579 ==t580)))) else (none)))))
def ebbtidelaw04_KeyApart.f (k:Nat) (a0_0:ByteArray) (l0_1:List (S52)) (a1_0:ByteArray) (l1_1:List (S52)):Option (Bool):=(ebbtidelaw04_alive.f k).bind fun t571=>(if t571=true then ((ebbtideref03_Great.f k l0_1).bind fun t572=>(if t572=true then (ebbtidelaw04_KeyApart.j0 k true a0_0 l0_1 a1_0 l1_1) else ((ebbtideref03_Great.f k l1_1).bind fun t573=>(if t573=true then (ebbtidelaw04_KeyApart.j0 k true a0_0 l0_1 a1_0 l1_1) else ((ebbtideref04_Right.f k a0_0 l0_1).bind fun t574=>(if t574=true then ((ebbtideref04_Right.f k a1_0 l1_1).bind fun t575=>(ebbtidelaw04_KeyApart.j0 k (!t575) a0_0 l0_1 a1_0 l1_1)) else (ebbtidelaw04_KeyApart.j0 k true a0_0 l0_1 a1_0 l1_1))))))) else (none))
theorem ebbtidelaw04_KeyApart.mono_l:∀ k,(∀ y0 y1 y2 y3 y4,LeO (ebbtidelaw04_KeyApart.j0 k y0 y1 y2 y3 y4) (ebbtidelaw04_KeyApart.j0 (k+1) y0 y1 y2 y3 y4))
 | 0=>fun _ _ _ _ _ r h=>by simp [ebbtidelaw04_KeyApart.j0] at h
 | k+1=>by
  have ih0:=ebbtidelaw04_KeyApart.mono_l k
  ·intro y0 y1 y2 y3 y4
   unfold ebbtidelaw04_KeyApart.j0
   repeat' first
   | (with_reducible exact ih0 _ _ _ _ _)
   | (with_reducible exact ebbtidelaw04_alive.mono _)
   | (with_reducible exact ebbtideref03_Great.mono _ _)
   | (with_reducible exact ebbtideref04_Right.mono _ _ _)
   | (with_reducible exact ebbtideref04_Same.mono _ _ _ _ _)
   | (with_reducible exact key_Same.mono _ _ _ _ _)
   | (with_reducible exact key_Text.mono _ _ _)
   | (with_reducible exact LeO.refl _)
   | (with_reducible exact LeO.none _)
   | (with_reducible refine LeO.ite ?_ ?_)
   | (with_reducible refine LeO.bind ?_ (fun _=>?_))
   | exact ih0 _ _ _ _ _
   | exact ebbtidelaw04_alive.mono _
   | exact ebbtideref03_Great.mono _ _
   | exact ebbtideref04_Right.mono _ _ _
   | exact ebbtideref04_Same.mono _ _ _ _ _
   | exact key_Same.mono _ _ _ _ _
   | exact key_Text.mono _ _ _
   | exact LeO.none _
   | refine LeO.ite ?_ ?_
   | refine LeO.bind ?_ (fun _=>?_)
theorem ebbtidelaw04_KeyApart.mono:∀ a0 a1 a2 a3 k,LeO (ebbtidelaw04_KeyApart.f k a0 a1 a2 a3) (ebbtidelaw04_KeyApart.f (k+1) a0 a1 a2 a3):=by
 intro a0 a1 a2 a3 k
 have ih0:=ebbtidelaw04_KeyApart.mono_l k
 unfold ebbtidelaw04_KeyApart.f
 repeat' first
   | (with_reducible exact ih0 _ _ _ _ _)
   | (with_reducible exact ebbtidelaw04_alive.mono _)
   | (with_reducible exact ebbtideref03_Great.mono _ _)
   | (with_reducible exact ebbtideref04_Right.mono _ _ _)
   | (with_reducible exact ebbtideref04_Same.mono _ _ _ _ _)
   | (with_reducible exact key_Same.mono _ _ _ _ _)
   | (with_reducible exact key_Text.mono _ _ _)
   | (with_reducible exact LeO.refl _)
   | (with_reducible exact LeO.none _)
   | (with_reducible refine LeO.ite ?_ ?_)
   | (with_reducible refine LeO.bind ?_ (fun _=>?_))
   | exact ih0 _ _ _ _ _
   | exact ebbtidelaw04_alive.mono _
   | exact ebbtideref03_Great.mono _ _
   | exact ebbtideref04_Right.mono _ _ _
   | exact ebbtideref04_Same.mono _ _ _ _ _
   | exact key_Same.mono _ _ _ _ _
   | exact key_Text.mono _ _ _
   | exact LeO.none _
   | refine LeO.ite ?_ ?_
   | refine LeO.bind ?_ (fun _=>?_)
def ebbtidelaw04_KeyApart.T5:Bool×List (List Nat×List Nat):=(true,[([],[]),([0],[0]),([],[]),([2,1],[2]),([1,3],[1,3]),([],[]),([],[]),([5,6,3],[5,6]),([4,7],[4,7]),([8,7],[8]),([9],[9]),([9],[9]),([10,11,9,9],[9,10,11]),([9],[9]),([9],[9]),([13,14,12,9],[9,13,14]),([12,15,9],[9,12,15]),([9,16],[9,16]),([17,15,0,1,2,3,4,5,6,7,8,9,10,11,12,13,14,15,16,17],[17])])
def ebbtidelaw04_KeyApart.B5:List Nat:=[0,1,0,7,15,0,0,111,255,511,1023,1023,4095,1023,1023,32767,65535,131071,262143]
theorem ebbtidelaw04_KeyApart.tab5:rtab .any (opsOf Tryd.f10 5)=ebbtidelaw04_KeyApart.T5:=by kernel_rfl
theorem ebbtidelaw04_KeyApart.bits5:waitsOk ebbtidelaw04_KeyApart.T5.2 ebbtidelaw04_KeyApart.B5=true:=by kernel_rfl
set_option maxHeartbeats 8000000 in
set_option maxRecDepth 100000 in
theorem ebbtidelaw04_KeyApart.calls (k:Nat) (a0_0:ByteArray) (A0_1:Option Addr) (c0_1:Nat) (l0_1:List (S52)) (a1_0:ByteArray) (A1_1:Option Addr) (c1_1:Nat) (l1_1:List (S52)) (r:Bool) (w:World) (hr0_1:Kd.C k52 w A0_1 l0_1.length l0_1) (hc0_1:l0_1.length≤c0_1) (hr1_1:Kd.C k52 w A1_1 l1_1.length l1_1) (hc1_1:l1_1.length≤c1_1) (h:ebbtidelaw04_KeyApart.f k a0_0 l0_1 a1_0 l1_1=some r) :
  Calls Tryd.prog 10 #[.agg #[.string a0_0, .slice A0_1 l0_1.length c0_1], .agg #[.string a1_0, .slice A1_1 l1_1.length c1_1]] w fun e w'=>e = .returned (.bool r)∧Below w.heap.size w w':=by
 have hu41:=Tryd.underlying41
 have HR0_1:=Aside0.mk hr0_1
 have HC0_1:=Aside0.mk hc0_1
 clear hr0_1 hc0_1
 have HR1_1:=Aside0.mk hr1_1
 have HC1_1:=Aside0.mk hc1_1
 clear hr1_1 hc1_1
 have HB:=Aside0.mk (Below.refl w.heap.size w)
 have H:((ebbtidelaw04_alive.f k).bind fun t571=>(if t571=true then ((ebbtideref03_Great.f k l0_1).bind fun t572=>(if t572=true then (ebbtidelaw04_KeyApart.j0 k true a0_0 l0_1 a1_0 l1_1) else ((ebbtideref03_Great.f k l1_1).bind fun t573=>(if t573=true then (ebbtidelaw04_KeyApart.j0 k true a0_0 l0_1 a1_0 l1_1) else ((ebbtideref04_Right.f k a0_0 l0_1).bind fun t574=>(if t574=true then ((ebbtideref04_Right.f k a1_0 l1_1).bind fun t575=>(ebbtidelaw04_KeyApart.j0 k (!t575) a0_0 l0_1 a1_0 l1_1)) else (ebbtidelaw04_KeyApart.j0 k true a0_0 l0_1 a1_0 l1_1))))))) else (none)))=some r:=h
 clear h
 replace H:=Option.bind_eq_some_iff.mp H
 obtain ⟨t571,A30,H⟩:=H
 replace H:(if t571=true then ((ebbtideref03_Great.f k l0_1).bind fun t572=>(if t572=true then (ebbtidelaw04_KeyApart.j0 k true a0_0 l0_1 a1_0 l1_1) else ((ebbtideref03_Great.f k l1_1).bind fun t573=>(if t573=true then (ebbtidelaw04_KeyApart.j0 k true a0_0 l0_1 a1_0 l1_1) else ((ebbtideref04_Right.f k a0_0 l0_1).bind fun t574=>(if t574=true then ((ebbtideref04_Right.f k a1_0 l1_1).bind fun t575=>(ebbtidelaw04_KeyApart.j0 k (!t575) a0_0 l0_1 a1_0 l1_1)) else (ebbtidelaw04_KeyApart.j0 k true a0_0 l0_1 a1_0 l1_1))))))) else (none))=some r:=H
 have A3:=Aside0.mk A30
 clear A30
 by_cases c4:t571=true
 ·subst c4
  have H1:((ebbtideref03_Great.f k l0_1).bind fun t572=>(if t572=true then (ebbtidelaw04_KeyApart.j0 k true a0_0 l0_1 a1_0 l1_1) else ((ebbtideref03_Great.f k l1_1).bind fun t573=>(if t573=true then (ebbtidelaw04_KeyApart.j0 k true a0_0 l0_1 a1_0 l1_1) else ((ebbtideref04_Right.f k a0_0 l0_1).bind fun t574=>(if t574=true then ((ebbtideref04_Right.f k a1_0 l1_1).bind fun t575=>(ebbtidelaw04_KeyApart.j0 k (!t575) a0_0 l0_1 a1_0 l1_1)) else (ebbtidelaw04_KeyApart.j0 k true a0_0 l0_1 a1_0 l1_1)))))))=some r:=by rw [if_pos rfl] at H;exact H
  clear H
  have H:=H1
  clear H1
  have HC5:=Aside0.mk H
  clear H
  go_enter Tryd.func10,Tryd.ntmps10
  go_upto_region 3 with (first|((with_reducible refine gate_dst (N:=2) rfl ?_);refine box_event ?hg (N:=2) ?hd (cs:=#[.string a0_0, .slice A0_1 l0_1.length c0_1]) (t:=41) ?hr ?_;(case hd=>rfl);(case hg=>rfl);(case hr=>first|(go_simp;done)|(go_simp;rfl));intro gb569 hg w6 hbox hb;have n0_:=Aside0.mk (below_step (by repeat (first|(with_reducible first|exact HB.out|apply below_alloc|apply pw_below_drewN|apply below_drew1)|exact HB.out)) hb);have n1_:=Aside0.mk (hbox);have n2_:=Aside0.mk ((by rw [hg];exact (below_size (by repeat (first|(with_reducible first|exact HB.out|apply below_alloc|apply pw_below_drewN|apply below_drew1)|exact HB.out))):w.heap.size≤gb569));have n3_:=Aside0.mk ((by rw [hg];exact (below_size (by repeat (first|(with_reducible first|exact HB.out|apply below_alloc|apply pw_below_drewN|apply below_drew1)|exact HB.out))):w.heap.size≤gb569));clear HB;have HB:=n0_;have BK569:=n1_;have GW569:=n2_;have GE569:=n3_;clear n0_ n1_ n2_ n3_;clear hb hbox hg)|((with_reducible refine gate_dst (N:=3) rfl ?_);refine box_event ?hg (N:=3) ?hd (cs:=#[.string a1_0, .slice A1_1 l1_1.length c1_1]) (t:=41) ?hr ?_;(case hd=>rfl);(case hg=>rfl);(case hr=>first|(go_simp;done)|(go_simp;rfl));intro gb570 hg w7 hbox hb;have n0_:=Aside0.mk (blk_below (g:=gb569) (o := .cells #[.string a0_0, .slice A0_1 l0_1.length c0_1] 41 (0,0)) (by (with_reducible repeat (first|refine blk_drewN ?_ _|refine blk_drew ?_|refine blk_alloc ?_ _));exact BK569.out) hb);have n1_:=Aside0.mk (below_step (by repeat (first|(with_reducible first|exact HB.out|apply below_alloc|apply pw_below_drewN|apply below_drew1|refine below_set ?_ GE569.out)|exact HB.out)) hb);have n2_:=Aside0.mk (hbox);have n3_:=Aside0.mk ((by rw [hg];exact (below_size (by repeat (first|(with_reducible first|exact HB.out|apply below_alloc|apply pw_below_drewN|apply below_drew1|refine below_set ?_ GE569.out)|exact HB.out))):w.heap.size≤gb570));have n4_:=Aside0.mk ((by rw [hg];exact (below_size (by repeat (first|(with_reducible first|exact HB.out|apply below_alloc|apply pw_below_drewN|apply below_drew1|refine below_set ?_ GE569.out)|exact HB.out))):w.heap.size≤gb570));have n5_:=Aside0.mk ((by rw [hg];exact Nat.ne_of_lt (blk_lt (g:=gb569) (o := .cells #[.string a0_0, .slice A0_1 l0_1.length c0_1] 41 (0,0)) (by (with_reducible repeat (first|refine blk_drewN ?_ _|refine blk_drew ?_|refine blk_alloc ?_ _));exact BK569.out)):gb569≠gb570));have n6_:=Aside0.mk ((by rw [hg];exact Nat.ne_of_gt (blk_lt (g:=gb569) (o := .cells #[.string a0_0, .slice A0_1 l0_1.length c0_1] 41 (0,0)) (by (with_reducible repeat (first|refine blk_drewN ?_ _|refine blk_drew ?_|refine blk_alloc ?_ _));exact BK569.out)):gb570≠gb569));clear BK569;clear HB;have BK569:=n0_;have HB:=n1_;have BK570:=n2_;have GW570:=n3_;have GE570:=n4_;have NB569_570:=n5_;have NB570_569:=n6_;clear n0_ n1_ n2_ n3_ n4_ n5_ n6_;clear hb hbox hg)|((with_reducible refine gate_callee (f:=27) rfl ?_);refine goesL_ (some 5) rfl rfl Tryd.func27 (by kernel_rfl) rfl #[] rfl (by (try simp only [List.map_toArray,List.map_cons,List.map_nil]);first|done|rfl|(simp only [List.length_drop,List.length_take];rfl)) ?_;(with_reducible refine (ebbtidelaw04_alive.calls k  true _ A3.out).mono ?_);rintro e w8 ⟨rfl,hb⟩;refine ⟨_,rfl,?_⟩;have n0_:=Aside0.mk (blk_below (g:=gb569) (o := .cells #[.string a0_0, .slice A0_1 l0_1.length c0_1] 41 (0,0)) (by (with_reducible repeat (first|refine blk_drewN ?_ _|refine blk_drew ?_|refine blk_alloc ?_ _));exact BK569.out) hb);have n1_:=Aside0.mk (blk_below (g:=gb570) (o := .cells #[.string a1_0, .slice A1_1 l1_1.length c1_1] 41 (0,0)) (by (with_reducible repeat (first|refine blk_drewN ?_ _|refine blk_drew ?_|refine blk_alloc ?_ _));exact BK570.out) hb);have n2_:=Aside0.mk (below_step (by repeat (first|(with_reducible first|exact HB.out|apply below_alloc|apply pw_below_drewN|apply below_drew1|refine below_set ?_ GE569.out|refine below_set ?_ GE570.out)|exact HB.out)) hb);clear BK569;clear BK570;clear HB;have BK569:=n0_;have BK570:=n1_;have HB:=n2_;clear n0_ n1_ n2_;(try clear hb);(try clear hb2);(try clear hk);(try clear hi)))
  (try simp only [Act.put,List.setIfInBounds_toArray,List.set_cons_zero,List.set_cons_succ])
  go_cut [24] (fun v24 wc=>∃ (kq:Nat) (x24_4:Bool),v24 = .bool x24_4∧Aside0 (ebbtidelaw04_KeyApart.j0 kq x24_4 a0_0 l0_1 a1_0 l1_1=some r)∧Aside0 (kq≤k)∧Aside0 (wc.heap[gb569]?=some (.cells #[.string a0_0,(.slice A0_1 l0_1.length c0_1)] 41 (0,0)))∧Aside0 (wc.heap[gb570]?=some (.cells #[.string a1_0,(.slice A1_1 l1_1.length c1_1)] 41 (0,0)))∧Aside0 (Below w.heap.size w wc))
  case first =>
   have H:=HC5.out
   clear HC5
   replace H:=Option.bind_eq_some_iff.mp H
   obtain ⟨t572,A90,H⟩:=H
   replace H:(if t572=true then (ebbtidelaw04_KeyApart.j0 k true a0_0 l0_1 a1_0 l1_1) else ((ebbtideref03_Great.f k l1_1).bind fun t573=>(if t573=true then (ebbtidelaw04_KeyApart.j0 k true a0_0 l0_1 a1_0 l1_1) else ((ebbtideref04_Right.f k a0_0 l0_1).bind fun t574=>(if t574=true then ((ebbtideref04_Right.f k a1_0 l1_1).bind fun t575=>(ebbtidelaw04_KeyApart.j0 k (!t575) a0_0 l0_1 a1_0 l1_1)) else (ebbtidelaw04_KeyApart.j0 k true a0_0 l0_1 a1_0 l1_1))))))=some r:=H
   have A9:=Aside0.mk A90
   clear A90
   by_cases c10:t572=true
   ·subst c10
    have H1:(ebbtidelaw04_KeyApart.j0 k true a0_0 l0_1 a1_0 l1_1)=some r:=by rw [if_pos rfl] at H;exact H
    clear H
    have H:=H1
    clear H1
    have H':=Aside0.mk H
    clear H
    have hnb11:=NB569_570.out
    have hnc11:=NB570_569.out
    have hcz12_0:w8.cell? ⟨gb569,0,none⟩=some (.string a0_0):=(blk_cell BK569.out 0).trans rfl
    have hcz12_1:w8.cell? ⟨gb569,1,none⟩=some (.slice A0_1 l0_1.length c0_1):=(blk_cell BK569.out 1).trans rfl
    have hfz12_0:=blk_frozen BK569.out 0
    have hfz12_1:=blk_frozen BK569.out 1
    go_wp2_with (first|((with_reducible refine gate_callee (f:=13) rfl ?_);refine goesL_ (some 9) rfl rfl Tryd.func13 (by kernel_rfl) rfl #[.slice A0_1 l0_1.length c0_1] rfl (by (try simp only [List.map_toArray,List.map_cons,List.map_nil]);first|done|rfl|(simp only [List.length_drop,List.length_take];rfl)) ?_;(with_reducible refine (ebbtideref03_Great.calls k _ _ l0_1 true _ ?side1 ?side2 A9.out).mono ?_);(case side1=>repeat (first|exact (Kd.C_below HR0_1.out HB.out)|(with_reducible refine Kd.C_alloc ?_ _)|(with_reducible refine Kd.C_drewN ?_ _)|(with_reducible refine Kd.C_drew ?_)));(case side2=>exact HC0_1.out);rintro e w' ⟨rfl,⟨nd,rfl⟩⟩;refine ⟨_,rfl,?_⟩))
    go_meet
    case rel=>exact ⟨_,(true),(by first|rfl|(simp;done)|(simp [*];done)),H',⟨by first|omega|exact Nat.le_refl _⟩,⟨by (with_reducible repeat (first|refine blk_drewN ?_ _|refine blk_drew ?_|refine blk_alloc ?_ _));exact BK569.out⟩,⟨by (with_reducible repeat (first|refine blk_drewN ?_ _|refine blk_drew ?_|refine blk_alloc ?_ _));exact BK570.out⟩,⟨by repeat (first|(with_reducible first|exact HB.out|apply below_alloc|apply pw_below_drewN|apply below_drew1|refine below_set ?_ GE569.out|refine below_set ?_ GE570.out)|exact HB.out)⟩⟩
   ·replace c10:=Bool.eq_false_iff.mpr c10
    subst c10
    have H1:((ebbtideref03_Great.f k l1_1).bind fun t573=>(if t573=true then (ebbtidelaw04_KeyApart.j0 k true a0_0 l0_1 a1_0 l1_1) else ((ebbtideref04_Right.f k a0_0 l0_1).bind fun t574=>(if t574=true then ((ebbtideref04_Right.f k a1_0 l1_1).bind fun t575=>(ebbtidelaw04_KeyApart.j0 k (!t575) a0_0 l0_1 a1_0 l1_1)) else (ebbtidelaw04_KeyApart.j0 k true a0_0 l0_1 a1_0 l1_1)))))=some r:=by rw [if_neg (show ¬ (false=true) by decide)] at H;exact H
    clear H
    have H:=H1
    clear H1
    replace H:=Option.bind_eq_some_iff.mp H
    obtain ⟨t573,A130,H⟩:=H
    replace H:(if t573=true then (ebbtidelaw04_KeyApart.j0 k true a0_0 l0_1 a1_0 l1_1) else ((ebbtideref04_Right.f k a0_0 l0_1).bind fun t574=>(if t574=true then ((ebbtideref04_Right.f k a1_0 l1_1).bind fun t575=>(ebbtidelaw04_KeyApart.j0 k (!t575) a0_0 l0_1 a1_0 l1_1)) else (ebbtidelaw04_KeyApart.j0 k true a0_0 l0_1 a1_0 l1_1))))=some r:=H
    have A13:=Aside0.mk A130
    clear A130
    by_cases c14:t573=true
    ·subst c14
     have H1:(ebbtidelaw04_KeyApart.j0 k true a0_0 l0_1 a1_0 l1_1)=some r:=by rw [if_pos rfl] at H;exact H
     clear H
     have H:=H1
     clear H1
     have H':=Aside0.mk H
     clear H
     have hnb15:=NB569_570.out
     have hnc15:=NB570_569.out
     have hcz16_0:w8.cell? ⟨gb569,0,none⟩=some (.string a0_0):=(blk_cell BK569.out 0).trans rfl
     have hcz16_1:w8.cell? ⟨gb569,1,none⟩=some (.slice A0_1 l0_1.length c0_1):=(blk_cell BK569.out 1).trans rfl
     have hfz16_0:=blk_frozen BK569.out 0
     have hfz16_1:=blk_frozen BK569.out 1
     go_wp2_with (first|((with_reducible refine gate_callee (f:=13) rfl ?_);refine goesL_ (some 9) rfl rfl Tryd.func13 (by kernel_rfl) rfl #[.slice A0_1 l0_1.length c0_1] rfl (by (try simp only [List.map_toArray,List.map_cons,List.map_nil]);first|done|rfl|(simp only [List.length_drop,List.length_take];rfl)) ?_;(with_reducible refine (ebbtideref03_Great.calls k _ _ l0_1 false _ ?side1 ?side2 A9.out).mono ?_);(case side1=>repeat (first|exact (Kd.C_below HR0_1.out HB.out)|(with_reducible refine Kd.C_alloc ?_ _)|(with_reducible refine Kd.C_drewN ?_ _)|(with_reducible refine Kd.C_drew ?_)));(case side2=>exact HC0_1.out);rintro e w' ⟨rfl,⟨nd,rfl⟩⟩;refine ⟨_,rfl,?_⟩;have hcz17_0:w8.cell? ⟨gb570,0,none⟩=some (.string a1_0):=(blk_cell BK570.out 0).trans rfl;have hcz17_1:w8.cell? ⟨gb570,1,none⟩=some (.slice A1_1 l1_1.length c1_1):=(blk_cell BK570.out 1).trans rfl;have hfz17_0:=blk_frozen BK570.out 0;have hfz17_1:=blk_frozen BK570.out 1)|(go_at_call 13;(with_reducible refine (ebbtideref03_Great.calls k _ _ l1_1 true _ ?side1 ?side2 A13.out).mono ?_);(case side1=>repeat (first|exact (Kd.C_below HR1_1.out (by repeat (first|(with_reducible first|exact HB.out|apply below_alloc|apply pw_below_drewN|apply below_drew1|refine below_set ?_ GE569.out|refine below_set ?_ GE570.out)|exact HB.out)))|(with_reducible refine Kd.C_alloc ?_ _)|(with_reducible refine Kd.C_drewN ?_ _)|(with_reducible refine Kd.C_drew ?_)));(case side2=>exact HC1_1.out);rintro e w' ⟨rfl,⟨nd,rfl⟩⟩))
     go_meet
     case rel=>exact ⟨_,(true),(by first|rfl|(simp;done)|(simp [*];done)),H',⟨by first|omega|exact Nat.le_refl _⟩,⟨by (with_reducible repeat (first|refine blk_drewN ?_ _|refine blk_drew ?_|refine blk_alloc ?_ _));exact BK569.out⟩,⟨by (with_reducible repeat (first|refine blk_drewN ?_ _|refine blk_drew ?_|refine blk_alloc ?_ _));exact BK570.out⟩,⟨by repeat (first|(with_reducible first|exact HB.out|apply below_alloc|apply pw_below_drewN|apply below_drew1|refine below_set ?_ GE569.out|refine below_set ?_ GE570.out)|exact HB.out)⟩⟩
    ·replace c14:=Bool.eq_false_iff.mpr c14
     subst c14
     have H1:((ebbtideref04_Right.f k a0_0 l0_1).bind fun t574=>(if t574=true then ((ebbtideref04_Right.f k a1_0 l1_1).bind fun t575=>(ebbtidelaw04_KeyApart.j0 k (!t575) a0_0 l0_1 a1_0 l1_1)) else (ebbtidelaw04_KeyApart.j0 k true a0_0 l0_1 a1_0 l1_1)))=some r:=by rw [if_neg (show ¬ (false=true) by decide)] at H;exact H
     clear H
     have H:=H1
     clear H1
     replace H:=Option.bind_eq_some_iff.mp H
     obtain ⟨t574,A180,H⟩:=H
     replace H:(if t574=true then ((ebbtideref04_Right.f k a1_0 l1_1).bind fun t575=>(ebbtidelaw04_KeyApart.j0 k (!t575) a0_0 l0_1 a1_0 l1_1)) else (ebbtidelaw04_KeyApart.j0 k true a0_0 l0_1 a1_0 l1_1))=some r:=H
     have A18:=Aside0.mk A180
     clear A180
     by_cases c19:t574=true
     ·subst c19
      have H1:((ebbtideref04_Right.f k a1_0 l1_1).bind fun t575=>(ebbtidelaw04_KeyApart.j0 k (!t575) a0_0 l0_1 a1_0 l1_1))=some r:=by rw [if_pos rfl] at H;exact H
      clear H
      have H:=H1
      clear H1
      replace H:=Option.bind_eq_some_iff.mp H
      obtain ⟨t575,A200,H⟩:=H
      replace H:(ebbtidelaw04_KeyApart.j0 k (!t575) a0_0 l0_1 a1_0 l1_1)=some r:=H
      have A20:=Aside0.mk A200
      clear A200
      have H':=Aside0.mk H
      clear H
      have hnb21:=NB569_570.out
      have hnc21:=NB570_569.out
      have hcz22_0:w8.cell? ⟨gb569,0,none⟩=some (.string a0_0):=(blk_cell BK569.out 0).trans rfl
      have hcz22_1:w8.cell? ⟨gb569,1,none⟩=some (.slice A0_1 l0_1.length c0_1):=(blk_cell BK569.out 1).trans rfl
      have hfz22_0:=blk_frozen BK569.out 0
      have hfz22_1:=blk_frozen BK569.out 1
      go_wp2_with (first|((with_reducible refine gate_callee (f:=13) rfl ?_);refine goesL_ (some 9) rfl rfl Tryd.func13 (by kernel_rfl) rfl #[.slice A0_1 l0_1.length c0_1] rfl (by (try simp only [List.map_toArray,List.map_cons,List.map_nil]);first|done|rfl|(simp only [List.length_drop,List.length_take];rfl)) ?_;(with_reducible refine (ebbtideref03_Great.calls k _ _ l0_1 false _ ?side1 ?side2 A9.out).mono ?_);(case side1=>repeat (first|exact (Kd.C_below HR0_1.out HB.out)|(with_reducible refine Kd.C_alloc ?_ _)|(with_reducible refine Kd.C_drewN ?_ _)|(with_reducible refine Kd.C_drew ?_)));(case side2=>exact HC0_1.out);rintro e w' ⟨rfl,⟨nd,rfl⟩⟩;refine ⟨_,rfl,?_⟩;have hcz23_0:w8.cell? ⟨gb570,0,none⟩=some (.string a1_0):=(blk_cell BK570.out 0).trans rfl;have hcz23_1:w8.cell? ⟨gb570,1,none⟩=some (.slice A1_1 l1_1.length c1_1):=(blk_cell BK570.out 1).trans rfl;have hfz23_0:=blk_frozen BK570.out 0;have hfz23_1:=blk_frozen BK570.out 1)|(go_at_call 13;(with_reducible refine (ebbtideref03_Great.calls k _ _ l1_1 false _ ?side1 ?side2 A13.out).mono ?_);(case side1=>repeat (first|exact (Kd.C_below HR1_1.out (by repeat (first|(with_reducible first|exact HB.out|apply below_alloc|apply pw_below_drewN|apply below_drew1|refine below_set ?_ GE569.out|refine below_set ?_ GE570.out)|exact HB.out)))|(with_reducible refine Kd.C_alloc ?_ _)|(with_reducible refine Kd.C_drewN ?_ _)|(with_reducible refine Kd.C_drew ?_)));(case side2=>exact HC1_1.out);rintro e w' ⟨rfl,⟨nd,rfl⟩⟩)|(go_at_call 32;(with_reducible refine (ebbtideref04_Right.calls k a0_0 _ _ l0_1 true _ ?side1 ?side2 A18.out).mono ?_);(case side1=>repeat (first|exact (Kd.C_below HR0_1.out (by repeat (first|(with_reducible first|exact HB.out|apply below_alloc|apply pw_below_drewN|apply below_drew1|refine below_set ?_ GE569.out|refine below_set ?_ GE570.out)|exact HB.out)))|(with_reducible refine Kd.C_alloc ?_ _)|(with_reducible refine Kd.C_drewN ?_ _)|(with_reducible refine Kd.C_drew ?_)));(case side2=>exact HC0_1.out);rintro e w24 ⟨rfl,hb⟩;have n0_:=Aside0.mk (blk_below (g:=gb569) (o := .cells #[.string a0_0, .slice A0_1 l0_1.length c0_1] 41 (0,0)) (by (with_reducible repeat (first|refine blk_drewN ?_ _|refine blk_drew ?_|refine blk_alloc ?_ _));exact BK569.out) hb);have n1_:=Aside0.mk (blk_below (g:=gb570) (o := .cells #[.string a1_0, .slice A1_1 l1_1.length c1_1] 41 (0,0)) (by (with_reducible repeat (first|refine blk_drewN ?_ _|refine blk_drew ?_|refine blk_alloc ?_ _));exact BK570.out) hb);have n2_:=Aside0.mk (below_step (by repeat (first|(with_reducible first|exact HB.out|apply below_alloc|apply pw_below_drewN|apply below_drew1|refine below_set ?_ GE569.out|refine below_set ?_ GE570.out)|exact HB.out)) hb);clear BK569;clear BK570;clear HB;have BK569:=n0_;have BK570:=n1_;have HB:=n2_;clear n0_ n1_ n2_;(try clear hb);(try clear hb2);(try clear hk);(try clear hi);have hcz25_0:w24.cell? ⟨gb570,0,none⟩=some (.string a1_0):=(blk_cell BK570.out 0).trans rfl;have hcz25_1:w24.cell? ⟨gb570,1,none⟩=some (.slice A1_1 l1_1.length c1_1):=(blk_cell BK570.out 1).trans rfl;have hfz25_0:=blk_frozen BK570.out 0;have hfz25_1:=blk_frozen BK570.out 1)|(go_at_call 32;(with_reducible refine (ebbtideref04_Right.calls k a1_0 _ _ l1_1 t575 _ ?side1 ?side2 A20.out).mono ?_);(case side1=>repeat (first|exact (Kd.C_below HR1_1.out HB.out)|(with_reducible refine Kd.C_alloc ?_ _)|(with_reducible refine Kd.C_drewN ?_ _)|(with_reducible refine Kd.C_drew ?_)));(case side2=>exact HC1_1.out);rintro e w26 ⟨rfl,hb⟩;have n0_:=Aside0.mk (blk_below (g:=gb569) (o := .cells #[.string a0_0, .slice A0_1 l0_1.length c0_1] 41 (0,0)) (by (with_reducible repeat (first|refine blk_drewN ?_ _|refine blk_drew ?_|refine blk_alloc ?_ _));exact BK569.out) hb);have n1_:=Aside0.mk (blk_below (g:=gb570) (o := .cells #[.string a1_0, .slice A1_1 l1_1.length c1_1] 41 (0,0)) (by (with_reducible repeat (first|refine blk_drewN ?_ _|refine blk_drew ?_|refine blk_alloc ?_ _));exact BK570.out) hb);have n2_:=Aside0.mk (below_step (by repeat (first|(with_reducible first|exact HB.out|apply below_alloc|apply pw_below_drewN|apply below_drew1|refine below_set ?_ GE569.out|refine below_set ?_ GE570.out)|exact HB.out)) hb);clear BK569;clear BK570;clear HB;have BK569:=n0_;have BK570:=n1_;have HB:=n2_;clear n0_ n1_ n2_;(try clear hb);(try clear hb2);(try clear hk);(try clear hi)))
      go_meet
      case rel=>exact ⟨_,(!t575),(by first|rfl|(simp;done)|(simp [*];done)),H',⟨by first|omega|exact Nat.le_refl _⟩,⟨by (with_reducible repeat (first|refine blk_drewN ?_ _|refine blk_drew ?_|refine blk_alloc ?_ _));exact BK569.out⟩,⟨by (with_reducible repeat (first|refine blk_drewN ?_ _|refine blk_drew ?_|refine blk_alloc ?_ _));exact BK570.out⟩,⟨by repeat (first|(with_reducible first|exact HB.out|apply below_alloc|apply pw_below_drewN|apply below_drew1|refine below_set ?_ GE569.out|refine below_set ?_ GE570.out)|exact HB.out)⟩⟩
     ·replace c19:=Bool.eq_false_iff.mpr c19
      subst c19
      have H1:(ebbtidelaw04_KeyApart.j0 k true a0_0 l0_1 a1_0 l1_1)=some r:=by rw [if_neg (show ¬ (false=true) by decide)] at H;exact H
      clear H
      have H:=H1
      clear H1
      have H':=Aside0.mk H
      clear H
      have hnb27:=NB569_570.out
      have hnc27:=NB570_569.out
      have hcz28_0:w8.cell? ⟨gb569,0,none⟩=some (.string a0_0):=(blk_cell BK569.out 0).trans rfl
      have hcz28_1:w8.cell? ⟨gb569,1,none⟩=some (.slice A0_1 l0_1.length c0_1):=(blk_cell BK569.out 1).trans rfl
      have hfz28_0:=blk_frozen BK569.out 0
      have hfz28_1:=blk_frozen BK569.out 1
      go_wp2_with (first|((with_reducible refine gate_callee (f:=13) rfl ?_);refine goesL_ (some 9) rfl rfl Tryd.func13 (by kernel_rfl) rfl #[.slice A0_1 l0_1.length c0_1] rfl (by (try simp only [List.map_toArray,List.map_cons,List.map_nil]);first|done|rfl|(simp only [List.length_drop,List.length_take];rfl)) ?_;(with_reducible refine (ebbtideref03_Great.calls k _ _ l0_1 false _ ?side1 ?side2 A9.out).mono ?_);(case side1=>repeat (first|exact (Kd.C_below HR0_1.out HB.out)|(with_reducible refine Kd.C_alloc ?_ _)|(with_reducible refine Kd.C_drewN ?_ _)|(with_reducible refine Kd.C_drew ?_)));(case side2=>exact HC0_1.out);rintro e w' ⟨rfl,⟨nd,rfl⟩⟩;refine ⟨_,rfl,?_⟩;have hcz29_0:w8.cell? ⟨gb570,0,none⟩=some (.string a1_0):=(blk_cell BK570.out 0).trans rfl;have hcz29_1:w8.cell? ⟨gb570,1,none⟩=some (.slice A1_1 l1_1.length c1_1):=(blk_cell BK570.out 1).trans rfl;have hfz29_0:=blk_frozen BK570.out 0;have hfz29_1:=blk_frozen BK570.out 1)|(go_at_call 13;(with_reducible refine (ebbtideref03_Great.calls k _ _ l1_1 false _ ?side1 ?side2 A13.out).mono ?_);(case side1=>repeat (first|exact (Kd.C_below HR1_1.out (by repeat (first|(with_reducible first|exact HB.out|apply below_alloc|apply pw_below_drewN|apply below_drew1|refine below_set ?_ GE569.out|refine below_set ?_ GE570.out)|exact HB.out)))|(with_reducible refine Kd.C_alloc ?_ _)|(with_reducible refine Kd.C_drewN ?_ _)|(with_reducible refine Kd.C_drew ?_)));(case side2=>exact HC1_1.out);rintro e w' ⟨rfl,⟨nd,rfl⟩⟩)|(go_at_call 32;(with_reducible refine (ebbtideref04_Right.calls k a0_0 _ _ l0_1 false _ ?side1 ?side2 A18.out).mono ?_);(case side1=>repeat (first|exact (Kd.C_below HR0_1.out (by repeat (first|(with_reducible first|exact HB.out|apply below_alloc|apply pw_below_drewN|apply below_drew1|refine below_set ?_ GE569.out|refine below_set ?_ GE570.out)|exact HB.out)))|(with_reducible refine Kd.C_alloc ?_ _)|(with_reducible refine Kd.C_drewN ?_ _)|(with_reducible refine Kd.C_drew ?_)));(case side2=>exact HC0_1.out);rintro e w30 ⟨rfl,hb⟩;have n0_:=Aside0.mk (blk_below (g:=gb569) (o := .cells #[.string a0_0, .slice A0_1 l0_1.length c0_1] 41 (0,0)) (by (with_reducible repeat (first|refine blk_drewN ?_ _|refine blk_drew ?_|refine blk_alloc ?_ _));exact BK569.out) hb);have n1_:=Aside0.mk (blk_below (g:=gb570) (o := .cells #[.string a1_0, .slice A1_1 l1_1.length c1_1] 41 (0,0)) (by (with_reducible repeat (first|refine blk_drewN ?_ _|refine blk_drew ?_|refine blk_alloc ?_ _));exact BK570.out) hb);have n2_:=Aside0.mk (below_step (by repeat (first|(with_reducible first|exact HB.out|apply below_alloc|apply pw_below_drewN|apply below_drew1|refine below_set ?_ GE569.out|refine below_set ?_ GE570.out)|exact HB.out)) hb);clear BK569;clear BK570;clear HB;have BK569:=n0_;have BK570:=n1_;have HB:=n2_;clear n0_ n1_ n2_;(try clear hb);(try clear hb2);(try clear hk);(try clear hi)))
      go_meet
      case rel=>exact ⟨_,(true),(by first|rfl|(simp;done)|(simp [*];done)),H',⟨by first|omega|exact Nat.le_refl _⟩,⟨by (with_reducible repeat (first|refine blk_drewN ?_ _|refine blk_drew ?_|refine blk_alloc ?_ _));exact BK569.out⟩,⟨by (with_reducible repeat (first|refine blk_drewN ?_ _|refine blk_drew ?_|refine blk_alloc ?_ _));exact BK570.out⟩,⟨by repeat (first|(with_reducible first|exact HB.out|apply below_alloc|apply pw_below_drewN|apply below_drew1|refine below_set ?_ GE569.out|refine below_set ?_ GE570.out)|exact HB.out)⟩⟩
  case rest =>
   clear HC5
   try clear c1
   try clear c2
   try clear p2
   try clear c4
   try clear c10
   try clear c11
   try clear c13
   try clear c14
   try clear c15
   try clear c19
   try clear c21
   try clear c27
   try clear hcz12_0
   try clear hcz12_1
   try clear hcz16_0
   try clear hcz16_1
   try clear hcz17_0
   try clear hcz17_1
   try clear hcz22_0
   try clear hcz22_1
   try clear hcz23_0
   try clear hcz23_1
   try clear hcz25_0
   try clear hcz25_1
   try clear hcz28_0
   try clear hcz28_1
   try clear hcz29_0
   try clear hcz29_1
   try clear hfz12_0
   try clear hfz12_1
   try clear hfz16_0
   try clear hfz16_1
   try clear hfz17_0
   try clear hfz17_1
   try clear hfz22_0
   try clear hfz22_1
   try clear hfz23_0
   try clear hfz23_1
   try clear hfz25_0
   try clear hfz25_1
   try clear hfz28_0
   try clear hfz28_1
   try clear hfz29_0
   try clear hfz29_1
   obtain ⟨kq,x24_4,rfl,HA,HJ4,BK569,BK570,HB⟩:=hcut
   cases kq with
   | zero=>exact absurd HA.out (by simp [ebbtidelaw04_KeyApart.j0])
   | succ kj4 =>
    have H:=HA.out
    clear HA
    simp only [ebbtidelaw04_KeyApart.j0] at H
    by_cases c31:x24_4=true
    ·subst c31
     have H1:(some true)=some r:=by rw [if_pos rfl] at H;exact H
     clear H
     have H:=H1
     clear H1
     obtain rfl:=Option.some.inj H
     go_wp2
     go_ret
     exact ⟨by first|rfl|(simp [errW_none,errW_some]<;>rfl)|(simp [*,errW_none,errW_some]<;>rfl),by repeat (first|(with_reducible first|exact HB.out|apply below_alloc|apply pw_below_drewN|apply below_drew1|refine below_set ?_ GE569.out|refine below_set ?_ GE570.out)|exact HB.out)⟩
    ·replace c31:=Bool.eq_false_iff.mpr c31
     subst c31
     have H1:((key_Text.f kj4 a0_0 l0_1).bind fun t576=>((key_Text.f kj4 a1_0 l1_1).bind fun t577=>((ebbtideref04_Same.f kj4 a0_0 l0_1 a1_0 l1_1).bind fun t578=>(if ((t576.toList ==t577.toList) ==t578)=true then ((key_Same.f kj4 a0_0 l0_1 a1_0 l1_1).bind fun t579=>((ebbtideref04_Same.f kj4 a0_0 l0_1 a1_0 l1_1).bind fun t580=>(some (t579 ==t580)))) else (none)))))=some r:=by rw [if_neg (show ¬ (false=true) by decide)] at H;exact H
     clear H
     have H:=H1
     clear H1
     replace H:=Option.bind_eq_some_iff.mp H
     obtain ⟨t576,A320,H⟩:=H
     replace H:((key_Text.f kj4 a1_0 l1_1).bind fun t577=>((ebbtideref04_Same.f kj4 a0_0 l0_1 a1_0 l1_1).bind fun t578=>(if ((t576.toList ==t577.toList) ==t578)=true then ((key_Same.f kj4 a0_0 l0_1 a1_0 l1_1).bind fun t579=>((ebbtideref04_Same.f kj4 a0_0 l0_1 a1_0 l1_1).bind fun t580=>(some (t579 ==t580)))) else (none))))=some r:=H
     have A32:=Aside0.mk A320
     clear A320
     replace H:=Option.bind_eq_some_iff.mp H
     obtain ⟨t577,A330,H⟩:=H
     replace H:((ebbtideref04_Same.f kj4 a0_0 l0_1 a1_0 l1_1).bind fun t578=>(if ((t576.toList ==t577.toList) ==t578)=true then ((key_Same.f kj4 a0_0 l0_1 a1_0 l1_1).bind fun t579=>((ebbtideref04_Same.f kj4 a0_0 l0_1 a1_0 l1_1).bind fun t580=>(some (t579 ==t580)))) else (none)))=some r:=H
     have A33:=Aside0.mk A330
     clear A330
     replace H:=Option.bind_eq_some_iff.mp H
     obtain ⟨t578,A340,H⟩:=H
     replace H:(if ((t576.toList ==t577.toList) ==t578)=true then ((key_Same.f kj4 a0_0 l0_1 a1_0 l1_1).bind fun t579=>((ebbtideref04_Same.f kj4 a0_0 l0_1 a1_0 l1_1).bind fun t580=>(some (t579 ==t580)))) else (none))=some r:=H
     have A34:=Aside0.mk A340
     clear A340
     by_cases c35:((t576.toList ==t577.toList) ==t578)=true
     ·rw [if_pos c35] at H
      have c35b0:((t576.toList ==t577.toList) ==t578)=true:=c35
      (try (have c35b1:decide ((t576.toList ==t577.toList)=t578)=true:=by simpa using c35))
      (try (have c35b2:((t576.toList ==t577.toList) ==t578)=true:=by simpa using c35))
      clear c35
      replace H:=Option.bind_eq_some_iff.mp H
      obtain ⟨t579,A360,H⟩:=H
      replace H:((ebbtideref04_Same.f kj4 a0_0 l0_1 a1_0 l1_1).bind fun t580=>(some (t579 ==t580)))=some r:=H
      have A36:=Aside0.mk A360
      clear A360
      replace H:=Option.bind_eq_some_iff.mp H
      obtain ⟨t580,A370,H⟩:=H
      replace H:(some (t579 ==t580))=some r:=H
      have A37:=Aside0.mk A370
      clear A370
      obtain rfl:=Option.some.inj H
      try go_wp2
      have n0_:=Aside0.mk (blk_drew BK569.out)
      have n1_:=Aside0.mk (blk_drew BK570.out)
      have n2_:=Aside0.mk (below_drew1 HB.out)
      clear BK569
      clear BK570
      clear HB
      have BK569:=n0_
      have BK570:=n1_
      have HB:=n2_
      clear n0_ n1_ n2_
      refine start_ (n:=19) (S:=fun w'=>w'.cell? ⟨gb569,0,none⟩=some (.string a0_0)∧w'.cell? ⟨gb569,1,none⟩=some (.slice A0_1 l0_1.length c0_1)∧w'.cell? ⟨gb570,0,none⟩=some (.string a1_0)∧w'.cell? ⟨gb570,1,none⟩=some (.slice A1_1 l1_1.length c1_1)) (ds:=[]) #[false,false,false,false,false,false,false,false,false,false,false,false,false,false,false,false,false,false,false] (by kernel_rfl) rfl rfl ⟨(blk_cell BK569.out 0).trans rfl,(blk_cell BK569.out 1).trans rfl,(blk_cell BK570.out 0).trans rfl,(blk_cell BK570.out 1).trans rfl⟩ (fun hHeld=>?_);refine with_tabW ebbtidelaw04_KeyApart.tab5 ebbtidelaw04_KeyApart.bits5 (fun HT_ HW_=>?_)
      generalize wc.drew=w38 at BK569 BK570 HB hHeld ⊢
      refine take_ (i:=0) (N:=some 25) (v:=?_) (a':=?_) #[true,false,false,false,false,false,false,false,false,false,false,false,false,false,false,false,false,false,false] rfl rfl (take_ofW HT_.out HW_.out (by kernel_rfl)) (fun _ _ _ h=>h) (Or.inl ⟨by rfl,?_⟩) hHeld ?_ ?_
      rotate_left
      ·rintro w' ⟨s0,s1,s2,s3⟩;go_simp;with_reducible rfl
      rotate_left
      ·simp only [Act.put,List.setIfInBounds_toArray,List.set_cons_zero,List.set_cons_succ,i64_w,i32_w];rfl
      refine take_ (i:=2) (N:=some 27) (v:=?_) (a':=?_) #[true,false,true,false,false,false,false,false,false,false,false,false,false,false,false,false,false,false,false] rfl rfl (take_ofW HT_.out HW_.out (by kernel_rfl)) (fun _ _ _ h=>h) (Or.inl ⟨by rfl,?_⟩) hHeld ?_ ?_
      rotate_left
      ·rintro w' ⟨s0,s1,s2,s3⟩;go_simp;with_reducible rfl
      rotate_left
      ·simp only [Act.put,List.setIfInBounds_toArray,List.set_cons_zero,List.set_cons_succ,i64_w,i32_w];rfl
      refine take_ (i:=5) (N:=some 30) (v:=?_) (a':=?_) #[true,false,true,false,false,true,false,false,false,false,false,false,false,false,false,false,false,false,false] rfl rfl (take_ofW HT_.out HW_.out (by kernel_rfl)) (fun _ _ _ h=>h) (Or.inl ⟨by rfl,?_⟩) hHeld ?_ ?_
      rotate_left
      ·rintro w' ⟨s0,s1,s2,s3⟩;go_simp;with_reducible rfl
      rotate_left
      ·simp only [Act.put,List.setIfInBounds_toArray,List.set_cons_zero,List.set_cons_succ,i64_w,i32_w];rfl
      refine take_ (i:=6) (N:=some 31) (v:=?_) (a':=?_) #[true,false,true,false,false,true,true,false,false,false,false,false,false,false,false,false,false,false,false] rfl rfl (take_ofW HT_.out HW_.out (by kernel_rfl)) (fun _ _ _ h=>h) (Or.inl ⟨by rfl,?_⟩) hHeld ?_ ?_
      rotate_left
      ·rintro w' ⟨s0,s1,s2,s3⟩;go_simp;with_reducible rfl
      rotate_left
      ·simp only [Act.put,List.setIfInBounds_toArray,List.set_cons_zero,List.set_cons_succ,i64_w,i32_w];rfl
      refine one_ (i:=1) (N:=some 26) #[true,true,true,false,false,true,true,false,false,false,false,false,false,false,false,false,false,false,false] rfl rfl (one_of HT_.out (by kernel_rfl)) (by decide) (fun K hK=>?_)
      refine goes_ Tryd.func33 (by kernel_rfl) rfl #[.agg #[.string a0_0, .slice A0_1 l0_1.length c0_1]] (by rfl) rfl rfl (by (try simp only [List.map_toArray,List.map_cons,List.map_nil]);first|done|rfl|(simp only [List.length_drop,List.length_take];rfl)) ?_
      with_reducible refine (key_Text.calls kj4 a0_0 _ _ l0_1 t576 _ ?side1 ?side2 A32.out).mono ?_
      (case side1=>repeat (first|exact (Kd.C_below HR0_1.out HB.out)|(with_reducible refine Kd.C_alloc ?_ _)|(with_reducible refine Kd.C_drewN ?_ _)|(with_reducible refine Kd.C_drew ?_)))
      (case side2=>exact HC0_1.out)
      rintro e w39 ⟨rfl,hb⟩
      refine ⟨_,rfl,?_⟩
      have n0_:=Aside0.mk (blk_below (g:=gb569) (o := .cells #[.string a0_0, .slice A0_1 l0_1.length c0_1] 41 (0,0)) (by (with_reducible repeat (first|refine blk_drewN ?_ _|refine blk_drew ?_|refine blk_alloc ?_ _));exact BK569.out) hb)
      have n1_:=Aside0.mk (blk_below (g:=gb570) (o := .cells #[.string a1_0, .slice A1_1 l1_1.length c1_1] 41 (0,0)) (by (with_reducible repeat (first|refine blk_drewN ?_ _|refine blk_drew ?_|refine blk_alloc ?_ _));exact BK570.out) hb)
      have n2_:=Aside0.mk (below_step (by repeat (first|(with_reducible first|exact HB.out|apply below_alloc|apply pw_below_drewN|apply below_drew1|refine below_set ?_ GE569.out|refine below_set ?_ GE570.out)|exact HB.out)) hb)
      clear BK569
      clear BK570
      clear HB
      have BK569:=n0_
      have BK570:=n1_
      have HB:=n2_
      clear n0_ n1_ n2_
      (try clear hb)
      (try clear hb2)
      (try clear hk)
      (try clear hi)
      refine hK.out _ _ ⟨(blk_cell BK569.out 0).trans rfl,(blk_cell BK569.out 1).trans rfl,(blk_cell BK570.out 0).trans rfl,(blk_cell BK570.out 1).trans rfl⟩ (fun hHeld=>?_)
      clear hK K
      refine norm_ (a':=?_) ?_ ?_
      rotate_left
      ·show Act.put _ (some 26) _=_
       simp only [Act.put,List.setIfInBounds_toArray,List.set_cons_zero,List.set_cons_succ,i64_w,i32_w]
       rfl
      refine one_ (i:=3) (N:=some 28) #[true,true,true,true,false,true,true,false,false,false,false,false,false,false,false,false,false,false,false] rfl rfl (one_of HT_.out (by kernel_rfl)) (by decide) (fun K hK=>?_)
      refine goes_ Tryd.func33 (by kernel_rfl) rfl #[.agg #[.string a1_0, .slice A1_1 l1_1.length c1_1]] (by rfl) rfl rfl (by (try simp only [List.map_toArray,List.map_cons,List.map_nil]);first|done|rfl|(simp only [List.length_drop,List.length_take];rfl)) ?_
      with_reducible refine (key_Text.calls kj4 a1_0 _ _ l1_1 t577 _ ?side1 ?side2 A33.out).mono ?_
      (case side1=>repeat (first|exact (Kd.C_below HR1_1.out HB.out)|(with_reducible refine Kd.C_alloc ?_ _)|(with_reducible refine Kd.C_drewN ?_ _)|(with_reducible refine Kd.C_drew ?_)))
      (case side2=>exact HC1_1.out)
      rintro e w40 ⟨rfl,hb⟩
      refine ⟨_,rfl,?_⟩
      have n0_:=Aside0.mk (blk_below (g:=gb569) (o := .cells #[.string a0_0, .slice A0_1 l0_1.length c0_1] 41 (0,0)) (by (with_reducible repeat (first|refine blk_drewN ?_ _|refine blk_drew ?_|refine blk_alloc ?_ _));exact BK569.out) hb)
      have n1_:=Aside0.mk (blk_below (g:=gb570) (o := .cells #[.string a1_0, .slice A1_1 l1_1.length c1_1] 41 (0,0)) (by (with_reducible repeat (first|refine blk_drewN ?_ _|refine blk_drew ?_|refine blk_alloc ?_ _));exact BK570.out) hb)
      have n2_:=Aside0.mk (below_step (by repeat (first|(with_reducible first|exact HB.out|apply below_alloc|apply pw_below_drewN|apply below_drew1|refine below_set ?_ GE569.out|refine below_set ?_ GE570.out)|exact HB.out)) hb)
      clear BK569
      clear BK570
      clear HB
      have BK569:=n0_
      have BK570:=n1_
      have HB:=n2_
      clear n0_ n1_ n2_
      (try clear hb)
      (try clear hb2)
      (try clear hk)
      (try clear hi)
      refine hK.out _ _ ⟨(blk_cell BK569.out 0).trans rfl,(blk_cell BK569.out 1).trans rfl,(blk_cell BK570.out 0).trans rfl,(blk_cell BK570.out 1).trans rfl⟩ (fun hHeld=>?_)
      clear hK K
      refine norm_ (a':=?_) ?_ ?_
      rotate_left
      ·show Act.put _ (some 28) _=_
       simp only [Act.put,List.setIfInBounds_toArray,List.set_cons_zero,List.set_cons_succ,i64_w,i32_w]
       rfl
      refine pure_ (i:=4) (N:=some 29) (v:=?_) (a':=?_) #[true,true,true,true,true,true,true,false,false,false,false,false,false,false,false,false,false,false,false] rfl rfl (any_of HT_.out (by kernel_rfl)) (fun _ _ _ h=>h) (Or.inl ⟨by rfl,?_⟩) ?_ ?_
      rotate_left
      ·intro w';go_simp;with_reducible rfl
      rotate_left
      ·simp only [Act.put,List.setIfInBounds_toArray,List.set_cons_zero,List.set_cons_succ,i64_w,i32_w];rfl
      refine one_ (i:=7) (N:=some 32) #[true,true,true,true,true,true,true,true,false,false,false,false,false,false,false,false,false,false,false] rfl rfl (one_of HT_.out (by kernel_rfl)) (by decide) (fun K hK=>?_)
      refine goes_ Tryd.func30 (by kernel_rfl) rfl #[.agg #[.string a0_0, .slice A0_1 l0_1.length c0_1], .agg #[.string a1_0, .slice A1_1 l1_1.length c1_1]] (by rfl) rfl rfl (by (try simp only [List.map_toArray,List.map_cons,List.map_nil]);first|done|rfl|(simp only [List.length_drop,List.length_take];rfl)) ?_
      with_reducible refine (ebbtideref04_Same.calls kj4 a0_0 _ _ l0_1 a1_0 _ _ l1_1 t578 _ ?side1 ?side2 ?side3 ?side4 A34.out).mono ?_
      (case side1=>repeat (first|exact (Kd.C_below HR0_1.out HB.out)|(with_reducible refine Kd.C_alloc ?_ _)|(with_reducible refine Kd.C_drewN ?_ _)|(with_reducible refine Kd.C_drew ?_)))
      (case side2=>exact HC0_1.out)
      (case side3=>repeat (first|exact (Kd.C_below HR1_1.out HB.out)|(with_reducible refine Kd.C_alloc ?_ _)|(with_reducible refine Kd.C_drewN ?_ _)|(with_reducible refine Kd.C_drew ?_)))
      (case side4=>exact HC1_1.out)
      rintro e w41 ⟨rfl,hb⟩
      refine ⟨_,rfl,?_⟩
      have n0_:=Aside0.mk (blk_below (g:=gb569) (o := .cells #[.string a0_0, .slice A0_1 l0_1.length c0_1] 41 (0,0)) (by (with_reducible repeat (first|refine blk_drewN ?_ _|refine blk_drew ?_|refine blk_alloc ?_ _));exact BK569.out) hb)
      have n1_:=Aside0.mk (blk_below (g:=gb570) (o := .cells #[.string a1_0, .slice A1_1 l1_1.length c1_1] 41 (0,0)) (by (with_reducible repeat (first|refine blk_drewN ?_ _|refine blk_drew ?_|refine blk_alloc ?_ _));exact BK570.out) hb)
      have n2_:=Aside0.mk (below_step (by repeat (first|(with_reducible first|exact HB.out|apply below_alloc|apply pw_below_drewN|apply below_drew1|refine below_set ?_ GE569.out|refine below_set ?_ GE570.out)|exact HB.out)) hb)
      clear BK569
      clear BK570
      clear HB
      have BK569:=n0_
      have BK570:=n1_
      have HB:=n2_
      clear n0_ n1_ n2_
      (try clear hb)
      (try clear hb2)
      (try clear hk)
      (try clear hi)
      refine hK.out _ _ ⟨(blk_cell BK569.out 0).trans rfl,(blk_cell BK569.out 1).trans rfl,(blk_cell BK570.out 0).trans rfl,(blk_cell BK570.out 1).trans rfl⟩ (fun hHeld=>?_)
      clear hK K
      refine norm_ (a':=?_) ?_ ?_
      rotate_left
      ·show Act.put _ (some 32) _=_
       simp only [Act.put,List.setIfInBounds_toArray,List.set_cons_zero,List.set_cons_succ,i64_w,i32_w]
       rfl
      refine pure_ (i:=8) (N:=some 33) (v:=?_) (a':=?_) #[true,true,true,true,true,true,true,true,true,false,false,false,false,false,false,false,false,false,false] rfl rfl (any_of HT_.out (by kernel_rfl)) (fun _ _ _ h=>h) (Or.inl ⟨by rfl,?_⟩) ?_ ?_
      rotate_left
      ·intro w';go_simp;with_reducible rfl
      rotate_left
      ·simp only [Act.put,List.setIfInBounds_toArray,List.set_cons_zero,List.set_cons_succ,i64_w,i32_w];rfl
      refine pure_ (i:=9) (N:=some 34) (v:=?_) (a':=?_) #[true,true,true,true,true,true,true,true,true,true,false,false,false,false,false,false,false,false,false] rfl rfl (any_of HT_.out (by kernel_rfl)) (fun _ _ _ h=>h) (Or.inl ⟨by rfl,?_⟩) ?_ ?_
      rotate_left
      ·intro w';go_simp;with_reducible rfl
      rotate_left
      ·simp only [Act.put,List.setIfInBounds_toArray,List.set_cons_zero,List.set_cons_succ,i64_w,i32_w];rfl
      refine take_ (i:=10) (N:=some 35) (v:=?_) (a':=?_) #[true,true,true,true,true,true,true,true,true,true,true,false,false,false,false,false,false,false,false] rfl rfl (take_ofW HT_.out HW_.out (by kernel_rfl)) (fun _ _ _ h=>h) (Or.inl ⟨by rfl,?_⟩) hHeld ?_ ?_
      rotate_left
      ·rintro w' ⟨s0,s1,s2,s3⟩;go_simp;with_reducible rfl
      rotate_left
      ·simp only [Act.put,List.setIfInBounds_toArray,List.set_cons_zero,List.set_cons_succ,i64_w,i32_w];rfl
      refine take_ (i:=11) (N:=some 36) (v:=?_) (a':=?_) #[true,true,true,true,true,true,true,true,true,true,true,true,false,false,false,false,false,false,false] rfl rfl (take_ofW HT_.out HW_.out (by kernel_rfl)) (fun _ _ _ h=>h) (Or.inl ⟨by rfl,?_⟩) hHeld ?_ ?_
      rotate_left
      ·rintro w' ⟨s0,s1,s2,s3⟩;go_simp;with_reducible rfl
      rotate_left
      ·simp only [Act.put,List.setIfInBounds_toArray,List.set_cons_zero,List.set_cons_succ,i64_w,i32_w];rfl
      refine take_ (i:=13) (N:=some 38) (v:=?_) (a':=?_) #[true,true,true,true,true,true,true,true,true,true,true,true,false,true,false,false,false,false,false] rfl rfl (take_ofW HT_.out HW_.out (by kernel_rfl)) (fun _ _ _ h=>h) (Or.inl ⟨by rfl,?_⟩) hHeld ?_ ?_
      rotate_left
      ·rintro w' ⟨s0,s1,s2,s3⟩;go_simp;with_reducible rfl
      rotate_left
      ·simp only [Act.put,List.setIfInBounds_toArray,List.set_cons_zero,List.set_cons_succ,i64_w,i32_w];rfl
      refine take_ (i:=14) (N:=some 39) (v:=?_) (a':=?_) #[true,true,true,true,true,true,true,true,true,true,true,true,false,true,true,false,false,false,false] rfl rfl (take_ofW HT_.out HW_.out (by kernel_rfl)) (fun _ _ _ h=>h) (Or.inl ⟨by rfl,?_⟩) hHeld ?_ ?_
      rotate_left
      ·rintro w' ⟨s0,s1,s2,s3⟩;go_simp;with_reducible rfl
      rotate_left
      ·simp only [Act.put,List.setIfInBounds_toArray,List.set_cons_zero,List.set_cons_succ,i64_w,i32_w];rfl
      refine one_ (i:=12) (N:=some 37) #[true,true,true,true,true,true,true,true,true,true,true,true,true,true,true,false,false,false,false] rfl rfl (one_of HT_.out (by kernel_rfl)) (by decide) (fun K hK=>?_)
      refine goes_ Tryd.func35 (by kernel_rfl) rfl #[.agg #[.string a0_0, .slice A0_1 l0_1.length c0_1], .agg #[.string a1_0, .slice A1_1 l1_1.length c1_1]] (by rfl) rfl rfl (by (try simp only [List.map_toArray,List.map_cons,List.map_nil]);first|done|rfl|(simp only [List.length_drop,List.length_take];rfl)) ?_
      with_reducible refine (key_Same.calls kj4 a0_0 _ _ l0_1 a1_0 _ _ l1_1 t579 _ ?side1 ?side2 ?side3 ?side4 A36.out).mono ?_
      (case side1=>repeat (first|exact (Kd.C_below HR0_1.out HB.out)|(with_reducible refine Kd.C_alloc ?_ _)|(with_reducible refine Kd.C_drewN ?_ _)|(with_reducible refine Kd.C_drew ?_)))
      (case side2=>exact HC0_1.out)
      (case side3=>repeat (first|exact (Kd.C_below HR1_1.out HB.out)|(with_reducible refine Kd.C_alloc ?_ _)|(with_reducible refine Kd.C_drewN ?_ _)|(with_reducible refine Kd.C_drew ?_)))
      (case side4=>exact HC1_1.out)
      rintro e w42 ⟨rfl,hb⟩
      refine ⟨_,rfl,?_⟩
      have n0_:=Aside0.mk (blk_below (g:=gb569) (o := .cells #[.string a0_0, .slice A0_1 l0_1.length c0_1] 41 (0,0)) (by (with_reducible repeat (first|refine blk_drewN ?_ _|refine blk_drew ?_|refine blk_alloc ?_ _));exact BK569.out) hb)
      have n1_:=Aside0.mk (blk_below (g:=gb570) (o := .cells #[.string a1_0, .slice A1_1 l1_1.length c1_1] 41 (0,0)) (by (with_reducible repeat (first|refine blk_drewN ?_ _|refine blk_drew ?_|refine blk_alloc ?_ _));exact BK570.out) hb)
      have n2_:=Aside0.mk (below_step (by repeat (first|(with_reducible first|exact HB.out|apply below_alloc|apply pw_below_drewN|apply below_drew1|refine below_set ?_ GE569.out|refine below_set ?_ GE570.out)|exact HB.out)) hb)
      clear BK569
      clear BK570
      clear HB
      have BK569:=n0_
      have BK570:=n1_
      have HB:=n2_
      clear n0_ n1_ n2_
      (try clear hb)
      (try clear hb2)
      (try clear hk)
      (try clear hi)
      refine hK.out _ _ ⟨(blk_cell BK569.out 0).trans rfl,(blk_cell BK569.out 1).trans rfl,(blk_cell BK570.out 0).trans rfl,(blk_cell BK570.out 1).trans rfl⟩ (fun hHeld=>?_)
      clear hK K
      refine norm_ (a':=?_) ?_ ?_
      rotate_left
      ·show Act.put _ (some 37) _=_
       simp only [Act.put,List.setIfInBounds_toArray,List.set_cons_zero,List.set_cons_succ,i64_w,i32_w]
       rfl
      refine one_ (i:=15) (N:=some 40) #[true,true,true,true,true,true,true,true,true,true,true,true,true,true,true,true,false,false,false] rfl rfl (one_of HT_.out (by kernel_rfl)) (by decide) (fun K hK=>?_)
      refine goes_ Tryd.func30 (by kernel_rfl) rfl #[.agg #[.string a0_0, .slice A0_1 l0_1.length c0_1], .agg #[.string a1_0, .slice A1_1 l1_1.length c1_1]] (by rfl) rfl rfl (by (try simp only [List.map_toArray,List.map_cons,List.map_nil]);first|done|rfl|(simp only [List.length_drop,List.length_take];rfl)) ?_
      with_reducible refine (ebbtideref04_Same.calls kj4 a0_0 _ _ l0_1 a1_0 _ _ l1_1 t580 _ ?side1 ?side2 ?side3 ?side4 A37.out).mono ?_
      (case side1=>repeat (first|exact (Kd.C_below HR0_1.out HB.out)|(with_reducible refine Kd.C_alloc ?_ _)|(with_reducible refine Kd.C_drewN ?_ _)|(with_reducible refine Kd.C_drew ?_)))
      (case side2=>exact HC0_1.out)
      (case side3=>repeat (first|exact (Kd.C_below HR1_1.out HB.out)|(with_reducible refine Kd.C_alloc ?_ _)|(with_reducible refine Kd.C_drewN ?_ _)|(with_reducible refine Kd.C_drew ?_)))
      (case side4=>exact HC1_1.out)
      rintro e w43 ⟨rfl,hb⟩
      refine ⟨_,rfl,?_⟩
      have n0_:=Aside0.mk (blk_below (g:=gb569) (o := .cells #[.string a0_0, .slice A0_1 l0_1.length c0_1] 41 (0,0)) (by (with_reducible repeat (first|refine blk_drewN ?_ _|refine blk_drew ?_|refine blk_alloc ?_ _));exact BK569.out) hb)
      have n1_:=Aside0.mk (blk_below (g:=gb570) (o := .cells #[.string a1_0, .slice A1_1 l1_1.length c1_1] 41 (0,0)) (by (with_reducible repeat (first|refine blk_drewN ?_ _|refine blk_drew ?_|refine blk_alloc ?_ _));exact BK570.out) hb)
      have n2_:=Aside0.mk (below_step (by repeat (first|(with_reducible first|exact HB.out|apply below_alloc|apply pw_below_drewN|apply below_drew1|refine below_set ?_ GE569.out|refine below_set ?_ GE570.out)|exact HB.out)) hb)
      clear BK569
      clear BK570
      clear HB
      have BK569:=n0_
      have BK570:=n1_
      have HB:=n2_
      clear n0_ n1_ n2_
      (try clear hb)
      (try clear hb2)
      (try clear hk)
      (try clear hi)
      refine hK.out _ _ ⟨(blk_cell BK569.out 0).trans rfl,(blk_cell BK569.out 1).trans rfl,(blk_cell BK570.out 0).trans rfl,(blk_cell BK570.out 1).trans rfl⟩ (fun hHeld=>?_)
      clear hK K
      refine norm_ (a':=?_) ?_ ?_
      rotate_left
      ·show Act.put _ (some 40) _=_
       simp only [Act.put,List.setIfInBounds_toArray,List.set_cons_zero,List.set_cons_succ,i64_w,i32_w]
       rfl
      refine pure_ (i:=16) (N:=some 41) (v:=?_) (a':=?_) #[true,true,true,true,true,true,true,true,true,true,true,true,true,true,true,true,true,false,false] rfl rfl (any_of HT_.out (by kernel_rfl)) (fun _ _ _ h=>h) (Or.inl ⟨by rfl,?_⟩) ?_ ?_
      rotate_left
      ·intro w';go_simp;with_reducible rfl
      rotate_left
      ·simp only [Act.put,List.setIfInBounds_toArray,List.set_cons_zero,List.set_cons_succ,i64_w,i32_w];rfl
      refine pure_ (i:=17) (N:=some 42) (v:=?_) (a':=?_) #[true,true,true,true,true,true,true,true,true,true,true,true,true,true,true,true,true,true,false] rfl rfl (any_of HT_.out (by kernel_rfl)) (fun _ _ _ h=>h) (Or.inl ⟨by rfl,?_⟩) ?_ ?_
      rotate_left
      ·intro w';go_simp;with_reducible rfl
      rotate_left
      ·simp only [Act.put,List.setIfInBounds_toArray,List.set_cons_zero,List.set_cons_succ,i64_w,i32_w];rfl
      refine pure_ (i:=18) (N:=some 4) (v:=?_) (a':=?_) #[true,true,true,true,true,true,true,true,true,true,true,true,true,true,true,true,true,true,true] rfl rfl (any_of HT_.out (by kernel_rfl)) (fun _ _ _ h=>h) (Or.inl ⟨by rfl,?_⟩) ?_ ?_
      rotate_left
      ·intro w';go_simp;with_reducible rfl
      rotate_left
      ·simp only [Act.put,List.setIfInBounds_toArray,List.set_cons_zero,List.set_cons_succ,i64_w,i32_w];rfl
      refine done_ (done_of HT_.out (by kernel_rfl)) ?_
      try go_wp2
      go_ret
      exact ⟨by first|rfl|(simp [errW_none,errW_some]<;>rfl)|(simp [*,errW_none,errW_some]<;>rfl),by repeat (first|(with_reducible first|exact HB.out|apply below_alloc|apply pw_below_drewN|apply below_drew1|refine below_set ?_ GE569.out|refine below_set ?_ GE570.out)|exact HB.out)⟩
     ·rw [if_neg c35] at H
      have c35b0:((t576.toList ==t577.toList) ==t578)=false:=by simpa using c35
      (try (have c35b1:decide ((t576.toList ==t577.toList)=t578)=false:=by simpa using c35))
      (try (have c35b2:((t576.toList ==t577.toList) ==t578)=false:=by simpa using c35))
      (try (have c35b3:¬ ((t576.toList ==t577.toList)=t578):=by simpa using c35))
      clear c35
      exact absurd H (by simp)
 ·replace c4:=Bool.eq_false_iff.mpr c4
  subst c4
  have H1:(none)=some r:=by rw [if_neg (show ¬ (false=true) by decide)] at H;exact H
  clear H
  have H:=H1
  clear H1
  exact absurd H (by simp)
end Go.Proofs.YtbefmicenjdfkaaDoor.PTk
