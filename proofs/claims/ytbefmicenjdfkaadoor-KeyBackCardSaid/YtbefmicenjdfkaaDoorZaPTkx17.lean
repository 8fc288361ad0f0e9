import Derived.Test.YtbefmicenjdfkaaDoorZaPTkx0
import Derived.Test.YtbefmicenjdfkaaDoorZaPTkx4
import Derived.Test.YtbefmicenjdfkaaDoorZaPTkx13
import Derived.Test.YtbefmicenjdfkaaDoorZaPTkx14
namespace Go.Proofs.YtbefmicenjdfkaaDoor.PTk
open Go.RowKit Go.Proofs.YtbefmicenjdfkaaDoorW.PrintWords Go.Proofs.YtbefmicenjdfkaaDoorW.PrintLast Go.Proofs.YtbefmicenjdfkaaDoorW.PrintMore
attribute [local go_sem] max2_int min2_int max_two min_two max_three min_three max_four min_four
set_option linter.unusedVariables false
set_option linter.unusedSimpArgs false
mutual
def ebbtidelaw04_KeyBack.j0:Nat→ByteArray→Bool→ByteArray→List (S52)→Option (Bool)
 | 0,_,_,_,_=>none
 | k+1,x1,x26,x543000,x543001=>if x26=true then (some true) else ((ebbtideref04_Right.f k x543000 x543001).bind fun t545=>(if t545=true then ((key_Text.f k x543000 x543001).bind fun t546=>((key_Parse.f k t546).bind fun bt547=>(if bt547.2.2=0 then ((ebbtideref04_Same.f k bt547.1 bt547.2.1 x543000 x543001).bind fun t553=>(if t553=true then (ebbtidelaw04_KeyBack.j1 k x1) else (none))) else (none)))) else (ebbtidelaw04_KeyBack.j1 k x1)))
def ebbtidelaw04_KeyBack.j1:Nat→ByteArray→Option (Bool)
 | 0,_=>none
 | k+1,x1=>(key_Parse.f k x1).bind fun bt554=>(if bt554.2.2=0 then ((key_Text.f k bt554.1 bt554.2.1).bind fun t560=>((key_Parse.f k t560).bind fun bt561=>((ebbtideref04_Right.f k bt554.1 bt554.2.1).bind fun t567=>(if t567=true then (if bt561.2.2=0 then ((ebbtideref04_Same.f k bt561.1 bt561.2.1 bt554.1 bt554.2.1).bind fun t568=>(some t568)) else (none)) else (none))))) else (if bt554.1.toList=([]:List UInt8) then (some ((bt554.2.1.length:Int) ==0)) else (none)))
end
def ebbtidelaw04_KeyBack.f (k:Nat) (a0_0:ByteArray) (l0_1:List (S52)) (a1:ByteArray):Option (Bool):=(ebbtidelaw04_alive.f k).bind fun t543=>(if t543=true then ((ebbtideref03_Great.f k l0_1).bind fun t544=>(if t544=true then (ebbtidelaw04_KeyBack.j0 k a1 true a0_0 l0_1) else (if (a0_0.size:Int)>200 then (ebbtidelaw04_KeyBack.j0 k a1 true a0_0 l0_1) else (ebbtidelaw04_KeyBack.j0 k a1 (decide ((a1.size:Int)>500)) a0_0 l0_1)))) else (none))
theorem ebbtidelaw04_KeyBack.mono_l:∀ k,(∀ y0 y1 y2 y3,LeO (ebbtidelaw04_KeyBack.j0 k y0 y1 y2 y3) (ebbtidelaw04_KeyBack.j0 (k+1) y0 y1 y2 y3))∧(∀ y0,LeO (ebbtidelaw04_KeyBack.j1 k y0) (ebbtidelaw04_KeyBack.j1 (k+1) y0))
 | 0=>⟨fun _ _ _ _ r h=>by simp [ebbtidelaw04_KeyBack.j0] at h,fun _ r h=>by simp [ebbtidelaw04_KeyBack.j1] at h⟩
 | k+1=>by
  obtain ⟨ih0,ih1⟩:=ebbtidelaw04_KeyBack.mono_l k
  refine ⟨?_,?_⟩
  ·intro y0 y1 y2 y3
   unfold ebbtidelaw04_KeyBack.j0
   repeat' first
   | (with_reducible exact ih0 _ _ _ _)
   | (with_reducible exact ih1 _)
   | (with_reducible exact ebbtidelaw04_alive.mono _)
   | (with_reducible exact ebbtideref03_Great.mono _ _)
   | (with_reducible exact ebbtideref04_Right.mono _ _ _)
   | (with_reducible exact ebbtideref04_Same.mono _ _ _ _ _)
   | (with_reducible exact key_Parse.mono _ _)
   | (with_reducible exact key_Text.mono _ _ _)
   | (with_reducible exact LeO.refl _)
   | (with_reducible exact LeO.none _)
   | (with_reducible refine LeO.ite ?_ ?_)
   | (with_reducible refine LeO.bind ?_ (fun _=>?_))
   | exact ih0 _ _ _ _
   | exact ih1 _
   | exact ebbtidelaw04_alive.mono _
   | exact ebbtideref03_Great.mono _ _
   | exact ebbtideref04_Right.mono _ _ _
   | exact ebbtideref04_Same.mono _ _ _ _ _
   | exact key_Parse.mono _ _
   | exact key_Text.mono _ _ _
   | exact LeO.none _
   | refine LeO.ite ?_ ?_
   | refine LeO.bind ?_ (fun _=>?_)
  ·intro y0
   unfold ebbtidelaw04_KeyBack.j1
   repeat' first
   | (with_reducible exact ih0 _ _ _ _)
   | (with_reducible exact ih1 _)
   | (with_reducible exact ebbtidelaw04_alive.mono _)
   | (with_reducible exact ebbtideref03_Great.mono _ _)
   | (with_reducible exact ebbtideref04_Right.mono _ _ _)
   | (with_reducible exact ebbtideref04_Same.mono _ _ _ _ _)
   | (with_reducible exact key_Parse.mono _ _)
   | (with_reducible exact key_Text.mono _ _ _)
   | (with_reducible exact LeO.refl _)
   | (with_reducible exact LeO.none _)
   | (with_reducible refine LeO.ite ?_ ?_)
   | (with_reducible refine LeO.bind ?_ (fun _=>?_))
   | exact ih0 _ _ _ _
   | exact ih1 _
   | exact ebbtidelaw04_alive.mono _
   | exact ebbtideref03_Great.mono _ _
   | exact ebbtideref04_Right.mono _ _ _
   | exact ebbtideref04_Same.mono _ _ _ _ _
   | exact key_Parse.mono _ _
   | exact key_Text.mono _ _ _
   | exact LeO.none _
   | refine LeO.ite ?_ ?_
   | refine LeO.bind ?_ (fun _=>?_)
theorem ebbtidelaw04_KeyBack.mono:∀ a0 a1 a2 k,LeO (ebbtidelaw04_KeyBack.f k a0 a1 a2) (ebbtidelaw04_KeyBack.f (k+1) a0 a1 a2):=by
 intro a0 a1 a2 k
 obtain ⟨ih0,ih1⟩:=ebbtidelaw04_KeyBack.mono_l k
 unfold ebbtidelaw04_KeyBack.f
 repeat' first
   | (with_reducible exact ih0 _ _ _ _)
   | (with_reducible exact ih1 _)
   | (with_reducible exact ebbtidelaw04_alive.mono _)
   | (with_reducible exact ebbtideref03_Great.mono _ _)
   | (with_reducible exact ebbtideref04_Right.mono _ _ _)
   | (with_reducible exact ebbtideref04_Same.mono _ _ _ _ _)
   | (with_reducible exact key_Parse.mono _ _)
   | (with_reducible exact key_Text.mono _ _ _)
   | (with_reducible exact LeO.refl _)
   | (with_reducible exact LeO.none _)
   | (with_reducible refine LeO.ite ?_ ?_)
   | (with_reducible refine LeO.bind ?_ (fun _=>?_))
   | exact ih0 _ _ _ _
   | exact ih1 _
   | exact ebbtidelaw04_alive.mono _
   | exact ebbtideref03_Great.mono _ _
   | exact ebbtideref04_Right.mono _ _ _
   | exact ebbtideref04_Same.mono _ _ _ _ _
   | exact key_Parse.mono _ _
   | exact key_Text.mono _ _ _
   | exact LeO.none _
   | refine LeO.ite ?_ ?_
   | refine LeO.bind ?_ (fun _=>?_)
set_option maxHeartbeats 8000000 in
set_option maxRecDepth 100000 in
theorem ebbtidelaw04_KeyBack.calls (k:Nat) (a0_0:ByteArray) (A0_1:Option Addr) (c0_1:Nat) (l0_1:List (S52)) (a1:ByteArray) (r:Bool) (w:World) (hr0_1:Kd.C k52 w A0_1 l0_1.length l0_1) (hc0_1:l0_1.length≤c0_1) (h:ebbtidelaw04_KeyBack.f k a0_0 l0_1 a1=some r) :
  Calls Tryd.prog 9 #[.agg #[.string a0_0, .slice A0_1 l0_1.length c0_1], .string a1] w fun e w'=>e = .returned (.bool r)∧Below w.heap.size w w':=by
 have hu41:=Tryd.underlying41
 have HR0_1:=Aside0.mk hr0_1
 have HC0_1:=Aside0.mk hc0_1
 clear hr0_1 hc0_1
 have HB:=Aside0.mk (Below.refl w.heap.size w)
 have H:((ebbtidelaw04_alive.f k).bind fun t543=>(if t543=true then ((ebbtideref03_Great.f k l0_1).bind fun t544=>(if t544=true then (ebbtidelaw04_KeyBack.j0 k a1 true a0_0 l0_1) else (if (a0_0.size:Int)>200 then (ebbtidelaw04_KeyBack.j0 k a1 true a0_0 l0_1) else (ebbtidelaw04_KeyBack.j0 k a1 (decide ((a1.size:Int)>500)) a0_0 l0_1)))) else (none)))=some r:=h
 clear h
 replace H:=Option.bind_eq_some_iff.mp H
 obtain ⟨t543,A30,H⟩:=H
 replace H:(if t543=true then ((ebbtideref03_Great.f k l0_1).bind fun t544=>(if t544=true then (ebbtidelaw04_KeyBack.j0 k a1 true a0_0 l0_1) else (if (a0_0.size:Int)>200 then (ebbtidelaw04_KeyBack.j0 k a1 true a0_0 l0_1) else (ebbtidelaw04_KeyBack.j0 k a1 (decide ((a1.size:Int)>500)) a0_0 l0_1)))) else (none))=some r:=H
 have A3:=Aside0.mk A30
 clear A30
 by_cases c4:t543=true
 ·subst c4
  have H1:((ebbtideref03_Great.f k l0_1).bind fun t544=>(if t544=true then (ebbtidelaw04_KeyBack.j0 k a1 true a0_0 l0_1) else (if (a0_0.size:Int)>200 then (ebbtidelaw04_KeyBack.j0 k a1 true a0_0 l0_1) else (ebbtidelaw04_KeyBack.j0 k a1 (decide ((a1.size:Int)>500)) a0_0 l0_1))))=some r:=by rw [if_pos rfl] at H;exact H
  clear H
  have H:=H1
  clear H1
  have HC5:=Aside0.mk H
  clear H
  go_enter Tryd.func9,Tryd.ntmps9
  go_upto_region 3 with (first|((with_reducible refine gate_dst (N:=2) rfl ?_);(try (refine gate_guard (by rfl) ?_;dsimp only));refine box_event ?hg (N:=2) ?hd (cs:=#[.string a0_0, .slice A0_1 l0_1.length c0_1]) (t:=41) ?hr ?_;(case hd=>rfl);(case hg=>rfl);(case hr=>first|(go_simp;done)|(go_simp;rfl));intro gb542 hg w6 hbox hb;have n0_:=Aside0.mk (below_step (by repeat (first|(with_reducible first|exact HB.out|apply below_alloc|apply pw_below_drewN|apply below_drew1)|exact HB.out)) hb);have n1_:=Aside0.mk (hbox);have n2_:=Aside0.mk ((by rw [hg];exact (below_size (by repeat (first|(with_reducible first|exact HB.out|apply below_alloc|apply pw_below_drewN|apply below_drew1)|exact HB.out))):w.heap.size≤gb542));have n3_:=Aside0.mk ((by rw [hg];exact (below_size (by repeat (first|(with_reducible first|exact HB.out|apply below_alloc|apply pw_below_drewN|apply below_drew1)|exact HB.out))):w.heap.size≤gb542));clear HB;have HB:=n0_;have BK542:=n1_;have GW542:=n2_;have GE542:=n3_;clear n0_ n1_ n2_ n3_;clear hb hbox hg)|((with_reducible refine gate_callee (f:=27) rfl ?_);refine goesL_ (some 11) rfl rfl Tryd.func27 (by kernel_rfl) rfl #[] rfl (by (try simp only [List.map_toArray,List.map_cons,List.map_nil]);first|done|rfl|(simp only [List.length_drop,List.length_take];rfl)) ?_;(with_reducible refine (ebbtidelaw04_alive.calls k  true _ A3.out).mono ?_);rintro e w7 ⟨rfl,hb⟩;refine ⟨_,rfl,?_⟩;have n0_:=Aside0.mk (blk_below (g:=gb542) (o := .cells #[.string a0_0, .slice A0_1 l0_1.length c0_1] 41 (0,0)) (by (with_reducible repeat (first|refine blk_drewN ?_ _|refine blk_drew ?_|refine blk_alloc ?_ _));exact BK542.out) hb);have n1_:=Aside0.mk (below_step (by repeat (first|(with_reducible first|exact HB.out|apply below_alloc|apply pw_below_drewN|apply below_drew1|refine below_set ?_ GE542.out)|exact HB.out)) hb);clear BK542;clear HB;have BK542:=n0_;have HB:=n1_;clear n0_ n1_;(try clear hb);(try clear hb2);(try clear hk);(try clear hi)))
  (try simp only [Act.put,List.setIfInBounds_toArray,List.set_cons_zero,List.set_cons_succ])
  go_cut [26] (fun v26 wc=>∃ (kq:Nat) (x26_4:Bool),v26 = .bool x26_4∧Aside0 (ebbtidelaw04_KeyBack.j0 kq a1 x26_4 a0_0 l0_1=some r)∧Aside0 (kq≤k)∧Aside0 (wc.heap[gb542]?=some (.cells #[.string a0_0,(.slice A0_1 l0_1.length c0_1)] 41 (0,0)))∧Aside0 (Below w.heap.size w wc))
  case first =>
   have H:=HC5.out
   clear HC5
   replace H:=Option.bind_eq_some_iff.mp H
   obtain ⟨t544,A80,H⟩:=H
   replace H:(if t544=true then (ebbtidelaw04_KeyBack.j0 k a1 true a0_0 l0_1) else (if (a0_0.size:Int)>200 then (ebbtidelaw04_KeyBack.j0 k a1 true a0_0 l0_1) else (ebbtidelaw04_KeyBack.j0 k a1 (decide ((a1.size:Int)>500)) a0_0 l0_1)))=some r:=H
   have A8:=Aside0.mk A80
   clear A80
   by_cases c9:t544=true
   ·subst c9
    have H1:(ebbtidelaw04_KeyBack.j0 k a1 true a0_0 l0_1)=some r:=by rw [if_pos rfl] at H;exact H
    clear H
    have H:=H1
    clear H1
    have H':=Aside0.mk H
    clear H
    have hcz10_0:w7.cell? ⟨gb542,0,none⟩=some (.string a0_0):=(blk_cell BK542.out 0).trans rfl
    have hcz10_1:w7.cell? ⟨gb542,1,none⟩=some (.slice A0_1 l0_1.length c0_1):=(blk_cell BK542.out 1).trans rfl
    have hfz10_0:=blk_frozen BK542.out 0
    have hfz10_1:=blk_frozen BK542.out 1
    go_wp2_with (first|((with_reducible refine gate_callee (f:=13) rfl ?_);refine goesL_ (some 15) rfl rfl Tryd.func13 (by kernel_rfl) rfl #[.slice A0_1 l0_1.length c0_1] rfl (by (try simp only [List.map_toArray,List.map_cons,List.map_nil]);first|done|rfl|(simp only [List.length_drop,List.length_take];rfl)) ?_;(with_reducible refine (ebbtideref03_Great.calls k _ _ l0_1 true _ ?side1 ?side2 A8.out).mono ?_);(case side1=>repeat (first|exact (Kd.C_below HR0_1.out HB.out)|(with_reducible refine Kd.C_alloc ?_ _)|(with_reducible refine Kd.C_drewN ?_ _)|(with_reducible refine Kd.C_drew ?_)));(case side2=>exact HC0_1.out);rintro e w' ⟨rfl,⟨nd,rfl⟩⟩;refine ⟨_,rfl,?_⟩))
    go_meet
    case rel=>exact ⟨_,(true),(by first|rfl|(simp;done)|(simp [*];done)),H',⟨by first|omega|exact Nat.le_refl _⟩,⟨by (with_reducible repeat (first|refine blk_drewN ?_ _|refine blk_drew ?_|refine blk_alloc ?_ _));exact BK542.out⟩,⟨by repeat (first|(with_reducible first|exact HB.out|apply below_alloc|apply pw_below_drewN|apply below_drew1|refine below_set ?_ GE542.out)|exact HB.out)⟩⟩
   ·replace c9:=Bool.eq_false_iff.mpr c9
    subst c9
    have H1:(if (a0_0.size:Int)>200 then (ebbtidelaw04_KeyBack.j0 k a1 true a0_0 l0_1) else (ebbtidelaw04_KeyBack.j0 k a1 (decide ((a1.size:Int)>500)) a0_0 l0_1))=some r:=by rw [if_neg (show ¬ (false=true) by decide)] at H;exact H
    clear H
    have H:=H1
    clear H1
    by_cases c11:(a0_0.size:Int)>200
    ·rw [if_pos c11] at H
     have c11b0:decide (200<(a0_0.size:Int))=true:=decide_eq_true c11
     have c11b1:decide (200<a0_0.size)=true:=decide_eq_true (by omega)
     clear c11
     (first|rw [c11b0]|(simp only [i64_w,i32_w];rw [c11b0])|skip)
     have H':=Aside0.mk H
     clear H
     have hcz12_0:w7.cell? ⟨gb542,0,none⟩=some (.string a0_0):=(blk_cell BK542.out 0).trans rfl
     have hcz12_1:w7.cell? ⟨gb542,1,none⟩=some (.slice A0_1 l0_1.length c0_1):=(blk_cell BK542.out 1).trans rfl
     have hfz12_0:=blk_frozen BK542.out 0
     have hfz12_1:=blk_frozen BK542.out 1
     go_wp2_with (first|((with_reducible refine gate_callee (f:=13) rfl ?_);refine goesL_ (some 15) rfl rfl Tryd.func13 (by kernel_rfl) rfl #[.slice A0_1 l0_1.length c0_1] rfl (by (try simp only [List.map_toArray,List.map_cons,List.map_nil]);first|done|rfl|(simp only [List.length_drop,List.length_take];rfl)) ?_;(with_reducible refine (ebbtideref03_Great.calls k _ _ l0_1 false _ ?side1 ?side2 A8.out).mono ?_);(case side1=>repeat (first|exact (Kd.C_below HR0_1.out HB.out)|(with_reducible refine Kd.C_alloc ?_ _)|(with_reducible refine Kd.C_drewN ?_ _)|(with_reducible refine Kd.C_drew ?_)));(case side2=>exact HC0_1.out);rintro e w' ⟨rfl,⟨nd,rfl⟩⟩;refine ⟨_,rfl,?_⟩))
     go_meet
     case rel=>exact ⟨_,(true),(by first|rfl|(simp;done)|(simp [*];done)),H',⟨by first|omega|exact Nat.le_refl _⟩,⟨by (with_reducible repeat (first|refine blk_drewN ?_ _|refine blk_drew ?_|refine blk_alloc ?_ _));exact BK542.out⟩,⟨by repeat (first|(with_reducible first|exact HB.out|apply below_alloc|apply pw_below_drewN|apply below_drew1|refine below_set ?_ GE542.out)|exact HB.out)⟩⟩
    ·rw [if_neg c11] at H
     have c11b0:decide (200<(a0_0.size:Int))=false:=decide_eq_false c11
     have c11b1:decide (200<a0_0.size)=false:=decide_eq_false (by omega)
     clear c11
     (first|rw [c11b0]|(simp only [i64_w,i32_w];rw [c11b0])|skip)
     have H':=Aside0.mk H
     clear H
     have hcz13_0:w7.cell? ⟨gb542,0,none⟩=some (.string a0_0):=(blk_cell BK542.out 0).trans rfl
     have hcz13_1:w7.cell? ⟨gb542,1,none⟩=some (.slice A0_1 l0_1.length c0_1):=(blk_cell BK542.out 1).trans rfl
     have hfz13_0:=blk_frozen BK542.out 0
     have hfz13_1:=blk_frozen BK542.out 1
     go_wp2_with (first|((with_reducible refine gate_callee (f:=13) rfl ?_);refine goesL_ (some 15) rfl rfl Tryd.func13 (by kernel_rfl) rfl #[.slice A0_1 l0_1.length c0_1] rfl (by (try simp only [List.map_toArray,List.map_cons,List.map_nil]);first|done|rfl|(simp only [List.length_drop,List.length_take];rfl)) ?_;(with_reducible refine (ebbtideref03_Great.calls k _ _ l0_1 false _ ?side1 ?side2 A8.out).mono ?_);(case side1=>repeat (first|exact (Kd.C_below HR0_1.out HB.out)|(with_reducible refine Kd.C_alloc ?_ _)|(with_reducible refine Kd.C_drewN ?_ _)|(with_reducible refine Kd.C_drew ?_)));(case side2=>exact HC0_1.out);rintro e w' ⟨rfl,⟨nd,rfl⟩⟩;refine ⟨_,rfl,?_⟩))
     go_meet
     case rel=>exact ⟨_,(decide ((a1.size:Int)>500)),(by first|rfl|(simp;done)|(simp [*];done)),H',⟨by first|omega|exact Nat.le_refl _⟩,⟨by (with_reducible repeat (first|refine blk_drewN ?_ _|refine blk_drew ?_|refine blk_alloc ?_ _));exact BK542.out⟩,⟨by repeat (first|(with_reducible first|exact HB.out|apply below_alloc|apply pw_below_drewN|apply below_drew1|refine below_set ?_ GE542.out)|exact HB.out)⟩⟩
  case rest =>
   clear HC5
   try clear c1
   try clear c2
   try clear p2
   try clear c4
   try clear c9
   try clear c11
   try clear c11b0
   try clear c11b1
   try clear c13
   try clear hcz10_0
   try clear hcz10_1
   try clear hcz12_0
   try clear hcz12_1
   try clear hcz13_0
   try clear hcz13_1
   try clear hfz10_0
   try clear hfz10_1
   try clear hfz12_0
   try clear hfz12_1
   try clear hfz13_0
   try clear hfz13_1
   obtain ⟨kq,x26_4,rfl,HA,HJ4,BK542,HB⟩:=hcut
   cases kq with
   | zero=>exact absurd HA.out (by simp [ebbtidelaw04_KeyBack.j0])
   | succ kj4 =>
    have H:=HA.out
    clear HA
    simp only [ebbtidelaw04_KeyBack.j0] at H
    by_cases c14:x26_4=true
    ·subst c14
     have H1:(some true)=some r:=by rw [if_pos rfl] at H;exact H
     clear H
     have H:=H1
     clear H1
     obtain rfl:=Option.some.inj H
     go_wp2
     go_ret
     exact ⟨by first|rfl|(simp [errW_none,errW_some]<;>rfl)|(simp [*,errW_none,errW_some]<;>rfl),by repeat (first|(with_reducible first|exact HB.out|apply below_alloc|apply pw_below_drewN|apply below_drew1|refine below_set ?_ GE542.out)|exact HB.out)⟩
    ·replace c14:=Bool.eq_false_iff.mpr c14
     subst c14
     have H1:((ebbtideref04_Right.f kj4 a0_0 l0_1).bind fun t545=>(if t545=true then ((key_Text.f kj4 a0_0 l0_1).bind fun t546=>((key_Parse.f kj4 t546).bind fun bt547=>(if bt547.2.2=0 then ((ebbtideref04_Same.f kj4 bt547.1 bt547.2.1 a0_0 l0_1).bind fun t553=>(if t553=true then (ebbtidelaw04_KeyBack.j1 kj4 a1) else (none))) else (none)))) else (ebbtidelaw04_KeyBack.j1 kj4 a1)))=some r:=by rw [if_neg (show ¬ (false=true) by decide)] at H;exact H
     clear H
     have H:=H1
     clear H1
     replace H:=Option.bind_eq_some_iff.mp H
     obtain ⟨t545,A150,H⟩:=H
     replace H:(if t545=true then ((key_Text.f kj4 a0_0 l0_1).bind fun t546=>((key_Parse.f kj4 t546).bind fun bt547=>(if bt547.2.2=0 then ((ebbtideref04_Same.f kj4 bt547.1 bt547.2.1 a0_0 l0_1).bind fun t553=>(if t553=true then (ebbtidelaw04_KeyBack.j1 kj4 a1) else (none))) else (none)))) else (ebbtidelaw04_KeyBack.j1 kj4 a1))=some r:=H
     have A15:=Aside0.mk A150
     clear A150
     have HC16:=Aside0.mk H
     clear H
     have hcz17_0:wc.cell? ⟨gb542,0,none⟩=some (.string a0_0):=(blk_cell BK542.out 0).trans rfl
     have hcz17_1:wc.cell? ⟨gb542,1,none⟩=some (.slice A0_1 l0_1.length c0_1):=(blk_cell BK542.out 1).trans rfl
     have hfz17_0:=blk_frozen BK542.out 0
     have hfz17_1:=blk_frozen BK542.out 1
     go_upto_if 28 with (first|((with_reducible refine gate_callee (f:=32) rfl ?_);refine goesL_ (some 28) rfl rfl Tryd.func32 (by kernel_rfl) rfl #[.agg #[.string a0_0, .slice A0_1 l0_1.length c0_1]] rfl (by (try simp only [List.map_toArray,List.map_cons,List.map_nil]);first|done|rfl|(simp only [List.length_drop,List.length_take];rfl)) ?_;(with_reducible refine (ebbtideref04_Right.calls kj4 a0_0 _ _ l0_1 t545 _ ?side1 ?side2 A15.out).mono ?_);(case side1=>repeat (first|exact (Kd.C_below HR0_1.out HB.out)|(with_reducible refine Kd.C_alloc ?_ _)|(with_reducible refine Kd.C_drewN ?_ _)|(with_reducible refine Kd.C_drew ?_)));(case side2=>exact HC0_1.out);rintro e w18 ⟨rfl,hb⟩;refine ⟨_,rfl,?_⟩;have n0_:=Aside0.mk (blk_below (g:=gb542) (o := .cells #[.string a0_0, .slice A0_1 l0_1.length c0_1] 41 (0,0)) (by (with_reducible repeat (first|refine blk_drewN ?_ _|refine blk_drew ?_|refine blk_alloc ?_ _));exact BK542.out) hb);have n1_:=Aside0.mk (below_step (by repeat (first|(with_reducible first|exact HB.out|apply below_alloc|apply pw_below_drewN|apply below_drew1|refine below_set ?_ GE542.out)|exact HB.out)) hb);clear BK542;clear HB;have BK542:=n0_;have HB:=n1_;clear n0_ n1_;(try clear hb);(try clear hb2);(try clear hk);(try clear hi)))
     (try simp only [Act.put,List.setIfInBounds_toArray,List.set_cons_zero,List.set_cons_succ])
     go_cut [] (fun wc=>∃ (kq:Nat),Aside0 (ebbtidelaw04_KeyBack.j1 kq a1=some r)∧Aside0 (kq≤kj4)∧Aside0 (wc.heap[gb542]?=some (.cells #[.string a0_0,(.slice A0_1 l0_1.length c0_1)] 41 (0,0)))∧Aside0 (Below w.heap.size w wc))
     case first =>
      have H:=HC16.out
      clear HC16
      by_cases c19:t545=true
      ·subst c19
       have H1:((key_Text.f kj4 a0_0 l0_1).bind fun t546=>((key_Parse.f kj4 t546).bind fun bt547=>(if bt547.2.2=0 then ((ebbtideref04_Same.f kj4 bt547.1 bt547.2.1 a0_0 l0_1).bind fun t553=>(if t553=true then (ebbtidelaw04_KeyBack.j1 kj4 a1) else (none))) else (none))))=some r:=by rw [if_pos rfl] at H;exact H
       clear H
       have H:=H1
       clear H1
       replace H:=Option.bind_eq_some_iff.mp H
       obtain ⟨t546,A200,H⟩:=H
       replace H:((key_Parse.f kj4 t546).bind fun bt547=>(if bt547.2.2=0 then ((ebbtideref04_Same.f kj4 bt547.1 bt547.2.1 a0_0 l0_1).bind fun t553=>(if t553=true then (ebbtidelaw04_KeyBack.j1 kj4 a1) else (none))) else (none)))=some r:=H
       have A20:=Aside0.mk A200
       clear A200
       replace H:=Option.bind_eq_some_iff.mp H
       obtain ⟨⟨t547,t548,t551⟩,A210,H⟩:=H
       replace H:(if t551=0 then ((ebbtideref04_Same.f kj4 t547 t548 a0_0 l0_1).bind fun t553=>(if t553=true then (ebbtidelaw04_KeyBack.j1 kj4 a1) else (none))) else (none))=some r:=H
       have A21:=Aside0.mk A210
       clear A210
       by_cases c22:t551=0
       ·rw [if_pos c22] at H
        have c22b0:(t551 ==0)=true:=beq_iff_eq.mpr c22
        have c22b1:(t551 != 0)=false:=bne_eq_false_iff_eq.mpr c22
        clear c22
        (first|rw [c22b0]|(simp only [i64_w,i32_w];rw [c22b0])|skip)
        replace H:=Option.bind_eq_some_iff.mp H
        obtain ⟨t553,A230,H⟩:=H
        replace H:(if t553=true then (ebbtidelaw04_KeyBack.j1 kj4 a1) else (none))=some r:=H
        have A23:=Aside0.mk A230
        clear A230
        by_cases c24:t553=true
        ·subst c24
         have H1:(ebbtidelaw04_KeyBack.j1 kj4 a1)=some r:=by rw [if_pos rfl] at H;exact H
         clear H
         have H:=H1
         clear H1
         have H':=Aside0.mk H
         clear H
         have hcz25_0:w18.cell? ⟨gb542,0,none⟩=some (.string a0_0):=(blk_cell BK542.out 0).trans rfl
         have hcz25_1:w18.cell? ⟨gb542,1,none⟩=some (.slice A0_1 l0_1.length c0_1):=(blk_cell BK542.out 1).trans rfl
         have hfz25_0:=blk_frozen BK542.out 0
         have hfz25_1:=blk_frozen BK542.out 1
         go_wp2_with (first|((with_reducible refine gate_callee (f:=33) rfl ?_);refine goesL_ (some 31) rfl rfl Tryd.func33 (by kernel_rfl) rfl #[.agg #[.string a0_0, .slice A0_1 l0_1.length c0_1]] rfl (by (try simp only [List.map_toArray,List.map_cons,List.map_nil]);first|done|rfl|(simp only [List.length_drop,List.length_take];rfl)) ?_;(with_reducible refine (key_Text.calls kj4 a0_0 _ _ l0_1 t546 _ ?side1 ?side2 A20.out).mono ?_);(case side1=>repeat (first|exact (Kd.C_below HR0_1.out HB.out)|(with_reducible refine Kd.C_alloc ?_ _)|(with_reducible refine Kd.C_drewN ?_ _)|(with_reducible refine Kd.C_drew ?_)));(case side2=>exact HC0_1.out);rintro e w26 ⟨rfl,hb⟩;refine ⟨_,rfl,?_⟩;have n0_:=Aside0.mk (blk_below (g:=gb542) (o := .cells #[.string a0_0, .slice A0_1 l0_1.length c0_1] 41 (0,0)) (by (with_reducible repeat (first|refine blk_drewN ?_ _|refine blk_drew ?_|refine blk_alloc ?_ _));exact BK542.out) hb);have n1_:=Aside0.mk (below_step (by repeat (first|(with_reducible first|exact HB.out|apply below_alloc|apply pw_below_drewN|apply below_drew1|refine below_set ?_ GE542.out)|exact HB.out)) hb);clear BK542;clear HB;have BK542:=n0_;have HB:=n1_;clear n0_ n1_;(try clear hb);(try clear hb2);(try clear hk);(try clear hi))|((with_reducible refine gate_callee (f:=36) rfl ?_);refine goesL_ (some 32) rfl rfl Tryd.func36 (by kernel_rfl) rfl #[.string t546] rfl (by (try simp only [List.map_toArray,List.map_cons,List.map_nil]);first|done|rfl|(simp only [List.length_drop,List.length_take];rfl)) ?_;(with_reducible refine (key_Parse.calls kj4 t546 t547 t548 t551 _ A21.out).mono ?_);rintro e w27 ⟨v549,rfl,ho0,hb⟩;refine ⟨_,rfl,?_⟩;have n0_:=Aside0.mk (Kd.R_lower ho0 (below_size (by repeat (first|(with_reducible first|exact HB.out|apply below_alloc|apply pw_below_drewN|apply below_drew1|refine below_set ?_ GE542.out)|exact HB.out))));have n1_:=Aside0.mk (blk_below (g:=gb542) (o := .cells #[.string a0_0, .slice A0_1 l0_1.length c0_1] 41 (0,0)) (by (with_reducible repeat (first|refine blk_drewN ?_ _|refine blk_drew ?_|refine blk_alloc ?_ _));exact BK542.out) hb);have n2_:=Aside0.mk (below_step (by repeat (first|(with_reducible first|exact HB.out|apply below_alloc|apply pw_below_drewN|apply below_drew1|refine below_set ?_ GE542.out)|exact HB.out)) hb);clear BK542;clear HB;have HO550:=n0_;have BK542:=n1_;have HB:=n2_;clear n0_ n1_ n2_;(try clear hb);(try clear hb2);(try clear hk);(try clear hi);(try clear ho0))|((with_reducible refine gate_dst (N:=5) rfl ?_);(try (refine gate_guard (by rfl) ?_;dsimp only));refine box_event ?hg (N:=5) ?hd (cs:=#[.string (⟨#[]⟩:ByteArray), .slice none 0 0]) (t:=41) ?hr ?_;(case hd=>rfl);(case hg=>rfl);(case hr=>first|(go_simp;done)|(go_simp;rfl));intro gb552 hg w28 hbox hb;have n0_:=Aside0.mk (Kd.R_below (by (with_reducible repeat (first|apply Kd.R_alloc|apply Kd.R_drewN|apply Kd.R_drew));exact HO550.out) hb);have n1_:=Aside0.mk (blk_below (g:=gb542) (o := .cells #[.string a0_0, .slice A0_1 l0_1.length c0_1] 41 (0,0)) (by (with_reducible repeat (first|refine blk_drewN ?_ _|refine blk_drew ?_|refine blk_alloc ?_ _));exact BK542.out) hb);have n2_:=Aside0.mk (below_step (by repeat (first|(with_reducible first|exact HB.out|apply below_alloc|apply pw_below_drewN|apply below_drew1|refine below_set ?_ GE542.out)|exact HB.out)) hb);have n3_:=Aside0.mk (hbox);have n4_:=Aside0.mk ((by rw [hg];exact (below_size (by repeat (first|(with_reducible first|exact HB.out|apply below_alloc|apply pw_below_drewN|apply below_drew1|refine below_set ?_ GE542.out)|exact HB.out))):w.heap.size≤gb552));have n5_:=Aside0.mk ((by rw [hg];exact (below_size (by repeat (first|(with_reducible first|exact HB.out|apply below_alloc|apply pw_below_drewN|apply below_drew1|refine below_set ?_ GE542.out)|exact HB.out))):w.heap.size≤gb552));have n6_:=Aside0.mk ((by rw [hg];exact Nat.ne_of_lt (blk_lt (g:=gb542) (o := .cells #[.string a0_0, .slice A0_1 l0_1.length c0_1] 41 (0,0)) (by (with_reducible repeat (first|refine blk_drewN ?_ _|refine blk_drew ?_|refine blk_alloc ?_ _));exact BK542.out)):gb542≠gb552));have n7_:=Aside0.mk ((by rw [hg];exact Nat.ne_of_gt (blk_lt (g:=gb542) (o := .cells #[.string a0_0, .slice A0_1 l0_1.length c0_1] 41 (0,0)) (by (with_reducible repeat (first|refine blk_drewN ?_ _|refine blk_drew ?_|refine blk_alloc ?_ _));exact BK542.out)):gb552≠gb542));clear HO550;clear BK542;clear HB;have HO550:=n0_;have BK542:=n1_;have HB:=n2_;have BK552:=n3_;have GW552:=n4_;have GE552:=n5_;have NB542_552:=n6_;have NB552_542:=n7_;clear n0_ n1_ n2_ n3_ n4_ n5_ n6_ n7_;clear hb hbox hg;have hnb29:=NB552_542.out;have hnc29:=NB542_552.out;have hcz30_0:w28.cell? ⟨gb552,0,none⟩=some (.string (⟨#[]⟩:ByteArray)):=(blk_cell BK552.out 0).trans rfl;have hcz30_1:w28.cell? ⟨gb552,1,none⟩=some (.slice none 0 0):=(blk_cell BK552.out 1).trans rfl;have hfz30_0:=blk_frozen BK552.out 0;have hfz30_1:=blk_frozen BK552.out 1;obtain ⟨Ao31,co31,eo31⟩:=Kd.R_slice HO550.out;subst eo31;have hcz32_0:w28.cell? ⟨gb542,0,none⟩=some (.string a0_0):=(blk_cell BK542.out 0).trans rfl;have hcz32_1:w28.cell? ⟨gb542,1,none⟩=some (.slice A0_1 l0_1.length c0_1):=(blk_cell BK542.out 1).trans rfl;have hfz32_0:=blk_frozen BK542.out 0;have hfz32_1:=blk_frozen BK542.out 1)|(go_at_call 30;(with_reducible refine (ebbtideref04_Same.calls kj4 t547 _ _ t548 a0_0 _ _ l0_1 true _ ?side1 ?side2 ?side3 ?side4 A23.out).mono ?_);(case side1=>refine (Kd.R_reads' (e:=52) (base:=w.heap.size) (ok:=fun k_=>True) (n:=t548.length) (c:=co31) ?_).2.2;exact (by (with_reducible repeat (first|apply Kd.R_alloc|apply Kd.R_drewN|apply Kd.R_drew));exact (Kd.R_mono (Kd.R_far (p:=⟨gb552,1,none⟩) (Kd.R_far (p:=⟨gb552,0,none⟩) (Kd.R_types HO550.out BK552.out (by decide)) (fun _ hk=>hk.2) (.string t547)) (fun _ hk=>hk.2) (.slice Ao31 t548.length co31)) (fun _ h_=>h_.1))));(case side2=>exact (Kd.R_reads' HO550.out).2.1);(case side3=>exact Kd.C_below HR0_1.out (by repeat (first|(with_reducible first|exact HB.out|apply below_alloc|apply pw_below_drewN|apply below_drew1|refine below_set ?_ GE542.out|refine below_set ?_ GE552.out)|exact HB.out)));(case side4=>exact HC0_1.out);rintro e w33 ⟨rfl,hb⟩;have n0_:=Aside0.mk (Kd.R_below (by (with_reducible repeat (first|apply Kd.R_alloc|apply Kd.R_drewN|apply Kd.R_drew));exact (Kd.R_mono (Kd.R_far (p:=⟨gb552,1,none⟩) (Kd.R_far (p:=⟨gb552,0,none⟩) (Kd.R_types HO550.out BK552.out (by decide)) (fun _ hk=>hk.2) (.string t547)) (fun _ hk=>hk.2) (.slice Ao31 t548.length co31)) (fun _ h_=>h_.1))) hb);have n1_:=Aside0.mk (blk_below (g:=gb542) (o := .cells #[.string a0_0, .slice A0_1 l0_1.length c0_1] 41 (0,0)) (by (with_reducible repeat (first|refine blk_drewN ?_ _|refine blk_drew ?_|refine blk_alloc ?_ _));refine blk_far ?_ NB542_552.out _;(with_reducible repeat (first|refine blk_drewN ?_ _|refine blk_drew ?_|refine blk_alloc ?_ _));refine blk_far ?_ NB542_552.out _;(with_reducible repeat (first|refine blk_drewN ?_ _|refine blk_drew ?_|refine blk_alloc ?_ _));exact BK542.out) hb);have n2_:=Aside0.mk (blk_below (g:=gb552) (o := .cells #[.string t547, .slice Ao31 t548.length co31] 41 (0,0)) (by (with_reducible repeat (first|refine blk_drewN ?_ _|refine blk_drew ?_|refine blk_alloc ?_ _));refine blk_put (cs:=#[.string t547, .slice none 0 0]) ?_ 1 _ rfl;(with_reducible repeat (first|refine blk_drewN ?_ _|refine blk_drew ?_|refine blk_alloc ?_ _));refine blk_put (cs:=#[.string (⟨#[]⟩:ByteArray), .slice none 0 0]) ?_ 0 _ rfl;(with_reducible repeat (first|refine blk_drewN ?_ _|refine blk_drew ?_|refine blk_alloc ?_ _));exact BK552.out) hb);have n3_:=Aside0.mk (below_step (by repeat (first|(with_reducible first|exact HB.out|apply below_alloc|apply pw_below_drewN|apply below_drew1|refine below_set ?_ GE542.out|refine below_set ?_ GE552.out)|exact HB.out)) hb);clear HO550;clear BK542;clear BK552;clear HB;have HO550:=n0_;have BK542:=n1_;have BK552:=n2_;have HB:=n3_;clear n0_ n1_ n2_ n3_;(try clear hb);(try clear hb2);(try clear hk);(try clear hi)))
         go_meet
         case rel=>exact ⟨_,H',⟨by have:=HJ4.out;first|omega|exact Nat.le_refl _⟩,⟨by (with_reducible repeat (first|refine blk_drewN ?_ _|refine blk_drew ?_|refine blk_alloc ?_ _));exact BK542.out⟩,⟨by repeat (first|(with_reducible first|exact HB.out|apply below_alloc|apply pw_below_drewN|apply below_drew1|refine below_set ?_ GE542.out|refine below_set ?_ GE552.out)|exact HB.out)⟩⟩
        ·replace c24:=Bool.eq_false_iff.mpr c24
         subst c24
         have H1:(none)=some r:=by rw [if_neg (show ¬ (false=true) by decide)] at H;exact H
         clear H
         have H:=H1
         clear H1
         exact absurd H (by simp)
       ·rw [if_neg c22] at H
        exact absurd H (by simp)
      ·replace c19:=Bool.eq_false_iff.mpr c19
       subst c19
       have H1:(ebbtidelaw04_KeyBack.j1 kj4 a1)=some r:=by rw [if_neg (show ¬ (false=true) by decide)] at H;exact H
       clear H
       have H:=H1
       clear H1
       have H':=Aside0.mk H
       clear H
       go_wp2
       go_meet
       case rel=>exact ⟨_,H',⟨by have:=HJ4.out;first|omega|exact Nat.le_refl _⟩,⟨by (with_reducible repeat (first|refine blk_drewN ?_ _|refine blk_drew ?_|refine blk_alloc ?_ _));exact BK542.out⟩,⟨by repeat (first|(with_reducible first|exact HB.out|apply below_alloc|apply pw_below_drewN|apply below_drew1|refine below_set ?_ GE542.out)|exact HB.out)⟩⟩
     case rest =>
      clear HC16
      try clear c1
      try clear c2
      try clear p2
      try clear c3
      try clear c4
      try clear c9
      try clear c11
      try clear c11b0
      try clear c11b1
      try clear c13
      try clear c14
      try clear c19
      try clear c22
      try clear c22b0
      try clear c22b1
      try clear c24
      try clear c27
      try clear c29
      try clear c32
      try clear c33
      try clear hcz10_0
      try clear hcz10_1
      try clear hcz12_0
      try clear hcz12_1
      try clear hcz13_0
      try clear hcz13_1
      try clear hcz17_0
      try clear hcz17_1
      try clear hcz25_0
      try clear hcz25_1
      try clear hcz30_0
      try clear hcz30_1
      try clear hcz32_0
      try clear hcz32_1
      try clear hfz10_0
      try clear hfz10_1
      try clear hfz12_0
      try clear hfz12_1
      try clear hfz13_0
      try clear hfz13_1
      try clear hfz17_0
      try clear hfz17_1
      try clear hfz25_0
      try clear hfz25_1
      try clear hfz30_0
      try clear hfz30_1
      try clear hfz32_0
      try clear hfz32_1
      try clear p2
      obtain ⟨kq,HA,HJ15,BK542,HB⟩:=hcut
      cases kq with
      | zero=>exact absurd HA.out (by simp [ebbtidelaw04_KeyBack.j1])
      | succ kj15 =>
       have H:=HA.out
       clear HA
       simp only [ebbtidelaw04_KeyBack.j1] at H
       replace H:=Option.bind_eq_some_iff.mp H
       obtain ⟨⟨t554,t555,t558⟩,A340,H⟩:=H
       replace H:(if t558=0 then ((key_Text.f kj15 t554 t555).bind fun t560=>((key_Parse.f kj15 t560).bind fun bt561=>((ebbtideref04_Right.f kj15 t554 t555).bind fun t567=>(if t567=true then (if bt561.2.2=0 then ((ebbtideref04_Same.f kj15 bt561.1 bt561.2.1 t554 t555).bind fun t568=>(some t568)) else (none)) else (none))))) else (if t554.toList=([]:List UInt8) then (some ((t555.length:Int) ==0)) else (none)))=some r:=H
       have A34:=Aside0.mk A340
       clear A340
       by_cases c35:t558=0
       ·rw [if_pos c35] at H
        have c35b0:(t558 ==0)=true:=beq_iff_eq.mpr c35
        have c35b1:(t558 != 0)=false:=bne_eq_false_iff_eq.mpr c35
        clear c35
        replace H:=Option.bind_eq_some_iff.mp H
        obtain ⟨t560,A360,H⟩:=H
        replace H:((key_Parse.f kj15 t560).bind fun bt561=>((ebbtideref04_Right.f kj15 t554 t555).bind fun t567=>(if t567=true then (if bt561.2.2=0 then ((ebbtideref04_Same.f kj15 bt561.1 bt561.2.1 t554 t555).bind fun t568=>(some t568)) else (none)) else (none))))=some r:=H
        have A36:=Aside0.mk A360
        clear A360
        replace H:=Option.bind_eq_some_iff.mp H
        obtain ⟨⟨t561,t562,t565⟩,A370,H⟩:=H
        replace H:((ebbtideref04_Right.f kj15 t554 t555).bind fun t567=>(if t567=true then (if t565=0 then ((ebbtideref04_Same.f kj15 t561 t562 t554 t555).bind fun t568=>(some t568)) else (none)) else (none)))=some r:=H
        have A37:=Aside0.mk A370
        clear A370
        replace H:=Option.bind_eq_some_iff.mp H
        obtain ⟨t567,A380,H⟩:=H
        replace H:(if t567=true then (if t565=0 then ((ebbtideref04_Same.f kj15 t561 t562 t554 t555).bind fun t568=>(some t568)) else (none)) else (none))=some r:=H
        have A38:=Aside0.mk A380
        clear A380
        by_cases c39:t567=true
        ·subst c39
         have H1:(if t565=0 then ((ebbtideref04_Same.f kj15 t561 t562 t554 t555).bind fun t568=>(some t568)) else (none))=some r:=by rw [if_pos rfl] at H;exact H
         clear H
         have H:=H1
         clear H1
         by_cases c40:t565=0
         ·rw [if_pos c40] at H
          have c40b0:(t565 ==0)=true:=beq_iff_eq.mpr c40
          have c40b1:(t565 != 0)=false:=bne_eq_false_iff_eq.mpr c40
          clear c40
          replace H:=Option.bind_eq_some_iff.mp H
          obtain ⟨t568,A410,H⟩:=H
          replace H:(some t568)=some r:=H
          have A41:=Aside0.mk A410
          clear A410
          obtain rfl:=Option.some.inj H
          go_wp2_with (first|((with_reducible refine gate_callee (f:=36) rfl ?_);refine goesL_ (some 45) rfl rfl Tryd.func36 (by kernel_rfl) rfl #[.string a1] rfl (by (try simp only [List.map_toArray,List.map_cons,List.map_nil]);first|done|rfl|(simp only [List.length_drop,List.length_take];rfl)) ?_;(with_reducible refine (key_Parse.calls kj15 a1 t554 t555 t558 _ A34.out).mono ?_);rintro e w42 ⟨v556,rfl,ho0,hb⟩;refine ⟨_,rfl,?_⟩;have n0_:=Aside0.mk (Kd.R_lower ho0 (below_size (by repeat (first|(with_reducible first|exact HB.out|apply below_alloc|apply pw_below_drewN|apply below_drew1|refine below_set ?_ GE542.out)|exact HB.out))));have n1_:=Aside0.mk (blk_below (g:=gb542) (o := .cells #[.string a0_0, .slice A0_1 l0_1.length c0_1] 41 (0,0)) (by (with_reducible repeat (first|refine blk_drewN ?_ _|refine blk_drew ?_|refine blk_alloc ?_ _));exact BK542.out) hb);have n2_:=Aside0.mk (below_step (by repeat (first|(with_reducible first|exact HB.out|apply below_alloc|apply pw_below_drewN|apply below_drew1|refine below_set ?_ GE542.out)|exact HB.out)) hb);clear BK542;clear HB;have HO557:=n0_;have BK542:=n1_;have HB:=n2_;clear n0_ n1_ n2_;(try clear hb);(try clear hb2);(try clear hk);(try clear hi);(try clear ho0))|((with_reducible refine gate_dst (N:=7) rfl ?_);(try (refine gate_guard (by rfl) ?_;dsimp only));refine box_event ?hg (N:=7) ?hd (cs:=#[.string (⟨#[]⟩:ByteArray), .slice none 0 0]) (t:=41) ?hr ?_;(case hd=>rfl);(case hg=>rfl);(case hr=>first|(go_simp;done)|(go_simp;rfl));intro gb559 hg w43 hbox hb;have n0_:=Aside0.mk (Kd.R_below (by (with_reducible repeat (first|apply Kd.R_alloc|apply Kd.R_drewN|apply Kd.R_drew));exact HO557.out) hb);have n1_:=Aside0.mk (blk_below (g:=gb542) (o := .cells #[.string a0_0, .slice A0_1 l0_1.length c0_1] 41 (0,0)) (by (with_reducible repeat (first|refine blk_drewN ?_ _|refine blk_drew ?_|refine blk_alloc ?_ _));exact BK542.out) hb);have n2_:=Aside0.mk (below_step (by repeat (first|(with_reducible first|exact HB.out|apply below_alloc|apply pw_below_drewN|apply below_drew1|refine below_set ?_ GE542.out)|exact HB.out)) hb);have n3_:=Aside0.mk (hbox);have n4_:=Aside0.mk ((by rw [hg];exact (below_size (by repeat (first|(with_reducible first|exact HB.out|apply below_alloc|apply pw_below_drewN|apply below_drew1|refine below_set ?_ GE542.out)|exact HB.out))):w.heap.size≤gb559));have n5_:=Aside0.mk ((by rw [hg];exact (below_size (by repeat (first|(with_reducible first|exact HB.out|apply below_alloc|apply pw_below_drewN|apply below_drew1|refine below_set ?_ GE542.out)|exact HB.out))):w.heap.size≤gb559));have n6_:=Aside0.mk ((by rw [hg];exact Nat.ne_of_lt (blk_lt (g:=gb542) (o := .cells #[.string a0_0, .slice A0_1 l0_1.length c0_1] 41 (0,0)) (by (with_reducible repeat (first|refine blk_drewN ?_ _|refine blk_drew ?_|refine blk_alloc ?_ _));exact BK542.out)):gb542≠gb559));have n7_:=Aside0.mk ((by rw [hg];exact Nat.ne_of_gt (blk_lt (g:=gb542) (o := .cells #[.string a0_0, .slice A0_1 l0_1.length c0_1] 41 (0,0)) (by (with_reducible repeat (first|refine blk_drewN ?_ _|refine blk_drew ?_|refine blk_alloc ?_ _));exact BK542.out)):gb559≠gb542));clear HO557;clear BK542;clear HB;have HO557:=n0_;have BK542:=n1_;have HB:=n2_;have BK559:=n3_;have GW559:=n4_;have GE559:=n5_;have NB542_559:=n6_;have NB559_542:=n7_;clear n0_ n1_ n2_ n3_ n4_ n5_ n6_ n7_;clear hb hbox hg;have hnb44:=NB559_542.out;have hnc44:=NB542_559.out;have hcz45_0:w43.cell? ⟨gb559,0,none⟩=some (.string (⟨#[]⟩:ByteArray)):=(blk_cell BK559.out 0).trans rfl;have hcz45_1:w43.cell? ⟨gb559,1,none⟩=some (.slice none 0 0):=(blk_cell BK559.out 1).trans rfl;have hfz45_0:=blk_frozen BK559.out 0;have hfz45_1:=blk_frozen BK559.out 1;obtain ⟨Ao46,co46,eo46⟩:=Kd.R_slice HO557.out;subst eo46)|((with_reducible refine gate_callee (f:=33) rfl ?_);refine goesL_ (some 61) rfl rfl Tryd.func33 (by kernel_rfl) rfl #[.agg #[.string t554, .slice Ao46 t555.length co46]] rfl (by (try simp only [List.map_toArray,List.map_cons,List.map_nil]);first|done|rfl|(simp only [List.length_drop,List.length_take];rfl)) ?_;(with_reducible refine (key_Text.calls kj15 t554 _ _ t555 t560 _ ?side1 ?side2 A36.out).mono ?_);(case side1=>refine (Kd.R_reads' (e:=52) (base:=w.heap.size) (ok:=fun k_=>True) (n:=t555.length) (c:=co46) ?_).2.2;exact (by (with_reducible repeat (first|apply Kd.R_alloc|apply Kd.R_drewN|apply Kd.R_drew));exact (Kd.R_mono (Kd.R_far (p:=⟨gb559,1,none⟩) (Kd.R_far (p:=⟨gb559,0,none⟩) (Kd.R_types HO557.out BK559.out (by decide)) (fun _ hk=>hk.2) (.string t554)) (fun _ hk=>hk.2) (.slice Ao46 t555.length co46)) (fun _ h_=>h_.1))));(case side2=>exact (Kd.R_reads' HO557.out).2.1);rintro e w47 ⟨rfl,hb⟩;refine ⟨_,rfl,?_⟩;have n0_:=Aside0.mk (Kd.R_below (by (with_reducible repeat (first|apply Kd.R_alloc|apply Kd.R_drewN|apply Kd.R_drew));exact (Kd.R_mono (Kd.R_far (p:=⟨gb559,1,none⟩) (Kd.R_far (p:=⟨gb559,0,none⟩) (Kd.R_types HO557.out BK559.out (by decide)) (fun _ hk=>hk.2) (.string t554)) (fun _ hk=>hk.2) (.slice Ao46 t555.length co46)) (fun _ h_=>h_.1))) hb);have n1_:=Aside0.mk (blk_below (g:=gb542) (o := .cells #[.string a0_0, .slice A0_1 l0_1.length c0_1] 41 (0,0)) (by (with_reducible repeat (first|refine blk_drewN ?_ _|refine blk_drew ?_|refine blk_alloc ?_ _));refine blk_far ?_ NB542_559.out _;(with_reducible repeat (first|refine blk_drewN ?_ _|refine blk_drew ?_|refine blk_alloc ?_ _));refine blk_far ?_ NB542_559.out _;(with_reducible repeat (first|refine blk_drewN ?_ _|refine blk_drew ?_|refine blk_alloc ?_ _));exact BK542.out) hb);have n2_:=Aside0.mk (blk_below (g:=gb559) (o := .cells #[.string t554, .slice Ao46 t555.length co46] 41 (0,0)) (by (with_reducible repeat (first|refine blk_drewN ?_ _|refine blk_drew ?_|refine blk_alloc ?_ _));refine blk_put (cs:=#[.string t554, .slice none 0 0]) ?_ 1 _ rfl;(with_reducible repeat (first|refine blk_drewN ?_ _|refine blk_drew ?_|refine blk_alloc ?_ _));refine blk_put (cs:=#[.string (⟨#[]⟩:ByteArray), .slice none 0 0]) ?_ 0 _ rfl;(with_reducible repeat (first|refine blk_drewN ?_ _|refine blk_drew ?_|refine blk_alloc ?_ _));exact BK559.out) hb);have n3_:=Aside0.mk (below_step (by repeat (first|(with_reducible first|exact HB.out|apply below_alloc|apply pw_below_drewN|apply below_drew1|refine below_set ?_ GE542.out|refine below_set ?_ GE559.out)|exact HB.out)) hb);clear HO557;clear BK542;clear BK559;clear HB;have HO557:=n0_;have BK542:=n1_;have BK559:=n2_;have HB:=n3_;clear n0_ n1_ n2_ n3_;(try clear hb);(try clear hb2);(try clear hk);(try clear hi))|((with_reducible refine gate_callee (f:=36) rfl ?_);refine goesL_ (some 62) rfl rfl Tryd.func36 (by kernel_rfl) rfl #[.string t560] rfl (by (try simp only [List.map_toArray,List.map_cons,List.map_nil]);first|done|rfl|(simp only [List.length_drop,List.length_take];rfl)) ?_;(with_reducible refine (key_Parse.calls kj15 t560 t561 t562 t565 _ A37.out).mono ?_);rintro e w48 ⟨v563,rfl,ho0,hb⟩;refine ⟨_,rfl,?_⟩;have n0_:=Aside0.mk (Kd.R_elder' (by (with_reducible repeat (first|apply Kd.R_alloc|apply Kd.R_drewN|apply Kd.R_drew));exact HO557.out) (Kd.R_base ho0) hb);have n1_:=Aside0.mk (Kd.R_lower (Kd.R_new' ho0 (Kd.R_lt (by (with_reducible repeat (first|apply Kd.R_alloc|apply Kd.R_drewN|apply Kd.R_drew));exact HO557.out))) (below_size (by repeat (first|(with_reducible first|exact HB.out|apply below_alloc|apply pw_below_drewN|apply below_drew1|refine below_set ?_ GE542.out|refine below_set ?_ GE559.out)|exact HB.out))));have n2_:=Aside0.mk (blk_below (g:=gb542) (o := .cells #[.string a0_0, .slice A0_1 l0_1.length c0_1] 41 (0,0)) (by (with_reducible repeat (first|refine blk_drewN ?_ _|refine blk_drew ?_|refine blk_alloc ?_ _));exact BK542.out) hb);have n3_:=Aside0.mk (blk_below (g:=gb559) (o := .cells #[.string t554, .slice Ao46 t555.length co46] 41 (0,0)) (by (with_reducible repeat (first|refine blk_drewN ?_ _|refine blk_drew ?_|refine blk_alloc ?_ _));exact BK559.out) hb);have n4_:=Aside0.mk (below_step (by repeat (first|(with_reducible first|exact HB.out|apply below_alloc|apply pw_below_drewN|apply below_drew1|refine below_set ?_ GE542.out|refine below_set ?_ GE559.out)|exact HB.out)) hb);clear HO557;clear BK542;clear BK559;clear HB;have HO557:=n0_;have HO564:=n1_;have BK542:=n2_;have BK559:=n3_;have HB:=n4_;clear n0_ n1_ n2_ n3_ n4_;(try clear hb);(try clear hb2);(try clear hk);(try clear hi);(try clear ho0))|((with_reducible refine gate_dst (N:=9) rfl ?_);(try (refine gate_guard (by rfl) ?_;dsimp only));refine box_event ?hg (N:=9) ?hd (cs:=#[.string (⟨#[]⟩:ByteArray), .slice none 0 0]) (t:=41) ?hr ?_;(case hd=>rfl);(case hg=>rfl);(case hr=>first|(go_simp;done)|(go_simp;rfl));intro gb566 hg w49 hbox hb;have n0_:=Aside0.mk (Kd.R_below (by (with_reducible repeat (first|apply Kd.R_alloc|apply Kd.R_drewN|apply Kd.R_drew));exact HO557.out) hb);have n1_:=Aside0.mk (Kd.R_below (by (with_reducible repeat (first|apply Kd.R_alloc|apply Kd.R_drewN|apply Kd.R_drew));exact HO564.out) hb);have n2_:=Aside0.mk (blk_below (g:=gb542) (o := .cells #[.string a0_0, .slice A0_1 l0_1.length c0_1] 41 (0,0)) (by (with_reducible repeat (first|refine blk_drewN ?_ _|refine blk_drew ?_|refine blk_alloc ?_ _));exact BK542.out) hb);have n3_:=Aside0.mk (blk_below (g:=gb559) (o := .cells #[.string t554, .slice Ao46 t555.length co46] 41 (0,0)) (by (with_reducible repeat (first|refine blk_drewN ?_ _|refine blk_drew ?_|refine blk_alloc ?_ _));exact BK559.out) hb);have n4_:=Aside0.mk (below_step (by repeat (first|(with_reducible first|exact HB.out|apply below_alloc|apply pw_below_drewN|apply below_drew1|refine below_set ?_ GE542.out|refine below_set ?_ GE559.out)|exact HB.out)) hb);have n5_:=Aside0.mk (hbox);have n6_:=Aside0.mk ((by rw [hg];exact (below_size (by repeat (first|(with_reducible first|exact HB.out|apply below_alloc|apply pw_below_drewN|apply below_drew1|refine below_set ?_ GE542.out|refine below_set ?_ GE559.out)|exact HB.out))):w.heap.size≤gb566));have n7_:=Aside0.mk ((by rw [hg];exact (below_size (by repeat (first|(with_reducible first|exact HB.out|apply below_alloc|apply pw_below_drewN|apply below_drew1|refine below_set ?_ GE542.out|refine below_set ?_ GE559.out)|exact HB.out))):w.heap.size≤gb566));have n8_:=Aside0.mk ((by rw [hg];exact Nat.ne_of_lt (blk_lt (g:=gb542) (o := .cells #[.string a0_0, .slice A0_1 l0_1.length c0_1] 41 (0,0)) (by (with_reducible repeat (first|refine blk_drewN ?_ _|refine blk_drew ?_|refine blk_alloc ?_ _));exact BK542.out)):gb542≠gb566));have n9_:=Aside0.mk ((by rw [hg];exact Nat.ne_of_gt (blk_lt (g:=gb542) (o := .cells #[.string a0_0, .slice A0_1 l0_1.length c0_1] 41 (0,0)) (by (with_reducible repeat (first|refine blk_drewN ?_ _|refine blk_drew ?_|refine blk_alloc ?_ _));exact BK542.out)):gb566≠gb542));have n10_:=Aside0.mk ((by rw [hg];exact Nat.ne_of_lt (blk_lt (g:=gb559) (o := .cells #[.string t554, .slice Ao46 t555.length co46] 41 (0,0)) (by (with_reducible repeat (first|refine blk_drewN ?_ _|refine blk_drew ?_|refine blk_alloc ?_ _));exact BK559.out)):gb559≠gb566));have n11_:=Aside0.mk ((by rw [hg];exact Nat.ne_of_gt (blk_lt (g:=gb559) (o := .cells #[.string t554, .slice Ao46 t555.length co46] 41 (0,0)) (by (with_reducible repeat (first|refine blk_drewN ?_ _|refine blk_drew ?_|refine blk_alloc ?_ _));exact BK559.out)):gb566≠gb559));clear HO557;clear HO564;clear BK542;clear BK559;clear HB;have HO557:=n0_;have HO564:=n1_;have BK542:=n2_;have BK559:=n3_;have HB:=n4_;have BK566:=n5_;have GW566:=n6_;have GE566:=n7_;have NB542_566:=n8_;have NB566_542:=n9_;have NB559_566:=n10_;have NB566_559:=n11_;clear n0_ n1_ n2_ n3_ n4_ n5_ n6_ n7_ n8_ n9_ n10_ n11_;clear hb hbox hg;have hnb50:=NB566_542.out;have hnc50:=NB542_566.out;have hnb51:=NB566_559.out;have hnc51:=NB559_566.out;have hcz52_0:w49.cell? ⟨gb566,0,none⟩=some (.string (⟨#[]⟩:ByteArray)):=(blk_cell BK566.out 0).trans rfl;have hcz52_1:w49.cell? ⟨gb566,1,none⟩=some (.slice none 0 0):=(blk_cell BK566.out 1).trans rfl;have hfz52_0:=blk_frozen BK566.out 0;have hfz52_1:=blk_frozen BK566.out 1;obtain ⟨Ao53,co53,eo53⟩:=Kd.R_slice HO564.out;subst eo53;have hcz54_0:w49.cell? ⟨gb559,0,none⟩=some (.string t554):=(blk_cell BK559.out 0).trans rfl;have hcz54_1:w49.cell? ⟨gb559,1,none⟩=some (.slice Ao46 t555.length co46):=(blk_cell BK559.out 1).trans rfl;have hfz54_0:=blk_frozen BK559.out 0;have hfz54_1:=blk_frozen BK559.out 1)|((with_reducible refine gate_callee (f:=32) rfl ?_);refine goesL_ (some 66) rfl rfl Tryd.func32 (by kernel_rfl) rfl #[.agg #[.string t554, .slice Ao46 t555.length co46]] rfl (by (try simp only [List.map_toArray,List.map_cons,List.map_nil]);first|done|rfl|(simp only [List.length_drop,List.length_take];rfl)) ?_;(with_reducible refine (ebbtideref04_Right.calls kj15 t554 _ _ t555 true _ ?side1 ?side2 A38.out).mono ?_);(case side1=>refine (Kd.R_reads' (e:=52) (base:=w.heap.size) (ok:=fun k_=>(True∧some k_≠(.slice Ao53 t562.length co53:Value).ownBlock)) (n:=t555.length) (c:=co46) ?_).2.2;exact (by (with_reducible repeat (first|apply Kd.R_alloc|apply Kd.R_drewN|apply Kd.R_drew));exact (Kd.R_mono (Kd.R_far (p:=⟨gb566,1,none⟩) (Kd.R_far (p:=⟨gb566,0,none⟩) (Kd.R_types HO557.out BK566.out (by decide)) (fun _ hk=>hk.2) (.string t561)) (fun _ hk=>hk.2) (.slice Ao53 t562.length co53)) (fun _ h_=>h_.1))));(case side2=>exact (Kd.R_reads' HO557.out).2.1);rintro e w55 ⟨rfl,hb⟩;refine ⟨_,rfl,?_⟩;have n0_:=Aside0.mk (Kd.R_below (by (with_reducible repeat (first|apply Kd.R_alloc|apply Kd.R_drewN|apply Kd.R_drew));exact (Kd.R_mono (Kd.R_far (p:=⟨gb566,1,none⟩) (Kd.R_far (p:=⟨gb566,0,none⟩) (Kd.R_types HO557.out BK566.out (by decide)) (fun _ hk=>hk.2) (.string t561)) (fun _ hk=>hk.2) (.slice Ao53 t562.length co53)) (fun _ h_=>h_.1))) hb);have n1_:=Aside0.mk (Kd.R_below (by (with_reducible repeat (first|apply Kd.R_alloc|apply Kd.R_drewN|apply Kd.R_drew));exact (Kd.R_mono (Kd.R_far (p:=⟨gb566,1,none⟩) (Kd.R_far (p:=⟨gb566,0,none⟩) (Kd.R_types HO564.out BK566.out (by decide)) (fun _ hk=>hk.2) (.string t561)) (fun _ hk=>hk.2) (.slice Ao53 t562.length co53)) (fun _ h_=>h_.1))) hb);have n2_:=Aside0.mk (blk_below (g:=gb542) (o := .cells #[.string a0_0, .slice A0_1 l0_1.length c0_1] 41 (0,0)) (by (with_reducible repeat (first|refine blk_drewN ?_ _|refine blk_drew ?_|refine blk_alloc ?_ _));refine blk_far ?_ NB542_566.out _;(with_reducible repeat (first|refine blk_drewN ?_ _|refine blk_drew ?_|refine blk_alloc ?_ _));refine blk_far ?_ NB542_566.out _;(with_reducible repeat (first|refine blk_drewN ?_ _|refine blk_drew ?_|refine blk_alloc ?_ _));exact BK542.out) hb);have n3_:=Aside0.mk (blk_below (g:=gb559) (o := .cells #[.string t554, .slice Ao46 t555.length co46] 41 (0,0)) (by (with_reducible repeat (first|refine blk_drewN ?_ _|refine blk_drew ?_|refine blk_alloc ?_ _));refine blk_far ?_ NB559_566.out _;(with_reducible repeat (first|refine blk_drewN ?_ _|refine blk_drew ?_|refine blk_alloc ?_ _));refine blk_far ?_ NB559_566.out _;(with_reducible repeat (first|refine blk_drewN ?_ _|refine blk_drew ?_|refine blk_alloc ?_ _));exact BK559.out) hb);have n4_:=Aside0.mk (blk_below (g:=gb566) (o := .cells #[.string t561, .slice Ao53 t562.length co53] 41 (0,0)) (by (with_reducible repeat (first|refine blk_drewN ?_ _|refine blk_drew ?_|refine blk_alloc ?_ _));refine blk_put (cs:=#[.string t561, .slice none 0 0]) ?_ 1 _ rfl;(with_reducible repeat (first|refine blk_drewN ?_ _|refine blk_drew ?_|refine blk_alloc ?_ _));refine blk_put (cs:=#[.string (⟨#[]⟩:ByteArray), .slice none 0 0]) ?_ 0 _ rfl;(with_reducible repeat (first|refine blk_drewN ?_ _|refine blk_drew ?_|refine blk_alloc ?_ _));exact BK566.out) hb);have n5_:=Aside0.mk (below_step (by repeat (first|(with_reducible first|exact HB.out|apply below_alloc|apply pw_below_drewN|apply below_drew1|refine below_set ?_ GE542.out|refine below_set ?_ GE559.out|refine below_set ?_ GE566.out)|exact HB.out)) hb);clear HO557;clear HO564;clear BK542;clear BK559;clear BK566;clear HB;have HO557:=n0_;have HO564:=n1_;have BK542:=n2_;have BK559:=n3_;have BK566:=n4_;have HB:=n5_;clear n0_ n1_ n2_ n3_ n4_ n5_;(try clear hb);(try clear hb2);(try clear hk);(try clear hi);have hcz56_0:w55.cell? ⟨gb566,0,none⟩=some (.string t561):=(blk_cell BK566.out 0).trans rfl;have hcz56_1:w55.cell? ⟨gb566,1,none⟩=some (.slice Ao53 t562.length co53):=(blk_cell BK566.out 1).trans rfl;have hfz56_0:=blk_frozen BK566.out 0;have hfz56_1:=blk_frozen BK566.out 1;have hcz57_0:w55.cell? ⟨gb559,0,none⟩=some (.string t554):=(blk_cell BK559.out 0).trans rfl;have hcz57_1:w55.cell? ⟨gb559,1,none⟩=some (.slice Ao46 t555.length co46):=(blk_cell BK559.out 1).trans rfl;have hfz57_0:=blk_frozen BK559.out 0;have hfz57_1:=blk_frozen BK559.out 1)|(go_at_call 30;(with_reducible refine (ebbtideref04_Same.calls kj15 t561 _ _ t562 t554 _ _ t555 t568 _ ?side1 ?side2 ?side3 ?side4 A41.out).mono ?_);(case side1=>repeat (first|exact (Kd.R_reads' HO564.out).2.2|(with_reducible refine Kd.C_alloc ?_ _)|(with_reducible refine Kd.C_drewN ?_ _)|(with_reducible refine Kd.C_drew ?_)));(case side2=>exact (Kd.R_reads' HO564.out).2.1);(case side3=>repeat (first|exact (Kd.R_reads' HO557.out).2.2|(with_reducible refine Kd.C_alloc ?_ _)|(with_reducible refine Kd.C_drewN ?_ _)|(with_reducible refine Kd.C_drew ?_)));(case side4=>exact (Kd.R_reads' HO557.out).2.1);rintro e w58 ⟨rfl,hb⟩;have n0_:=Aside0.mk (Kd.R_below (by (with_reducible repeat (first|apply Kd.R_alloc|apply Kd.R_drewN|apply Kd.R_drew));exact HO557.out) hb);have n1_:=Aside0.mk (Kd.R_below (by (with_reducible repeat (first|apply Kd.R_alloc|apply Kd.R_drewN|apply Kd.R_drew));exact HO564.out) hb);have n2_:=Aside0.mk (blk_below (g:=gb542) (o := .cells #[.string a0_0, .slice A0_1 l0_1.length c0_1] 41 (0,0)) (by (with_reducible repeat (first|refine blk_drewN ?_ _|refine blk_drew ?_|refine blk_alloc ?_ _));exact BK542.out) hb);have n3_:=Aside0.mk (blk_below (g:=gb559) (o := .cells #[.string t554, .slice Ao46 t555.length co46] 41 (0,0)) (by (with_reducible repeat (first|refine blk_drewN ?_ _|refine blk_drew ?_|refine blk_alloc ?_ _));exact BK559.out) hb);have n4_:=Aside0.mk (blk_below (g:=gb566) (o := .cells #[.string t561, .slice Ao53 t562.length co53] 41 (0,0)) (by (with_reducible repeat (first|refine blk_drewN ?_ _|refine blk_drew ?_|refine blk_alloc ?_ _));exact BK566.out) hb);have n5_:=Aside0.mk (below_step (by repeat (first|(with_reducible first|exact HB.out|apply below_alloc|apply pw_below_drewN|apply below_drew1|refine below_set ?_ GE542.out|refine below_set ?_ GE559.out|refine below_set ?_ GE566.out)|exact HB.out)) hb);clear HO557;clear HO564;clear BK542;clear BK559;clear BK566;clear HB;have HO557:=n0_;have HO564:=n1_;have BK542:=n2_;have BK559:=n3_;have BK566:=n4_;have HB:=n5_;clear n0_ n1_ n2_ n3_ n4_ n5_;(try clear hb);(try clear hb2);(try clear hk);(try clear hi)))
          go_ret
          exact ⟨by first|rfl|(simp [errW_none,errW_some]<;>rfl)|(simp [*,errW_none,errW_some]<;>rfl),by repeat (first|(with_reducible first|exact HB.out|apply below_alloc|apply pw_below_drewN|apply below_drew1|refine below_set ?_ GE542.out|refine below_set ?_ GE559.out|refine below_set ?_ GE566.out)|exact HB.out)⟩
         ·rw [if_neg c40] at H
          exact absurd H (by simp)
        ·replace c39:=Bool.eq_false_iff.mpr c39
         subst c39
         have H1:(none)=some r:=by rw [if_neg (show ¬ (false=true) by decide)] at H;exact H
         clear H
         have H:=H1
         clear H1
         exact absurd H (by simp)
       ·rw [if_neg c35] at H
        have c35b0:(t558 ==0)=false:=beq_eq_false_iff_ne.mpr c35
        have c35b1:(t558 != 0)=true:=bne_iff_ne.mpr c35
        by_cases c59:t554.toList=([]:List UInt8)
        ·rw [if_pos c59] at H
         have c59b0:(t554.toList ==([]:List UInt8))=true:=beq_iff_eq.mpr c59
         have c59b1:(t554.toList != ([]:List UInt8))=false:=bne_eq_false_iff_eq.mpr c59
         clear c59
         obtain rfl:=Option.some.inj H
         go_wp2_with (first|((with_reducible refine gate_callee (f:=36) rfl ?_);refine goesL_ (some 45) rfl rfl Tryd.func36 (by kernel_rfl) rfl #[.string a1] rfl (by (try simp only [List.map_toArray,List.map_cons,List.map_nil]);first|done|rfl|(simp only [List.length_drop,List.length_take];rfl)) ?_;(with_reducible refine (key_Parse.calls kj15 a1 t554 t555 t558 _ A34.out).mono ?_);rintro e w60 ⟨v556,rfl,ho0,hb⟩;refine ⟨_,rfl,?_⟩;have n0_:=Aside0.mk (Kd.R_lower ho0 (below_size (by repeat (first|(with_reducible first|exact HB.out|apply below_alloc|apply pw_below_drewN|apply below_drew1|refine below_set ?_ GE542.out)|exact HB.out))));have n1_:=Aside0.mk (blk_below (g:=gb542) (o := .cells #[.string a0_0, .slice A0_1 l0_1.length c0_1] 41 (0,0)) (by (with_reducible repeat (first|refine blk_drewN ?_ _|refine blk_drew ?_|refine blk_alloc ?_ _));exact BK542.out) hb);have n2_:=Aside0.mk (below_step (by repeat (first|(with_reducible first|exact HB.out|apply below_alloc|apply pw_below_drewN|apply below_drew1|refine below_set ?_ GE542.out)|exact HB.out)) hb);clear BK542;clear HB;have HO557:=n0_;have BK542:=n1_;have HB:=n2_;clear n0_ n1_ n2_;(try clear hb);(try clear hb2);(try clear hk);(try clear hi);(try clear ho0))|((with_reducible refine gate_dst (N:=7) rfl ?_);(try (refine gate_guard (by rfl) ?_;dsimp only));refine box_event ?hg (N:=7) ?hd (cs:=#[.string (⟨#[]⟩:ByteArray), .slice none 0 0]) (t:=41) ?hr ?_;(case hd=>rfl);(case hg=>rfl);(case hr=>first|(go_simp;done)|(go_simp;rfl));intro gb559 hg w61 hbox hb;have n0_:=Aside0.mk (Kd.R_below (by (with_reducible repeat (first|apply Kd.R_alloc|apply Kd.R_drewN|apply Kd.R_drew));exact HO557.out) hb);have n1_:=Aside0.mk (blk_below (g:=gb542) (o := .cells #[.string a0_0, .slice A0_1 l0_1.length c0_1] 41 (0,0)) (by (with_reducible repeat (first|refine blk_drewN ?_ _|refine blk_drew ?_|refine blk_alloc ?_ _));exact BK542.out) hb);have n2_:=Aside0.mk (below_step (by repeat (first|(with_reducible first|exact HB.out|apply below_alloc|apply pw_below_drewN|apply below_drew1|refine below_set ?_ GE542.out)|exact HB.out)) hb);have n3_:=Aside0.mk (hbox);have n4_:=Aside0.mk ((by rw [hg];exact (below_size (by repeat (first|(with_reducible first|exact HB.out|apply below_alloc|apply pw_below_drewN|apply below_drew1|refine below_set ?_ GE542.out)|exact HB.out))):w.heap.size≤gb559));have n5_:=Aside0.mk ((by rw [hg];exact (below_size (by repeat (first|(with_reducible first|exact HB.out|apply below_alloc|apply pw_below_drewN|apply below_drew1|refine below_set ?_ GE542.out)|exact HB.out))):w.heap.size≤gb559));have n6_:=Aside0.mk ((by rw [hg];exact Nat.ne_of_lt (blk_lt (g:=gb542) (o := .cells #[.string a0_0, .slice A0_1 l0_1.length c0_1] 41 (0,0)) (by (with_reducible repeat (first|refine blk_drewN ?_ _|refine blk_drew ?_|refine blk_alloc ?_ _));exact BK542.out)):gb542≠gb559));have n7_:=Aside0.mk ((by rw [hg];exact Nat.ne_of_gt (blk_lt (g:=gb542) (o := .cells #[.string a0_0, .slice A0_1 l0_1.length c0_1] 41 (0,0)) (by (with_reducible repeat (first|refine blk_drewN ?_ _|refine blk_drew ?_|refine blk_alloc ?_ _));exact BK542.out)):gb559≠gb542));clear HO557;clear BK542;clear HB;have HO557:=n0_;have BK542:=n1_;have HB:=n2_;have BK559:=n3_;have GW559:=n4_;have GE559:=n5_;have NB542_559:=n6_;have NB559_542:=n7_;clear n0_ n1_ n2_ n3_ n4_ n5_ n6_ n7_;clear hb hbox hg;have hnb62:=NB559_542.out;have hnc62:=NB542_559.out;have hcz63_0:w61.cell? ⟨gb559,0,none⟩=some (.string (⟨#[]⟩:ByteArray)):=(blk_cell BK559.out 0).trans rfl;have hcz63_1:w61.cell? ⟨gb559,1,none⟩=some (.slice none 0 0):=(blk_cell BK559.out 1).trans rfl;have hfz63_0:=blk_frozen BK559.out 0;have hfz63_1:=blk_frozen BK559.out 1;obtain ⟨Ao64,co64,eo64⟩:=Kd.R_slice HO557.out;subst eo64))
         go_ret
         exact ⟨by first|rfl|(simp [errW_none,errW_some]<;>rfl)|(simp [*,errW_none,errW_some]<;>rfl),by repeat (first|(with_reducible first|exact HB.out|apply below_alloc|apply pw_below_drewN|apply below_drew1|refine below_set ?_ GE542.out|refine below_set ?_ GE559.out)|exact HB.out)⟩
        ·rw [if_neg c59] at H
         exact absurd H (by simp)
 ·replace c4:=Bool.eq_false_iff.mpr c4
  subst c4
  have H1:(none)=some r:=by rw [if_neg (show ¬ (false=true) by decide)] at H;exact H
  clear H
  have H:=H1
  clear H1
  exact absurd H (by simp)
end Go.Proofs.YtbefmicenjdfkaaDoor.PTk
