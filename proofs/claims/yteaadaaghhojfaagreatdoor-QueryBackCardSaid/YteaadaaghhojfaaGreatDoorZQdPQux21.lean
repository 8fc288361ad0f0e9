import Derived.Test.YteaadaaghhojfaaGreatDoorZQdPQux0
import Derived.Test.YteaadaaghhojfaaGreatDoorZQdPQux4
import Derived.Test.YteaadaaghhojfaaGreatDoorZQdPQux9
import Derived.Test.YteaadaaghhojfaaGreatDoorZQdPQux11
import Derived.Test.YteaadaaghhojfaaGreatDoorZQdPQux12
import Derived.Test.YteaadaaghhojfaaGreatDoorZQdPQux13
import Derived.Test.YteaadaaghhojfaaGreatDoorZQdPQux15
namespace Go.Proofs.YteaadaaghhojfaaGreatDoor.PQu
open Go.RowKit Go.Proofs.YteaadaaghhojfaaGreatDoorW.PrintWords Go.Proofs.YteaadaaghhojfaaGreatDoorW.PrintLast Go.Proofs.YteaadaaghhojfaaGreatDoorW.PrintMore
attribute [local go_sem] max2_int min2_int max_two min_two max_three min_three max_four min_four
set_option linter.unusedVariables false
set_option linter.unusedSimpArgs false
set_option maxHeartbeats 8000000
set_option maxRecDepth 100000
mutual
def ebbtidelaw07_QueryBack.j0:Nat→ByteArray→Bool→Int→ByteArray→List (S127)→List ByteArray→Option (Bool)
 | 0,_,_,_,_,_,_=>none
 | k+1,x1,x19,x571000,x571001,x571002,x571003=>if x19=true then (some true) else ((ebbtideref07_Right.f k x571000 x571001 x571002 x571003).bind fun t573=>(if t573=true then ((query_Text.f k x571000 x571001 x571002 x571003).bind fun t574=>((query_Parse.f k t574).bind fun bt575=>(if bt575.2.2.2.2=0 then ((ebbtideref07_Same.f k bt575.1 bt575.2.1 bt575.2.2.1 bt575.2.2.2.1 x571000 x571001 x571002 x571003).bind fun t585=>(if t585=true then (ebbtidelaw07_QueryBack.j1 k x1) else (none))) else (none)))) else (ebbtidelaw07_QueryBack.j1 k x1)))
def ebbtidelaw07_QueryBack.j1:Nat→ByteArray→Option (Bool)
 | 0,_=>none
 | k+1,x1=>(query_Parse.f k x1).bind fun bt586=>(if bt586.2.2.2.2=0 then ((query_Text.f k bt586.1 bt586.2.1 bt586.2.2.1 bt586.2.2.2.1).bind fun t597=>((query_Parse.f k t597).bind fun bt598=>((ebbtideref07_Right.f k bt586.1 bt586.2.1 bt586.2.2.1 bt586.2.2.2.1).bind fun t608=>(if t608=true then (if bt598.2.2.2.2=0 then ((ebbtideref07_Same.f k bt598.1 bt598.2.1 bt598.2.2.1 bt598.2.2.2.1 bt586.1 bt586.2.1 bt586.2.2.1 bt586.2.2.2.1).bind fun t609=>(some t609)) else (none)) else (none))))) else ((ebbtideref07_Same.f k bt586.1 bt586.2.1 bt586.2.2.1 bt586.2.2.2.1 0 (⟨#[]⟩:ByteArray) ([]:List (S127)) ([]:List ByteArray)).bind fun t596=>(some t596)))
end
def ebbtidelaw07_QueryBack.f (k:Nat) (a0_0:Int) (a0_1:ByteArray) (l0_2:List (S127)) (l0_3:List ByteArray) (a1:ByteArray):Option (Bool):=(ebbtidelaw07_alive.f k).bind fun t571=>(if t571=true then ((ebbtideref07_Great.f k a0_0 a0_1 l0_2 l0_3).bind fun t572=>(if t572=true then (ebbtidelaw07_QueryBack.j0 k a1 true a0_0 a0_1 l0_2 l0_3) else (ebbtidelaw07_QueryBack.j0 k a1 (decide ((a1.size:Int)>500)) a0_0 a0_1 l0_2 l0_3))) else (none))
theorem ebbtidelaw07_QueryBack.mono_l:∀ k,(∀ y0 y1 y2 y3 y4 y5,LeO (ebbtidelaw07_QueryBack.j0 k y0 y1 y2 y3 y4 y5) (ebbtidelaw07_QueryBack.j0 (k+1) y0 y1 y2 y3 y4 y5))∧(∀ y0,LeO (ebbtidelaw07_QueryBack.j1 k y0) (ebbtidelaw07_QueryBack.j1 (k+1) y0))
 | 0=>⟨fun _ _ _ _ _ _ r h=>by simp [ebbtidelaw07_QueryBack.j0] at h,fun _ r h=>by simp [ebbtidelaw07_QueryBack.j1] at h⟩
 | k+1=>by
  obtain ⟨ih0,ih1⟩:=ebbtidelaw07_QueryBack.mono_l k
  refine ⟨?_,?_⟩
  ·intro y0 y1 y2 y3 y4 y5
   unfold ebbtidelaw07_QueryBack.j0
   repeat' first
   | (with_reducible exact ih0 _ _ _ _ _ _)
   | (with_reducible exact ih1 _)
   | (with_reducible exact ebbtidelaw07_alive.mono _)
   | (with_reducible exact ebbtideref07_Great.mono _ _ _ _ _)
   | (with_reducible exact ebbtideref07_Right.mono _ _ _ _ _)
   | (with_reducible exact ebbtideref07_Same.mono _ _ _ _ _ _ _ _ _)
   | (with_reducible exact query_Parse.mono _ _)
   | (with_reducible exact query_Text.mono _ _ _ _ _)
   | (with_reducible exact LeO.refl _)
   | (with_reducible exact LeO.none _)
   | (with_reducible refine LeO.ite ?_ ?_)
   | (with_reducible refine LeO.bind ?_ (fun _=>?_))
   | exact ih0 _ _ _ _ _ _
   | exact ih1 _
   | exact ebbtidelaw07_alive.mono _
   | exact ebbtideref07_Great.mono _ _ _ _ _
   | exact ebbtideref07_Right.mono _ _ _ _ _
   | exact ebbtideref07_Same.mono _ _ _ _ _ _ _ _ _
   | exact query_Parse.mono _ _
   | exact query_Text.mono _ _ _ _ _
   | exact LeO.none _
   | refine LeO.ite ?_ ?_
   | refine LeO.bind ?_ (fun _=>?_)
  ·intro y0
   unfold ebbtidelaw07_QueryBack.j1
   repeat' first
   | (with_reducible exact ih0 _ _ _ _ _ _)
   | (with_reducible exact ih1 _)
   | (with_reducible exact ebbtidelaw07_alive.mono _)
   | (with_reducible exact ebbtideref07_Great.mono _ _ _ _ _)
   | (with_reducible exact ebbtideref07_Right.mono _ _ _ _ _)
   | (with_reducible exact ebbtideref07_Same.mono _ _ _ _ _ _ _ _ _)
   | (with_reducible exact query_Parse.mono _ _)
   | (with_reducible exact query_Text.mono _ _ _ _ _)
   | (with_reducible exact LeO.refl _)
   | (with_reducible exact LeO.none _)
   | (with_reducible refine LeO.ite ?_ ?_)
   | (with_reducible refine LeO.bind ?_ (fun _=>?_))
   | exact ih0 _ _ _ _ _ _
   | exact ih1 _
   | exact ebbtidelaw07_alive.mono _
   | exact ebbtideref07_Great.mono _ _ _ _ _
   | exact ebbtideref07_Right.mono _ _ _ _ _
   | exact ebbtideref07_Same.mono _ _ _ _ _ _ _ _ _
   | exact query_Parse.mono _ _
   | exact query_Text.mono _ _ _ _ _
   | exact LeO.none _
   | refine LeO.ite ?_ ?_
   | refine LeO.bind ?_ (fun _=>?_)
theorem ebbtidelaw07_QueryBack.mono:∀ a0 a1 a2 a3 a4 k,LeO (ebbtidelaw07_QueryBack.f k a0 a1 a2 a3 a4) (ebbtidelaw07_QueryBack.f (k+1) a0 a1 a2 a3 a4):=by
 intro a0 a1 a2 a3 a4 k
 obtain ⟨ih0,ih1⟩:=ebbtidelaw07_QueryBack.mono_l k
 unfold ebbtidelaw07_QueryBack.f
 repeat' first
   | (with_reducible exact ih0 _ _ _ _ _ _)
   | (with_reducible exact ih1 _)
   | (with_reducible exact ebbtidelaw07_alive.mono _)
   | (with_reducible exact ebbtideref07_Great.mono _ _ _ _ _)
   | (with_reducible exact ebbtideref07_Right.mono _ _ _ _ _)
   | (with_reducible exact ebbtideref07_Same.mono _ _ _ _ _ _ _ _ _)
   | (with_reducible exact query_Parse.mono _ _)
   | (with_reducible exact query_Text.mono _ _ _ _ _)
   | (with_reducible exact LeO.refl _)
   | (with_reducible exact LeO.none _)
   | (with_reducible refine LeO.ite ?_ ?_)
   | (with_reducible refine LeO.bind ?_ (fun _=>?_))
   | exact ih0 _ _ _ _ _ _
   | exact ih1 _
   | exact ebbtidelaw07_alive.mono _
   | exact ebbtideref07_Great.mono _ _ _ _ _
   | exact ebbtideref07_Right.mono _ _ _ _ _
   | exact ebbtideref07_Same.mono _ _ _ _ _ _ _ _ _
   | exact query_Parse.mono _ _
   | exact query_Text.mono _ _ _ _ _
   | exact LeO.none _
   | refine LeO.ite ?_ ?_
   | refine LeO.bind ?_ (fun _=>?_)
theorem ebbtidelaw07_QueryBack.calls (k:Nat) (a0_0:Int) (a0_1:ByteArray) (A0_2:Option Addr) (c0_2:Nat) (l0_2:List (S127)) (A0_3:Option Addr) (c0_3:Nat) (l0_3:List ByteArray) (a1:ByteArray) (r:Bool) (w:World) (hG:GInt w) (hr0_2:Kd.C k127 w A0_2 l0_2.length l0_2) (hc0_2:l0_2.length≤c0_2) (hr0_3:Kd.C Kd.string w A0_3 l0_3.length l0_3) (hc0_3:l0_3.length≤c0_3) (h:ebbtidelaw07_QueryBack.f k a0_0 a0_1 l0_2 l0_3 a1=some r) :
  Calls Tryz.prog 6 #[.agg #[.int .i64 a0_0, .string a0_1, .slice A0_2 l0_2.length c0_2, .slice A0_3 l0_3.length c0_3], .string a1] w fun e w'=>e = .returned (.bool r)∧Below w.heap.size w w':=by
 have HG:=Aside0.mk hG
 clear hG
 have hu25:=Tryz.underlying25
 have HR0_2:=Aside0.mk hr0_2
 have HC0_2:=Aside0.mk hc0_2
 clear hr0_2 hc0_2
 have HR0_3:=Aside0.mk hr0_3
 have HC0_3:=Aside0.mk hc0_3
 clear hr0_3 hc0_3
 have HB:=Aside0.mk (Below.refl w.heap.size w)
 have H:((ebbtidelaw07_alive.f k).bind fun t571=>(if t571=true then ((ebbtideref07_Great.f k a0_0 a0_1 l0_2 l0_3).bind fun t572=>(if t572=true then (ebbtidelaw07_QueryBack.j0 k a1 true a0_0 a0_1 l0_2 l0_3) else (ebbtidelaw07_QueryBack.j0 k a1 (decide ((a1.size:Int)>500)) a0_0 a0_1 l0_2 l0_3))) else (none)))=some r:=h
 clear h
 replace H:=Option.bind_eq_some_iff.mp H
 obtain ⟨t571,A30,H⟩:=H
 replace H:(if t571=true then ((ebbtideref07_Great.f k a0_0 a0_1 l0_2 l0_3).bind fun t572=>(if t572=true then (ebbtidelaw07_QueryBack.j0 k a1 true a0_0 a0_1 l0_2 l0_3) else (ebbtidelaw07_QueryBack.j0 k a1 (decide ((a1.size:Int)>500)) a0_0 a0_1 l0_2 l0_3))) else (none))=some r:=H
 have A3:=Aside0.mk A30
 clear A30
 by_cases c4:t571=true
 rotate_left
 ·replace c4:=Bool.eq_false_iff.mpr c4
  subst c4
  have H1:(none)=some r:=by rw [if_neg (show ¬ (false=true) by decide)] at H;exact H
  clear H
  have H:=H1
  clear H1
  exact absurd H (by simp)
 subst c4
 have H1:((ebbtideref07_Great.f k a0_0 a0_1 l0_2 l0_3).bind fun t572=>(if t572=true then (ebbtidelaw07_QueryBack.j0 k a1 true a0_0 a0_1 l0_2 l0_3) else (ebbtidelaw07_QueryBack.j0 k a1 (decide ((a1.size:Int)>500)) a0_0 a0_1 l0_2 l0_3)))=some r:=by rw [if_pos rfl] at H;exact H
 clear H
 have H:=H1
 clear H1
 have HC5:=Aside0.mk H
 clear H
 go_enter Tryz.func6,Tryz.ntmps6
 go_upto_region 3 with (first|((with_reducible refine gate_dst (N:=2) rfl ?_);(try (refine gate_guard (by rfl) ?_;dsimp only));refine box_event ?hg (N:=2) ?hd (cs:=#[.int .i64 a0_0, .string a0_1, .slice A0_2 l0_2.length c0_2, .slice A0_3 l0_3.length c0_3]) (t:=25) ?hr ?_;(case hd=>rfl);(case hg=>rfl);(case hr=>first|(go_simp;done)|(go_simp;rfl));intro gb570 hg w6 hbox hb;have BK570:=Aside0.mk hbox;have GW570:Aside0 (w.heap.size≤gb570):=⟨qH⟩;have GE570:=GW570;replace HB:=Aside0.mk (below_step qB hb);clear hb hbox hg)|((with_reducible refine gate_callee (f:=12) rfl ?_);refine goesL_ (some 11) rfl rfl Tryz.func12 qK rfl #[] rfl qG ?_;(with_reducible refine (ebbtidelaw07_alive.calls k  true _ qM A3.out).mono ?_);rintro e w7 ⟨rfl,hb⟩;refine ⟨_,rfl,?_⟩;replace BK570:=Aside0.mk (blk_below (g:=gb570) (o := .cells #[.int .i64 a0_0, .string a0_1, .slice A0_2 l0_2.length c0_2, .slice A0_3 l0_3.length c0_3] 25 (0,0)) (qW BK570) hb);replace HB:=Aside0.mk (below_step qC hb);clear hb))
 (try simp only [Act.put,List.setIfInBounds_toArray,List.set_cons_zero,List.set_cons_succ])
 go_cut [19] (fun v19 wc=>∃ (kq:Nat) (x19_4:Bool),v19 = .bool x19_4∧Aside0 (ebbtidelaw07_QueryBack.j0 kq a1 x19_4 a0_0 a0_1 l0_2 l0_3=some r)∧Aside0 (kq≤k)∧Aside0 (wc.heap[gb570]?=some (.cells #[.int .i64 a0_0, .string a0_1,(.slice A0_2 l0_2.length c0_2),(.slice A0_3 l0_3.length c0_3)] 25 (0,0)))∧Aside0 (Below w.heap.size w wc))
 case first =>
  have H:=HC5.out
  clear HC5
  replace H:=Option.bind_eq_some_iff.mp H
  obtain ⟨t572,A80,H⟩:=H
  replace H:(if t572=true then (ebbtidelaw07_QueryBack.j0 k a1 true a0_0 a0_1 l0_2 l0_3) else (ebbtidelaw07_QueryBack.j0 k a1 (decide ((a1.size:Int)>500)) a0_0 a0_1 l0_2 l0_3))=some r:=H
  have A8:=Aside0.mk A80
  clear A80
  by_cases c9:t572=true
  ·subst c9
   have H1:(ebbtidelaw07_QueryBack.j0 k a1 true a0_0 a0_1 l0_2 l0_3)=some r:=by rw [if_pos rfl] at H;exact H
   clear H
   have H:=H1
   clear H1
   have H':=Aside0.mk H
   clear H
   obtain ⟨hcz10_0,hcz10_1,hcz10_2,hcz10_3,hfz10_0,hfz10_1,hfz10_2,hfz10_3⟩:=cf4 BK570.out
   go_wp2_with (first|((with_reducible refine gate_callee (f:=13) rfl ?_);refine goesL_ (some 14) rfl rfl Tryz.func13 qK rfl #[.agg #[.int .i64 a0_0, .string a0_1, .slice A0_2 l0_2.length c0_2, .slice A0_3 l0_3.length c0_3]] rfl qG ?_;(with_reducible refine (ebbtideref07_Great.calls k a0_0 a0_1 _ _ l0_2 _ _ l0_3 true _ ?side1 ?side2 ?side3 ?side4 A8.out).mono ?_);(case side1=>repeat (first|exact (Kd.C_below HR0_2.out HB.out)|(with_reducible refine Kd.C_alloc ?_ _)|(with_reducible refine Kd.C_drewN ?_ _)|(with_reducible refine Kd.C_drew ?_)));(case side2=>exact HC0_2.out);(case side3=>repeat (first|exact (Kd.C_below HR0_3.out HB.out)|(with_reducible refine Kd.C_alloc ?_ _)|(with_reducible refine Kd.C_drewN ?_ _)|(with_reducible refine Kd.C_drew ?_)));(case side4=>exact HC0_3.out);rintro e w11 ⟨rfl,hb⟩;refine ⟨_,rfl,?_⟩;replace BK570:=Aside0.mk (blk_below (g:=gb570) (o := .cells #[.int .i64 a0_0, .string a0_1, .slice A0_2 l0_2.length c0_2, .slice A0_3 l0_3.length c0_3] 25 (0,0)) (qW BK570) hb);replace HB:=Aside0.mk (below_step qC hb);clear hb))
   go_meet
   case rel=>exact ⟨_,(true),qS,H',⟨by first|omega|exact Nat.le_refl _⟩,⟨qW BK570⟩,⟨qC⟩⟩
  replace c9:=Bool.eq_false_iff.mpr c9
  subst c9
  have H1:(ebbtidelaw07_QueryBack.j0 k a1 (decide ((a1.size:Int)>500)) a0_0 a0_1 l0_2 l0_3)=some r:=by rw [if_neg (show ¬ (false=true) by decide)] at H;exact H
  clear H
  have H:=H1
  clear H1
  have H':=Aside0.mk H
  clear H
  obtain ⟨hcz12_0,hcz12_1,hcz12_2,hcz12_3,hfz12_0,hfz12_1,hfz12_2,hfz12_3⟩:=cf4 BK570.out
  go_wp2_with (first|((with_reducible refine gate_callee (f:=13) rfl ?_);refine goesL_ (some 14) rfl rfl Tryz.func13 qK rfl #[.agg #[.int .i64 a0_0, .string a0_1, .slice A0_2 l0_2.length c0_2, .slice A0_3 l0_3.length c0_3]] rfl qG ?_;(with_reducible refine (ebbtideref07_Great.calls k a0_0 a0_1 _ _ l0_2 _ _ l0_3 false _ ?side1 ?side2 ?side3 ?side4 A8.out).mono ?_);(case side1=>repeat (first|exact (Kd.C_below HR0_2.out HB.out)|(with_reducible refine Kd.C_alloc ?_ _)|(with_reducible refine Kd.C_drewN ?_ _)|(with_reducible refine Kd.C_drew ?_)));(case side2=>exact HC0_2.out);(case side3=>repeat (first|exact (Kd.C_below HR0_3.out HB.out)|(with_reducible refine Kd.C_alloc ?_ _)|(with_reducible refine Kd.C_drewN ?_ _)|(with_reducible refine Kd.C_drew ?_)));(case side4=>exact HC0_3.out);rintro e w13 ⟨rfl,hb⟩;refine ⟨_,rfl,?_⟩;replace BK570:=Aside0.mk (blk_below (g:=gb570) (o := .cells #[.int .i64 a0_0, .string a0_1, .slice A0_2 l0_2.length c0_2, .slice A0_3 l0_3.length c0_3] 25 (0,0)) (qW BK570) hb);replace HB:=Aside0.mk (below_step qC hb);clear hb))
  go_meet
  case rel=>exact ⟨_,(decide ((a1.size:Int)>500)),qS,H',⟨by first|omega|exact Nat.le_refl _⟩,⟨qW BK570⟩,⟨qC⟩⟩
 case rest =>
  clear HC5
  try clear c4
  obtain ⟨kq,x19_4,rfl,HA,HJ4,BK570,HB⟩:=hcut
  cases kq with
  | zero=>exact absurd HA.out (by simp [ebbtidelaw07_QueryBack.j0])
  | succ kj4 =>
   have H:=HA.out
   clear HA
   simp only [ebbtidelaw07_QueryBack.j0] at H
   by_cases c14:x19_4=true
   ·subst c14
    have H1:(some true)=some r:=by rw [if_pos rfl] at H;exact H
    clear H
    have H:=H1
    clear H1
    obtain rfl:=Option.some.inj H
    go_wp2
    go_ret
    exact ⟨qE,qC⟩
   replace c14:=Bool.eq_false_iff.mpr c14
   subst c14
   have H1:((ebbtideref07_Right.f kj4 a0_0 a0_1 l0_2 l0_3).bind fun t573=>(if t573=true then ((query_Text.f kj4 a0_0 a0_1 l0_2 l0_3).bind fun t574=>((query_Parse.f kj4 t574).bind fun bt575=>(if bt575.2.2.2.2=0 then ((ebbtideref07_Same.f kj4 bt575.1 bt575.2.1 bt575.2.2.1 bt575.2.2.2.1 a0_0 a0_1 l0_2 l0_3).bind fun t585=>(if t585=true then (ebbtidelaw07_QueryBack.j1 kj4 a1) else (none))) else (none)))) else (ebbtidelaw07_QueryBack.j1 kj4 a1)))=some r:=by rw [if_neg (show ¬ (false=true) by decide)] at H;exact H
   clear H
   have H:=H1
   clear H1
   replace H:=Option.bind_eq_some_iff.mp H
   obtain ⟨t573,A150,H⟩:=H
   replace H:(if t573=true then ((query_Text.f kj4 a0_0 a0_1 l0_2 l0_3).bind fun t574=>((query_Parse.f kj4 t574).bind fun bt575=>(if bt575.2.2.2.2=0 then ((ebbtideref07_Same.f kj4 bt575.1 bt575.2.1 bt575.2.2.1 bt575.2.2.2.1 a0_0 a0_1 l0_2 l0_3).bind fun t585=>(if t585=true then (ebbtidelaw07_QueryBack.j1 kj4 a1) else (none))) else (none)))) else (ebbtidelaw07_QueryBack.j1 kj4 a1))=some r:=H
   have A15:=Aside0.mk A150
   clear A150
   have HC16:=Aside0.mk H
   clear H
   obtain ⟨hcz17_0,hcz17_1,hcz17_2,hcz17_3,hfz17_0,hfz17_1,hfz17_2,hfz17_3⟩:=cf4 BK570.out
   go_upto_if 21 with (first|((with_reducible refine gate_callee (f:=15) rfl ?_);refine goesL_ (some 21) rfl rfl Tryz.func15 qK rfl #[.agg #[.int .i64 a0_0, .string a0_1, .slice A0_2 l0_2.length c0_2, .slice A0_3 l0_3.length c0_3]] rfl qG ?_;(with_reducible refine (ebbtideref07_Right.calls kj4 a0_0 a0_1 _ _ l0_2 _ _ l0_3 t573 _ ?side1 ?side2 ?side3 ?side4 A15.out).mono ?_);(case side1=>repeat (first|exact (Kd.C_below HR0_2.out HB.out)|(with_reducible refine Kd.C_alloc ?_ _)|(with_reducible refine Kd.C_drewN ?_ _)|(with_reducible refine Kd.C_drew ?_)));(case side2=>exact HC0_2.out);(case side3=>repeat (first|exact (Kd.C_below HR0_3.out HB.out)|(with_reducible refine Kd.C_alloc ?_ _)|(with_reducible refine Kd.C_drewN ?_ _)|(with_reducible refine Kd.C_drew ?_)));(case side4=>exact HC0_3.out);rintro e w18 ⟨rfl,hb⟩;refine ⟨_,rfl,?_⟩;replace BK570:=Aside0.mk (blk_below (g:=gb570) (o := .cells #[.int .i64 a0_0, .string a0_1, .slice A0_2 l0_2.length c0_2, .slice A0_3 l0_3.length c0_3] 25 (0,0)) (qW BK570) hb);replace HB:=Aside0.mk (below_step qC hb);clear hb))
   (try simp only [Act.put,List.setIfInBounds_toArray,List.set_cons_zero,List.set_cons_succ])
   go_cut [] (fun wc=>∃ (kq:Nat),Aside0 (ebbtidelaw07_QueryBack.j1 kq a1=some r)∧Aside0 (kq≤kj4)∧Aside0 (wc.heap[gb570]?=some (.cells #[.int .i64 a0_0, .string a0_1,(.slice A0_2 l0_2.length c0_2),(.slice A0_3 l0_3.length c0_3)] 25 (0,0)))∧Aside0 (Below w.heap.size w wc))
   case first =>
    have H:=HC16.out
    clear HC16
    by_cases c19:t573=true
    rotate_left
    ·replace c19:=Bool.eq_false_iff.mpr c19
     subst c19
     have H1:(ebbtidelaw07_QueryBack.j1 kj4 a1)=some r:=by rw [if_neg (show ¬ (false=true) by decide)] at H;exact H
     clear H
     have H:=H1
     clear H1
     have H':=Aside0.mk H
     clear H
     go_wp2
     go_meet
     case rel=>exact ⟨_,H',⟨by have:=HJ4.out;first|omega|exact Nat.le_refl _⟩,⟨qW BK570⟩,⟨qC⟩⟩
    subst c19
    have H1:((query_Text.f kj4 a0_0 a0_1 l0_2 l0_3).bind fun t574=>((query_Parse.f kj4 t574).bind fun bt575=>(if bt575.2.2.2.2=0 then ((ebbtideref07_Same.f kj4 bt575.1 bt575.2.1 bt575.2.2.1 bt575.2.2.2.1 a0_0 a0_1 l0_2 l0_3).bind fun t585=>(if t585=true then (ebbtidelaw07_QueryBack.j1 kj4 a1) else (none))) else (none))))=some r:=by rw [if_pos rfl] at H;exact H
    clear H
    have H:=H1
    clear H1
    replace H:=Option.bind_eq_some_iff.mp H
    obtain ⟨t574,A200,H⟩:=H
    replace H:((query_Parse.f kj4 t574).bind fun bt575=>(if bt575.2.2.2.2=0 then ((ebbtideref07_Same.f kj4 bt575.1 bt575.2.1 bt575.2.2.1 bt575.2.2.2.1 a0_0 a0_1 l0_2 l0_3).bind fun t585=>(if t585=true then (ebbtidelaw07_QueryBack.j1 kj4 a1) else (none))) else (none)))=some r:=H
    have A20:=Aside0.mk A200
    clear A200
    replace H:=Option.bind_eq_some_iff.mp H
    obtain ⟨⟨t575,t576,t577,t580,t583⟩,A210,H⟩:=H
    replace H:(if t583=0 then ((ebbtideref07_Same.f kj4 t575 t576 t577 t580 a0_0 a0_1 l0_2 l0_3).bind fun t585=>(if t585=true then (ebbtidelaw07_QueryBack.j1 kj4 a1) else (none))) else (none))=some r:=H
    have A21:=Aside0.mk A210
    clear A210
    by_cases c22:t583=0
    rotate_left
    ·rw [if_neg c22] at H
     exact absurd H (by simp)
    rw [if_pos c22] at H
    have c22b0:(t583 ==0)=true:=beq_iff_eq.mpr c22
    have c22b1:(t583 != 0)=false:=bne_eq_false_iff_eq.mpr c22
    clear c22
    (first|rw [c22b0]|(simp only [i64_w,i32_w];rw [c22b0])|rw [c22b1]|skip)
    replace H:=Option.bind_eq_some_iff.mp H
    obtain ⟨t585,A230,H⟩:=H
    replace H:(if t585=true then (ebbtidelaw07_QueryBack.j1 kj4 a1) else (none))=some r:=H
    have A23:=Aside0.mk A230
    clear A230
    by_cases c24:t585=true
    rotate_left
    ·replace c24:=Bool.eq_false_iff.mpr c24
     subst c24
     have H1:(none)=some r:=by rw [if_neg (show ¬ (false=true) by decide)] at H;exact H
     clear H
     have H:=H1
     clear H1
     exact absurd H (by simp)
    subst c24
    have H1:(ebbtidelaw07_QueryBack.j1 kj4 a1)=some r:=by rw [if_pos rfl] at H;exact H
    clear H
    have H:=H1
    clear H1
    have H':=Aside0.mk H
    clear H
    obtain ⟨hcz25_0,hcz25_1,hcz25_2,hcz25_3,hfz25_0,hfz25_1,hfz25_2,hfz25_3⟩:=cf4 BK570.out
    go_wp2_with (first|((with_reducible refine gate_callee (f:=16) rfl ?_);refine goesL_ (some 24) rfl rfl Tryz.func16 qK rfl #[.agg #[.int .i64 a0_0, .string a0_1, .slice A0_2 l0_2.length c0_2, .slice A0_3 l0_3.length c0_3]] rfl qG ?_;(with_reducible refine (query_Text.calls kj4 a0_0 a0_1 _ _ l0_2 _ _ l0_3 t574 _ ?side1 ?side2 ?side3 ?side4 A20.out).mono ?_);(case side1=>repeat (first|exact (Kd.C_below HR0_2.out HB.out)|(with_reducible refine Kd.C_alloc ?_ _)|(with_reducible refine Kd.C_drewN ?_ _)|(with_reducible refine Kd.C_drew ?_)));(case side2=>exact HC0_2.out);(case side3=>repeat (first|exact (Kd.C_below HR0_3.out HB.out)|(with_reducible refine Kd.C_alloc ?_ _)|(with_reducible refine Kd.C_drewN ?_ _)|(with_reducible refine Kd.C_drew ?_)));(case side4=>exact HC0_3.out);rintro e w26 ⟨rfl,hb⟩;refine ⟨_,rfl,?_⟩;replace BK570:=Aside0.mk (blk_below (g:=gb570) (o := .cells #[.int .i64 a0_0, .string a0_1, .slice A0_2 l0_2.length c0_2, .slice A0_3 l0_3.length c0_3] 25 (0,0)) (qW BK570) hb);replace HB:=Aside0.mk (below_step qC hb);clear hb)|((with_reducible refine gate_callee (f:=20) rfl ?_);refine goesL_ (some 25) rfl rfl Tryz.func20 qK rfl #[.string t574] rfl qG ?_;(with_reducible refine (query_Parse.calls kj4 t574 t575 t576 t577 t580 t583 _ qM A21.out).mono ?_);rintro e w27 ⟨v578,v581,rfl,ho0,ho1,hb⟩;refine ⟨_,rfl,?_⟩;have HO579:=Aside0.mk (Kd.R_lower ho0 (below_size qC));have HO582:=Aside0.mk (Kd.R_lower ho1 (below_size qC));replace BK570:=Aside0.mk (blk_below (g:=gb570) (o := .cells #[.int .i64 a0_0, .string a0_1, .slice A0_2 l0_2.length c0_2, .slice A0_3 l0_3.length c0_3] 25 (0,0)) (qW BK570) hb);replace HB:=Aside0.mk (below_step qC hb);clear hb ho0 ho1)|((with_reducible refine gate_dst (N:=5) rfl ?_);(try (refine gate_guard (by rfl) ?_;dsimp only));refine box_event ?hg (N:=5) ?hd (cs:=#[.int .i64 0, .string (⟨#[]⟩:ByteArray), .slice none 0 0, .slice none 0 0]) (t:=25) ?hr ?_;(case hd=>rfl);(case hg=>rfl);(case hr=>first|(go_simp;done)|(go_simp;rfl));intro gb584 hg w28 hbox hb;replace HO579:=Aside0.mk (Kd.R_below (qR HO579) hb);replace HO582:=Aside0.mk (Kd.R_below (qR HO582) hb);have BK584:=Aside0.mk hbox;have GW584:Aside0 (w.heap.size≤gb584):=⟨qI⟩;have GE584:=GW584;replace HB:=Aside0.mk (below_step qC hb);have NB570_584:=Aside0.mk ((by rw [hg];exact Nat.ne_of_lt (blk_lt (g:=gb570) (o := .cells #[.int .i64 a0_0, .string a0_1, .slice A0_2 l0_2.length c0_2, .slice A0_3 l0_3.length c0_3] 25 (0,0)) (qW BK570)):gb570≠gb584));have NB584_570:=Aside0.mk ((by rw [hg];exact Nat.ne_of_gt (blk_lt (g:=gb570) (o := .cells #[.int .i64 a0_0, .string a0_1, .slice A0_2 l0_2.length c0_2, .slice A0_3 l0_3.length c0_3] 25 (0,0)) (qW BK570)):gb584≠gb570));replace BK570:=Aside0.mk (blk_below (g:=gb570) (o := .cells #[.int .i64 a0_0, .string a0_1, .slice A0_2 l0_2.length c0_2, .slice A0_3 l0_3.length c0_3] 25 (0,0)) (qW BK570) hb);clear hb hbox hg;have hnb29:=NB584_570.out;have hnc29:=NB570_584.out;obtain ⟨hcz30_0,hcz30_1,hcz30_2,hcz30_3,hfz30_0,hfz30_1,hfz30_2,hfz30_3⟩:=cf4 BK584.out;obtain ⟨Ao31,co31,eo31⟩:=Kd.R_slice HO579.out;subst eo31;obtain ⟨Ao32,co32,eo32⟩:=Kd.R_slice HO582.out;subst eo32;obtain ⟨hcz33_0,hcz33_1,hcz33_2,hcz33_3,hfz33_0,hfz33_1,hfz33_2,hfz33_3⟩:=cf4 BK570.out)|(go_at_call 19;(with_reducible refine (ebbtideref07_Same.calls kj4 t575 t576 _ _ t577 _ _ t580 a0_0 a0_1 _ _ l0_2 _ _ l0_3 true _ ?side1 ?side2 ?side3 ?side4 ?side5 ?side6 ?side7 ?side8 A23.out).mono ?_);(case side1=>refine (Kd.R_reads' (e:=127) (base:=w.heap.size) (ok:=fun k_=>True) (n:=t577.length) (c:=co31) ?_).2.2;exact (by (with_reducible repeat (first|apply Kd.R_alloc|apply Kd.R_drewN|apply Kd.R_drew));exact (Kd.R_mono (Kd.R_far (p:=⟨gb584,3,none⟩) (Kd.R_far (p:=⟨gb584,2,none⟩) (Kd.R_far (p:=⟨gb584,1,none⟩) (Kd.R_far (p:=⟨gb584,0,none⟩) (Kd.R_types HO579.out BK584.out (by decide)) (fun _ hk=>hk.2) (.int .i64 t575)) (fun _ hk=>hk.2) (.string t576)) (fun _ hk=>hk.2) (.slice Ao31 t577.length co31)) (fun _ hk=>hk.2) (.slice Ao32 t580.length co32)) (fun _ h_=>h_.1))));(case side2=>exact (Kd.R_reads' HO579.out).2.1);(case side3=>refine (Kd.R_reads' (e:=9) (base:=w.heap.size) (ok:=fun k_=>True) (n:=t580.length) (c:=co32) ?_).2.2;exact (by (with_reducible repeat (first|apply Kd.R_alloc|apply Kd.R_drewN|apply Kd.R_drew));exact (Kd.R_mono (Kd.R_far (p:=⟨gb584,3,none⟩) (Kd.R_far (p:=⟨gb584,2,none⟩) (Kd.R_far (p:=⟨gb584,1,none⟩) (Kd.R_far (p:=⟨gb584,0,none⟩) (Kd.R_types HO582.out BK584.out (by decide)) (fun _ hk=>hk.2) (.int .i64 t575)) (fun _ hk=>hk.2) (.string t576)) (fun _ hk=>hk.2) (.slice Ao31 t577.length co31)) (fun _ hk=>hk.2) (.slice Ao32 t580.length co32)) (fun _ h_=>h_.1))));(case side4=>exact (Kd.R_reads' HO582.out).2.1);(case side5=>exact Kd.C_below HR0_2.out qC);(case side6=>exact HC0_2.out);(case side7=>exact Kd.C_below HR0_3.out qC);(case side8=>exact HC0_3.out);rintro e w34 ⟨rfl,hb⟩;replace HO579:=Aside0.mk (Kd.R_below (by (with_reducible repeat (first|apply Kd.R_alloc|apply Kd.R_drewN|apply Kd.R_drew));exact (Kd.R_mono (Kd.R_far (p:=⟨gb584,3,none⟩) (Kd.R_far (p:=⟨gb584,2,none⟩) (Kd.R_far (p:=⟨gb584,1,none⟩) (Kd.R_far (p:=⟨gb584,0,none⟩) (Kd.R_types HO579.out BK584.out (by decide)) (fun _ hk=>hk.2) (.int .i64 t575)) (fun _ hk=>hk.2) (.string t576)) (fun _ hk=>hk.2) (.slice Ao31 t577.length co31)) (fun _ hk=>hk.2) (.slice Ao32 t580.length co32)) (fun _ h_=>h_.1))) hb);replace HO582:=Aside0.mk (Kd.R_below (by (with_reducible repeat (first|apply Kd.R_alloc|apply Kd.R_drewN|apply Kd.R_drew));exact (Kd.R_mono (Kd.R_far (p:=⟨gb584,3,none⟩) (Kd.R_far (p:=⟨gb584,2,none⟩) (Kd.R_far (p:=⟨gb584,1,none⟩) (Kd.R_far (p:=⟨gb584,0,none⟩) (Kd.R_types HO582.out BK584.out (by decide)) (fun _ hk=>hk.2) (.int .i64 t575)) (fun _ hk=>hk.2) (.string t576)) (fun _ hk=>hk.2) (.slice Ao31 t577.length co31)) (fun _ hk=>hk.2) (.slice Ao32 t580.length co32)) (fun _ h_=>h_.1))) hb);replace BK570:=Aside0.mk (blk_below (g:=gb570) (o := .cells #[.int .i64 a0_0, .string a0_1, .slice A0_2 l0_2.length c0_2, .slice A0_3 l0_3.length c0_3] 25 (0,0)) (by (with_reducible repeat (first|refine blk_drewN ?_ _|refine blk_drew ?_|refine blk_alloc ?_ _));refine blk_far ?_ NB570_584.out _;(with_reducible repeat (first|refine blk_drewN ?_ _|refine blk_drew ?_|refine blk_alloc ?_ _));refine blk_far ?_ NB570_584.out _;(with_reducible repeat (first|refine blk_drewN ?_ _|refine blk_drew ?_|refine blk_alloc ?_ _));refine blk_far ?_ NB570_584.out _;(with_reducible repeat (first|refine blk_drewN ?_ _|refine blk_drew ?_|refine blk_alloc ?_ _));refine blk_far ?_ NB570_584.out _;(with_reducible repeat (first|refine blk_drewN ?_ _|refine blk_drew ?_|refine blk_alloc ?_ _));exact BK570.out) hb);replace BK584:=Aside0.mk (blk_below (g:=gb584) (o := .cells #[.int .i64 t575, .string t576, .slice Ao31 t577.length co31, .slice Ao32 t580.length co32] 25 (0,0)) (by (with_reducible repeat (first|refine blk_drewN ?_ _|refine blk_drew ?_|refine blk_alloc ?_ _));refine blk_put (cs:=#[.int .i64 t575, .string t576, .slice Ao31 t577.length co31, .slice none 0 0]) ?_ 3 _ rfl;(with_reducible repeat (first|refine blk_drewN ?_ _|refine blk_drew ?_|refine blk_alloc ?_ _));refine blk_put (cs:=#[.int .i64 t575, .string t576, .slice none 0 0, .slice none 0 0]) ?_ 2 _ rfl;(with_reducible repeat (first|refine blk_drewN ?_ _|refine blk_drew ?_|refine blk_alloc ?_ _));refine blk_put (cs:=#[.int .i64 t575, .string (⟨#[]⟩:ByteArray), .slice none 0 0, .slice none 0 0]) ?_ 1 _ rfl;(with_reducible repeat (first|refine blk_drewN ?_ _|refine blk_drew ?_|refine blk_alloc ?_ _));refine blk_put (cs:=#[.int .i64 0, .string (⟨#[]⟩:ByteArray), .slice none 0 0, .slice none 0 0]) ?_ 0 _ rfl;(with_reducible repeat (first|refine blk_drewN ?_ _|refine blk_drew ?_|refine blk_alloc ?_ _));exact BK584.out) hb);replace HB:=Aside0.mk (below_step qC hb);clear hb))
    go_meet
    case rel=>exact ⟨_,H',⟨by have:=HJ4.out;first|omega|exact Nat.le_refl _⟩,⟨qW BK570⟩,⟨qC⟩⟩
   case rest =>
    clear HC16
    try clear c14;try clear hcz17_0;try clear hcz17_1;try clear hcz17_2;try clear hcz17_3;try clear hfz17_0;try clear hfz17_1;try clear hfz17_2;try clear hfz17_3
    obtain ⟨kq,HA,HJ15,BK570,HB⟩:=hcut
    cases kq with
    | zero=>exact absurd HA.out (by simp [ebbtidelaw07_QueryBack.j1])
    | succ kj15 =>
     have H:=HA.out
     clear HA
     simp only [ebbtidelaw07_QueryBack.j1] at H
     replace H:=Option.bind_eq_some_iff.mp H
     obtain ⟨⟨t586,t587,t588,t591,t594⟩,A350,H⟩:=H
     replace H:(if t594=0 then ((query_Text.f kj15 t586 t587 t588 t591).bind fun t597=>((query_Parse.f kj15 t597).bind fun bt598=>((ebbtideref07_Right.f kj15 t586 t587 t588 t591).bind fun t608=>(if t608=true then (if bt598.2.2.2.2=0 then ((ebbtideref07_Same.f kj15 bt598.1 bt598.2.1 bt598.2.2.1 bt598.2.2.2.1 t586 t587 t588 t591).bind fun t609=>(some t609)) else (none)) else (none))))) else ((ebbtideref07_Same.f kj15 t586 t587 t588 t591 0 (⟨#[]⟩:ByteArray) ([]:List (S127)) ([]:List ByteArray)).bind fun t596=>(some t596)))=some r:=H
     have A35:=Aside0.mk A350
     clear A350
     by_cases c36:t594=0
     rotate_left
     ·rw [if_neg c36] at H
      have c36b0:(t594 ==0)=false:=beq_eq_false_iff_ne.mpr c36
      have c36b1:(t594 != 0)=true:=bne_iff_ne.mpr c36
      replace H:=Option.bind_eq_some_iff.mp H
      obtain ⟨t596,A620,H⟩:=H
      replace H:(some t596)=some r:=H
      have A62:=Aside0.mk A620
      clear A620
      obtain rfl:=Option.some.inj H
      go_wp2_with (first|((with_reducible refine gate_callee (f:=20) rfl ?_);refine goesL_ (some 38) rfl rfl Tryz.func20 qK rfl #[.string a1] rfl qG ?_;(with_reducible refine (query_Parse.calls kj15 a1 t586 t587 t588 t591 t594 _ qM A35.out).mono ?_);rintro e w63 ⟨v589,v592,rfl,ho0,ho1,hb⟩;refine ⟨_,rfl,?_⟩;have HO590:=Aside0.mk (Kd.R_lower ho0 (below_size qC));have HO593:=Aside0.mk (Kd.R_lower ho1 (below_size qC));replace BK570:=Aside0.mk (blk_below (g:=gb570) (o := .cells #[.int .i64 a0_0, .string a0_1, .slice A0_2 l0_2.length c0_2, .slice A0_3 l0_3.length c0_3] 25 (0,0)) (qW BK570) hb);replace HB:=Aside0.mk (below_step qC hb);clear hb ho0 ho1)|((with_reducible refine gate_dst (N:=7) rfl ?_);(try (refine gate_guard (by rfl) ?_;dsimp only));refine box_event ?hg (N:=7) ?hd (cs:=#[.int .i64 0, .string (⟨#[]⟩:ByteArray), .slice none 0 0, .slice none 0 0]) (t:=25) ?hr ?_;(case hd=>rfl);(case hg=>rfl);(case hr=>first|(go_simp;done)|(go_simp;rfl));intro gb595 hg w64 hbox hb;replace HO590:=Aside0.mk (Kd.R_below (qR HO590) hb);replace HO593:=Aside0.mk (Kd.R_below (qR HO593) hb);have BK595:=Aside0.mk hbox;have GW595:Aside0 (w.heap.size≤gb595):=⟨qI⟩;have GE595:=GW595;replace HB:=Aside0.mk (below_step qC hb);have NB570_595:=Aside0.mk ((by rw [hg];exact Nat.ne_of_lt (blk_lt (g:=gb570) (o := .cells #[.int .i64 a0_0, .string a0_1, .slice A0_2 l0_2.length c0_2, .slice A0_3 l0_3.length c0_3] 25 (0,0)) (qW BK570)):gb570≠gb595));have NB595_570:=Aside0.mk ((by rw [hg];exact Nat.ne_of_gt (blk_lt (g:=gb570) (o := .cells #[.int .i64 a0_0, .string a0_1, .slice A0_2 l0_2.length c0_2, .slice A0_3 l0_3.length c0_3] 25 (0,0)) (qW BK570)):gb595≠gb570));replace BK570:=Aside0.mk (blk_below (g:=gb570) (o := .cells #[.int .i64 a0_0, .string a0_1, .slice A0_2 l0_2.length c0_2, .slice A0_3 l0_3.length c0_3] 25 (0,0)) (qW BK570) hb);clear hb hbox hg;have hnb65:=NB595_570.out;have hnc65:=NB570_595.out;obtain ⟨hcz66_0,hcz66_1,hcz66_2,hcz66_3,hfz66_0,hfz66_1,hfz66_2,hfz66_3⟩:=cf4 BK595.out;obtain ⟨Ao67,co67,eo67⟩:=Kd.R_slice HO590.out;subst eo67;obtain ⟨Ao68,co68,eo68⟩:=Kd.R_slice HO593.out;subst eo68)|((with_reducible refine gate_callee (f:=19) rfl ?_);refine goesL_ (some 45) rfl rfl Tryz.func19 qK rfl #[.agg #[.int .i64 t586, .string t587, .slice Ao67 t588.length co67, .slice Ao68 t591.length co68], .agg #[.int .i64 0, .string (⟨#[]⟩:ByteArray), .slice none 0 0, .slice none 0 0]] rfl qG ?_;(refine (ebbtideref07_Same.calls kj15 t586 t587 _ _ t588 _ _ t591 0 (⟨#[]⟩:ByteArray) _ _ ([]:List (S127)) _ _ ([]:List ByteArray) t596 _ ?side1 ?side2 ?side3 ?side4 ?side5 ?side6 ?side7 ?side8 A62.out).mono ?_);(case side1=>refine (Kd.R_reads' (e:=127) (base:=w.heap.size) (ok:=fun k_=>True) (n:=t588.length) (c:=co67) ?_).2.2;exact (by (with_reducible repeat (first|apply Kd.R_alloc|apply Kd.R_drewN|apply Kd.R_drew));exact (Kd.R_mono (Kd.R_far (p:=⟨gb595,3,none⟩) (Kd.R_far (p:=⟨gb595,2,none⟩) (Kd.R_far (p:=⟨gb595,1,none⟩) (Kd.R_far (p:=⟨gb595,0,none⟩) (Kd.R_types HO590.out BK595.out (by decide)) (fun _ hk=>hk.2) (.int .i64 t586)) (fun _ hk=>hk.2) (.string t587)) (fun _ hk=>hk.2) (.slice Ao67 t588.length co67)) (fun _ hk=>hk.2) (.slice Ao68 t591.length co68)) (fun _ h_=>h_.1))));(case side2=>exact (Kd.R_reads' HO590.out).2.1);(case side3=>refine (Kd.R_reads' (e:=9) (base:=w.heap.size) (ok:=fun k_=>True) (n:=t591.length) (c:=co68) ?_).2.2;exact (by (with_reducible repeat (first|apply Kd.R_alloc|apply Kd.R_drewN|apply Kd.R_drew));exact (Kd.R_mono (Kd.R_far (p:=⟨gb595,3,none⟩) (Kd.R_far (p:=⟨gb595,2,none⟩) (Kd.R_far (p:=⟨gb595,1,none⟩) (Kd.R_far (p:=⟨gb595,0,none⟩) (Kd.R_types HO593.out BK595.out (by decide)) (fun _ hk=>hk.2) (.int .i64 t586)) (fun _ hk=>hk.2) (.string t587)) (fun _ hk=>hk.2) (.slice Ao67 t588.length co67)) (fun _ hk=>hk.2) (.slice Ao68 t591.length co68)) (fun _ h_=>h_.1))));(case side4=>exact (Kd.R_reads' HO593.out).2.1);(case side5=>exact Kd.C_nil _ _);(case side6=>exact Nat.le_refl _);(case side7=>exact Kd.C_nil _ _);(case side8=>exact Nat.le_refl _);rintro e w69 ⟨rfl,hb⟩;refine ⟨_,rfl,?_⟩;replace HO590:=Aside0.mk (Kd.R_below (by (with_reducible repeat (first|apply Kd.R_alloc|apply Kd.R_drewN|apply Kd.R_drew));exact (Kd.R_mono (Kd.R_far (p:=⟨gb595,3,none⟩) (Kd.R_far (p:=⟨gb595,2,none⟩) (Kd.R_far (p:=⟨gb595,1,none⟩) (Kd.R_far (p:=⟨gb595,0,none⟩) (Kd.R_types HO590.out BK595.out (by decide)) (fun _ hk=>hk.2) (.int .i64 t586)) (fun _ hk=>hk.2) (.string t587)) (fun _ hk=>hk.2) (.slice Ao67 t588.length co67)) (fun _ hk=>hk.2) (.slice Ao68 t591.length co68)) (fun _ h_=>h_.1))) hb);replace HO593:=Aside0.mk (Kd.R_below (by (with_reducible repeat (first|apply Kd.R_alloc|apply Kd.R_drewN|apply Kd.R_drew));exact (Kd.R_mono (Kd.R_far (p:=⟨gb595,3,none⟩) (Kd.R_far (p:=⟨gb595,2,none⟩) (Kd.R_far (p:=⟨gb595,1,none⟩) (Kd.R_far (p:=⟨gb595,0,none⟩) (Kd.R_types HO593.out BK595.out (by decide)) (fun _ hk=>hk.2) (.int .i64 t586)) (fun _ hk=>hk.2) (.string t587)) (fun _ hk=>hk.2) (.slice Ao67 t588.length co67)) (fun _ hk=>hk.2) (.slice Ao68 t591.length co68)) (fun _ h_=>h_.1))) hb);replace BK570:=Aside0.mk (blk_below (g:=gb570) (o := .cells #[.int .i64 a0_0, .string a0_1, .slice A0_2 l0_2.length c0_2, .slice A0_3 l0_3.length c0_3] 25 (0,0)) (by (with_reducible repeat (first|refine blk_drewN ?_ _|refine blk_drew ?_|refine blk_alloc ?_ _));refine blk_far ?_ NB570_595.out _;(with_reducible repeat (first|refine blk_drewN ?_ _|refine blk_drew ?_|refine blk_alloc ?_ _));refine blk_far ?_ NB570_595.out _;(with_reducible repeat (first|refine blk_drewN ?_ _|refine blk_drew ?_|refine blk_alloc ?_ _));refine blk_far ?_ NB570_595.out _;(with_reducible repeat (first|refine blk_drewN ?_ _|refine blk_drew ?_|refine blk_alloc ?_ _));refine blk_far ?_ NB570_595.out _;(with_reducible repeat (first|refine blk_drewN ?_ _|refine blk_drew ?_|refine blk_alloc ?_ _));exact BK570.out) hb);replace BK595:=Aside0.mk (blk_below (g:=gb595) (o := .cells #[.int .i64 t586, .string t587, .slice Ao67 t588.length co67, .slice Ao68 t591.length co68] 25 (0,0)) (by (with_reducible repeat (first|refine blk_drewN ?_ _|refine blk_drew ?_|refine blk_alloc ?_ _));refine blk_put (cs:=#[.int .i64 t586, .string t587, .slice Ao67 t588.length co67, .slice none 0 0]) ?_ 3 _ rfl;(with_reducible repeat (first|refine blk_drewN ?_ _|refine blk_drew ?_|refine blk_alloc ?_ _));refine blk_put (cs:=#[.int .i64 t586, .string t587, .slice none 0 0, .slice none 0 0]) ?_ 2 _ rfl;(with_reducible repeat (first|refine blk_drewN ?_ _|refine blk_drew ?_|refine blk_alloc ?_ _));refine blk_put (cs:=#[.int .i64 t586, .string (⟨#[]⟩:ByteArray), .slice none 0 0, .slice none 0 0]) ?_ 1 _ rfl;(with_reducible repeat (first|refine blk_drewN ?_ _|refine blk_drew ?_|refine blk_alloc ?_ _));refine blk_put (cs:=#[.int .i64 0, .string (⟨#[]⟩:ByteArray), .slice none 0 0, .slice none 0 0]) ?_ 0 _ rfl;(with_reducible repeat (first|refine blk_drewN ?_ _|refine blk_drew ?_|refine blk_alloc ?_ _));exact BK595.out) hb);replace HB:=Aside0.mk (below_step qC hb);clear hb))
      go_ret
      exact ⟨qE,qC⟩
     rw [if_pos c36] at H
     have c36b0:(t594 ==0)=true:=beq_iff_eq.mpr c36
     have c36b1:(t594 != 0)=false:=bne_eq_false_iff_eq.mpr c36
     clear c36
     replace H:=Option.bind_eq_some_iff.mp H
     obtain ⟨t597,A370,H⟩:=H
     replace H:((query_Parse.f kj15 t597).bind fun bt598=>((ebbtideref07_Right.f kj15 t586 t587 t588 t591).bind fun t608=>(if t608=true then (if bt598.2.2.2.2=0 then ((ebbtideref07_Same.f kj15 bt598.1 bt598.2.1 bt598.2.2.1 bt598.2.2.2.1 t586 t587 t588 t591).bind fun t609=>(some t609)) else (none)) else (none))))=some r:=H
     have A37:=Aside0.mk A370
     clear A370
     replace H:=Option.bind_eq_some_iff.mp H
     obtain ⟨⟨t598,t599,t600,t603,t606⟩,A380,H⟩:=H
     replace H:((ebbtideref07_Right.f kj15 t586 t587 t588 t591).bind fun t608=>(if t608=true then (if t606=0 then ((ebbtideref07_Same.f kj15 t598 t599 t600 t603 t586 t587 t588 t591).bind fun t609=>(some t609)) else (none)) else (none)))=some r:=H
     have A38:=Aside0.mk A380
     clear A380
     replace H:=Option.bind_eq_some_iff.mp H
     obtain ⟨t608,A390,H⟩:=H
     replace H:(if t608=true then (if t606=0 then ((ebbtideref07_Same.f kj15 t598 t599 t600 t603 t586 t587 t588 t591).bind fun t609=>(some t609)) else (none)) else (none))=some r:=H
     have A39:=Aside0.mk A390
     clear A390
     by_cases c40:t608=true
     rotate_left
     ·replace c40:=Bool.eq_false_iff.mpr c40
      subst c40
      have H1:(none)=some r:=by rw [if_neg (show ¬ (false=true) by decide)] at H;exact H
      clear H
      have H:=H1
      clear H1
      exact absurd H (by simp)
     subst c40
     have H1:(if t606=0 then ((ebbtideref07_Same.f kj15 t598 t599 t600 t603 t586 t587 t588 t591).bind fun t609=>(some t609)) else (none))=some r:=by rw [if_pos rfl] at H;exact H
     clear H
     have H:=H1
     clear H1
     by_cases c41:t606=0
     rotate_left
     ·rw [if_neg c41] at H
      exact absurd H (by simp)
     rw [if_pos c41] at H
     have c41b0:(t606 ==0)=true:=beq_iff_eq.mpr c41
     have c41b1:(t606 != 0)=false:=bne_eq_false_iff_eq.mpr c41
     clear c41
     replace H:=Option.bind_eq_some_iff.mp H
     obtain ⟨t609,A420,H⟩:=H
     replace H:(some t609)=some r:=H
     have A42:=Aside0.mk A420
     clear A420
     obtain rfl:=Option.some.inj H
     go_wp2_with (first|((with_reducible refine gate_callee (f:=20) rfl ?_);refine goesL_ (some 38) rfl rfl Tryz.func20 qK rfl #[.string a1] rfl qG ?_;(with_reducible refine (query_Parse.calls kj15 a1 t586 t587 t588 t591 t594 _ qM A35.out).mono ?_);rintro e w43 ⟨v589,v592,rfl,ho0,ho1,hb⟩;refine ⟨_,rfl,?_⟩;have HO590:=Aside0.mk (Kd.R_lower ho0 (below_size qC));have HO593:=Aside0.mk (Kd.R_lower ho1 (below_size qC));replace BK570:=Aside0.mk (blk_below (g:=gb570) (o := .cells #[.int .i64 a0_0, .string a0_1, .slice A0_2 l0_2.length c0_2, .slice A0_3 l0_3.length c0_3] 25 (0,0)) (qW BK570) hb);replace HB:=Aside0.mk (below_step qC hb);clear hb ho0 ho1)|((with_reducible refine gate_dst (N:=7) rfl ?_);(try (refine gate_guard (by rfl) ?_;dsimp only));refine box_event ?hg (N:=7) ?hd (cs:=#[.int .i64 0, .string (⟨#[]⟩:ByteArray), .slice none 0 0, .slice none 0 0]) (t:=25) ?hr ?_;(case hd=>rfl);(case hg=>rfl);(case hr=>first|(go_simp;done)|(go_simp;rfl));intro gb595 hg w44 hbox hb;replace HO590:=Aside0.mk (Kd.R_below (qR HO590) hb);replace HO593:=Aside0.mk (Kd.R_below (qR HO593) hb);have BK595:=Aside0.mk hbox;have GW595:Aside0 (w.heap.size≤gb595):=⟨qI⟩;have GE595:=GW595;replace HB:=Aside0.mk (below_step qC hb);have NB570_595:=Aside0.mk ((by rw [hg];exact Nat.ne_of_lt (blk_lt (g:=gb570) (o := .cells #[.int .i64 a0_0, .string a0_1, .slice A0_2 l0_2.length c0_2, .slice A0_3 l0_3.length c0_3] 25 (0,0)) (qW BK570)):gb570≠gb595));have NB595_570:=Aside0.mk ((by rw [hg];exact Nat.ne_of_gt (blk_lt (g:=gb570) (o := .cells #[.int .i64 a0_0, .string a0_1, .slice A0_2 l0_2.length c0_2, .slice A0_3 l0_3.length c0_3] 25 (0,0)) (qW BK570)):gb595≠gb570));replace BK570:=Aside0.mk (blk_below (g:=gb570) (o := .cells #[.int .i64 a0_0, .string a0_1, .slice A0_2 l0_2.length c0_2, .slice A0_3 l0_3.length c0_3] 25 (0,0)) (qW BK570) hb);clear hb hbox hg;have hnb45:=NB595_570.out;have hnc45:=NB570_595.out;obtain ⟨hcz46_0,hcz46_1,hcz46_2,hcz46_3,hfz46_0,hfz46_1,hfz46_2,hfz46_3⟩:=cf4 BK595.out;obtain ⟨Ao47,co47,eo47⟩:=Kd.R_slice HO590.out;subst eo47;obtain ⟨Ao48,co48,eo48⟩:=Kd.R_slice HO593.out;subst eo48)|((with_reducible refine gate_callee (f:=16) rfl ?_);refine goesL_ (some 48) rfl rfl Tryz.func16 qK rfl #[.agg #[.int .i64 t586, .string t587, .slice Ao47 t588.length co47, .slice Ao48 t591.length co48]] rfl qG ?_;(with_reducible refine (query_Text.calls kj15 t586 t587 _ _ t588 _ _ t591 t597 _ ?side1 ?side2 ?side3 ?side4 A37.out).mono ?_);(case side1=>refine (Kd.R_reads' (e:=127) (base:=w.heap.size) (ok:=fun k_=>True) (n:=t588.length) (c:=co47) ?_).2.2;exact (by (with_reducible repeat (first|apply Kd.R_alloc|apply Kd.R_drewN|apply Kd.R_drew));exact (Kd.R_mono (Kd.R_far (p:=⟨gb595,3,none⟩) (Kd.R_far (p:=⟨gb595,2,none⟩) (Kd.R_far (p:=⟨gb595,1,none⟩) (Kd.R_far (p:=⟨gb595,0,none⟩) (Kd.R_types HO590.out BK595.out (by decide)) (fun _ hk=>hk.2) (.int .i64 t586)) (fun _ hk=>hk.2) (.string t587)) (fun _ hk=>hk.2) (.slice Ao47 t588.length co47)) (fun _ hk=>hk.2) (.slice Ao48 t591.length co48)) (fun _ h_=>h_.1))));(case side2=>exact (Kd.R_reads' HO590.out).2.1);(case side3=>refine (Kd.R_reads' (e:=9) (base:=w.heap.size) (ok:=fun k_=>True) (n:=t591.length) (c:=co48) ?_).2.2;exact (by (with_reducible repeat (first|apply Kd.R_alloc|apply Kd.R_drewN|apply Kd.R_drew));exact (Kd.R_mono (Kd.R_far (p:=⟨gb595,3,none⟩) (Kd.R_far (p:=⟨gb595,2,none⟩) (Kd.R_far (p:=⟨gb595,1,none⟩) (Kd.R_far (p:=⟨gb595,0,none⟩) (Kd.R_types HO593.out BK595.out (by decide)) (fun _ hk=>hk.2) (.int .i64 t586)) (fun _ hk=>hk.2) (.string t587)) (fun _ hk=>hk.2) (.slice Ao47 t588.length co47)) (fun _ hk=>hk.2) (.slice Ao48 t591.length co48)) (fun _ h_=>h_.1))));(case side4=>exact (Kd.R_reads' HO593.out).2.1);rintro e w49 ⟨rfl,hb⟩;refine ⟨_,rfl,?_⟩;replace HO590:=Aside0.mk (Kd.R_below (by (with_reducible repeat (first|apply Kd.R_alloc|apply Kd.R_drewN|apply Kd.R_drew));exact (Kd.R_mono (Kd.R_far (p:=⟨gb595,3,none⟩) (Kd.R_far (p:=⟨gb595,2,none⟩) (Kd.R_far (p:=⟨gb595,1,none⟩) (Kd.R_far (p:=⟨gb595,0,none⟩) (Kd.R_types HO590.out BK595.out (by decide)) (fun _ hk=>hk.2) (.int .i64 t586)) (fun _ hk=>hk.2) (.string t587)) (fun _ hk=>hk.2) (.slice Ao47 t588.length co47)) (fun _ hk=>hk.2) (.slice Ao48 t591.length co48)) (fun _ h_=>h_.1))) hb);replace HO593:=Aside0.mk (Kd.R_below (by (with_reducible repeat (first|apply Kd.R_alloc|apply Kd.R_drewN|apply Kd.R_drew));exact (Kd.R_mono (Kd.R_far (p:=⟨gb595,3,none⟩) (Kd.R_far (p:=⟨gb595,2,none⟩) (Kd.R_far (p:=⟨gb595,1,none⟩) (Kd.R_far (p:=⟨gb595,0,none⟩) (Kd.R_types HO593.out BK595.out (by decide)) (fun _ hk=>hk.2) (.int .i64 t586)) (fun _ hk=>hk.2) (.string t587)) (fun _ hk=>hk.2) (.slice Ao47 t588.length co47)) (fun _ hk=>hk.2) (.slice Ao48 t591.length co48)) (fun _ h_=>h_.1))) hb);replace BK570:=Aside0.mk (blk_below (g:=gb570) (o := .cells #[.int .i64 a0_0, .string a0_1, .slice A0_2 l0_2.length c0_2, .slice A0_3 l0_3.length c0_3] 25 (0,0)) (by (with_reducible repeat (first|refine blk_drewN ?_ _|refine blk_drew ?_|refine blk_alloc ?_ _));refine blk_far ?_ NB570_595.out _;(with_reducible repeat (first|refine blk_drewN ?_ _|refine blk_drew ?_|refine blk_alloc ?_ _));refine blk_far ?_ NB570_595.out _;(with_reducible repeat (first|refine blk_drewN ?_ _|refine blk_drew ?_|refine blk_alloc ?_ _));refine blk_far ?_ NB570_595.out _;(with_reducible repeat (first|refine blk_drewN ?_ _|refine blk_drew ?_|refine blk_alloc ?_ _));refine blk_far ?_ NB570_595.out _;(with_reducible repeat (first|refine blk_drewN ?_ _|refine blk_drew ?_|refine blk_alloc ?_ _));exact BK570.out) hb);replace BK595:=Aside0.mk (blk_below (g:=gb595) (o := .cells #[.int .i64 t586, .string t587, .slice Ao47 t588.length co47, .slice Ao48 t591.length co48] 25 (0,0)) (by (with_reducible repeat (first|refine blk_drewN ?_ _|refine blk_drew ?_|refine blk_alloc ?_ _));refine blk_put (cs:=#[.int .i64 t586, .string t587, .slice Ao47 t588.length co47, .slice none 0 0]) ?_ 3 _ rfl;(with_reducible repeat (first|refine blk_drewN ?_ _|refine blk_drew ?_|refine blk_alloc ?_ _));refine blk_put (cs:=#[.int .i64 t586, .string t587, .slice none 0 0, .slice none 0 0]) ?_ 2 _ rfl;(with_reducible repeat (first|refine blk_drewN ?_ _|refine blk_drew ?_|refine blk_alloc ?_ _));refine blk_put (cs:=#[.int .i64 t586, .string (⟨#[]⟩:ByteArray), .slice none 0 0, .slice none 0 0]) ?_ 1 _ rfl;(with_reducible repeat (first|refine blk_drewN ?_ _|refine blk_drew ?_|refine blk_alloc ?_ _));refine blk_put (cs:=#[.int .i64 0, .string (⟨#[]⟩:ByteArray), .slice none 0 0, .slice none 0 0]) ?_ 0 _ rfl;(with_reducible repeat (first|refine blk_drewN ?_ _|refine blk_drew ?_|refine blk_alloc ?_ _));exact BK595.out) hb);replace HB:=Aside0.mk (below_step qC hb);clear hb)|((with_reducible refine gate_callee (f:=20) rfl ?_);refine goesL_ (some 49) rfl rfl Tryz.func20 qK rfl #[.string t597] rfl qG ?_;(with_reducible refine (query_Parse.calls kj15 t597 t598 t599 t600 t603 t606 _ qM A38.out).mono ?_);rintro e w50 ⟨v601,v604,rfl,ho0,ho1,hb⟩;refine ⟨_,rfl,?_⟩;have HO602:=Aside0.mk (Kd.R_lower (Kd.R_new' ho0 (Kd.R_lt (qR HO590))) (below_size qC));replace HO590:=Aside0.mk (Kd.R_elder' (qR HO590) (Kd.R_base ho0) hb);have HO605:=Aside0.mk (Kd.R_lower (Kd.R_new' ho1 (Kd.R_lt (qR HO593))) (below_size qC));replace HO593:=Aside0.mk (Kd.R_elder' (qR HO593) (Kd.R_base ho1) hb);replace BK570:=Aside0.mk (blk_below (g:=gb570) (o := .cells #[.int .i64 a0_0, .string a0_1, .slice A0_2 l0_2.length c0_2, .slice A0_3 l0_3.length c0_3] 25 (0,0)) (qW BK570) hb);replace BK595:=Aside0.mk (blk_below (g:=gb595) (o := .cells #[.int .i64 t586, .string t587, .slice Ao47 t588.length co47, .slice Ao48 t591.length co48] 25 (0,0)) (qW BK595) hb);replace HB:=Aside0.mk (below_step qC hb);clear hb ho0 ho1)|((with_reducible refine gate_dst (N:=9) rfl ?_);(try (refine gate_guard (by rfl) ?_;dsimp only));refine box_event ?hg (N:=9) ?hd (cs:=#[.int .i64 0, .string (⟨#[]⟩:ByteArray), .slice none 0 0, .slice none 0 0]) (t:=25) ?hr ?_;(case hd=>rfl);(case hg=>rfl);(case hr=>first|(go_simp;done)|(go_simp;rfl));intro gb607 hg w51 hbox hb;replace HO590:=Aside0.mk (Kd.R_below (qR HO590) hb);replace HO593:=Aside0.mk (Kd.R_below (qR HO593) hb);replace HO602:=Aside0.mk (Kd.R_below (qR HO602) hb);replace HO605:=Aside0.mk (Kd.R_below (qR HO605) hb);have BK607:=Aside0.mk hbox;have GW607:Aside0 (w.heap.size≤gb607):=⟨qI⟩;have GE607:=GW607;replace HB:=Aside0.mk (below_step qC hb);have NB570_607:=Aside0.mk ((by rw [hg];exact Nat.ne_of_lt (blk_lt (g:=gb570) (o := .cells #[.int .i64 a0_0, .string a0_1, .slice A0_2 l0_2.length c0_2, .slice A0_3 l0_3.length c0_3] 25 (0,0)) (qW BK570)):gb570≠gb607));have NB607_570:=Aside0.mk ((by rw [hg];exact Nat.ne_of_gt (blk_lt (g:=gb570) (o := .cells #[.int .i64 a0_0, .string a0_1, .slice A0_2 l0_2.length c0_2, .slice A0_3 l0_3.length c0_3] 25 (0,0)) (qW BK570)):gb607≠gb570));replace BK570:=Aside0.mk (blk_below (g:=gb570) (o := .cells #[.int .i64 a0_0, .string a0_1, .slice A0_2 l0_2.length c0_2, .slice A0_3 l0_3.length c0_3] 25 (0,0)) (qW BK570) hb);have NB595_607:=Aside0.mk ((by rw [hg];exact Nat.ne_of_lt (blk_lt (g:=gb595) (o := .cells #[.int .i64 t586, .string t587, .slice Ao47 t588.length co47, .slice Ao48 t591.length co48] 25 (0,0)) (qW BK595)):gb595≠gb607));have NB607_595:=Aside0.mk ((by rw [hg];exact Nat.ne_of_gt (blk_lt (g:=gb595) (o := .cells #[.int .i64 t586, .string t587, .slice Ao47 t588.length co47, .slice Ao48 t591.length co48] 25 (0,0)) (qW BK595)):gb607≠gb595));replace BK595:=Aside0.mk (blk_below (g:=gb595) (o := .cells #[.int .i64 t586, .string t587, .slice Ao47 t588.length co47, .slice Ao48 t591.length co48] 25 (0,0)) (qW BK595) hb);clear hb hbox hg;have hnb52:=NB607_570.out;have hnc52:=NB570_607.out;have hnb53:=NB607_595.out;have hnc53:=NB595_607.out;obtain ⟨hcz54_0,hcz54_1,hcz54_2,hcz54_3,hfz54_0,hfz54_1,hfz54_2,hfz54_3⟩:=cf4 BK607.out;obtain ⟨Ao55,co55,eo55⟩:=Kd.R_slice HO602.out;subst eo55;obtain ⟨Ao56,co56,eo56⟩:=Kd.R_slice HO605.out;subst eo56;obtain ⟨hcz57_0,hcz57_1,hcz57_2,hcz57_3,hfz57_0,hfz57_1,hfz57_2,hfz57_3⟩:=cf4 BK595.out)|((with_reducible refine gate_callee (f:=15) rfl ?_);refine goesL_ (some 53) rfl rfl Tryz.func15 qK rfl #[.agg #[.int .i64 t586, .string t587, .slice Ao47 t588.length co47, .slice Ao48 t591.length co48]] rfl qG ?_;(with_reducible refine (ebbtideref07_Right.calls kj15 t586 t587 _ _ t588 _ _ t591 true _ ?side1 ?side2 ?side3 ?side4 A39.out).mono ?_);(case side1=>refine (Kd.R_reads' (e:=127) (base:=w.heap.size) (ok:=fun k_=>(True∧some k_≠(.slice Ao55 t600.length co55:Value).ownBlock)) (n:=t588.length) (c:=co47) ?_).2.2;exact (by (with_reducible repeat (first|apply Kd.R_alloc|apply Kd.R_drewN|apply Kd.R_drew));exact (Kd.R_mono (Kd.R_far (p:=⟨gb607,3,none⟩) (Kd.R_far (p:=⟨gb607,2,none⟩) (Kd.R_far (p:=⟨gb607,1,none⟩) (Kd.R_far (p:=⟨gb607,0,none⟩) (Kd.R_types HO590.out BK607.out (by decide)) (fun _ hk=>hk.2) (.int .i64 t598)) (fun _ hk=>hk.2) (.string t599)) (fun _ hk=>hk.2) (.slice Ao55 t600.length co55)) (fun _ hk=>hk.2) (.slice Ao56 t603.length co56)) (fun _ h_=>h_.1))));(case side2=>exact (Kd.R_reads' HO590.out).2.1);(case side3=>refine (Kd.R_reads' (e:=9) (base:=w.heap.size) (ok:=fun k_=>(True∧some k_≠(.slice Ao56 t603.length co56:Value).ownBlock)) (n:=t591.length) (c:=co48) ?_).2.2;exact (by (with_reducible repeat (first|apply Kd.R_alloc|apply Kd.R_drewN|apply Kd.R_drew));exact (Kd.R_mono (Kd.R_far (p:=⟨gb607,3,none⟩) (Kd.R_far (p:=⟨gb607,2,none⟩) (Kd.R_far (p:=⟨gb607,1,none⟩) (Kd.R_far (p:=⟨gb607,0,none⟩) (Kd.R_types HO593.out BK607.out (by decide)) (fun _ hk=>hk.2) (.int .i64 t598)) (fun _ hk=>hk.2) (.string t599)) (fun _ hk=>hk.2) (.slice Ao55 t600.length co55)) (fun _ hk=>hk.2) (.slice Ao56 t603.length co56)) (fun _ h_=>h_.1))));(case side4=>exact (Kd.R_reads' HO593.out).2.1);rintro e w58 ⟨rfl,hb⟩;refine ⟨_,rfl,?_⟩;replace HO590:=Aside0.mk (Kd.R_below (by (with_reducible repeat (first|apply Kd.R_alloc|apply Kd.R_drewN|apply Kd.R_drew));exact (Kd.R_mono (Kd.R_far (p:=⟨gb607,3,none⟩) (Kd.R_far (p:=⟨gb607,2,none⟩) (Kd.R_far (p:=⟨gb607,1,none⟩) (Kd.R_far (p:=⟨gb607,0,none⟩) (Kd.R_types HO590.out BK607.out (by decide)) (fun _ hk=>hk.2) (.int .i64 t598)) (fun _ hk=>hk.2) (.string t599)) (fun _ hk=>hk.2) (.slice Ao55 t600.length co55)) (fun _ hk=>hk.2) (.slice Ao56 t603.length co56)) (fun _ h_=>h_.1))) hb);replace HO593:=Aside0.mk (Kd.R_below (by (with_reducible repeat (first|apply Kd.R_alloc|apply Kd.R_drewN|apply Kd.R_drew));exact (Kd.R_mono (Kd.R_far (p:=⟨gb607,3,none⟩) (Kd.R_far (p:=⟨gb607,2,none⟩) (Kd.R_far (p:=⟨gb607,1,none⟩) (Kd.R_far (p:=⟨gb607,0,none⟩) (Kd.R_types HO593.out BK607.out (by decide)) (fun _ hk=>hk.2) (.int .i64 t598)) (fun _ hk=>hk.2) (.string t599)) (fun _ hk=>hk.2) (.slice Ao55 t600.length co55)) (fun _ hk=>hk.2) (.slice Ao56 t603.length co56)) (fun _ h_=>h_.1))) hb);replace HO602:=Aside0.mk (Kd.R_below (by (with_reducible repeat (first|apply Kd.R_alloc|apply Kd.R_drewN|apply Kd.R_drew));exact (Kd.R_mono (Kd.R_far (p:=⟨gb607,3,none⟩) (Kd.R_far (p:=⟨gb607,2,none⟩) (Kd.R_far (p:=⟨gb607,1,none⟩) (Kd.R_far (p:=⟨gb607,0,none⟩) (Kd.R_types HO602.out BK607.out (by decide)) (fun _ hk=>hk.2) (.int .i64 t598)) (fun _ hk=>hk.2) (.string t599)) (fun _ hk=>hk.2) (.slice Ao55 t600.length co55)) (fun _ hk=>hk.2) (.slice Ao56 t603.length co56)) (fun _ h_=>h_.1))) hb);replace HO605:=Aside0.mk (Kd.R_below (by (with_reducible repeat (first|apply Kd.R_alloc|apply Kd.R_drewN|apply Kd.R_drew));exact (Kd.R_mono (Kd.R_far (p:=⟨gb607,3,none⟩) (Kd.R_far (p:=⟨gb607,2,none⟩) (Kd.R_far (p:=⟨gb607,1,none⟩) (Kd.R_far (p:=⟨gb607,0,none⟩) (Kd.R_types HO605.out BK607.out (by decide)) (fun _ hk=>hk.2) (.int .i64 t598)) (fun _ hk=>hk.2) (.string t599)) (fun _ hk=>hk.2) (.slice Ao55 t600.length co55)) (fun _ hk=>hk.2) (.slice Ao56 t603.length co56)) (fun _ h_=>h_.1))) hb);replace BK570:=Aside0.mk (blk_below (g:=gb570) (o := .cells #[.int .i64 a0_0, .string a0_1, .slice A0_2 l0_2.length c0_2, .slice A0_3 l0_3.length c0_3] 25 (0,0)) (by (with_reducible repeat (first|refine blk_drewN ?_ _|refine blk_drew ?_|refine blk_alloc ?_ _));refine blk_far ?_ NB570_607.out _;(with_reducible repeat (first|refine blk_drewN ?_ _|refine blk_drew ?_|refine blk_alloc ?_ _));refine blk_far ?_ NB570_607.out _;(with_reducible repeat (first|refine blk_drewN ?_ _|refine blk_drew ?_|refine blk_alloc ?_ _));refine blk_far ?_ NB570_607.out _;(with_reducible repeat (first|refine blk_drewN ?_ _|refine blk_drew ?_|refine blk_alloc ?_ _));refine blk_far ?_ NB570_607.out _;(with_reducible repeat (first|refine blk_drewN ?_ _|refine blk_drew ?_|refine blk_alloc ?_ _));exact BK570.out) hb);replace BK595:=Aside0.mk (blk_below (g:=gb595) (o := .cells #[.int .i64 t586, .string t587, .slice Ao47 t588.length co47, .slice Ao48 t591.length co48] 25 (0,0)) (by (with_reducible repeat (first|refine blk_drewN ?_ _|refine blk_drew ?_|refine blk_alloc ?_ _));refine blk_far ?_ NB595_607.out _;(with_reducible repeat (first|refine blk_drewN ?_ _|refine blk_drew ?_|refine blk_alloc ?_ _));refine blk_far ?_ NB595_607.out _;(with_reducible repeat (first|refine blk_drewN ?_ _|refine blk_drew ?_|refine blk_alloc ?_ _));refine blk_far ?_ NB595_607.out _;(with_reducible repeat (first|refine blk_drewN ?_ _|refine blk_drew ?_|refine blk_alloc ?_ _));refine blk_far ?_ NB595_607.out _;(with_reducible repeat (first|refine blk_drewN ?_ _|refine blk_drew ?_|refine blk_alloc ?_ _));exact BK595.out) hb);replace BK607:=Aside0.mk (blk_below (g:=gb607) (o := .cells #[.int .i64 t598, .string t599, .slice Ao55 t600.length co55, .slice Ao56 t603.length co56] 25 (0,0)) (by (with_reducible repeat (first|refine blk_drewN ?_ _|refine blk_drew ?_|refine blk_alloc ?_ _));refine blk_put (cs:=#[.int .i64 t598, .string t599, .slice Ao55 t600.length co55, .slice none 0 0]) ?_ 3 _ rfl;(with_reducible repeat (first|refine blk_drewN ?_ _|refine blk_drew ?_|refine blk_alloc ?_ _));refine blk_put (cs:=#[.int .i64 t598, .string t599, .slice none 0 0, .slice none 0 0]) ?_ 2 _ rfl;(with_reducible repeat (first|refine blk_drewN ?_ _|refine blk_drew ?_|refine blk_alloc ?_ _));refine blk_put (cs:=#[.int .i64 t598, .string (⟨#[]⟩:ByteArray), .slice none 0 0, .slice none 0 0]) ?_ 1 _ rfl;(with_reducible repeat (first|refine blk_drewN ?_ _|refine blk_drew ?_|refine blk_alloc ?_ _));refine blk_put (cs:=#[.int .i64 0, .string (⟨#[]⟩:ByteArray), .slice none 0 0, .slice none 0 0]) ?_ 0 _ rfl;(with_reducible repeat (first|refine blk_drewN ?_ _|refine blk_drew ?_|refine blk_alloc ?_ _));exact BK607.out) hb);replace HB:=Aside0.mk (below_step qC hb);clear hb;obtain ⟨hcz59_0,hcz59_1,hcz59_2,hcz59_3,hfz59_0,hfz59_1,hfz59_2,hfz59_3⟩:=cf4 BK607.out;obtain ⟨hcz60_0,hcz60_1,hcz60_2,hcz60_3,hfz60_0,hfz60_1,hfz60_2,hfz60_3⟩:=cf4 BK595.out)|(go_at_call 19;(with_reducible refine (ebbtideref07_Same.calls kj15 t598 t599 _ _ t600 _ _ t603 t586 t587 _ _ t588 _ _ t591 t609 _ ?side1 ?side2 ?side3 ?side4 ?side5 ?side6 ?side7 ?side8 A42.out).mono ?_);(case side1=>repeat (first|exact (Kd.R_reads' HO602.out).2.2|(with_reducible refine Kd.C_alloc ?_ _)|(with_reducible refine Kd.C_drewN ?_ _)|(with_reducible refine Kd.C_drew ?_)));(case side2=>exact (Kd.R_reads' HO602.out).2.1);(case side3=>repeat (first|exact (Kd.R_reads' HO605.out).2.2|(with_reducible refine Kd.C_alloc ?_ _)|(with_reducible refine Kd.C_drewN ?_ _)|(with_reducible refine Kd.C_drew ?_)));(case side4=>exact (Kd.R_reads' HO605.out).2.1);(case side5=>repeat (first|exact (Kd.R_reads' HO590.out).2.2|(with_reducible refine Kd.C_alloc ?_ _)|(with_reducible refine Kd.C_drewN ?_ _)|(with_reducible refine Kd.C_drew ?_)));(case side6=>exact (Kd.R_reads' HO590.out).2.1);(case side7=>repeat (first|exact (Kd.R_reads' HO593.out).2.2|(with_reducible refine Kd.C_alloc ?_ _)|(with_reducible refine Kd.C_drewN ?_ _)|(with_reducible refine Kd.C_drew ?_)));(case side8=>exact (Kd.R_reads' HO593.out).2.1);rintro e w61 ⟨rfl,hb⟩;replace HO590:=Aside0.mk (Kd.R_below (qR HO590) hb);replace HO593:=Aside0.mk (Kd.R_below (qR HO593) hb);replace HO602:=Aside0.mk (Kd.R_below (qR HO602) hb);replace HO605:=Aside0.mk (Kd.R_below (qR HO605) hb);replace BK570:=Aside0.mk (blk_below (g:=gb570) (o := .cells #[.int .i64 a0_0, .string a0_1, .slice A0_2 l0_2.length c0_2, .slice A0_3 l0_3.length c0_3] 25 (0,0)) (qW BK570) hb);replace BK595:=Aside0.mk (blk_below (g:=gb595) (o := .cells #[.int .i64 t586, .string t587, .slice Ao47 t588.length co47, .slice Ao48 t591.length co48] 25 (0,0)) (qW BK595) hb);replace BK607:=Aside0.mk (blk_below (g:=gb607) (o := .cells #[.int .i64 t598, .string t599, .slice Ao55 t600.length co55, .slice Ao56 t603.length co56] 25 (0,0)) (qW BK607) hb);replace HB:=Aside0.mk (below_step qC hb);clear hb))
     go_ret
     exact ⟨qE,qC⟩
end Go.Proofs.YteaadaaghhojfaaGreatDoor.PQu
