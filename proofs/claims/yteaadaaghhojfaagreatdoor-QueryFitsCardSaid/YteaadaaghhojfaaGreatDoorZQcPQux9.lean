import Derived.Test.YteaadaaghhojfaaGreatDoorZQcPQux0
import Derived.Test.YteaadaaghhojfaaGreatDoorZQcPQux2
import Derived.Test.YteaadaaghhojfaaGreatDoorZQcPQux4
import Derived.Test.YteaadaaghhojfaaGreatDoorZQcPQux8
namespace Go.Proofs.YteaadaaghhojfaaGreatDoor.PQu
open Go.RowKit Go.Proofs.YteaadaaghhojfaaGreatDoorW.PrintWords Go.Proofs.YteaadaaghhojfaaGreatDoorW.PrintLast Go.Proofs.YteaadaaghhojfaaGreatDoorW.PrintMore
attribute [local go_sem] max2_int min2_int max_two min_two max_three min_three max_four min_four
set_option linter.unusedVariables false
set_option linter.unusedSimpArgs false
set_option maxHeartbeats 8000000
set_option maxRecDepth 100000
def query_Right.f (k:Nat) (a0_0:Int) (a0_1:ByteArray) (l0_2:List (S127)) (l0_3:List ByteArray):Option (Bool):=(query_name.f k a0_0).bind fun t258=>(if t258.toList=([]:List UInt8) then (some false) else ((word_Name.f a0_1).bind fun t259=>(if t259=true then ((pick_Right.f k l0_2).bind fun t260=>(if t260=true then ((query_names.f k l0_3).bind fun t261=>(some (t261 ==0))) else (some false))) else (some false))))
theorem query_Right.mono:∀ a0 a1 a2 a3 k,LeO (query_Right.f k a0 a1 a2 a3) (query_Right.f (k+1) a0 a1 a2 a3):=by
 intro a0 a1 a2 a3 k
 unfold query_Right.f
 repeat' first
   | (with_reducible exact pick_Right.mono _ _)
   | (with_reducible exact query_name.mono _ _)
   | (with_reducible exact query_names.mono _ _)
   | (with_reducible exact LeO.refl _)
   | (with_reducible exact LeO.none _)
   | (with_reducible refine LeO.ite ?_ ?_)
   | (with_reducible refine LeO.bind ?_ (fun _=>?_))
   | exact pick_Right.mono _ _
   | exact query_name.mono _ _
   | exact query_names.mono _ _
   | exact LeO.none _
   | refine LeO.ite ?_ ?_
   | refine LeO.bind ?_ (fun _=>?_)
theorem query_Right.calls (k:Nat) (a0_0:Int) (a0_1:ByteArray) (A0_2:Option Addr) (c0_2:Nat) (l0_2:List (S127)) (A0_3:Option Addr) (c0_3:Nat) (l0_3:List ByteArray) (r:Bool) (w:World) (hr0_2:Kd.C k127 w A0_2 l0_2.length l0_2) (hc0_2:l0_2.length≤c0_2) (hr0_3:Kd.C Kd.string w A0_3 l0_3.length l0_3) (hc0_3:l0_3.length≤c0_3) (h:query_Right.f k a0_0 a0_1 l0_2 l0_3=some r) :
  Calls Tryz.prog 14 #[.agg #[.int .i64 a0_0, .string a0_1, .slice A0_2 l0_2.length c0_2, .slice A0_3 l0_3.length c0_3]] w fun e w'=>e = .returned (.bool r)∧Below w.heap.size w w':=by
 have hu25:=Tryz.underlying25
 have HR0_2:=Aside0.mk hr0_2
 have HC0_2:=Aside0.mk hc0_2
 clear hr0_2 hc0_2
 have HR0_3:=Aside0.mk hr0_3
 have HC0_3:=Aside0.mk hc0_3
 clear hr0_3 hc0_3
 have HB:=Aside0.mk (Below.refl w.heap.size w)
 have H:((query_name.f k a0_0).bind fun t258=>(if t258.toList=([]:List UInt8) then (some false) else ((word_Name.f a0_1).bind fun t259=>(if t259=true then ((pick_Right.f k l0_2).bind fun t260=>(if t260=true then ((query_names.f k l0_3).bind fun t261=>(some (t261 ==0))) else (some false))) else (some false)))))=some r:=h
 clear h
 replace H:=Option.bind_eq_some_iff.mp H
 obtain ⟨t258,A20,H⟩:=H
 replace H:(if t258.toList=([]:List UInt8) then (some false) else ((word_Name.f a0_1).bind fun t259=>(if t259=true then ((pick_Right.f k l0_2).bind fun t260=>(if t260=true then ((query_names.f k l0_3).bind fun t261=>(some (t261 ==0))) else (some false))) else (some false))))=some r:=H
 have A2:=Aside0.mk A20
 clear A20
 by_cases c3:t258.toList=([]:List UInt8)
 ·rw [if_pos c3] at H
  have c3b0:(t258.toList ==([]:List UInt8))=true:=beq_iff_eq.mpr c3
  have c3b1:(t258.toList != ([]:List UInt8))=false:=bne_eq_false_iff_eq.mpr c3
  clear c3
  obtain rfl:=Option.some.inj H
  go_enter Tryz.func14,Tryz.ntmps14
  go_wp2_with (first|((with_reducible refine gate_dst (N:=1) rfl ?_);refine box_event ?hg (N:=1) ?hd (cs:=#[.int .i64 a0_0, .string a0_1, .slice A0_2 l0_2.length c0_2, .slice A0_3 l0_3.length c0_3]) (t:=25) ?hr ?_;(case hd=>rfl);(case hg=>rfl);(case hr=>first|(go_simp;done)|(go_simp;rfl));intro gb257 hg w4 hbox hb;have BK257:=Aside0.mk hbox;have GW257:Aside0 (w.heap.size≤gb257):=⟨qH⟩;have GE257:=GW257;replace HB:=Aside0.mk (below_step qB hb);clear hb hbox hg;obtain ⟨hcz5_0,hcz5_1,hcz5_2,hcz5_3,hfz5_0,hfz5_1,hfz5_2,hfz5_3⟩:=cf4 BK257.out)|((with_reducible refine gate_callee (f:=50) rfl ?_);refine goesL_ (some 5) rfl rfl Tryz.func50 qK rfl #[.int .i64 a0_0] rfl qG ?_;(with_reducible refine (query_name.calls k a0_0 t258 _ A2.out).mono ?_);rintro e w6 ⟨rfl,hb⟩;refine ⟨_,rfl,?_⟩;replace BK257:=Aside0.mk (blk_below (g:=gb257) (o := .cells #[.int .i64 a0_0, .string a0_1, .slice A0_2 l0_2.length c0_2, .slice A0_3 l0_3.length c0_3] 25 (0,0)) (qW BK257) hb);replace HB:=Aside0.mk (below_step qC hb);clear hb))
  go_ret
  exact ⟨qE,qC⟩
 rw [if_neg c3] at H
 have c3b0:(t258.toList ==([]:List UInt8))=false:=beq_eq_false_iff_ne.mpr c3
 have c3b1:(t258.toList != ([]:List UInt8))=true:=bne_iff_ne.mpr c3
 replace H:=Option.bind_eq_some_iff.mp H
 obtain ⟨t259,A70,H⟩:=H
 replace H:(if t259=true then ((pick_Right.f k l0_2).bind fun t260=>(if t260=true then ((query_names.f k l0_3).bind fun t261=>(some (t261 ==0))) else (some false))) else (some false))=some r:=H
 have A7:=Aside0.mk A70
 clear A70
 by_cases c8:t259=true
 rotate_left
 ·replace c8:=Bool.eq_false_iff.mpr c8
  subst c8
  have H1:(some false)=some r:=by rw [if_neg (show ¬ (false=true) by decide)] at H;exact H
  clear H
  have H:=H1
  clear H1
  obtain rfl:=Option.some.inj H
  go_enter Tryz.func14,Tryz.ntmps14
  go_wp2_with (first|((with_reducible refine gate_dst (N:=1) rfl ?_);refine box_event ?hg (N:=1) ?hd (cs:=#[.int .i64 a0_0, .string a0_1, .slice A0_2 l0_2.length c0_2, .slice A0_3 l0_3.length c0_3]) (t:=25) ?hr ?_;(case hd=>rfl);(case hg=>rfl);(case hr=>first|(go_simp;done)|(go_simp;rfl));intro gb257 hg w28 hbox hb;have BK257:=Aside0.mk hbox;have GW257:Aside0 (w.heap.size≤gb257):=⟨qH⟩;have GE257:=GW257;replace HB:=Aside0.mk (below_step qB hb);clear hb hbox hg;obtain ⟨hcz29_0,hcz29_1,hcz29_2,hcz29_3,hfz29_0,hfz29_1,hfz29_2,hfz29_3⟩:=cf4 BK257.out)|((with_reducible refine gate_callee (f:=50) rfl ?_);refine goesL_ (some 5) rfl rfl Tryz.func50 qK rfl #[.int .i64 a0_0] rfl qG ?_;(with_reducible refine (query_name.calls k a0_0 t258 _ A2.out).mono ?_);rintro e w30 ⟨rfl,hb⟩;refine ⟨_,rfl,?_⟩;replace BK257:=Aside0.mk (blk_below (g:=gb257) (o := .cells #[.int .i64 a0_0, .string a0_1, .slice A0_2 l0_2.length c0_2, .slice A0_3 l0_3.length c0_3] 25 (0,0)) (qW BK257) hb);replace HB:=Aside0.mk (below_step qC hb);clear hb;obtain ⟨hcz31_0,hcz31_1,hcz31_2,hcz31_3,hfz31_0,hfz31_1,hfz31_2,hfz31_3⟩:=cf4 BK257.out)|(go_at_call 51;(with_reducible refine (word_Name.calls a0_1 false _ A7.out).mono ?_);rintro e w32 ⟨rfl,hb⟩;replace BK257:=Aside0.mk (blk_below (g:=gb257) (o := .cells #[.int .i64 a0_0, .string a0_1, .slice A0_2 l0_2.length c0_2, .slice A0_3 l0_3.length c0_3] 25 (0,0)) (qW BK257) hb);replace HB:=Aside0.mk (below_step qC hb);clear hb))
  go_ret
  exact ⟨qE,qC⟩
 subst c8
 have H1:((pick_Right.f k l0_2).bind fun t260=>(if t260=true then ((query_names.f k l0_3).bind fun t261=>(some (t261 ==0))) else (some false)))=some r:=by rw [if_pos rfl] at H;exact H
 clear H
 have H:=H1
 clear H1
 replace H:=Option.bind_eq_some_iff.mp H
 obtain ⟨t260,A90,H⟩:=H
 replace H:(if t260=true then ((query_names.f k l0_3).bind fun t261=>(some (t261 ==0))) else (some false))=some r:=H
 have A9:=Aside0.mk A90
 clear A90
 by_cases c10:t260=true
 rotate_left
 ·replace c10:=Bool.eq_false_iff.mpr c10
  subst c10
  have H1:(some false)=some r:=by rw [if_neg (show ¬ (false=true) by decide)] at H;exact H
  clear H
  have H:=H1
  clear H1
  obtain rfl:=Option.some.inj H
  go_enter Tryz.func14,Tryz.ntmps14
  go_wp2_with (first|((with_reducible refine gate_dst (N:=1) rfl ?_);refine box_event ?hg (N:=1) ?hd (cs:=#[.int .i64 a0_0, .string a0_1, .slice A0_2 l0_2.length c0_2, .slice A0_3 l0_3.length c0_3]) (t:=25) ?hr ?_;(case hd=>rfl);(case hg=>rfl);(case hr=>first|(go_simp;done)|(go_simp;rfl));intro gb257 hg w21 hbox hb;have BK257:=Aside0.mk hbox;have GW257:Aside0 (w.heap.size≤gb257):=⟨qH⟩;have GE257:=GW257;replace HB:=Aside0.mk (below_step qB hb);clear hb hbox hg;obtain ⟨hcz22_0,hcz22_1,hcz22_2,hcz22_3,hfz22_0,hfz22_1,hfz22_2,hfz22_3⟩:=cf4 BK257.out)|((with_reducible refine gate_callee (f:=50) rfl ?_);refine goesL_ (some 5) rfl rfl Tryz.func50 qK rfl #[.int .i64 a0_0] rfl qG ?_;(with_reducible refine (query_name.calls k a0_0 t258 _ A2.out).mono ?_);rintro e w23 ⟨rfl,hb⟩;refine ⟨_,rfl,?_⟩;replace BK257:=Aside0.mk (blk_below (g:=gb257) (o := .cells #[.int .i64 a0_0, .string a0_1, .slice A0_2 l0_2.length c0_2, .slice A0_3 l0_3.length c0_3] 25 (0,0)) (qW BK257) hb);replace HB:=Aside0.mk (below_step qC hb);clear hb;obtain ⟨hcz24_0,hcz24_1,hcz24_2,hcz24_3,hfz24_0,hfz24_1,hfz24_2,hfz24_3⟩:=cf4 BK257.out)|(go_at_call 51;(with_reducible refine (word_Name.calls a0_1 true _ A7.out).mono ?_);rintro e w25 ⟨rfl,hb⟩;replace BK257:=Aside0.mk (blk_below (g:=gb257) (o := .cells #[.int .i64 a0_0, .string a0_1, .slice A0_2 l0_2.length c0_2, .slice A0_3 l0_3.length c0_3] 25 (0,0)) (qW BK257) hb);replace HB:=Aside0.mk (below_step qC hb);clear hb;obtain ⟨hcz26_0,hcz26_1,hcz26_2,hcz26_3,hfz26_0,hfz26_1,hfz26_2,hfz26_3⟩:=cf4 BK257.out)|(go_at_call 52;(with_reducible refine (pick_Right.calls k _ _ l0_2 false _ ?side1 ?side2 A9.out).mono ?_);(case side1=>repeat (first|exact (Kd.C_below HR0_2.out HB.out)|(with_reducible refine Kd.C_alloc ?_ _)|(with_reducible refine Kd.C_drewN ?_ _)|(with_reducible refine Kd.C_drew ?_)));(case side2=>exact HC0_2.out);rintro e w27 ⟨rfl,hb⟩;replace BK257:=Aside0.mk (blk_below (g:=gb257) (o := .cells #[.int .i64 a0_0, .string a0_1, .slice A0_2 l0_2.length c0_2, .slice A0_3 l0_3.length c0_3] 25 (0,0)) (qW BK257) hb);replace HB:=Aside0.mk (below_step qC hb);clear hb))
  go_ret
  exact ⟨qE,qC⟩
 subst c10
 have H1:((query_names.f k l0_3).bind fun t261=>(some (t261 ==0)))=some r:=by rw [if_pos rfl] at H;exact H
 clear H
 have H:=H1
 clear H1
 replace H:=Option.bind_eq_some_iff.mp H
 obtain ⟨t261,A110,H⟩:=H
 replace H:(some (t261 ==0))=some r:=H
 have A11:=Aside0.mk A110
 clear A110
 obtain rfl:=Option.some.inj H
 go_enter Tryz.func14,Tryz.ntmps14
 go_wp2_with (first|((with_reducible refine gate_dst (N:=1) rfl ?_);refine box_event ?hg (N:=1) ?hd (cs:=#[.int .i64 a0_0, .string a0_1, .slice A0_2 l0_2.length c0_2, .slice A0_3 l0_3.length c0_3]) (t:=25) ?hr ?_;(case hd=>rfl);(case hg=>rfl);(case hr=>first|(go_simp;done)|(go_simp;rfl));intro gb257 hg w12 hbox hb;have BK257:=Aside0.mk hbox;have GW257:Aside0 (w.heap.size≤gb257):=⟨qH⟩;have GE257:=GW257;replace HB:=Aside0.mk (below_step qB hb);clear hb hbox hg;obtain ⟨hcz13_0,hcz13_1,hcz13_2,hcz13_3,hfz13_0,hfz13_1,hfz13_2,hfz13_3⟩:=cf4 BK257.out)|((with_reducible refine gate_callee (f:=50) rfl ?_);refine goesL_ (some 5) rfl rfl Tryz.func50 qK rfl #[.int .i64 a0_0] rfl qG ?_;(with_reducible refine (query_name.calls k a0_0 t258 _ A2.out).mono ?_);rintro e w14 ⟨rfl,hb⟩;refine ⟨_,rfl,?_⟩;replace BK257:=Aside0.mk (blk_below (g:=gb257) (o := .cells #[.int .i64 a0_0, .string a0_1, .slice A0_2 l0_2.length c0_2, .slice A0_3 l0_3.length c0_3] 25 (0,0)) (qW BK257) hb);replace HB:=Aside0.mk (below_step qC hb);clear hb;obtain ⟨hcz15_0,hcz15_1,hcz15_2,hcz15_3,hfz15_0,hfz15_1,hfz15_2,hfz15_3⟩:=cf4 BK257.out)|(go_at_call 51;(with_reducible refine (word_Name.calls a0_1 true _ A7.out).mono ?_);rintro e w16 ⟨rfl,hb⟩;replace BK257:=Aside0.mk (blk_below (g:=gb257) (o := .cells #[.int .i64 a0_0, .string a0_1, .slice A0_2 l0_2.length c0_2, .slice A0_3 l0_3.length c0_3] 25 (0,0)) (qW BK257) hb);replace HB:=Aside0.mk (below_step qC hb);clear hb;obtain ⟨hcz17_0,hcz17_1,hcz17_2,hcz17_3,hfz17_0,hfz17_1,hfz17_2,hfz17_3⟩:=cf4 BK257.out)|(go_at_call 52;(with_reducible refine (pick_Right.calls k _ _ l0_2 true _ ?side1 ?side2 A9.out).mono ?_);(case side1=>repeat (first|exact (Kd.C_below HR0_2.out HB.out)|(with_reducible refine Kd.C_alloc ?_ _)|(with_reducible refine Kd.C_drewN ?_ _)|(with_reducible refine Kd.C_drew ?_)));(case side2=>exact HC0_2.out);rintro e w18 ⟨rfl,hb⟩;replace BK257:=Aside0.mk (blk_below (g:=gb257) (o := .cells #[.int .i64 a0_0, .string a0_1, .slice A0_2 l0_2.length c0_2, .slice A0_3 l0_3.length c0_3] 25 (0,0)) (qW BK257) hb);replace HB:=Aside0.mk (below_step qC hb);clear hb;obtain ⟨hcz19_0,hcz19_1,hcz19_2,hcz19_3,hfz19_0,hfz19_1,hfz19_2,hfz19_3⟩:=cf4 BK257.out)|(go_at_call 53;(with_reducible refine (query_names.calls k _ _ l0_3 t261 _ ?side1 ?side2 A11.out).mono ?_);(case side1=>repeat (first|exact (Kd.C_below HR0_3.out HB.out)|(with_reducible refine Kd.C_alloc ?_ _)|(with_reducible refine Kd.C_drewN ?_ _)|(with_reducible refine Kd.C_drew ?_)));(case side2=>exact HC0_3.out);rintro e w20 ⟨rfl,hb⟩;replace BK257:=Aside0.mk (blk_below (g:=gb257) (o := .cells #[.int .i64 a0_0, .string a0_1, .slice A0_2 l0_2.length c0_2, .slice A0_3 l0_3.length c0_3] 25 (0,0)) (qW BK257) hb);replace HB:=Aside0.mk (below_step qC hb);clear hb))
 go_ret
 exact ⟨qE,qC⟩
def strings_Join.f (l0:List ByteArray) (a1:ByteArray):Option (ByteArray):=if l0.length≤140737488355328 then (if (Lib.join (l0.map (·.data.toList)) a1.data.toList).length≤140737488355328 then some ⟨(Lib.join (l0.map (·.data.toList)) a1.data.toList).toArray⟩ else none) else none
theorem strings_Join.calls (A0:Option Addr) (c0:Nat) (l0:List ByteArray) (a1:ByteArray) (r:ByteArray) (w:World) (hr0:Kd.C Kd.string w A0 l0.length l0) (hc0:l0.length≤c0) (h:strings_Join.f l0 a1=some r) :
  Calls Tryz.prog 112 #[.slice A0 l0.length c0, .string a1] w fun e w'=>e = .returned (.string r)∧Below w.heap.size w w':=by
 unfold strings_Join.f at h
 split at h
 case isFalse=>cases h
 split at h
 case isFalse=>cases h
 obtain rfl:=Option.some.inj h
 cases l0 with
 | nil=>exact (Tryz.strings_Join_none A0 c0 a1 w).mono fun e w' ⟨he,hw⟩=>⟨by rw [he];rfl,hw ▸ Below.refl _ _⟩
 | cons x t =>
  obtain ⟨bk,o,rfl,hcell,hbk⟩:=Go.Proofs.YteaadaaghhojfaaGreatDoorW.XW.C_strings hr0 (by simp)
  exact Tryz.strings_Join bk o c0 (x ::t) a1 w hcell hbk (by assumption) hc0 (by assumption)
def word_Join.f (a0:ByteArray) (l1:List ByteArray):Option (ByteArray):=(strings_Join.f l1 a0).bind fun t262=>(some t262)
theorem word_Join.calls (a0:ByteArray) (A1:Option Addr) (c1:Nat) (l1:List ByteArray) (r:ByteArray) (w:World) (hr1:Kd.C Kd.string w A1 l1.length l1) (hc1:l1.length≤c1) (h:word_Join.f a0 l1=some r) :
  Calls Tryz.prog 57 #[.string a0, .slice A1 l1.length c1] w fun e w'=>e = .returned (.string r)∧Below w.heap.size w w':=by
 have HR1:=Aside0.mk hr1
 have HC1:=Aside0.mk hc1
 clear hr1 hc1
 have HB:=Aside0.mk (Below.refl w.heap.size w)
 have H:((strings_Join.f l1 a0).bind fun t262=>(some t262))=some r:=h
 clear h
 replace H:=Option.bind_eq_some_iff.mp H
 obtain ⟨t262,A30,H⟩:=H
 replace H:(some t262)=some r:=H
 have A3:=Aside0.mk A30
 clear A30
 obtain rfl:=Option.some.inj H
 go_enter Tryz.func57,Tryz.ntmps57
 go_wp2_with (first|((with_reducible refine gate_callee (f:=112) rfl ?_);refine goesL_ (some 7) rfl rfl Tryz.func112 qK rfl #[.slice A1 l1.length c1, .string a0] rfl qG ?_;(with_reducible refine (strings_Join.calls _ _ l1 a0 t262 _ ?side1 ?side2 A3.out).mono ?_);(case side1=>repeat (first|exact HR1.out|(with_reducible refine Kd.C_alloc ?_ _)|(with_reducible refine Kd.C_drewN ?_ _)|(with_reducible refine Kd.C_drew ?_)));(case side2=>exact HC1.out);rintro e w4 ⟨rfl,hb⟩;refine ⟨_,rfl,?_⟩;replace HB:=Aside0.mk (below_step qB hb);clear hb))
 go_ret
 exact ⟨qE,qB⟩
def pick_match_text.f (a0_0:Int) (a0_1:ByteArray) (a0_2:ByteArray):Option (ByteArray):=if a0_0=1 then ((word_Join.f (⟨#[61]⟩:ByteArray) (([a0_1,a0_2]:List ByteArray))).bind fun t267=>(some t267)) else (if a0_0=2 then ((word_Join.f (⟨#[33,61]⟩:ByteArray) (([a0_1,a0_2]:List ByteArray))).bind fun t271=>(some t271)) else (if a0_0=3 then (if a0_2.size+1≤9223372036854775807 then ((word_Join.f (⟨#[61]⟩:ByteArray) (([a0_1,a0_2++(⟨#[42]⟩:ByteArray)]:List ByteArray))).bind fun t275=>(some t275)) else (none)) else (some a0_1)))
theorem pick_match_text.calls (a0_0:Int) (a0_1:ByteArray) (a0_2:ByteArray) (r:ByteArray) (w:World) (h:pick_match_text.f a0_0 a0_1 a0_2=some r) :
  Calls Tryz.prog 113 #[.agg #[.int .i64 a0_0, .string a0_1, .string a0_2]] w fun e w'=>e = .returned (.string r)∧Below w.heap.size w w':=by
 have hu132:=Tryz.underlying132
 have HB:=Aside0.mk (Below.refl w.heap.size w)
 have H:(if a0_0=1 then ((word_Join.f (⟨#[61]⟩:ByteArray) (([a0_1,a0_2]:List ByteArray))).bind fun t267=>(some t267)) else (if a0_0=2 then ((word_Join.f (⟨#[33,61]⟩:ByteArray) (([a0_1,a0_2]:List ByteArray))).bind fun t271=>(some t271)) else (if a0_0=3 then (if a0_2.size+1≤9223372036854775807 then ((word_Join.f (⟨#[61]⟩:ByteArray) (([a0_1,a0_2++(⟨#[42]⟩:ByteArray)]:List ByteArray))).bind fun t275=>(some t275)) else (none)) else (some a0_1))))=some r:=h
 clear h
 by_cases c2:a0_0=1
 ·rw [if_pos c2] at H
  have c2b0:(a0_0 ==1)=true:=beq_iff_eq.mpr c2
  have c2b1:(a0_0 != 1)=false:=bne_eq_false_iff_eq.mpr c2
  clear c2
  obtain ⟨y264,hy264⟩:∃ y_:List ByteArray,y_=(([a0_1,a0_2]:List ByteArray)):=⟨_,rfl⟩
  replace H:((word_Join.f (⟨#[61]⟩:ByteArray) y264).bind fun t267=>(some t267))=some r:=by first|(rw [hy264];with_reducible exact H)|(have H2_:=(Option.bind_some _ _).symm.trans H;rw [hy264];with_reducible exact H2_)|(have H2_:=(Option.bind_some _ _).symm.trans H;with_reducible exact H2_)|with_reducible exact H|(rw [hy264];exact H)|exact H
  have Ny264:=Aside0.mk hy264
  clear hy264
  replace H:=Option.bind_eq_some_iff.mp H
  obtain ⟨t267,A30,H⟩:=H
  replace H:(some t267)=some r:=H
  have A3:=Aside0.mk A30
  clear A30
  obtain rfl:=Option.some.inj H
  go_enter Tryz.func113,Tryz.ntmps113
  go_wp2_with (first|((with_reducible refine gate_dst (N:=1) rfl ?_);refine box_event ?hg (N:=1) ?hd (cs:=#[.int .i64 a0_0, .string a0_1, .string a0_2]) (t:=132) ?hr ?_;(case hd=>rfl);(case hg=>rfl);(case hr=>first|(go_simp;done)|(go_simp;rfl));intro gb263 hg w4 hbox hb;have BK263:=Aside0.mk hbox;have GW263:Aside0 (w.heap.size≤gb263):=⟨qH⟩;have GE263:=GW263;replace HB:=Aside0.mk (below_step qB hb);clear hb hbox hg;obtain ⟨hcz5_0,hcz5_1,hcz5_2,hfz5_0,hfz5_1,hfz5_2⟩:=cf3 BK263.out)|((with_reducible refine gate_dst (N:=14) rfl ?_);refine Kd.R_lit Kd.string _ 9 ?hg (N:=14) ?hd (xs:=([a0_1,a0_2]:List ByteArray)) (inner:=[.string a0_1, .string a0_2]) (ok:=fun _=>True) (okp:=fun _=>True) ?hr ?hp (fun _ hk=>hk) trivial (Below.refl _ _) (Nat.le_refl _) (by simp) ?_;(case hd=>rfl);(case hg=>rfl);(case hr=>first|(go_simp;done)|(go_simp;rfl));(case hp=>exact (Reps.one (show Kd.M Kd.string _ _ _ a0_1 [.string a0_1] from rfl) (Reps.one (show Kd.M Kd.string _ _ _ a0_2 [.string a0_2] from rfl) (Reps.none _ _))));intro v265 w6 ho7 hb hg_ hnew_;clear hg_ hnew_;(first|rw [← Ny264.out] at ho7|(simp only [Int.reduceToNat] at ho7;rw [← Ny264.out] at ho7));have HO266:=Aside0.mk (Kd.R_lower ho7 (below_size qC));replace BK263:=Aside0.mk (blk_below (g:=gb263) (o := .cells #[.int .i64 a0_0, .string a0_1, .string a0_2] 132 (0,0)) (qW BK263) hb);replace HB:=Aside0.mk (below_step qC hb);clear hb ho7;obtain ⟨Ao8,co8,eo8⟩:=Kd.R_slice HO266.out;subst eo8)|((with_reducible refine gate_callee (f:=57) rfl ?_);refine goesL_ (some 15) rfl rfl Tryz.func57 qK rfl #[.string (⟨#[61]⟩:ByteArray), .slice Ao8 y264.length co8] rfl qG ?_;(with_reducible refine (word_Join.calls (⟨#[61]⟩:ByteArray) _ _ y264 t267 _ ?side1 ?side2 A3.out).mono ?_);(case side1=>repeat (first|exact (Kd.R_reads' HO266.out).2.2|(with_reducible refine Kd.C_alloc ?_ _)|(with_reducible refine Kd.C_drewN ?_ _)|(with_reducible refine Kd.C_drew ?_)));(case side2=>exact (Kd.R_reads' HO266.out).2.1);rintro e w9 ⟨rfl,hb⟩;refine ⟨_,rfl,?_⟩;replace HO266:=Aside0.mk (Kd.R_below (qR HO266) hb);replace BK263:=Aside0.mk (blk_below (g:=gb263) (o := .cells #[.int .i64 a0_0, .string a0_1, .string a0_2] 132 (0,0)) (qW BK263) hb);replace HB:=Aside0.mk (below_step qC hb);clear hb))
  go_ret
  exact ⟨qE,qC⟩
 rw [if_neg c2] at H
 have c2b0:(a0_0 ==1)=false:=beq_eq_false_iff_ne.mpr c2
 have c2b1:(a0_0 != 1)=true:=bne_iff_ne.mpr c2
 by_cases c10:a0_0=2
 ·rw [if_pos c10] at H
  have c10b0:(a0_0 ==2)=true:=beq_iff_eq.mpr c10
  have c10b1:(a0_0 != 2)=false:=bne_eq_false_iff_eq.mpr c10
  clear c10
  obtain ⟨y268,hy268⟩:∃ y_:List ByteArray,y_=(([a0_1,a0_2]:List ByteArray)):=⟨_,rfl⟩
  replace H:((word_Join.f (⟨#[33,61]⟩:ByteArray) y268).bind fun t271=>(some t271))=some r:=by first|(rw [hy268];with_reducible exact H)|(have H2_:=(Option.bind_some _ _).symm.trans H;rw [hy268];with_reducible exact H2_)|(have H2_:=(Option.bind_some _ _).symm.trans H;with_reducible exact H2_)|with_reducible exact H|(rw [hy268];exact H)|exact H
  have Ny268:=Aside0.mk hy268
  clear hy268
  replace H:=Option.bind_eq_some_iff.mp H
  obtain ⟨t271,A110,H⟩:=H
  replace H:(some t271)=some r:=H
  have A11:=Aside0.mk A110
  clear A110
  obtain rfl:=Option.some.inj H
  go_enter Tryz.func113,Tryz.ntmps113
  go_wp2_with (first|((with_reducible refine gate_dst (N:=1) rfl ?_);refine box_event ?hg (N:=1) ?hd (cs:=#[.int .i64 a0_0, .string a0_1, .string a0_2]) (t:=132) ?hr ?_;(case hd=>rfl);(case hg=>rfl);(case hr=>first|(go_simp;done)|(go_simp;rfl));intro gb263 hg w12 hbox hb;have BK263:=Aside0.mk hbox;have GW263:Aside0 (w.heap.size≤gb263):=⟨qH⟩;have GE263:=GW263;replace HB:=Aside0.mk (below_step qB hb);clear hb hbox hg;obtain ⟨hcz13_0,hcz13_1,hcz13_2,hfz13_0,hfz13_1,hfz13_2⟩:=cf3 BK263.out)|((with_reducible refine gate_dst (N:=24) rfl ?_);refine Kd.R_lit Kd.string _ 9 ?hg (N:=24) ?hd (xs:=([a0_1,a0_2]:List ByteArray)) (inner:=[.string a0_1, .string a0_2]) (ok:=fun _=>True) (okp:=fun _=>True) ?hr ?hp (fun _ hk=>hk) trivial (Below.refl _ _) (Nat.le_refl _) (by simp) ?_;(case hd=>rfl);(case hg=>rfl);(case hr=>first|(go_simp;done)|(go_simp;rfl));(case hp=>exact (Reps.one (show Kd.M Kd.string _ _ _ a0_1 [.string a0_1] from rfl) (Reps.one (show Kd.M Kd.string _ _ _ a0_2 [.string a0_2] from rfl) (Reps.none _ _))));intro v269 w14 ho15 hb hg_ hnew_;clear hg_ hnew_;(first|rw [← Ny268.out] at ho15|(simp only [Int.reduceToNat] at ho15;rw [← Ny268.out] at ho15));have HO270:=Aside0.mk (Kd.R_lower ho15 (below_size qC));replace BK263:=Aside0.mk (blk_below (g:=gb263) (o := .cells #[.int .i64 a0_0, .string a0_1, .string a0_2] 132 (0,0)) (qW BK263) hb);replace HB:=Aside0.mk (below_step qC hb);clear hb ho15;obtain ⟨Ao16,co16,eo16⟩:=Kd.R_slice HO270.out;subst eo16)|((with_reducible refine gate_callee (f:=57) rfl ?_);refine goesL_ (some 25) rfl rfl Tryz.func57 qK rfl #[.string (⟨#[33,61]⟩:ByteArray), .slice Ao16 y268.length co16] rfl qG ?_;(with_reducible refine (word_Join.calls (⟨#[33,61]⟩:ByteArray) _ _ y268 t271 _ ?side1 ?side2 A11.out).mono ?_);(case side1=>repeat (first|exact (Kd.R_reads' HO270.out).2.2|(with_reducible refine Kd.C_alloc ?_ _)|(with_reducible refine Kd.C_drewN ?_ _)|(with_reducible refine Kd.C_drew ?_)));(case side2=>exact (Kd.R_reads' HO270.out).2.1);rintro e w17 ⟨rfl,hb⟩;refine ⟨_,rfl,?_⟩;replace HO270:=Aside0.mk (Kd.R_below (qR HO270) hb);replace BK263:=Aside0.mk (blk_below (g:=gb263) (o := .cells #[.int .i64 a0_0, .string a0_1, .string a0_2] 132 (0,0)) (qW BK263) hb);replace HB:=Aside0.mk (below_step qC hb);clear hb))
  go_ret
  exact ⟨qE,qC⟩
 rw [if_neg c10] at H
 have c10b0:(a0_0 ==2)=false:=beq_eq_false_iff_ne.mpr c10
 have c10b1:(a0_0 != 2)=true:=bne_iff_ne.mpr c10
 by_cases c18:a0_0=3
 rotate_left
 ·rw [if_neg c18] at H
  have c18b0:(a0_0 ==3)=false:=beq_eq_false_iff_ne.mpr c18
  have c18b1:(a0_0 != 3)=true:=bne_iff_ne.mpr c18
  obtain rfl:=Option.some.inj H
  go_enter Tryz.func113,Tryz.ntmps113
  go_wp2_with (first|((with_reducible refine gate_dst (N:=1) rfl ?_);refine box_event ?hg (N:=1) ?hd (cs:=#[.int .i64 a0_0, .string a0_1, .string a0_2]) (t:=132) ?hr ?_;(case hd=>rfl);(case hg=>rfl);(case hr=>first|(go_simp;done)|(go_simp;rfl));intro gb263 hg w27 hbox hb;have BK263:=Aside0.mk hbox;have GW263:Aside0 (w.heap.size≤gb263):=⟨qH⟩;have GE263:=GW263;replace HB:=Aside0.mk (below_step qB hb);clear hb hbox hg;obtain ⟨hcz28_0,hcz28_1,hcz28_2,hfz28_0,hfz28_1,hfz28_2⟩:=cf3 BK263.out))
  go_ret
  exact ⟨qE,qC⟩
 rw [if_pos c18] at H
 have c18b0:(a0_0 ==3)=true:=beq_iff_eq.mpr c18
 have c18b1:(a0_0 != 3)=false:=bne_eq_false_iff_eq.mpr c18
 clear c18
 by_cases c19:a0_2.size+1≤9223372036854775807
 rotate_left
 ·rw [if_neg c19] at H
  exact absurd H (by simp)
 rw [if_pos c19] at H
 have c19b0:=eq_true c19
 have c19b1:decide (a0_2.size+1≤9223372036854775807)=true:=decide_eq_true c19
 try have c19b2:(9223372036854775807<a0_2.size+1)=False:=eq_false (Nat.not_lt.2 c19)
 obtain ⟨y272,hy272⟩:∃ y_:List ByteArray,y_=(([a0_1,a0_2++(⟨#[42]⟩:ByteArray)]:List ByteArray)):=⟨_,rfl⟩
 replace H:((word_Join.f (⟨#[61]⟩:ByteArray) y272).bind fun t275=>(some t275))=some r:=by first|(rw [hy272];with_reducible exact H)|(have H2_:=(Option.bind_some _ _).symm.trans H;rw [hy272];with_reducible exact H2_)|(have H2_:=(Option.bind_some _ _).symm.trans H;with_reducible exact H2_)|with_reducible exact H|(rw [hy272];exact H)|exact H
 have Ny272:=Aside0.mk hy272
 clear hy272
 replace H:=Option.bind_eq_some_iff.mp H
 obtain ⟨t275,A200,H⟩:=H
 replace H:(some t275)=some r:=H
 have A20:=Aside0.mk A200
 clear A200
 obtain rfl:=Option.some.inj H
 go_enter Tryz.func113,Tryz.ntmps113
 go_wp2_with (first|((with_reducible refine gate_dst (N:=1) rfl ?_);refine box_event ?hg (N:=1) ?hd (cs:=#[.int .i64 a0_0, .string a0_1, .string a0_2]) (t:=132) ?hr ?_;(case hd=>rfl);(case hg=>rfl);(case hr=>first|(go_simp;done)|(go_simp;rfl));intro gb263 hg w21 hbox hb;have BK263:=Aside0.mk hbox;have GW263:Aside0 (w.heap.size≤gb263):=⟨qH⟩;have GE263:=GW263;replace HB:=Aside0.mk (below_step qB hb);clear hb hbox hg;obtain ⟨hcz22_0,hcz22_1,hcz22_2,hfz22_0,hfz22_1,hfz22_2⟩:=cf3 BK263.out)|((with_reducible refine gate_dst (N:=35) rfl ?_);refine Kd.R_lit Kd.string _ 9 ?hg (N:=35) ?hd (xs:=([a0_1,a0_2++(⟨#[42]⟩:ByteArray)]:List ByteArray)) (inner:=[.string a0_1, .string (a0_2++(⟨#[42]⟩:ByteArray))]) (ok:=fun _=>True) (okp:=fun _=>True) ?hr ?hp (fun _ hk=>hk) trivial (Below.refl _ _) (Nat.le_refl _) (by simp) ?_;(case hd=>rfl);(case hg=>rfl);(case hr=>first|(go_simp;done)|(go_simp;rfl));(case hp=>exact (Reps.one (show Kd.M Kd.string _ _ _ a0_1 [.string a0_1] from rfl) (Reps.one (show Kd.M Kd.string _ _ _ (a0_2++(⟨#[42]⟩:ByteArray)) [.string (a0_2++(⟨#[42]⟩:ByteArray))] from rfl) (Reps.none _ _))));intro v273 w23 ho24 hb hg_ hnew_;clear hg_ hnew_;(first|rw [← Ny272.out] at ho24|(simp only [Int.reduceToNat] at ho24;rw [← Ny272.out] at ho24));have HO274:=Aside0.mk (Kd.R_lower ho24 (below_size qC));replace BK263:=Aside0.mk (blk_below (g:=gb263) (o := .cells #[.int .i64 a0_0, .string a0_1, .string a0_2] 132 (0,0)) (qW BK263) hb);replace HB:=Aside0.mk (below_step qC hb);clear hb ho24;obtain ⟨Ao25,co25,eo25⟩:=Kd.R_slice HO274.out;subst eo25)|((with_reducible refine gate_callee (f:=57) rfl ?_);refine goesL_ (some 36) rfl rfl Tryz.func57 qK rfl #[.string (⟨#[61]⟩:ByteArray), .slice Ao25 y272.length co25] rfl qG ?_;(with_reducible refine (word_Join.calls (⟨#[61]⟩:ByteArray) _ _ y272 t275 _ ?side1 ?side2 A20.out).mono ?_);(case side1=>repeat (first|exact (Kd.R_reads' HO274.out).2.2|(with_reducible refine Kd.C_alloc ?_ _)|(with_reducible refine Kd.C_drewN ?_ _)|(with_reducible refine Kd.C_drew ?_)));(case side2=>exact (Kd.R_reads' HO274.out).2.1);rintro e w26 ⟨rfl,hb⟩;refine ⟨_,rfl,?_⟩;replace HO274:=Aside0.mk (Kd.R_below (qR HO274) hb);replace BK263:=Aside0.mk (blk_below (g:=gb263) (o := .cells #[.int .i64 a0_0, .string a0_1, .string a0_2] 132 (0,0)) (qW BK263) hb);replace HB:=Aside0.mk (below_step qC hb);clear hb))
 go_ret
 exact ⟨qE,qC⟩
def pick_Text.l0:Nat→List ByteArray→List (S127)→Int→Int→Option (ByteArray)
 | 0,_,_,_,_=>none
 | k+1,x3,x6,x7,x8=>if x8<x7 then (if 0≤x8 then (if x8<(x6.length:Int) then ((pick_match_text.f ((rd_T127 x6 x8).f0) ((rd_T127 x6 x8).f1) ((rd_T127 x6 x8).f2)).bind fun t278=>(if x3.length<8796093022208 then (pick_Text.l0 k (x3++[t278]) x6 x7 (wrap64 (x8+1))) else (none))) else (none)) else (none)) else ((word_Join.f (⟨#[44]⟩:ByteArray) x3).bind fun t282=>(some t282))
def pick_Text.f (k:Nat) (l0:List (S127)):Option (ByteArray):=pick_Text.l0 k ([]:List ByteArray) l0 (l0.length:Int) 0
theorem pick_Text.mono_l:∀ k,(∀ y0 y1 y2 y3,LeO (pick_Text.l0 k y0 y1 y2 y3) (pick_Text.l0 (k+1) y0 y1 y2 y3))
 | 0=>fun _ _ _ _ r h=>by simp [pick_Text.l0] at h
 | k+1=>by
  have ih0:=pick_Text.mono_l k
  ·intro y0 y1 y2 y3
   unfold pick_Text.l0
   repeat' first
   | (with_reducible exact ih0 _ _ _ _)
   | (with_reducible exact LeO.refl _)
   | (with_reducible exact LeO.none _)
   | (with_reducible refine LeO.ite ?_ ?_)
   | (with_reducible refine LeO.bind ?_ (fun _=>?_))
   | exact ih0 _ _ _ _
   | exact LeO.none _
   | refine LeO.ite ?_ ?_
   | refine LeO.bind ?_ (fun _=>?_)
theorem pick_Text.mono:∀ a0 k,LeO (pick_Text.f k a0) (pick_Text.f (k+1) a0):=by
 intro a0 k
 have ih0:=pick_Text.mono_l k
 unfold pick_Text.f
 repeat' first
   | (with_reducible exact ih0 _ _ _ _)
   | (with_reducible exact LeO.refl _)
   | (with_reducible exact LeO.none _)
   | (with_reducible refine LeO.ite ?_ ?_)
   | (with_reducible refine LeO.bind ?_ (fun _=>?_))
   | exact ih0 _ _ _ _
   | exact LeO.none _
   | refine LeO.ite ?_ ?_
   | refine LeO.bind ?_ (fun _=>?_)
theorem pick_Text.calls (k:Nat) (A0:Option Addr) (c0:Nat) (l0:List (S127)) (r:ByteArray) (w:World) (hr0:Kd.C k127 w A0 l0.length l0) (hc0:l0.length≤c0) (h:pick_Text.f k l0=some r) :
  Calls Tryz.prog 58 #[.slice A0 l0.length c0] w fun e w'=>e = .returned (.string r)∧Below w.heap.size w w':=by
 have hu127:=Tryz.underlying127
 have hu132:=Tryz.underlying132
 have HR0:=Aside0.mk hr0
 have HC0:=Aside0.mk hc0
 clear hr0 hc0
 have HB:=Aside0.mk (Below.refl w.heap.size w)
 have H:(pick_Text.l0 k ([]:List ByteArray) l0 (l0.length:Int) 0)=some r:=h
 clear h
 have H':=Aside0.mk H
 clear H
 go_enter Tryz.func58,Tryz.ntmps58
 go_wp2
 go_loopg [3,8] k (fun kq v3 v8 w'=>∃ (x3_1:List ByteArray) (x8_1:Int),v8 = .int .i64 x8_1∧Aside0 (pick_Text.l0 kq x3_1 l0 (l0.length:Int) x8_1=some r)∧Aside0 (kq≤k)∧Aside0 (Kd.R Kd.string 9 w' w.heap.size (fun _=>True) v3 x3_1)∧Aside0 (Below w.heap.size w w'))
 case atStart=>exact ⟨(([]:List ByteArray)),(0),qS,H',⟨Nat.le_refl _⟩,⟨qN⟩,⟨qB⟩⟩
 case round =>
  clear H'
  obtain ⟨x3_1,x8_1,rfl,HA,HK1,HO_3,HB⟩:=hrel
  cases gk with
  | zero=>exact absurd HA.out (by simp [pick_Text.l0])
  | succ k1 =>
   have H:=HA.out
   clear HA
   simp only [pick_Text.l0] at H
   by_cases c2:x8_1<(l0.length:Int)
   rotate_left
   ·rw [if_neg c2] at H
    have c2b0:decide (x8_1<(l0.length:Int))=false:=decide_eq_false c2
    clear c2
    replace H:=Option.bind_eq_some_iff.mp H
    obtain ⟨t282,A110,H⟩:=H
    replace H:(some t282)=some r:=H
    have A11:=Aside0.mk A110
    clear A110
    obtain rfl:=Option.some.inj H
    obtain ⟨Ao12,co12,eo12⟩:=Kd.R_slice HO_3.out
    subst eo12
    go_wp2_with (first|((with_reducible refine gate_callee (f:=57) rfl ?_);refine goesL_ (some 20) rfl rfl Tryz.func57 qK rfl #[.string (⟨#[44]⟩:ByteArray), .slice Ao12 x3_1.length co12] rfl qG ?_;(with_reducible refine (word_Join.calls (⟨#[44]⟩:ByteArray) _ _ x3_1 t282 _ ?side1 ?side2 A11.out).mono ?_);(case side1=>repeat (first|exact (Kd.R_reads' HO_3.out).2.2|(with_reducible refine Kd.C_alloc ?_ _)|(with_reducible refine Kd.C_drewN ?_ _)|(with_reducible refine Kd.C_drew ?_)));(case side2=>exact (Kd.R_reads' HO_3.out).2.1);rintro e w13 ⟨rfl,hb⟩;refine ⟨_,rfl,?_⟩;replace HO_3:=Aside0.mk (Kd.R_below (qR HO_3) hb);replace HB:=Aside0.mk (below_step qB hb);clear hb))
    go_ret
    exact ⟨qE,qB⟩
   rw [if_pos c2] at H
   have c2b0:decide (x8_1<(l0.length:Int))=true:=decide_eq_true c2
   clear c2
   by_cases c3:0≤x8_1
   rotate_left
   ·rw [if_neg c3] at H
    exact absurd H (by simp)
   rw [if_pos c3] at H
   have c3b0:decide (0≤x8_1)=true:=decide_eq_true c3
   clear c3
   by_cases c4:x8_1<(l0.length:Int)
   rotate_left
   ·rw [if_neg c4] at H
    exact absurd H (by simp)
   rw [if_pos c4] at H
   have c4b0:decide (x8_1<(l0.length:Int))=true:=decide_eq_true c4
   clear c4
   replace H:=Option.bind_eq_some_iff.mp H
   obtain ⟨t278,A50,H⟩:=H
   replace H:(if x3_1.length<8796093022208 then (pick_Text.l0 k1 (x3_1++[t278]) l0 (l0.length:Int) (wrap64 (x8_1+1))) else (none))=some r:=H
   have A5:=Aside0.mk A50
   clear A50
   by_cases c6:x3_1.length<8796093022208
   rotate_left
   ·rw [if_neg c6] at H
    exact absurd H (by simp)
   rw [if_pos c6] at H
   have LMc6:=Aside0.mk c6
   clear c6
   obtain ⟨y279,hy279⟩:∃ y_:List ByteArray,y_=(x3_1++[t278]):=⟨_,rfl⟩
   replace H:(pick_Text.l0 k1 y279 l0 (l0.length:Int) (wrap64 (x8_1+1)))=some r:=by first|(rw [hy279];with_reducible exact H)|(have H2_:=(Option.bind_some _ _).symm.trans H;rw [hy279];with_reducible exact H2_)|(have H2_:=(Option.bind_some _ _).symm.trans H;with_reducible exact H2_)|with_reducible exact H|(rw [hy279];exact H)|exact H
   have Ny279:=Aside0.mk hy279
   clear hy279
   have H':=Aside0.mk H
   clear H
   have p276:0≤(x8_1:Int):=of_decide_eq_true qA
   have q276:x8_1<(l0.length:Int):=of_decide_eq_true qA
   obtain ⟨ad276,e276,hx276_0,hx276_1,hx276_2⟩:=at_T127 HR0.out x8_1 p276 q276
   cases e276
   replace hx276_0:=(HB.out.cell (World.block_lt_of_cell? w _ hx276_0)).trans hx276_0
   replace hx276_1:=(HB.out.cell (World.block_lt_of_cell? w _ hx276_1)).trans hx276_1
   replace hx276_2:=(HB.out.cell (World.block_lt_of_cell? w _ hx276_2)).trans hx276_2
   replace p276:=eq_true p276
   replace q276:=eq_true q276
   go_wp2_with (first|((with_reducible refine gate_dst (N:=5) rfl ?_);refine box_event ?hg (N:=5) ?hd (cs:=#[.int .i64 0, .string (⟨#[]⟩:ByteArray), .string (⟨#[]⟩:ByteArray)]) (t:=127) ?hr ?_;(case hd=>rfl);(case hg=>rfl);(case hr=>first|(go_simp;done)|(go_simp;rfl));intro gb277 hg w7 hbox hb;replace HO_3:=Aside0.mk (Kd.R_below (qR HO_3) hb);have BK277:=Aside0.mk hbox;have GW277:Aside0 (w.heap.size≤gb277):=⟨qH⟩;have GE277:=GW277;replace HB:=Aside0.mk (below_step qB hb);clear hb hbox hg;obtain ⟨hcz8_0,hcz8_1,hcz8_2,hfz8_0,hfz8_1,hfz8_2⟩:=cf3 BK277.out)|((with_reducible refine gate_callee (f:=113) rfl ?_);refine goesL_ (some 15) rfl rfl Tryz.func113 qK rfl #[.agg #[.int .i64 ((rd_T127 l0 x8_1).f0), .string ((rd_T127 l0 x8_1).f1), .string ((rd_T127 l0 x8_1).f2)]] rfl qG ?_;(with_reducible refine (pick_match_text.calls ((rd_T127 l0 x8_1).f0) ((rd_T127 l0 x8_1).f1) ((rd_T127 l0 x8_1).f2) t278 _ A5.out).mono ?_);rintro e w9 ⟨rfl,hb⟩;refine ⟨_,rfl,?_⟩;replace HO_3:=Aside0.mk (Kd.R_below (by (with_reducible repeat (first|apply Kd.R_alloc|apply Kd.R_drewN|apply Kd.R_drew));exact (Kd.R_mono (Kd.R_far (p:=⟨gb277,2,none⟩) (Kd.R_far (p:=⟨gb277,1,none⟩) (Kd.R_far (p:=⟨gb277,0,none⟩) (Kd.R_types HO_3.out BK277.out (by decide)) (fun _ hk=>hk.2) (.int .i64 ((rd_T127 l0 x8_1).f0))) (fun _ hk=>hk.2) (.string ((rd_T127 l0 x8_1).f1))) (fun _ hk=>hk.2) (.string ((rd_T127 l0 x8_1).f2))) (fun _ h_=>h_.1))) hb);replace BK277:=Aside0.mk (blk_below (g:=gb277) (o := .cells #[.int .i64 ((rd_T127 l0 x8_1).f0), .string ((rd_T127 l0 x8_1).f1), .string ((rd_T127 l0 x8_1).f2)] 127 (0,0)) (by (with_reducible repeat (first|refine blk_drewN ?_ _|refine blk_drew ?_|refine blk_alloc ?_ _));refine blk_put (cs:=#[.int .i64 ((rd_T127 l0 x8_1).f0), .string ((rd_T127 l0 x8_1).f1), .string (⟨#[]⟩:ByteArray)]) ?_ 2 _ rfl;(with_reducible repeat (first|refine blk_drewN ?_ _|refine blk_drew ?_|refine blk_alloc ?_ _));refine blk_put (cs:=#[.int .i64 ((rd_T127 l0 x8_1).f0), .string (⟨#[]⟩:ByteArray), .string (⟨#[]⟩:ByteArray)]) ?_ 1 _ rfl;(with_reducible repeat (first|refine blk_drewN ?_ _|refine blk_drew ?_|refine blk_alloc ?_ _));refine blk_put (cs:=#[.int .i64 0, .string (⟨#[]⟩:ByteArray), .string (⟨#[]⟩:ByteArray)]) ?_ 0 _ rfl;(with_reducible repeat (first|refine blk_drewN ?_ _|refine blk_drew ?_|refine blk_alloc ?_ _));exact BK277.out) hb);replace HB:=Aside0.mk (below_step qC hb);clear hb)|((with_reducible refine gate_builtin (b := .append) (xs:=#[.tmp 12, .tmp 16]) rfl ?_);at_builtin;refine Kd.R_append Kd.string (w0:=w) w.heap.size rfl (.tmp 12) (.tmp 16) 23 9 (.string ⟨#[]⟩) 16 rfl Tryz.underlying23 info9 rfl (by decide) (by omega) u3 x3_1 t278 [.string t278] (fun _=>True) (fun _=>False) rfl rfl ?aP (fun _ hk=>hk.elim) ?aF ?aO ?aB ?aS ?aL ?_;(case aP=>exact rfl);(case aB=>exact qC);(case aF=>exact (fun _ _=>trivial));(case aO=>exact (qR HO_3));(case aS=>exact (below_size qC));(case aL=>have:=LMc6.out;omega);intro v280 w10 ho hb hg hat;rw [← Ny279.out] at ho;replace BK277:=Aside0.mk (blk_grown (g:=gb277) (o := .cells #[.int .i64 ((rd_T127 l0 x8_1).f0), .string ((rd_T127 l0 x8_1).f1), .string ((rd_T127 l0 x8_1).f2)] 127 (0,0)) (qW BK277) hg (Kd.R_ne HO_3.out BK277.out (by decide)));replace HB:=Aside0.mk hb;have HO281:=Aside0.mk ho;clear HO_3;clear ho hb hg hat))
   go_roundg k1
   case measure=>have:=HK1.out;omega
   case rel=>exact ⟨(y279),(wrap64 (x8_1+1)),qS,H',⟨by have:=HK1.out;omega⟩,⟨qR HO281⟩,⟨qC⟩⟩
def query_Text.j0:Nat→List ByteArray→Int→ByteArray→List (S127)→List ByteArray→Option (ByteArray)
 | 0,_,_,_,_,_=>none
 | k+1,x3,x284000,x284001,x284002,x284003=>if (x284003.length:Int)>0 then ((word_Join.f (⟨#[44]⟩:ByteArray) x284003).bind fun t295=>((some (([(⟨#[98,121]⟩:ByteArray),t295]:List ByteArray):List ByteArray)).bind fun y296=>(if x3.length+y296.length<8796093022208 then ((word_Join.f (⟨#[32]⟩:ByteArray) (x3++y296)).bind fun t302=>(some t302)) else (none)))) else ((word_Join.f (⟨#[32]⟩:ByteArray) x3).bind fun t303=>(some t303))
def query_Text.f (k:Nat) (a0_0:Int) (a0_1:ByteArray) (l0_2:List (S127)) (l0_3:List ByteArray):Option (ByteArray):=(query_Right.f k a0_0 a0_1 l0_2 l0_3).bind fun t284=>(if t284=true then ((query_name.f k a0_0).bind fun t285=>((some (([t285,a0_1]:List ByteArray):List ByteArray)).bind fun y286=>(if (l0_2.length:Int)>0 then ((pick_Text.f k l0_2).bind fun t289=>((word_Join.f (⟨#[]⟩:ByteArray) (([a0_1,(⟨#[123]⟩:ByteArray),t289,(⟨#[125]⟩:ByteArray)]:List ByteArray))).bind fun t293=>(if 1<(y286.length:Int) then (query_Text.j0 k (y286.set (1:Int).toNat t293) a0_0 a0_1 l0_2 l0_3) else (none)))) else (query_Text.j0 k y286 a0_0 a0_1 l0_2 l0_3)))) else (some (⟨#[]⟩:ByteArray)))
theorem query_Text.mono_l:∀ k,(∀ y0 y1 y2 y3 y4,LeO (query_Text.j0 k y0 y1 y2 y3 y4) (query_Text.j0 (k+1) y0 y1 y2 y3 y4))
 | 0=>fun _ _ _ _ _ r h=>by simp [query_Text.j0] at h
 | k+1=>by
  have ih0:=query_Text.mono_l k
  ·intro y0 y1 y2 y3 y4
   unfold query_Text.j0
   repeat' first
   | (with_reducible exact ih0 _ _ _ _ _)
   | (with_reducible exact pick_Text.mono _ _)
   | (with_reducible exact query_Right.mono _ _ _ _ _)
   | (with_reducible exact query_name.mono _ _)
   | (with_reducible exact LeO.refl _)
   | (with_reducible exact LeO.none _)
   | (with_reducible refine LeO.ite ?_ ?_)
   | (with_reducible refine LeO.bind ?_ (fun _=>?_))
   | exact ih0 _ _ _ _ _
   | exact pick_Text.mono _ _
   | exact query_Right.mono _ _ _ _ _
   | exact query_name.mono _ _
   | exact LeO.none _
   | refine LeO.ite ?_ ?_
   | refine LeO.bind ?_ (fun _=>?_)
theorem query_Text.mono:∀ a0 a1 a2 a3 k,LeO (query_Text.f k a0 a1 a2 a3) (query_Text.f (k+1) a0 a1 a2 a3):=by
 intro a0 a1 a2 a3 k
 have ih0:=query_Text.mono_l k
 unfold query_Text.f
 repeat' first
   | (with_reducible exact ih0 _ _ _ _ _)
   | (with_reducible exact pick_Text.mono _ _)
   | (with_reducible exact query_Right.mono _ _ _ _ _)
   | (with_reducible exact query_name.mono _ _)
   | (with_reducible exact LeO.refl _)
   | (with_reducible exact LeO.none _)
   | (with_reducible refine LeO.ite ?_ ?_)
   | (with_reducible refine LeO.bind ?_ (fun _=>?_))
   | exact ih0 _ _ _ _ _
   | exact pick_Text.mono _ _
   | exact query_Right.mono _ _ _ _ _
   | exact query_name.mono _ _
   | exact LeO.none _
   | refine LeO.ite ?_ ?_
   | refine LeO.bind ?_ (fun _=>?_)
def query_Text.T5:Bool×List (List Nat×List Nat):=(true,[([],[]),([],[]),([1],[1]),([],[]),([3],[3]),([4],[4]),([2,5],[2,5]),([6,5],[6]),([0,0,1,2,3,4,5,6,7],[0]),([8,7,7,0,1,2,3,4,5,6,7],[7,8])])
def query_Text.B5:List Nat:=[0,0,2,0,8,24,62,126,255,511]
theorem query_Text.tab5:rtab .any (opsOf Tryz.f16 5)=query_Text.T5:=qK
theorem query_Text.bits5:waitsOk query_Text.T5.2 query_Text.B5=true:=qK
theorem query_Text.calls (k:Nat) (a0_0:Int) (a0_1:ByteArray) (A0_2:Option Addr) (c0_2:Nat) (l0_2:List (S127)) (A0_3:Option Addr) (c0_3:Nat) (l0_3:List ByteArray) (r:ByteArray) (w:World) (hr0_2:Kd.C k127 w A0_2 l0_2.length l0_2) (hc0_2:l0_2.length≤c0_2) (hr0_3:Kd.C Kd.string w A0_3 l0_3.length l0_3) (hc0_3:l0_3.length≤c0_3) (h:query_Text.f k a0_0 a0_1 l0_2 l0_3=some r) :
  Calls Tryz.prog 16 #[.agg #[.int .i64 a0_0, .string a0_1, .slice A0_2 l0_2.length c0_2, .slice A0_3 l0_3.length c0_3]] w fun e w'=>e = .returned (.string r)∧Below w.heap.size w w':=by
 have hu25:=Tryz.underlying25
 have HR0_2:=Aside0.mk hr0_2
 have HC0_2:=Aside0.mk hc0_2
 clear hr0_2 hc0_2
 have HR0_3:=Aside0.mk hr0_3
 have HC0_3:=Aside0.mk hc0_3
 clear hr0_3 hc0_3
 have HB:=Aside0.mk (Below.refl w.heap.size w)
 have H:((query_Right.f k a0_0 a0_1 l0_2 l0_3).bind fun t284=>(if t284=true then ((query_name.f k a0_0).bind fun t285=>((some (([t285,a0_1]:List ByteArray):List ByteArray)).bind fun y286=>(if (l0_2.length:Int)>0 then ((pick_Text.f k l0_2).bind fun t289=>((word_Join.f (⟨#[]⟩:ByteArray) (([a0_1,(⟨#[123]⟩:ByteArray),t289,(⟨#[125]⟩:ByteArray)]:List ByteArray))).bind fun t293=>(if 1<(y286.length:Int) then (query_Text.j0 k (y286.set (1:Int).toNat t293) a0_0 a0_1 l0_2 l0_3) else (none)))) else (query_Text.j0 k y286 a0_0 a0_1 l0_2 l0_3)))) else (some (⟨#[]⟩:ByteArray))))=some r:=h
 clear h
 replace H:=Option.bind_eq_some_iff.mp H
 obtain ⟨t284,A20,H⟩:=H
 replace H:(if t284=true then ((query_name.f k a0_0).bind fun t285=>((some (([t285,a0_1]:List ByteArray):List ByteArray)).bind fun y286=>(if (l0_2.length:Int)>0 then ((pick_Text.f k l0_2).bind fun t289=>((word_Join.f (⟨#[]⟩:ByteArray) (([a0_1,(⟨#[123]⟩:ByteArray),t289,(⟨#[125]⟩:ByteArray)]:List ByteArray))).bind fun t293=>(if 1<(y286.length:Int) then (query_Text.j0 k (y286.set (1:Int).toNat t293) a0_0 a0_1 l0_2 l0_3) else (none)))) else (query_Text.j0 k y286 a0_0 a0_1 l0_2 l0_3)))) else (some (⟨#[]⟩:ByteArray)))=some r:=H
 have A2:=Aside0.mk A20
 clear A20
 by_cases c3:t284=true
 rotate_left
 ·replace c3:=Bool.eq_false_iff.mpr c3
  subst c3
  have H1:(some (⟨#[]⟩:ByteArray))=some r:=by rw [if_neg (show ¬ (false=true) by decide)] at H;exact H
  clear H
  have H:=H1
  clear H1
  obtain rfl:=Option.some.inj H
  go_enter Tryz.func16,Tryz.ntmps16
  go_wp2_with (first|((with_reducible refine gate_dst (N:=1) rfl ?_);refine box_event ?hg (N:=1) ?hd (cs:=#[.int .i64 a0_0, .string a0_1, .slice A0_2 l0_2.length c0_2, .slice A0_3 l0_3.length c0_3]) (t:=25) ?hr ?_;(case hd=>rfl);(case hg=>rfl);(case hr=>first|(go_simp;done)|(go_simp;rfl));intro gb283 hg w42 hbox hb;have BK283:=Aside0.mk hbox;have GW283:Aside0 (w.heap.size≤gb283):=⟨qH⟩;have GE283:=GW283;replace HB:=Aside0.mk (below_step qB hb);clear hb hbox hg;obtain ⟨hcz43_0,hcz43_1,hcz43_2,hcz43_3,hfz43_0,hfz43_1,hfz43_2,hfz43_3⟩:=cf4 BK283.out)|((with_reducible refine gate_callee (f:=14) rfl ?_);refine goesL_ (some 5) rfl rfl Tryz.func14 qK rfl #[.agg #[.int .i64 a0_0, .string a0_1, .slice A0_2 l0_2.length c0_2, .slice A0_3 l0_3.length c0_3]] rfl qG ?_;(with_reducible refine (query_Right.calls k a0_0 a0_1 _ _ l0_2 _ _ l0_3 false _ ?side1 ?side2 ?side3 ?side4 A2.out).mono ?_);(case side1=>repeat (first|exact (Kd.C_below HR0_2.out HB.out)|(with_reducible refine Kd.C_alloc ?_ _)|(with_reducible refine Kd.C_drewN ?_ _)|(with_reducible refine Kd.C_drew ?_)));(case side2=>exact HC0_2.out);(case side3=>repeat (first|exact (Kd.C_below HR0_3.out HB.out)|(with_reducible refine Kd.C_alloc ?_ _)|(with_reducible refine Kd.C_drewN ?_ _)|(with_reducible refine Kd.C_drew ?_)));(case side4=>exact HC0_3.out);rintro e w44 ⟨rfl,hb⟩;refine ⟨_,rfl,?_⟩;replace BK283:=Aside0.mk (blk_below (g:=gb283) (o := .cells #[.int .i64 a0_0, .string a0_1, .slice A0_2 l0_2.length c0_2, .slice A0_3 l0_3.length c0_3] 25 (0,0)) (qW BK283) hb);replace HB:=Aside0.mk (below_step qC hb);clear hb))
  go_ret
  exact ⟨qE,qC⟩
 subst c3
 have H1:((query_name.f k a0_0).bind fun t285=>((some (([t285,a0_1]:List ByteArray):List ByteArray)).bind fun y286=>(if (l0_2.length:Int)>0 then ((pick_Text.f k l0_2).bind fun t289=>((word_Join.f (⟨#[]⟩:ByteArray) (([a0_1,(⟨#[123]⟩:ByteArray),t289,(⟨#[125]⟩:ByteArray)]:List ByteArray))).bind fun t293=>(if 1<(y286.length:Int) then (query_Text.j0 k (y286.set (1:Int).toNat t293) a0_0 a0_1 l0_2 l0_3) else (none)))) else (query_Text.j0 k y286 a0_0 a0_1 l0_2 l0_3))))=some r:=by rw [if_pos rfl] at H;exact H
 clear H
 have H:=H1
 clear H1
 replace H:=Option.bind_eq_some_iff.mp H
 obtain ⟨t285,A40,H⟩:=H
 replace H:((some (([t285,a0_1]:List ByteArray):List ByteArray)).bind fun y286=>(if (l0_2.length:Int)>0 then ((pick_Text.f k l0_2).bind fun t289=>((word_Join.f (⟨#[]⟩:ByteArray) (([a0_1,(⟨#[123]⟩:ByteArray),t289,(⟨#[125]⟩:ByteArray)]:List ByteArray))).bind fun t293=>(if 1<(y286.length:Int) then (query_Text.j0 k (y286.set (1:Int).toNat t293) a0_0 a0_1 l0_2 l0_3) else (none)))) else (query_Text.j0 k y286 a0_0 a0_1 l0_2 l0_3)))=some r:=H
 have A4:=Aside0.mk A40
 clear A40
 obtain ⟨y286,hy286⟩:∃ y_:List ByteArray,y_=(([t285,a0_1]:List ByteArray)):=⟨_,rfl⟩
 replace H:(if (l0_2.length:Int)>0 then ((pick_Text.f k l0_2).bind fun t289=>((word_Join.f (⟨#[]⟩:ByteArray) (([a0_1,(⟨#[123]⟩:ByteArray),t289,(⟨#[125]⟩:ByteArray)]:List ByteArray))).bind fun t293=>(if 1<(y286.length:Int) then (query_Text.j0 k (y286.set (1:Int).toNat t293) a0_0 a0_1 l0_2 l0_3) else (none)))) else (query_Text.j0 k y286 a0_0 a0_1 l0_2 l0_3))=some r:=by first|(rw [hy286];with_reducible exact H)|(have H2_:=(Option.bind_some _ _).symm.trans H;rw [hy286];with_reducible exact H2_)|(have H2_:=(Option.bind_some _ _).symm.trans H;with_reducible exact H2_)|with_reducible exact H|(rw [hy286];exact H)|exact H
 have Ny286:=Aside0.mk hy286
 clear hy286
 have HC5:=Aside0.mk H
 clear H
 go_enter Tryz.func16,Tryz.ntmps16
 try go_wp2_with (first|((with_reducible refine gate_dst (N:=1) rfl ?_);refine box_event ?hg (N:=1) ?hd (cs:=#[.int .i64 a0_0, .string a0_1, .slice A0_2 l0_2.length c0_2, .slice A0_3 l0_3.length c0_3]) (t:=25) ?hr ?_;(case hd=>rfl);(case hg=>rfl);(case hr=>first|(go_simp;done)|(go_simp;rfl));intro gb283 hg w6 hbox hb;have BK283:=Aside0.mk hbox;have GW283:Aside0 (w.heap.size≤gb283):=⟨qH⟩;have GE283:=GW283;replace HB:=Aside0.mk (below_step qB hb);clear hb hbox hg;obtain ⟨hcz7_0,hcz7_1,hcz7_2,hcz7_3,hfz7_0,hfz7_1,hfz7_2,hfz7_3⟩:=cf4 BK283.out)|((with_reducible refine gate_callee (f:=14) rfl ?_);refine goesL_ (some 5) rfl rfl Tryz.func14 qK rfl #[.agg #[.int .i64 a0_0, .string a0_1, .slice A0_2 l0_2.length c0_2, .slice A0_3 l0_3.length c0_3]] rfl qG ?_;(with_reducible refine (query_Right.calls k a0_0 a0_1 _ _ l0_2 _ _ l0_3 true _ ?side1 ?side2 ?side3 ?side4 A2.out).mono ?_);(case side1=>repeat (first|exact (Kd.C_below HR0_2.out HB.out)|(with_reducible refine Kd.C_alloc ?_ _)|(with_reducible refine Kd.C_drewN ?_ _)|(with_reducible refine Kd.C_drew ?_)));(case side2=>exact HC0_2.out);(case side3=>repeat (first|exact (Kd.C_below HR0_3.out HB.out)|(with_reducible refine Kd.C_alloc ?_ _)|(with_reducible refine Kd.C_drewN ?_ _)|(with_reducible refine Kd.C_drew ?_)));(case side4=>exact HC0_3.out);rintro e w8 ⟨rfl,hb⟩;refine ⟨_,rfl,?_⟩;replace BK283:=Aside0.mk (blk_below (g:=gb283) (o := .cells #[.int .i64 a0_0, .string a0_1, .slice A0_2 l0_2.length c0_2, .slice A0_3 l0_3.length c0_3] 25 (0,0)) (qW BK283) hb);replace HB:=Aside0.mk (below_step qC hb);clear hb))
 replace BK283:=Aside0.mk (blk_drew BK283.out)
 replace HB:=Aside0.mk (below_drew1 HB.out)
 refine start_ (n:=7) (S:=fun w'=>w'.cell? ⟨gb283,0,none⟩=some (.int .i64 a0_0)∧w'.cell? ⟨gb283,1,none⟩=some (.string a0_1)∧w'.cell? ⟨gb283,2,none⟩=some (.slice A0_2 l0_2.length c0_2)∧w'.cell? ⟨gb283,3,none⟩=some (.slice A0_3 l0_3.length c0_3)) (ds:=[]) #[false,false,false,false,false,false,false] qK rfl rfl ⟨(blk_cell BK283.out 0).trans rfl,(blk_cell BK283.out 1).trans rfl,(blk_cell BK283.out 2).trans rfl,(blk_cell BK283.out 3).trans rfl⟩ (fun hHeld=>?_)
 generalize w8.drew=w9 at BK283 HB hHeld ⊢
 refine pure_ (i:=0) (N:=some 7) (v:=?_) (a':=?_) #[true,false,false,false,false,false,false] rfl rfl qK (fun _ _ _ h=>h) (Or.inl ⟨by rfl,?_⟩) ?_ ?_
 rotate_left
 ·intro w';go_simp;with_reducible rfl
 rotate_left
 ·simp only [Act.put,List.setIfInBounds_toArray,List.set_cons_zero,List.set_cons_succ,i64_w,i32_w];rfl
 refine pure_ (i:=3) (N:=some 10) (v:=?_) (a':=?_) #[true,false,false,true,false,false,false] rfl rfl qK (fun _ _ _ h=>h) (Or.inl ⟨by rfl,?_⟩) ?_ ?_
 rotate_left
 ·intro w';go_simp;with_reducible rfl
 rotate_left
 ·simp only [Act.put,List.setIfInBounds_toArray,List.set_cons_zero,List.set_cons_succ,i64_w,i32_w];rfl
 refine take_ (i:=1) (N:=some 8) (v:=?_) (a':=?_) #[true,true,false,true,false,false,false] rfl rfl qK (fun _ _ _ h=>h) (Or.inl ⟨by rfl,?_⟩) hHeld ?_ ?_
 rotate_left
 ·rintro w' ⟨s0,s1,s2,s3⟩;go_simp;with_reducible rfl
 rotate_left
 ·simp only [Act.put,List.setIfInBounds_toArray,List.set_cons_zero,List.set_cons_succ,i64_w,i32_w];rfl
 refine take_ (i:=4) (N:=some 11) (v:=?_) (a':=?_) #[true,true,false,true,true,false,false] rfl rfl qK (fun _ _ _ h=>h) (Or.inl ⟨by rfl,?_⟩) hHeld ?_ ?_
 rotate_left
 ·rintro w' ⟨s0,s1,s2,s3⟩;go_simp;with_reducible rfl
 rotate_left
 ·simp only [Act.put,List.setIfInBounds_toArray,List.set_cons_zero,List.set_cons_succ,i64_w,i32_w];rfl
 refine one_ (i:=2) (N:=some 9) #[true,true,true,true,true,false,false] rfl rfl qK (by decide) (fun K hK=>?_)
 refine goes_ Tryz.func50 qK rfl #[.int .i64 a0_0] (by rfl) rfl rfl qG ?_
 with_reducible refine (query_name.calls k a0_0 t285 _ A4.out).mono ?_
 rintro e w10 ⟨rfl,hb⟩
 refine ⟨_,rfl,?_⟩
 replace BK283:=Aside0.mk (blk_below (g:=gb283) (o := .cells #[.int .i64 a0_0, .string a0_1, .slice A0_2 l0_2.length c0_2, .slice A0_3 l0_3.length c0_3] 25 (0,0)) (qW BK283) hb)
 replace HB:=Aside0.mk (below_step qC hb)
 clear hb
 refine hK.out _ _ ⟨(blk_cell BK283.out 0).trans rfl,(blk_cell BK283.out 1).trans rfl,(blk_cell BK283.out 2).trans rfl,(blk_cell BK283.out 3).trans rfl⟩ (fun hHeld=>?_)
 clear hK K
 refine norm_ (a':=?_) ?_ ?_
 rotate_left
 ·show Act.put _ (some 9) _=_
  simp only [Act.put,List.setIfInBounds_toArray,List.set_cons_zero,List.set_cons_succ,i64_w,i32_w]
  rfl
 refine one_ (i:=5) (N:=some 12) #[true,true,true,true,true,true,false] rfl rfl qK (by decide) (fun K hK=>?_)
 refine Kd.R_lit_step Kd.string _ 9 ?hg (N:=12) ?hd (xs:=([t285,a0_1]:List ByteArray)) (inner:=[.string t285, .string a0_1]) (ok:=fun _=>True) (okp:=fun _=>True) ?hr ?hp (fun _ hk=>hk) trivial (Below.refl _ _) (Nat.le_refl _) (by simp) ?_;(case hd=>rfl);(case hg=>rfl);(case hr=>first|(go_simp;done)|(go_simp;rfl));(case hp=>exact (Reps.one (show Kd.M Kd.string _ _ _ t285 [.string t285] from rfl) (Reps.one (show Kd.M Kd.string _ _ _ a0_1 [.string a0_1] from rfl) (Reps.none _ _))))
 intro v287 w11 ho12 hb hg_ hnew_
 clear hg_ hnew_
 (first|rw [← Ny286.out] at ho12|(simp only [Int.reduceToNat] at ho12;rw [← Ny286.out] at ho12))
 have HO288:=Aside0.mk (Kd.R_lower ho12 (below_size qC))
 replace BK283:=Aside0.mk (blk_below (g:=gb283) (o := .cells #[.int .i64 a0_0, .string a0_1, .slice A0_2 l0_2.length c0_2, .slice A0_3 l0_3.length c0_3] 25 (0,0)) (qW BK283) hb)
 replace HB:=Aside0.mk (below_step qC hb)
 clear hb ho12
 refine hK.out _ _ ⟨(blk_cell BK283.out 0).trans rfl,(blk_cell BK283.out 1).trans rfl,(blk_cell BK283.out 2).trans rfl,(blk_cell BK283.out 3).trans rfl⟩ (fun hHeld=>?_)
 clear hK K
 refine norm_ (a':=?_) ?_ ?_
 rotate_left
 ·show Act.put _ (some 12) _=_
  simp only [Act.put,List.setIfInBounds_toArray,List.set_cons_zero,List.set_cons_succ,i64_w,i32_w]
  rfl
 refine pure_ (i:=6) (N:=some 3) (v:=?_) (a':=?_) #[true,true,true,true,true,true,true] rfl rfl qK (fun _ _ _ h=>h) (Or.inl ⟨by rfl,?_⟩) ?_ ?_
 rotate_left
 ·intro w';go_simp;with_reducible rfl
 rotate_left
 ·simp only [Act.put,List.setIfInBounds_toArray,List.set_cons_zero,List.set_cons_succ,i64_w,i32_w];rfl
 refine done_ qK ?_
 obtain ⟨hcz13_0,hcz13_1,hcz13_2,hcz13_3,hfz13_0,hfz13_1,hfz13_2,hfz13_3⟩:=cf4 BK283.out
 go_upto_if 16 with (fail)
 go_cut [] (fun wc=>∃ (kq:Nat) (x3_4:List ByteArray),Aside0 (query_Text.j0 kq x3_4 a0_0 a0_1 l0_2 l0_3=some r)∧Aside0 (kq≤k)∧Aside0 (Kd.R Kd.string 9 wc w.heap.size (fun _=>True) v287 x3_4)∧Aside0 (wc.heap[gb283]?=some (.cells #[.int .i64 a0_0, .string a0_1,(.slice A0_2 l0_2.length c0_2),(.slice A0_3 l0_3.length c0_3)] 25 (0,0)))∧Aside0 (Below w.heap.size w wc))
 case first =>
  have H:=HC5.out
  clear HC5
  by_cases c14:(l0_2.length:Int)>0
  rotate_left
  ·rw [if_neg c14] at H
   have c14b0:decide (0<(l0_2.length:Int))=false:=decide_eq_false c14
   have c14b1:decide (0<l0_2.length)=false:=decide_eq_false (by omega)
   clear c14
   (first|rw [c14b0]|(simp only [i64_w,i32_w];rw [c14b0])|rw [c14b1]|skip)
   have H':=Aside0.mk H
   clear H
   go_wp2
   go_meet
   case rel=>exact ⟨_,(y286),H',⟨by first|omega|exact Nat.le_refl _⟩,⟨qR HO288⟩,⟨qW BK283⟩,⟨qC⟩⟩
  rw [if_pos c14] at H
  have c14b0:decide (0<(l0_2.length:Int))=true:=decide_eq_true c14
  have c14b1:decide (0<l0_2.length)=true:=decide_eq_true (by omega)
  clear c14
  (first|rw [c14b0]|(simp only [i64_w,i32_w];rw [c14b0])|rw [c14b1]|skip)
  replace H:=Option.bind_eq_some_iff.mp H
  obtain ⟨t289,A150,H⟩:=H
  replace H:((word_Join.f (⟨#[]⟩:ByteArray) (([a0_1,(⟨#[123]⟩:ByteArray),t289,(⟨#[125]⟩:ByteArray)]:List ByteArray))).bind fun t293=>(if 1<(y286.length:Int) then (query_Text.j0 k (y286.set (1:Int).toNat t293) a0_0 a0_1 l0_2 l0_3) else (none)))=some r:=H
  have A15:=Aside0.mk A150
  clear A150
  obtain ⟨y290,hy290⟩:∃ y_:List ByteArray,y_=(([a0_1,(⟨#[123]⟩:ByteArray),t289,(⟨#[125]⟩:ByteArray)]:List ByteArray)):=⟨_,rfl⟩
  replace H:((word_Join.f (⟨#[]⟩:ByteArray) y290).bind fun t293=>(if 1<(y286.length:Int) then (query_Text.j0 k (y286.set (1:Int).toNat t293) a0_0 a0_1 l0_2 l0_3) else (none)))=some r:=by first|(rw [hy290];with_reducible exact H)|(have H2_:=(Option.bind_some _ _).symm.trans H;rw [hy290];with_reducible exact H2_)|(have H2_:=(Option.bind_some _ _).symm.trans H;with_reducible exact H2_)|with_reducible exact H|(rw [hy290];exact H)|exact H
  have Ny290:=Aside0.mk hy290
  clear hy290
  replace H:=Option.bind_eq_some_iff.mp H
  obtain ⟨t293,A160,H⟩:=H
  replace H:(if 1<(y286.length:Int) then (query_Text.j0 k (y286.set (1:Int).toNat t293) a0_0 a0_1 l0_2 l0_3) else (none))=some r:=H
  have A16:=Aside0.mk A160
  clear A160
  by_cases c17:1<(y286.length:Int)
  rotate_left
  ·rw [if_neg c17] at H
   exact absurd H (by simp)
  rw [if_pos c17] at H
  have c17b0:decide (1<(y286.length:Int))=true:=decide_eq_true c17
  have c17b1:decide (1<y286.length)=true:=decide_eq_true (by omega)
  clear c17
  obtain ⟨y294,hy294⟩:∃ y_:List ByteArray,y_=(y286.set (1:Int).toNat t293):=⟨_,rfl⟩
  replace H:(query_Text.j0 k y294 a0_0 a0_1 l0_2 l0_3)=some r:=by first|(rw [hy294];with_reducible exact H)|(have H2_:=(Option.bind_some _ _).symm.trans H;rw [hy294];with_reducible exact H2_)|(have H2_:=(Option.bind_some _ _).symm.trans H;with_reducible exact H2_)|with_reducible exact H|(rw [hy294];exact H)|exact H
  have Ny294:=Aside0.mk hy294
  clear hy294
  have H':=Aside0.mk H
  clear H
  try go_wp2
  replace HO288:=Aside0.mk (Kd.R_drew HO288.out)
  replace BK283:=Aside0.mk (blk_drew BK283.out)
  replace HB:=Aside0.mk (below_drew1 HB.out)
  refine start_ (n:=10) (S:=fun w'=>w'.cell? ⟨gb283,0,none⟩=some (.int .i64 a0_0)∧w'.cell? ⟨gb283,1,none⟩=some (.string a0_1)∧w'.cell? ⟨gb283,2,none⟩=some (.slice A0_2 l0_2.length c0_2)∧w'.cell? ⟨gb283,3,none⟩=some (.slice A0_3 l0_3.length c0_3)) (ds:=[9]) #[false,false,false,false,false,false,false,false,false,false] qK rfl rfl ⟨(blk_cell BK283.out 0).trans rfl,(blk_cell BK283.out 1).trans rfl,(blk_cell BK283.out 2).trans rfl,(blk_cell BK283.out 3).trans rfl⟩ (fun hHeld=>?_);refine with_tabW query_Text.tab5 query_Text.bits5 (fun HT_ HW_=>?_)
  generalize w11.drew=w19 at HO288 BK283 HB hHeld ⊢
  refine pure_ (i:=0) (N:=some 17) (v:=?_) (a':=?_) #[true,false,false,false,false,false,false,false,false,false] rfl rfl (any_of HT_.out qK) (fun _ _ _ h=>h) (Or.inl ⟨by rfl,?_⟩) ?_ ?_
  rotate_left
  ·intro w';go_simp;with_reducible rfl
  rotate_left
  ·simp only [Act.put,List.setIfInBounds_toArray,List.set_cons_zero,List.set_cons_succ,i64_w,i32_w];rfl
  refine pure_ (i:=1) (N:=some 18) (v:=?_) (a':=?_) #[true,true,false,false,false,false,false,false,false,false] rfl rfl (any_of HT_.out qK) (fun _ _ _ h=>h) (Or.inl ⟨by rfl,?_⟩) ?_ ?_
  rotate_left
  ·intro w';go_simp;with_reducible rfl
  rotate_left
  ·simp only [Act.put,List.setIfInBounds_toArray,List.set_cons_zero,List.set_cons_succ,i64_w,i32_w];rfl
  refine pure_ (i:=3) (N:=some 20) (v:=?_) (a':=?_) #[true,true,false,true,false,false,false,false,false,false] rfl rfl (any_of HT_.out qK) (fun _ _ _ h=>h) (Or.inl ⟨by rfl,?_⟩) ?_ ?_
  rotate_left
  ·intro w';go_simp;with_reducible rfl
  rotate_left
  ·simp only [Act.put,List.setIfInBounds_toArray,List.set_cons_zero,List.set_cons_succ,i64_w,i32_w];rfl
  refine take_ (i:=2) (N:=some 19) (v:=?_) (a':=?_) #[true,true,true,true,false,false,false,false,false,false] rfl rfl (take_ofW HT_.out HW_.out qK) (fun _ _ _ h=>h) (Or.inl ⟨by rfl,?_⟩) hHeld ?_ ?_
  rotate_left
  ·rintro w' ⟨s0,s1,s2,s3⟩;go_simp;with_reducible rfl
  rotate_left
  ·simp only [Act.put,List.setIfInBounds_toArray,List.set_cons_zero,List.set_cons_succ,i64_w,i32_w];rfl
  refine take_ (i:=4) (N:=some 21) (v:=?_) (a':=?_) #[true,true,true,true,true,false,false,false,false,false] rfl rfl (take_ofW HT_.out HW_.out qK) (fun _ _ _ h=>h) (Or.inl ⟨by rfl,?_⟩) hHeld ?_ ?_
  rotate_left
  ·rintro w' ⟨s0,s1,s2,s3⟩;go_simp;with_reducible rfl
  rotate_left
  ·simp only [Act.put,List.setIfInBounds_toArray,List.set_cons_zero,List.set_cons_succ,i64_w,i32_w];rfl
  refine one_ (i:=5) (N:=some 22) #[true,true,true,true,true,true,false,false,false,false] rfl rfl (one_of HT_.out qK) (by decide) (fun K hK=>?_)
  refine goes_ Tryz.func58 qK rfl #[.slice A0_2 l0_2.length c0_2] (by rfl) rfl rfl qG ?_
  with_reducible refine (pick_Text.calls k _ _ l0_2 t289 _ ?side1 ?side2 A15.out).mono ?_
  (case side1=>repeat (first|exact (Kd.C_below HR0_2.out HB.out)|(with_reducible refine Kd.C_alloc ?_ _)|(with_reducible refine Kd.C_drewN ?_ _)|(with_reducible refine Kd.C_drew ?_)))
  (case side2=>exact HC0_2.out)
  rintro e w20 ⟨rfl,hb⟩
  refine ⟨_,rfl,?_⟩
  replace HO288:=Aside0.mk (Kd.R_below (qR HO288) hb)
  replace BK283:=Aside0.mk (blk_below (g:=gb283) (o := .cells #[.int .i64 a0_0, .string a0_1, .slice A0_2 l0_2.length c0_2, .slice A0_3 l0_3.length c0_3] 25 (0,0)) (qW BK283) hb)
  replace HB:=Aside0.mk (below_step qC hb)
  clear hb
  refine hK.out _ _ ⟨(blk_cell BK283.out 0).trans rfl,(blk_cell BK283.out 1).trans rfl,(blk_cell BK283.out 2).trans rfl,(blk_cell BK283.out 3).trans rfl⟩ (fun hHeld=>?_)
  clear hK K
  refine norm_ (a':=?_) ?_ ?_
  rotate_left
  ·show Act.put _ (some 22) _=_
   simp only [Act.put,List.setIfInBounds_toArray,List.set_cons_zero,List.set_cons_succ,i64_w,i32_w]
   rfl
  refine one_ (i:=6) (N:=some 23) #[true,true,true,true,true,true,true,false,false,false] rfl rfl (one_of HT_.out qK) (by decide) (fun K hK=>?_)
  refine Kd.R_lit_step Kd.string _ 9 ?hg (N:=23) ?hd (xs:=([a0_1,(⟨#[123]⟩:ByteArray),t289,(⟨#[125]⟩:ByteArray)]:List ByteArray)) (inner:=[.string a0_1, .string (⟨#[123]⟩:ByteArray), .string t289, .string (⟨#[125]⟩:ByteArray)]) (ok:=fun _=>True) (okp:=fun _=>True) ?hr ?hp (fun _ hk=>hk) trivial (Below.refl _ _) (Nat.le_refl _) (by simp) ?_;(case hd=>rfl);(case hg=>rfl);(case hr=>first|(go_simp;done)|(go_simp;rfl));(case hp=>exact (Reps.one (show Kd.M Kd.string _ _ _ a0_1 [.string a0_1] from rfl) (Reps.one (show Kd.M Kd.string _ _ _ (⟨#[123]⟩:ByteArray) [.string (⟨#[123]⟩:ByteArray)] from rfl) (Reps.one (show Kd.M Kd.string _ _ _ t289 [.string t289] from rfl) (Reps.one (show Kd.M Kd.string _ _ _ (⟨#[125]⟩:ByteArray) [.string (⟨#[125]⟩:ByteArray)] from rfl) (Reps.none _ _))))))
  intro v291 w21 ho22 hb hg_ hnew_
  clear hg_ hnew_
  (first|rw [← Ny290.out] at ho22|(simp only [Int.reduceToNat] at ho22;rw [← Ny290.out] at ho22))
  have HO292:=Aside0.mk (Kd.R_lower (Kd.R_new' ho22 (Kd.R_lt (qR HO288))) (below_size qC))
  replace HO288:=Aside0.mk (Kd.R_elder' (qR HO288) (Kd.R_base ho22) hb)
  replace BK283:=Aside0.mk (blk_below (g:=gb283) (o := .cells #[.int .i64 a0_0, .string a0_1, .slice A0_2 l0_2.length c0_2, .slice A0_3 l0_3.length c0_3] 25 (0,0)) (qW BK283) hb)
  replace HB:=Aside0.mk (below_step qC hb)
  clear hb ho22
  obtain ⟨Ao23,co23,eo23⟩:=Kd.R_slice HO292.out
  (first|subst eo23|(injection eo23 with f1_ f2_ f3_;have f4_:=f1_.symm;have f5_:=f3_.symm;clear f1_ f2_ f3_;subst f4_;subst f5_))
  refine hK.out _ _ ⟨(blk_cell BK283.out 0).trans rfl,(blk_cell BK283.out 1).trans rfl,(blk_cell BK283.out 2).trans rfl,(blk_cell BK283.out 3).trans rfl⟩ (fun hHeld=>?_)
  clear hK K
  refine norm_ (a':=?_) ?_ ?_
  rotate_left
  ·show Act.put _ (some 23) _=_
   simp only [Act.put,List.setIfInBounds_toArray,List.set_cons_zero,List.set_cons_succ,i64_w,i32_w]
   rfl
  refine one_ (i:=7) (N:=some 24) #[true,true,true,true,true,true,true,true,false,false] rfl rfl (one_of HT_.out qK) (by decide) (fun K hK=>?_)
  refine goes_ Tryz.func57 qK rfl #[.string (⟨#[]⟩:ByteArray), .slice Ao23 y290.length co23] (by rfl) rfl rfl qG ?_
  with_reducible refine (word_Join.calls (⟨#[]⟩:ByteArray) _ _ y290 t293 _ ?side1 ?side2 A16.out).mono ?_
  (case side1=>repeat (first|exact (Kd.R_reads' HO292.out).2.2|(with_reducible refine Kd.C_alloc ?_ _)|(with_reducible refine Kd.C_drewN ?_ _)|(with_reducible refine Kd.C_drew ?_)))
  (case side2=>exact (Kd.R_reads' HO292.out).2.1)
  rintro e w24 ⟨rfl,hb⟩
  refine ⟨_,rfl,?_⟩
  replace HO288:=Aside0.mk (Kd.R_below (qR HO288) hb)
  replace HO292:=Aside0.mk (Kd.R_below (qR HO292) hb)
  replace BK283:=Aside0.mk (blk_below (g:=gb283) (o := .cells #[.int .i64 a0_0, .string a0_1, .slice A0_2 l0_2.length c0_2, .slice A0_3 l0_3.length c0_3] 25 (0,0)) (qW BK283) hb)
  replace HB:=Aside0.mk (below_step qC hb)
  clear hb
  have p18:0≤(1:Int):=(by omega)
  have q18:(1:Int)<((y286.length:Int):Int):=of_decide_eq_true qA
  have qi18:(1<y286.length)=True:=eq_true (by omega)
  obtain ⟨go18,co18,eo18,gb18,gl18,cl18,HG18⟩:=Kd.R_form HO288.out (by omega)
  (first|cases eo18|(injection eo18 with ea_ en_ ec_;(first|subst ea_|(injection ea_ with ea_;subst ea_));subst ec_;clear en_))
  have GB18:=Aside0.mk gb18
  have GG18:=Aside0.mk HG18
  clear gb18 gl18 HG18
  obtain ⟨hx18_0,hf18_0⟩:=Kd.R_celln (⟨#[]⟩:ByteArray) HO288.out (1:Int) p18 q18
  (try rw [show ((1:Int)).toNat=1 from rfl] at hx18_0)
  (try simp only [Nat.reduceMul,Nat.zero_mul,Nat.zero_add,Nat.reduceAdd] at hx18_0)
  (try rw [show ((1:Int)).toNat=1 from rfl] at hf18_0)
  (try simp only [Nat.reduceMul,Nat.zero_mul,Nat.zero_add,Nat.reduceAdd] at hf18_0)
  replace p18:=eq_true p18
  replace q18:=eq_true q18
  have HP25:=Kd.R_putn HO288.out (1:Int) t293
  rw [← Ny294.out] at HP25
  have HQ25:=Aside0.mk HP25
  clear HP25
  refine hK.out _ _ ⟨(blk_cell BK283.out 0).trans rfl,(blk_cell BK283.out 1).trans rfl,(blk_cell BK283.out 2).trans rfl,(blk_cell BK283.out 3).trans rfl⟩ (fun hHeld=>?_)
  clear hK K
  refine norm_ (a':=?_) ?_ ?_
  rotate_left
  ·show Act.put _ (some 24) _=_
   simp only [Act.put,List.setIfInBounds_toArray,List.set_cons_zero,List.set_cons_succ,i64_w,i32_w]
   rfl
  refine pure_ (i:=8) (N:=some 25) (v:=?_) (a':=?_) #[true,true,true,true,true,true,true,true,true,false] rfl rfl (any_of HT_.out qK) (fun _ _ _ h=>h) (Or.inl ⟨by rfl,?_⟩) ?_ ?_
  rotate_left
  ·intro w';go_simp;with_reducible rfl
  rotate_left
  ·simp only [Act.put,List.setIfInBounds_toArray,List.set_cons_zero,List.set_cons_succ,i64_w,i32_w];rfl
  refine last_ (i:=9) (N:=none) #[true,true,true,true,true,true,true,true,true,true] rfl rfl (one_of HT_.out qK) (by decide) (fun K hK=>?_)
  refine skip_ (w1:=?_) (by rfl) rfl ?_ ?_
  rotate_left
  ·go_simp
   rfl
  refine hK.out _ _ ?_
  clear hK K
  refine done_ (done_of HT_.out qK) ?_
  try go_wp2
  go_meet
  case rel=>exact ⟨_,(y294),H',⟨by first|omega|exact Nat.le_refl _⟩,⟨by (with_reducible repeat (first|apply Kd.R_alloc|apply Kd.R_drewN|apply Kd.R_drew));exact Kd.R_mono HQ25.out (fun _ hk=>trivial)⟩,⟨by (with_reducible repeat (first|refine blk_drewN ?_ _|refine blk_drew ?_|refine blk_alloc ?_ _));refine blk_far ?_ (by have h_:=Kd.R_ne HO288.out BK283.out (by decide);intro e_;exact h_ (by rw [e_];rfl)) _;(with_reducible repeat (first|refine blk_drewN ?_ _|refine blk_drew ?_|refine blk_alloc ?_ _));exact BK283.out⟩,⟨by repeat (first|(with_reducible first|exact HB.out|apply below_alloc|apply pw_below_drewN|apply below_drew1|refine below_set ?_ GB18.out|refine below_set ?_ GE283.out)|exact HB.out)⟩⟩
 case rest =>
  clear HC5
  try clear c3;try clear hcz13_0;try clear hcz13_1;try clear hcz13_2;try clear hcz13_3;try clear hcz7_0;try clear hcz7_1;try clear hcz7_2;try clear hcz7_3;try clear hfz13_0;try clear hfz13_1;try clear hfz13_2;try clear hfz13_3;try clear hfz7_0;try clear hfz7_1;try clear hfz7_2;try clear hfz7_3
  obtain ⟨kq,x3_4,HA,HJ4,HO_3,BK283,HB⟩:=hcut
  cases kq with
  | zero=>exact absurd HA.out (by simp [query_Text.j0])
  | succ kj4 =>
   have H:=HA.out
   clear HA
   simp only [query_Text.j0] at H
   by_cases c26:(l0_3.length:Int)>0
   rotate_left
   ·rw [if_neg c26] at H
    have c26b0:decide (0<(l0_3.length:Int))=false:=decide_eq_false c26
    have c26b1:decide (0<l0_3.length)=false:=decide_eq_false (by omega)
    clear c26
    replace H:=Option.bind_eq_some_iff.mp H
    obtain ⟨t303,A380,H⟩:=H
    replace H:(some t303)=some r:=H
    have A38:=Aside0.mk A380
    clear A380
    obtain rfl:=Option.some.inj H
    obtain ⟨hcz39_0,hcz39_1,hcz39_2,hcz39_3,hfz39_0,hfz39_1,hfz39_2,hfz39_3⟩:=cf4 BK283.out
    obtain ⟨Ao40,co40,eo40⟩:=Kd.R_slice HO_3.out
    subst eo40
    go_wp2_with (first|((with_reducible refine gate_callee (f:=57) rfl ?_);refine goesL_ (some 37) rfl rfl Tryz.func57 qK rfl #[.string (⟨#[32]⟩:ByteArray), .slice Ao40 x3_4.length co40] rfl qG ?_;(with_reducible refine (word_Join.calls (⟨#[32]⟩:ByteArray) _ _ x3_4 t303 _ ?side1 ?side2 A38.out).mono ?_);(case side1=>repeat (first|exact (Kd.R_reads' HO_3.out).2.2|(with_reducible refine Kd.C_alloc ?_ _)|(with_reducible refine Kd.C_drewN ?_ _)|(with_reducible refine Kd.C_drew ?_)));(case side2=>exact (Kd.R_reads' HO_3.out).2.1);rintro e w41 ⟨rfl,hb⟩;refine ⟨_,rfl,?_⟩;replace HO_3:=Aside0.mk (Kd.R_below (qR HO_3) hb);replace BK283:=Aside0.mk (blk_below (g:=gb283) (o := .cells #[.int .i64 a0_0, .string a0_1, .slice A0_2 l0_2.length c0_2, .slice A0_3 l0_3.length c0_3] 25 (0,0)) (qW BK283) hb);replace HB:=Aside0.mk (below_step qC hb);clear hb))
    go_ret
    exact ⟨qE,qC⟩
   rw [if_pos c26] at H
   have c26b0:decide (0<(l0_3.length:Int))=true:=decide_eq_true c26
   have c26b1:decide (0<l0_3.length)=true:=decide_eq_true (by omega)
   clear c26
   replace H:=Option.bind_eq_some_iff.mp H
   obtain ⟨t295,A270,H⟩:=H
   replace H:((some (([(⟨#[98,121]⟩:ByteArray),t295]:List ByteArray):List ByteArray)).bind fun y296=>(if x3_4.length+y296.length<8796093022208 then ((word_Join.f (⟨#[32]⟩:ByteArray) (x3_4++y296)).bind fun t302=>(some t302)) else (none)))=some r:=H
   have A27:=Aside0.mk A270
   clear A270
   obtain ⟨y296,hy296⟩:∃ y_:List ByteArray,y_=(([(⟨#[98,121]⟩:ByteArray),t295]:List ByteArray)):=⟨_,rfl⟩
   replace H:(if x3_4.length+y296.length<8796093022208 then ((word_Join.f (⟨#[32]⟩:ByteArray) (x3_4++y296)).bind fun t302=>(some t302)) else (none))=some r:=by first|(rw [hy296];with_reducible exact H)|(have H2_:=(Option.bind_some _ _).symm.trans H;rw [hy296];with_reducible exact H2_)|(have H2_:=(Option.bind_some _ _).symm.trans H;with_reducible exact H2_)|with_reducible exact H|(rw [hy296];exact H)|exact H
   have Ny296:=Aside0.mk hy296
   clear hy296
   by_cases c28:x3_4.length+y296.length<8796093022208
   rotate_left
   ·rw [if_neg c28] at H
    exact absurd H (by simp)
   rw [if_pos c28] at H
   have LMc28:=Aside0.mk c28
   clear c28
   obtain ⟨y299,hy299⟩:∃ y_:List ByteArray,y_=(x3_4++y296):=⟨_,rfl⟩
   replace H:((word_Join.f (⟨#[32]⟩:ByteArray) y299).bind fun t302=>(some t302))=some r:=by first|(rw [hy299];with_reducible exact H)|(have H2_:=(Option.bind_some _ _).symm.trans H;rw [hy299];with_reducible exact H2_)|(have H2_:=(Option.bind_some _ _).symm.trans H;with_reducible exact H2_)|with_reducible exact H|(rw [hy299];exact H)|exact H
   have Ny299:=Aside0.mk hy299
   clear hy299
   replace H:=Option.bind_eq_some_iff.mp H
   obtain ⟨t302,A290,H⟩:=H
   replace H:(some t302)=some r:=H
   have A29:=Aside0.mk A290
   clear A290
   obtain rfl:=Option.some.inj H
   obtain ⟨hcz30_0,hcz30_1,hcz30_2,hcz30_3,hfz30_0,hfz30_1,hfz30_2,hfz30_3⟩:=cf4 BK283.out
   go_wp2_with (first|((with_reducible refine gate_callee (f:=57) rfl ?_);refine goesL_ (some 33) rfl rfl Tryz.func57 qK rfl #[.string (⟨#[44]⟩:ByteArray), .slice A0_3 l0_3.length c0_3] rfl qG ?_;(with_reducible refine (word_Join.calls (⟨#[44]⟩:ByteArray) _ _ l0_3 t295 _ ?side1 ?side2 A27.out).mono ?_);(case side1=>repeat (first|exact (Kd.C_below HR0_3.out HB.out)|(with_reducible refine Kd.C_alloc ?_ _)|(with_reducible refine Kd.C_drewN ?_ _)|(with_reducible refine Kd.C_drew ?_)));(case side2=>exact HC0_3.out);rintro e w31 ⟨rfl,hb⟩;refine ⟨_,rfl,?_⟩;replace HO_3:=Aside0.mk (Kd.R_below (qR HO_3) hb);replace BK283:=Aside0.mk (blk_below (g:=gb283) (o := .cells #[.int .i64 a0_0, .string a0_1, .slice A0_2 l0_2.length c0_2, .slice A0_3 l0_3.length c0_3] 25 (0,0)) (qW BK283) hb);replace HB:=Aside0.mk (below_step qC hb);clear hb)|((with_reducible refine gate_dst (N:=34) rfl ?_);refine Kd.R_lit Kd.string _ 9 ?hg (N:=34) ?hd (xs:=([(⟨#[98,121]⟩:ByteArray),t295]:List ByteArray)) (inner:=[.string (⟨#[98,121]⟩:ByteArray), .string t295]) (ok:=fun _=>True) (okp:=fun _=>True) ?hr ?hp (fun _ hk=>hk) trivial (Below.refl _ _) (Nat.le_refl _) (by simp) ?_;(case hd=>rfl);(case hg=>rfl);(case hr=>first|(go_simp;done)|(go_simp;rfl));(case hp=>exact (Reps.one (show Kd.M Kd.string _ _ _ (⟨#[98,121]⟩:ByteArray) [.string (⟨#[98,121]⟩:ByteArray)] from rfl) (Reps.one (show Kd.M Kd.string _ _ _ t295 [.string t295] from rfl) (Reps.none _ _))));intro v297 w32 ho33 hb hg_ hnew_;clear hg_ hnew_;(first|rw [← Ny296.out] at ho33|(simp only [Int.reduceToNat] at ho33;rw [← Ny296.out] at ho33));have HO298:=Aside0.mk (Kd.R_lower (Kd.R_new' ho33 (Kd.R_lt (qR HO_3))) (below_size qC));replace HO_3:=Aside0.mk (Kd.R_elder' (qR HO_3) (Kd.R_base ho33) hb);replace BK283:=Aside0.mk (blk_below (g:=gb283) (o := .cells #[.int .i64 a0_0, .string a0_1, .slice A0_2 l0_2.length c0_2, .slice A0_3 l0_3.length c0_3] 25 (0,0)) (qW BK283) hb);replace HB:=Aside0.mk (below_step qC hb);clear hb ho33;obtain ⟨Ao35,co35,eo35⟩:=Kd.R_slice HO298.out;subst eo35)|((with_reducible refine gate_builtin (b := .append) (xs:=#[.tmp 30, .tmp 34]) rfl ?_);at_builtin;refine Kd.R_append_rows Kd.string (w0:=w) w.heap.size rfl (.tmp 30) (.tmp 34) 23 9 (.string ⟨#[]⟩) 16 rfl Tryz.underlying23 info9 rfl (by decide) (by omega) v287 x3_4 y296 _ _ _ (fun k_=>some k_≠(.slice Ao35 y296.length co35:Value).ownBlock) (fun _=>False) rfl rfl ?aO ?aR (fun _ _ h=>h) (fun _ h=>h.elim) ?aF ?aB ?aS ?aL ?_;(case aR=>repeat (first|exact (Kd.R_reads' HO298.out).2.2|(with_reducible refine Kd.C_alloc ?_ _)|(with_reducible refine Kd.C_drewN ?_ _)|(with_reducible refine Kd.C_drew ?_)));(case aB=>exact qC);(case aF=>exact (fun k_ hk=>Kd.fresh' (Kd.R_lt (qR HO298)) k_ hk));(case aO=>exact (by (with_reducible repeat (first|apply Kd.R_alloc|apply Kd.R_drewN|apply Kd.R_drew));exact Kd.R_mono HO_3.out (fun _ hk=>hk.2)));(case aS=>exact (below_size qC));(case aL=>have:=LMc28.out;omega);intro v300 w34 ho hb hg hat;rw [← Ny299.out] at ho;replace BK283:=Aside0.mk (blk_grown (g:=gb283) (o := .cells #[.int .i64 a0_0, .string a0_1, .slice A0_2 l0_2.length c0_2, .slice A0_3 l0_3.length c0_3] 25 (0,0)) (qW BK283) hg (Kd.R_ne HO_3.out BK283.out (by decide)));replace HO298:=Aside0.mk (Kd.R_after (ok:=(fun _=>True)) (qR HO298) hg hat);replace HB:=Aside0.mk hb;have HO301:=Aside0.mk ho;clear HO_3;clear ho hb hg hat;obtain ⟨Ao36,co36,eo36⟩:=Kd.R_slice HO301.out;subst eo36)|((with_reducible refine gate_callee (f:=57) rfl ?_);refine goesL_ (some 37) rfl rfl Tryz.func57 qK rfl #[.string (⟨#[32]⟩:ByteArray), .slice Ao36 y299.length co36] rfl qG ?_;(with_reducible refine (word_Join.calls (⟨#[32]⟩:ByteArray) _ _ y299 t302 _ ?side1 ?side2 A29.out).mono ?_);(case side1=>repeat (first|exact (Kd.R_reads' HO301.out).2.2|(with_reducible refine Kd.C_alloc ?_ _)|(with_reducible refine Kd.C_drewN ?_ _)|(with_reducible refine Kd.C_drew ?_)));(case side2=>exact (Kd.R_reads' HO301.out).2.1);rintro e w37 ⟨rfl,hb⟩;refine ⟨_,rfl,?_⟩;replace HO298:=Aside0.mk (Kd.R_below (qR HO298) hb);replace HO301:=Aside0.mk (Kd.R_below (qR HO301) hb);replace BK283:=Aside0.mk (blk_below (g:=gb283) (o := .cells #[.int .i64 a0_0, .string a0_1, .slice A0_2 l0_2.length c0_2, .slice A0_3 l0_3.length c0_3] 25 (0,0)) (qW BK283) hb);replace HB:=Aside0.mk (below_step qC hb);clear hb))
   go_ret
   exact ⟨qE,qC⟩
end Go.Proofs.YteaadaaghhojfaaGreatDoor.PQu
