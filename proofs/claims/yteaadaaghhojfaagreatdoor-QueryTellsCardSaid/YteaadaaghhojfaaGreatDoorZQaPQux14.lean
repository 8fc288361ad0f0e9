import Derived.Test.YteaadaaghhojfaaGreatDoorZQaPQux0
import Derived.Test.YteaadaaghhojfaaGreatDoorZQaPQux1
import Derived.Test.YteaadaaghhojfaaGreatDoorZQaPQux5
import Derived.Test.YteaadaaghhojfaaGreatDoorZQaPQux13
namespace Go.Proofs.YteaadaaghhojfaaGreatDoor.PQu
open Go.RowKit Go.Proofs.YteaadaaghhojfaaGreatDoorW.PrintWords Go.Proofs.YteaadaaghhojfaaGreatDoorW.PrintLast Go.Proofs.YteaadaaghhojfaaGreatDoorW.PrintMore
attribute [local go_sem] max2_int min2_int max_two min_two max_three min_three max_four min_four
set_option linter.unusedVariables false
set_option linter.unusedSimpArgs false
set_option maxHeartbeats 8000000
set_option maxRecDepth 100000
attribute [local go_sem high] eqA127
def ebbtideref07_Text.f (k:Nat) (a0_0:Int) (a0_1:ByteArray) (l0_2:List (S127)) (l0_3:List ByteArray):Option (ByteArray):=(ebbtideref07_Right.f k a0_0 a0_1 l0_2 l0_3).bind fun t430=>(if t430=true then ((ebbtideref07_aggs.f).bind fun t431=>(if 0≤a0_0 then (if a0_0<(t431.length:Int) then (if (rdOf ByteArray.empty t431 a0_0).size+1≤9223372036854775807 then (if (rdOf ByteArray.empty t431 a0_0).size+1+a0_1.size≤9223372036854775807 then (if (l0_2.length:Int)>0 then (if (rdOf ByteArray.empty t431 a0_0).size+1+a0_1.size+1≤9223372036854775807 then ((ebbtideref05_Text.f k l0_2).bind fun t435=>(if (rdOf ByteArray.empty t431 a0_0).size+1+a0_1.size+1+t435.size≤9223372036854775807 then (if (rdOf ByteArray.empty t431 a0_0).size+1+a0_1.size+1+t435.size+1≤9223372036854775807 then (if (l0_3.length:Int)>0 then (if (rdOf ByteArray.empty t431 a0_0).size+1+a0_1.size+1+t435.size+1+4≤9223372036854775807 then ((ebbtideref02_Join.f k (⟨#[44]⟩:ByteArray) l0_3).bind fun t436=>(if (rdOf ByteArray.empty t431 a0_0).size+1+a0_1.size+1+t435.size+1+4+t436.size≤9223372036854775807 then (some ((((((((rdOf ByteArray.empty t431 a0_0)++(⟨#[32]⟩:ByteArray))++a0_1)++(⟨#[123]⟩:ByteArray))++t435)++(⟨#[125]⟩:ByteArray))++(⟨#[32,98,121,32]⟩:ByteArray))++t436)) else (none))) else (none)) else (some ((((((rdOf ByteArray.empty t431 a0_0)++(⟨#[32]⟩:ByteArray))++a0_1)++(⟨#[123]⟩:ByteArray))++t435)++(⟨#[125]⟩:ByteArray)))) else (none)) else (none))) else (none)) else (if (l0_3.length:Int)>0 then (if (rdOf ByteArray.empty t431 a0_0).size+1+a0_1.size+4≤9223372036854775807 then ((ebbtideref02_Join.f k (⟨#[44]⟩:ByteArray) l0_3).bind fun t437=>(if (rdOf ByteArray.empty t431 a0_0).size+1+a0_1.size+4+t437.size≤9223372036854775807 then (some (((((rdOf ByteArray.empty t431 a0_0)++(⟨#[32]⟩:ByteArray))++a0_1)++(⟨#[32,98,121,32]⟩:ByteArray))++t437)) else (none))) else (none)) else (some (((rdOf ByteArray.empty t431 a0_0)++(⟨#[32]⟩:ByteArray))++a0_1)))) else (none)) else (none)) else (none)) else (none))) else (some (⟨#[]⟩:ByteArray)))
theorem ebbtideref07_Text.mono:∀ a0 a1 a2 a3 k,LeO (ebbtideref07_Text.f k a0 a1 a2 a3) (ebbtideref07_Text.f (k+1) a0 a1 a2 a3):=by
 intro a0 a1 a2 a3 k
 unfold ebbtideref07_Text.f
 repeat' first
   | (with_reducible exact ebbtideref02_Join.mono _ _ _)
   | (with_reducible exact ebbtideref05_Text.mono _ _)
   | (with_reducible exact ebbtideref07_Right.mono _ _ _ _ _)
   | (with_reducible exact LeO.refl _)
   | (with_reducible exact LeO.none _)
   | (with_reducible refine LeO.ite ?_ ?_)
   | (with_reducible refine LeO.bind ?_ (fun _=>?_))
   | exact ebbtideref02_Join.mono _ _ _
   | exact ebbtideref05_Text.mono _ _
   | exact ebbtideref07_Right.mono _ _ _ _ _
   | exact LeO.none _
   | refine LeO.ite ?_ ?_
   | refine LeO.bind ?_ (fun _=>?_)
def ebbtideref07_Text.T3:Bool×List (List Nat×List Nat):=(true,[([],[]),([],[]),([1],[1]),([0,2],[0,2]),([3],[3]),([4],[4]),([],[]),([6],[6]),([5,7],[5,7]),([8,0,0,1,2,3,4,5,6,7,8],[8])])
def ebbtideref07_Text.B3:List Nat:=[0,0,2,7,15,31,0,64,255,511]
theorem ebbtideref07_Text.tab3:rtab .any (opsOf Tryz.f17 3)=ebbtideref07_Text.T3:=qK
theorem ebbtideref07_Text.bits3:waitsOk ebbtideref07_Text.T3.2 ebbtideref07_Text.B3=true:=qK
theorem ebbtideref07_Text.calls (k:Nat) (a0_0:Int) (a0_1:ByteArray) (A0_2:Option Addr) (c0_2:Nat) (l0_2:List (S127)) (A0_3:Option Addr) (c0_3:Nat) (l0_3:List ByteArray) (r:ByteArray) (w:World) (hr0_2:Kd.C k127 w A0_2 l0_2.length l0_2) (hc0_2:l0_2.length≤c0_2) (hr0_3:Kd.C Kd.string w A0_3 l0_3.length l0_3) (hc0_3:l0_3.length≤c0_3) (h:ebbtideref07_Text.f k a0_0 a0_1 l0_2 l0_3=some r) :
  Calls Tryz.prog 17 #[.agg #[.int .i64 a0_0, .string a0_1, .slice A0_2 l0_2.length c0_2, .slice A0_3 l0_3.length c0_3]] w fun e w'=>e = .returned (.string r)∧Below w.heap.size w w':=by
 have hu25:=Tryz.underlying25
 have HR0_2:=Aside0.mk hr0_2
 have HC0_2:=Aside0.mk hc0_2
 clear hr0_2 hc0_2
 have HR0_3:=Aside0.mk hr0_3
 have HC0_3:=Aside0.mk hc0_3
 clear hr0_3 hc0_3
 have HB:=Aside0.mk (Below.refl w.heap.size w)
 have H:((ebbtideref07_Right.f k a0_0 a0_1 l0_2 l0_3).bind fun t430=>(if t430=true then ((ebbtideref07_aggs.f).bind fun t431=>(if 0≤a0_0 then (if a0_0<(t431.length:Int) then (if (rdOf ByteArray.empty t431 a0_0).size+1≤9223372036854775807 then (if (rdOf ByteArray.empty t431 a0_0).size+1+a0_1.size≤9223372036854775807 then (if (l0_2.length:Int)>0 then (if (rdOf ByteArray.empty t431 a0_0).size+1+a0_1.size+1≤9223372036854775807 then ((ebbtideref05_Text.f k l0_2).bind fun t435=>(if (rdOf ByteArray.empty t431 a0_0).size+1+a0_1.size+1+t435.size≤9223372036854775807 then (if (rdOf ByteArray.empty t431 a0_0).size+1+a0_1.size+1+t435.size+1≤9223372036854775807 then (if (l0_3.length:Int)>0 then (if (rdOf ByteArray.empty t431 a0_0).size+1+a0_1.size+1+t435.size+1+4≤9223372036854775807 then ((ebbtideref02_Join.f k (⟨#[44]⟩:ByteArray) l0_3).bind fun t436=>(if (rdOf ByteArray.empty t431 a0_0).size+1+a0_1.size+1+t435.size+1+4+t436.size≤9223372036854775807 then (some ((((((((rdOf ByteArray.empty t431 a0_0)++(⟨#[32]⟩:ByteArray))++a0_1)++(⟨#[123]⟩:ByteArray))++t435)++(⟨#[125]⟩:ByteArray))++(⟨#[32,98,121,32]⟩:ByteArray))++t436)) else (none))) else (none)) else (some ((((((rdOf ByteArray.empty t431 a0_0)++(⟨#[32]⟩:ByteArray))++a0_1)++(⟨#[123]⟩:ByteArray))++t435)++(⟨#[125]⟩:ByteArray)))) else (none)) else (none))) else (none)) else (if (l0_3.length:Int)>0 then (if (rdOf ByteArray.empty t431 a0_0).size+1+a0_1.size+4≤9223372036854775807 then ((ebbtideref02_Join.f k (⟨#[44]⟩:ByteArray) l0_3).bind fun t437=>(if (rdOf ByteArray.empty t431 a0_0).size+1+a0_1.size+4+t437.size≤9223372036854775807 then (some (((((rdOf ByteArray.empty t431 a0_0)++(⟨#[32]⟩:ByteArray))++a0_1)++(⟨#[32,98,121,32]⟩:ByteArray))++t437)) else (none))) else (none)) else (some (((rdOf ByteArray.empty t431 a0_0)++(⟨#[32]⟩:ByteArray))++a0_1)))) else (none)) else (none)) else (none)) else (none))) else (some (⟨#[]⟩:ByteArray))))=some r:=h
 clear h
 replace H:=Option.bind_eq_some_iff.mp H
 obtain ⟨t430,A20,H⟩:=H
 replace H:(if t430=true then ((ebbtideref07_aggs.f).bind fun t431=>(if 0≤a0_0 then (if a0_0<(t431.length:Int) then (if (rdOf ByteArray.empty t431 a0_0).size+1≤9223372036854775807 then (if (rdOf ByteArray.empty t431 a0_0).size+1+a0_1.size≤9223372036854775807 then (if (l0_2.length:Int)>0 then (if (rdOf ByteArray.empty t431 a0_0).size+1+a0_1.size+1≤9223372036854775807 then ((ebbtideref05_Text.f k l0_2).bind fun t435=>(if (rdOf ByteArray.empty t431 a0_0).size+1+a0_1.size+1+t435.size≤9223372036854775807 then (if (rdOf ByteArray.empty t431 a0_0).size+1+a0_1.size+1+t435.size+1≤9223372036854775807 then (if (l0_3.length:Int)>0 then (if (rdOf ByteArray.empty t431 a0_0).size+1+a0_1.size+1+t435.size+1+4≤9223372036854775807 then ((ebbtideref02_Join.f k (⟨#[44]⟩:ByteArray) l0_3).bind fun t436=>(if (rdOf ByteArray.empty t431 a0_0).size+1+a0_1.size+1+t435.size+1+4+t436.size≤9223372036854775807 then (some ((((((((rdOf ByteArray.empty t431 a0_0)++(⟨#[32]⟩:ByteArray))++a0_1)++(⟨#[123]⟩:ByteArray))++t435)++(⟨#[125]⟩:ByteArray))++(⟨#[32,98,121,32]⟩:ByteArray))++t436)) else (none))) else (none)) else (some ((((((rdOf ByteArray.empty t431 a0_0)++(⟨#[32]⟩:ByteArray))++a0_1)++(⟨#[123]⟩:ByteArray))++t435)++(⟨#[125]⟩:ByteArray)))) else (none)) else (none))) else (none)) else (if (l0_3.length:Int)>0 then (if (rdOf ByteArray.empty t431 a0_0).size+1+a0_1.size+4≤9223372036854775807 then ((ebbtideref02_Join.f k (⟨#[44]⟩:ByteArray) l0_3).bind fun t437=>(if (rdOf ByteArray.empty t431 a0_0).size+1+a0_1.size+4+t437.size≤9223372036854775807 then (some (((((rdOf ByteArray.empty t431 a0_0)++(⟨#[32]⟩:ByteArray))++a0_1)++(⟨#[32,98,121,32]⟩:ByteArray))++t437)) else (none))) else (none)) else (some (((rdOf ByteArray.empty t431 a0_0)++(⟨#[32]⟩:ByteArray))++a0_1)))) else (none)) else (none)) else (none)) else (none))) else (some (⟨#[]⟩:ByteArray)))=some r:=H
 have A2:=Aside0.mk A20
 clear A20
 by_cases c3:t430=true
 rotate_left
 ·replace c3:=Bool.eq_false_iff.mpr c3
  subst c3
  have H1:(some (⟨#[]⟩:ByteArray))=some r:=by rw [if_neg (show ¬ (false=true) by decide)] at H;exact H
  clear H
  have H:=H1
  clear H1
  obtain rfl:=Option.some.inj H
  go_enter Tryz.func17,Tryz.ntmps17
  go_wp2_with (first|((with_reducible refine gate_dst (N:=1) rfl ?_);refine box_event ?hg (N:=1) ?hd (cs:=#[.int .i64 a0_0, .string a0_1, .slice A0_2 l0_2.length c0_2, .slice A0_3 l0_3.length c0_3]) (t:=25) ?hr ?_;(case hd=>rfl);(case hg=>rfl);(case hr=>first|(go_simp;done)|(go_simp;rfl));intro gb429 hg w54 hbox hb;have BK429:=Aside0.mk hbox;have GW429:Aside0 (w.heap.size≤gb429):=⟨qH⟩;have GE429:=GW429;replace HB:=Aside0.mk (below_step qB hb);clear hb hbox hg;obtain ⟨hcz55_0,hcz55_1,hcz55_2,hcz55_3,hfz55_0,hfz55_1,hfz55_2,hfz55_3⟩:=cf4 BK429.out)|((with_reducible refine gate_callee (f:=15) rfl ?_);refine goesL_ (some 5) rfl rfl Tryz.func15 qK rfl #[.agg #[.int .i64 a0_0, .string a0_1, .slice A0_2 l0_2.length c0_2, .slice A0_3 l0_3.length c0_3]] rfl qG ?_;(with_reducible refine (ebbtideref07_Right.calls k a0_0 a0_1 _ _ l0_2 _ _ l0_3 false _ ?side1 ?side2 ?side3 ?side4 A2.out).mono ?_);(case side1=>repeat (first|exact (Kd.C_below HR0_2.out HB.out)|(with_reducible refine Kd.C_alloc ?_ _)|(with_reducible refine Kd.C_drewN ?_ _)|(with_reducible refine Kd.C_drew ?_)));(case side2=>exact HC0_2.out);(case side3=>repeat (first|exact (Kd.C_below HR0_3.out HB.out)|(with_reducible refine Kd.C_alloc ?_ _)|(with_reducible refine Kd.C_drewN ?_ _)|(with_reducible refine Kd.C_drew ?_)));(case side4=>exact HC0_3.out);rintro e w56 ⟨rfl,hb⟩;refine ⟨_,rfl,?_⟩;replace BK429:=Aside0.mk (blk_below (g:=gb429) (o := .cells #[.int .i64 a0_0, .string a0_1, .slice A0_2 l0_2.length c0_2, .slice A0_3 l0_3.length c0_3] 25 (0,0)) (qW BK429) hb);replace HB:=Aside0.mk (below_step qC hb);clear hb))
  go_ret
  exact ⟨qE,qC⟩
 subst c3
 have H1:((ebbtideref07_aggs.f).bind fun t431=>(if 0≤a0_0 then (if a0_0<(t431.length:Int) then (if (rdOf ByteArray.empty t431 a0_0).size+1≤9223372036854775807 then (if (rdOf ByteArray.empty t431 a0_0).size+1+a0_1.size≤9223372036854775807 then (if (l0_2.length:Int)>0 then (if (rdOf ByteArray.empty t431 a0_0).size+1+a0_1.size+1≤9223372036854775807 then ((ebbtideref05_Text.f k l0_2).bind fun t435=>(if (rdOf ByteArray.empty t431 a0_0).size+1+a0_1.size+1+t435.size≤9223372036854775807 then (if (rdOf ByteArray.empty t431 a0_0).size+1+a0_1.size+1+t435.size+1≤9223372036854775807 then (if (l0_3.length:Int)>0 then (if (rdOf ByteArray.empty t431 a0_0).size+1+a0_1.size+1+t435.size+1+4≤9223372036854775807 then ((ebbtideref02_Join.f k (⟨#[44]⟩:ByteArray) l0_3).bind fun t436=>(if (rdOf ByteArray.empty t431 a0_0).size+1+a0_1.size+1+t435.size+1+4+t436.size≤9223372036854775807 then (some ((((((((rdOf ByteArray.empty t431 a0_0)++(⟨#[32]⟩:ByteArray))++a0_1)++(⟨#[123]⟩:ByteArray))++t435)++(⟨#[125]⟩:ByteArray))++(⟨#[32,98,121,32]⟩:ByteArray))++t436)) else (none))) else (none)) else (some ((((((rdOf ByteArray.empty t431 a0_0)++(⟨#[32]⟩:ByteArray))++a0_1)++(⟨#[123]⟩:ByteArray))++t435)++(⟨#[125]⟩:ByteArray)))) else (none)) else (none))) else (none)) else (if (l0_3.length:Int)>0 then (if (rdOf ByteArray.empty t431 a0_0).size+1+a0_1.size+4≤9223372036854775807 then ((ebbtideref02_Join.f k (⟨#[44]⟩:ByteArray) l0_3).bind fun t437=>(if (rdOf ByteArray.empty t431 a0_0).size+1+a0_1.size+4+t437.size≤9223372036854775807 then (some (((((rdOf ByteArray.empty t431 a0_0)++(⟨#[32]⟩:ByteArray))++a0_1)++(⟨#[32,98,121,32]⟩:ByteArray))++t437)) else (none))) else (none)) else (some (((rdOf ByteArray.empty t431 a0_0)++(⟨#[32]⟩:ByteArray))++a0_1)))) else (none)) else (none)) else (none)) else (none)))=some r:=by rw [if_pos rfl] at H;exact H
 clear H
 have H:=H1
 clear H1
 replace H:=Option.bind_eq_some_iff.mp H
 obtain ⟨t431,A40,H⟩:=H
 replace H:(if 0≤a0_0 then (if a0_0<(t431.length:Int) then (if (rdOf ByteArray.empty t431 a0_0).size+1≤9223372036854775807 then (if (rdOf ByteArray.empty t431 a0_0).size+1+a0_1.size≤9223372036854775807 then (if (l0_2.length:Int)>0 then (if (rdOf ByteArray.empty t431 a0_0).size+1+a0_1.size+1≤9223372036854775807 then ((ebbtideref05_Text.f k l0_2).bind fun t435=>(if (rdOf ByteArray.empty t431 a0_0).size+1+a0_1.size+1+t435.size≤9223372036854775807 then (if (rdOf ByteArray.empty t431 a0_0).size+1+a0_1.size+1+t435.size+1≤9223372036854775807 then (if (l0_3.length:Int)>0 then (if (rdOf ByteArray.empty t431 a0_0).size+1+a0_1.size+1+t435.size+1+4≤9223372036854775807 then ((ebbtideref02_Join.f k (⟨#[44]⟩:ByteArray) l0_3).bind fun t436=>(if (rdOf ByteArray.empty t431 a0_0).size+1+a0_1.size+1+t435.size+1+4+t436.size≤9223372036854775807 then (some ((((((((rdOf ByteArray.empty t431 a0_0)++(⟨#[32]⟩:ByteArray))++a0_1)++(⟨#[123]⟩:ByteArray))++t435)++(⟨#[125]⟩:ByteArray))++(⟨#[32,98,121,32]⟩:ByteArray))++t436)) else (none))) else (none)) else (some ((((((rdOf ByteArray.empty t431 a0_0)++(⟨#[32]⟩:ByteArray))++a0_1)++(⟨#[123]⟩:ByteArray))++t435)++(⟨#[125]⟩:ByteArray)))) else (none)) else (none))) else (none)) else (if (l0_3.length:Int)>0 then (if (rdOf ByteArray.empty t431 a0_0).size+1+a0_1.size+4≤9223372036854775807 then ((ebbtideref02_Join.f k (⟨#[44]⟩:ByteArray) l0_3).bind fun t437=>(if (rdOf ByteArray.empty t431 a0_0).size+1+a0_1.size+4+t437.size≤9223372036854775807 then (some (((((rdOf ByteArray.empty t431 a0_0)++(⟨#[32]⟩:ByteArray))++a0_1)++(⟨#[32,98,121,32]⟩:ByteArray))++t437)) else (none))) else (none)) else (some (((rdOf ByteArray.empty t431 a0_0)++(⟨#[32]⟩:ByteArray))++a0_1)))) else (none)) else (none)) else (none)) else (none))=some r:=H
 have A4:=Aside0.mk A40
 clear A40
 by_cases c5:0≤a0_0
 rotate_left
 ·rw [if_neg c5] at H
  exact absurd H (by simp)
 rw [if_pos c5] at H
 have c5b0:decide (0≤a0_0)=true:=decide_eq_true c5
 clear c5
 by_cases c6:a0_0<(t431.length:Int)
 rotate_left
 ·rw [if_neg c6] at H
  exact absurd H (by simp)
 rw [if_pos c6] at H
 have c6b0:decide (a0_0<(t431.length:Int))=true:=decide_eq_true c6
 clear c6
 by_cases c7:(rdOf ByteArray.empty t431 a0_0).size+1≤9223372036854775807
 rotate_left
 ·rw [if_neg c7] at H
  exact absurd H (by simp)
 rw [if_pos c7] at H
 have c7b0:=eq_true c7
 have c7b1:decide ((rdOf ByteArray.empty t431 a0_0).size+1≤9223372036854775807)=true:=decide_eq_true c7
 try have c7b2:(9223372036854775807<(rdOf ByteArray.empty t431 a0_0).size+1)=False:=eq_false (Nat.not_lt.2 c7)
 by_cases c8:(rdOf ByteArray.empty t431 a0_0).size+1+a0_1.size≤9223372036854775807
 rotate_left
 ·rw [if_neg c8] at H
  exact absurd H (by simp)
 rw [if_pos c8] at H
 have c8b0:=eq_true c8
 have c8b1:decide ((rdOf ByteArray.empty t431 a0_0).size+1+a0_1.size≤9223372036854775807)=true:=decide_eq_true c8
 try have c8b2:(9223372036854775807<(rdOf ByteArray.empty t431 a0_0).size+1+a0_1.size)=False:=eq_false (Nat.not_lt.2 c8)
 by_cases c9:(l0_2.length:Int)>0
 rotate_left
 ·rw [if_neg c9] at H
  have c9b0:decide (0<(l0_2.length:Int))=false:=decide_eq_false c9
  have c9b1:decide (0<l0_2.length)=false:=decide_eq_false (by omega)
  clear c9
  by_cases c36:(l0_3.length:Int)>0
  rotate_left
  ·rw [if_neg c36] at H
   have c36b0:decide (0<(l0_3.length:Int))=false:=decide_eq_false c36
   have c36b1:decide (0<l0_3.length)=false:=decide_eq_false (by omega)
   clear c36
   obtain rfl:=Option.some.inj H
   go_enter Tryz.func17,Tryz.ntmps17
   try go_wp2_with (first|((with_reducible refine gate_dst (N:=1) rfl ?_);refine box_event ?hg (N:=1) ?hd (cs:=#[.int .i64 a0_0, .string a0_1, .slice A0_2 l0_2.length c0_2, .slice A0_3 l0_3.length c0_3]) (t:=25) ?hr ?_;(case hd=>rfl);(case hg=>rfl);(case hr=>first|(go_simp;done)|(go_simp;rfl));intro gb429 hg w47 hbox hb;have BK429:=Aside0.mk hbox;have GW429:Aside0 (w.heap.size≤gb429):=⟨qH⟩;have GE429:=GW429;replace HB:=Aside0.mk (below_step qB hb);clear hb hbox hg;obtain ⟨hcz48_0,hcz48_1,hcz48_2,hcz48_3,hfz48_0,hfz48_1,hfz48_2,hfz48_3⟩:=cf4 BK429.out)|((with_reducible refine gate_callee (f:=15) rfl ?_);refine goesL_ (some 5) rfl rfl Tryz.func15 qK rfl #[.agg #[.int .i64 a0_0, .string a0_1, .slice A0_2 l0_2.length c0_2, .slice A0_3 l0_3.length c0_3]] rfl qG ?_;(with_reducible refine (ebbtideref07_Right.calls k a0_0 a0_1 _ _ l0_2 _ _ l0_3 true _ ?side1 ?side2 ?side3 ?side4 A2.out).mono ?_);(case side1=>repeat (first|exact (Kd.C_below HR0_2.out HB.out)|(with_reducible refine Kd.C_alloc ?_ _)|(with_reducible refine Kd.C_drewN ?_ _)|(with_reducible refine Kd.C_drew ?_)));(case side2=>exact HC0_2.out);(case side3=>repeat (first|exact (Kd.C_below HR0_3.out HB.out)|(with_reducible refine Kd.C_alloc ?_ _)|(with_reducible refine Kd.C_drewN ?_ _)|(with_reducible refine Kd.C_drew ?_)));(case side4=>exact HC0_3.out);rintro e w49 ⟨rfl,hb⟩;refine ⟨_,rfl,?_⟩;replace BK429:=Aside0.mk (blk_below (g:=gb429) (o := .cells #[.int .i64 a0_0, .string a0_1, .slice A0_2 l0_2.length c0_2, .slice A0_3 l0_3.length c0_3] 25 (0,0)) (qW BK429) hb);replace HB:=Aside0.mk (below_step qC hb);clear hb))
   replace BK429:=Aside0.mk (blk_drew BK429.out)
   replace HB:=Aside0.mk (below_drew1 HB.out)
   refine start_ (n:=10) (S:=fun w'=>w'.cell? ⟨gb429,0,none⟩=some (.int .i64 a0_0)∧w'.cell? ⟨gb429,1,none⟩=some (.string a0_1)∧w'.cell? ⟨gb429,2,none⟩=some (.slice A0_2 l0_2.length c0_2)∧w'.cell? ⟨gb429,3,none⟩=some (.slice A0_3 l0_3.length c0_3)) (ds:=[]) #[false,false,false,false,false,false,false,false,false,false] qK rfl rfl ⟨(blk_cell BK429.out 0).trans rfl,(blk_cell BK429.out 1).trans rfl,(blk_cell BK429.out 2).trans rfl,(blk_cell BK429.out 3).trans rfl⟩ (fun hHeld=>?_);refine with_tabW ebbtideref07_Text.tab3 ebbtideref07_Text.bits3 (fun HT_ HW_=>?_)
   generalize w49.drew=w50 at BK429 HB hHeld ⊢
   refine pure_ (i:=1) (N:=some 8) (v:=?_) (a':=?_) #[false,true,false,false,false,false,false,false,false,false] rfl rfl (any_of HT_.out qK) (fun _ _ _ h=>h) (Or.inl ⟨by rfl,?_⟩) ?_ ?_
   rotate_left
   ·intro w';go_simp;with_reducible rfl
   rotate_left
   ·simp only [Act.put,List.setIfInBounds_toArray,List.set_cons_zero,List.set_cons_succ,i64_w,i32_w];rfl
   refine pure_ (i:=6) (N:=some 13) (v:=?_) (a':=?_) #[false,true,false,false,false,false,true,false,false,false] rfl rfl (any_of HT_.out qK) (fun _ _ _ h=>h) (Or.inl ⟨by rfl,?_⟩) ?_ ?_
   rotate_left
   ·intro w';go_simp;with_reducible rfl
   rotate_left
   ·simp only [Act.put,List.setIfInBounds_toArray,List.set_cons_zero,List.set_cons_succ,i64_w,i32_w];rfl
   refine take_ (i:=2) (N:=some 9) (v:=?_) (a':=?_) #[false,true,true,false,false,false,true,false,false,false] rfl rfl (take_ofW HT_.out HW_.out qK) (fun _ _ _ h=>h) (Or.inl ⟨by rfl,?_⟩) hHeld ?_ ?_
   rotate_left
   ·rintro w' ⟨s0,s1,s2,s3⟩;go_simp;with_reducible rfl
   rotate_left
   ·simp only [Act.put,List.setIfInBounds_toArray,List.set_cons_zero,List.set_cons_succ,i64_w,i32_w];rfl
   refine take_ (i:=7) (N:=some 14) (v:=?_) (a':=?_) #[false,true,true,false,false,false,true,true,false,false] rfl rfl (take_ofW HT_.out HW_.out qK) (fun _ _ _ h=>h) (Or.inl ⟨by rfl,?_⟩) hHeld ?_ ?_
   rotate_left
   ·rintro w' ⟨s0,s1,s2,s3⟩;go_simp;with_reducible rfl
   rotate_left
   ·simp only [Act.put,List.setIfInBounds_toArray,List.set_cons_zero,List.set_cons_succ,i64_w,i32_w];rfl
   refine one_ (i:=0) (N:=some 7) #[true,true,true,false,false,false,true,true,false,false] rfl rfl (one_of HT_.out qK) (by decide) (fun K hK=>?_)
   refine goes_ Tryz.func59 qK rfl #[] (by rfl) rfl rfl qG ?_
   with_reducible refine (ebbtideref07_aggs.calls  t431 _ A4.out).mono ?_
   rintro e w51 ⟨v432,rfl,ho0,hb⟩
   refine ⟨_,rfl,?_⟩
   have HO433:=Aside0.mk (Kd.R_lower ho0 (below_size qC))
   replace BK429:=Aside0.mk (blk_below (g:=gb429) (o := .cells #[.int .i64 a0_0, .string a0_1, .slice A0_2 l0_2.length c0_2, .slice A0_3 l0_3.length c0_3] 25 (0,0)) (qW BK429) hb)
   replace HB:=Aside0.mk (below_step qC hb)
   clear hb ho0
   obtain ⟨Ao52,co52,eo52⟩:=Kd.R_slice HO433.out
   (first|subst eo52|(injection eo52 with f1_ f2_ f3_;have f4_:=f1_.symm;have f5_:=f3_.symm;clear f1_ f2_ f3_;subst f4_;subst f5_))
   have p434:0≤(a0_0:Int):=of_decide_eq_true qA
   have q434:a0_0<(t431.length:Int):=of_decide_eq_true qA
   obtain ⟨ad434,e434,hx434_0⟩:=Kd.at_string (Kd.R_reads' HO433.out).2.2 a0_0 p434 q434
   cases e434
   replace p434:=eq_true p434
   replace q434:=eq_true q434
   refine hK.out _ _ ⟨(blk_cell BK429.out 0).trans rfl,(blk_cell BK429.out 1).trans rfl,(blk_cell BK429.out 2).trans rfl,(blk_cell BK429.out 3).trans rfl⟩ (fun hHeld=>?_)
   clear hK K
   refine norm_ (a':=?_) ?_ ?_
   rotate_left
   ·show Act.put _ (some 7) _=_
    simp only [Act.put,List.setIfInBounds_toArray,List.set_cons_zero,List.set_cons_succ,i64_w,i32_w]
    rfl
   refine pure_ (i:=3) (N:=some 10) (v:=?_) (a':=?_) #[true,true,true,true,false,false,true,true,false,false] rfl rfl (any_of HT_.out qK) (fun _ _ _ h=>h) (Or.inl ⟨by rfl,?_⟩) ?_ ?_
   rotate_left
   ·intro w';go_simp;with_reducible rfl
   rotate_left
   ·simp only [Act.put,List.setIfInBounds_toArray,List.set_cons_zero,List.set_cons_succ,i64_w,i32_w];rfl
   refine one_ (i:=4) (N:=some 11) #[true,true,true,true,true,false,true,true,false,false] rfl rfl (one_of HT_.out qK) (by decide) (fun K hK=>?_)
   refine value_ (v := .string (rdOf ByteArray.empty t431 a0_0)) (w1:=w51) (by rfl) rfl (by first|(go_simp;done)|(go_simp;rfl)) ?_
   refine hK.out _ _ hHeld (fun hHeld=>?_)
   clear hK K
   refine norm_ (a':=?_) ?_ ?_
   rotate_left
   ·show Act.put _ (some 11) _=_
    simp only [Act.put,List.setIfInBounds_toArray,List.set_cons_zero,List.set_cons_succ,i64_w,i32_w]
    rfl
   refine pure_ (i:=5) (N:=some 12) (v:=?_) (a':=?_) #[true,true,true,true,true,true,true,true,false,false] rfl rfl (any_of HT_.out qK) (fun _ _ _ h=>h) (Or.inl ⟨by rfl,?_⟩) ?_ ?_
   rotate_left
   ·intro w';go_simp;with_reducible rfl
   rotate_left
   ·simp only [Act.put,List.setIfInBounds_toArray,List.set_cons_zero,List.set_cons_succ,i64_w,i32_w];rfl
   refine pure_ (i:=8) (N:=some 15) (v:=?_) (a':=?_) #[true,true,true,true,true,true,true,true,true,false] rfl rfl (any_of HT_.out qK) (fun _ _ _ h=>h) (Or.inl ⟨by rfl,?_⟩) ?_ ?_
   rotate_left
   ·intro w';go_simp;with_reducible rfl
   rotate_left
   ·simp only [Act.put,List.setIfInBounds_toArray,List.set_cons_zero,List.set_cons_succ,i64_w,i32_w];rfl
   refine pure_ (i:=9) (N:=some 3) (v:=?_) (a':=?_) #[true,true,true,true,true,true,true,true,true,true] rfl rfl (any_of HT_.out qK) (fun _ _ _ h=>h) (Or.inl ⟨by rfl,?_⟩) ?_ ?_
   rotate_left
   ·intro w';go_simp;with_reducible rfl
   rotate_left
   ·simp only [Act.put,List.setIfInBounds_toArray,List.set_cons_zero,List.set_cons_succ,i64_w,i32_w];rfl
   refine done_ (done_of HT_.out qK) ?_
   obtain ⟨hcz53_0,hcz53_1,hcz53_2,hcz53_3,hfz53_0,hfz53_1,hfz53_2,hfz53_3⟩:=cf4 BK429.out
   try go_wp2
   go_ret
   exact ⟨qE,qC⟩
  rw [if_pos c36] at H
  have c36b0:decide (0<(l0_3.length:Int))=true:=decide_eq_true c36
  have c36b1:decide (0<l0_3.length)=true:=decide_eq_true (by omega)
  clear c36
  by_cases c37:(rdOf ByteArray.empty t431 a0_0).size+1+a0_1.size+4≤9223372036854775807
  rotate_left
  ·rw [if_neg c37] at H
   exact absurd H (by simp)
  rw [if_pos c37] at H
  have c37b0:=eq_true c37
  have c37b1:decide ((rdOf ByteArray.empty t431 a0_0).size+1+a0_1.size+4≤9223372036854775807)=true:=decide_eq_true c37
  try have c37b2:(9223372036854775807<(rdOf ByteArray.empty t431 a0_0).size+1+a0_1.size+4)=False:=eq_false (Nat.not_lt.2 c37)
  replace H:=Option.bind_eq_some_iff.mp H
  obtain ⟨t437,A380,H⟩:=H
  replace H:(if (rdOf ByteArray.empty t431 a0_0).size+1+a0_1.size+4+t437.size≤9223372036854775807 then (some (((((rdOf ByteArray.empty t431 a0_0)++(⟨#[32]⟩:ByteArray))++a0_1)++(⟨#[32,98,121,32]⟩:ByteArray))++t437)) else (none))=some r:=H
  have A38:=Aside0.mk A380
  clear A380
  by_cases c39:(rdOf ByteArray.empty t431 a0_0).size+1+a0_1.size+4+t437.size≤9223372036854775807
  rotate_left
  ·rw [if_neg c39] at H
   exact absurd H (by simp)
  rw [if_pos c39] at H
  have c39b0:=eq_true c39
  have c39b1:decide ((rdOf ByteArray.empty t431 a0_0).size+1+a0_1.size+4+t437.size≤9223372036854775807)=true:=decide_eq_true c39
  try have c39b2:(9223372036854775807<(rdOf ByteArray.empty t431 a0_0).size+1+a0_1.size+4+t437.size)=False:=eq_false (Nat.not_lt.2 c39)
  obtain rfl:=Option.some.inj H
  go_enter Tryz.func17,Tryz.ntmps17
  try go_wp2_with (first|((with_reducible refine gate_dst (N:=1) rfl ?_);refine box_event ?hg (N:=1) ?hd (cs:=#[.int .i64 a0_0, .string a0_1, .slice A0_2 l0_2.length c0_2, .slice A0_3 l0_3.length c0_3]) (t:=25) ?hr ?_;(case hd=>rfl);(case hg=>rfl);(case hr=>first|(go_simp;done)|(go_simp;rfl));intro gb429 hg w40 hbox hb;have BK429:=Aside0.mk hbox;have GW429:Aside0 (w.heap.size≤gb429):=⟨qH⟩;have GE429:=GW429;replace HB:=Aside0.mk (below_step qB hb);clear hb hbox hg;obtain ⟨hcz41_0,hcz41_1,hcz41_2,hcz41_3,hfz41_0,hfz41_1,hfz41_2,hfz41_3⟩:=cf4 BK429.out)|((with_reducible refine gate_callee (f:=15) rfl ?_);refine goesL_ (some 5) rfl rfl Tryz.func15 qK rfl #[.agg #[.int .i64 a0_0, .string a0_1, .slice A0_2 l0_2.length c0_2, .slice A0_3 l0_3.length c0_3]] rfl qG ?_;(with_reducible refine (ebbtideref07_Right.calls k a0_0 a0_1 _ _ l0_2 _ _ l0_3 true _ ?side1 ?side2 ?side3 ?side4 A2.out).mono ?_);(case side1=>repeat (first|exact (Kd.C_below HR0_2.out HB.out)|(with_reducible refine Kd.C_alloc ?_ _)|(with_reducible refine Kd.C_drewN ?_ _)|(with_reducible refine Kd.C_drew ?_)));(case side2=>exact HC0_2.out);(case side3=>repeat (first|exact (Kd.C_below HR0_3.out HB.out)|(with_reducible refine Kd.C_alloc ?_ _)|(with_reducible refine Kd.C_drewN ?_ _)|(with_reducible refine Kd.C_drew ?_)));(case side4=>exact HC0_3.out);rintro e w42 ⟨rfl,hb⟩;refine ⟨_,rfl,?_⟩;replace BK429:=Aside0.mk (blk_below (g:=gb429) (o := .cells #[.int .i64 a0_0, .string a0_1, .slice A0_2 l0_2.length c0_2, .slice A0_3 l0_3.length c0_3] 25 (0,0)) (qW BK429) hb);replace HB:=Aside0.mk (below_step qC hb);clear hb))
  replace BK429:=Aside0.mk (blk_drew BK429.out)
  replace HB:=Aside0.mk (below_drew1 HB.out)
  refine start_ (n:=10) (S:=fun w'=>w'.cell? ⟨gb429,0,none⟩=some (.int .i64 a0_0)∧w'.cell? ⟨gb429,1,none⟩=some (.string a0_1)∧w'.cell? ⟨gb429,2,none⟩=some (.slice A0_2 l0_2.length c0_2)∧w'.cell? ⟨gb429,3,none⟩=some (.slice A0_3 l0_3.length c0_3)) (ds:=[]) #[false,false,false,false,false,false,false,false,false,false] qK rfl rfl ⟨(blk_cell BK429.out 0).trans rfl,(blk_cell BK429.out 1).trans rfl,(blk_cell BK429.out 2).trans rfl,(blk_cell BK429.out 3).trans rfl⟩ (fun hHeld=>?_);refine with_tabW ebbtideref07_Text.tab3 ebbtideref07_Text.bits3 (fun HT_ HW_=>?_)
  generalize w42.drew=w43 at BK429 HB hHeld ⊢
  refine pure_ (i:=1) (N:=some 8) (v:=?_) (a':=?_) #[false,true,false,false,false,false,false,false,false,false] rfl rfl (any_of HT_.out qK) (fun _ _ _ h=>h) (Or.inl ⟨by rfl,?_⟩) ?_ ?_
  rotate_left
  ·intro w';go_simp;with_reducible rfl
  rotate_left
  ·simp only [Act.put,List.setIfInBounds_toArray,List.set_cons_zero,List.set_cons_succ,i64_w,i32_w];rfl
  refine pure_ (i:=6) (N:=some 13) (v:=?_) (a':=?_) #[false,true,false,false,false,false,true,false,false,false] rfl rfl (any_of HT_.out qK) (fun _ _ _ h=>h) (Or.inl ⟨by rfl,?_⟩) ?_ ?_
  rotate_left
  ·intro w';go_simp;with_reducible rfl
  rotate_left
  ·simp only [Act.put,List.setIfInBounds_toArray,List.set_cons_zero,List.set_cons_succ,i64_w,i32_w];rfl
  refine take_ (i:=2) (N:=some 9) (v:=?_) (a':=?_) #[false,true,true,false,false,false,true,false,false,false] rfl rfl (take_ofW HT_.out HW_.out qK) (fun _ _ _ h=>h) (Or.inl ⟨by rfl,?_⟩) hHeld ?_ ?_
  rotate_left
  ·rintro w' ⟨s0,s1,s2,s3⟩;go_simp;with_reducible rfl
  rotate_left
  ·simp only [Act.put,List.setIfInBounds_toArray,List.set_cons_zero,List.set_cons_succ,i64_w,i32_w];rfl
  refine take_ (i:=7) (N:=some 14) (v:=?_) (a':=?_) #[false,true,true,false,false,false,true,true,false,false] rfl rfl (take_ofW HT_.out HW_.out qK) (fun _ _ _ h=>h) (Or.inl ⟨by rfl,?_⟩) hHeld ?_ ?_
  rotate_left
  ·rintro w' ⟨s0,s1,s2,s3⟩;go_simp;with_reducible rfl
  rotate_left
  ·simp only [Act.put,List.setIfInBounds_toArray,List.set_cons_zero,List.set_cons_succ,i64_w,i32_w];rfl
  refine one_ (i:=0) (N:=some 7) #[true,true,true,false,false,false,true,true,false,false] rfl rfl (one_of HT_.out qK) (by decide) (fun K hK=>?_)
  refine goes_ Tryz.func59 qK rfl #[] (by rfl) rfl rfl qG ?_
  with_reducible refine (ebbtideref07_aggs.calls  t431 _ A4.out).mono ?_
  rintro e w44 ⟨v432,rfl,ho0,hb⟩
  refine ⟨_,rfl,?_⟩
  have HO433:=Aside0.mk (Kd.R_lower ho0 (below_size qC))
  replace BK429:=Aside0.mk (blk_below (g:=gb429) (o := .cells #[.int .i64 a0_0, .string a0_1, .slice A0_2 l0_2.length c0_2, .slice A0_3 l0_3.length c0_3] 25 (0,0)) (qW BK429) hb)
  replace HB:=Aside0.mk (below_step qC hb)
  clear hb ho0
  obtain ⟨Ao45,co45,eo45⟩:=Kd.R_slice HO433.out
  (first|subst eo45|(injection eo45 with f1_ f2_ f3_;have f4_:=f1_.symm;have f5_:=f3_.symm;clear f1_ f2_ f3_;subst f4_;subst f5_))
  have p434:0≤(a0_0:Int):=of_decide_eq_true qA
  have q434:a0_0<(t431.length:Int):=of_decide_eq_true qA
  obtain ⟨ad434,e434,hx434_0⟩:=Kd.at_string (Kd.R_reads' HO433.out).2.2 a0_0 p434 q434
  cases e434
  replace p434:=eq_true p434
  replace q434:=eq_true q434
  refine hK.out _ _ ⟨(blk_cell BK429.out 0).trans rfl,(blk_cell BK429.out 1).trans rfl,(blk_cell BK429.out 2).trans rfl,(blk_cell BK429.out 3).trans rfl⟩ (fun hHeld=>?_)
  clear hK K
  refine norm_ (a':=?_) ?_ ?_
  rotate_left
  ·show Act.put _ (some 7) _=_
   simp only [Act.put,List.setIfInBounds_toArray,List.set_cons_zero,List.set_cons_succ,i64_w,i32_w]
   rfl
  refine pure_ (i:=3) (N:=some 10) (v:=?_) (a':=?_) #[true,true,true,true,false,false,true,true,false,false] rfl rfl (any_of HT_.out qK) (fun _ _ _ h=>h) (Or.inl ⟨by rfl,?_⟩) ?_ ?_
  rotate_left
  ·intro w';go_simp;with_reducible rfl
  rotate_left
  ·simp only [Act.put,List.setIfInBounds_toArray,List.set_cons_zero,List.set_cons_succ,i64_w,i32_w];rfl
  refine one_ (i:=4) (N:=some 11) #[true,true,true,true,true,false,true,true,false,false] rfl rfl (one_of HT_.out qK) (by decide) (fun K hK=>?_)
  refine value_ (v := .string (rdOf ByteArray.empty t431 a0_0)) (w1:=w44) (by rfl) rfl (by first|(go_simp;done)|(go_simp;rfl)) ?_
  refine hK.out _ _ hHeld (fun hHeld=>?_)
  clear hK K
  refine norm_ (a':=?_) ?_ ?_
  rotate_left
  ·show Act.put _ (some 11) _=_
   simp only [Act.put,List.setIfInBounds_toArray,List.set_cons_zero,List.set_cons_succ,i64_w,i32_w]
   rfl
  refine pure_ (i:=5) (N:=some 12) (v:=?_) (a':=?_) #[true,true,true,true,true,true,true,true,false,false] rfl rfl (any_of HT_.out qK) (fun _ _ _ h=>h) (Or.inl ⟨by rfl,?_⟩) ?_ ?_
  rotate_left
  ·intro w';go_simp;with_reducible rfl
  rotate_left
  ·simp only [Act.put,List.setIfInBounds_toArray,List.set_cons_zero,List.set_cons_succ,i64_w,i32_w];rfl
  refine pure_ (i:=8) (N:=some 15) (v:=?_) (a':=?_) #[true,true,true,true,true,true,true,true,true,false] rfl rfl (any_of HT_.out qK) (fun _ _ _ h=>h) (Or.inl ⟨by rfl,?_⟩) ?_ ?_
  rotate_left
  ·intro w';go_simp;with_reducible rfl
  rotate_left
  ·simp only [Act.put,List.setIfInBounds_toArray,List.set_cons_zero,List.set_cons_succ,i64_w,i32_w];rfl
  refine pure_ (i:=9) (N:=some 3) (v:=?_) (a':=?_) #[true,true,true,true,true,true,true,true,true,true] rfl rfl (any_of HT_.out qK) (fun _ _ _ h=>h) (Or.inl ⟨by rfl,?_⟩) ?_ ?_
  rotate_left
  ·intro w';go_simp;with_reducible rfl
  rotate_left
  ·simp only [Act.put,List.setIfInBounds_toArray,List.set_cons_zero,List.set_cons_succ,i64_w,i32_w];rfl
  refine done_ (done_of HT_.out qK) ?_
  obtain ⟨hcz46_0,hcz46_1,hcz46_2,hcz46_3,hfz46_0,hfz46_1,hfz46_2,hfz46_3⟩:=cf4 BK429.out
  try go_wp2_with (first|((with_reducible refine gate_callee (f:=61) rfl ?_);refine goesL_ (some 35) rfl rfl Tryz.func61 qK rfl #[.string (⟨#[44]⟩:ByteArray), .slice A0_3 l0_3.length c0_3] rfl qG ?_;(with_reducible refine (ebbtideref02_Join.calls k (⟨#[44]⟩:ByteArray) _ _ l0_3 t437 _ ?side1 ?side2 A38.out).mono ?_);(case side1=>repeat (first|exact (Kd.C_below HR0_3.out HB.out)|(with_reducible refine Kd.C_alloc ?_ _)|(with_reducible refine Kd.C_drewN ?_ _)|(with_reducible refine Kd.C_drew ?_)));(case side2=>exact HC0_3.out);rintro e w' ⟨rfl,⟨nd,rfl⟩⟩;refine ⟨_,rfl,?_⟩))
  go_ret
  exact ⟨qE,qC⟩
 rw [if_pos c9] at H
 have c9b0:decide (0<(l0_2.length:Int))=true:=decide_eq_true c9
 have c9b1:decide (0<l0_2.length)=true:=decide_eq_true (by omega)
 clear c9
 by_cases c10:(rdOf ByteArray.empty t431 a0_0).size+1+a0_1.size+1≤9223372036854775807
 rotate_left
 ·rw [if_neg c10] at H
  exact absurd H (by simp)
 rw [if_pos c10] at H
 have c10b0:=eq_true c10
 have c10b1:decide ((rdOf ByteArray.empty t431 a0_0).size+1+a0_1.size+1≤9223372036854775807)=true:=decide_eq_true c10
 try have c10b2:(9223372036854775807<(rdOf ByteArray.empty t431 a0_0).size+1+a0_1.size+1)=False:=eq_false (Nat.not_lt.2 c10)
 replace H:=Option.bind_eq_some_iff.mp H
 obtain ⟨t435,A110,H⟩:=H
 replace H:(if (rdOf ByteArray.empty t431 a0_0).size+1+a0_1.size+1+t435.size≤9223372036854775807 then (if (rdOf ByteArray.empty t431 a0_0).size+1+a0_1.size+1+t435.size+1≤9223372036854775807 then (if (l0_3.length:Int)>0 then (if (rdOf ByteArray.empty t431 a0_0).size+1+a0_1.size+1+t435.size+1+4≤9223372036854775807 then ((ebbtideref02_Join.f k (⟨#[44]⟩:ByteArray) l0_3).bind fun t436=>(if (rdOf ByteArray.empty t431 a0_0).size+1+a0_1.size+1+t435.size+1+4+t436.size≤9223372036854775807 then (some ((((((((rdOf ByteArray.empty t431 a0_0)++(⟨#[32]⟩:ByteArray))++a0_1)++(⟨#[123]⟩:ByteArray))++t435)++(⟨#[125]⟩:ByteArray))++(⟨#[32,98,121,32]⟩:ByteArray))++t436)) else (none))) else (none)) else (some ((((((rdOf ByteArray.empty t431 a0_0)++(⟨#[32]⟩:ByteArray))++a0_1)++(⟨#[123]⟩:ByteArray))++t435)++(⟨#[125]⟩:ByteArray)))) else (none)) else (none))=some r:=H
 have A11:=Aside0.mk A110
 clear A110
 by_cases c12:(rdOf ByteArray.empty t431 a0_0).size+1+a0_1.size+1+t435.size≤9223372036854775807
 rotate_left
 ·rw [if_neg c12] at H
  exact absurd H (by simp)
 rw [if_pos c12] at H
 have c12b0:=eq_true c12
 have c12b1:decide ((rdOf ByteArray.empty t431 a0_0).size+1+a0_1.size+1+t435.size≤9223372036854775807)=true:=decide_eq_true c12
 try have c12b2:(9223372036854775807<(rdOf ByteArray.empty t431 a0_0).size+1+a0_1.size+1+t435.size)=False:=eq_false (Nat.not_lt.2 c12)
 by_cases c13:(rdOf ByteArray.empty t431 a0_0).size+1+a0_1.size+1+t435.size+1≤9223372036854775807
 rotate_left
 ·rw [if_neg c13] at H
  exact absurd H (by simp)
 rw [if_pos c13] at H
 have c13b0:=eq_true c13
 have c13b1:decide ((rdOf ByteArray.empty t431 a0_0).size+1+a0_1.size+1+t435.size+1≤9223372036854775807)=true:=decide_eq_true c13
 try have c13b2:(9223372036854775807<(rdOf ByteArray.empty t431 a0_0).size+1+a0_1.size+1+t435.size+1)=False:=eq_false (Nat.not_lt.2 c13)
 by_cases c14:(l0_3.length:Int)>0
 rotate_left
 ·rw [if_neg c14] at H
  have c14b0:decide (0<(l0_3.length:Int))=false:=decide_eq_false c14
  have c14b1:decide (0<l0_3.length)=false:=decide_eq_false (by omega)
  clear c14
  obtain rfl:=Option.some.inj H
  go_enter Tryz.func17,Tryz.ntmps17
  try go_wp2_with (first|((with_reducible refine gate_dst (N:=1) rfl ?_);refine box_event ?hg (N:=1) ?hd (cs:=#[.int .i64 a0_0, .string a0_1, .slice A0_2 l0_2.length c0_2, .slice A0_3 l0_3.length c0_3]) (t:=25) ?hr ?_;(case hd=>rfl);(case hg=>rfl);(case hr=>first|(go_simp;done)|(go_simp;rfl));intro gb429 hg w27 hbox hb;have BK429:=Aside0.mk hbox;have GW429:Aside0 (w.heap.size≤gb429):=⟨qH⟩;have GE429:=GW429;replace HB:=Aside0.mk (below_step qB hb);clear hb hbox hg;obtain ⟨hcz28_0,hcz28_1,hcz28_2,hcz28_3,hfz28_0,hfz28_1,hfz28_2,hfz28_3⟩:=cf4 BK429.out)|((with_reducible refine gate_callee (f:=15) rfl ?_);refine goesL_ (some 5) rfl rfl Tryz.func15 qK rfl #[.agg #[.int .i64 a0_0, .string a0_1, .slice A0_2 l0_2.length c0_2, .slice A0_3 l0_3.length c0_3]] rfl qG ?_;(with_reducible refine (ebbtideref07_Right.calls k a0_0 a0_1 _ _ l0_2 _ _ l0_3 true _ ?side1 ?side2 ?side3 ?side4 A2.out).mono ?_);(case side1=>repeat (first|exact (Kd.C_below HR0_2.out HB.out)|(with_reducible refine Kd.C_alloc ?_ _)|(with_reducible refine Kd.C_drewN ?_ _)|(with_reducible refine Kd.C_drew ?_)));(case side2=>exact HC0_2.out);(case side3=>repeat (first|exact (Kd.C_below HR0_3.out HB.out)|(with_reducible refine Kd.C_alloc ?_ _)|(with_reducible refine Kd.C_drewN ?_ _)|(with_reducible refine Kd.C_drew ?_)));(case side4=>exact HC0_3.out);rintro e w29 ⟨rfl,hb⟩;refine ⟨_,rfl,?_⟩;replace BK429:=Aside0.mk (blk_below (g:=gb429) (o := .cells #[.int .i64 a0_0, .string a0_1, .slice A0_2 l0_2.length c0_2, .slice A0_3 l0_3.length c0_3] 25 (0,0)) (qW BK429) hb);replace HB:=Aside0.mk (below_step qC hb);clear hb))
  replace BK429:=Aside0.mk (blk_drew BK429.out)
  replace HB:=Aside0.mk (below_drew1 HB.out)
  refine start_ (n:=10) (S:=fun w'=>w'.cell? ⟨gb429,0,none⟩=some (.int .i64 a0_0)∧w'.cell? ⟨gb429,1,none⟩=some (.string a0_1)∧w'.cell? ⟨gb429,2,none⟩=some (.slice A0_2 l0_2.length c0_2)∧w'.cell? ⟨gb429,3,none⟩=some (.slice A0_3 l0_3.length c0_3)) (ds:=[]) #[false,false,false,false,false,false,false,false,false,false] qK rfl rfl ⟨(blk_cell BK429.out 0).trans rfl,(blk_cell BK429.out 1).trans rfl,(blk_cell BK429.out 2).trans rfl,(blk_cell BK429.out 3).trans rfl⟩ (fun hHeld=>?_);refine with_tabW ebbtideref07_Text.tab3 ebbtideref07_Text.bits3 (fun HT_ HW_=>?_)
  generalize w29.drew=w30 at BK429 HB hHeld ⊢
  refine pure_ (i:=1) (N:=some 8) (v:=?_) (a':=?_) #[false,true,false,false,false,false,false,false,false,false] rfl rfl (any_of HT_.out qK) (fun _ _ _ h=>h) (Or.inl ⟨by rfl,?_⟩) ?_ ?_
  rotate_left
  ·intro w';go_simp;with_reducible rfl
  rotate_left
  ·simp only [Act.put,List.setIfInBounds_toArray,List.set_cons_zero,List.set_cons_succ,i64_w,i32_w];rfl
  refine pure_ (i:=6) (N:=some 13) (v:=?_) (a':=?_) #[false,true,false,false,false,false,true,false,false,false] rfl rfl (any_of HT_.out qK) (fun _ _ _ h=>h) (Or.inl ⟨by rfl,?_⟩) ?_ ?_
  rotate_left
  ·intro w';go_simp;with_reducible rfl
  rotate_left
  ·simp only [Act.put,List.setIfInBounds_toArray,List.set_cons_zero,List.set_cons_succ,i64_w,i32_w];rfl
  refine take_ (i:=2) (N:=some 9) (v:=?_) (a':=?_) #[false,true,true,false,false,false,true,false,false,false] rfl rfl (take_ofW HT_.out HW_.out qK) (fun _ _ _ h=>h) (Or.inl ⟨by rfl,?_⟩) hHeld ?_ ?_
  rotate_left
  ·rintro w' ⟨s0,s1,s2,s3⟩;go_simp;with_reducible rfl
  rotate_left
  ·simp only [Act.put,List.setIfInBounds_toArray,List.set_cons_zero,List.set_cons_succ,i64_w,i32_w];rfl
  refine take_ (i:=7) (N:=some 14) (v:=?_) (a':=?_) #[false,true,true,false,false,false,true,true,false,false] rfl rfl (take_ofW HT_.out HW_.out qK) (fun _ _ _ h=>h) (Or.inl ⟨by rfl,?_⟩) hHeld ?_ ?_
  rotate_left
  ·rintro w' ⟨s0,s1,s2,s3⟩;go_simp;with_reducible rfl
  rotate_left
  ·simp only [Act.put,List.setIfInBounds_toArray,List.set_cons_zero,List.set_cons_succ,i64_w,i32_w];rfl
  refine one_ (i:=0) (N:=some 7) #[true,true,true,false,false,false,true,true,false,false] rfl rfl (one_of HT_.out qK) (by decide) (fun K hK=>?_)
  refine goes_ Tryz.func59 qK rfl #[] (by rfl) rfl rfl qG ?_
  with_reducible refine (ebbtideref07_aggs.calls  t431 _ A4.out).mono ?_
  rintro e w31 ⟨v432,rfl,ho0,hb⟩
  refine ⟨_,rfl,?_⟩
  have HO433:=Aside0.mk (Kd.R_lower ho0 (below_size qC))
  replace BK429:=Aside0.mk (blk_below (g:=gb429) (o := .cells #[.int .i64 a0_0, .string a0_1, .slice A0_2 l0_2.length c0_2, .slice A0_3 l0_3.length c0_3] 25 (0,0)) (qW BK429) hb)
  replace HB:=Aside0.mk (below_step qC hb)
  clear hb ho0
  obtain ⟨Ao32,co32,eo32⟩:=Kd.R_slice HO433.out
  (first|subst eo32|(injection eo32 with f1_ f2_ f3_;have f4_:=f1_.symm;have f5_:=f3_.symm;clear f1_ f2_ f3_;subst f4_;subst f5_))
  have p434:0≤(a0_0:Int):=of_decide_eq_true qA
  have q434:a0_0<(t431.length:Int):=of_decide_eq_true qA
  obtain ⟨ad434,e434,hx434_0⟩:=Kd.at_string (Kd.R_reads' HO433.out).2.2 a0_0 p434 q434
  cases e434
  replace p434:=eq_true p434
  replace q434:=eq_true q434
  refine hK.out _ _ ⟨(blk_cell BK429.out 0).trans rfl,(blk_cell BK429.out 1).trans rfl,(blk_cell BK429.out 2).trans rfl,(blk_cell BK429.out 3).trans rfl⟩ (fun hHeld=>?_)
  clear hK K
  refine norm_ (a':=?_) ?_ ?_
  rotate_left
  ·show Act.put _ (some 7) _=_
   simp only [Act.put,List.setIfInBounds_toArray,List.set_cons_zero,List.set_cons_succ,i64_w,i32_w]
   rfl
  refine pure_ (i:=3) (N:=some 10) (v:=?_) (a':=?_) #[true,true,true,true,false,false,true,true,false,false] rfl rfl (any_of HT_.out qK) (fun _ _ _ h=>h) (Or.inl ⟨by rfl,?_⟩) ?_ ?_
  rotate_left
  ·intro w';go_simp;with_reducible rfl
  rotate_left
  ·simp only [Act.put,List.setIfInBounds_toArray,List.set_cons_zero,List.set_cons_succ,i64_w,i32_w];rfl
  refine one_ (i:=4) (N:=some 11) #[true,true,true,true,true,false,true,true,false,false] rfl rfl (one_of HT_.out qK) (by decide) (fun K hK=>?_)
  refine value_ (v := .string (rdOf ByteArray.empty t431 a0_0)) (w1:=w31) (by rfl) rfl (by first|(go_simp;done)|(go_simp;rfl)) ?_
  refine hK.out _ _ hHeld (fun hHeld=>?_)
  clear hK K
  refine norm_ (a':=?_) ?_ ?_
  rotate_left
  ·show Act.put _ (some 11) _=_
   simp only [Act.put,List.setIfInBounds_toArray,List.set_cons_zero,List.set_cons_succ,i64_w,i32_w]
   rfl
  refine pure_ (i:=5) (N:=some 12) (v:=?_) (a':=?_) #[true,true,true,true,true,true,true,true,false,false] rfl rfl (any_of HT_.out qK) (fun _ _ _ h=>h) (Or.inl ⟨by rfl,?_⟩) ?_ ?_
  rotate_left
  ·intro w';go_simp;with_reducible rfl
  rotate_left
  ·simp only [Act.put,List.setIfInBounds_toArray,List.set_cons_zero,List.set_cons_succ,i64_w,i32_w];rfl
  refine pure_ (i:=8) (N:=some 15) (v:=?_) (a':=?_) #[true,true,true,true,true,true,true,true,true,false] rfl rfl (any_of HT_.out qK) (fun _ _ _ h=>h) (Or.inl ⟨by rfl,?_⟩) ?_ ?_
  rotate_left
  ·intro w';go_simp;with_reducible rfl
  rotate_left
  ·simp only [Act.put,List.setIfInBounds_toArray,List.set_cons_zero,List.set_cons_succ,i64_w,i32_w];rfl
  refine pure_ (i:=9) (N:=some 3) (v:=?_) (a':=?_) #[true,true,true,true,true,true,true,true,true,true] rfl rfl (any_of HT_.out qK) (fun _ _ _ h=>h) (Or.inl ⟨by rfl,?_⟩) ?_ ?_
  rotate_left
  ·intro w';go_simp;with_reducible rfl
  rotate_left
  ·simp only [Act.put,List.setIfInBounds_toArray,List.set_cons_zero,List.set_cons_succ,i64_w,i32_w];rfl
  refine done_ (done_of HT_.out qK) ?_
  obtain ⟨hcz33_0,hcz33_1,hcz33_2,hcz33_3,hfz33_0,hfz33_1,hfz33_2,hfz33_3⟩:=cf4 BK429.out
  try go_wp2_with (first|((with_reducible refine gate_callee (f:=60) rfl ?_);refine goesL_ (some 24) rfl rfl Tryz.func60 qK rfl #[.slice A0_2 l0_2.length c0_2] rfl qG ?_;(with_reducible refine (ebbtideref05_Text.calls k _ _ l0_2 t435 _ ?side1 ?side2 A11.out).mono ?_);(case side1=>repeat (first|exact (Kd.C_below HR0_2.out HB.out)|(with_reducible refine Kd.C_alloc ?_ _)|(with_reducible refine Kd.C_drewN ?_ _)|(with_reducible refine Kd.C_drew ?_)));(case side2=>exact HC0_2.out);rintro e w34 ⟨rfl,hb⟩;refine ⟨_,rfl,?_⟩;replace HO433:=Aside0.mk (Kd.R_below (qR HO433) hb);replace BK429:=Aside0.mk (blk_below (g:=gb429) (o := .cells #[.int .i64 a0_0, .string a0_1, .slice A0_2 l0_2.length c0_2, .slice A0_3 l0_3.length c0_3] 25 (0,0)) (qW BK429) hb);replace HB:=Aside0.mk (below_step qC hb);clear hb;obtain ⟨hcz35_0,hcz35_1,hcz35_2,hcz35_3,hfz35_0,hfz35_1,hfz35_2,hfz35_3⟩:=cf4 BK429.out))
  go_ret
  exact ⟨qE,qC⟩
 rw [if_pos c14] at H
 have c14b0:decide (0<(l0_3.length:Int))=true:=decide_eq_true c14
 have c14b1:decide (0<l0_3.length)=true:=decide_eq_true (by omega)
 clear c14
 by_cases c15:(rdOf ByteArray.empty t431 a0_0).size+1+a0_1.size+1+t435.size+1+4≤9223372036854775807
 rotate_left
 ·rw [if_neg c15] at H
  exact absurd H (by simp)
 rw [if_pos c15] at H
 have c15b0:=eq_true c15
 have c15b1:decide ((rdOf ByteArray.empty t431 a0_0).size+1+a0_1.size+1+t435.size+1+4≤9223372036854775807)=true:=decide_eq_true c15
 try have c15b2:(9223372036854775807<(rdOf ByteArray.empty t431 a0_0).size+1+a0_1.size+1+t435.size+1+4)=False:=eq_false (Nat.not_lt.2 c15)
 replace H:=Option.bind_eq_some_iff.mp H
 obtain ⟨t436,A160,H⟩:=H
 replace H:(if (rdOf ByteArray.empty t431 a0_0).size+1+a0_1.size+1+t435.size+1+4+t436.size≤9223372036854775807 then (some ((((((((rdOf ByteArray.empty t431 a0_0)++(⟨#[32]⟩:ByteArray))++a0_1)++(⟨#[123]⟩:ByteArray))++t435)++(⟨#[125]⟩:ByteArray))++(⟨#[32,98,121,32]⟩:ByteArray))++t436)) else (none))=some r:=H
 have A16:=Aside0.mk A160
 clear A160
 by_cases c17:(rdOf ByteArray.empty t431 a0_0).size+1+a0_1.size+1+t435.size+1+4+t436.size≤9223372036854775807
 rotate_left
 ·rw [if_neg c17] at H
  exact absurd H (by simp)
 rw [if_pos c17] at H
 have c17b0:=eq_true c17
 have c17b1:decide ((rdOf ByteArray.empty t431 a0_0).size+1+a0_1.size+1+t435.size+1+4+t436.size≤9223372036854775807)=true:=decide_eq_true c17
 try have c17b2:(9223372036854775807<(rdOf ByteArray.empty t431 a0_0).size+1+a0_1.size+1+t435.size+1+4+t436.size)=False:=eq_false (Nat.not_lt.2 c17)
 obtain rfl:=Option.some.inj H
 go_enter Tryz.func17,Tryz.ntmps17
 try go_wp2_with (first|((with_reducible refine gate_dst (N:=1) rfl ?_);refine box_event ?hg (N:=1) ?hd (cs:=#[.int .i64 a0_0, .string a0_1, .slice A0_2 l0_2.length c0_2, .slice A0_3 l0_3.length c0_3]) (t:=25) ?hr ?_;(case hd=>rfl);(case hg=>rfl);(case hr=>first|(go_simp;done)|(go_simp;rfl));intro gb429 hg w18 hbox hb;have BK429:=Aside0.mk hbox;have GW429:Aside0 (w.heap.size≤gb429):=⟨qH⟩;have GE429:=GW429;replace HB:=Aside0.mk (below_step qB hb);clear hb hbox hg;obtain ⟨hcz19_0,hcz19_1,hcz19_2,hcz19_3,hfz19_0,hfz19_1,hfz19_2,hfz19_3⟩:=cf4 BK429.out)|((with_reducible refine gate_callee (f:=15) rfl ?_);refine goesL_ (some 5) rfl rfl Tryz.func15 qK rfl #[.agg #[.int .i64 a0_0, .string a0_1, .slice A0_2 l0_2.length c0_2, .slice A0_3 l0_3.length c0_3]] rfl qG ?_;(with_reducible refine (ebbtideref07_Right.calls k a0_0 a0_1 _ _ l0_2 _ _ l0_3 true _ ?side1 ?side2 ?side3 ?side4 A2.out).mono ?_);(case side1=>repeat (first|exact (Kd.C_below HR0_2.out HB.out)|(with_reducible refine Kd.C_alloc ?_ _)|(with_reducible refine Kd.C_drewN ?_ _)|(with_reducible refine Kd.C_drew ?_)));(case side2=>exact HC0_2.out);(case side3=>repeat (first|exact (Kd.C_below HR0_3.out HB.out)|(with_reducible refine Kd.C_alloc ?_ _)|(with_reducible refine Kd.C_drewN ?_ _)|(with_reducible refine Kd.C_drew ?_)));(case side4=>exact HC0_3.out);rintro e w20 ⟨rfl,hb⟩;refine ⟨_,rfl,?_⟩;replace BK429:=Aside0.mk (blk_below (g:=gb429) (o := .cells #[.int .i64 a0_0, .string a0_1, .slice A0_2 l0_2.length c0_2, .slice A0_3 l0_3.length c0_3] 25 (0,0)) (qW BK429) hb);replace HB:=Aside0.mk (below_step qC hb);clear hb))
 replace BK429:=Aside0.mk (blk_drew BK429.out)
 replace HB:=Aside0.mk (below_drew1 HB.out)
 refine start_ (n:=10) (S:=fun w'=>w'.cell? ⟨gb429,0,none⟩=some (.int .i64 a0_0)∧w'.cell? ⟨gb429,1,none⟩=some (.string a0_1)∧w'.cell? ⟨gb429,2,none⟩=some (.slice A0_2 l0_2.length c0_2)∧w'.cell? ⟨gb429,3,none⟩=some (.slice A0_3 l0_3.length c0_3)) (ds:=[]) #[false,false,false,false,false,false,false,false,false,false] qK rfl rfl ⟨(blk_cell BK429.out 0).trans rfl,(blk_cell BK429.out 1).trans rfl,(blk_cell BK429.out 2).trans rfl,(blk_cell BK429.out 3).trans rfl⟩ (fun hHeld=>?_);refine with_tabW ebbtideref07_Text.tab3 ebbtideref07_Text.bits3 (fun HT_ HW_=>?_)
 generalize w20.drew=w21 at BK429 HB hHeld ⊢
 refine pure_ (i:=1) (N:=some 8) (v:=?_) (a':=?_) #[false,true,false,false,false,false,false,false,false,false] rfl rfl (any_of HT_.out qK) (fun _ _ _ h=>h) (Or.inl ⟨by rfl,?_⟩) ?_ ?_
 rotate_left
 ·intro w';go_simp;with_reducible rfl
 rotate_left
 ·simp only [Act.put,List.setIfInBounds_toArray,List.set_cons_zero,List.set_cons_succ,i64_w,i32_w];rfl
 refine pure_ (i:=6) (N:=some 13) (v:=?_) (a':=?_) #[false,true,false,false,false,false,true,false,false,false] rfl rfl (any_of HT_.out qK) (fun _ _ _ h=>h) (Or.inl ⟨by rfl,?_⟩) ?_ ?_
 rotate_left
 ·intro w';go_simp;with_reducible rfl
 rotate_left
 ·simp only [Act.put,List.setIfInBounds_toArray,List.set_cons_zero,List.set_cons_succ,i64_w,i32_w];rfl
 refine take_ (i:=2) (N:=some 9) (v:=?_) (a':=?_) #[false,true,true,false,false,false,true,false,false,false] rfl rfl (take_ofW HT_.out HW_.out qK) (fun _ _ _ h=>h) (Or.inl ⟨by rfl,?_⟩) hHeld ?_ ?_
 rotate_left
 ·rintro w' ⟨s0,s1,s2,s3⟩;go_simp;with_reducible rfl
 rotate_left
 ·simp only [Act.put,List.setIfInBounds_toArray,List.set_cons_zero,List.set_cons_succ,i64_w,i32_w];rfl
 refine take_ (i:=7) (N:=some 14) (v:=?_) (a':=?_) #[false,true,true,false,false,false,true,true,false,false] rfl rfl (take_ofW HT_.out HW_.out qK) (fun _ _ _ h=>h) (Or.inl ⟨by rfl,?_⟩) hHeld ?_ ?_
 rotate_left
 ·rintro w' ⟨s0,s1,s2,s3⟩;go_simp;with_reducible rfl
 rotate_left
 ·simp only [Act.put,List.setIfInBounds_toArray,List.set_cons_zero,List.set_cons_succ,i64_w,i32_w];rfl
 refine one_ (i:=0) (N:=some 7) #[true,true,true,false,false,false,true,true,false,false] rfl rfl (one_of HT_.out qK) (by decide) (fun K hK=>?_)
 refine goes_ Tryz.func59 qK rfl #[] (by rfl) rfl rfl qG ?_
 with_reducible refine (ebbtideref07_aggs.calls  t431 _ A4.out).mono ?_
 rintro e w22 ⟨v432,rfl,ho0,hb⟩
 refine ⟨_,rfl,?_⟩
 have HO433:=Aside0.mk (Kd.R_lower ho0 (below_size qC))
 replace BK429:=Aside0.mk (blk_below (g:=gb429) (o := .cells #[.int .i64 a0_0, .string a0_1, .slice A0_2 l0_2.length c0_2, .slice A0_3 l0_3.length c0_3] 25 (0,0)) (qW BK429) hb)
 replace HB:=Aside0.mk (below_step qC hb)
 clear hb ho0
 obtain ⟨Ao23,co23,eo23⟩:=Kd.R_slice HO433.out
 (first|subst eo23|(injection eo23 with f1_ f2_ f3_;have f4_:=f1_.symm;have f5_:=f3_.symm;clear f1_ f2_ f3_;subst f4_;subst f5_))
 have p434:0≤(a0_0:Int):=of_decide_eq_true qA
 have q434:a0_0<(t431.length:Int):=of_decide_eq_true qA
 obtain ⟨ad434,e434,hx434_0⟩:=Kd.at_string (Kd.R_reads' HO433.out).2.2 a0_0 p434 q434
 cases e434
 replace p434:=eq_true p434
 replace q434:=eq_true q434
 refine hK.out _ _ ⟨(blk_cell BK429.out 0).trans rfl,(blk_cell BK429.out 1).trans rfl,(blk_cell BK429.out 2).trans rfl,(blk_cell BK429.out 3).trans rfl⟩ (fun hHeld=>?_)
 clear hK K
 refine norm_ (a':=?_) ?_ ?_
 rotate_left
 ·show Act.put _ (some 7) _=_
  simp only [Act.put,List.setIfInBounds_toArray,List.set_cons_zero,List.set_cons_succ,i64_w,i32_w]
  rfl
 refine pure_ (i:=3) (N:=some 10) (v:=?_) (a':=?_) #[true,true,true,true,false,false,true,true,false,false] rfl rfl (any_of HT_.out qK) (fun _ _ _ h=>h) (Or.inl ⟨by rfl,?_⟩) ?_ ?_
 rotate_left
 ·intro w';go_simp;with_reducible rfl
 rotate_left
 ·simp only [Act.put,List.setIfInBounds_toArray,List.set_cons_zero,List.set_cons_succ,i64_w,i32_w];rfl
 refine one_ (i:=4) (N:=some 11) #[true,true,true,true,true,false,true,true,false,false] rfl rfl (one_of HT_.out qK) (by decide) (fun K hK=>?_)
 refine value_ (v := .string (rdOf ByteArray.empty t431 a0_0)) (w1:=w22) (by rfl) rfl (by first|(go_simp;done)|(go_simp;rfl)) ?_
 refine hK.out _ _ hHeld (fun hHeld=>?_)
 clear hK K
 refine norm_ (a':=?_) ?_ ?_
 rotate_left
 ·show Act.put _ (some 11) _=_
  simp only [Act.put,List.setIfInBounds_toArray,List.set_cons_zero,List.set_cons_succ,i64_w,i32_w]
  rfl
 refine pure_ (i:=5) (N:=some 12) (v:=?_) (a':=?_) #[true,true,true,true,true,true,true,true,false,false] rfl rfl (any_of HT_.out qK) (fun _ _ _ h=>h) (Or.inl ⟨by rfl,?_⟩) ?_ ?_
 rotate_left
 ·intro w';go_simp;with_reducible rfl
 rotate_left
 ·simp only [Act.put,List.setIfInBounds_toArray,List.set_cons_zero,List.set_cons_succ,i64_w,i32_w];rfl
 refine pure_ (i:=8) (N:=some 15) (v:=?_) (a':=?_) #[true,true,true,true,true,true,true,true,true,false] rfl rfl (any_of HT_.out qK) (fun _ _ _ h=>h) (Or.inl ⟨by rfl,?_⟩) ?_ ?_
 rotate_left
 ·intro w';go_simp;with_reducible rfl
 rotate_left
 ·simp only [Act.put,List.setIfInBounds_toArray,List.set_cons_zero,List.set_cons_succ,i64_w,i32_w];rfl
 refine pure_ (i:=9) (N:=some 3) (v:=?_) (a':=?_) #[true,true,true,true,true,true,true,true,true,true] rfl rfl (any_of HT_.out qK) (fun _ _ _ h=>h) (Or.inl ⟨by rfl,?_⟩) ?_ ?_
 rotate_left
 ·intro w';go_simp;with_reducible rfl
 rotate_left
 ·simp only [Act.put,List.setIfInBounds_toArray,List.set_cons_zero,List.set_cons_succ,i64_w,i32_w];rfl
 refine done_ (done_of HT_.out qK) ?_
 obtain ⟨hcz24_0,hcz24_1,hcz24_2,hcz24_3,hfz24_0,hfz24_1,hfz24_2,hfz24_3⟩:=cf4 BK429.out
 try go_wp2_with (first|((with_reducible refine gate_callee (f:=60) rfl ?_);refine goesL_ (some 24) rfl rfl Tryz.func60 qK rfl #[.slice A0_2 l0_2.length c0_2] rfl qG ?_;(with_reducible refine (ebbtideref05_Text.calls k _ _ l0_2 t435 _ ?side1 ?side2 A11.out).mono ?_);(case side1=>repeat (first|exact (Kd.C_below HR0_2.out HB.out)|(with_reducible refine Kd.C_alloc ?_ _)|(with_reducible refine Kd.C_drewN ?_ _)|(with_reducible refine Kd.C_drew ?_)));(case side2=>exact HC0_2.out);rintro e w25 ⟨rfl,hb⟩;refine ⟨_,rfl,?_⟩;replace HO433:=Aside0.mk (Kd.R_below (qR HO433) hb);replace BK429:=Aside0.mk (blk_below (g:=gb429) (o := .cells #[.int .i64 a0_0, .string a0_1, .slice A0_2 l0_2.length c0_2, .slice A0_3 l0_3.length c0_3] 25 (0,0)) (qW BK429) hb);replace HB:=Aside0.mk (below_step qC hb);clear hb;obtain ⟨hcz26_0,hcz26_1,hcz26_2,hcz26_3,hfz26_0,hfz26_1,hfz26_2,hfz26_3⟩:=cf4 BK429.out)|((with_reducible refine gate_callee (f:=61) rfl ?_);refine goesL_ (some 35) rfl rfl Tryz.func61 qK rfl #[.string (⟨#[44]⟩:ByteArray), .slice A0_3 l0_3.length c0_3] rfl qG ?_;(with_reducible refine (ebbtideref02_Join.calls k (⟨#[44]⟩:ByteArray) _ _ l0_3 t436 _ ?side1 ?side2 A16.out).mono ?_);(case side1=>repeat (first|exact (Kd.C_below HR0_3.out HB.out)|(with_reducible refine Kd.C_alloc ?_ _)|(with_reducible refine Kd.C_drewN ?_ _)|(with_reducible refine Kd.C_drew ?_)));(case side2=>exact HC0_3.out);rintro e w' ⟨rfl,⟨nd,rfl⟩⟩;refine ⟨_,rfl,?_⟩))
 go_ret
 exact ⟨qE,qC⟩
def ebbtideref05_Same.l0:Nat→List (S127)→List (S127)→Int→Option (Bool)
 | 0,_,_,_=>none
 | k+1,x0,x1,x5=>if x5<(x0.length:Int) then (if 0≤x5 then (if x5<(x1.length:Int) then (if (!(((rd_T127 x0 x5).f0) ==((rd_T127 x1 x5).f0)) || (!((((rd_T127 x0 x5).f1).toList) ==(((rd_T127 x1 x5).f1).toList)) || (!((((rd_T127 x0 x5).f2).toList) ==(((rd_T127 x1 x5).f2).toList)))))=true then (some false) else (ebbtideref05_Same.l0 k x0 x1 (wrap64 (x5+1)))) else (none)) else (none)) else (some true)
def ebbtideref05_Same.f (k:Nat) (l0:List (S127)) (l1:List (S127)):Option (Bool):=if (l0.length:Int)=(l1.length:Int) then (ebbtideref05_Same.l0 k l0 l1 0) else (some false)
theorem ebbtideref05_Same.mono_l:∀ k,(∀ y0 y1 y2,LeO (ebbtideref05_Same.l0 k y0 y1 y2) (ebbtideref05_Same.l0 (k+1) y0 y1 y2))
 | 0=>fun _ _ _ r h=>by simp [ebbtideref05_Same.l0] at h
 | k+1=>by
  have ih0:=ebbtideref05_Same.mono_l k
  ·intro y0 y1 y2
   unfold ebbtideref05_Same.l0
   repeat' first
   | (with_reducible exact ih0 _ _ _)
   | (with_reducible exact LeO.refl _)
   | (with_reducible exact LeO.none _)
   | (with_reducible refine LeO.ite ?_ ?_)
   | (with_reducible refine LeO.bind ?_ (fun _=>?_))
   | exact ih0 _ _ _
   | exact LeO.none _
   | refine LeO.ite ?_ ?_
   | refine LeO.bind ?_ (fun _=>?_)
theorem ebbtideref05_Same.mono:∀ a0 a1 k,LeO (ebbtideref05_Same.f k a0 a1) (ebbtideref05_Same.f (k+1) a0 a1):=by
 intro a0 a1 k
 have ih0:=ebbtideref05_Same.mono_l k
 unfold ebbtideref05_Same.f
 repeat' first
   | (with_reducible exact ih0 _ _ _)
   | (with_reducible exact LeO.refl _)
   | (with_reducible exact LeO.none _)
   | (with_reducible refine LeO.ite ?_ ?_)
   | (with_reducible refine LeO.bind ?_ (fun _=>?_))
   | exact ih0 _ _ _
   | exact LeO.none _
   | refine LeO.ite ?_ ?_
   | refine LeO.bind ?_ (fun _=>?_)
theorem ebbtideref05_Same.calls (k:Nat) (A0:Option Addr) (c0:Nat) (l0:List (S127)) (A1:Option Addr) (c1:Nat) (l1:List (S127)) (r:Bool) (w:World) (hr0:Kd.C k127 w A0 l0.length l0) (hc0:l0.length≤c0) (hr1:Kd.C k127 w A1 l1.length l1) (hc1:l1.length≤c1) (h:ebbtideref05_Same.f k l0 l1=some r) :
  Calls Tryz.prog 64 #[.slice A0 l0.length c0, .slice A1 l1.length c1] w fun e w'=>e = .returned (.bool r)∧Drawn0 w w':=by
 have hu127:=Tryz.underlying127
 have HR0:=Aside0.mk hr0
 have HC0:=Aside0.mk hc0
 clear hr0 hc0
 have HR1:=Aside0.mk hr1
 have HC1:=Aside0.mk hc1
 clear hr1 hc1
 have H:(if (l0.length:Int)=(l1.length:Int) then (ebbtideref05_Same.l0 k l0 l1 0) else (some false))=some r:=h
 clear h
 by_cases c3:(l0.length:Int)=(l1.length:Int)
 rotate_left
 ·rw [if_neg c3] at H
  have c3b0:((l0.length:Int) ==(l1.length:Int))=false:=beq_eq_false_iff_ne.mpr c3
  have c3b1:((l0.length:Int) != (l1.length:Int))=true:=bne_iff_ne.mpr c3
  have c3b2:(l0.length ==l1.length)=false:=by first|simpa using c3|(simp at c3 ⊢;omega)
  obtain rfl:=Option.some.inj H
  go_enter Tryz.func64,Tryz.ntmps64
  go_wp2
  repeat (go_quiet (fail);try go_wp2)
  go_ret
  exact ⟨qS,qD⟩
 rw [if_pos c3] at H
 have c3b0:((l0.length:Int) ==(l1.length:Int))=true:=beq_iff_eq.mpr c3
 have c3b1:((l0.length:Int) != (l1.length:Int))=false:=bne_eq_false_iff_eq.mpr c3
 have c3b2:(l0.length ==l1.length)=true:=by first|simpa using c3|(simp at c3 ⊢;omega)
 clear c3
 have H':=Aside0.mk H
 clear H
 go_enter Tryz.func64,Tryz.ntmps64
 go_wp2
 repeat (go_quiet (fail);try go_wp2)
 go_loopg [5] k (fun kq v5 w'=>∃ (x5_1:Int),v5 = .int .i64 x5_1∧Aside0 (ebbtideref05_Same.l0 kq l0 l1 x5_1=some r)∧Aside0 (kq≤k)∧Drawn0 w w')
 case atStart=>exact ⟨(0),qS,H',⟨Nat.le_refl _⟩,qD⟩
 case round =>
  clear H'
  try clear c3b0;try clear c3b1;try clear c3b2
  obtain ⟨x5_1,rfl,HA,HK1,⟨m1,rfl⟩⟩:=hrel
  cases gk with
  | zero=>exact absurd HA.out (by simp [ebbtideref05_Same.l0])
  | succ k1 =>
   have H:=HA.out
   clear HA
   simp only [ebbtideref05_Same.l0] at H
   by_cases c4:x5_1<(l0.length:Int)
   rotate_left
   ·rw [if_neg c4] at H
    have c4b0:decide (x5_1<(l0.length:Int))=false:=decide_eq_false c4
    clear c4
    obtain rfl:=Option.some.inj H
    go_wp2
    repeat (go_quiet (fail);try go_wp2)
    go_ret
    exact ⟨qS,qD⟩
   rw [if_pos c4] at H
   have c4b0:decide (x5_1<(l0.length:Int))=true:=decide_eq_true c4
   clear c4
   by_cases c5:0≤x5_1
   rotate_left
   ·rw [if_neg c5] at H
    exact absurd H (by simp)
   rw [if_pos c5] at H
   have c5b0:decide (0≤x5_1)=true:=decide_eq_true c5
   clear c5
   by_cases c6:x5_1<(l1.length:Int)
   rotate_left
   ·rw [if_neg c6] at H
    exact absurd H (by simp)
   rw [if_pos c6] at H
   have c6b0:decide (x5_1<(l1.length:Int))=true:=decide_eq_true c6
   clear c6
   by_cases c7:(!(((rd_T127 l0 x5_1).f0) ==((rd_T127 l1 x5_1).f0)) || (!((((rd_T127 l0 x5_1).f1).toList) ==(((rd_T127 l1 x5_1).f1).toList)) || (!((((rd_T127 l0 x5_1).f2).toList) ==(((rd_T127 l1 x5_1).f2).toList)))))=true
   ·rw [if_pos c7] at H
    have c7b0:(!(((rd_T127 l0 x5_1).f0) ==((rd_T127 l1 x5_1).f0)) || (!((((rd_T127 l0 x5_1).f1).toList) ==(((rd_T127 l1 x5_1).f1).toList)) || (!((((rd_T127 l0 x5_1).f2).toList) ==(((rd_T127 l1 x5_1).f2).toList)))))=true:=c7
    clear c7
    obtain rfl:=Option.some.inj H
    have p438:0≤(x5_1:Int):=of_decide_eq_true qA
    have q438:x5_1<(l0.length:Int):=of_decide_eq_true qA
    obtain ⟨ad438,e438,hx438_0,hx438_1,hx438_2⟩:=at_T127 HR0.out x5_1 p438 q438
    cases e438
    replace p438:=eq_true p438
    replace q438:=eq_true q438
    have p439:0≤(x5_1:Int):=of_decide_eq_true qA
    have q439:x5_1<(l1.length:Int):=of_decide_eq_true qA
    obtain ⟨ad439,e439,hx439_0,hx439_1,hx439_2⟩:=at_T127 HR1.out x5_1 p439 q439
    cases e439
    replace p439:=eq_true p439
    replace q439:=eq_true q439
    go_wp2
    repeat (go_quiet (fail);try go_wp2)
    go_ret
    exact ⟨qS,qD⟩
   rw [if_neg c7] at H
   have c7b0:(!(((rd_T127 l0 x5_1).f0) ==((rd_T127 l1 x5_1).f0)) || (!((((rd_T127 l0 x5_1).f1).toList) ==(((rd_T127 l1 x5_1).f1).toList)) || (!((((rd_T127 l0 x5_1).f2).toList) ==(((rd_T127 l1 x5_1).f2).toList)))))=false:=by simpa using c7
   clear c7
   have H':=Aside0.mk H
   clear H
   have p438:0≤(x5_1:Int):=of_decide_eq_true qA
   have q438:x5_1<(l0.length:Int):=of_decide_eq_true qA
   obtain ⟨ad438,e438,hx438_0,hx438_1,hx438_2⟩:=at_T127 HR0.out x5_1 p438 q438
   cases e438
   replace p438:=eq_true p438
   replace q438:=eq_true q438
   have p439:0≤(x5_1:Int):=of_decide_eq_true qA
   have q439:x5_1<(l1.length:Int):=of_decide_eq_true qA
   obtain ⟨ad439,e439,hx439_0,hx439_1,hx439_2⟩:=at_T127 HR1.out x5_1 p439 q439
   cases e439
   replace p439:=eq_true p439
   replace q439:=eq_true q439
   go_wp2
   repeat (go_quiet (fail);try go_wp2)
   go_roundg k1
   case measure=>have:=HK1.out;omega
   case rel=>exact ⟨(wrap64 (x5_1+1)),qS,H',⟨by have:=HK1.out;omega⟩,qD⟩
end Go.Proofs.YteaadaaghhojfaaGreatDoor.PQu
