import Derived.Test.YteaadaaghhojfaaGreatDoorZQaPQux0
import Derived.Test.YteaadaaghhojfaaGreatDoorZQaPQux14
namespace Go.Proofs.YteaadaaghhojfaaGreatDoor.PQu
open Go.RowKit Go.Proofs.YteaadaaghhojfaaGreatDoorW.PrintWords Go.Proofs.YteaadaaghhojfaaGreatDoorW.PrintLast Go.Proofs.YteaadaaghhojfaaGreatDoorW.PrintMore
attribute [local go_sem] max2_int min2_int max_two min_two max_three min_three max_four min_four
set_option linter.unusedVariables false
set_option linter.unusedSimpArgs false
set_option maxHeartbeats 8000000
set_option maxRecDepth 100000
def ebbtideref02_Same.l0:Nat→List ByteArray→List ByteArray→Int→Option (Bool)
 | 0,_,_,_=>none
 | k+1,x0,x1,x5=>if x5<(x0.length:Int) then (if 0≤x5 then (if x5<(x1.length:Int) then (if (rdOf ByteArray.empty x0 x5).toList=(rdOf ByteArray.empty x1 x5).toList then (ebbtideref02_Same.l0 k x0 x1 (wrap64 (x5+1))) else (some false)) else (none)) else (none)) else (some true)
def ebbtideref02_Same.f (k:Nat) (l0:List ByteArray) (l1:List ByteArray):Option (Bool):=if (l0.length:Int)=(l1.length:Int) then (ebbtideref02_Same.l0 k l0 l1 0) else (some false)
theorem ebbtideref02_Same.mono_l:∀ k,(∀ y0 y1 y2,LeO (ebbtideref02_Same.l0 k y0 y1 y2) (ebbtideref02_Same.l0 (k+1) y0 y1 y2))
 | 0=>fun _ _ _ r h=>by simp [ebbtideref02_Same.l0] at h
 | k+1=>by
  have ih0:=ebbtideref02_Same.mono_l k
  ·intro y0 y1 y2
   unfold ebbtideref02_Same.l0
   repeat' first
   | (with_reducible exact ih0 _ _ _)
   | (with_reducible exact LeO.refl _)
   | (with_reducible exact LeO.none _)
   | (with_reducible refine LeO.ite ?_ ?_)
   | (with_reducible refine LeO.bind ?_ (fun _=>?_))
   | exact ih0 _ _ _
   | exact LeO.none _
   | refine LeO.ite ?_ ?_
   | refine LeO.bind ?_ (fun _=>?_)
theorem ebbtideref02_Same.mono:∀ a0 a1 k,LeO (ebbtideref02_Same.f k a0 a1) (ebbtideref02_Same.f (k+1) a0 a1):=by
 intro a0 a1 k
 have ih0:=ebbtideref02_Same.mono_l k
 unfold ebbtideref02_Same.f
 repeat' first
   | (with_reducible exact ih0 _ _ _)
   | (with_reducible exact LeO.refl _)
   | (with_reducible exact LeO.none _)
   | (with_reducible refine LeO.ite ?_ ?_)
   | (with_reducible refine LeO.bind ?_ (fun _=>?_))
   | exact ih0 _ _ _
   | exact LeO.none _
   | refine LeO.ite ?_ ?_
   | refine LeO.bind ?_ (fun _=>?_)
theorem ebbtideref02_Same.calls (k:Nat) (A0:Option Addr) (c0:Nat) (l0:List ByteArray) (A1:Option Addr) (c1:Nat) (l1:List ByteArray) (r:Bool) (w:World) (hr0:Kd.C Kd.string w A0 l0.length l0) (hc0:l0.length≤c0) (hr1:Kd.C Kd.string w A1 l1.length l1) (hc1:l1.length≤c1) (h:ebbtideref02_Same.f k l0 l1=some r) :
  Calls Tryz.prog 65 #[.slice A0 l0.length c0, .slice A1 l1.length c1] w fun e w'=>e = .returned (.bool r)∧Drawn0 w w':=by
 have HR0:=Aside0.mk hr0
 have HC0:=Aside0.mk hc0
 clear hr0 hc0
 have HR1:=Aside0.mk hr1
 have HC1:=Aside0.mk hc1
 clear hr1 hc1
 have H:(if (l0.length:Int)=(l1.length:Int) then (ebbtideref02_Same.l0 k l0 l1 0) else (some false))=some r:=h
 clear h
 by_cases c3:(l0.length:Int)=(l1.length:Int)
 rotate_left
 ·rw [if_neg c3] at H
  have c3b0:((l0.length:Int) ==(l1.length:Int))=false:=beq_eq_false_iff_ne.mpr c3
  have c3b1:((l0.length:Int) != (l1.length:Int))=true:=bne_iff_ne.mpr c3
  have c3b2:(l0.length ==l1.length)=false:=by first|simpa using c3|(simp at c3 ⊢;omega)
  obtain rfl:=Option.some.inj H
  go_enter Tryz.func65,Tryz.ntmps65
  go_wp2
  repeat (go_quiet (fail);try go_wp2)
  go_ret
  exact ⟨qS,qD⟩
 rw [if_pos c3] at H
 have c3b0:((l0.length:Int) ==(l1.length:Int))=true:=beq_iff_eq.mpr c3
 have c3b1:((l0.length:Int) != (l1.length:Int))=false:=bne_eq_false_iff_eq.mpr c3
 have c3b2:(l0.length ==l1.length)=true:=by first|simpa using c3|(simp at c3 ⊢;omega)
 clear c3
 have H':=Aside0.mk H
 clear H
 go_enter Tryz.func65,Tryz.ntmps65
 go_wp2
 repeat (go_quiet (fail);try go_wp2)
 go_loopg [5] k (fun kq v5 w'=>∃ (x5_1:Int),v5 = .int .i64 x5_1∧Aside0 (ebbtideref02_Same.l0 kq l0 l1 x5_1=some r)∧Aside0 (kq≤k)∧Drawn0 w w')
 case atStart=>exact ⟨(0),qS,H',⟨Nat.le_refl _⟩,qD⟩
 case round =>
  clear H'
  try clear c3b0;try clear c3b1;try clear c3b2
  obtain ⟨x5_1,rfl,HA,HK1,⟨m1,rfl⟩⟩:=hrel
  cases gk with
  | zero=>exact absurd HA.out (by simp [ebbtideref02_Same.l0])
  | succ k1 =>
   have H:=HA.out
   clear HA
   simp only [ebbtideref02_Same.l0] at H
   by_cases c4:x5_1<(l0.length:Int)
   rotate_left
   ·rw [if_neg c4] at H
    have c4b0:decide (x5_1<(l0.length:Int))=false:=decide_eq_false c4
    clear c4
    obtain rfl:=Option.some.inj H
    go_wp2
    repeat (go_quiet (fail);try go_wp2)
    go_ret
    exact ⟨qS,qD⟩
   rw [if_pos c4] at H
   have c4b0:decide (x5_1<(l0.length:Int))=true:=decide_eq_true c4
   clear c4
   by_cases c5:0≤x5_1
   rotate_left
   ·rw [if_neg c5] at H
    exact absurd H (by simp)
   rw [if_pos c5] at H
   have c5b0:decide (0≤x5_1)=true:=decide_eq_true c5
   clear c5
   by_cases c6:x5_1<(l1.length:Int)
   rotate_left
   ·rw [if_neg c6] at H
    exact absurd H (by simp)
   rw [if_pos c6] at H
   have c6b0:decide (x5_1<(l1.length:Int))=true:=decide_eq_true c6
   clear c6
   by_cases c7:(rdOf ByteArray.empty l0 x5_1).toList=(rdOf ByteArray.empty l1 x5_1).toList
   rotate_left
   ·rw [if_neg c7] at H
    have c7b0:((rdOf ByteArray.empty l0 x5_1).toList ==(rdOf ByteArray.empty l1 x5_1).toList)=false:=beq_eq_false_iff_ne.mpr c7
    have c7b1:((rdOf ByteArray.empty l0 x5_1).toList != (rdOf ByteArray.empty l1 x5_1).toList)=true:=bne_iff_ne.mpr c7
    obtain rfl:=Option.some.inj H
    have p440:0≤(x5_1:Int):=of_decide_eq_true qA
    have q440:x5_1<(l0.length:Int):=of_decide_eq_true qA
    obtain ⟨ad440,e440,hx440_0⟩:=Kd.at_string HR0.out x5_1 p440 q440
    cases e440
    replace p440:=eq_true p440
    replace q440:=eq_true q440
    have p441:0≤(x5_1:Int):=of_decide_eq_true qA
    have q441:x5_1<(l1.length:Int):=of_decide_eq_true qA
    obtain ⟨ad441,e441,hx441_0⟩:=Kd.at_string HR1.out x5_1 p441 q441
    cases e441
    replace p441:=eq_true p441
    replace q441:=eq_true q441
    go_wp2
    repeat (go_quiet (fail);try go_wp2)
    go_ret
    exact ⟨qS,qD⟩
   rw [if_pos c7] at H
   have c7b0:((rdOf ByteArray.empty l0 x5_1).toList ==(rdOf ByteArray.empty l1 x5_1).toList)=true:=beq_iff_eq.mpr c7
   have c7b1:((rdOf ByteArray.empty l0 x5_1).toList != (rdOf ByteArray.empty l1 x5_1).toList)=false:=bne_eq_false_iff_eq.mpr c7
   clear c7
   have H':=Aside0.mk H
   clear H
   have p440:0≤(x5_1:Int):=of_decide_eq_true qA
   have q440:x5_1<(l0.length:Int):=of_decide_eq_true qA
   obtain ⟨ad440,e440,hx440_0⟩:=Kd.at_string HR0.out x5_1 p440 q440
   cases e440
   replace p440:=eq_true p440
   replace q440:=eq_true q440
   have p441:0≤(x5_1:Int):=of_decide_eq_true qA
   have q441:x5_1<(l1.length:Int):=of_decide_eq_true qA
   obtain ⟨ad441,e441,hx441_0⟩:=Kd.at_string HR1.out x5_1 p441 q441
   cases e441
   replace p441:=eq_true p441
   replace q441:=eq_true q441
   go_wp2
   repeat (go_quiet (fail);try go_wp2)
   go_roundg k1
   case measure=>have:=HK1.out;omega
   case rel=>exact ⟨(wrap64 (x5_1+1)),qS,H',⟨by have:=HK1.out;omega⟩,qD⟩
def ebbtideref07_Same.f (k:Nat) (a0_0:Int) (a0_1:ByteArray) (l0_2:List (S127)) (l0_3:List ByteArray) (a1_0:Int) (a1_1:ByteArray) (l1_2:List (S127)) (l1_3:List ByteArray):Option (Bool):=if a0_0=a1_0 then (if a0_1.toList=a1_1.toList then ((ebbtideref05_Same.f k l0_2 l1_2).bind fun t444=>(if t444=true then ((ebbtideref02_Same.f k l0_3 l1_3).bind fun t445=>(some t445)) else (some false))) else (some false)) else (some false)
theorem ebbtideref07_Same.mono:∀ a0 a1 a2 a3 a4 a5 a6 a7 k,LeO (ebbtideref07_Same.f k a0 a1 a2 a3 a4 a5 a6 a7) (ebbtideref07_Same.f (k+1) a0 a1 a2 a3 a4 a5 a6 a7):=by
 intro a0 a1 a2 a3 a4 a5 a6 a7 k
 unfold ebbtideref07_Same.f
 repeat' first
   | (with_reducible exact ebbtideref02_Same.mono _ _ _)
   | (with_reducible exact ebbtideref05_Same.mono _ _ _)
   | (with_reducible exact LeO.refl _)
   | (with_reducible exact LeO.none _)
   | (with_reducible refine LeO.ite ?_ ?_)
   | (with_reducible refine LeO.bind ?_ (fun _=>?_))
   | exact ebbtideref02_Same.mono _ _ _
   | exact ebbtideref05_Same.mono _ _ _
   | exact LeO.none _
   | refine LeO.ite ?_ ?_
   | refine LeO.bind ?_ (fun _=>?_)
theorem ebbtideref07_Same.calls (k:Nat) (a0_0:Int) (a0_1:ByteArray) (A0_2:Option Addr) (c0_2:Nat) (l0_2:List (S127)) (A0_3:Option Addr) (c0_3:Nat) (l0_3:List ByteArray) (a1_0:Int) (a1_1:ByteArray) (A1_2:Option Addr) (c1_2:Nat) (l1_2:List (S127)) (A1_3:Option Addr) (c1_3:Nat) (l1_3:List ByteArray) (r:Bool) (w:World) (hr0_2:Kd.C k127 w A0_2 l0_2.length l0_2) (hc0_2:l0_2.length≤c0_2) (hr0_3:Kd.C Kd.string w A0_3 l0_3.length l0_3) (hc0_3:l0_3.length≤c0_3) (hr1_2:Kd.C k127 w A1_2 l1_2.length l1_2) (hc1_2:l1_2.length≤c1_2) (hr1_3:Kd.C Kd.string w A1_3 l1_3.length l1_3) (hc1_3:l1_3.length≤c1_3) (h:ebbtideref07_Same.f k a0_0 a0_1 l0_2 l0_3 a1_0 a1_1 l1_2 l1_3=some r) :
  Calls Tryz.prog 19 #[.agg #[.int .i64 a0_0, .string a0_1, .slice A0_2 l0_2.length c0_2, .slice A0_3 l0_3.length c0_3], .agg #[.int .i64 a1_0, .string a1_1, .slice A1_2 l1_2.length c1_2, .slice A1_3 l1_3.length c1_3]] w fun e w'=>e = .returned (.bool r)∧Below w.heap.size w w':=by
 have hu25:=Tryz.underlying25
 have HR0_2:=Aside0.mk hr0_2
 have HC0_2:=Aside0.mk hc0_2
 clear hr0_2 hc0_2
 have HR0_3:=Aside0.mk hr0_3
 have HC0_3:=Aside0.mk hc0_3
 clear hr0_3 hc0_3
 have HR1_2:=Aside0.mk hr1_2
 have HC1_2:=Aside0.mk hc1_2
 clear hr1_2 hc1_2
 have HR1_3:=Aside0.mk hr1_3
 have HC1_3:=Aside0.mk hc1_3
 clear hr1_3 hc1_3
 have HB:=Aside0.mk (Below.refl w.heap.size w)
 have H:(if a0_0=a1_0 then (if a0_1.toList=a1_1.toList then ((ebbtideref05_Same.f k l0_2 l1_2).bind fun t444=>(if t444=true then ((ebbtideref02_Same.f k l0_3 l1_3).bind fun t445=>(some t445)) else (some false))) else (some false)) else (some false))=some r:=h
 clear h
 by_cases c3:a0_0=a1_0
 rotate_left
 ·rw [if_neg c3] at H
  have c3b0:(a0_0 ==a1_0)=false:=beq_eq_false_iff_ne.mpr c3
  have c3b1:(a0_0 != a1_0)=true:=bne_iff_ne.mpr c3
  obtain rfl:=Option.some.inj H
  go_enter Tryz.func19,Tryz.ntmps19
  go_wp2_with (first|((with_reducible refine gate_dst (N:=2) rfl ?_);refine box_event ?hg (N:=2) ?hd (cs:=#[.int .i64 a0_0, .string a0_1, .slice A0_2 l0_2.length c0_2, .slice A0_3 l0_3.length c0_3]) (t:=25) ?hr ?_;(case hd=>rfl);(case hg=>rfl);(case hr=>first|(go_simp;done)|(go_simp;rfl));intro gb442 hg w23 hbox hb;have BK442:=Aside0.mk hbox;have GW442:Aside0 (w.heap.size≤gb442):=⟨qH⟩;have GE442:=GW442;replace HB:=Aside0.mk (below_step qB hb);clear hb hbox hg)|((with_reducible refine gate_dst (N:=3) rfl ?_);refine box_event ?hg (N:=3) ?hd (cs:=#[.int .i64 a1_0, .string a1_1, .slice A1_2 l1_2.length c1_2, .slice A1_3 l1_3.length c1_3]) (t:=25) ?hr ?_;(case hd=>rfl);(case hg=>rfl);(case hr=>first|(go_simp;done)|(go_simp;rfl));intro gb443 hg w24 hbox hb;have BK443:=Aside0.mk hbox;have GW443:Aside0 (w.heap.size≤gb443):=⟨qI⟩;have GE443:=GW443;replace HB:=Aside0.mk (below_step qC hb);have NB442_443:=Aside0.mk ((by rw [hg];exact Nat.ne_of_lt (blk_lt (g:=gb442) (o := .cells #[.int .i64 a0_0, .string a0_1, .slice A0_2 l0_2.length c0_2, .slice A0_3 l0_3.length c0_3] 25 (0,0)) (qW BK442)):gb442≠gb443));have NB443_442:=Aside0.mk ((by rw [hg];exact Nat.ne_of_gt (blk_lt (g:=gb442) (o := .cells #[.int .i64 a0_0, .string a0_1, .slice A0_2 l0_2.length c0_2, .slice A0_3 l0_3.length c0_3] 25 (0,0)) (qW BK442)):gb443≠gb442));replace BK442:=Aside0.mk (blk_below (g:=gb442) (o := .cells #[.int .i64 a0_0, .string a0_1, .slice A0_2 l0_2.length c0_2, .slice A0_3 l0_3.length c0_3] 25 (0,0)) (qW BK442) hb);clear hb hbox hg;have hnb25:=NB442_443.out;have hnc25:=NB443_442.out;obtain ⟨hcz26_0,hcz26_1,hcz26_2,hcz26_3,hfz26_0,hfz26_1,hfz26_2,hfz26_3⟩:=cf4 BK442.out;obtain ⟨hcz27_0,hcz27_1,hcz27_2,hcz27_3,hfz27_0,hfz27_1,hfz27_2,hfz27_3⟩:=cf4 BK443.out))
  go_ret
  exact ⟨qE,qC⟩
 rw [if_pos c3] at H
 have c3b0:(a0_0 ==a1_0)=true:=beq_iff_eq.mpr c3
 have c3b1:(a0_0 != a1_0)=false:=bne_eq_false_iff_eq.mpr c3
 clear c3
 by_cases c4:a0_1.toList=a1_1.toList
 rotate_left
 ·rw [if_neg c4] at H
  have c4b0:(a0_1.toList ==a1_1.toList)=false:=beq_eq_false_iff_ne.mpr c4
  have c4b1:(a0_1.toList != a1_1.toList)=true:=bne_iff_ne.mpr c4
  obtain rfl:=Option.some.inj H
  go_enter Tryz.func19,Tryz.ntmps19
  go_wp2_with (first|((with_reducible refine gate_dst (N:=2) rfl ?_);refine box_event ?hg (N:=2) ?hd (cs:=#[.int .i64 a0_0, .string a0_1, .slice A0_2 l0_2.length c0_2, .slice A0_3 l0_3.length c0_3]) (t:=25) ?hr ?_;(case hd=>rfl);(case hg=>rfl);(case hr=>first|(go_simp;done)|(go_simp;rfl));intro gb442 hg w18 hbox hb;have BK442:=Aside0.mk hbox;have GW442:Aside0 (w.heap.size≤gb442):=⟨qH⟩;have GE442:=GW442;replace HB:=Aside0.mk (below_step qB hb);clear hb hbox hg)|((with_reducible refine gate_dst (N:=3) rfl ?_);refine box_event ?hg (N:=3) ?hd (cs:=#[.int .i64 a1_0, .string a1_1, .slice A1_2 l1_2.length c1_2, .slice A1_3 l1_3.length c1_3]) (t:=25) ?hr ?_;(case hd=>rfl);(case hg=>rfl);(case hr=>first|(go_simp;done)|(go_simp;rfl));intro gb443 hg w19 hbox hb;have BK443:=Aside0.mk hbox;have GW443:Aside0 (w.heap.size≤gb443):=⟨qI⟩;have GE443:=GW443;replace HB:=Aside0.mk (below_step qC hb);have NB442_443:=Aside0.mk ((by rw [hg];exact Nat.ne_of_lt (blk_lt (g:=gb442) (o := .cells #[.int .i64 a0_0, .string a0_1, .slice A0_2 l0_2.length c0_2, .slice A0_3 l0_3.length c0_3] 25 (0,0)) (qW BK442)):gb442≠gb443));have NB443_442:=Aside0.mk ((by rw [hg];exact Nat.ne_of_gt (blk_lt (g:=gb442) (o := .cells #[.int .i64 a0_0, .string a0_1, .slice A0_2 l0_2.length c0_2, .slice A0_3 l0_3.length c0_3] 25 (0,0)) (qW BK442)):gb443≠gb442));replace BK442:=Aside0.mk (blk_below (g:=gb442) (o := .cells #[.int .i64 a0_0, .string a0_1, .slice A0_2 l0_2.length c0_2, .slice A0_3 l0_3.length c0_3] 25 (0,0)) (qW BK442) hb);clear hb hbox hg;have hnb20:=NB442_443.out;have hnc20:=NB443_442.out;obtain ⟨hcz21_0,hcz21_1,hcz21_2,hcz21_3,hfz21_0,hfz21_1,hfz21_2,hfz21_3⟩:=cf4 BK442.out;obtain ⟨hcz22_0,hcz22_1,hcz22_2,hcz22_3,hfz22_0,hfz22_1,hfz22_2,hfz22_3⟩:=cf4 BK443.out))
  go_ret
  exact ⟨qE,qC⟩
 rw [if_pos c4] at H
 have c4b0:(a0_1.toList ==a1_1.toList)=true:=beq_iff_eq.mpr c4
 have c4b1:(a0_1.toList != a1_1.toList)=false:=bne_eq_false_iff_eq.mpr c4
 clear c4
 replace H:=Option.bind_eq_some_iff.mp H
 obtain ⟨t444,A50,H⟩:=H
 replace H:(if t444=true then ((ebbtideref02_Same.f k l0_3 l1_3).bind fun t445=>(some t445)) else (some false))=some r:=H
 have A5:=Aside0.mk A50
 clear A50
 by_cases c6:t444=true
 rotate_left
 ·replace c6:=Bool.eq_false_iff.mpr c6
  subst c6
  have H1:(some false)=some r:=by rw [if_neg (show ¬ (false=true) by decide)] at H;exact H
  clear H
  have H:=H1
  clear H1
  obtain rfl:=Option.some.inj H
  go_enter Tryz.func19,Tryz.ntmps19
  go_wp2_with (first|((with_reducible refine gate_dst (N:=2) rfl ?_);refine box_event ?hg (N:=2) ?hd (cs:=#[.int .i64 a0_0, .string a0_1, .slice A0_2 l0_2.length c0_2, .slice A0_3 l0_3.length c0_3]) (t:=25) ?hr ?_;(case hd=>rfl);(case hg=>rfl);(case hr=>first|(go_simp;done)|(go_simp;rfl));intro gb442 hg w13 hbox hb;have BK442:=Aside0.mk hbox;have GW442:Aside0 (w.heap.size≤gb442):=⟨qH⟩;have GE442:=GW442;replace HB:=Aside0.mk (below_step qB hb);clear hb hbox hg)|((with_reducible refine gate_dst (N:=3) rfl ?_);refine box_event ?hg (N:=3) ?hd (cs:=#[.int .i64 a1_0, .string a1_1, .slice A1_2 l1_2.length c1_2, .slice A1_3 l1_3.length c1_3]) (t:=25) ?hr ?_;(case hd=>rfl);(case hg=>rfl);(case hr=>first|(go_simp;done)|(go_simp;rfl));intro gb443 hg w14 hbox hb;have BK443:=Aside0.mk hbox;have GW443:Aside0 (w.heap.size≤gb443):=⟨qI⟩;have GE443:=GW443;replace HB:=Aside0.mk (below_step qC hb);have NB442_443:=Aside0.mk ((by rw [hg];exact Nat.ne_of_lt (blk_lt (g:=gb442) (o := .cells #[.int .i64 a0_0, .string a0_1, .slice A0_2 l0_2.length c0_2, .slice A0_3 l0_3.length c0_3] 25 (0,0)) (qW BK442)):gb442≠gb443));have NB443_442:=Aside0.mk ((by rw [hg];exact Nat.ne_of_gt (blk_lt (g:=gb442) (o := .cells #[.int .i64 a0_0, .string a0_1, .slice A0_2 l0_2.length c0_2, .slice A0_3 l0_3.length c0_3] 25 (0,0)) (qW BK442)):gb443≠gb442));replace BK442:=Aside0.mk (blk_below (g:=gb442) (o := .cells #[.int .i64 a0_0, .string a0_1, .slice A0_2 l0_2.length c0_2, .slice A0_3 l0_3.length c0_3] 25 (0,0)) (qW BK442) hb);clear hb hbox hg;have hnb15:=NB442_443.out;have hnc15:=NB443_442.out;obtain ⟨hcz16_0,hcz16_1,hcz16_2,hcz16_3,hfz16_0,hfz16_1,hfz16_2,hfz16_3⟩:=cf4 BK442.out;obtain ⟨hcz17_0,hcz17_1,hcz17_2,hcz17_3,hfz17_0,hfz17_1,hfz17_2,hfz17_3⟩:=cf4 BK443.out)|(go_at_call 64;(with_reducible refine (ebbtideref05_Same.calls k _ _ l0_2 _ _ l1_2 false _ ?side1 ?side2 ?side3 ?side4 A5.out).mono ?_);(case side1=>repeat (first|exact (Kd.C_below HR0_2.out HB.out)|(with_reducible refine Kd.C_alloc ?_ _)|(with_reducible refine Kd.C_drewN ?_ _)|(with_reducible refine Kd.C_drew ?_)));(case side2=>exact HC0_2.out);(case side3=>repeat (first|exact (Kd.C_below HR1_2.out HB.out)|(with_reducible refine Kd.C_alloc ?_ _)|(with_reducible refine Kd.C_drewN ?_ _)|(with_reducible refine Kd.C_drew ?_)));(case side4=>exact HC1_2.out);rintro e w' ⟨rfl,⟨nd,rfl⟩⟩))
  go_ret
  exact ⟨qE,qC⟩
 subst c6
 have H1:((ebbtideref02_Same.f k l0_3 l1_3).bind fun t445=>(some t445))=some r:=by rw [if_pos rfl] at H;exact H
 clear H
 have H:=H1
 clear H1
 replace H:=Option.bind_eq_some_iff.mp H
 obtain ⟨t445,A70,H⟩:=H
 replace H:(some t445)=some r:=H
 have A7:=Aside0.mk A70
 clear A70
 obtain rfl:=Option.some.inj H
 go_enter Tryz.func19,Tryz.ntmps19
 go_wp2_with (first|((with_reducible refine gate_dst (N:=2) rfl ?_);refine box_event ?hg (N:=2) ?hd (cs:=#[.int .i64 a0_0, .string a0_1, .slice A0_2 l0_2.length c0_2, .slice A0_3 l0_3.length c0_3]) (t:=25) ?hr ?_;(case hd=>rfl);(case hg=>rfl);(case hr=>first|(go_simp;done)|(go_simp;rfl));intro gb442 hg w8 hbox hb;have BK442:=Aside0.mk hbox;have GW442:Aside0 (w.heap.size≤gb442):=⟨qH⟩;have GE442:=GW442;replace HB:=Aside0.mk (below_step qB hb);clear hb hbox hg)|((with_reducible refine gate_dst (N:=3) rfl ?_);refine box_event ?hg (N:=3) ?hd (cs:=#[.int .i64 a1_0, .string a1_1, .slice A1_2 l1_2.length c1_2, .slice A1_3 l1_3.length c1_3]) (t:=25) ?hr ?_;(case hd=>rfl);(case hg=>rfl);(case hr=>first|(go_simp;done)|(go_simp;rfl));intro gb443 hg w9 hbox hb;have BK443:=Aside0.mk hbox;have GW443:Aside0 (w.heap.size≤gb443):=⟨qI⟩;have GE443:=GW443;replace HB:=Aside0.mk (below_step qC hb);have NB442_443:=Aside0.mk ((by rw [hg];exact Nat.ne_of_lt (blk_lt (g:=gb442) (o := .cells #[.int .i64 a0_0, .string a0_1, .slice A0_2 l0_2.length c0_2, .slice A0_3 l0_3.length c0_3] 25 (0,0)) (qW BK442)):gb442≠gb443));have NB443_442:=Aside0.mk ((by rw [hg];exact Nat.ne_of_gt (blk_lt (g:=gb442) (o := .cells #[.int .i64 a0_0, .string a0_1, .slice A0_2 l0_2.length c0_2, .slice A0_3 l0_3.length c0_3] 25 (0,0)) (qW BK442)):gb443≠gb442));replace BK442:=Aside0.mk (blk_below (g:=gb442) (o := .cells #[.int .i64 a0_0, .string a0_1, .slice A0_2 l0_2.length c0_2, .slice A0_3 l0_3.length c0_3] 25 (0,0)) (qW BK442) hb);clear hb hbox hg;have hnb10:=NB442_443.out;have hnc10:=NB443_442.out;obtain ⟨hcz11_0,hcz11_1,hcz11_2,hcz11_3,hfz11_0,hfz11_1,hfz11_2,hfz11_3⟩:=cf4 BK442.out;obtain ⟨hcz12_0,hcz12_1,hcz12_2,hcz12_3,hfz12_0,hfz12_1,hfz12_2,hfz12_3⟩:=cf4 BK443.out)|(go_at_call 64;(with_reducible refine (ebbtideref05_Same.calls k _ _ l0_2 _ _ l1_2 true _ ?side1 ?side2 ?side3 ?side4 A5.out).mono ?_);(case side1=>repeat (first|exact (Kd.C_below HR0_2.out HB.out)|(with_reducible refine Kd.C_alloc ?_ _)|(with_reducible refine Kd.C_drewN ?_ _)|(with_reducible refine Kd.C_drew ?_)));(case side2=>exact HC0_2.out);(case side3=>repeat (first|exact (Kd.C_below HR1_2.out HB.out)|(with_reducible refine Kd.C_alloc ?_ _)|(with_reducible refine Kd.C_drewN ?_ _)|(with_reducible refine Kd.C_drew ?_)));(case side4=>exact HC1_2.out);rintro e w' ⟨rfl,⟨nd,rfl⟩⟩)|(go_at_call 65;(with_reducible refine (ebbtideref02_Same.calls k _ _ l0_3 _ _ l1_3 t445 _ ?side1 ?side2 ?side3 ?side4 A7.out).mono ?_);(case side1=>repeat (first|exact (Kd.C_below HR0_3.out qC)|(with_reducible refine Kd.C_alloc ?_ _)|(with_reducible refine Kd.C_drewN ?_ _)|(with_reducible refine Kd.C_drew ?_)));(case side2=>exact HC0_3.out);(case side3=>repeat (first|exact (Kd.C_below HR1_3.out qC)|(with_reducible refine Kd.C_alloc ?_ _)|(with_reducible refine Kd.C_drewN ?_ _)|(with_reducible refine Kd.C_drew ?_)));(case side4=>exact HC1_3.out);rintro e w' ⟨rfl,⟨nd,rfl⟩⟩))
 go_ret
 exact ⟨qE,qC⟩
end Go.Proofs.YteaadaaghhojfaaGreatDoor.PQu
