import Derived.Test.YteaadaaghhojfaaGreatDoorZQaPQux0
import Derived.Test.YteaadaaghhojfaaGreatDoorZQaPQux5
import Derived.Test.YteaadaaghhojfaaGreatDoorZQaPQux6
namespace Go.Proofs.YteaadaaghhojfaaGreatDoor.PQu
open Go.RowKit Go.Proofs.YteaadaaghhojfaaGreatDoorW.PrintWords Go.Proofs.YteaadaaghhojfaaGreatDoorW.PrintLast Go.Proofs.YteaadaaghhojfaaGreatDoorW.PrintMore
attribute [local go_sem] max2_int min2_int max_two min_two max_three min_three max_four min_four
set_option linter.unusedVariables false
set_option linter.unusedSimpArgs false
set_option maxHeartbeats 8000000
set_option maxRecDepth 100000
def ebbtideref05_Great.l0:Nat→List (S127)→Int→Option (Bool)
 | 0,_,_=>none
 | k+1,x0,x3=>if x3<(x0.length:Int) then (if 0≤x3 then (if (((rd_T127 x0 x3).f1).size:Int)>100 then (some true) else (if (((rd_T127 x0 x3).f2).size:Int)>100 then (some true) else (ebbtideref05_Great.l0 k x0 (wrap64 (x3+1))))) else (none)) else (some false)
def ebbtideref05_Great.f (k:Nat) (l0:List (S127)):Option (Bool):=if (l0.length:Int)>20 then (some true) else (ebbtideref05_Great.l0 k l0 0)
theorem ebbtideref05_Great.mono_l:∀ k,(∀ y0 y1,LeO (ebbtideref05_Great.l0 k y0 y1) (ebbtideref05_Great.l0 (k+1) y0 y1))
 | 0=>fun _ _ r h=>by simp [ebbtideref05_Great.l0] at h
 | k+1=>by
  have ih0:=ebbtideref05_Great.mono_l k
  ·intro y0 y1
   unfold ebbtideref05_Great.l0
   repeat' first
   | (with_reducible exact ih0 _ _)
   | (with_reducible exact LeO.refl _)
   | (with_reducible exact LeO.none _)
   | (with_reducible refine LeO.ite ?_ ?_)
   | (with_reducible refine LeO.bind ?_ (fun _=>?_))
   | exact ih0 _ _
   | exact LeO.none _
   | refine LeO.ite ?_ ?_
   | refine LeO.bind ?_ (fun _=>?_)
theorem ebbtideref05_Great.mono:∀ a0 k,LeO (ebbtideref05_Great.f k a0) (ebbtideref05_Great.f (k+1) a0):=by
 intro a0 k
 have ih0:=ebbtideref05_Great.mono_l k
 unfold ebbtideref05_Great.f
 repeat' first
   | (with_reducible exact ih0 _ _)
   | (with_reducible exact LeO.refl _)
   | (with_reducible exact LeO.none _)
   | (with_reducible refine LeO.ite ?_ ?_)
   | (with_reducible refine LeO.bind ?_ (fun _=>?_))
   | exact ih0 _ _
   | exact LeO.none _
   | refine LeO.ite ?_ ?_
   | refine LeO.bind ?_ (fun _=>?_)
theorem ebbtideref05_Great.calls (k:Nat) (A0:Option Addr) (c0:Nat) (l0:List (S127)) (r:Bool) (w:World) (hr0:Kd.C k127 w A0 l0.length l0) (hc0:l0.length≤c0) (h:ebbtideref05_Great.f k l0=some r) :
  Calls Tryz.prog 49 #[.slice A0 l0.length c0] w fun e w'=>e = .returned (.bool r)∧Drawn0 w w':=by
 have HR0:=Aside0.mk hr0
 have HC0:=Aside0.mk hc0
 clear hr0 hc0
 have H:(if (l0.length:Int)>20 then (some true) else (ebbtideref05_Great.l0 k l0 0))=some r:=h
 clear h
 by_cases c2:(l0.length:Int)>20
 ·rw [if_pos c2] at H
  have c2b0:decide (20<(l0.length:Int))=true:=decide_eq_true c2
  have c2b1:decide (20<l0.length)=true:=decide_eq_true (by omega)
  clear c2
  obtain rfl:=Option.some.inj H
  go_enter Tryz.func49,Tryz.ntmps49
  go_wp2
  go_ret
  exact ⟨qS,qD⟩
 rw [if_neg c2] at H
 have c2b0:decide (20<(l0.length:Int))=false:=decide_eq_false c2
 have c2b1:decide (20<l0.length)=false:=decide_eq_false (by omega)
 clear c2
 have H':=Aside0.mk H
 clear H
 go_enter Tryz.func49,Tryz.ntmps49
 go_wp2
 go_loopg [3] k (fun kq v3 w'=>∃ (x3_1:Int),v3 = .int .i64 x3_1∧Aside0 (ebbtideref05_Great.l0 kq l0 x3_1=some r)∧Aside0 (kq≤k)∧Drawn0 w w')
 case atStart=>exact ⟨(0),qS,H',⟨Nat.le_refl _⟩,qD⟩
 case round =>
  clear H'
  try clear c2b0;try clear c2b1
  obtain ⟨x3_1,rfl,HA,HK1,⟨m1,rfl⟩⟩:=hrel
  cases gk with
  | zero=>exact absurd HA.out (by simp [ebbtideref05_Great.l0])
  | succ k1 =>
   have H:=HA.out
   clear HA
   simp only [ebbtideref05_Great.l0] at H
   by_cases c3:x3_1<(l0.length:Int)
   rotate_left
   ·rw [if_neg c3] at H
    have c3b0:decide (x3_1<(l0.length:Int))=false:=decide_eq_false c3
    clear c3
    obtain rfl:=Option.some.inj H
    go_wp2
    go_ret
    exact ⟨qS,qD⟩
   rw [if_pos c3] at H
   have c3b0:decide (x3_1<(l0.length:Int))=true:=decide_eq_true c3
   clear c3
   by_cases c4:0≤x3_1
   rotate_left
   ·rw [if_neg c4] at H
    exact absurd H (by simp)
   rw [if_pos c4] at H
   have c4b0:decide (0≤x3_1)=true:=decide_eq_true c4
   clear c4
   by_cases c5:(((rd_T127 l0 x3_1).f1).size:Int)>100
   ·rw [if_pos c5] at H
    have c5b0:decide (100<(((rd_T127 l0 x3_1).f1).size:Int))=true:=decide_eq_true c5
    have c5b1:decide (100<((rd_T127 l0 x3_1).f1).size)=true:=decide_eq_true (by omega)
    clear c5
    obtain rfl:=Option.some.inj H
    have p389:0≤(x3_1:Int):=of_decide_eq_true qA
    have q389:x3_1<(l0.length:Int):=of_decide_eq_true qA
    obtain ⟨ad389,e389,hx389_0,hx389_1,hx389_2⟩:=at_T127 HR0.out x3_1 p389 q389
    cases e389
    replace p389:=eq_true p389
    replace q389:=eq_true q389
    go_wp2
    go_ret
    exact ⟨qS,qD⟩
   rw [if_neg c5] at H
   have c5b0:decide (100<(((rd_T127 l0 x3_1).f1).size:Int))=false:=decide_eq_false c5
   have c5b1:decide (100<((rd_T127 l0 x3_1).f1).size)=false:=decide_eq_false (by omega)
   clear c5
   by_cases c6:(((rd_T127 l0 x3_1).f2).size:Int)>100
   ·rw [if_pos c6] at H
    have c6b0:decide (100<(((rd_T127 l0 x3_1).f2).size:Int))=true:=decide_eq_true c6
    have c6b1:decide (100<((rd_T127 l0 x3_1).f2).size)=true:=decide_eq_true (by omega)
    clear c6
    obtain rfl:=Option.some.inj H
    have p389:0≤(x3_1:Int):=of_decide_eq_true qA
    have q389:x3_1<(l0.length:Int):=of_decide_eq_true qA
    obtain ⟨ad389,e389,hx389_0,hx389_1,hx389_2⟩:=at_T127 HR0.out x3_1 p389 q389
    cases e389
    replace p389:=eq_true p389
    replace q389:=eq_true q389
    have p390:0≤(x3_1:Int):=of_decide_eq_true qA
    have q390:x3_1<(l0.length:Int):=of_decide_eq_true qA
    obtain ⟨ad390,e390,hx390_0,hx390_1,hx390_2⟩:=at_T127 HR0.out x3_1 p390 q390
    obtain rfl:ad389=ad390:=(by injection e390)
    replace p390:=eq_true p390
    replace q390:=eq_true q390
    go_wp2
    go_ret
    exact ⟨qS,qD⟩
   rw [if_neg c6] at H
   have c6b0:decide (100<(((rd_T127 l0 x3_1).f2).size:Int))=false:=decide_eq_false c6
   have c6b1:decide (100<((rd_T127 l0 x3_1).f2).size)=false:=decide_eq_false (by omega)
   clear c6
   have H':=Aside0.mk H
   clear H
   have p389:0≤(x3_1:Int):=of_decide_eq_true qA
   have q389:x3_1<(l0.length:Int):=of_decide_eq_true qA
   obtain ⟨ad389,e389,hx389_0,hx389_1,hx389_2⟩:=at_T127 HR0.out x3_1 p389 q389
   cases e389
   replace p389:=eq_true p389
   replace q389:=eq_true q389
   have p390:0≤(x3_1:Int):=of_decide_eq_true qA
   have q390:x3_1<(l0.length:Int):=of_decide_eq_true qA
   obtain ⟨ad390,e390,hx390_0,hx390_1,hx390_2⟩:=at_T127 HR0.out x3_1 p390 q390
   obtain rfl:ad389=ad390:=(by injection e390)
   replace p390:=eq_true p390
   replace q390:=eq_true q390
   go_wp2
   go_roundg k1
   case measure=>have:=HK1.out;omega
   case rel=>exact ⟨(wrap64 (x3_1+1)),qS,H',⟨by have:=HK1.out;omega⟩,qD⟩
mutual
def ebbtideref07_Great.j0:Nat→Bool→Int→ByteArray→List (S127)→List ByteArray→Option (Bool)
 | 0,_,_,_,_,_=>none
 | k+1,x18,x392000,x392001,x392002,x392003=>if x18=true then (some true) else (ebbtideref07_Great.l0 k 0 x392000 x392001 x392002 x392003)
def ebbtideref07_Great.l0:Nat→Int→Int→ByteArray→List (S127)→List ByteArray→Option (Bool)
 | 0,_,_,_,_,_=>none
 | k+1,x3,x392000,x392001,x392002,x392003=>if x3<(x392003.length:Int) then (if 0≤x3 then (if ((rdOf ByteArray.empty x392003 x3).size:Int)>100 then (some true) else (ebbtideref07_Great.l0 k (wrap64 (x3+1)) x392000 x392001 x392002 x392003)) else (none)) else (some false)
end
def ebbtideref07_Great.f (k:Nat) (a0_0:Int) (a0_1:ByteArray) (l0_2:List (S127)) (l0_3:List ByteArray):Option (Bool):=if (a0_1.size:Int)>200 then (ebbtideref07_Great.j0 k true a0_0 a0_1 l0_2 l0_3) else ((ebbtideref05_Great.f k l0_2).bind fun t392=>(if t392=true then (ebbtideref07_Great.j0 k true a0_0 a0_1 l0_2 l0_3) else (ebbtideref07_Great.j0 k (decide ((l0_3.length:Int)>20)) a0_0 a0_1 l0_2 l0_3)))
theorem ebbtideref07_Great.mono_l:∀ k,(∀ y0 y1 y2 y3 y4,LeO (ebbtideref07_Great.j0 k y0 y1 y2 y3 y4) (ebbtideref07_Great.j0 (k+1) y0 y1 y2 y3 y4))∧(∀ y0 y1 y2 y3 y4,LeO (ebbtideref07_Great.l0 k y0 y1 y2 y3 y4) (ebbtideref07_Great.l0 (k+1) y0 y1 y2 y3 y4))
 | 0=>⟨fun _ _ _ _ _ r h=>by simp [ebbtideref07_Great.j0] at h,fun _ _ _ _ _ r h=>by simp [ebbtideref07_Great.l0] at h⟩
 | k+1=>by
  obtain ⟨ih0,ih1⟩:=ebbtideref07_Great.mono_l k
  refine ⟨?_,?_⟩
  ·intro y0 y1 y2 y3 y4
   unfold ebbtideref07_Great.j0
   repeat' first
   | (with_reducible exact ih0 _ _ _ _ _)
   | (with_reducible exact ih1 _ _ _ _ _)
   | (with_reducible exact ebbtideref05_Great.mono _ _)
   | (with_reducible exact LeO.refl _)
   | (with_reducible exact LeO.none _)
   | (with_reducible refine LeO.ite ?_ ?_)
   | (with_reducible refine LeO.bind ?_ (fun _=>?_))
   | exact ih0 _ _ _ _ _
   | exact ih1 _ _ _ _ _
   | exact ebbtideref05_Great.mono _ _
   | exact LeO.none _
   | refine LeO.ite ?_ ?_
   | refine LeO.bind ?_ (fun _=>?_)
  ·intro y0 y1 y2 y3 y4
   unfold ebbtideref07_Great.l0
   repeat' first
   | (with_reducible exact ih0 _ _ _ _ _)
   | (with_reducible exact ih1 _ _ _ _ _)
   | (with_reducible exact ebbtideref05_Great.mono _ _)
   | (with_reducible exact LeO.refl _)
   | (with_reducible exact LeO.none _)
   | (with_reducible refine LeO.ite ?_ ?_)
   | (with_reducible refine LeO.bind ?_ (fun _=>?_))
   | exact ih0 _ _ _ _ _
   | exact ih1 _ _ _ _ _
   | exact ebbtideref05_Great.mono _ _
   | exact LeO.none _
   | refine LeO.ite ?_ ?_
   | refine LeO.bind ?_ (fun _=>?_)
theorem ebbtideref07_Great.mono:∀ a0 a1 a2 a3 k,LeO (ebbtideref07_Great.f k a0 a1 a2 a3) (ebbtideref07_Great.f (k+1) a0 a1 a2 a3):=by
 intro a0 a1 a2 a3 k
 obtain ⟨ih0,ih1⟩:=ebbtideref07_Great.mono_l k
 unfold ebbtideref07_Great.f
 repeat' first
   | (with_reducible exact ih0 _ _ _ _ _)
   | (with_reducible exact ih1 _ _ _ _ _)
   | (with_reducible exact ebbtideref05_Great.mono _ _)
   | (with_reducible exact LeO.refl _)
   | (with_reducible exact LeO.none _)
   | (with_reducible refine LeO.ite ?_ ?_)
   | (with_reducible refine LeO.bind ?_ (fun _=>?_))
   | exact ih0 _ _ _ _ _
   | exact ih1 _ _ _ _ _
   | exact ebbtideref05_Great.mono _ _
   | exact LeO.none _
   | refine LeO.ite ?_ ?_
   | refine LeO.bind ?_ (fun _=>?_)
theorem ebbtideref07_Great.calls (k:Nat) (a0_0:Int) (a0_1:ByteArray) (A0_2:Option Addr) (c0_2:Nat) (l0_2:List (S127)) (A0_3:Option Addr) (c0_3:Nat) (l0_3:List ByteArray) (r:Bool) (w:World) (hr0_2:Kd.C k127 w A0_2 l0_2.length l0_2) (hc0_2:l0_2.length≤c0_2) (hr0_3:Kd.C Kd.string w A0_3 l0_3.length l0_3) (hc0_3:l0_3.length≤c0_3) (h:ebbtideref07_Great.f k a0_0 a0_1 l0_2 l0_3=some r) :
  Calls Tryz.prog 13 #[.agg #[.int .i64 a0_0, .string a0_1, .slice A0_2 l0_2.length c0_2, .slice A0_3 l0_3.length c0_3]] w fun e w'=>e = .returned (.bool r)∧Below w.heap.size w w':=by
 have hu25:=Tryz.underlying25
 have HR0_2:=Aside0.mk hr0_2
 have HC0_2:=Aside0.mk hc0_2
 clear hr0_2 hc0_2
 have HR0_3:=Aside0.mk hr0_3
 have HC0_3:=Aside0.mk hc0_3
 clear hr0_3 hc0_3
 have HB:=Aside0.mk (Below.refl w.heap.size w)
 have H:(if (a0_1.size:Int)>200 then (ebbtideref07_Great.j0 k true a0_0 a0_1 l0_2 l0_3) else ((ebbtideref05_Great.f k l0_2).bind fun t392=>(if t392=true then (ebbtideref07_Great.j0 k true a0_0 a0_1 l0_2 l0_3) else (ebbtideref07_Great.j0 k (decide ((l0_3.length:Int)>20)) a0_0 a0_1 l0_2 l0_3))))=some r:=h
 clear h
 have HC2:=Aside0.mk H
 clear H
 go_enter Tryz.func13,Tryz.ntmps13
 go_upto_region 1 with (first|((with_reducible refine gate_dst (N:=1) rfl ?_);(try (refine gate_guard (by rfl) ?_;dsimp only));refine box_event ?hg (N:=1) ?hd (cs:=#[.int .i64 a0_0, .string a0_1, .slice A0_2 l0_2.length c0_2, .slice A0_3 l0_3.length c0_3]) (t:=25) ?hr ?_;(case hd=>rfl);(case hg=>rfl);(case hr=>first|(go_simp;done)|(go_simp;rfl));intro gb391 hg w3 hbox hb;have BK391:=Aside0.mk hbox;have GW391:Aside0 (w.heap.size≤gb391):=⟨qH⟩;have GE391:=GW391;replace HB:=Aside0.mk (below_step qB hb);clear hb hbox hg))
 (try simp only [Act.put,List.setIfInBounds_toArray,List.set_cons_zero,List.set_cons_succ])
 go_cut [18] (fun v18 wc=>∃ (kq:Nat) (x18_1:Bool),v18 = .bool x18_1∧Aside0 (ebbtideref07_Great.j0 kq x18_1 a0_0 a0_1 l0_2 l0_3=some r)∧Aside0 (kq≤k)∧Aside0 (wc.heap[gb391]?=some (.cells #[.int .i64 a0_0, .string a0_1,(.slice A0_2 l0_2.length c0_2),(.slice A0_3 l0_3.length c0_3)] 25 (0,0)))∧Aside0 (Below w.heap.size w wc))
 case first =>
  have H:=HC2.out
  clear HC2
  by_cases c4:(a0_1.size:Int)>200
  ·rw [if_pos c4] at H
   have c4b0:decide (200<(a0_1.size:Int))=true:=decide_eq_true c4
   have c4b1:decide (200<a0_1.size)=true:=decide_eq_true (by omega)
   clear c4
   (first|rw [c4b0]|(simp only [i64_w,i32_w];rw [c4b0])|rw [c4b1]|skip)
   have H':=Aside0.mk H
   clear H
   obtain ⟨hcz5_0,hcz5_1,hcz5_2,hcz5_3,hfz5_0,hfz5_1,hfz5_2,hfz5_3⟩:=cf4 BK391.out
   go_wp2
   go_meet
   case rel=>exact ⟨_,(true),qS,H',⟨by first|omega|exact Nat.le_refl _⟩,⟨qW BK391⟩,⟨qC⟩⟩
  rw [if_neg c4] at H
  have c4b0:decide (200<(a0_1.size:Int))=false:=decide_eq_false c4
  have c4b1:decide (200<a0_1.size)=false:=decide_eq_false (by omega)
  clear c4
  (first|rw [c4b0]|(simp only [i64_w,i32_w];rw [c4b0])|rw [c4b1]|skip)
  replace H:=Option.bind_eq_some_iff.mp H
  obtain ⟨t392,A60,H⟩:=H
  replace H:(if t392=true then (ebbtideref07_Great.j0 k true a0_0 a0_1 l0_2 l0_3) else (ebbtideref07_Great.j0 k (decide ((l0_3.length:Int)>20)) a0_0 a0_1 l0_2 l0_3))=some r:=H
  have A6:=Aside0.mk A60
  clear A60
  by_cases c7:t392=true
  ·subst c7
   have H1:(ebbtideref07_Great.j0 k true a0_0 a0_1 l0_2 l0_3)=some r:=by rw [if_pos rfl] at H;exact H
   clear H
   have H:=H1
   clear H1
   have H':=Aside0.mk H
   clear H
   obtain ⟨hcz8_0,hcz8_1,hcz8_2,hcz8_3,hfz8_0,hfz8_1,hfz8_2,hfz8_3⟩:=cf4 BK391.out
   go_wp2_with (first|(go_at_call 49;(with_reducible refine (ebbtideref05_Great.calls k _ _ l0_2 true _ ?side1 ?side2 A6.out).mono ?_);(case side1=>repeat (first|exact (Kd.C_below HR0_2.out HB.out)|(with_reducible refine Kd.C_alloc ?_ _)|(with_reducible refine Kd.C_drewN ?_ _)|(with_reducible refine Kd.C_drew ?_)));(case side2=>exact HC0_2.out);rintro e w' ⟨rfl,⟨nd,rfl⟩⟩))
   go_meet
   case rel=>exact ⟨_,(true),qS,H',⟨by first|omega|exact Nat.le_refl _⟩,⟨qW BK391⟩,⟨qC⟩⟩
  replace c7:=Bool.eq_false_iff.mpr c7
  subst c7
  have H1:(ebbtideref07_Great.j0 k (decide ((l0_3.length:Int)>20)) a0_0 a0_1 l0_2 l0_3)=some r:=by rw [if_neg (show ¬ (false=true) by decide)] at H;exact H
  clear H
  have H:=H1
  clear H1
  have H':=Aside0.mk H
  clear H
  obtain ⟨hcz9_0,hcz9_1,hcz9_2,hcz9_3,hfz9_0,hfz9_1,hfz9_2,hfz9_3⟩:=cf4 BK391.out
  go_wp2_with (first|(go_at_call 49;(with_reducible refine (ebbtideref05_Great.calls k _ _ l0_2 false _ ?side1 ?side2 A6.out).mono ?_);(case side1=>repeat (first|exact (Kd.C_below HR0_2.out HB.out)|(with_reducible refine Kd.C_alloc ?_ _)|(with_reducible refine Kd.C_drewN ?_ _)|(with_reducible refine Kd.C_drew ?_)));(case side2=>exact HC0_2.out);rintro e w' ⟨rfl,⟨nd,rfl⟩⟩))
  go_meet
  case rel=>exact ⟨_,(decide ((l0_3.length:Int)>20)),qS,H',⟨by first|omega|exact Nat.le_refl _⟩,⟨qW BK391⟩,⟨qC⟩⟩
 case rest =>
  clear HC2
  obtain ⟨kq,x18_1,rfl,HA,HJ1,BK391,HB⟩:=hcut
  cases kq with
  | zero=>exact absurd HA.out (by simp [ebbtideref07_Great.j0])
  | succ kj1 =>
   have H:=HA.out
   clear HA
   simp only [ebbtideref07_Great.j0] at H
   by_cases c10:x18_1=true
   ·subst c10
    have H1:(some true)=some r:=by rw [if_pos rfl] at H;exact H
    clear H
    have H:=H1
    clear H1
    obtain rfl:=Option.some.inj H
    go_wp2
    go_ret
    exact ⟨qE,qC⟩
   replace c10:=Bool.eq_false_iff.mpr c10
   subst c10
   have H1:(ebbtideref07_Great.l0 kj1 0 a0_0 a0_1 l0_2 l0_3)=some r:=by rw [if_neg (show ¬ (false=true) by decide)] at H;exact H
   clear H
   have H:=H1
   clear H1
   have H':=Aside0.mk H
   clear H
   go_wp2
   go_loopg [3] kj1 (fun kq v3 w'=>∃ (x3_2:Int),v3 = .int .i64 x3_2∧Aside0 (ebbtideref07_Great.l0 kq x3_2 a0_0 a0_1 l0_2 l0_3=some r)∧Aside0 (kq≤kj1)∧Aside0 (w'.heap[gb391]?=some (.cells #[.int .i64 a0_0, .string a0_1,(.slice A0_2 l0_2.length c0_2),(.slice A0_3 l0_3.length c0_3)] 25 (0,0)))∧Aside0 (Below w.heap.size w w'))
   case atStart=>exact ⟨(0),qS,H',⟨Nat.le_refl _⟩,⟨qW BK391⟩,⟨qC⟩⟩
   case round =>
    clear H'
    try clear c10
    obtain ⟨x3_2,rfl,HA,HK2,BK391,HB⟩:=hrel
    cases gk with
    | zero=>exact absurd HA.out (by simp [ebbtideref07_Great.l0])
    | succ k2 =>
     have H:=HA.out
     clear HA
     simp only [ebbtideref07_Great.l0] at H
     by_cases c11:x3_2<(l0_3.length:Int)
     rotate_left
     ·rw [if_neg c11] at H
      have c11b0:decide (x3_2<(l0_3.length:Int))=false:=decide_eq_false c11
      clear c11
      obtain rfl:=Option.some.inj H
      obtain ⟨hcz16_0,hcz16_1,hcz16_2,hcz16_3,hfz16_0,hfz16_1,hfz16_2,hfz16_3⟩:=cf4 BK391.out
      go_wp2
      go_ret
      exact ⟨qE,qC⟩
     rw [if_pos c11] at H
     have c11b0:decide (x3_2<(l0_3.length:Int))=true:=decide_eq_true c11
     clear c11
     by_cases c12:0≤x3_2
     rotate_left
     ·rw [if_neg c12] at H
      exact absurd H (by simp)
     rw [if_pos c12] at H
     have c12b0:decide (0≤x3_2)=true:=decide_eq_true c12
     clear c12
     by_cases c13:((rdOf ByteArray.empty l0_3 x3_2).size:Int)>100
     ·rw [if_pos c13] at H
      have c13b0:decide (100<((rdOf ByteArray.empty l0_3 x3_2).size:Int))=true:=decide_eq_true c13
      have c13b1:decide (100<(rdOf ByteArray.empty l0_3 x3_2).size)=true:=decide_eq_true (by omega)
      clear c13
      obtain rfl:=Option.some.inj H
      obtain ⟨hcz14_0,hcz14_1,hcz14_2,hcz14_3,hfz14_0,hfz14_1,hfz14_2,hfz14_3⟩:=cf4 BK391.out
      have p393:0≤(x3_2:Int):=of_decide_eq_true qA
      have q393:x3_2<(l0_3.length:Int):=of_decide_eq_true qA
      obtain ⟨ad393,e393,hx393_0⟩:=Kd.at_string HR0_3.out x3_2 p393 q393
      cases e393
      replace hx393_0:=(HB.out.cell (World.block_lt_of_cell? w _ hx393_0)).trans hx393_0
      replace p393:=eq_true p393
      replace q393:=eq_true q393
      go_wp2
      go_ret
      exact ⟨qE,qC⟩
     rw [if_neg c13] at H
     have c13b0:decide (100<((rdOf ByteArray.empty l0_3 x3_2).size:Int))=false:=decide_eq_false c13
     have c13b1:decide (100<(rdOf ByteArray.empty l0_3 x3_2).size)=false:=decide_eq_false (by omega)
     clear c13
     have H':=Aside0.mk H
     clear H
     obtain ⟨hcz15_0,hcz15_1,hcz15_2,hcz15_3,hfz15_0,hfz15_1,hfz15_2,hfz15_3⟩:=cf4 BK391.out
     have p393:0≤(x3_2:Int):=of_decide_eq_true qA
     have q393:x3_2<(l0_3.length:Int):=of_decide_eq_true qA
     obtain ⟨ad393,e393,hx393_0⟩:=Kd.at_string HR0_3.out x3_2 p393 q393
     cases e393
     replace hx393_0:=(HB.out.cell (World.block_lt_of_cell? w _ hx393_0)).trans hx393_0
     replace p393:=eq_true p393
     replace q393:=eq_true q393
     go_wp2
     go_roundg k2
     case measure=>have:=HJ1.out;have:=HK2.out;omega
     case rel=>exact ⟨(wrap64 (x3_2+1)),qS,H',⟨by have:=HJ1.out;have:=HK2.out;omega⟩,⟨qW BK391⟩,⟨qC⟩⟩
def ebbtideref05_may.j0:Nat→Int→Bool→Int→ByteArray→ByteArray→Option (Bool)
 | 0,_,_,_,_,_=>none
 | k+1,x8,x9,x395000,x395001,x395002=>if x9=true then ((ebbtideref02_Value.f k x395002).bind fun t396=>(some t396)) else (if x8=3 then (if x395002.toList=([]:List UInt8) then (some true) else ((ebbtideref02_Value.f k x395002).bind fun t397=>(some t397))) else (if x8=4 then (some (x395002.toList ==([]:List UInt8))) else (some false)))
def ebbtideref05_may.f (k:Nat) (a0_0:Int) (a0_1:ByteArray) (a0_2:ByteArray):Option (Bool):=(ebbtideref02_Name.f k a0_1).bind fun t395=>(if t395=true then (if a0_0=1 then (ebbtideref05_may.j0 k a0_0 (a0_0 ==1) a0_0 a0_1 a0_2) else (ebbtideref05_may.j0 k a0_0 (a0_0 ==2) a0_0 a0_1 a0_2)) else (some false))
theorem ebbtideref05_may.mono_l:∀ k,(∀ y0 y1 y2 y3 y4,LeO (ebbtideref05_may.j0 k y0 y1 y2 y3 y4) (ebbtideref05_may.j0 (k+1) y0 y1 y2 y3 y4))
 | 0=>fun _ _ _ _ _ r h=>by simp [ebbtideref05_may.j0] at h
 | k+1=>by
  have ih0:=ebbtideref05_may.mono_l k
  ·intro y0 y1 y2 y3 y4
   unfold ebbtideref05_may.j0
   repeat' first
   | (with_reducible exact ih0 _ _ _ _ _)
   | (with_reducible exact ebbtideref02_Name.mono _ _)
   | (with_reducible exact ebbtideref02_Value.mono _ _)
   | (with_reducible exact LeO.refl _)
   | (with_reducible exact LeO.none _)
   | (with_reducible refine LeO.ite ?_ ?_)
   | (with_reducible refine LeO.bind ?_ (fun _=>?_))
   | exact ih0 _ _ _ _ _
   | exact ebbtideref02_Name.mono _ _
   | exact ebbtideref02_Value.mono _ _
   | exact LeO.none _
   | refine LeO.ite ?_ ?_
   | refine LeO.bind ?_ (fun _=>?_)
theorem ebbtideref05_may.mono:∀ a0 a1 a2 k,LeO (ebbtideref05_may.f k a0 a1 a2) (ebbtideref05_may.f (k+1) a0 a1 a2):=by
 intro a0 a1 a2 k
 have ih0:=ebbtideref05_may.mono_l k
 unfold ebbtideref05_may.f
 repeat' first
   | (with_reducible exact ih0 _ _ _ _ _)
   | (with_reducible exact ebbtideref02_Name.mono _ _)
   | (with_reducible exact ebbtideref02_Value.mono _ _)
   | (with_reducible exact LeO.refl _)
   | (with_reducible exact LeO.none _)
   | (with_reducible refine LeO.ite ?_ ?_)
   | (with_reducible refine LeO.bind ?_ (fun _=>?_))
   | exact ih0 _ _ _ _ _
   | exact ebbtideref02_Name.mono _ _
   | exact ebbtideref02_Value.mono _ _
   | exact LeO.none _
   | refine LeO.ite ?_ ?_
   | refine LeO.bind ?_ (fun _=>?_)
theorem ebbtideref05_may.calls (k:Nat) (a0_0:Int) (a0_1:ByteArray) (a0_2:ByteArray) (r:Bool) (w:World) (h:ebbtideref05_may.f k a0_0 a0_1 a0_2=some r) :
  Calls Tryz.prog 111 #[.agg #[.int .i64 a0_0, .string a0_1, .string a0_2]] w fun e w'=>e = .returned (.bool r)∧Below w.heap.size w w':=by
 have hu127:=Tryz.underlying127
 have HB:=Aside0.mk (Below.refl w.heap.size w)
 have H:((ebbtideref02_Name.f k a0_1).bind fun t395=>(if t395=true then (if a0_0=1 then (ebbtideref05_may.j0 k a0_0 (a0_0 ==1) a0_0 a0_1 a0_2) else (ebbtideref05_may.j0 k a0_0 (a0_0 ==2) a0_0 a0_1 a0_2)) else (some false)))=some r:=h
 clear h
 replace H:=Option.bind_eq_some_iff.mp H
 obtain ⟨t395,A20,H⟩:=H
 replace H:(if t395=true then (if a0_0=1 then (ebbtideref05_may.j0 k a0_0 (a0_0 ==1) a0_0 a0_1 a0_2) else (ebbtideref05_may.j0 k a0_0 (a0_0 ==2) a0_0 a0_1 a0_2)) else (some false))=some r:=H
 have A2:=Aside0.mk A20
 clear A20
 by_cases c3:t395=true
 rotate_left
 ·replace c3:=Bool.eq_false_iff.mpr c3
  subst c3
  have H1:(some false)=some r:=by rw [if_neg (show ¬ (false=true) by decide)] at H;exact H
  clear H
  have H:=H1
  clear H1
  obtain rfl:=Option.some.inj H
  go_enter Tryz.func111,Tryz.ntmps111
  go_wp2_with (first|((with_reducible refine gate_dst (N:=1) rfl ?_);refine box_event ?hg (N:=1) ?hd (cs:=#[.int .i64 a0_0, .string a0_1, .string a0_2]) (t:=127) ?hr ?_;(case hd=>rfl);(case hg=>rfl);(case hr=>first|(go_simp;done)|(go_simp;rfl));intro gb394 hg w18 hbox hb;have BK394:=Aside0.mk hbox;have GW394:Aside0 (w.heap.size≤gb394):=⟨qH⟩;have GE394:=GW394;replace HB:=Aside0.mk (below_step qB hb);clear hb hbox hg;obtain ⟨hcz19_0,hcz19_1,hcz19_2,hfz19_0,hfz19_1,hfz19_2⟩:=cf3 BK394.out)|((with_reducible refine gate_callee (f:=54) rfl ?_);refine goesL_ (some 5) rfl rfl Tryz.func54 qK rfl #[.string a0_1] rfl qG ?_;(with_reducible refine (ebbtideref02_Name.calls k a0_1 false _ A2.out).mono ?_);rintro e w' ⟨rfl,⟨nd,rfl⟩⟩;refine ⟨_,rfl,?_⟩))
  go_ret
  exact ⟨qE,qC⟩
 subst c3
 have H1:(if a0_0=1 then (ebbtideref05_may.j0 k a0_0 (a0_0 ==1) a0_0 a0_1 a0_2) else (ebbtideref05_may.j0 k a0_0 (a0_0 ==2) a0_0 a0_1 a0_2))=some r:=by rw [if_pos rfl] at H;exact H
 clear H
 have H:=H1
 clear H1
 have HC4:=Aside0.mk H
 clear H
 go_enter Tryz.func111,Tryz.ntmps111
 go_upto_if 9 with (first|((with_reducible refine gate_dst (N:=1) rfl ?_);refine box_event ?hg (N:=1) ?hd (cs:=#[.int .i64 a0_0, .string a0_1, .string a0_2]) (t:=127) ?hr ?_;(case hd=>rfl);(case hg=>rfl);(case hr=>first|(go_simp;done)|(go_simp;rfl));intro gb394 hg w5 hbox hb;have BK394:=Aside0.mk hbox;have GW394:Aside0 (w.heap.size≤gb394):=⟨qH⟩;have GE394:=GW394;replace HB:=Aside0.mk (below_step qB hb);clear hb hbox hg;obtain ⟨hcz6_0,hcz6_1,hcz6_2,hfz6_0,hfz6_1,hfz6_2⟩:=cf3 BK394.out)|((with_reducible refine gate_callee (f:=54) rfl ?_);refine goesL_ (some 5) rfl rfl Tryz.func54 qK rfl #[.string a0_1] rfl qG ?_;(with_reducible refine (ebbtideref02_Name.calls k a0_1 true _ A2.out).mono ?_);rintro e w' ⟨rfl,⟨nd,rfl⟩⟩;refine ⟨_,rfl,?_⟩))
 (try simp only [Act.put,List.setIfInBounds_toArray,List.set_cons_zero,List.set_cons_succ])
 go_cut [9] (fun v9 wc=>∃ (kq:Nat) (x9_3:Bool),v9 = .bool x9_3∧Aside0 (ebbtideref05_may.j0 kq a0_0 x9_3 a0_0 a0_1 a0_2=some r)∧Aside0 (kq≤k)∧Aside0 (wc.heap[gb394]?=some (.cells #[.int .i64 a0_0, .string a0_1, .string a0_2] 127 (0,0)))∧Aside0 (Below w.heap.size w wc))
 case first =>
  have H:=HC4.out
  clear HC4
  by_cases c7:a0_0=1
  rotate_left
  ·rw [if_neg c7] at H
   have c7b0:(a0_0 ==1)=false:=beq_eq_false_iff_ne.mpr c7
   have c7b1:(a0_0 != 1)=true:=bne_iff_ne.mpr c7
   (first|rw [c7b0]|(simp only [i64_w,i32_w];rw [c7b0])|rw [c7b1]|skip)
   have H':=Aside0.mk H
   clear H
   go_wp2
   go_meet
   case rel=>exact ⟨_,((a0_0 ==2)),qS,H',⟨by first|omega|exact Nat.le_refl _⟩,⟨qW BK394⟩,⟨qC⟩⟩
  rw [if_pos c7] at H
  have c7b0:(a0_0 ==1)=true:=beq_iff_eq.mpr c7
  have c7b1:(a0_0 != 1)=false:=bne_eq_false_iff_eq.mpr c7
  clear c7
  (first|rw [c7b0]|(simp only [i64_w,i32_w];rw [c7b0])|rw [c7b1]|skip)
  have H':=Aside0.mk H
  clear H
  go_wp2
  go_meet
  case rel=>exact ⟨_,((a0_0 ==1)),qS,H',⟨by first|omega|exact Nat.le_refl _⟩,⟨qW BK394⟩,⟨qC⟩⟩
 case rest =>
  clear HC4
  try clear c3;try clear hcz6_0;try clear hcz6_1;try clear hcz6_2;try clear hfz6_0;try clear hfz6_1;try clear hfz6_2
  obtain ⟨kq,x9_3,rfl,HA,HJ3,BK394,HB⟩:=hcut
  cases kq with
  | zero=>exact absurd HA.out (by simp [ebbtideref05_may.j0])
  | succ kj3 =>
   have H:=HA.out
   clear HA
   simp only [ebbtideref05_may.j0] at H
   by_cases c8:x9_3=true
   ·subst c8
    have H1:((ebbtideref02_Value.f kj3 a0_2).bind fun t396=>(some t396))=some r:=by rw [if_pos rfl] at H;exact H
    clear H
    have H:=H1
    clear H1
    replace H:=Option.bind_eq_some_iff.mp H
    obtain ⟨t396,A90,H⟩:=H
    replace H:(some t396)=some r:=H
    have A9:=Aside0.mk A90
    clear A90
    obtain rfl:=Option.some.inj H
    obtain ⟨hcz10_0,hcz10_1,hcz10_2,hfz10_0,hfz10_1,hfz10_2⟩:=cf3 BK394.out
    go_wp2_with (first|((with_reducible refine gate_callee (f:=142) rfl ?_);refine goesL_ (some 14) rfl rfl Tryz.func142 qK rfl #[.string a0_2] rfl qG ?_;(with_reducible refine (ebbtideref02_Value.calls kj3 a0_2 t396 _ A9.out).mono ?_);rintro e w' ⟨rfl,⟨nd,rfl⟩⟩;refine ⟨_,rfl,?_⟩))
    go_ret
    exact ⟨qE,qC⟩
   replace c8:=Bool.eq_false_iff.mpr c8
   subst c8
   have H1:(if a0_0=3 then (if a0_2.toList=([]:List UInt8) then (some true) else ((ebbtideref02_Value.f kj3 a0_2).bind fun t397=>(some t397))) else (if a0_0=4 then (some (a0_2.toList ==([]:List UInt8))) else (some false)))=some r:=by rw [if_neg (show ¬ (false=true) by decide)] at H;exact H
   clear H
   have H:=H1
   clear H1
   by_cases c11:a0_0=3
   rotate_left
   ·rw [if_neg c11] at H
    have c11b0:(a0_0 ==3)=false:=beq_eq_false_iff_ne.mpr c11
    have c11b1:(a0_0 != 3)=true:=bne_iff_ne.mpr c11
    by_cases c16:a0_0=4
    rotate_left
    ·rw [if_neg c16] at H
     have c16b0:(a0_0 ==4)=false:=beq_eq_false_iff_ne.mpr c16
     have c16b1:(a0_0 != 4)=true:=bne_iff_ne.mpr c16
     obtain rfl:=Option.some.inj H
     go_wp2
     go_ret
     exact ⟨qE,qC⟩
    rw [if_pos c16] at H
    have c16b0:(a0_0 ==4)=true:=beq_iff_eq.mpr c16
    have c16b1:(a0_0 != 4)=false:=bne_eq_false_iff_eq.mpr c16
    clear c16
    obtain rfl:=Option.some.inj H
    obtain ⟨hcz17_0,hcz17_1,hcz17_2,hfz17_0,hfz17_1,hfz17_2⟩:=cf3 BK394.out
    go_wp2
    go_ret
    exact ⟨qE,qC⟩
   rw [if_pos c11] at H
   have c11b0:(a0_0 ==3)=true:=beq_iff_eq.mpr c11
   have c11b1:(a0_0 != 3)=false:=bne_eq_false_iff_eq.mpr c11
   clear c11
   by_cases c12:a0_2.toList=([]:List UInt8)
   ·rw [if_pos c12] at H
    have c12b0:(a0_2.toList ==([]:List UInt8))=true:=beq_iff_eq.mpr c12
    have c12b1:(a0_2.toList != ([]:List UInt8))=false:=bne_eq_false_iff_eq.mpr c12
    clear c12
    obtain rfl:=Option.some.inj H
    obtain ⟨hcz13_0,hcz13_1,hcz13_2,hfz13_0,hfz13_1,hfz13_2⟩:=cf3 BK394.out
    go_wp2
    go_ret
    exact ⟨qE,qC⟩
   rw [if_neg c12] at H
   have c12b0:(a0_2.toList ==([]:List UInt8))=false:=beq_eq_false_iff_ne.mpr c12
   have c12b1:(a0_2.toList != ([]:List UInt8))=true:=bne_iff_ne.mpr c12
   replace H:=Option.bind_eq_some_iff.mp H
   obtain ⟨t397,A140,H⟩:=H
   replace H:(some t397)=some r:=H
   have A14:=Aside0.mk A140
   clear A140
   obtain rfl:=Option.some.inj H
   obtain ⟨hcz15_0,hcz15_1,hcz15_2,hfz15_0,hfz15_1,hfz15_2⟩:=cf3 BK394.out
   go_wp2_with (first|(go_at_call 142;(with_reducible refine (ebbtideref02_Value.calls kj3 a0_2 t397 _ A14.out).mono ?_);rintro e w' ⟨rfl,⟨nd,rfl⟩⟩))
   go_ret
   exact ⟨qE,qC⟩
def ebbtideref05_Right.l0:Nat→List (S127)→Int→Option (Bool)
 | 0,_,_=>none
 | k+1,x0,x3=>if x3<(x0.length:Int) then (if 0≤x3 then ((ebbtideref05_may.f k ((rd_T127 x0 x3).f0) ((rd_T127 x0 x3).f1) ((rd_T127 x0 x3).f2)).bind fun t399=>(if t399=true then (ebbtideref05_Right.l0 k x0 (wrap64 (x3+1))) else (some false))) else (none)) else (some (decide ((x0.length:Int)≤4)))
def ebbtideref05_Right.f (k:Nat) (l0:List (S127)):Option (Bool):=ebbtideref05_Right.l0 k l0 0
theorem ebbtideref05_Right.mono_l:∀ k,(∀ y0 y1,LeO (ebbtideref05_Right.l0 k y0 y1) (ebbtideref05_Right.l0 (k+1) y0 y1))
 | 0=>fun _ _ r h=>by simp [ebbtideref05_Right.l0] at h
 | k+1=>by
  have ih0:=ebbtideref05_Right.mono_l k
  ·intro y0 y1
   unfold ebbtideref05_Right.l0
   repeat' first
   | (with_reducible exact ih0 _ _)
   | (with_reducible exact ebbtideref05_may.mono _ _ _ _)
   | (with_reducible exact LeO.refl _)
   | (with_reducible exact LeO.none _)
   | (with_reducible refine LeO.ite ?_ ?_)
   | (with_reducible refine LeO.bind ?_ (fun _=>?_))
   | exact ih0 _ _
   | exact ebbtideref05_may.mono _ _ _ _
   | exact LeO.none _
   | refine LeO.ite ?_ ?_
   | refine LeO.bind ?_ (fun _=>?_)
theorem ebbtideref05_Right.mono:∀ a0 k,LeO (ebbtideref05_Right.f k a0) (ebbtideref05_Right.f (k+1) a0):=by
 intro a0 k
 have ih0:=ebbtideref05_Right.mono_l k
 unfold ebbtideref05_Right.f
 repeat' first
   | (with_reducible exact ih0 _ _)
   | (with_reducible exact ebbtideref05_may.mono _ _ _ _)
   | (with_reducible exact LeO.refl _)
   | (with_reducible exact LeO.none _)
   | (with_reducible refine LeO.ite ?_ ?_)
   | (with_reducible refine LeO.bind ?_ (fun _=>?_))
   | exact ih0 _ _
   | exact ebbtideref05_may.mono _ _ _ _
   | exact LeO.none _
   | refine LeO.ite ?_ ?_
   | refine LeO.bind ?_ (fun _=>?_)
theorem ebbtideref05_Right.calls (k:Nat) (A0:Option Addr) (c0:Nat) (l0:List (S127)) (r:Bool) (w:World) (hr0:Kd.C k127 w A0 l0.length l0) (hc0:l0.length≤c0) (h:ebbtideref05_Right.f k l0=some r) :
  Calls Tryz.prog 55 #[.slice A0 l0.length c0] w fun e w'=>e = .returned (.bool r)∧Below w.heap.size w w':=by
 have hu127:=Tryz.underlying127
 have HR0:=Aside0.mk hr0
 have HC0:=Aside0.mk hc0
 clear hr0 hc0
 have HB:=Aside0.mk (Below.refl w.heap.size w)
 have H:(ebbtideref05_Right.l0 k l0 0)=some r:=h
 clear h
 have H':=Aside0.mk H
 clear H
 go_enter Tryz.func55,Tryz.ntmps55
 go_wp2
 go_loopg [3] k (fun kq v3 w'=>∃ (x3_1:Int),v3 = .int .i64 x3_1∧Aside0 (ebbtideref05_Right.l0 kq l0 x3_1=some r)∧Aside0 (kq≤k)∧Aside0 (Below w.heap.size w w'))
 case atStart=>exact ⟨(0),qS,H',⟨Nat.le_refl _⟩,⟨qB⟩⟩
 case round =>
  clear H'
  obtain ⟨x3_1,rfl,HA,HK1,HB⟩:=hrel
  cases gk with
  | zero=>exact absurd HA.out (by simp [ebbtideref05_Right.l0])
  | succ k1 =>
   have H:=HA.out
   clear HA
   simp only [ebbtideref05_Right.l0] at H
   by_cases c2:x3_1<(l0.length:Int)
   rotate_left
   ·rw [if_neg c2] at H
    have c2b0:decide (x3_1<(l0.length:Int))=false:=decide_eq_false c2
    clear c2
    obtain rfl:=Option.some.inj H
    go_wp2
    go_ret
    exact ⟨qE,qB⟩
   rw [if_pos c2] at H
   have c2b0:decide (x3_1<(l0.length:Int))=true:=decide_eq_true c2
   clear c2
   by_cases c3:0≤x3_1
   rotate_left
   ·rw [if_neg c3] at H
    exact absurd H (by simp)
   rw [if_pos c3] at H
   have c3b0:decide (0≤x3_1)=true:=decide_eq_true c3
   clear c3
   replace H:=Option.bind_eq_some_iff.mp H
   obtain ⟨t399,A40,H⟩:=H
   replace H:(if t399=true then (ebbtideref05_Right.l0 k1 l0 (wrap64 (x3_1+1))) else (some false))=some r:=H
   have A4:=Aside0.mk A40
   clear A40
   by_cases c5:t399=true
   rotate_left
   ·replace c5:=Bool.eq_false_iff.mpr c5
    subst c5
    have H1:(some false)=some r:=by rw [if_neg (show ¬ (false=true) by decide)] at H;exact H
    clear H
    have H:=H1
    clear H1
    obtain rfl:=Option.some.inj H
    have p398:0≤(x3_1:Int):=of_decide_eq_true qA
    have q398:x3_1<(l0.length:Int):=of_decide_eq_true qA
    obtain ⟨ad398,e398,hx398_0,hx398_1,hx398_2⟩:=at_T127 HR0.out x3_1 p398 q398
    cases e398
    replace hx398_0:=(HB.out.cell (World.block_lt_of_cell? w _ hx398_0)).trans hx398_0
    replace hx398_1:=(HB.out.cell (World.block_lt_of_cell? w _ hx398_1)).trans hx398_1
    replace hx398_2:=(HB.out.cell (World.block_lt_of_cell? w _ hx398_2)).trans hx398_2
    replace p398:=eq_true p398
    replace q398:=eq_true q398
    go_wp2_with (first|((with_reducible refine gate_callee (f:=111) rfl ?_);refine goesL_ (some 14) rfl rfl Tryz.func111 qK rfl #[.agg #[.int .i64 ((rd_T127 l0 x3_1).f0), .string ((rd_T127 l0 x3_1).f1), .string ((rd_T127 l0 x3_1).f2)]] rfl qG ?_;(with_reducible refine (ebbtideref05_may.calls k1 ((rd_T127 l0 x3_1).f0) ((rd_T127 l0 x3_1).f1) ((rd_T127 l0 x3_1).f2) false _ A4.out).mono ?_);rintro e w7 ⟨rfl,hb⟩;refine ⟨_,rfl,?_⟩;replace HB:=Aside0.mk (below_step qB hb);clear hb))
    go_ret
    exact ⟨qE,qB⟩
   subst c5
   have H1:(ebbtideref05_Right.l0 k1 l0 (wrap64 (x3_1+1)))=some r:=by rw [if_pos rfl] at H;exact H
   clear H
   have H:=H1
   clear H1
   have H':=Aside0.mk H
   clear H
   have p398:0≤(x3_1:Int):=of_decide_eq_true qA
   have q398:x3_1<(l0.length:Int):=of_decide_eq_true qA
   obtain ⟨ad398,e398,hx398_0,hx398_1,hx398_2⟩:=at_T127 HR0.out x3_1 p398 q398
   cases e398
   replace hx398_0:=(HB.out.cell (World.block_lt_of_cell? w _ hx398_0)).trans hx398_0
   replace hx398_1:=(HB.out.cell (World.block_lt_of_cell? w _ hx398_1)).trans hx398_1
   replace hx398_2:=(HB.out.cell (World.block_lt_of_cell? w _ hx398_2)).trans hx398_2
   replace p398:=eq_true p398
   replace q398:=eq_true q398
   go_wp2_with (first|((with_reducible refine gate_callee (f:=111) rfl ?_);refine goesL_ (some 14) rfl rfl Tryz.func111 qK rfl #[.agg #[.int .i64 ((rd_T127 l0 x3_1).f0), .string ((rd_T127 l0 x3_1).f1), .string ((rd_T127 l0 x3_1).f2)]] rfl qG ?_;(with_reducible refine (ebbtideref05_may.calls k1 ((rd_T127 l0 x3_1).f0) ((rd_T127 l0 x3_1).f1) ((rd_T127 l0 x3_1).f2) true _ A4.out).mono ?_);rintro e w6 ⟨rfl,hb⟩;refine ⟨_,rfl,?_⟩;replace HB:=Aside0.mk (below_step qB hb);clear hb))
   go_roundg k1
   case measure=>have:=HK1.out;omega
   case rel=>exact ⟨(wrap64 (x3_1+1)),qS,H',⟨by have:=HK1.out;omega⟩,⟨qB⟩⟩
end Go.Proofs.YteaadaaghhojfaaGreatDoor.PQu
