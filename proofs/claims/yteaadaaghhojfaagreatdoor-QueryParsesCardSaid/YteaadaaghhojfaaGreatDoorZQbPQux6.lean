import Derived.Test.YteaadaaghhojfaaGreatDoorZQbPQux0
import Derived.Test.YteaadaaghhojfaaGreatDoorZQbPQux5
namespace Go.Proofs.YteaadaaghhojfaaGreatDoor.PQu
open Go.RowKit Go.Proofs.YteaadaaghhojfaaGreatDoorW.PrintWords Go.Proofs.YteaadaaghhojfaaGreatDoorW.PrintLast Go.Proofs.YteaadaaghhojfaaGreatDoorW.PrintMore
attribute [local go_sem] max2_int min2_int max_two min_two max_three min_three max_four min_four
set_option linter.unusedVariables false
set_option linter.unusedSimpArgs false
set_option maxHeartbeats 8000000
set_option maxRecDepth 100000
mutual
def ebbtideref02_Value.j0:Nat→ByteArray→Bool→Option (Bool)
 | 0,_,_=>none
 | k+1,x0,x11=>if x11=true then (some false) else (ebbtideref02_Value.l0 k x0 0)
def ebbtideref02_Value.l0:Nat→ByteArray→Int→Option (Bool)
 | 0,_,_=>none
 | k+1,x0,x3=>if x3<(x0.size:Int) then (if 0≤x3 then ((ebbtideref02_small.f (bt x0 x3)).bind fun t166=>(if t166=true then (ebbtideref02_Value.l0 k x0 (wrap64 (x3+1))) else ((ebbtideref02_digit.f (bt x0 x3)).bind fun t167=>(if t167=true then (ebbtideref02_Value.l0 k x0 (wrap64 (x3+1))) else (if (bt x0 x3)=95 then (ebbtideref02_Value.l0 k x0 (wrap64 (x3+1))) else (if (bt x0 x3)=45 then (ebbtideref02_Value.l0 k x0 (wrap64 (x3+1))) else (if (bt x0 x3)=46 then (ebbtideref02_Value.l0 k x0 (wrap64 (x3+1))) else (some false)))))))) else (none)) else (some true)
end
def ebbtideref02_Value.f (k:Nat) (a0:ByteArray):Option (Bool):=if (a0.size:Int)<1 then (ebbtideref02_Value.j0 k a0 true) else (ebbtideref02_Value.j0 k a0 (decide ((a0.size:Int)>12)))
theorem ebbtideref02_Value.mono_l:∀ k,(∀ y0 y1,LeO (ebbtideref02_Value.j0 k y0 y1) (ebbtideref02_Value.j0 (k+1) y0 y1))∧(∀ y0 y1,LeO (ebbtideref02_Value.l0 k y0 y1) (ebbtideref02_Value.l0 (k+1) y0 y1))
 | 0=>⟨fun _ _ r h=>by simp [ebbtideref02_Value.j0] at h,fun _ _ r h=>by simp [ebbtideref02_Value.l0] at h⟩
 | k+1=>by
  obtain ⟨ih0,ih1⟩:=ebbtideref02_Value.mono_l k
  refine ⟨?_,?_⟩
  ·intro y0 y1
   unfold ebbtideref02_Value.j0
   repeat' first
   | (with_reducible exact ih0 _ _)
   | (with_reducible exact ih1 _ _)
   | (with_reducible exact LeO.refl _)
   | (with_reducible exact LeO.none _)
   | (with_reducible refine LeO.ite ?_ ?_)
   | (with_reducible refine LeO.bind ?_ (fun _=>?_))
   | exact ih0 _ _
   | exact ih1 _ _
   | exact LeO.none _
   | refine LeO.ite ?_ ?_
   | refine LeO.bind ?_ (fun _=>?_)
  ·intro y0 y1
   unfold ebbtideref02_Value.l0
   repeat' first
   | (with_reducible exact ih0 _ _)
   | (with_reducible exact ih1 _ _)
   | (with_reducible exact LeO.refl _)
   | (with_reducible exact LeO.none _)
   | (with_reducible refine LeO.ite ?_ ?_)
   | (with_reducible refine LeO.bind ?_ (fun _=>?_))
   | exact ih0 _ _
   | exact ih1 _ _
   | exact LeO.none _
   | refine LeO.ite ?_ ?_
   | refine LeO.bind ?_ (fun _=>?_)
theorem ebbtideref02_Value.mono:∀ a0 k,LeO (ebbtideref02_Value.f k a0) (ebbtideref02_Value.f (k+1) a0):=by
 intro a0 k
 obtain ⟨ih0,ih1⟩:=ebbtideref02_Value.mono_l k
 unfold ebbtideref02_Value.f
 repeat' first
   | (with_reducible exact ih0 _ _)
   | (with_reducible exact ih1 _ _)
   | (with_reducible exact LeO.refl _)
   | (with_reducible exact LeO.none _)
   | (with_reducible refine LeO.ite ?_ ?_)
   | (with_reducible refine LeO.bind ?_ (fun _=>?_))
   | exact ih0 _ _
   | exact ih1 _ _
   | exact LeO.none _
   | refine LeO.ite ?_ ?_
   | refine LeO.bind ?_ (fun _=>?_)
theorem ebbtideref02_Value.calls (k:Nat) (a0:ByteArray) (r:Bool) (w:World) (h:ebbtideref02_Value.f k a0=some r) :
  Calls Tryz.prog 142 #[.string a0] w fun e w'=>e = .returned (.bool r)∧Drawn0 w w':=by
 have H:(if (a0.size:Int)<1 then (ebbtideref02_Value.j0 k a0 true) else (ebbtideref02_Value.j0 k a0 (decide ((a0.size:Int)>12))))=some r:=h
 clear h
 have HC2:=Aside0.mk H
 clear H
 go_enter Tryz.func142,Tryz.ntmps142
 go_upto_region 1 with (fail)
 go_cut [11] (fun v11 wc=>∃ (kq:Nat) (x11_1:Bool),v11 = .bool x11_1∧Aside0 (ebbtideref02_Value.j0 kq a0 x11_1=some r)∧Aside0 (kq≤k)∧Drawn0 w wc)
 case first =>
  have H:=HC2.out
  clear HC2
  by_cases c3:(a0.size:Int)<1
  ·rw [if_pos c3] at H
   have c3b0:decide ((a0.size:Int)<1)=true:=decide_eq_true c3
   have c3b1:decide (a0.size<1)=true:=decide_eq_true (by omega)
   clear c3
   (first|rw [c3b0]|(simp only [i64_w,i32_w];rw [c3b0])|rw [c3b1]|skip)
   have H':=Aside0.mk H
   clear H
   go_wp2
   go_meet
   case rel=>exact ⟨_,(true),qS,H',⟨by first|omega|exact Nat.le_refl _⟩,qD⟩
  rw [if_neg c3] at H
  have c3b0:decide ((a0.size:Int)<1)=false:=decide_eq_false c3
  have c3b1:decide (a0.size<1)=false:=decide_eq_false (by omega)
  clear c3
  (first|rw [c3b0]|(simp only [i64_w,i32_w];rw [c3b0])|rw [c3b1]|skip)
  have H':=Aside0.mk H
  clear H
  go_wp2
  go_meet
  case rel=>exact ⟨_,(decide ((a0.size:Int)>12)),qS,H',⟨by first|omega|exact Nat.le_refl _⟩,qD⟩
 case rest =>
  clear HC2
  obtain ⟨kq,x11_1,rfl,HA,HJ1,⟨mc1,rfl⟩⟩:=hcut
  cases kq with
  | zero=>exact absurd HA.out (by simp [ebbtideref02_Value.j0])
  | succ kj1 =>
   have H:=HA.out
   clear HA
   simp only [ebbtideref02_Value.j0] at H
   by_cases c4:x11_1=true
   ·subst c4
    have H1:(some false)=some r:=by rw [if_pos rfl] at H;exact H
    clear H
    have H:=H1
    clear H1
    obtain rfl:=Option.some.inj H
    go_wp2
    go_ret
    exact ⟨qS,qD⟩
   replace c4:=Bool.eq_false_iff.mpr c4
   subst c4
   have H1:(ebbtideref02_Value.l0 kj1 a0 0)=some r:=by rw [if_neg (show ¬ (false=true) by decide)] at H;exact H
   clear H
   have H:=H1
   clear H1
   have H':=Aside0.mk H
   clear H
   go_wp2
   go_loopg [3] kj1 (fun kq v3 w'=>∃ (x3_2:Int),v3 = .int .i64 x3_2∧Aside0 (ebbtideref02_Value.l0 kq a0 x3_2=some r)∧Aside0 (kq≤kj1)∧Drawn0 w w')
   case atStart=>exact ⟨(0),qS,H',⟨Nat.le_refl _⟩,qD⟩
   case round =>
    clear H'
    try clear c1;try clear c4
    obtain ⟨x3_2,rfl,HA,HK2,⟨m2,rfl⟩⟩:=hrel
    cases gk with
    | zero=>exact absurd HA.out (by simp [ebbtideref02_Value.l0])
    | succ k2 =>
     have H:=HA.out
     clear HA
     simp only [ebbtideref02_Value.l0] at H
     by_cases c5:x3_2<(a0.size:Int)
     rotate_left
     ·rw [if_neg c5] at H
      have c5b0:decide (x3_2<(a0.size:Int))=false:=decide_eq_false c5
      clear c5
      obtain rfl:=Option.some.inj H
      go_wp2
      go_ret
      exact ⟨qS,qD⟩
     rw [if_pos c5] at H
     have c5b0:decide (x3_2<(a0.size:Int))=true:=decide_eq_true c5
     clear c5
     by_cases c6:0≤x3_2
     rotate_left
     ·rw [if_neg c6] at H
      exact absurd H (by simp)
     rw [if_pos c6] at H
     have c6b0:decide (0≤x3_2)=true:=decide_eq_true c6
     clear c6
     replace H:=Option.bind_eq_some_iff.mp H
     obtain ⟨t166,A80,H⟩:=H
     replace H:(if t166=true then (ebbtideref02_Value.l0 k2 a0 (wrap64 (x3_2+1))) else ((ebbtideref02_digit.f (bt a0 x3_2)).bind fun t167=>(if t167=true then (ebbtideref02_Value.l0 k2 a0 (wrap64 (x3_2+1))) else (if (bt a0 x3_2)=95 then (ebbtideref02_Value.l0 k2 a0 (wrap64 (x3_2+1))) else (if (bt a0 x3_2)=45 then (ebbtideref02_Value.l0 k2 a0 (wrap64 (x3_2+1))) else (if (bt a0 x3_2)=46 then (ebbtideref02_Value.l0 k2 a0 (wrap64 (x3_2+1))) else (some false)))))))=some r:=H
     have A8:=Aside0.mk A80
     clear A80
     by_cases c9:t166=true
     ·subst c9
      have H1:(ebbtideref02_Value.l0 k2 a0 (wrap64 (x3_2+1)))=some r:=by rw [if_pos rfl] at H;exact H
      clear H
      have H:=H1
      clear H1
      have H':=Aside0.mk H
      clear H
      have p7:0≤(x3_2:Int):=of_decide_eq_true qA
      have q7:x3_2<(a0.size:Int):=of_decide_eq_true qA
      have hx7:=bt_at a0 x3_2
      replace p7:=eq_true p7
      replace q7:=eq_true q7
      go_wp2_with (first|((with_reducible refine gate_callee (f:=109) rfl ?_);refine goesL_ (some 21) rfl rfl Tryz.func109 qK rfl #[.int .u8 (bt a0 x3_2)] rfl qG ?_;(with_reducible refine (ebbtideref02_small.calls (bt a0 x3_2) true _ A8.out).mono ?_);rintro e w' ⟨rfl,⟨nd,rfl⟩⟩;refine ⟨_,rfl,?_⟩))
      go_roundg k2
      case measure=>have:=HJ1.out;have:=HK2.out;omega
      case rel=>exact ⟨(wrap64 (x3_2+1)),qS,H',⟨by have:=HJ1.out;have:=HK2.out;omega⟩,qD⟩
     replace c9:=Bool.eq_false_iff.mpr c9
     subst c9
     have H1:((ebbtideref02_digit.f (bt a0 x3_2)).bind fun t167=>(if t167=true then (ebbtideref02_Value.l0 k2 a0 (wrap64 (x3_2+1))) else (if (bt a0 x3_2)=95 then (ebbtideref02_Value.l0 k2 a0 (wrap64 (x3_2+1))) else (if (bt a0 x3_2)=45 then (ebbtideref02_Value.l0 k2 a0 (wrap64 (x3_2+1))) else (if (bt a0 x3_2)=46 then (ebbtideref02_Value.l0 k2 a0 (wrap64 (x3_2+1))) else (some false))))))=some r:=by rw [if_neg (show ¬ (false=true) by decide)] at H;exact H
     clear H
     have H:=H1
     clear H1
     replace H:=Option.bind_eq_some_iff.mp H
     obtain ⟨t167,A110,H⟩:=H
     replace H:(if t167=true then (ebbtideref02_Value.l0 k2 a0 (wrap64 (x3_2+1))) else (if (bt a0 x3_2)=95 then (ebbtideref02_Value.l0 k2 a0 (wrap64 (x3_2+1))) else (if (bt a0 x3_2)=45 then (ebbtideref02_Value.l0 k2 a0 (wrap64 (x3_2+1))) else (if (bt a0 x3_2)=46 then (ebbtideref02_Value.l0 k2 a0 (wrap64 (x3_2+1))) else (some false)))))=some r:=H
     have A11:=Aside0.mk A110
     clear A110
     by_cases c12:t167=true
     ·subst c12
      have H1:(ebbtideref02_Value.l0 k2 a0 (wrap64 (x3_2+1)))=some r:=by rw [if_pos rfl] at H;exact H
      clear H
      have H:=H1
      clear H1
      have H':=Aside0.mk H
      clear H
      have p7:0≤(x3_2:Int):=of_decide_eq_true qA
      have q7:x3_2<(a0.size:Int):=of_decide_eq_true qA
      have hx7:=bt_at a0 x3_2
      replace p7:=eq_true p7
      replace q7:=eq_true q7
      go_wp2_with (first|((with_reducible refine gate_callee (f:=109) rfl ?_);refine goesL_ (some 21) rfl rfl Tryz.func109 qK rfl #[.int .u8 (bt a0 x3_2)] rfl qG ?_;(with_reducible refine (ebbtideref02_small.calls (bt a0 x3_2) false _ A8.out).mono ?_);rintro e w' ⟨rfl,⟨nd,rfl⟩⟩;refine ⟨_,rfl,?_⟩;have p10:0≤(x3_2:Int):=of_decide_eq_true qA;have q10:x3_2<(a0.size:Int):=of_decide_eq_true qA;have hx10:=bt_at a0 x3_2;replace p10:=eq_true p10;replace q10:=eq_true q10)|(go_at_call 110;(with_reducible refine (ebbtideref02_digit.calls (bt a0 x3_2) true _ A11.out).mono ?_);rintro e w' ⟨rfl,⟨nd,rfl⟩⟩))
      go_roundg k2
      case measure=>have:=HJ1.out;have:=HK2.out;omega
      case rel=>exact ⟨(wrap64 (x3_2+1)),qS,H',⟨by have:=HJ1.out;have:=HK2.out;omega⟩,qD⟩
     replace c12:=Bool.eq_false_iff.mpr c12
     subst c12
     have H1:(if (bt a0 x3_2)=95 then (ebbtideref02_Value.l0 k2 a0 (wrap64 (x3_2+1))) else (if (bt a0 x3_2)=45 then (ebbtideref02_Value.l0 k2 a0 (wrap64 (x3_2+1))) else (if (bt a0 x3_2)=46 then (ebbtideref02_Value.l0 k2 a0 (wrap64 (x3_2+1))) else (some false))))=some r:=by rw [if_neg (show ¬ (false=true) by decide)] at H;exact H
     clear H
     have H:=H1
     clear H1
     by_cases c14:(bt a0 x3_2)=95
     ·rw [if_pos c14] at H
      have c14b0:((bt a0 x3_2) ==95)=true:=beq_iff_eq.mpr c14
      have c14b1:((bt a0 x3_2) != 95)=false:=bne_eq_false_iff_eq.mpr c14
      clear c14
      have H':=Aside0.mk H
      clear H
      have p7:0≤(x3_2:Int):=of_decide_eq_true qA
      have q7:x3_2<(a0.size:Int):=of_decide_eq_true qA
      have hx7:=bt_at a0 x3_2
      replace p7:=eq_true p7
      replace q7:=eq_true q7
      go_wp2_with (first|((with_reducible refine gate_callee (f:=109) rfl ?_);refine goesL_ (some 21) rfl rfl Tryz.func109 qK rfl #[.int .u8 (bt a0 x3_2)] rfl qG ?_;(with_reducible refine (ebbtideref02_small.calls (bt a0 x3_2) false _ A8.out).mono ?_);rintro e w' ⟨rfl,⟨nd,rfl⟩⟩;refine ⟨_,rfl,?_⟩;have p10:0≤(x3_2:Int):=of_decide_eq_true qA;have q10:x3_2<(a0.size:Int):=of_decide_eq_true qA;have hx10:=bt_at a0 x3_2;replace p10:=eq_true p10;replace q10:=eq_true q10)|(go_at_call 110;(with_reducible refine (ebbtideref02_digit.calls (bt a0 x3_2) false _ A11.out).mono ?_);rintro e w' ⟨rfl,⟨nd,rfl⟩⟩;have p13:0≤(x3_2:Int):=of_decide_eq_true qA;have q13:x3_2<(a0.size:Int):=of_decide_eq_true qA;have hx13:=bt_at a0 x3_2;replace p13:=eq_true p13;replace q13:=eq_true q13))
      go_roundg k2
      case measure=>have:=HJ1.out;have:=HK2.out;omega
      case rel=>exact ⟨(wrap64 (x3_2+1)),qS,H',⟨by have:=HJ1.out;have:=HK2.out;omega⟩,qD⟩
     rw [if_neg c14] at H
     have c14b0:((bt a0 x3_2) ==95)=false:=beq_eq_false_iff_ne.mpr c14
     have c14b1:((bt a0 x3_2) != 95)=true:=bne_iff_ne.mpr c14
     by_cases c16:(bt a0 x3_2)=45
     ·rw [if_pos c16] at H
      have c16b0:((bt a0 x3_2) ==45)=true:=beq_iff_eq.mpr c16
      have c16b1:((bt a0 x3_2) != 45)=false:=bne_eq_false_iff_eq.mpr c16
      clear c16
      have H':=Aside0.mk H
      clear H
      have p7:0≤(x3_2:Int):=of_decide_eq_true qA
      have q7:x3_2<(a0.size:Int):=of_decide_eq_true qA
      have hx7:=bt_at a0 x3_2
      replace p7:=eq_true p7
      replace q7:=eq_true q7
      go_wp2_with (first|((with_reducible refine gate_callee (f:=109) rfl ?_);refine goesL_ (some 21) rfl rfl Tryz.func109 qK rfl #[.int .u8 (bt a0 x3_2)] rfl qG ?_;(with_reducible refine (ebbtideref02_small.calls (bt a0 x3_2) false _ A8.out).mono ?_);rintro e w' ⟨rfl,⟨nd,rfl⟩⟩;refine ⟨_,rfl,?_⟩;have p10:0≤(x3_2:Int):=of_decide_eq_true qA;have q10:x3_2<(a0.size:Int):=of_decide_eq_true qA;have hx10:=bt_at a0 x3_2;replace p10:=eq_true p10;replace q10:=eq_true q10)|(go_at_call 110;(with_reducible refine (ebbtideref02_digit.calls (bt a0 x3_2) false _ A11.out).mono ?_);rintro e w' ⟨rfl,⟨nd,rfl⟩⟩;have p13:0≤(x3_2:Int):=of_decide_eq_true qA;have q13:x3_2<(a0.size:Int):=of_decide_eq_true qA;have hx13:=bt_at a0 x3_2;replace p13:=eq_true p13;replace q13:=eq_true q13;have p15:0≤(x3_2:Int):=of_decide_eq_true qA;have q15:x3_2<(a0.size:Int):=of_decide_eq_true qA;have hx15:=bt_at a0 x3_2;replace p15:=eq_true p15;replace q15:=eq_true q15))
      go_roundg k2
      case measure=>have:=HJ1.out;have:=HK2.out;omega
      case rel=>exact ⟨(wrap64 (x3_2+1)),qS,H',⟨by have:=HJ1.out;have:=HK2.out;omega⟩,qD⟩
     rw [if_neg c16] at H
     have c16b0:((bt a0 x3_2) ==45)=false:=beq_eq_false_iff_ne.mpr c16
     have c16b1:((bt a0 x3_2) != 45)=true:=bne_iff_ne.mpr c16
     by_cases c18:(bt a0 x3_2)=46
     rotate_left
     ·rw [if_neg c18] at H
      have c18b0:((bt a0 x3_2) ==46)=false:=beq_eq_false_iff_ne.mpr c18
      have c18b1:((bt a0 x3_2) != 46)=true:=bne_iff_ne.mpr c18
      obtain rfl:=Option.some.inj H
      have p7:0≤(x3_2:Int):=of_decide_eq_true qA
      have q7:x3_2<(a0.size:Int):=of_decide_eq_true qA
      have hx7:=bt_at a0 x3_2
      replace p7:=eq_true p7
      replace q7:=eq_true q7
      go_wp2_with (first|((with_reducible refine gate_callee (f:=109) rfl ?_);refine goesL_ (some 21) rfl rfl Tryz.func109 qK rfl #[.int .u8 (bt a0 x3_2)] rfl qG ?_;(with_reducible refine (ebbtideref02_small.calls (bt a0 x3_2) false _ A8.out).mono ?_);rintro e w' ⟨rfl,⟨nd,rfl⟩⟩;refine ⟨_,rfl,?_⟩;have p10:0≤(x3_2:Int):=of_decide_eq_true qA;have q10:x3_2<(a0.size:Int):=of_decide_eq_true qA;have hx10:=bt_at a0 x3_2;replace p10:=eq_true p10;replace q10:=eq_true q10)|(go_at_call 110;(with_reducible refine (ebbtideref02_digit.calls (bt a0 x3_2) false _ A11.out).mono ?_);rintro e w' ⟨rfl,⟨nd,rfl⟩⟩;have p13:0≤(x3_2:Int):=of_decide_eq_true qA;have q13:x3_2<(a0.size:Int):=of_decide_eq_true qA;have hx13:=bt_at a0 x3_2;replace p13:=eq_true p13;replace q13:=eq_true q13;have p15:0≤(x3_2:Int):=of_decide_eq_true qA;have q15:x3_2<(a0.size:Int):=of_decide_eq_true qA;have hx15:=bt_at a0 x3_2;replace p15:=eq_true p15;replace q15:=eq_true q15;have p17:0≤(x3_2:Int):=of_decide_eq_true qA;have q17:x3_2<(a0.size:Int):=of_decide_eq_true qA;have hx17:=bt_at a0 x3_2;replace p17:=eq_true p17;replace q17:=eq_true q17))
      go_ret
      exact ⟨qS,qD⟩
     rw [if_pos c18] at H
     have c18b0:((bt a0 x3_2) ==46)=true:=beq_iff_eq.mpr c18
     have c18b1:((bt a0 x3_2) != 46)=false:=bne_eq_false_iff_eq.mpr c18
     clear c18
     have H':=Aside0.mk H
     clear H
     have p7:0≤(x3_2:Int):=of_decide_eq_true qA
     have q7:x3_2<(a0.size:Int):=of_decide_eq_true qA
     have hx7:=bt_at a0 x3_2
     replace p7:=eq_true p7
     replace q7:=eq_true q7
     go_wp2_with (first|((with_reducible refine gate_callee (f:=109) rfl ?_);refine goesL_ (some 21) rfl rfl Tryz.func109 qK rfl #[.int .u8 (bt a0 x3_2)] rfl qG ?_;(with_reducible refine (ebbtideref02_small.calls (bt a0 x3_2) false _ A8.out).mono ?_);rintro e w' ⟨rfl,⟨nd,rfl⟩⟩;refine ⟨_,rfl,?_⟩;have p10:0≤(x3_2:Int):=of_decide_eq_true qA;have q10:x3_2<(a0.size:Int):=of_decide_eq_true qA;have hx10:=bt_at a0 x3_2;replace p10:=eq_true p10;replace q10:=eq_true q10)|(go_at_call 110;(with_reducible refine (ebbtideref02_digit.calls (bt a0 x3_2) false _ A11.out).mono ?_);rintro e w' ⟨rfl,⟨nd,rfl⟩⟩;have p13:0≤(x3_2:Int):=of_decide_eq_true qA;have q13:x3_2<(a0.size:Int):=of_decide_eq_true qA;have hx13:=bt_at a0 x3_2;replace p13:=eq_true p13;replace q13:=eq_true q13;have p15:0≤(x3_2:Int):=of_decide_eq_true qA;have q15:x3_2<(a0.size:Int):=of_decide_eq_true qA;have hx15:=bt_at a0 x3_2;replace p15:=eq_true p15;replace q15:=eq_true q15;have p17:0≤(x3_2:Int):=of_decide_eq_true qA;have q17:x3_2<(a0.size:Int):=of_decide_eq_true qA;have hx17:=bt_at a0 x3_2;replace p17:=eq_true p17;replace q17:=eq_true q17))
     go_roundg k2
     case measure=>have:=HJ1.out;have:=HK2.out;omega
     case rel=>exact ⟨(wrap64 (x3_2+1)),qS,H',⟨by have:=HJ1.out;have:=HK2.out;omega⟩,qD⟩
def ebbtideref03_may.f (k:Nat) (a0_0:ByteArray) (a0_1:ByteArray):Option (Bool):=(ebbtideref02_Name.f k a0_0).bind fun t169=>(if t169=true then ((ebbtideref02_Value.f k a0_1).bind fun t170=>(some t170)) else (some false))
theorem ebbtideref03_may.mono:∀ a0 a1 k,LeO (ebbtideref03_may.f k a0 a1) (ebbtideref03_may.f (k+1) a0 a1):=by
 intro a0 a1 k
 unfold ebbtideref03_may.f
 repeat' first
   | (with_reducible exact ebbtideref02_Name.mono _ _)
   | (with_reducible exact ebbtideref02_Value.mono _ _)
   | (with_reducible exact LeO.refl _)
   | (with_reducible exact LeO.none _)
   | (with_reducible refine LeO.ite ?_ ?_)
   | (with_reducible refine LeO.bind ?_ (fun _=>?_))
   | exact ebbtideref02_Name.mono _ _
   | exact ebbtideref02_Value.mono _ _
   | exact LeO.none _
   | refine LeO.ite ?_ ?_
   | refine LeO.bind ?_ (fun _=>?_)
theorem ebbtideref03_may.calls (k:Nat) (a0_0:ByteArray) (a0_1:ByteArray) (r:Bool) (w:World) (h:ebbtideref03_may.f k a0_0 a0_1=some r) :
  Calls Tryz.prog 164 #[.agg #[.string a0_0, .string a0_1]] w fun e w'=>e = .returned (.bool r)∧Below w.heap.size w w':=by
 have hu93:=Tryz.underlying93
 have HB:=Aside0.mk (Below.refl w.heap.size w)
 have H:((ebbtideref02_Name.f k a0_0).bind fun t169=>(if t169=true then ((ebbtideref02_Value.f k a0_1).bind fun t170=>(some t170)) else (some false)))=some r:=h
 clear h
 replace H:=Option.bind_eq_some_iff.mp H
 obtain ⟨t169,A20,H⟩:=H
 replace H:(if t169=true then ((ebbtideref02_Value.f k a0_1).bind fun t170=>(some t170)) else (some false))=some r:=H
 have A2:=Aside0.mk A20
 clear A20
 by_cases c3:t169=true
 rotate_left
 ·replace c3:=Bool.eq_false_iff.mpr c3
  subst c3
  have H1:(some false)=some r:=by rw [if_neg (show ¬ (false=true) by decide)] at H;exact H
  clear H
  have H:=H1
  clear H1
  obtain rfl:=Option.some.inj H
  go_enter Tryz.func164,Tryz.ntmps164
  go_wp2_with (first|((with_reducible refine gate_dst (N:=1) rfl ?_);refine box_event ?hg (N:=1) ?hd (cs:=#[.string a0_0, .string a0_1]) (t:=93) ?hr ?_;(case hd=>rfl);(case hg=>rfl);(case hr=>first|(go_simp;done)|(go_simp;rfl));intro gb168 hg w7 hbox hb;have BK168:=Aside0.mk hbox;have GW168:Aside0 (w.heap.size≤gb168):=⟨qH⟩;have GE168:=GW168;replace HB:=Aside0.mk (below_step qB hb);clear hb hbox hg;obtain ⟨hcz8_0,hcz8_1,hfz8_0,hfz8_1⟩:=cf2 BK168.out)|((with_reducible refine gate_callee (f:=54) rfl ?_);refine goesL_ (some 5) rfl rfl Tryz.func54 qK rfl #[.string a0_0] rfl qG ?_;(with_reducible refine (ebbtideref02_Name.calls k a0_0 false _ A2.out).mono ?_);rintro e w' ⟨rfl,⟨nd,rfl⟩⟩;refine ⟨_,rfl,?_⟩))
  go_ret
  exact ⟨qE,qC⟩
 subst c3
 have H1:((ebbtideref02_Value.f k a0_1).bind fun t170=>(some t170))=some r:=by rw [if_pos rfl] at H;exact H
 clear H
 have H:=H1
 clear H1
 replace H:=Option.bind_eq_some_iff.mp H
 obtain ⟨t170,A40,H⟩:=H
 replace H:(some t170)=some r:=H
 have A4:=Aside0.mk A40
 clear A40
 obtain rfl:=Option.some.inj H
 go_enter Tryz.func164,Tryz.ntmps164
 go_wp2_with (first|((with_reducible refine gate_dst (N:=1) rfl ?_);refine box_event ?hg (N:=1) ?hd (cs:=#[.string a0_0, .string a0_1]) (t:=93) ?hr ?_;(case hd=>rfl);(case hg=>rfl);(case hr=>first|(go_simp;done)|(go_simp;rfl));intro gb168 hg w5 hbox hb;have BK168:=Aside0.mk hbox;have GW168:Aside0 (w.heap.size≤gb168):=⟨qH⟩;have GE168:=GW168;replace HB:=Aside0.mk (below_step qB hb);clear hb hbox hg;obtain ⟨hcz6_0,hcz6_1,hfz6_0,hfz6_1⟩:=cf2 BK168.out)|((with_reducible refine gate_callee (f:=54) rfl ?_);refine goesL_ (some 5) rfl rfl Tryz.func54 qK rfl #[.string a0_0] rfl qG ?_;(with_reducible refine (ebbtideref02_Name.calls k a0_0 true _ A2.out).mono ?_);rintro e w' ⟨rfl,⟨nd,rfl⟩⟩;refine ⟨_,rfl,?_⟩)|(go_at_call 142;(with_reducible refine (ebbtideref02_Value.calls k a0_1 t170 _ A4.out).mono ?_);rintro e w' ⟨rfl,⟨nd,rfl⟩⟩))
 go_ret
 exact ⟨qE,qC⟩
end Go.Proofs.YteaadaaghhojfaaGreatDoor.PQu
