import Derived.Test.YteaadaaghhojfaaGreatDoorZQcPQux0
namespace Go.Proofs.YteaadaaghhojfaaGreatDoor.PQu
open Go.RowKit Go.Proofs.YteaadaaghhojfaaGreatDoorW.PrintWords Go.Proofs.YteaadaaghhojfaaGreatDoorW.PrintLast Go.Proofs.YteaadaaghhojfaaGreatDoorW.PrintMore
attribute [local go_sem] max2_int min2_int max_two min_two max_three min_three max_four min_four
set_option linter.unusedVariables false
set_option linter.unusedSimpArgs false
set_option maxHeartbeats 8000000
set_option maxRecDepth 100000
def ebbtideref02_small.f (a0:Int):Option (Bool):=if a0≥97 then (some (decide (a0≤122))) else (some false)
theorem ebbtideref02_small.calls (a0:Int) (r:Bool) (w:World) (h:ebbtideref02_small.f a0=some r) :
  Calls Tryz.prog 109 #[.int .u8 a0] w fun e w'=>e = .returned (.bool r)∧Drawn0 w w':=by
 have H:(if a0≥97 then (some (decide (a0≤122))) else (some false))=some r:=h
 clear h
 by_cases c2:a0≥97
 ·rw [if_pos c2] at H
  have c2b0:decide (97≤a0)=true:=decide_eq_true c2
  clear c2
  obtain rfl:=Option.some.inj H
  go_enter Tryz.func109,Tryz.ntmps109
  go_wp2
  go_ret
  exact ⟨qS,qD⟩
 rw [if_neg c2] at H
 have c2b0:decide (97≤a0)=false:=decide_eq_false c2
 clear c2
 obtain rfl:=Option.some.inj H
 go_enter Tryz.func109,Tryz.ntmps109
 go_wp2
 go_ret
 exact ⟨qS,qD⟩
def ebbtideref02_digit.f (a0:Int):Option (Bool):=if a0≥48 then (some (decide (a0≤57))) else (some false)
theorem ebbtideref02_digit.calls (a0:Int) (r:Bool) (w:World) (h:ebbtideref02_digit.f a0=some r) :
  Calls Tryz.prog 110 #[.int .u8 a0] w fun e w'=>e = .returned (.bool r)∧Drawn0 w w':=by
 have H:(if a0≥48 then (some (decide (a0≤57))) else (some false))=some r:=h
 clear h
 by_cases c2:a0≥48
 ·rw [if_pos c2] at H
  have c2b0:decide (48≤a0)=true:=decide_eq_true c2
  clear c2
  obtain rfl:=Option.some.inj H
  go_enter Tryz.func110,Tryz.ntmps110
  go_wp2
  go_ret
  exact ⟨qS,qD⟩
 rw [if_neg c2] at H
 have c2b0:decide (48≤a0)=false:=decide_eq_false c2
 clear c2
 obtain rfl:=Option.some.inj H
 go_enter Tryz.func110,Tryz.ntmps110
 go_wp2
 go_ret
 exact ⟨qS,qD⟩
mutual
def ebbtideref02_Name.j0:Nat→ByteArray→Bool→Option (Bool)
 | 0,_,_=>none
 | k+1,x0,x17=>if x17=true then (some false) else (ebbtideref02_Name.l0 k x0 0)
def ebbtideref02_Name.l0:Nat→ByteArray→Int→Option (Bool)
 | 0,_,_=>none
 | k+1,x0,x3=>if x3<(x0.size:Int) then (if 0≤x3 then ((ebbtideref02_small.f (bt x0 x3)).bind fun t156=>(if t156=true then (ebbtideref02_Name.l0 k x0 (wrap64 (x3+1))) else ((ebbtideref02_digit.f (bt x0 x3)).bind fun t157=>(if t157=true then (ebbtideref02_Name.l0 k x0 (wrap64 (x3+1))) else (if (bt x0 x3)=95 then (ebbtideref02_Name.l0 k x0 (wrap64 (x3+1))) else (some false)))))) else (none)) else (some true)
end
def ebbtideref02_Name.f (k:Nat) (a0:ByteArray):Option (Bool):=if (a0.size:Int)<1 then (ebbtideref02_Name.j0 k a0 true) else (if (a0.size:Int)>12 then (ebbtideref02_Name.j0 k a0 true) else (if 0<(a0.size:Int) then ((ebbtideref02_small.f (bt a0 0)).bind fun t155=>(ebbtideref02_Name.j0 k a0 (!t155))) else (none)))
theorem ebbtideref02_Name.mono_l:∀ k,(∀ y0 y1,LeO (ebbtideref02_Name.j0 k y0 y1) (ebbtideref02_Name.j0 (k+1) y0 y1))∧(∀ y0 y1,LeO (ebbtideref02_Name.l0 k y0 y1) (ebbtideref02_Name.l0 (k+1) y0 y1))
 | 0=>⟨fun _ _ r h=>by simp [ebbtideref02_Name.j0] at h,fun _ _ r h=>by simp [ebbtideref02_Name.l0] at h⟩
 | k+1=>by
  obtain ⟨ih0,ih1⟩:=ebbtideref02_Name.mono_l k
  refine ⟨?_,?_⟩
  ·intro y0 y1
   unfold ebbtideref02_Name.j0
   repeat' first
   | (with_reducible exact ih0 _ _)
   | (with_reducible exact ih1 _ _)
   | (with_reducible exact LeO.refl _)
   | (with_reducible exact LeO.none _)
   | (with_reducible refine LeO.ite ?_ ?_)
   | (with_reducible refine LeO.bind ?_ (fun _=>?_))
   | exact ih0 _ _
   | exact ih1 _ _
   | exact LeO.none _
   | refine LeO.ite ?_ ?_
   | refine LeO.bind ?_ (fun _=>?_)
  ·intro y0 y1
   unfold ebbtideref02_Name.l0
   repeat' first
   | (with_reducible exact ih0 _ _)
   | (with_reducible exact ih1 _ _)
   | (with_reducible exact LeO.refl _)
   | (with_reducible exact LeO.none _)
   | (with_reducible refine LeO.ite ?_ ?_)
   | (with_reducible refine LeO.bind ?_ (fun _=>?_))
   | exact ih0 _ _
   | exact ih1 _ _
   | exact LeO.none _
   | refine LeO.ite ?_ ?_
   | refine LeO.bind ?_ (fun _=>?_)
theorem ebbtideref02_Name.mono:∀ a0 k,LeO (ebbtideref02_Name.f k a0) (ebbtideref02_Name.f (k+1) a0):=by
 intro a0 k
 obtain ⟨ih0,ih1⟩:=ebbtideref02_Name.mono_l k
 unfold ebbtideref02_Name.f
 repeat' first
   | (with_reducible exact ih0 _ _)
   | (with_reducible exact ih1 _ _)
   | (with_reducible exact LeO.refl _)
   | (with_reducible exact LeO.none _)
   | (with_reducible refine LeO.ite ?_ ?_)
   | (with_reducible refine LeO.bind ?_ (fun _=>?_))
   | exact ih0 _ _
   | exact ih1 _ _
   | exact LeO.none _
   | refine LeO.ite ?_ ?_
   | refine LeO.bind ?_ (fun _=>?_)
theorem ebbtideref02_Name.calls (k:Nat) (a0:ByteArray) (r:Bool) (w:World) (h:ebbtideref02_Name.f k a0=some r) :
  Calls Tryz.prog 54 #[.string a0] w fun e w'=>e = .returned (.bool r)∧Drawn0 w w':=by
 have H:(if (a0.size:Int)<1 then (ebbtideref02_Name.j0 k a0 true) else (if (a0.size:Int)>12 then (ebbtideref02_Name.j0 k a0 true) else (if 0<(a0.size:Int) then ((ebbtideref02_small.f (bt a0 0)).bind fun t155=>(ebbtideref02_Name.j0 k a0 (!t155))) else (none))))=some r:=h
 clear h
 have HC2:=Aside0.mk H
 clear H
 go_enter Tryz.func54,Tryz.ntmps54
 go_upto_region 1 with (fail)
 go_cut [17] (fun v17 wc=>∃ (kq:Nat) (x17_1:Bool),v17 = .bool x17_1∧Aside0 (ebbtideref02_Name.j0 kq a0 x17_1=some r)∧Aside0 (kq≤k)∧Drawn0 w wc)
 case first =>
  have H:=HC2.out
  clear HC2
  by_cases c3:(a0.size:Int)<1
  ·rw [if_pos c3] at H
   have c3b0:decide ((a0.size:Int)<1)=true:=decide_eq_true c3
   have c3b1:decide (a0.size<1)=true:=decide_eq_true (by omega)
   clear c3
   (first|rw [c3b0]|(simp only [i64_w,i32_w];rw [c3b0])|rw [c3b1]|skip)
   have H':=Aside0.mk H
   clear H
   go_wp2
   go_meet
   case rel=>exact ⟨_,(true),qS,H',⟨by first|omega|exact Nat.le_refl _⟩,qD⟩
  rw [if_neg c3] at H
  have c3b0:decide ((a0.size:Int)<1)=false:=decide_eq_false c3
  have c3b1:decide (a0.size<1)=false:=decide_eq_false (by omega)
  clear c3
  (first|rw [c3b0]|(simp only [i64_w,i32_w];rw [c3b0])|rw [c3b1]|skip)
  by_cases c4:(a0.size:Int)>12
  ·rw [if_pos c4] at H
   have c4b0:decide (12<(a0.size:Int))=true:=decide_eq_true c4
   have c4b1:decide (12<a0.size)=true:=decide_eq_true (by omega)
   clear c4
   have H':=Aside0.mk H
   clear H
   go_wp2
   go_meet
   case rel=>exact ⟨_,(true),qS,H',⟨by first|omega|exact Nat.le_refl _⟩,qD⟩
  rw [if_neg c4] at H
  have c4b0:decide (12<(a0.size:Int))=false:=decide_eq_false c4
  have c4b1:decide (12<a0.size)=false:=decide_eq_false (by omega)
  clear c4
  by_cases c5:0<(a0.size:Int)
  rotate_left
  ·rw [if_neg c5] at H
   exact absurd H (by simp)
  rw [if_pos c5] at H
  have c5b0:decide (0<(a0.size:Int))=true:=decide_eq_true c5
  have c5b1:decide (0<a0.size)=true:=decide_eq_true (by omega)
  clear c5
  replace H:=Option.bind_eq_some_iff.mp H
  obtain ⟨t155,A70,H⟩:=H
  replace H:(ebbtideref02_Name.j0 k a0 (!t155))=some r:=H
  have A7:=Aside0.mk A70
  clear A70
  have H':=Aside0.mk H
  clear H
  have p6:0≤(0:Int):=(by omega)
  have q6:0<a0.size:=(by have:(0:Int)<(a0.size:Int):=of_decide_eq_true qA;omega)
  have hx6:∀ h:0<a0.size,((a0[0]'h).toNat:Int)=bt a0 0:=bt_at a0 0
  clear p6
  have qi6:(0<(a0.size:Int))=True:=eq_true (of_decide_eq_true qA)
  replace q6:=eq_true q6
  go_wp2_with (first|(go_at_call 109;(with_reducible refine (ebbtideref02_small.calls (bt a0 0) t155 _ A7.out).mono ?_);rintro e w' ⟨rfl,⟨nd,rfl⟩⟩))
  go_meet
  case rel=>exact ⟨_,(!t155),qS,H',⟨by first|omega|exact Nat.le_refl _⟩,qD⟩
 case rest =>
  clear HC2
  obtain ⟨kq,x17_1,rfl,HA,HJ1,⟨mc1,rfl⟩⟩:=hcut
  cases kq with
  | zero=>exact absurd HA.out (by simp [ebbtideref02_Name.j0])
  | succ kj1 =>
   have H:=HA.out
   clear HA
   simp only [ebbtideref02_Name.j0] at H
   by_cases c8:x17_1=true
   ·subst c8
    have H1:(some false)=some r:=by rw [if_pos rfl] at H;exact H
    clear H
    have H:=H1
    clear H1
    obtain rfl:=Option.some.inj H
    go_wp2
    go_ret
    exact ⟨qS,qD⟩
   replace c8:=Bool.eq_false_iff.mpr c8
   subst c8
   have H1:(ebbtideref02_Name.l0 kj1 a0 0)=some r:=by rw [if_neg (show ¬ (false=true) by decide)] at H;exact H
   clear H
   have H:=H1
   clear H1
   have H':=Aside0.mk H
   clear H
   go_wp2
   go_loopg [3] kj1 (fun kq v3 w'=>∃ (x3_2:Int),v3 = .int .i64 x3_2∧Aside0 (ebbtideref02_Name.l0 kq a0 x3_2=some r)∧Aside0 (kq≤kj1)∧Drawn0 w w')
   case atStart=>exact ⟨(0),qS,H',⟨Nat.le_refl _⟩,qD⟩
   case round =>
    clear H'
    try clear c1;try clear c8
    obtain ⟨x3_2,rfl,HA,HK2,⟨m2,rfl⟩⟩:=hrel
    cases gk with
    | zero=>exact absurd HA.out (by simp [ebbtideref02_Name.l0])
    | succ k2 =>
     have H:=HA.out
     clear HA
     simp only [ebbtideref02_Name.l0] at H
     by_cases c9:x3_2<(a0.size:Int)
     rotate_left
     ·rw [if_neg c9] at H
      have c9b0:decide (x3_2<(a0.size:Int))=false:=decide_eq_false c9
      clear c9
      obtain rfl:=Option.some.inj H
      go_wp2
      go_ret
      exact ⟨qS,qD⟩
     rw [if_pos c9] at H
     have c9b0:decide (x3_2<(a0.size:Int))=true:=decide_eq_true c9
     clear c9
     by_cases c10:0≤x3_2
     rotate_left
     ·rw [if_neg c10] at H
      exact absurd H (by simp)
     rw [if_pos c10] at H
     have c10b0:decide (0≤x3_2)=true:=decide_eq_true c10
     clear c10
     replace H:=Option.bind_eq_some_iff.mp H
     obtain ⟨t156,A120,H⟩:=H
     replace H:(if t156=true then (ebbtideref02_Name.l0 k2 a0 (wrap64 (x3_2+1))) else ((ebbtideref02_digit.f (bt a0 x3_2)).bind fun t157=>(if t157=true then (ebbtideref02_Name.l0 k2 a0 (wrap64 (x3_2+1))) else (if (bt a0 x3_2)=95 then (ebbtideref02_Name.l0 k2 a0 (wrap64 (x3_2+1))) else (some false)))))=some r:=H
     have A12:=Aside0.mk A120
     clear A120
     by_cases c13:t156=true
     ·subst c13
      have H1:(ebbtideref02_Name.l0 k2 a0 (wrap64 (x3_2+1)))=some r:=by rw [if_pos rfl] at H;exact H
      clear H
      have H:=H1
      clear H1
      have H':=Aside0.mk H
      clear H
      have p11:0≤(x3_2:Int):=of_decide_eq_true qA
      have q11:x3_2<(a0.size:Int):=of_decide_eq_true qA
      have hx11:=bt_at a0 x3_2
      replace p11:=eq_true p11
      replace q11:=eq_true q11
      go_wp2_with (first|((with_reducible refine gate_callee (f:=109) rfl ?_);refine goesL_ (some 27) rfl rfl Tryz.func109 qK rfl #[.int .u8 (bt a0 x3_2)] rfl qG ?_;(with_reducible refine (ebbtideref02_small.calls (bt a0 x3_2) true _ A12.out).mono ?_);rintro e w' ⟨rfl,⟨nd,rfl⟩⟩;refine ⟨_,rfl,?_⟩))
      go_roundg k2
      case measure=>have:=HJ1.out;have:=HK2.out;omega
      case rel=>exact ⟨(wrap64 (x3_2+1)),qS,H',⟨by have:=HJ1.out;have:=HK2.out;omega⟩,qD⟩
     replace c13:=Bool.eq_false_iff.mpr c13
     subst c13
     have H1:((ebbtideref02_digit.f (bt a0 x3_2)).bind fun t157=>(if t157=true then (ebbtideref02_Name.l0 k2 a0 (wrap64 (x3_2+1))) else (if (bt a0 x3_2)=95 then (ebbtideref02_Name.l0 k2 a0 (wrap64 (x3_2+1))) else (some false))))=some r:=by rw [if_neg (show ¬ (false=true) by decide)] at H;exact H
     clear H
     have H:=H1
     clear H1
     replace H:=Option.bind_eq_some_iff.mp H
     obtain ⟨t157,A150,H⟩:=H
     replace H:(if t157=true then (ebbtideref02_Name.l0 k2 a0 (wrap64 (x3_2+1))) else (if (bt a0 x3_2)=95 then (ebbtideref02_Name.l0 k2 a0 (wrap64 (x3_2+1))) else (some false)))=some r:=H
     have A15:=Aside0.mk A150
     clear A150
     by_cases c16:t157=true
     ·subst c16
      have H1:(ebbtideref02_Name.l0 k2 a0 (wrap64 (x3_2+1)))=some r:=by rw [if_pos rfl] at H;exact H
      clear H
      have H:=H1
      clear H1
      have H':=Aside0.mk H
      clear H
      have p11:0≤(x3_2:Int):=of_decide_eq_true qA
      have q11:x3_2<(a0.size:Int):=of_decide_eq_true qA
      have hx11:=bt_at a0 x3_2
      replace p11:=eq_true p11
      replace q11:=eq_true q11
      go_wp2_with (first|((with_reducible refine gate_callee (f:=109) rfl ?_);refine goesL_ (some 27) rfl rfl Tryz.func109 qK rfl #[.int .u8 (bt a0 x3_2)] rfl qG ?_;(with_reducible refine (ebbtideref02_small.calls (bt a0 x3_2) false _ A12.out).mono ?_);rintro e w' ⟨rfl,⟨nd,rfl⟩⟩;refine ⟨_,rfl,?_⟩;have p14:0≤(x3_2:Int):=of_decide_eq_true qA;have q14:x3_2<(a0.size:Int):=of_decide_eq_true qA;have hx14:=bt_at a0 x3_2;replace p14:=eq_true p14;replace q14:=eq_true q14)|(go_at_call 110;(with_reducible refine (ebbtideref02_digit.calls (bt a0 x3_2) true _ A15.out).mono ?_);rintro e w' ⟨rfl,⟨nd,rfl⟩⟩))
      go_roundg k2
      case measure=>have:=HJ1.out;have:=HK2.out;omega
      case rel=>exact ⟨(wrap64 (x3_2+1)),qS,H',⟨by have:=HJ1.out;have:=HK2.out;omega⟩,qD⟩
     replace c16:=Bool.eq_false_iff.mpr c16
     subst c16
     have H1:(if (bt a0 x3_2)=95 then (ebbtideref02_Name.l0 k2 a0 (wrap64 (x3_2+1))) else (some false))=some r:=by rw [if_neg (show ¬ (false=true) by decide)] at H;exact H
     clear H
     have H:=H1
     clear H1
     by_cases c18:(bt a0 x3_2)=95
     rotate_left
     ·rw [if_neg c18] at H
      have c18b0:((bt a0 x3_2) ==95)=false:=beq_eq_false_iff_ne.mpr c18
      have c18b1:((bt a0 x3_2) != 95)=true:=bne_iff_ne.mpr c18
      obtain rfl:=Option.some.inj H
      have p11:0≤(x3_2:Int):=of_decide_eq_true qA
      have q11:x3_2<(a0.size:Int):=of_decide_eq_true qA
      have hx11:=bt_at a0 x3_2
      replace p11:=eq_true p11
      replace q11:=eq_true q11
      go_wp2_with (first|((with_reducible refine gate_callee (f:=109) rfl ?_);refine goesL_ (some 27) rfl rfl Tryz.func109 qK rfl #[.int .u8 (bt a0 x3_2)] rfl qG ?_;(with_reducible refine (ebbtideref02_small.calls (bt a0 x3_2) false _ A12.out).mono ?_);rintro e w' ⟨rfl,⟨nd,rfl⟩⟩;refine ⟨_,rfl,?_⟩;have p14:0≤(x3_2:Int):=of_decide_eq_true qA;have q14:x3_2<(a0.size:Int):=of_decide_eq_true qA;have hx14:=bt_at a0 x3_2;replace p14:=eq_true p14;replace q14:=eq_true q14)|(go_at_call 110;(with_reducible refine (ebbtideref02_digit.calls (bt a0 x3_2) false _ A15.out).mono ?_);rintro e w' ⟨rfl,⟨nd,rfl⟩⟩;have p17:0≤(x3_2:Int):=of_decide_eq_true qA;have q17:x3_2<(a0.size:Int):=of_decide_eq_true qA;have hx17:=bt_at a0 x3_2;replace p17:=eq_true p17;replace q17:=eq_true q17))
      go_ret
      exact ⟨qS,qD⟩
     rw [if_pos c18] at H
     have c18b0:((bt a0 x3_2) ==95)=true:=beq_iff_eq.mpr c18
     have c18b1:((bt a0 x3_2) != 95)=false:=bne_eq_false_iff_eq.mpr c18
     clear c18
     have H':=Aside0.mk H
     clear H
     have p11:0≤(x3_2:Int):=of_decide_eq_true qA
     have q11:x3_2<(a0.size:Int):=of_decide_eq_true qA
     have hx11:=bt_at a0 x3_2
     replace p11:=eq_true p11
     replace q11:=eq_true q11
     go_wp2_with (first|((with_reducible refine gate_callee (f:=109) rfl ?_);refine goesL_ (some 27) rfl rfl Tryz.func109 qK rfl #[.int .u8 (bt a0 x3_2)] rfl qG ?_;(with_reducible refine (ebbtideref02_small.calls (bt a0 x3_2) false _ A12.out).mono ?_);rintro e w' ⟨rfl,⟨nd,rfl⟩⟩;refine ⟨_,rfl,?_⟩;have p14:0≤(x3_2:Int):=of_decide_eq_true qA;have q14:x3_2<(a0.size:Int):=of_decide_eq_true qA;have hx14:=bt_at a0 x3_2;replace p14:=eq_true p14;replace q14:=eq_true q14)|(go_at_call 110;(with_reducible refine (ebbtideref02_digit.calls (bt a0 x3_2) false _ A15.out).mono ?_);rintro e w' ⟨rfl,⟨nd,rfl⟩⟩;have p17:0≤(x3_2:Int):=of_decide_eq_true qA;have q17:x3_2<(a0.size:Int):=of_decide_eq_true qA;have hx17:=bt_at a0 x3_2;replace p17:=eq_true p17;replace q17:=eq_true q17))
     go_roundg k2
     case measure=>have:=HJ1.out;have:=HK2.out;omega
     case rel=>exact ⟨(wrap64 (x3_2+1)),qS,H',⟨by have:=HJ1.out;have:=HK2.out;omega⟩,qD⟩
def ebbtideref02_Split.l0:Nat→ByteArray→Int→List ByteArray→Int→Int→Option (List ByteArray)
 | 0,_,_,_,_,_=>none
 | k+1,x0,x1,x5,x6,x7=>if x7<(x0.size:Int) then (if 0≤x7 then (if (bt x0 x7)=x1 then (if 0≤x6 then (if x6≤x7 then (if x7≤(x0.size:Int) then (if x5.length<8796093022208 then (ebbtideref02_Split.l0 k x0 x1 (x5++[x0.extract (x6:Int).toNat (x7:Int).toNat]) (wrap64 (x7+1)) (wrap64 (x7+1))) else (none)) else (none)) else (none)) else (none)) else (ebbtideref02_Split.l0 k x0 x1 x5 x6 (wrap64 (x7+1)))) else (none)) else (if 0≤x6 then (if x6≤(x0.size:Int) then (if x5.length<8796093022208 then (some (x5++[x0.extract (x6:Int).toNat x0.size])) else (none)) else (none)) else (none))
def ebbtideref02_Split.f (k:Nat) (a0:ByteArray) (a1:Int):Option (List ByteArray):=ebbtideref02_Split.l0 k a0 a1 ([]:List ByteArray) 0 0
theorem ebbtideref02_Split.mono_l:∀ k,(∀ y0 y1 y2 y3 y4,LeO (ebbtideref02_Split.l0 k y0 y1 y2 y3 y4) (ebbtideref02_Split.l0 (k+1) y0 y1 y2 y3 y4))
 | 0=>fun _ _ _ _ _ r h=>by simp [ebbtideref02_Split.l0] at h
 | k+1=>by
  have ih0:=ebbtideref02_Split.mono_l k
  ·intro y0 y1 y2 y3 y4
   unfold ebbtideref02_Split.l0
   repeat' first
   | (with_reducible exact ih0 _ _ _ _ _)
   | (with_reducible exact LeO.refl _)
   | (with_reducible exact LeO.none _)
   | (with_reducible refine LeO.ite ?_ ?_)
   | (with_reducible refine LeO.bind ?_ (fun _=>?_))
   | exact ih0 _ _ _ _ _
   | exact LeO.none _
   | refine LeO.ite ?_ ?_
   | refine LeO.bind ?_ (fun _=>?_)
theorem ebbtideref02_Split.mono:∀ a0 a1 k,LeO (ebbtideref02_Split.f k a0 a1) (ebbtideref02_Split.f (k+1) a0 a1):=by
 intro a0 a1 k
 have ih0:=ebbtideref02_Split.mono_l k
 unfold ebbtideref02_Split.f
 repeat' first
   | (with_reducible exact ih0 _ _ _ _ _)
   | (with_reducible exact LeO.refl _)
   | (with_reducible exact LeO.none _)
   | (with_reducible refine LeO.ite ?_ ?_)
   | (with_reducible refine LeO.bind ?_ (fun _=>?_))
   | exact ih0 _ _ _ _ _
   | exact LeO.none _
   | refine LeO.ite ?_ ?_
   | refine LeO.bind ?_ (fun _=>?_)
theorem ebbtideref02_Split.calls (k:Nat) (a0:ByteArray) (a1:Int) (r:List ByteArray) (w:World) (h:ebbtideref02_Split.f k a0 a1=some r) :
  Calls Tryz.prog 72 #[.string a0, .int .u8 a1] w fun e w'=>∃ v0_:Value,e = .returned (v0_)∧Kd.R Kd.string 9 w' w.heap.size (fun _=>True) v0_ r∧Below w.heap.size w w':=by
 have HB:=Aside0.mk (Below.refl w.heap.size w)
 have H:(ebbtideref02_Split.l0 k a0 a1 ([]:List ByteArray) 0 0)=some r:=h
 clear h
 have H':=Aside0.mk H
 clear H
 go_enter Tryz.func72,Tryz.ntmps72
 go_wp2
 go_loopg [5,6,7] k (fun kq v5 v6 v7 w'=>∃ (x5_1:List ByteArray) (x6_1:Int) (x7_1:Int),v6 = .int .i64 x6_1∧v7 = .int .i64 x7_1∧Aside0 (ebbtideref02_Split.l0 kq a0 a1 x5_1 x6_1 x7_1=some r)∧Aside0 (kq≤k)∧Aside0 (Kd.R Kd.string 9 w' w.heap.size (fun _=>True) v5 x5_1)∧Aside0 (Below w.heap.size w w'))
 case atStart=>exact ⟨(([]:List ByteArray)),(0),(0),qS,qS,H',⟨Nat.le_refl _⟩,⟨qN⟩,⟨qB⟩⟩
 case round =>
  clear H'
  obtain ⟨x5_1,x6_1,x7_1,rfl,rfl,HA,HK1,HO_5,HB⟩:=hrel
  cases gk with
  | zero=>exact absurd HA.out (by simp [ebbtideref02_Split.l0])
  | succ k1 =>
   have H:=HA.out
   clear HA
   simp only [ebbtideref02_Split.l0] at H
   by_cases c3:x7_1<(a0.size:Int)
   rotate_left
   ·rw [if_neg c3] at H
    have c3b0:decide (x7_1<(a0.size:Int))=false:=decide_eq_false c3
    clear c3
    by_cases c12:0≤x6_1
    rotate_left
    ·rw [if_neg c12] at H
     exact absurd H (by simp)
    rw [if_pos c12] at H
    have c12b0:=eq_true c12
    have c12b1:decide (0≤x6_1)=true:=decide_eq_true c12
    clear c12
    by_cases c13:x6_1≤(a0.size:Int)
    rotate_left
    ·rw [if_neg c13] at H
     exact absurd H (by simp)
    rw [if_pos c13] at H
    have c13b0:=eq_true c13
    have c13b1:decide (x6_1≤(a0.size:Int))=true:=decide_eq_true c13
    clear c13
    by_cases c14:x5_1.length<8796093022208
    rotate_left
    ·rw [if_neg c14] at H
     exact absurd H (by simp)
    rw [if_pos c14] at H
    have LMc14:=Aside0.mk c14
    clear c14
    obtain ⟨y161,hy161⟩:∃ y_:List ByteArray,y_=(x5_1++[a0.extract (x6_1:Int).toNat a0.size]):=⟨_,rfl⟩
    replace H:(some y161)=some r:=by first|(rw [hy161];with_reducible exact H)|(have H2_:=(Option.bind_some _ _).symm.trans H;rw [hy161];with_reducible exact H2_)|(have H2_:=(Option.bind_some _ _).symm.trans H;with_reducible exact H2_)|with_reducible exact H|(rw [hy161];exact H)|exact H
    have Ny161:=Aside0.mk hy161
    clear hy161
    obtain rfl:=Option.some.inj H
    go_wp2_with (first|((with_reducible refine gate_builtin (b := .append) (xs:=#[.tmp 28, .tmp 32]) rfl ?_);at_builtin;refine Kd.R_append Kd.string (w0:=w) w.heap.size rfl (.tmp 28) (.tmp 32) 23 9 (.string ⟨#[]⟩) 16 rfl Tryz.underlying23 info9 rfl (by decide) (by omega) u5 x5_1 (a0.extract (x6_1:Int).toNat a0.size) [.string (a0.extract (x6_1:Int).toNat a0.size)] (fun _=>True) (fun _=>False) rfl rfl ?aP (fun _ hk=>hk.elim) ?aF ?aO ?aB ?aS ?aL ?_;(case aP=>exact rfl);(case aB=>exact qB);(case aF=>exact (fun _ _=>trivial));(case aO=>exact (qR HO_5));(case aS=>exact (below_size qB));(case aL=>have:=LMc14.out;omega);intro v162 w15 ho hb hg hat;rw [← Ny161.out] at ho;replace HB:=Aside0.mk hb;have HO163:=Aside0.mk ho;clear HO_5;clear ho hb hg hat))
    go_ret
    exact ⟨_,qE,qR HO163,qB⟩
   rw [if_pos c3] at H
   have c3b0:decide (x7_1<(a0.size:Int))=true:=decide_eq_true c3
   clear c3
   by_cases c4:0≤x7_1
   rotate_left
   ·rw [if_neg c4] at H
    exact absurd H (by simp)
   rw [if_pos c4] at H
   have c4b0:decide (0≤x7_1)=true:=decide_eq_true c4
   clear c4
   by_cases c6:(bt a0 x7_1)=a1
   rotate_left
   ·rw [if_neg c6] at H
    have c6b0:((bt a0 x7_1) ==a1)=false:=beq_eq_false_iff_ne.mpr c6
    have c6b1:((bt a0 x7_1) != a1)=true:=bne_iff_ne.mpr c6
    have H':=Aside0.mk H
    clear H
    have p5:0≤(x7_1:Int):=of_decide_eq_true qA
    have q5:x7_1<(a0.size:Int):=of_decide_eq_true qA
    have hx5:=bt_at a0 x7_1
    replace p5:=eq_true p5
    replace q5:=eq_true q5
    go_wp2
    go_roundg k1
    case measure=>have:=HK1.out;omega
    case rel=>exact ⟨(x5_1),(x6_1),(wrap64 (x7_1+1)),qS,qS,H',⟨by have:=HK1.out;omega⟩,⟨qR HO_5⟩,⟨qB⟩⟩
   rw [if_pos c6] at H
   have c6b0:((bt a0 x7_1) ==a1)=true:=beq_iff_eq.mpr c6
   have c6b1:((bt a0 x7_1) != a1)=false:=bne_eq_false_iff_eq.mpr c6
   clear c6
   by_cases c7:0≤x6_1
   rotate_left
   ·rw [if_neg c7] at H
    exact absurd H (by simp)
   rw [if_pos c7] at H
   have c7b0:=eq_true c7
   have c7b1:decide (0≤x6_1)=true:=decide_eq_true c7
   clear c7
   by_cases c8:x6_1≤x7_1
   rotate_left
   ·rw [if_neg c8] at H
    exact absurd H (by simp)
   rw [if_pos c8] at H
   have c8b0:=eq_true c8
   have c8b1:decide (x6_1≤x7_1)=true:=decide_eq_true c8
   clear c8
   by_cases c9:x7_1≤(a0.size:Int)
   rotate_left
   ·rw [if_neg c9] at H
    exact absurd H (by simp)
   rw [if_pos c9] at H
   have c9b0:=eq_true c9
   have c9b1:decide (x7_1≤(a0.size:Int))=true:=decide_eq_true c9
   clear c9
   by_cases c10:x5_1.length<8796093022208
   rotate_left
   ·rw [if_neg c10] at H
    exact absurd H (by simp)
   rw [if_pos c10] at H
   have LMc10:=Aside0.mk c10
   clear c10
   obtain ⟨y158,hy158⟩:∃ y_:List ByteArray,y_=(x5_1++[a0.extract (x6_1:Int).toNat (x7_1:Int).toNat]):=⟨_,rfl⟩
   replace H:(ebbtideref02_Split.l0 k1 a0 a1 y158 (wrap64 (x7_1+1)) (wrap64 (x7_1+1)))=some r:=by first|(rw [hy158];with_reducible exact H)|(have H2_:=(Option.bind_some _ _).symm.trans H;rw [hy158];with_reducible exact H2_)|(have H2_:=(Option.bind_some _ _).symm.trans H;with_reducible exact H2_)|with_reducible exact H|(rw [hy158];exact H)|exact H
   have Ny158:=Aside0.mk hy158
   clear hy158
   have H':=Aside0.mk H
   clear H
   have p5:0≤(x7_1:Int):=of_decide_eq_true qA
   have q5:x7_1<(a0.size:Int):=of_decide_eq_true qA
   have hx5:=bt_at a0 x7_1
   replace p5:=eq_true p5
   replace q5:=eq_true q5
   go_wp2_with (first|((with_reducible refine gate_builtin (b := .append) (xs:=#[.tmp 19, .tmp 24]) rfl ?_);at_builtin;refine Kd.R_append Kd.string (w0:=w) w.heap.size rfl (.tmp 19) (.tmp 24) 23 9 (.string ⟨#[]⟩) 16 rfl Tryz.underlying23 info9 rfl (by decide) (by omega) u5 x5_1 (a0.extract (x6_1:Int).toNat (x7_1:Int).toNat) [.string (a0.extract (x6_1:Int).toNat (x7_1:Int).toNat)] (fun _=>True) (fun _=>False) rfl rfl ?aP (fun _ hk=>hk.elim) ?aF ?aO ?aB ?aS ?aL ?_;(case aP=>exact rfl);(case aB=>exact qB);(case aF=>exact (fun _ _=>trivial));(case aO=>exact (qR HO_5));(case aS=>exact (below_size qB));(case aL=>have:=LMc10.out;omega);intro v159 w11 ho hb hg hat;rw [← Ny158.out] at ho;replace HB:=Aside0.mk hb;have HO160:=Aside0.mk ho;clear HO_5;clear ho hb hg hat))
   go_roundg k1
   case measure=>have:=HK1.out;omega
   case rel=>exact ⟨(y158),(wrap64 (x7_1+1)),(wrap64 (x7_1+1)),qS,qS,H',⟨by have:=HK1.out;omega⟩,⟨qR HO160⟩,⟨qB⟩⟩
def ebbtideref02_Join.l0:Nat→ByteArray→List ByteArray→ByteArray→Int→Option (ByteArray)
 | 0,_,_,_,_=>none
 | k+1,x0,x1,x5,x6=>if x6<(x1.length:Int) then (if x6>0 then (if x5.size+x0.size≤9223372036854775807 then (if 0≤x6 then (if x5.size+x0.size+(rdOf ByteArray.empty x1 x6).size≤9223372036854775807 then (ebbtideref02_Join.l0 k x0 x1 ((x5++x0)++(rdOf ByteArray.empty x1 x6)) (wrap64 (x6+1))) else (none)) else (none)) else (none)) else (if 0≤x6 then (if x5.size+(rdOf ByteArray.empty x1 x6).size≤9223372036854775807 then (ebbtideref02_Join.l0 k x0 x1 (x5++(rdOf ByteArray.empty x1 x6)) (wrap64 (x6+1))) else (none)) else (none))) else (some x5)
def ebbtideref02_Join.f (k:Nat) (a0:ByteArray) (l1:List ByteArray):Option (ByteArray):=ebbtideref02_Join.l0 k a0 l1 (⟨#[]⟩:ByteArray) 0
theorem ebbtideref02_Join.mono_l:∀ k,(∀ y0 y1 y2 y3,LeO (ebbtideref02_Join.l0 k y0 y1 y2 y3) (ebbtideref02_Join.l0 (k+1) y0 y1 y2 y3))
 | 0=>fun _ _ _ _ r h=>by simp [ebbtideref02_Join.l0] at h
 | k+1=>by
  have ih0:=ebbtideref02_Join.mono_l k
  ·intro y0 y1 y2 y3
   unfold ebbtideref02_Join.l0
   repeat' first
   | (with_reducible exact ih0 _ _ _ _)
   | (with_reducible exact LeO.refl _)
   | (with_reducible exact LeO.none _)
   | (with_reducible refine LeO.ite ?_ ?_)
   | (with_reducible refine LeO.bind ?_ (fun _=>?_))
   | exact ih0 _ _ _ _
   | exact LeO.none _
   | refine LeO.ite ?_ ?_
   | refine LeO.bind ?_ (fun _=>?_)
theorem ebbtideref02_Join.mono:∀ a0 a1 k,LeO (ebbtideref02_Join.f k a0 a1) (ebbtideref02_Join.f (k+1) a0 a1):=by
 intro a0 a1 k
 have ih0:=ebbtideref02_Join.mono_l k
 unfold ebbtideref02_Join.f
 repeat' first
   | (with_reducible exact ih0 _ _ _ _)
   | (with_reducible exact LeO.refl _)
   | (with_reducible exact LeO.none _)
   | (with_reducible refine LeO.ite ?_ ?_)
   | (with_reducible refine LeO.bind ?_ (fun _=>?_))
   | exact ih0 _ _ _ _
   | exact LeO.none _
   | refine LeO.ite ?_ ?_
   | refine LeO.bind ?_ (fun _=>?_)
theorem ebbtideref02_Join.calls (k:Nat) (a0:ByteArray) (A1:Option Addr) (c1:Nat) (l1:List ByteArray) (r:ByteArray) (w:World) (hr1:Kd.C Kd.string w A1 l1.length l1) (hc1:l1.length≤c1) (h:ebbtideref02_Join.f k a0 l1=some r) :
  Calls Tryz.prog 61 #[.string a0, .slice A1 l1.length c1] w fun e w'=>e = .returned (.string r)∧Drawn0 w w':=by
 have HR1:=Aside0.mk hr1
 have HC1:=Aside0.mk hc1
 clear hr1 hc1
 have H:(ebbtideref02_Join.l0 k a0 l1 (⟨#[]⟩:ByteArray) 0)=some r:=h
 clear h
 have H':=Aside0.mk H
 clear H
 go_enter Tryz.func61,Tryz.ntmps61
 go_wp2
 go_loopg [5,6] k (fun kq v5 v6 w'=>∃ (x5_1:ByteArray) (x6_1:Int),v5 = .string x5_1∧v6 = .int .i64 x6_1∧Aside0 (ebbtideref02_Join.l0 kq a0 l1 x5_1 x6_1=some r)∧Aside0 (kq≤k)∧Drawn0 w w')
 case atStart=>exact ⟨((⟨#[]⟩:ByteArray)),(0),qS,qS,H',⟨Nat.le_refl _⟩,qD⟩
 case round =>
  clear H'
  obtain ⟨x5_1,x6_1,rfl,rfl,HA,HK1,⟨m1,rfl⟩⟩:=hrel
  cases gk with
  | zero=>exact absurd HA.out (by simp [ebbtideref02_Join.l0])
  | succ k1 =>
   have H:=HA.out
   clear HA
   simp only [ebbtideref02_Join.l0] at H
   by_cases c3:x6_1<(l1.length:Int)
   rotate_left
   ·rw [if_neg c3] at H
    have c3b0:decide (x6_1<(l1.length:Int))=false:=decide_eq_false c3
    clear c3
    obtain rfl:=Option.some.inj H
    go_wp2
    go_ret
    exact ⟨qS,qD⟩
   rw [if_pos c3] at H
   have c3b0:decide (x6_1<(l1.length:Int))=true:=decide_eq_true c3
   clear c3
   by_cases c4:x6_1>0
   rotate_left
   ·rw [if_neg c4] at H
    have c4b0:decide (0<x6_1)=false:=decide_eq_false c4
    clear c4
    by_cases c8:0≤x6_1
    rotate_left
    ·rw [if_neg c8] at H
     exact absurd H (by simp)
    rw [if_pos c8] at H
    have c8b0:decide (0≤x6_1)=true:=decide_eq_true c8
    clear c8
    by_cases c9:x5_1.size+(rdOf ByteArray.empty l1 x6_1).size≤9223372036854775807
    rotate_left
    ·rw [if_neg c9] at H
     exact absurd H (by simp)
    rw [if_pos c9] at H
    have c9b0:=eq_true c9
    have c9b1:decide (x5_1.size+(rdOf ByteArray.empty l1 x6_1).size≤9223372036854775807)=true:=decide_eq_true c9
    try have c9b2:(9223372036854775807<x5_1.size+(rdOf ByteArray.empty l1 x6_1).size)=False:=eq_false (Nat.not_lt.2 c9)
    have H':=Aside0.mk H
    clear H
    have p165:0≤(x6_1:Int):=of_decide_eq_true qA
    have q165:x6_1<(l1.length:Int):=of_decide_eq_true qA
    obtain ⟨ad165,e165,hx165_0⟩:=Kd.at_string HR1.out x6_1 p165 q165
    cases e165
    replace p165:=eq_true p165
    replace q165:=eq_true q165
    go_wp2
    go_roundg k1
    case measure=>have:=HK1.out;omega
    case rel=>exact ⟨(x5_1++(rdOf ByteArray.empty l1 x6_1)),(wrap64 (x6_1+1)),qS,qS,H',⟨by have:=HK1.out;omega⟩,qD⟩
   rw [if_pos c4] at H
   have c4b0:decide (0<x6_1)=true:=decide_eq_true c4
   clear c4
   by_cases c5:x5_1.size+a0.size≤9223372036854775807
   rotate_left
   ·rw [if_neg c5] at H
    exact absurd H (by simp)
   rw [if_pos c5] at H
   have c5b0:=eq_true c5
   have c5b1:decide (x5_1.size+a0.size≤9223372036854775807)=true:=decide_eq_true c5
   try have c5b2:(9223372036854775807<x5_1.size+a0.size)=False:=eq_false (Nat.not_lt.2 c5)
   by_cases c6:0≤x6_1
   rotate_left
   ·rw [if_neg c6] at H
    exact absurd H (by simp)
   rw [if_pos c6] at H
   have c6b0:decide (0≤x6_1)=true:=decide_eq_true c6
   clear c6
   by_cases c7:x5_1.size+a0.size+(rdOf ByteArray.empty l1 x6_1).size≤9223372036854775807
   rotate_left
   ·rw [if_neg c7] at H
    exact absurd H (by simp)
   rw [if_pos c7] at H
   have c7b0:=eq_true c7
   have c7b1:decide (x5_1.size+a0.size+(rdOf ByteArray.empty l1 x6_1).size≤9223372036854775807)=true:=decide_eq_true c7
   try have c7b2:(9223372036854775807<x5_1.size+a0.size+(rdOf ByteArray.empty l1 x6_1).size)=False:=eq_false (Nat.not_lt.2 c7)
   have H':=Aside0.mk H
   clear H
   have p164:0≤(x6_1:Int):=of_decide_eq_true qA
   have q164:x6_1<(l1.length:Int):=of_decide_eq_true qA
   obtain ⟨ad164,e164,hx164_0⟩:=Kd.at_string HR1.out x6_1 p164 q164
   cases e164
   replace p164:=eq_true p164
   replace q164:=eq_true q164
   go_wp2
   go_roundg k1
   case measure=>have:=HK1.out;omega
   case rel=>exact ⟨((x5_1++a0)++(rdOf ByteArray.empty l1 x6_1)),(wrap64 (x6_1+1)),qS,qS,H',⟨by have:=HK1.out;omega⟩,qD⟩
end Go.Proofs.YteaadaaghhojfaaGreatDoor.PQu
