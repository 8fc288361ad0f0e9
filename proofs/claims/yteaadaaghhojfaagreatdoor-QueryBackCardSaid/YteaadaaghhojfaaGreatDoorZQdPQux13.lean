import Derived.Test.YteaadaaghhojfaaGreatDoorZQdPQux0
import Derived.Test.YteaadaaghhojfaaGreatDoorZQdPQux5
import Derived.Test.YteaadaaghhojfaaGreatDoorZQdPQux12
namespace Go.Proofs.YteaadaaghhojfaaGreatDoor.PQu
open Go.RowKit Go.Proofs.YteaadaaghhojfaaGreatDoorW.PrintWords Go.Proofs.YteaadaaghhojfaaGreatDoorW.PrintLast Go.Proofs.YteaadaaghhojfaaGreatDoorW.PrintMore
attribute [local go_sem] max2_int min2_int max_two min_two max_three min_three max_four min_four
set_option linter.unusedVariables false
set_option linter.unusedSimpArgs false
set_option maxHeartbeats 8000000
set_option maxRecDepth 100000
mutual
def ebbtideref07_names.l0:Nat→List ByteArray→Int→Option (Int)
 | 0,_,_=>none
 | k+1,x0,x3=>if x3<(x0.length:Int) then (if 0≤x3 then ((ebbtideref02_Name.f k (rdOf ByteArray.empty x0 x3)).bind fun t401=>(if t401=true then (ebbtideref07_names.l0 k x0 (wrap64 (x3+1))) else (some 2))) else (none)) else (if (x0.length:Int)>4 then (some 4) else (ebbtideref07_names.l1 k x0 0))
def ebbtideref07_names.l1:Nat→List ByteArray→Int→Option (Int)
 | 0,_,_=>none
 | k+1,x0,x4=>if x4<(x0.length:Int) then (ebbtideref07_names.l2 k x0 x4 0) else (some 0)
def ebbtideref07_names.l2:Nat→List ByteArray→Int→Int→Option (Int)
 | 0,_,_,_=>none
 | k+1,x0,x4,x5=>if x5<x4 then (if 0≤x5 then (if x5<(x0.length:Int) then (if 0≤x4 then (if x4<(x0.length:Int) then (if (rdOf ByteArray.empty x0 x5).toList=(rdOf ByteArray.empty x0 x4).toList then (some 5) else (ebbtideref07_names.l2 k x0 x4 (wrap64 (x5+1)))) else (none)) else (none)) else (none)) else (none)) else (ebbtideref07_names.l1 k x0 (wrap64 (x4+1)))
end
def ebbtideref07_names.f (k:Nat) (l0:List ByteArray):Option (Int):=ebbtideref07_names.l0 k l0 0
theorem ebbtideref07_names.mono_l:∀ k,(∀ y0 y1,LeO (ebbtideref07_names.l0 k y0 y1) (ebbtideref07_names.l0 (k+1) y0 y1))∧(∀ y0 y1,LeO (ebbtideref07_names.l1 k y0 y1) (ebbtideref07_names.l1 (k+1) y0 y1))∧(∀ y0 y1 y2,LeO (ebbtideref07_names.l2 k y0 y1 y2) (ebbtideref07_names.l2 (k+1) y0 y1 y2))
 | 0=>⟨fun _ _ r h=>by simp [ebbtideref07_names.l0] at h,fun _ _ r h=>by simp [ebbtideref07_names.l1] at h,fun _ _ _ r h=>by simp [ebbtideref07_names.l2] at h⟩
 | k+1=>by
  obtain ⟨ih0,ih1,ih2⟩:=ebbtideref07_names.mono_l k
  refine ⟨?_,?_,?_⟩
  ·intro y0 y1
   unfold ebbtideref07_names.l0
   repeat' first
   | (with_reducible exact ih0 _ _)
   | (with_reducible exact ih1 _ _)
   | (with_reducible exact ih2 _ _ _)
   | (with_reducible exact ebbtideref02_Name.mono _ _)
   | (with_reducible exact LeO.refl _)
   | (with_reducible exact LeO.none _)
   | (with_reducible refine LeO.ite ?_ ?_)
   | (with_reducible refine LeO.bind ?_ (fun _=>?_))
   | exact ih0 _ _
   | exact ih1 _ _
   | exact ih2 _ _ _
   | exact ebbtideref02_Name.mono _ _
   | exact LeO.none _
   | refine LeO.ite ?_ ?_
   | refine LeO.bind ?_ (fun _=>?_)
  ·intro y0 y1
   unfold ebbtideref07_names.l1
   repeat' first
   | (with_reducible exact ih0 _ _)
   | (with_reducible exact ih1 _ _)
   | (with_reducible exact ih2 _ _ _)
   | (with_reducible exact ebbtideref02_Name.mono _ _)
   | (with_reducible exact LeO.refl _)
   | (with_reducible exact LeO.none _)
   | (with_reducible refine LeO.ite ?_ ?_)
   | (with_reducible refine LeO.bind ?_ (fun _=>?_))
   | exact ih0 _ _
   | exact ih1 _ _
   | exact ih2 _ _ _
   | exact ebbtideref02_Name.mono _ _
   | exact LeO.none _
   | refine LeO.ite ?_ ?_
   | refine LeO.bind ?_ (fun _=>?_)
  ·intro y0 y1 y2
   unfold ebbtideref07_names.l2
   repeat' first
   | (with_reducible exact ih0 _ _)
   | (with_reducible exact ih1 _ _)
   | (with_reducible exact ih2 _ _ _)
   | (with_reducible exact ebbtideref02_Name.mono _ _)
   | (with_reducible exact LeO.refl _)
   | (with_reducible exact LeO.none _)
   | (with_reducible refine LeO.ite ?_ ?_)
   | (with_reducible refine LeO.bind ?_ (fun _=>?_))
   | exact ih0 _ _
   | exact ih1 _ _
   | exact ih2 _ _ _
   | exact ebbtideref02_Name.mono _ _
   | exact LeO.none _
   | refine LeO.ite ?_ ?_
   | refine LeO.bind ?_ (fun _=>?_)
theorem ebbtideref07_names.mono:∀ a0 k,LeO (ebbtideref07_names.f k a0) (ebbtideref07_names.f (k+1) a0):=by
 intro a0 k
 obtain ⟨ih0,ih1,ih2⟩:=ebbtideref07_names.mono_l k
 unfold ebbtideref07_names.f
 repeat' first
   | (with_reducible exact ih0 _ _)
   | (with_reducible exact ih1 _ _)
   | (with_reducible exact ih2 _ _ _)
   | (with_reducible exact ebbtideref02_Name.mono _ _)
   | (with_reducible exact LeO.refl _)
   | (with_reducible exact LeO.none _)
   | (with_reducible refine LeO.ite ?_ ?_)
   | (with_reducible refine LeO.bind ?_ (fun _=>?_))
   | exact ih0 _ _
   | exact ih1 _ _
   | exact ih2 _ _ _
   | exact ebbtideref02_Name.mono _ _
   | exact LeO.none _
   | refine LeO.ite ?_ ?_
   | refine LeO.bind ?_ (fun _=>?_)
theorem ebbtideref07_names.calls (k:Nat) (A0:Option Addr) (c0:Nat) (l0:List ByteArray) (r:Int) (w:World) (hr0:Kd.C Kd.string w A0 l0.length l0) (hc0:l0.length≤c0) (h:ebbtideref07_names.f k l0=some r) :
  Calls Tryz.prog 56 #[.slice A0 l0.length c0] w fun e w'=>e = .returned (.int .i64 r)∧Drawn0 w w':=by
 have HR0:=Aside0.mk hr0
 have HC0:=Aside0.mk hc0
 clear hr0 hc0
 have H:(ebbtideref07_names.l0 k l0 0)=some r:=h
 clear h
 have H':=Aside0.mk H
 clear H
 go_enter Tryz.func56,Tryz.ntmps56
 go_wp2
 repeat (go_quiet (fail);try go_wp2)
 go_loopg [3] k (fun kq v3 w'=>∃ (x3_1:Int),v3 = .int .i64 x3_1∧Aside0 (ebbtideref07_names.l0 kq l0 x3_1=some r)∧Aside0 (kq≤k)∧Drawn0 w w')
 case atStart=>exact ⟨(0),qS,H',⟨Nat.le_refl _⟩,qD⟩
 case round =>
  clear H'
  obtain ⟨x3_1,rfl,HA,HK1,⟨m1,rfl⟩⟩:=hrel
  cases gk with
  | zero=>exact absurd HA.out (by simp [ebbtideref07_names.l0])
  | succ k1 =>
   have H:=HA.out
   clear HA
   simp only [ebbtideref07_names.l0] at H
   by_cases c2:x3_1<(l0.length:Int)
   ·rw [if_pos c2] at H
    have c2b0:decide (x3_1<(l0.length:Int))=true:=decide_eq_true c2
    clear c2
    by_cases c3:0≤x3_1
    rotate_left
    ·rw [if_neg c3] at H
     exact absurd H (by simp)
    rw [if_pos c3] at H
    have c3b0:decide (0≤x3_1)=true:=decide_eq_true c3
    clear c3
    replace H:=Option.bind_eq_some_iff.mp H
    obtain ⟨t401,A40,H⟩:=H
    replace H:(if t401=true then (ebbtideref07_names.l0 k1 l0 (wrap64 (x3_1+1))) else (some 2))=some r:=H
    have A4:=Aside0.mk A40
    clear A40
    by_cases c5:t401=true
    rotate_left
    ·replace c5:=Bool.eq_false_iff.mpr c5
     subst c5
     have H1:(some 2)=some r:=by rw [if_neg (show ¬ (false=true) by decide)] at H;exact H
     clear H
     have H:=H1
     clear H1
     obtain rfl:=Option.some.inj H
     have p400:0≤(x3_1:Int):=of_decide_eq_true qA
     have q400:x3_1<(l0.length:Int):=of_decide_eq_true qA
     obtain ⟨ad400,e400,hx400_0⟩:=Kd.at_string HR0.out x3_1 p400 q400
     cases e400
     replace p400:=eq_true p400
     replace q400:=eq_true q400
     go_wp2_with (first|(go_at_call 54;(with_reducible refine (ebbtideref02_Name.calls k1 (rdOf ByteArray.empty l0 x3_1) false _ A4.out).mono ?_);rintro e w' ⟨rfl,⟨nd,rfl⟩⟩;(try first|exact ⟨rfl,_,World.drewN_drewN _ _ _⟩|exact ⟨rfl,_,Eq.trans (World.drewN_drewN _ _ _) (congrArg (World.drewN _) (Nat.add_assoc _ _ _))⟩)))
     repeat (go_quiet (first|(go_at_call 54;(with_reducible refine (ebbtideref02_Name.calls k1 (rdOf ByteArray.empty l0 x3_1) false _ A4.out).mono ?_);rintro e w' ⟨rfl,⟨nd,rfl⟩⟩;(try first|exact ⟨rfl,_,World.drewN_drewN _ _ _⟩|exact ⟨rfl,_,Eq.trans (World.drewN_drewN _ _ _) (congrArg (World.drewN _) (Nat.add_assoc _ _ _))⟩)));try go_wp2_with (first|(go_at_call 54;(with_reducible refine (ebbtideref02_Name.calls k1 (rdOf ByteArray.empty l0 x3_1) false _ A4.out).mono ?_);rintro e w' ⟨rfl,⟨nd,rfl⟩⟩;(try first|exact ⟨rfl,_,World.drewN_drewN _ _ _⟩|exact ⟨rfl,_,Eq.trans (World.drewN_drewN _ _ _) (congrArg (World.drewN _) (Nat.add_assoc _ _ _))⟩))))
     go_ret
     exact ⟨qS,qD⟩
    subst c5
    have H1:(ebbtideref07_names.l0 k1 l0 (wrap64 (x3_1+1)))=some r:=by rw [if_pos rfl] at H;exact H
    clear H
    have H:=H1
    clear H1
    have H':=Aside0.mk H
    clear H
    have p400:0≤(x3_1:Int):=of_decide_eq_true qA
    have q400:x3_1<(l0.length:Int):=of_decide_eq_true qA
    obtain ⟨ad400,e400,hx400_0⟩:=Kd.at_string HR0.out x3_1 p400 q400
    cases e400
    replace p400:=eq_true p400
    replace q400:=eq_true q400
    go_wp2_with (first|(go_at_call 54;(with_reducible refine (ebbtideref02_Name.calls k1 (rdOf ByteArray.empty l0 x3_1) true _ A4.out).mono ?_);rintro e w' ⟨rfl,⟨nd,rfl⟩⟩;(try first|exact ⟨rfl,_,World.drewN_drewN _ _ _⟩|exact ⟨rfl,_,Eq.trans (World.drewN_drewN _ _ _) (congrArg (World.drewN _) (Nat.add_assoc _ _ _))⟩)))
    repeat (go_quiet (first|(go_at_call 54;(with_reducible refine (ebbtideref02_Name.calls k1 (rdOf ByteArray.empty l0 x3_1) true _ A4.out).mono ?_);rintro e w' ⟨rfl,⟨nd,rfl⟩⟩;(try first|exact ⟨rfl,_,World.drewN_drewN _ _ _⟩|exact ⟨rfl,_,Eq.trans (World.drewN_drewN _ _ _) (congrArg (World.drewN _) (Nat.add_assoc _ _ _))⟩)));try go_wp2_with (first|(go_at_call 54;(with_reducible refine (ebbtideref02_Name.calls k1 (rdOf ByteArray.empty l0 x3_1) true _ A4.out).mono ?_);rintro e w' ⟨rfl,⟨nd,rfl⟩⟩;(try first|exact ⟨rfl,_,World.drewN_drewN _ _ _⟩|exact ⟨rfl,_,Eq.trans (World.drewN_drewN _ _ _) (congrArg (World.drewN _) (Nat.add_assoc _ _ _))⟩))))
    go_roundg k1
    case measure=>have:=HK1.out;omega
    case rel=>exact ⟨(wrap64 (x3_1+1)),qS,H',⟨by have:=HK1.out;omega⟩,qD⟩
   rw [if_neg c2] at H
   have c2b0:decide (x3_1<(l0.length:Int))=false:=decide_eq_false c2
   clear c2
   by_cases c6:(l0.length:Int)>4
   ·rw [if_pos c6] at H
    have c6b0:decide (4<(l0.length:Int))=true:=decide_eq_true c6
    have c6b1:decide (4<l0.length)=true:=decide_eq_true (by omega)
    clear c6
    obtain rfl:=Option.some.inj H
    go_wp2
    repeat (go_quiet (fail);try go_wp2)
    go_ret
    exact ⟨qS,qD⟩
   rw [if_neg c6] at H
   have c6b0:decide (4<(l0.length:Int))=false:=decide_eq_false c6
   have c6b1:decide (4<l0.length)=false:=decide_eq_false (by omega)
   clear c6
   have H':=Aside0.mk H
   clear H
   go_wp2
   repeat (go_quiet (fail);try go_wp2)
   go_loopg [4] k1 (fun kq v4 w'=>∃ (x4_2:Int),v4 = .int .i64 x4_2∧Aside0 (ebbtideref07_names.l1 kq l0 x4_2=some r)∧Aside0 (kq≤k1)∧Drawn0 w w')
   case atStart=>exact ⟨(0),qS,H',⟨Nat.le_refl _⟩,qD⟩
   case round =>
    clear H'
    try clear c2b0;try clear c6b0;try clear c6b1
    obtain ⟨x4_2,rfl,HA,HK2,⟨m2,rfl⟩⟩:=hrel
    cases gk with
    | zero=>exact absurd HA.out (by simp [ebbtideref07_names.l1])
    | succ k2 =>
     have H:=HA.out
     clear HA
     simp only [ebbtideref07_names.l1] at H
     by_cases c7:x4_2<(l0.length:Int)
     rotate_left
     ·rw [if_neg c7] at H
      have c7b0:decide (x4_2<(l0.length:Int))=false:=decide_eq_false c7
      clear c7
      obtain rfl:=Option.some.inj H
      go_wp2
      repeat (go_quiet (fail);try go_wp2)
      go_ret
      exact ⟨qS,qD⟩
     rw [if_pos c7] at H
     have c7b0:decide (x4_2<(l0.length:Int))=true:=decide_eq_true c7
     clear c7
     have H':=Aside0.mk H
     clear H
     go_wp2
     repeat (go_quiet (fail);try go_wp2)
     go_loopg [5] k2 (fun kq v5 w'=>∃ (x5_3:Int),v5 = .int .i64 x5_3∧Aside0 (ebbtideref07_names.l2 kq l0 x4_2 x5_3=some r)∧Aside0 (kq≤k2)∧Drawn0 w w')
     case atStart=>exact ⟨(0),qS,H',⟨Nat.le_refl _⟩,qD⟩
     case round =>
      clear H'
      try clear c2b0;try clear c6b0;try clear c7b0
      obtain ⟨x5_3,rfl,HA,HK3,⟨m3,rfl⟩⟩:=hrel
      cases gk with
      | zero=>exact absurd HA.out (by simp [ebbtideref07_names.l2])
      | succ k3 =>
       have H:=HA.out
       clear HA
       simp only [ebbtideref07_names.l2] at H
       by_cases c8:x5_3<x4_2
       rotate_left
       ·rw [if_neg c8] at H
        have c8b0:decide (x5_3<x4_2)=false:=decide_eq_false c8
        clear c8
        have H':=Aside0.mk H
        clear H
        go_wp2
        repeat (go_quiet (fail);try go_wp2)
        go_roundg k3
        case measure=>have:=HK1.out;have:=HK2.out;have:=HK3.out;omega
        case rel=>exact ⟨(wrap64 (x4_2+1)),qS,H',⟨by have:=HK1.out;have:=HK2.out;have:=HK3.out;omega⟩,qD⟩
       rw [if_pos c8] at H
       have c8b0:decide (x5_3<x4_2)=true:=decide_eq_true c8
       clear c8
       by_cases c9:0≤x5_3
       rotate_left
       ·rw [if_neg c9] at H
        exact absurd H (by simp)
       rw [if_pos c9] at H
       have c9b0:decide (0≤x5_3)=true:=decide_eq_true c9
       clear c9
       by_cases c10:x5_3<(l0.length:Int)
       rotate_left
       ·rw [if_neg c10] at H
        exact absurd H (by simp)
       rw [if_pos c10] at H
       have c10b0:decide (x5_3<(l0.length:Int))=true:=decide_eq_true c10
       clear c10
       by_cases c11:0≤x4_2
       rotate_left
       ·rw [if_neg c11] at H
        exact absurd H (by simp)
       rw [if_pos c11] at H
       have c11b0:decide (0≤x4_2)=true:=decide_eq_true c11
       clear c11
       by_cases c12:x4_2<(l0.length:Int)
       rotate_left
       ·rw [if_neg c12] at H
        exact absurd H (by simp)
       rw [if_pos c12] at H
       have c12b0:decide (x4_2<(l0.length:Int))=true:=decide_eq_true c12
       clear c12
       by_cases c13:(rdOf ByteArray.empty l0 x5_3).toList=(rdOf ByteArray.empty l0 x4_2).toList
       ·rw [if_pos c13] at H
        have c13b0:((rdOf ByteArray.empty l0 x5_3).toList ==(rdOf ByteArray.empty l0 x4_2).toList)=true:=beq_iff_eq.mpr c13
        have c13b1:((rdOf ByteArray.empty l0 x5_3).toList != (rdOf ByteArray.empty l0 x4_2).toList)=false:=bne_eq_false_iff_eq.mpr c13
        clear c13
        obtain rfl:=Option.some.inj H
        have p402:0≤(x5_3:Int):=of_decide_eq_true qA
        have q402:x5_3<(l0.length:Int):=of_decide_eq_true qA
        obtain ⟨ad402,e402,hx402_0⟩:=Kd.at_string HR0.out x5_3 p402 q402
        cases e402
        replace p402:=eq_true p402
        replace q402:=eq_true q402
        have p403:0≤(x4_2:Int):=of_decide_eq_true qA
        have q403:x4_2<(l0.length:Int):=of_decide_eq_true qA
        obtain ⟨ad403,e403,hx403_0⟩:=Kd.at_string HR0.out x4_2 p403 q403
        obtain rfl:ad402=ad403:=(by injection e403)
        replace p403:=eq_true p403
        replace q403:=eq_true q403
        go_wp2
        repeat (go_quiet (fail);try go_wp2)
        go_ret
        exact ⟨qS,qD⟩
       rw [if_neg c13] at H
       have c13b0:((rdOf ByteArray.empty l0 x5_3).toList ==(rdOf ByteArray.empty l0 x4_2).toList)=false:=beq_eq_false_iff_ne.mpr c13
       have c13b1:((rdOf ByteArray.empty l0 x5_3).toList != (rdOf ByteArray.empty l0 x4_2).toList)=true:=bne_iff_ne.mpr c13
       have H':=Aside0.mk H
       clear H
       have p402:0≤(x5_3:Int):=of_decide_eq_true qA
       have q402:x5_3<(l0.length:Int):=of_decide_eq_true qA
       obtain ⟨ad402,e402,hx402_0⟩:=Kd.at_string HR0.out x5_3 p402 q402
       cases e402
       replace p402:=eq_true p402
       replace q402:=eq_true q402
       have p403:0≤(x4_2:Int):=of_decide_eq_true qA
       have q403:x4_2<(l0.length:Int):=of_decide_eq_true qA
       obtain ⟨ad403,e403,hx403_0⟩:=Kd.at_string HR0.out x4_2 p403 q403
       obtain rfl:ad402=ad403:=(by injection e403)
       replace p403:=eq_true p403
       replace q403:=eq_true q403
       go_wp2
       repeat (go_quiet (fail);try go_wp2)
       go_roundg k3
       case measure=>have:=HK1.out;have:=HK2.out;have:=HK3.out;omega
       case rel=>exact ⟨(wrap64 (x5_3+1)),qS,H',⟨by have:=HK1.out;have:=HK2.out;have:=HK3.out;omega⟩,qD⟩
def ebbtideref07_Right.f (k:Nat) (a0_0:Int) (a0_1:ByteArray) (l0_2:List (S127)) (l0_3:List ByteArray):Option (Bool):=if a0_0≥1 then (if a0_0≤4 then ((ebbtideref02_Name.f k a0_1).bind fun t405=>(if t405=true then ((ebbtideref05_Right.f k l0_2).bind fun t406=>(if t406=true then ((ebbtideref07_names.f k l0_3).bind fun t407=>(some (t407 ==0))) else (some false))) else (some false))) else (some false)) else (some false)
theorem ebbtideref07_Right.mono:∀ a0 a1 a2 a3 k,LeO (ebbtideref07_Right.f k a0 a1 a2 a3) (ebbtideref07_Right.f (k+1) a0 a1 a2 a3):=by
 intro a0 a1 a2 a3 k
 unfold ebbtideref07_Right.f
 repeat' first
   | (with_reducible exact ebbtideref02_Name.mono _ _)
   | (with_reducible exact ebbtideref05_Right.mono _ _)
   | (with_reducible exact ebbtideref07_names.mono _ _)
   | (with_reducible exact LeO.refl _)
   | (with_reducible exact LeO.none _)
   | (with_reducible refine LeO.ite ?_ ?_)
   | (with_reducible refine LeO.bind ?_ (fun _=>?_))
   | exact ebbtideref02_Name.mono _ _
   | exact ebbtideref05_Right.mono _ _
   | exact ebbtideref07_names.mono _ _
   | exact LeO.none _
   | refine LeO.ite ?_ ?_
   | refine LeO.bind ?_ (fun _=>?_)
theorem ebbtideref07_Right.calls (k:Nat) (a0_0:Int) (a0_1:ByteArray) (A0_2:Option Addr) (c0_2:Nat) (l0_2:List (S127)) (A0_3:Option Addr) (c0_3:Nat) (l0_3:List ByteArray) (r:Bool) (w:World) (hr0_2:Kd.C k127 w A0_2 l0_2.length l0_2) (hc0_2:l0_2.length≤c0_2) (hr0_3:Kd.C Kd.string w A0_3 l0_3.length l0_3) (hc0_3:l0_3.length≤c0_3) (h:ebbtideref07_Right.f k a0_0 a0_1 l0_2 l0_3=some r) :
  Calls Tryz.prog 15 #[.agg #[.int .i64 a0_0, .string a0_1, .slice A0_2 l0_2.length c0_2, .slice A0_3 l0_3.length c0_3]] w fun e w'=>e = .returned (.bool r)∧Below w.heap.size w w':=by
 have hu25:=Tryz.underlying25
 have HR0_2:=Aside0.mk hr0_2
 have HC0_2:=Aside0.mk hc0_2
 clear hr0_2 hc0_2
 have HR0_3:=Aside0.mk hr0_3
 have HC0_3:=Aside0.mk hc0_3
 clear hr0_3 hc0_3
 have HB:=Aside0.mk (Below.refl w.heap.size w)
 have H:(if a0_0≥1 then (if a0_0≤4 then ((ebbtideref02_Name.f k a0_1).bind fun t405=>(if t405=true then ((ebbtideref05_Right.f k l0_2).bind fun t406=>(if t406=true then ((ebbtideref07_names.f k l0_3).bind fun t407=>(some (t407 ==0))) else (some false))) else (some false))) else (some false)) else (some false))=some r:=h
 clear h
 by_cases c2:a0_0≥1
 rotate_left
 ·rw [if_neg c2] at H
  have c2b0:decide (1≤a0_0)=false:=decide_eq_false c2
  clear c2
  obtain rfl:=Option.some.inj H
  go_enter Tryz.func15,Tryz.ntmps15
  go_wp2_with (first|((with_reducible refine gate_dst (N:=1) rfl ?_);refine box_event ?hg (N:=1) ?hd (cs:=#[.int .i64 a0_0, .string a0_1, .slice A0_2 l0_2.length c0_2, .slice A0_3 l0_3.length c0_3]) (t:=25) ?hr ?_;(case hd=>rfl);(case hg=>rfl);(case hr=>first|(go_simp;done)|(go_simp;rfl));intro gb404 hg w20 hbox hb;have BK404:=Aside0.mk hbox;have GW404:Aside0 (w.heap.size≤gb404):=⟨qH⟩;have GE404:=GW404;replace HB:=Aside0.mk (below_step qB hb);clear hb hbox hg;obtain ⟨hcz21_0,hcz21_1,hcz21_2,hcz21_3,hfz21_0,hfz21_1,hfz21_2,hfz21_3⟩:=cf4 BK404.out))
  go_ret
  exact ⟨qE,qC⟩
 rw [if_pos c2] at H
 have c2b0:decide (1≤a0_0)=true:=decide_eq_true c2
 clear c2
 by_cases c3:a0_0≤4
 rotate_left
 ·rw [if_neg c3] at H
  have c3b0:decide (a0_0≤4)=false:=decide_eq_false c3
  clear c3
  obtain rfl:=Option.some.inj H
  go_enter Tryz.func15,Tryz.ntmps15
  go_wp2_with (first|((with_reducible refine gate_dst (N:=1) rfl ?_);refine box_event ?hg (N:=1) ?hd (cs:=#[.int .i64 a0_0, .string a0_1, .slice A0_2 l0_2.length c0_2, .slice A0_3 l0_3.length c0_3]) (t:=25) ?hr ?_;(case hd=>rfl);(case hg=>rfl);(case hr=>first|(go_simp;done)|(go_simp;rfl));intro gb404 hg w18 hbox hb;have BK404:=Aside0.mk hbox;have GW404:Aside0 (w.heap.size≤gb404):=⟨qH⟩;have GE404:=GW404;replace HB:=Aside0.mk (below_step qB hb);clear hb hbox hg;obtain ⟨hcz19_0,hcz19_1,hcz19_2,hcz19_3,hfz19_0,hfz19_1,hfz19_2,hfz19_3⟩:=cf4 BK404.out))
  go_ret
  exact ⟨qE,qC⟩
 rw [if_pos c3] at H
 have c3b0:decide (a0_0≤4)=true:=decide_eq_true c3
 clear c3
 replace H:=Option.bind_eq_some_iff.mp H
 obtain ⟨t405,A40,H⟩:=H
 replace H:(if t405=true then ((ebbtideref05_Right.f k l0_2).bind fun t406=>(if t406=true then ((ebbtideref07_names.f k l0_3).bind fun t407=>(some (t407 ==0))) else (some false))) else (some false))=some r:=H
 have A4:=Aside0.mk A40
 clear A40
 by_cases c5:t405=true
 rotate_left
 ·replace c5:=Bool.eq_false_iff.mpr c5
  subst c5
  have H1:(some false)=some r:=by rw [if_neg (show ¬ (false=true) by decide)] at H;exact H
  clear H
  have H:=H1
  clear H1
  obtain rfl:=Option.some.inj H
  go_enter Tryz.func15,Tryz.ntmps15
  go_wp2_with (first|((with_reducible refine gate_dst (N:=1) rfl ?_);refine box_event ?hg (N:=1) ?hd (cs:=#[.int .i64 a0_0, .string a0_1, .slice A0_2 l0_2.length c0_2, .slice A0_3 l0_3.length c0_3]) (t:=25) ?hr ?_;(case hd=>rfl);(case hg=>rfl);(case hr=>first|(go_simp;done)|(go_simp;rfl));intro gb404 hg w16 hbox hb;have BK404:=Aside0.mk hbox;have GW404:Aside0 (w.heap.size≤gb404):=⟨qH⟩;have GE404:=GW404;replace HB:=Aside0.mk (below_step qB hb);clear hb hbox hg;obtain ⟨hcz17_0,hcz17_1,hcz17_2,hcz17_3,hfz17_0,hfz17_1,hfz17_2,hfz17_3⟩:=cf4 BK404.out)|(go_at_call 54;(with_reducible refine (ebbtideref02_Name.calls k a0_1 false _ A4.out).mono ?_);rintro e w' ⟨rfl,⟨nd,rfl⟩⟩))
  go_ret
  exact ⟨qE,qC⟩
 subst c5
 have H1:((ebbtideref05_Right.f k l0_2).bind fun t406=>(if t406=true then ((ebbtideref07_names.f k l0_3).bind fun t407=>(some (t407 ==0))) else (some false)))=some r:=by rw [if_pos rfl] at H;exact H
 clear H
 have H:=H1
 clear H1
 replace H:=Option.bind_eq_some_iff.mp H
 obtain ⟨t406,A60,H⟩:=H
 replace H:(if t406=true then ((ebbtideref07_names.f k l0_3).bind fun t407=>(some (t407 ==0))) else (some false))=some r:=H
 have A6:=Aside0.mk A60
 clear A60
 by_cases c7:t406=true
 rotate_left
 ·replace c7:=Bool.eq_false_iff.mpr c7
  subst c7
  have H1:(some false)=some r:=by rw [if_neg (show ¬ (false=true) by decide)] at H;exact H
  clear H
  have H:=H1
  clear H1
  obtain rfl:=Option.some.inj H
  go_enter Tryz.func15,Tryz.ntmps15
  go_wp2_with (first|((with_reducible refine gate_dst (N:=1) rfl ?_);refine box_event ?hg (N:=1) ?hd (cs:=#[.int .i64 a0_0, .string a0_1, .slice A0_2 l0_2.length c0_2, .slice A0_3 l0_3.length c0_3]) (t:=25) ?hr ?_;(case hd=>rfl);(case hg=>rfl);(case hr=>first|(go_simp;done)|(go_simp;rfl));intro gb404 hg w13 hbox hb;have BK404:=Aside0.mk hbox;have GW404:Aside0 (w.heap.size≤gb404):=⟨qH⟩;have GE404:=GW404;replace HB:=Aside0.mk (below_step qB hb);clear hb hbox hg;obtain ⟨hcz14_0,hcz14_1,hcz14_2,hcz14_3,hfz14_0,hfz14_1,hfz14_2,hfz14_3⟩:=cf4 BK404.out)|(go_at_call 54;(with_reducible refine (ebbtideref02_Name.calls k a0_1 true _ A4.out).mono ?_);rintro e w' ⟨rfl,⟨nd,rfl⟩⟩)|(go_at_call 55;(with_reducible refine (ebbtideref05_Right.calls k _ _ l0_2 false _ ?side1 ?side2 A6.out).mono ?_);(case side1=>repeat (first|exact (Kd.C_below HR0_2.out qC)|(with_reducible refine Kd.C_alloc ?_ _)|(with_reducible refine Kd.C_drewN ?_ _)|(with_reducible refine Kd.C_drew ?_)));(case side2=>exact HC0_2.out);rintro e w15 ⟨rfl,hb⟩;replace BK404:=Aside0.mk (blk_below (g:=gb404) (o := .cells #[.int .i64 a0_0, .string a0_1, .slice A0_2 l0_2.length c0_2, .slice A0_3 l0_3.length c0_3] 25 (0,0)) (qW BK404) hb);replace HB:=Aside0.mk (below_step qC hb);clear hb))
  go_ret
  exact ⟨qE,qC⟩
 subst c7
 have H1:((ebbtideref07_names.f k l0_3).bind fun t407=>(some (t407 ==0)))=some r:=by rw [if_pos rfl] at H;exact H
 clear H
 have H:=H1
 clear H1
 replace H:=Option.bind_eq_some_iff.mp H
 obtain ⟨t407,A80,H⟩:=H
 replace H:(some (t407 ==0))=some r:=H
 have A8:=Aside0.mk A80
 clear A80
 obtain rfl:=Option.some.inj H
 go_enter Tryz.func15,Tryz.ntmps15
 go_wp2_with (first|((with_reducible refine gate_dst (N:=1) rfl ?_);refine box_event ?hg (N:=1) ?hd (cs:=#[.int .i64 a0_0, .string a0_1, .slice A0_2 l0_2.length c0_2, .slice A0_3 l0_3.length c0_3]) (t:=25) ?hr ?_;(case hd=>rfl);(case hg=>rfl);(case hr=>first|(go_simp;done)|(go_simp;rfl));intro gb404 hg w9 hbox hb;have BK404:=Aside0.mk hbox;have GW404:Aside0 (w.heap.size≤gb404):=⟨qH⟩;have GE404:=GW404;replace HB:=Aside0.mk (below_step qB hb);clear hb hbox hg;obtain ⟨hcz10_0,hcz10_1,hcz10_2,hcz10_3,hfz10_0,hfz10_1,hfz10_2,hfz10_3⟩:=cf4 BK404.out)|(go_at_call 54;(with_reducible refine (ebbtideref02_Name.calls k a0_1 true _ A4.out).mono ?_);rintro e w' ⟨rfl,⟨nd,rfl⟩⟩)|(go_at_call 55;(with_reducible refine (ebbtideref05_Right.calls k _ _ l0_2 true _ ?side1 ?side2 A6.out).mono ?_);(case side1=>repeat (first|exact (Kd.C_below HR0_2.out qC)|(with_reducible refine Kd.C_alloc ?_ _)|(with_reducible refine Kd.C_drewN ?_ _)|(with_reducible refine Kd.C_drew ?_)));(case side2=>exact HC0_2.out);rintro e w11 ⟨rfl,hb⟩;replace BK404:=Aside0.mk (blk_below (g:=gb404) (o := .cells #[.int .i64 a0_0, .string a0_1, .slice A0_2 l0_2.length c0_2, .slice A0_3 l0_3.length c0_3] 25 (0,0)) (qW BK404) hb);replace HB:=Aside0.mk (below_step qC hb);clear hb;obtain ⟨hcz12_0,hcz12_1,hcz12_2,hcz12_3,hfz12_0,hfz12_1,hfz12_2,hfz12_3⟩:=cf4 BK404.out)|(go_at_call 56;(with_reducible refine (ebbtideref07_names.calls k _ _ l0_3 t407 _ ?side1 ?side2 A8.out).mono ?_);(case side1=>repeat (first|exact (Kd.C_below HR0_3.out HB.out)|(with_reducible refine Kd.C_alloc ?_ _)|(with_reducible refine Kd.C_drewN ?_ _)|(with_reducible refine Kd.C_drew ?_)));(case side2=>exact HC0_3.out);rintro e w' ⟨rfl,⟨nd,rfl⟩⟩))
 go_ret
 exact ⟨qE,qC⟩
def ebbtideref05_Text.l0:Nat→List (S127)→List ByteArray→Int→Option (ByteArray)
 | 0,_,_,_=>none
 | k+1,x0,x3,x4=>if x4<(x0.length:Int) then (if 0≤x4 then (if ((rd_T127 x0 x4).f0)=1 then (if ((rd_T127 x0 x4).f1).size+1≤9223372036854775807 then (if ((rd_T127 x0 x4).f1).size+1+((rd_T127 x0 x4).f2).size≤9223372036854775807 then (if x3.length<8796093022208 then (ebbtideref05_Text.l0 k x0 (x3++[(((rd_T127 x0 x4).f1)++(⟨#[61]⟩:ByteArray))++((rd_T127 x0 x4).f2)]) (wrap64 (x4+1))) else (none)) else (none)) else (none)) else (if ((rd_T127 x0 x4).f0)=2 then (if ((rd_T127 x0 x4).f1).size+2≤9223372036854775807 then (if ((rd_T127 x0 x4).f1).size+2+((rd_T127 x0 x4).f2).size≤9223372036854775807 then (if x3.length<8796093022208 then (ebbtideref05_Text.l0 k x0 (x3++[(((rd_T127 x0 x4).f1)++(⟨#[33,61]⟩:ByteArray))++((rd_T127 x0 x4).f2)]) (wrap64 (x4+1))) else (none)) else (none)) else (none)) else (if ((rd_T127 x0 x4).f0)=3 then (if ((rd_T127 x0 x4).f1).size+1≤9223372036854775807 then (if ((rd_T127 x0 x4).f1).size+1+((rd_T127 x0 x4).f2).size≤9223372036854775807 then (if ((rd_T127 x0 x4).f1).size+1+((rd_T127 x0 x4).f2).size+1≤9223372036854775807 then (if x3.length<8796093022208 then (ebbtideref05_Text.l0 k x0 (x3++[((((rd_T127 x0 x4).f1)++(⟨#[61]⟩:ByteArray))++((rd_T127 x0 x4).f2))++(⟨#[42]⟩:ByteArray)]) (wrap64 (x4+1))) else (none)) else (none)) else (none)) else (none)) else (if x3.length<8796093022208 then (ebbtideref05_Text.l0 k x0 (x3++[(rd_T127 x0 x4).f1]) (wrap64 (x4+1))) else (none))))) else (none)) else ((ebbtideref02_Join.f k (⟨#[44]⟩:ByteArray) x3).bind fun t411=>(some t411))
def ebbtideref05_Text.f (k:Nat) (l0:List (S127)):Option (ByteArray):=ebbtideref05_Text.l0 k l0 ([]:List ByteArray) 0
theorem ebbtideref05_Text.mono_l:∀ k,(∀ y0 y1 y2,LeO (ebbtideref05_Text.l0 k y0 y1 y2) (ebbtideref05_Text.l0 (k+1) y0 y1 y2))
 | 0=>fun _ _ _ r h=>by simp [ebbtideref05_Text.l0] at h
 | k+1=>by
  have ih0:=ebbtideref05_Text.mono_l k
  ·intro y0 y1 y2
   unfold ebbtideref05_Text.l0
   repeat' first
   | (with_reducible exact ih0 _ _ _)
   | (with_reducible exact ebbtideref02_Join.mono _ _ _)
   | (with_reducible exact LeO.refl _)
   | (with_reducible exact LeO.none _)
   | (with_reducible refine LeO.ite ?_ ?_)
   | (with_reducible refine LeO.bind ?_ (fun _=>?_))
   | exact ih0 _ _ _
   | exact ebbtideref02_Join.mono _ _ _
   | exact LeO.none _
   | refine LeO.ite ?_ ?_
   | refine LeO.bind ?_ (fun _=>?_)
theorem ebbtideref05_Text.mono:∀ a0 k,LeO (ebbtideref05_Text.f k a0) (ebbtideref05_Text.f (k+1) a0):=by
 intro a0 k
 have ih0:=ebbtideref05_Text.mono_l k
 unfold ebbtideref05_Text.f
 repeat' first
   | (with_reducible exact ih0 _ _ _)
   | (with_reducible exact ebbtideref02_Join.mono _ _ _)
   | (with_reducible exact LeO.refl _)
   | (with_reducible exact LeO.none _)
   | (with_reducible refine LeO.ite ?_ ?_)
   | (with_reducible refine LeO.bind ?_ (fun _=>?_))
   | exact ih0 _ _ _
   | exact ebbtideref02_Join.mono _ _ _
   | exact LeO.none _
   | refine LeO.ite ?_ ?_
   | refine LeO.bind ?_ (fun _=>?_)
theorem ebbtideref05_Text.calls (k:Nat) (A0:Option Addr) (c0:Nat) (l0:List (S127)) (r:ByteArray) (w:World) (hr0:Kd.C k127 w A0 l0.length l0) (hc0:l0.length≤c0) (h:ebbtideref05_Text.f k l0=some r) :
  Calls Tryz.prog 60 #[.slice A0 l0.length c0] w fun e w'=>e = .returned (.string r)∧Below w.heap.size w w':=by
 have HR0:=Aside0.mk hr0
 have HC0:=Aside0.mk hc0
 clear hr0 hc0
 have HB:=Aside0.mk (Below.refl w.heap.size w)
 have H:(ebbtideref05_Text.l0 k l0 ([]:List ByteArray) 0)=some r:=h
 clear h
 have H':=Aside0.mk H
 clear H
 go_enter Tryz.func60,Tryz.ntmps60
 go_wp2
 go_loopg [3,4] k (fun kq v3 v4 w'=>∃ (x3_1:List ByteArray) (x4_1:Int),v4 = .int .i64 x4_1∧Aside0 (ebbtideref05_Text.l0 kq l0 x3_1 x4_1=some r)∧Aside0 (kq≤k)∧Aside0 (Kd.R Kd.string 9 w' w.heap.size (fun _=>True) v3 x3_1)∧Aside0 (Below w.heap.size w w'))
 case atStart=>exact ⟨(([]:List ByteArray)),(0),qS,H',⟨Nat.le_refl _⟩,⟨qN⟩,⟨qB⟩⟩
 case round =>
  clear H'
  obtain ⟨x3_1,x4_1,rfl,HA,HK1,HO_3,HB⟩:=hrel
  cases gk with
  | zero=>exact absurd HA.out (by simp [ebbtideref05_Text.l0])
  | succ k1 =>
   have H:=HA.out
   clear HA
   simp only [ebbtideref05_Text.l0] at H
   by_cases c2:x4_1<(l0.length:Int)
   rotate_left
   ·rw [if_neg c2] at H
    have c2b0:decide (x4_1<(l0.length:Int))=false:=decide_eq_false c2
    clear c2
    replace H:=Option.bind_eq_some_iff.mp H
    obtain ⟨t411,A220,H⟩:=H
    replace H:(some t411)=some r:=H
    have A22:=Aside0.mk A220
    clear A220
    obtain rfl:=Option.some.inj H
    obtain ⟨Ao23,co23,eo23⟩:=Kd.R_slice HO_3.out
    subst eo23
    go_wp2_with (first|((with_reducible refine gate_callee (f:=61) rfl ?_);refine goesL_ (some 58) rfl rfl Tryz.func61 qK rfl #[.string (⟨#[44]⟩:ByteArray), .slice Ao23 x3_1.length co23] rfl qG ?_;(with_reducible refine (ebbtideref02_Join.calls k1 (⟨#[44]⟩:ByteArray) _ _ x3_1 t411 _ ?side1 ?side2 A22.out).mono ?_);(case side1=>repeat (first|exact (Kd.R_reads' HO_3.out).2.2|(with_reducible refine Kd.C_alloc ?_ _)|(with_reducible refine Kd.C_drewN ?_ _)|(with_reducible refine Kd.C_drew ?_)));(case side2=>exact (Kd.R_reads' HO_3.out).2.1);rintro e w' ⟨rfl,⟨nd,rfl⟩⟩;refine ⟨_,rfl,?_⟩))
    go_ret
    exact ⟨qE,qB⟩
   rw [if_pos c2] at H
   have c2b0:decide (x4_1<(l0.length:Int))=true:=decide_eq_true c2
   clear c2
   by_cases c3:0≤x4_1
   rotate_left
   ·rw [if_neg c3] at H
    exact absurd H (by simp)
   rw [if_pos c3] at H
   have c3b0:decide (0≤x4_1)=true:=decide_eq_true c3
   clear c3
   by_cases c4:((rd_T127 l0 x4_1).f0)=1
   ·rw [if_pos c4] at H
    have c4b0:(((rd_T127 l0 x4_1).f0) ==1)=true:=beq_iff_eq.mpr c4
    have c4b1:(((rd_T127 l0 x4_1).f0) != 1)=false:=bne_eq_false_iff_eq.mpr c4
    clear c4
    by_cases c5:((rd_T127 l0 x4_1).f1).size+1≤9223372036854775807
    rotate_left
    ·rw [if_neg c5] at H
     exact absurd H (by simp)
    rw [if_pos c5] at H
    have c5b0:=eq_true c5
    have c5b1:decide (((rd_T127 l0 x4_1).f1).size+1≤9223372036854775807)=true:=decide_eq_true c5
    try have c5b2:(9223372036854775807<((rd_T127 l0 x4_1).f1).size+1)=False:=eq_false (Nat.not_lt.2 c5)
    by_cases c6:((rd_T127 l0 x4_1).f1).size+1+((rd_T127 l0 x4_1).f2).size≤9223372036854775807
    rotate_left
    ·rw [if_neg c6] at H
     exact absurd H (by simp)
    rw [if_pos c6] at H
    have c6b0:=eq_true c6
    have c6b1:decide (((rd_T127 l0 x4_1).f1).size+1+((rd_T127 l0 x4_1).f2).size≤9223372036854775807)=true:=decide_eq_true c6
    try have c6b2:(9223372036854775807<((rd_T127 l0 x4_1).f1).size+1+((rd_T127 l0 x4_1).f2).size)=False:=eq_false (Nat.not_lt.2 c6)
    by_cases c7:x3_1.length<8796093022208
    rotate_left
    ·rw [if_neg c7] at H
     exact absurd H (by simp)
    rw [if_pos c7] at H
    have LMc7:=Aside0.mk c7
    clear c7
    obtain ⟨y415,hy415⟩:∃ y_:List ByteArray,y_=(x3_1++[(((rd_T127 l0 x4_1).f1)++(⟨#[61]⟩:ByteArray))++((rd_T127 l0 x4_1).f2)]):=⟨_,rfl⟩
    replace H:(ebbtideref05_Text.l0 k1 l0 y415 (wrap64 (x4_1+1)))=some r:=by first|(rw [hy415];with_reducible exact H)|(have H2_:=(Option.bind_some _ _).symm.trans H;rw [hy415];with_reducible exact H2_)|(have H2_:=(Option.bind_some _ _).symm.trans H;with_reducible exact H2_)|with_reducible exact H|(rw [hy415];exact H)|exact H
    have Ny415:=Aside0.mk hy415
    clear hy415
    have H':=Aside0.mk H
    clear H
    have p412:0≤(x4_1:Int):=of_decide_eq_true qA
    have q412:x4_1<(l0.length:Int):=of_decide_eq_true qA
    obtain ⟨ad412,e412,hx412_0,hx412_1,hx412_2⟩:=at_T127 HR0.out x4_1 p412 q412
    cases e412
    replace hx412_0:=(HB.out.cell (World.block_lt_of_cell? w _ hx412_0)).trans hx412_0
    replace hx412_1:=(HB.out.cell (World.block_lt_of_cell? w _ hx412_1)).trans hx412_1
    replace hx412_2:=(HB.out.cell (World.block_lt_of_cell? w _ hx412_2)).trans hx412_2
    replace p412:=eq_true p412
    replace q412:=eq_true q412
    have p413:0≤(x4_1:Int):=of_decide_eq_true qA
    have q413:x4_1<(l0.length:Int):=of_decide_eq_true qA
    obtain ⟨ad413,e413,hx413_0,hx413_1,hx413_2⟩:=at_T127 HR0.out x4_1 p413 q413
    obtain rfl:ad412=ad413:=(by injection e413)
    replace hx413_0:=(HB.out.cell (World.block_lt_of_cell? w _ hx413_0)).trans hx413_0
    replace hx413_1:=(HB.out.cell (World.block_lt_of_cell? w _ hx413_1)).trans hx413_1
    replace hx413_2:=(HB.out.cell (World.block_lt_of_cell? w _ hx413_2)).trans hx413_2
    replace p413:=eq_true p413
    replace q413:=eq_true q413
    have p414:0≤(x4_1:Int):=of_decide_eq_true qA
    have q414:x4_1<(l0.length:Int):=of_decide_eq_true qA
    obtain ⟨ad414,e414,hx414_0,hx414_1,hx414_2⟩:=at_T127 HR0.out x4_1 p414 q414
    obtain rfl:ad412=ad414:=(by injection e414)
    replace hx414_0:=(HB.out.cell (World.block_lt_of_cell? w _ hx414_0)).trans hx414_0
    replace hx414_1:=(HB.out.cell (World.block_lt_of_cell? w _ hx414_1)).trans hx414_1
    replace hx414_2:=(HB.out.cell (World.block_lt_of_cell? w _ hx414_2)).trans hx414_2
    replace p414:=eq_true p414
    replace q414:=eq_true q414
    go_wp2_with (first|((with_reducible refine gate_builtin (b := .append) (xs:=#[.tmp 53, .tmp 55]) rfl ?_);at_builtin;refine Kd.R_append Kd.string (w0:=w) w.heap.size rfl (.tmp 53) (.tmp 55) 23 9 (.string ⟨#[]⟩) 16 rfl Tryz.underlying23 info9 rfl (by decide) (by omega) u3 x3_1 ((((rd_T127 l0 x4_1).f1)++(⟨#[61]⟩:ByteArray))++((rd_T127 l0 x4_1).f2)) [.string ((((rd_T127 l0 x4_1).f1)++(⟨#[61]⟩:ByteArray))++((rd_T127 l0 x4_1).f2))] (fun _=>True) (fun _=>False) rfl rfl ?aP (fun _ hk=>hk.elim) ?aF ?aO ?aB ?aS ?aL ?_;(case aP=>exact rfl);(case aB=>exact qB);(case aF=>exact (fun _ _=>trivial));(case aO=>exact (qR HO_3));(case aS=>exact (below_size qB));(case aL=>have:=LMc7.out;omega);intro v416 w8 ho hb hg hat;rw [← Ny415.out] at ho;replace HB:=Aside0.mk hb;have HO417:=Aside0.mk ho;clear HO_3;clear ho hb hg hat))
    go_roundg k1
    case measure=>have:=HK1.out;omega
    case rel=>exact ⟨(y415),(wrap64 (x4_1+1)),qS,H',⟨by have:=HK1.out;omega⟩,⟨qR HO417⟩,⟨qB⟩⟩
   rw [if_neg c4] at H
   have c4b0:(((rd_T127 l0 x4_1).f0) ==1)=false:=beq_eq_false_iff_ne.mpr c4
   have c4b1:(((rd_T127 l0 x4_1).f0) != 1)=true:=bne_iff_ne.mpr c4
   by_cases c9:((rd_T127 l0 x4_1).f0)=2
   ·rw [if_pos c9] at H
    have c9b0:(((rd_T127 l0 x4_1).f0) ==2)=true:=beq_iff_eq.mpr c9
    have c9b1:(((rd_T127 l0 x4_1).f0) != 2)=false:=bne_eq_false_iff_eq.mpr c9
    clear c9
    by_cases c10:((rd_T127 l0 x4_1).f1).size+2≤9223372036854775807
    rotate_left
    ·rw [if_neg c10] at H
     exact absurd H (by simp)
    rw [if_pos c10] at H
    have c10b0:=eq_true c10
    have c10b1:decide (((rd_T127 l0 x4_1).f1).size+2≤9223372036854775807)=true:=decide_eq_true c10
    try have c10b2:(9223372036854775807<((rd_T127 l0 x4_1).f1).size+2)=False:=eq_false (Nat.not_lt.2 c10)
    by_cases c11:((rd_T127 l0 x4_1).f1).size+2+((rd_T127 l0 x4_1).f2).size≤9223372036854775807
    rotate_left
    ·rw [if_neg c11] at H
     exact absurd H (by simp)
    rw [if_pos c11] at H
    have c11b0:=eq_true c11
    have c11b1:decide (((rd_T127 l0 x4_1).f1).size+2+((rd_T127 l0 x4_1).f2).size≤9223372036854775807)=true:=decide_eq_true c11
    try have c11b2:(9223372036854775807<((rd_T127 l0 x4_1).f1).size+2+((rd_T127 l0 x4_1).f2).size)=False:=eq_false (Nat.not_lt.2 c11)
    by_cases c12:x3_1.length<8796093022208
    rotate_left
    ·rw [if_neg c12] at H
     exact absurd H (by simp)
    rw [if_pos c12] at H
    have LMc12:=Aside0.mk c12
    clear c12
    obtain ⟨y419,hy419⟩:∃ y_:List ByteArray,y_=(x3_1++[(((rd_T127 l0 x4_1).f1)++(⟨#[33,61]⟩:ByteArray))++((rd_T127 l0 x4_1).f2)]):=⟨_,rfl⟩
    replace H:(ebbtideref05_Text.l0 k1 l0 y419 (wrap64 (x4_1+1)))=some r:=by first|(rw [hy419];with_reducible exact H)|(have H2_:=(Option.bind_some _ _).symm.trans H;rw [hy419];with_reducible exact H2_)|(have H2_:=(Option.bind_some _ _).symm.trans H;with_reducible exact H2_)|with_reducible exact H|(rw [hy419];exact H)|exact H
    have Ny419:=Aside0.mk hy419
    clear hy419
    have H':=Aside0.mk H
    clear H
    have p412:0≤(x4_1:Int):=of_decide_eq_true qA
    have q412:x4_1<(l0.length:Int):=of_decide_eq_true qA
    obtain ⟨ad412,e412,hx412_0,hx412_1,hx412_2⟩:=at_T127 HR0.out x4_1 p412 q412
    cases e412
    replace hx412_0:=(HB.out.cell (World.block_lt_of_cell? w _ hx412_0)).trans hx412_0
    replace hx412_1:=(HB.out.cell (World.block_lt_of_cell? w _ hx412_1)).trans hx412_1
    replace hx412_2:=(HB.out.cell (World.block_lt_of_cell? w _ hx412_2)).trans hx412_2
    replace p412:=eq_true p412
    replace q412:=eq_true q412
    have p413:0≤(x4_1:Int):=of_decide_eq_true qA
    have q413:x4_1<(l0.length:Int):=of_decide_eq_true qA
    obtain ⟨ad413,e413,hx413_0,hx413_1,hx413_2⟩:=at_T127 HR0.out x4_1 p413 q413
    obtain rfl:ad412=ad413:=(by injection e413)
    replace hx413_0:=(HB.out.cell (World.block_lt_of_cell? w _ hx413_0)).trans hx413_0
    replace hx413_1:=(HB.out.cell (World.block_lt_of_cell? w _ hx413_1)).trans hx413_1
    replace hx413_2:=(HB.out.cell (World.block_lt_of_cell? w _ hx413_2)).trans hx413_2
    replace p413:=eq_true p413
    replace q413:=eq_true q413
    have p418:0≤(x4_1:Int):=of_decide_eq_true qA
    have q418:x4_1<(l0.length:Int):=of_decide_eq_true qA
    obtain ⟨ad418,e418,hx418_0,hx418_1,hx418_2⟩:=at_T127 HR0.out x4_1 p418 q418
    obtain rfl:ad412=ad418:=(by injection e418)
    replace hx418_0:=(HB.out.cell (World.block_lt_of_cell? w _ hx418_0)).trans hx418_0
    replace hx418_1:=(HB.out.cell (World.block_lt_of_cell? w _ hx418_1)).trans hx418_1
    replace hx418_2:=(HB.out.cell (World.block_lt_of_cell? w _ hx418_2)).trans hx418_2
    replace p418:=eq_true p418
    replace q418:=eq_true q418
    go_wp2_with (first|((with_reducible refine gate_builtin (b := .append) (xs:=#[.tmp 53, .tmp 55]) rfl ?_);at_builtin;refine Kd.R_append Kd.string (w0:=w) w.heap.size rfl (.tmp 53) (.tmp 55) 23 9 (.string ⟨#[]⟩) 16 rfl Tryz.underlying23 info9 rfl (by decide) (by omega) u3 x3_1 ((((rd_T127 l0 x4_1).f1)++(⟨#[33,61]⟩:ByteArray))++((rd_T127 l0 x4_1).f2)) [.string ((((rd_T127 l0 x4_1).f1)++(⟨#[33,61]⟩:ByteArray))++((rd_T127 l0 x4_1).f2))] (fun _=>True) (fun _=>False) rfl rfl ?aP (fun _ hk=>hk.elim) ?aF ?aO ?aB ?aS ?aL ?_;(case aP=>exact rfl);(case aB=>exact qB);(case aF=>exact (fun _ _=>trivial));(case aO=>exact (qR HO_3));(case aS=>exact (below_size qB));(case aL=>have:=LMc12.out;omega);intro v420 w13 ho hb hg hat;rw [← Ny419.out] at ho;replace HB:=Aside0.mk hb;have HO421:=Aside0.mk ho;clear HO_3;clear ho hb hg hat))
    go_roundg k1
    case measure=>have:=HK1.out;omega
    case rel=>exact ⟨(y419),(wrap64 (x4_1+1)),qS,H',⟨by have:=HK1.out;omega⟩,⟨qR HO421⟩,⟨qB⟩⟩
   rw [if_neg c9] at H
   have c9b0:(((rd_T127 l0 x4_1).f0) ==2)=false:=beq_eq_false_iff_ne.mpr c9
   have c9b1:(((rd_T127 l0 x4_1).f0) != 2)=true:=bne_iff_ne.mpr c9
   by_cases c14:((rd_T127 l0 x4_1).f0)=3
   rotate_left
   ·rw [if_neg c14] at H
    have c14b0:(((rd_T127 l0 x4_1).f0) ==3)=false:=beq_eq_false_iff_ne.mpr c14
    have c14b1:(((rd_T127 l0 x4_1).f0) != 3)=true:=bne_iff_ne.mpr c14
    by_cases c20:x3_1.length<8796093022208
    rotate_left
    ·rw [if_neg c20] at H
     exact absurd H (by simp)
    rw [if_pos c20] at H
    have LMc20:=Aside0.mk c20
    clear c20
    obtain ⟨y426,hy426⟩:∃ y_:List ByteArray,y_=(x3_1++[(rd_T127 l0 x4_1).f1]):=⟨_,rfl⟩
    replace H:(ebbtideref05_Text.l0 k1 l0 y426 (wrap64 (x4_1+1)))=some r:=by first|(rw [hy426];with_reducible exact H)|(have H2_:=(Option.bind_some _ _).symm.trans H;rw [hy426];with_reducible exact H2_)|(have H2_:=(Option.bind_some _ _).symm.trans H;with_reducible exact H2_)|with_reducible exact H|(rw [hy426];exact H)|exact H
    have Ny426:=Aside0.mk hy426
    clear hy426
    have H':=Aside0.mk H
    clear H
    have p412:0≤(x4_1:Int):=of_decide_eq_true qA
    have q412:x4_1<(l0.length:Int):=of_decide_eq_true qA
    obtain ⟨ad412,e412,hx412_0,hx412_1,hx412_2⟩:=at_T127 HR0.out x4_1 p412 q412
    cases e412
    replace hx412_0:=(HB.out.cell (World.block_lt_of_cell? w _ hx412_0)).trans hx412_0
    replace hx412_1:=(HB.out.cell (World.block_lt_of_cell? w _ hx412_1)).trans hx412_1
    replace hx412_2:=(HB.out.cell (World.block_lt_of_cell? w _ hx412_2)).trans hx412_2
    replace p412:=eq_true p412
    replace q412:=eq_true q412
    have p413:0≤(x4_1:Int):=of_decide_eq_true qA
    have q413:x4_1<(l0.length:Int):=of_decide_eq_true qA
    obtain ⟨ad413,e413,hx413_0,hx413_1,hx413_2⟩:=at_T127 HR0.out x4_1 p413 q413
    obtain rfl:ad412=ad413:=(by injection e413)
    replace hx413_0:=(HB.out.cell (World.block_lt_of_cell? w _ hx413_0)).trans hx413_0
    replace hx413_1:=(HB.out.cell (World.block_lt_of_cell? w _ hx413_1)).trans hx413_1
    replace hx413_2:=(HB.out.cell (World.block_lt_of_cell? w _ hx413_2)).trans hx413_2
    replace p413:=eq_true p413
    replace q413:=eq_true q413
    go_wp2_with (first|((with_reducible refine gate_builtin (b := .append) (xs:=#[.tmp 53, .tmp 55]) rfl ?_);at_builtin;refine Kd.R_append Kd.string (w0:=w) w.heap.size rfl (.tmp 53) (.tmp 55) 23 9 (.string ⟨#[]⟩) 16 rfl Tryz.underlying23 info9 rfl (by decide) (by omega) u3 x3_1 ((rd_T127 l0 x4_1).f1) [.string ((rd_T127 l0 x4_1).f1)] (fun _=>True) (fun _=>False) rfl rfl ?aP (fun _ hk=>hk.elim) ?aF ?aO ?aB ?aS ?aL ?_;(case aP=>exact rfl);(case aB=>exact qB);(case aF=>exact (fun _ _=>trivial));(case aO=>exact (qR HO_3));(case aS=>exact (below_size qB));(case aL=>have:=LMc20.out;omega);intro v427 w21 ho hb hg hat;rw [← Ny426.out] at ho;replace HB:=Aside0.mk hb;have HO428:=Aside0.mk ho;clear HO_3;clear ho hb hg hat))
    go_roundg k1
    case measure=>have:=HK1.out;omega
    case rel=>exact ⟨(y426),(wrap64 (x4_1+1)),qS,H',⟨by have:=HK1.out;omega⟩,⟨qR HO428⟩,⟨qB⟩⟩
   rw [if_pos c14] at H
   have c14b0:(((rd_T127 l0 x4_1).f0) ==3)=true:=beq_iff_eq.mpr c14
   have c14b1:(((rd_T127 l0 x4_1).f0) != 3)=false:=bne_eq_false_iff_eq.mpr c14
   clear c14
   by_cases c15:((rd_T127 l0 x4_1).f1).size+1≤9223372036854775807
   rotate_left
   ·rw [if_neg c15] at H
    exact absurd H (by simp)
   rw [if_pos c15] at H
   have c15b0:=eq_true c15
   have c15b1:decide (((rd_T127 l0 x4_1).f1).size+1≤9223372036854775807)=true:=decide_eq_true c15
   try have c15b2:(9223372036854775807<((rd_T127 l0 x4_1).f1).size+1)=False:=eq_false (Nat.not_lt.2 c15)
   by_cases c16:((rd_T127 l0 x4_1).f1).size+1+((rd_T127 l0 x4_1).f2).size≤9223372036854775807
   rotate_left
   ·rw [if_neg c16] at H
    exact absurd H (by simp)
   rw [if_pos c16] at H
   have c16b0:=eq_true c16
   have c16b1:decide (((rd_T127 l0 x4_1).f1).size+1+((rd_T127 l0 x4_1).f2).size≤9223372036854775807)=true:=decide_eq_true c16
   try have c16b2:(9223372036854775807<((rd_T127 l0 x4_1).f1).size+1+((rd_T127 l0 x4_1).f2).size)=False:=eq_false (Nat.not_lt.2 c16)
   by_cases c17:((rd_T127 l0 x4_1).f1).size+1+((rd_T127 l0 x4_1).f2).size+1≤9223372036854775807
   rotate_left
   ·rw [if_neg c17] at H
    exact absurd H (by simp)
   rw [if_pos c17] at H
   have c17b0:=eq_true c17
   have c17b1:decide (((rd_T127 l0 x4_1).f1).size+1+((rd_T127 l0 x4_1).f2).size+1≤9223372036854775807)=true:=decide_eq_true c17
   try have c17b2:(9223372036854775807<((rd_T127 l0 x4_1).f1).size+1+((rd_T127 l0 x4_1).f2).size+1)=False:=eq_false (Nat.not_lt.2 c17)
   by_cases c18:x3_1.length<8796093022208
   rotate_left
   ·rw [if_neg c18] at H
    exact absurd H (by simp)
   rw [if_pos c18] at H
   have LMc18:=Aside0.mk c18
   clear c18
   obtain ⟨y423,hy423⟩:∃ y_:List ByteArray,y_=(x3_1++[((((rd_T127 l0 x4_1).f1)++(⟨#[61]⟩:ByteArray))++((rd_T127 l0 x4_1).f2))++(⟨#[42]⟩:ByteArray)]):=⟨_,rfl⟩
   replace H:(ebbtideref05_Text.l0 k1 l0 y423 (wrap64 (x4_1+1)))=some r:=by first|(rw [hy423];with_reducible exact H)|(have H2_:=(Option.bind_some _ _).symm.trans H;rw [hy423];with_reducible exact H2_)|(have H2_:=(Option.bind_some _ _).symm.trans H;with_reducible exact H2_)|with_reducible exact H|(rw [hy423];exact H)|exact H
   have Ny423:=Aside0.mk hy423
   clear hy423
   have H':=Aside0.mk H
   clear H
   have p412:0≤(x4_1:Int):=of_decide_eq_true qA
   have q412:x4_1<(l0.length:Int):=of_decide_eq_true qA
   obtain ⟨ad412,e412,hx412_0,hx412_1,hx412_2⟩:=at_T127 HR0.out x4_1 p412 q412
   cases e412
   replace hx412_0:=(HB.out.cell (World.block_lt_of_cell? w _ hx412_0)).trans hx412_0
   replace hx412_1:=(HB.out.cell (World.block_lt_of_cell? w _ hx412_1)).trans hx412_1
   replace hx412_2:=(HB.out.cell (World.block_lt_of_cell? w _ hx412_2)).trans hx412_2
   replace p412:=eq_true p412
   replace q412:=eq_true q412
   have p413:0≤(x4_1:Int):=of_decide_eq_true qA
   have q413:x4_1<(l0.length:Int):=of_decide_eq_true qA
   obtain ⟨ad413,e413,hx413_0,hx413_1,hx413_2⟩:=at_T127 HR0.out x4_1 p413 q413
   obtain rfl:ad412=ad413:=(by injection e413)
   replace hx413_0:=(HB.out.cell (World.block_lt_of_cell? w _ hx413_0)).trans hx413_0
   replace hx413_1:=(HB.out.cell (World.block_lt_of_cell? w _ hx413_1)).trans hx413_1
   replace hx413_2:=(HB.out.cell (World.block_lt_of_cell? w _ hx413_2)).trans hx413_2
   replace p413:=eq_true p413
   replace q413:=eq_true q413
   have p422:0≤(x4_1:Int):=of_decide_eq_true qA
   have q422:x4_1<(l0.length:Int):=of_decide_eq_true qA
   obtain ⟨ad422,e422,hx422_0,hx422_1,hx422_2⟩:=at_T127 HR0.out x4_1 p422 q422
   obtain rfl:ad412=ad422:=(by injection e422)
   replace hx422_0:=(HB.out.cell (World.block_lt_of_cell? w _ hx422_0)).trans hx422_0
   replace hx422_1:=(HB.out.cell (World.block_lt_of_cell? w _ hx422_1)).trans hx422_1
   replace hx422_2:=(HB.out.cell (World.block_lt_of_cell? w _ hx422_2)).trans hx422_2
   replace p422:=eq_true p422
   replace q422:=eq_true q422
   go_wp2_with (first|((with_reducible refine gate_builtin (b := .append) (xs:=#[.tmp 53, .tmp 55]) rfl ?_);at_builtin;refine Kd.R_append Kd.string (w0:=w) w.heap.size rfl (.tmp 53) (.tmp 55) 23 9 (.string ⟨#[]⟩) 16 rfl Tryz.underlying23 info9 rfl (by decide) (by omega) u3 x3_1 (((((rd_T127 l0 x4_1).f1)++(⟨#[61]⟩:ByteArray))++((rd_T127 l0 x4_1).f2))++(⟨#[42]⟩:ByteArray)) [.string (((((rd_T127 l0 x4_1).f1)++(⟨#[61]⟩:ByteArray))++((rd_T127 l0 x4_1).f2))++(⟨#[42]⟩:ByteArray))] (fun _=>True) (fun _=>False) rfl rfl ?aP (fun _ hk=>hk.elim) ?aF ?aO ?aB ?aS ?aL ?_;(case aP=>exact rfl);(case aB=>exact qB);(case aF=>exact (fun _ _=>trivial));(case aO=>exact (qR HO_3));(case aS=>exact (below_size qB));(case aL=>have:=LMc18.out;omega);intro v424 w19 ho hb hg hat;rw [← Ny423.out] at ho;replace HB:=Aside0.mk hb;have HO425:=Aside0.mk ho;clear HO_3;clear ho hb hg hat))
   go_roundg k1
   case measure=>have:=HK1.out;omega
   case rel=>exact ⟨(y423),(wrap64 (x4_1+1)),qS,H',⟨by have:=HK1.out;omega⟩,⟨qR HO425⟩,⟨qB⟩⟩
end Go.Proofs.YteaadaaghhojfaaGreatDoor.PQu
