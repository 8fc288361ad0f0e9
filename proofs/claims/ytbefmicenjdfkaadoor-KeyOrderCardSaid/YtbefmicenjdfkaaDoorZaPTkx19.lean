import Derived.Test.YtbefmicenjdfkaaDoorZaPTkx0
import Derived.Test.YtbefmicenjdfkaaDoorZaPTkx4
import Derived.Test.YtbefmicenjdfkaaDoorZaPTkx13
namespace Go.Proofs.YtbefmicenjdfkaaDoor.PTk
open Go.RowKit Go.Proofs.YtbefmicenjdfkaaDoorW.PrintWords Go.Proofs.YtbefmicenjdfkaaDoorW.PrintLast Go.Proofs.YtbefmicenjdfkaaDoorW.PrintMore
attribute [local go_sem] max2_int min2_int max_two min_two max_three min_three max_four min_four
set_option linter.unusedVariables false
set_option linter.unusedSimpArgs false
def ebbtidelaw04_KeyOrder.j0:Nat→ByteArray→List (S52)→Int→Bool→Option (Bool)
 | 0,_,_,_,_=>none
 | k+1,x0,x1,x2,x26=>if x26=true then (some true) else (if (x1.length:Int)=0 then (none) else ((some (([]:List (S52)):List (S52))).bind fun y583=>(if 0≤(Int.tmod (wrap64 (x2)) (x1.length:Int)) then (if (Int.tmod (wrap64 (x2)) (x1.length:Int))≤(x1.length:Int) then ((some (x1.drop ((Int.tmod (wrap64 (x2)) (x1.length:Int)):Int).toNat:List (S52))).bind fun y586=>(if y583.length+y586.length<4398046511104 then ((some (y583++y586:List (S52))).bind fun y590=>((some (x1.take ((Int.tmod (wrap64 (x2)) (x1.length:Int)):Int).toNat:List (S52))).bind fun y593=>(if y590.length+y593.length<4398046511104 then ((key_Make.f k x0 x1).bind fun bt600=>((key_Make.f k x0 (y590++y593)).bind fun bt606=>((ebbtideref04_Same.f k bt600.1 bt600.2.1 bt606.1 bt606.2.1).bind fun t612=>(if t612=true then (if bt600.2.2=bt606.2.2 then ((key_Text.f k bt600.1 bt600.2.1).bind fun t613=>((key_Text.f k bt606.1 bt606.2.1).bind fun t614=>(some (t613.toList ==t614.toList)))) else (none)) else (none))))) else (none)))) else (none))) else (none)) else (none))))
def ebbtidelaw04_KeyOrder.f (k:Nat) (a0:ByteArray) (l1:List (S52)) (a2:Int):Option (Bool):=(ebbtidelaw04_alive.f k).bind fun t581=>(if t581=true then ((ebbtideref03_Great.f k l1).bind fun t582=>(if t582=true then (ebbtidelaw04_KeyOrder.j0 k a0 l1 a2 true) else (if (a0.size:Int)>200 then (ebbtidelaw04_KeyOrder.j0 k a0 l1 a2 true) else (ebbtidelaw04_KeyOrder.j0 k a0 l1 a2 ((l1.length:Int) ==0))))) else (none))
theorem ebbtidelaw04_KeyOrder.mono_l:∀ k,(∀ y0 y1 y2 y3,LeO (ebbtidelaw04_KeyOrder.j0 k y0 y1 y2 y3) (ebbtidelaw04_KeyOrder.j0 (k+1) y0 y1 y2 y3))
 | 0=>fun _ _ _ _ r h=>by simp [ebbtidelaw04_KeyOrder.j0] at h
 | k+1=>by
  have ih0:=ebbtidelaw04_KeyOrder.mono_l k
  ·intro y0 y1 y2 y3
   unfold ebbtidelaw04_KeyOrder.j0
   repeat' first
   | (with_reducible exact ih0 _ _ _ _)
   | (with_reducible exact ebbtidelaw04_alive.mono _)
   | (with_reducible exact ebbtideref03_Great.mono _ _)
   | (with_reducible exact ebbtideref04_Same.mono _ _ _ _ _)
   | (with_reducible exact key_Make.mono _ _ _)
   | (with_reducible exact key_Text.mono _ _ _)
   | (with_reducible exact LeO.refl _)
   | (with_reducible exact LeO.none _)
   | (with_reducible refine LeO.ite ?_ ?_)
   | (with_reducible refine LeO.bind ?_ (fun _=>?_))
   | exact ih0 _ _ _ _
   | exact ebbtidelaw04_alive.mono _
   | exact ebbtideref03_Great.mono _ _
   | exact ebbtideref04_Same.mono _ _ _ _ _
   | exact key_Make.mono _ _ _
   | exact key_Text.mono _ _ _
   | exact LeO.none _
   | refine LeO.ite ?_ ?_
   | refine LeO.bind ?_ (fun _=>?_)
theorem ebbtidelaw04_KeyOrder.mono:∀ a0 a1 a2 k,LeO (ebbtidelaw04_KeyOrder.f k a0 a1 a2) (ebbtidelaw04_KeyOrder.f (k+1) a0 a1 a2):=by
 intro a0 a1 a2 k
 have ih0:=ebbtidelaw04_KeyOrder.mono_l k
 unfold ebbtidelaw04_KeyOrder.f
 repeat' first
   | (with_reducible exact ih0 _ _ _ _)
   | (with_reducible exact ebbtidelaw04_alive.mono _)
   | (with_reducible exact ebbtideref03_Great.mono _ _)
   | (with_reducible exact ebbtideref04_Same.mono _ _ _ _ _)
   | (with_reducible exact key_Make.mono _ _ _)
   | (with_reducible exact key_Text.mono _ _ _)
   | (with_reducible exact LeO.refl _)
   | (with_reducible exact LeO.none _)
   | (with_reducible refine LeO.ite ?_ ?_)
   | (with_reducible refine LeO.bind ?_ (fun _=>?_))
   | exact ih0 _ _ _ _
   | exact ebbtidelaw04_alive.mono _
   | exact ebbtideref03_Great.mono _ _
   | exact ebbtideref04_Same.mono _ _ _ _ _
   | exact key_Make.mono _ _ _
   | exact key_Text.mono _ _ _
   | exact LeO.none _
   | refine LeO.ite ?_ ?_
   | refine LeO.bind ?_ (fun _=>?_)
def ebbtidelaw04_KeyOrder.T6:Bool×List (List Nat×List Nat):=(true,[([],[]),([],[]),([],[]),([1,2],[1,2]),([0,3],[0,3]),([],[]),([],[]),([5,6],[5,6]),([4,7,4],[4,7]),([8,8,0,1,2,3,4,5,6,7,8],[8])])
def ebbtidelaw04_KeyOrder.B6:List Nat:=[0,0,0,6,15,0,0,96,255,511]
theorem ebbtidelaw04_KeyOrder.tab6:rtab .any (opsOf Tryd.f11 6)=ebbtidelaw04_KeyOrder.T6:=by kernel_rfl
theorem ebbtidelaw04_KeyOrder.bits6:waitsOk ebbtidelaw04_KeyOrder.T6.2 ebbtidelaw04_KeyOrder.B6=true:=by kernel_rfl
def ebbtidelaw04_KeyOrder.T9:Bool×List (List Nat×List Nat):=(true,[([],[]),([],[]),([0,1],[0,1]),([2,2],[2]),([3],[3]),([3],[3]),([4,5,3],[3,4,5]),([3,6],[3,6]),([7,3],[7]),([8],[8]),([9,8,8],[8,9]),([8],[8]),([11,10,8],[8,11]),([10,12,8],[8,10,12]),([8,13],[8,13]),([14,12,0,1,2,3,4,5,6,7,8,9,10,11,12,13,14],[14])])
def ebbtidelaw04_KeyOrder.B9:List Nat:=[0,0,3,7,15,15,63,127,255,511,1023,511,4095,8191,16383,32767]
theorem ebbtidelaw04_KeyOrder.tab9:rtab .any (opsOf Tryd.f11 9)=ebbtidelaw04_KeyOrder.T9:=by kernel_rfl
theorem ebbtidelaw04_KeyOrder.bits9:waitsOk ebbtidelaw04_KeyOrder.T9.2 ebbtidelaw04_KeyOrder.B9=true:=by kernel_rfl
set_option maxHeartbeats 8000000 in
set_option maxRecDepth 100000 in
theorem ebbtidelaw04_KeyOrder.calls (k:Nat) (a0:ByteArray) (A1:Option Addr) (c1:Nat) (l1:List (S52)) (a2:Int) (r:Bool) (w:World) (hr1:Kd.C k52 w A1 l1.length l1) (hc1:l1.length≤c1) (h:ebbtidelaw04_KeyOrder.f k a0 l1 a2=some r) :
  Calls Tryd.prog 11 #[.string a0, .slice A1 l1.length c1, .int .u8 a2] w fun e w'=>e = .returned (.bool r)∧Below w.heap.size w w':=by
 have hu41:=Tryd.underlying41
 have HR1:=Aside0.mk hr1
 have HC1:=Aside0.mk hc1
 clear hr1 hc1
 have HB:=Aside0.mk (Below.refl w.heap.size w)
 have H:((ebbtidelaw04_alive.f k).bind fun t581=>(if t581=true then ((ebbtideref03_Great.f k l1).bind fun t582=>(if t582=true then (ebbtidelaw04_KeyOrder.j0 k a0 l1 a2 true) else (if (a0.size:Int)>200 then (ebbtidelaw04_KeyOrder.j0 k a0 l1 a2 true) else (ebbtidelaw04_KeyOrder.j0 k a0 l1 a2 ((l1.length:Int) ==0))))) else (none)))=some r:=h
 clear h
 replace H:=Option.bind_eq_some_iff.mp H
 obtain ⟨t581,A40,H⟩:=H
 replace H:(if t581=true then ((ebbtideref03_Great.f k l1).bind fun t582=>(if t582=true then (ebbtidelaw04_KeyOrder.j0 k a0 l1 a2 true) else (if (a0.size:Int)>200 then (ebbtidelaw04_KeyOrder.j0 k a0 l1 a2 true) else (ebbtidelaw04_KeyOrder.j0 k a0 l1 a2 ((l1.length:Int) ==0))))) else (none))=some r:=H
 have A4:=Aside0.mk A40
 clear A40
 by_cases c5:t581=true
 ·subst c5
  have H1:((ebbtideref03_Great.f k l1).bind fun t582=>(if t582=true then (ebbtidelaw04_KeyOrder.j0 k a0 l1 a2 true) else (if (a0.size:Int)>200 then (ebbtidelaw04_KeyOrder.j0 k a0 l1 a2 true) else (ebbtidelaw04_KeyOrder.j0 k a0 l1 a2 ((l1.length:Int) ==0)))))=some r:=by rw [if_pos rfl] at H;exact H
  clear H
  have H:=H1
  clear H1
  have HC6:=Aside0.mk H
  clear H
  go_enter Tryd.func11,Tryd.ntmps11
  go_upto_region 3 with (first|((with_reducible refine gate_callee (f:=27) rfl ?_);refine goesL_ (some 13) rfl rfl Tryd.func27 (by kernel_rfl) rfl #[] rfl (by (try simp only [List.map_toArray,List.map_cons,List.map_nil]);first|done|rfl|(simp only [List.length_drop,List.length_take];rfl)) ?_;(with_reducible refine (ebbtidelaw04_alive.calls k  true _ A4.out).mono ?_);rintro e w7 ⟨rfl,hb⟩;refine ⟨_,rfl,?_⟩;have n0_:=Aside0.mk (below_step (by repeat (first|(with_reducible first|exact HB.out|apply below_alloc|apply pw_below_drewN|apply below_drew1)|exact HB.out)) hb);clear HB;have HB:=n0_;clear n0_;(try clear hb);(try clear hb2);(try clear hk);(try clear hi)))
  (try simp only [Act.put,List.setIfInBounds_toArray,List.set_cons_zero,List.set_cons_succ])
  go_cut [26] (fun v26 wc=>∃ (kq:Nat) (x26_5:Bool),v26 = .bool x26_5∧Aside0 (ebbtidelaw04_KeyOrder.j0 kq a0 l1 a2 x26_5=some r)∧Aside0 (kq≤k)∧Aside0 (Below w.heap.size w wc))
  case first =>
   have H:=HC6.out
   clear HC6
   replace H:=Option.bind_eq_some_iff.mp H
   obtain ⟨t582,A80,H⟩:=H
   replace H:(if t582=true then (ebbtidelaw04_KeyOrder.j0 k a0 l1 a2 true) else (if (a0.size:Int)>200 then (ebbtidelaw04_KeyOrder.j0 k a0 l1 a2 true) else (ebbtidelaw04_KeyOrder.j0 k a0 l1 a2 ((l1.length:Int) ==0))))=some r:=H
   have A8:=Aside0.mk A80
   clear A80
   by_cases c9:t582=true
   ·subst c9
    have H1:(ebbtidelaw04_KeyOrder.j0 k a0 l1 a2 true)=some r:=by rw [if_pos rfl] at H;exact H
    clear H
    have H:=H1
    clear H1
    have H':=Aside0.mk H
    clear H
    go_wp2_with (first|((with_reducible refine gate_callee (f:=13) rfl ?_);refine goesL_ (some 16) rfl rfl Tryd.func13 (by kernel_rfl) rfl #[.slice A1 l1.length c1] rfl (by (try simp only [List.map_toArray,List.map_cons,List.map_nil]);first|done|rfl|(simp only [List.length_drop,List.length_take];rfl)) ?_;(with_reducible refine (ebbtideref03_Great.calls k _ _ l1 true _ ?side1 ?side2 A8.out).mono ?_);(case side1=>repeat (first|exact (Kd.C_below HR1.out HB.out)|(with_reducible refine Kd.C_alloc ?_ _)|(with_reducible refine Kd.C_drewN ?_ _)|(with_reducible refine Kd.C_drew ?_)));(case side2=>exact HC1.out);rintro e w' ⟨rfl,⟨nd,rfl⟩⟩;refine ⟨_,rfl,?_⟩))
    go_meet
    case rel=>exact ⟨_,(true),(by first|rfl|(simp;done)|(simp [*];done)),H',⟨by first|omega|exact Nat.le_refl _⟩,⟨by repeat (first|(with_reducible first|exact HB.out|apply below_alloc|apply pw_below_drewN|apply below_drew1)|exact HB.out)⟩⟩
   ·replace c9:=Bool.eq_false_iff.mpr c9
    subst c9
    have H1:(if (a0.size:Int)>200 then (ebbtidelaw04_KeyOrder.j0 k a0 l1 a2 true) else (ebbtidelaw04_KeyOrder.j0 k a0 l1 a2 ((l1.length:Int) ==0)))=some r:=by rw [if_neg (show ¬ (false=true) by decide)] at H;exact H
    clear H
    have H:=H1
    clear H1
    by_cases c10:(a0.size:Int)>200
    ·rw [if_pos c10] at H
     have c10b0:decide (200<(a0.size:Int))=true:=decide_eq_true c10
     have c10b1:decide (200<a0.size)=true:=decide_eq_true (by omega)
     clear c10
     (first|rw [c10b0]|(simp only [i64_w,i32_w];rw [c10b0])|skip)
     have H':=Aside0.mk H
     clear H
     go_wp2_with (first|((with_reducible refine gate_callee (f:=13) rfl ?_);refine goesL_ (some 16) rfl rfl Tryd.func13 (by kernel_rfl) rfl #[.slice A1 l1.length c1] rfl (by (try simp only [List.map_toArray,List.map_cons,List.map_nil]);first|done|rfl|(simp only [List.length_drop,List.length_take];rfl)) ?_;(with_reducible refine (ebbtideref03_Great.calls k _ _ l1 false _ ?side1 ?side2 A8.out).mono ?_);(case side1=>repeat (first|exact (Kd.C_below HR1.out HB.out)|(with_reducible refine Kd.C_alloc ?_ _)|(with_reducible refine Kd.C_drewN ?_ _)|(with_reducible refine Kd.C_drew ?_)));(case side2=>exact HC1.out);rintro e w' ⟨rfl,⟨nd,rfl⟩⟩;refine ⟨_,rfl,?_⟩))
     go_meet
     case rel=>exact ⟨_,(true),(by first|rfl|(simp;done)|(simp [*];done)),H',⟨by first|omega|exact Nat.le_refl _⟩,⟨by repeat (first|(with_reducible first|exact HB.out|apply below_alloc|apply pw_below_drewN|apply below_drew1)|exact HB.out)⟩⟩
    ·rw [if_neg c10] at H
     have c10b0:decide (200<(a0.size:Int))=false:=decide_eq_false c10
     have c10b1:decide (200<a0.size)=false:=decide_eq_false (by omega)
     clear c10
     (first|rw [c10b0]|(simp only [i64_w,i32_w];rw [c10b0])|skip)
     have H':=Aside0.mk H
     clear H
     go_wp2_with (first|((with_reducible refine gate_callee (f:=13) rfl ?_);refine goesL_ (some 16) rfl rfl Tryd.func13 (by kernel_rfl) rfl #[.slice A1 l1.length c1] rfl (by (try simp only [List.map_toArray,List.map_cons,List.map_nil]);first|done|rfl|(simp only [List.length_drop,List.length_take];rfl)) ?_;(with_reducible refine (ebbtideref03_Great.calls k _ _ l1 false _ ?side1 ?side2 A8.out).mono ?_);(case side1=>repeat (first|exact (Kd.C_below HR1.out HB.out)|(with_reducible refine Kd.C_alloc ?_ _)|(with_reducible refine Kd.C_drewN ?_ _)|(with_reducible refine Kd.C_drew ?_)));(case side2=>exact HC1.out);rintro e w' ⟨rfl,⟨nd,rfl⟩⟩;refine ⟨_,rfl,?_⟩))
     go_meet
     case rel=>exact ⟨_,(((l1.length:Int) ==0)),(by first|rfl|(simp;done)|(simp [*];done)),H',⟨by first|omega|exact Nat.le_refl _⟩,⟨by repeat (first|(with_reducible first|exact HB.out|apply below_alloc|apply pw_below_drewN|apply below_drew1)|exact HB.out)⟩⟩
  case rest =>
   clear HC6
   try clear c1
   try clear c2
   try clear p2
   try clear c5
   try clear c9
   try clear c10
   try clear c10b0
   try clear c10b1
   obtain ⟨kq,x26_5,rfl,HA,HJ5,HB⟩:=hcut
   cases kq with
   | zero=>exact absurd HA.out (by simp [ebbtidelaw04_KeyOrder.j0])
   | succ kj5 =>
    have H:=HA.out
    clear HA
    simp only [ebbtidelaw04_KeyOrder.j0] at H
    by_cases c11:x26_5=true
    ·subst c11
     have H1:(some true)=some r:=by rw [if_pos rfl] at H;exact H
     clear H
     have H:=H1
     clear H1
     obtain rfl:=Option.some.inj H
     go_wp2
     go_ret
     exact ⟨by first|rfl|(simp [errW_none,errW_some]<;>rfl)|(simp [*,errW_none,errW_some]<;>rfl),by repeat (first|(with_reducible first|exact HB.out|apply below_alloc|apply pw_below_drewN|apply below_drew1)|exact HB.out)⟩
    ·replace c11:=Bool.eq_false_iff.mpr c11
     subst c11
     have H1:(if (l1.length:Int)=0 then (none) else ((some (([]:List (S52)):List (S52))).bind fun y583=>(if 0≤(Int.tmod (wrap64 (a2)) (l1.length:Int)) then (if (Int.tmod (wrap64 (a2)) (l1.length:Int))≤(l1.length:Int) then ((some (l1.drop ((Int.tmod (wrap64 (a2)) (l1.length:Int)):Int).toNat:List (S52))).bind fun y586=>(if y583.length+y586.length<4398046511104 then ((some (y583++y586:List (S52))).bind fun y590=>((some (l1.take ((Int.tmod (wrap64 (a2)) (l1.length:Int)):Int).toNat:List (S52))).bind fun y593=>(if y590.length+y593.length<4398046511104 then ((key_Make.f kj5 a0 l1).bind fun bt600=>((key_Make.f kj5 a0 (y590++y593)).bind fun bt606=>((ebbtideref04_Same.f kj5 bt600.1 bt600.2.1 bt606.1 bt606.2.1).bind fun t612=>(if t612=true then (if bt600.2.2=bt606.2.2 then ((key_Text.f kj5 bt600.1 bt600.2.1).bind fun t613=>((key_Text.f kj5 bt606.1 bt606.2.1).bind fun t614=>(some (t613.toList ==t614.toList)))) else (none)) else (none))))) else (none)))) else (none))) else (none)) else (none))))=some r:=by rw [if_neg (show ¬ (false=true) by decide)] at H;exact H
     clear H
     have H:=H1
     clear H1
     by_cases c12:(l1.length:Int)=0
     ·rw [if_pos c12] at H
      exact absurd H (by simp)
     ·rw [if_neg c12] at H
      have c12b0:((l1.length:Int) ==0)=false:=beq_eq_false_iff_ne.mpr c12
      have c12b1:((l1.length:Int) != 0)=true:=bne_iff_ne.mpr c12
      have c12b2:¬ (l1=[]):=fun h_=>c12 (by rw [h_];rfl)
      obtain ⟨y583,hy583⟩:∃ y_:List (S52),y_=(([]:List (S52))):=⟨_,rfl⟩
      replace H:(if 0≤(Int.tmod (wrap64 (a2)) (l1.length:Int)) then (if (Int.tmod (wrap64 (a2)) (l1.length:Int))≤(l1.length:Int) then ((some (l1.drop ((Int.tmod (wrap64 (a2)) (l1.length:Int)):Int).toNat:List (S52))).bind fun y586=>(if y583.length+y586.length<4398046511104 then ((some (y583++y586:List (S52))).bind fun y590=>((some (l1.take ((Int.tmod (wrap64 (a2)) (l1.length:Int)):Int).toNat:List (S52))).bind fun y593=>(if y590.length+y593.length<4398046511104 then ((key_Make.f kj5 a0 l1).bind fun bt600=>((key_Make.f kj5 a0 (y590++y593)).bind fun bt606=>((ebbtideref04_Same.f kj5 bt600.1 bt600.2.1 bt606.1 bt606.2.1).bind fun t612=>(if t612=true then (if bt600.2.2=bt606.2.2 then ((key_Text.f kj5 bt600.1 bt600.2.1).bind fun t613=>((key_Text.f kj5 bt606.1 bt606.2.1).bind fun t614=>(some (t613.toList ==t614.toList)))) else (none)) else (none))))) else (none)))) else (none))) else (none)) else (none))=some r:=by first|(rw [hy583];with_reducible exact H)|(have H2_:=(Option.bind_some _ _).symm.trans H;rw [hy583];with_reducible exact H2_)|(have H2_:=(Option.bind_some _ _).symm.trans H;with_reducible exact H2_)|with_reducible exact H|(rw [hy583];exact H)|exact H
      have Ny583:=Aside0.mk hy583
      clear hy583
      obtain ⟨ji13,hji13⟩:∃ j_:Int,(Int.tmod (wrap64 (a2)) (l1.length:Int))=j_:=⟨_,rfl⟩
      replace H:(if 0≤(ji13) then (if (ji13)≤(l1.length:Int) then ((some (l1.drop ((ji13):Int).toNat:List (S52))).bind fun y586=>(if y583.length+y586.length<4398046511104 then ((some (y583++y586:List (S52))).bind fun y590=>((some (l1.take ((ji13):Int).toNat:List (S52))).bind fun y593=>(if y590.length+y593.length<4398046511104 then ((key_Make.f kj5 a0 l1).bind fun bt600=>((key_Make.f kj5 a0 (y590++y593)).bind fun bt606=>((ebbtideref04_Same.f kj5 bt600.1 bt600.2.1 bt606.1 bt606.2.1).bind fun t612=>(if t612=true then (if bt600.2.2=bt606.2.2 then ((key_Text.f kj5 bt600.1 bt600.2.1).bind fun t613=>((key_Text.f kj5 bt606.1 bt606.2.1).bind fun t614=>(some (t613.toList ==t614.toList)))) else (none)) else (none))))) else (none)))) else (none))) else (none)) else (none))=some r:=by first|(rw [hji13] at H;exact H)|(simp only [hji13] at H ⊢;exact H)
      by_cases c14:0≤(ji13)
      ·rw [if_pos c14] at H
       have c14b0:=eq_true c14
       have c14b1:decide (0≤(ji13))=true:=decide_eq_true c14
       clear c14
       by_cases c15:(ji13)≤(l1.length:Int)
       ·rw [if_pos c15] at H
        have c15b0:=eq_true c15
        have c15b1:decide ((ji13)≤(l1.length:Int))=true:=decide_eq_true c15
        clear c15
        obtain ⟨y586,hy586⟩:∃ y_:List (S52),y_=(l1.drop ((ji13):Int).toNat):=⟨_,rfl⟩
        replace H:(if y583.length+y586.length<4398046511104 then ((some (y583++y586:List (S52))).bind fun y590=>((some (l1.take ((ji13):Int).toNat:List (S52))).bind fun y593=>(if y590.length+y593.length<4398046511104 then ((key_Make.f kj5 a0 l1).bind fun bt600=>((key_Make.f kj5 a0 (y590++y593)).bind fun bt606=>((ebbtideref04_Same.f kj5 bt600.1 bt600.2.1 bt606.1 bt606.2.1).bind fun t612=>(if t612=true then (if bt600.2.2=bt606.2.2 then ((key_Text.f kj5 bt600.1 bt600.2.1).bind fun t613=>((key_Text.f kj5 bt606.1 bt606.2.1).bind fun t614=>(some (t613.toList ==t614.toList)))) else (none)) else (none))))) else (none)))) else (none))=some r:=by first|(rw [hy586];with_reducible exact H)|(have H2_:=(Option.bind_some _ _).symm.trans H;rw [hy586];with_reducible exact H2_)|(have H2_:=(Option.bind_some _ _).symm.trans H;with_reducible exact H2_)|with_reducible exact H|(rw [hy586];exact H)|exact H
        have Ny586:=Aside0.mk hy586
        clear hy586
        by_cases c16:y583.length+y586.length<4398046511104
        ·rw [if_pos c16] at H
         have LMc16:=Aside0.mk c16
         clear c16
         obtain ⟨y590,hy590⟩:∃ y_:List (S52),y_=(y583++y586):=⟨_,rfl⟩
         replace H:((some (l1.take ((ji13):Int).toNat:List (S52))).bind fun y593=>(if y590.length+y593.length<4398046511104 then ((key_Make.f kj5 a0 l1).bind fun bt600=>((key_Make.f kj5 a0 (y590++y593)).bind fun bt606=>((ebbtideref04_Same.f kj5 bt600.1 bt600.2.1 bt606.1 bt606.2.1).bind fun t612=>(if t612=true then (if bt600.2.2=bt606.2.2 then ((key_Text.f kj5 bt600.1 bt600.2.1).bind fun t613=>((key_Text.f kj5 bt606.1 bt606.2.1).bind fun t614=>(some (t613.toList ==t614.toList)))) else (none)) else (none))))) else (none)))=some r:=by first|(rw [hy590];with_reducible exact H)|(have H2_:=(Option.bind_some _ _).symm.trans H;rw [hy590];with_reducible exact H2_)|(have H2_:=(Option.bind_some _ _).symm.trans H;with_reducible exact H2_)|with_reducible exact H|(rw [hy590];exact H)|exact H
         have Ny590:=Aside0.mk hy590
         clear hy590
         have c17b0:=eq_true (of_decide_eq_true (by first|(with_reducible assumption)|assumption):0≤(ji13))
         have c18b0:=eq_true (of_decide_eq_true (by first|(with_reducible assumption)|assumption):(ji13)≤(l1.length:Int))
         obtain ⟨y593,hy593⟩:∃ y_:List (S52),y_=(l1.take ((ji13):Int).toNat):=⟨_,rfl⟩
         replace H:(if y590.length+y593.length<4398046511104 then ((key_Make.f kj5 a0 l1).bind fun bt600=>((key_Make.f kj5 a0 (y590++y593)).bind fun bt606=>((ebbtideref04_Same.f kj5 bt600.1 bt600.2.1 bt606.1 bt606.2.1).bind fun t612=>(if t612=true then (if bt600.2.2=bt606.2.2 then ((key_Text.f kj5 bt600.1 bt600.2.1).bind fun t613=>((key_Text.f kj5 bt606.1 bt606.2.1).bind fun t614=>(some (t613.toList ==t614.toList)))) else (none)) else (none))))) else (none))=some r:=by first|(rw [hy593];with_reducible exact H)|(have H2_:=(Option.bind_some _ _).symm.trans H;rw [hy593];with_reducible exact H2_)|(have H2_:=(Option.bind_some _ _).symm.trans H;with_reducible exact H2_)|with_reducible exact H|(rw [hy593];exact H)|exact H
         have Ny593:=Aside0.mk hy593
         clear hy593
         by_cases c19:y590.length+y593.length<4398046511104
         ·rw [if_pos c19] at H
          have LMc19:=Aside0.mk c19
          clear c19
          obtain ⟨y597,hy597⟩:∃ y_:List (S52),y_=(y590++y593):=⟨_,rfl⟩
          replace H:((key_Make.f kj5 a0 l1).bind fun bt600=>((key_Make.f kj5 a0 y597).bind fun bt606=>((ebbtideref04_Same.f kj5 bt600.1 bt600.2.1 bt606.1 bt606.2.1).bind fun t612=>(if t612=true then (if bt600.2.2=bt606.2.2 then ((key_Text.f kj5 bt600.1 bt600.2.1).bind fun t613=>((key_Text.f kj5 bt606.1 bt606.2.1).bind fun t614=>(some (t613.toList ==t614.toList)))) else (none)) else (none)))))=some r:=by first|(rw [hy597];with_reducible exact H)|(have H2_:=(Option.bind_some _ _).symm.trans H;rw [hy597];with_reducible exact H2_)|(have H2_:=(Option.bind_some _ _).symm.trans H;with_reducible exact H2_)|with_reducible exact H|(rw [hy597];exact H)|exact H
          have Ny597:=Aside0.mk hy597
          clear hy597
          replace H:=Option.bind_eq_some_iff.mp H
          obtain ⟨⟨t600,t601,t604⟩,A200,H⟩:=H
          replace H:((key_Make.f kj5 a0 y597).bind fun bt606=>((ebbtideref04_Same.f kj5 t600 t601 bt606.1 bt606.2.1).bind fun t612=>(if t612=true then (if t604=bt606.2.2 then ((key_Text.f kj5 t600 t601).bind fun t613=>((key_Text.f kj5 bt606.1 bt606.2.1).bind fun t614=>(some (t613.toList ==t614.toList)))) else (none)) else (none))))=some r:=H
          have A20:=Aside0.mk A200
          clear A200
          replace H:=Option.bind_eq_some_iff.mp H
          obtain ⟨⟨t606,t607,t610⟩,A210,H⟩:=H
          replace H:((ebbtideref04_Same.f kj5 t600 t601 t606 t607).bind fun t612=>(if t612=true then (if t604=t610 then ((key_Text.f kj5 t600 t601).bind fun t613=>((key_Text.f kj5 t606 t607).bind fun t614=>(some (t613.toList ==t614.toList)))) else (none)) else (none)))=some r:=H
          have A21:=Aside0.mk A210
          clear A210
          replace H:=Option.bind_eq_some_iff.mp H
          obtain ⟨t612,A220,H⟩:=H
          replace H:(if t612=true then (if t604=t610 then ((key_Text.f kj5 t600 t601).bind fun t613=>((key_Text.f kj5 t606 t607).bind fun t614=>(some (t613.toList ==t614.toList)))) else (none)) else (none))=some r:=H
          have A22:=Aside0.mk A220
          clear A220
          by_cases c23:t612=true
          ·subst c23
           have H1:(if t604=t610 then ((key_Text.f kj5 t600 t601).bind fun t613=>((key_Text.f kj5 t606 t607).bind fun t614=>(some (t613.toList ==t614.toList)))) else (none))=some r:=by rw [if_pos rfl] at H;exact H
           clear H
           have H:=H1
           clear H1
           by_cases c24:t604=t610
           ·rw [if_pos c24] at H
            have c24b0:(t604 ==t610)=true:=beq_iff_eq.mpr c24
            have c24b1:(t604 != t610)=false:=bne_eq_false_iff_eq.mpr c24
            clear c24
            replace H:=Option.bind_eq_some_iff.mp H
            obtain ⟨t613,A250,H⟩:=H
            replace H:((key_Text.f kj5 t606 t607).bind fun t614=>(some (t613.toList ==t614.toList)))=some r:=H
            have A25:=Aside0.mk A250
            clear A250
            replace H:=Option.bind_eq_some_iff.mp H
            obtain ⟨t614,A260,H⟩:=H
            replace H:(some (t613.toList ==t614.toList))=some r:=H
            have A26:=Aside0.mk A260
            clear A260
            obtain rfl:=Option.some.inj H
            try go_wp2
            have n0_:=Aside0.mk (below_drew1 HB.out)
            clear HB
            have HB:=n0_
            clear n0_
            have q28:((ji13):Int)≤((l1.length:Int):Int):=of_decide_eq_true (by first|(with_reducible assumption)|assumption)
            obtain ⟨i028,hi028,_,hsz28,_⟩:=info_parts info52
            have hroom28:l1.length≤c1:=HC1.out
            have hC28:Kd.C k52 _ A1 l1.length l1:=HR1.out
            have q028:(0:Int)≤((ji13):Int):=of_decide_eq_true (by first|(with_reducible assumption)|assumption)
            have hcut28:=cut_from (P:=Tryd.prog) 22 52 .i64 Tryd.underlying22 hi028 2 hsz28 A1 l1.length c1 (ji13) q028 q28
            have hr28:=Kd.C_drop (m:=((ji13):Int).toNat) (c:=c1) hC28 (by omega) hroom28
            obtain ⟨A28,hA28⟩:∃ A1_,A1_=(if c1=((ji13):Int).toNat then A1 else (A1:Option Addr).map (·.add (((ji13):Int).toNat * 2))):=⟨_,rfl⟩
            obtain ⟨c28,hc28⟩:∃ c1_,c1_=c1 - ((ji13):Int).toNat:=⟨_,rfl⟩
            have hy28:y586.length=l1.length - ((ji13):Int).toNat:=(by rw [Ny586.out,List.length_drop]<;>omega)
            rw [show (l1).drop ((ji13):Int).toNat=y586 from Ny586.out.symm] at hr28
            replace hr28:Kd.C k52 _ A28 y586.length y586:=(by rw [hA28];exact hr28)
            rw [← hy28,← hA28,← hc28] at hcut28
            have HR589:=Aside0.mk hr28
            have HC589:=Aside0.mk (show y586.length≤c28 from by rw [hy28,hc28];exact Nat.sub_le_sub_right hroom28 _)
            clear hr28 hC28 hroom28 hi028 hsz28 hc28
            have KY28:=Aside0.mk hy28
            have KA28:=Aside0.mk hA28
            clear hy28 hA28
            replace q28:=eq_true q28
            have q29:((ji13):Int)≤((l1.length:Int):Int):=of_decide_eq_true (by first|(with_reducible assumption)|assumption)
            obtain ⟨i029,hi029,_,hsz29,_⟩:=info_parts info52
            have hroom29:l1.length≤c1:=HC1.out
            have hC29:Kd.C k52 _ A1 l1.length l1:=HR1.out
            have hcut29:=cut_to (P:=Tryd.prog) 22 52 .i64 Tryd.underlying22 hi029 A1 l1.length c1 (ji13) (of_decide_eq_true (by first|(with_reducible assumption)|assumption)) q29 hroom29
            have hr29:=Kd.C_take (m:=((ji13):Int).toNat) hC29 (by omega)
            have hy29:y593.length=((ji13):Int).toNat:=(by rw [Ny593.out,List.length_take];omega)
            rw [← Ny593.out] at hr29
            rw [← hy29] at hcut29
            have HR596:=Aside0.mk hr29
            have HC596:=Aside0.mk (show y593.length≤c1 from by omega)
            clear hr29 hC29 hroom29 hi029 hsz29
            have KY29:=Aside0.mk hy29
            clear hy29
            replace q29:=eq_true q29
            refine start_ (n:=10) (S:=fun w'=>True) (ds:=[]) #[false,false,false,false,false,false,false,false,false,false] (by kernel_rfl) rfl rfl trivial (fun hHeld=>?_);refine with_tabW ebbtidelaw04_KeyOrder.tab6 ebbtidelaw04_KeyOrder.bits6 (fun HT_ HW_=>?_)
            generalize wc.drew=w27 at HB HR589 HR596 hHeld ⊢
            refine pure_ (i:=1) (N:=some 33) (v:=?_) (a':=?_) #[false,true,false,false,false,false,false,false,false,false] rfl rfl (any_of HT_.out (by kernel_rfl)) (fun _ _ _ h=>h) (Or.inl ⟨by rfl,?_⟩) ?_ ?_
            rotate_left
            ·intro w';go_simp;with_reducible rfl
            rotate_left
            ·simp only [Act.put,List.setIfInBounds_toArray,List.set_cons_zero,List.set_cons_succ,i64_w,i32_w];rfl
            refine pure_ (i:=2) (N:=some 34) (v:=?_) (a':=?_) #[false,true,true,false,false,false,false,false,false,false] rfl rfl (any_of HT_.out (by kernel_rfl)) (fun _ _ _ h=>h) (Or.inl ⟨by rfl,?_⟩) ?_ ?_
            rotate_left
            ·intro w';go_simp;with_reducible rfl
            rotate_left
            ·simp only [Act.put,List.setIfInBounds_toArray,List.set_cons_zero,List.set_cons_succ,i64_w,i32_w];rfl
            refine pure_ (i:=3) (N:=some 35) (v:=?_) (a':=?_) #[false,true,true,true,false,false,false,false,false,false] rfl rfl (any_of HT_.out (by kernel_rfl)) (fun _ _ _ h=>h) (Or.inl ⟨by rfl,?_⟩) ?_ ?_
            rotate_left
            ·intro w';go_simp;with_reducible rfl
            rotate_left
            ·simp only [Act.put,List.setIfInBounds_toArray,List.set_cons_zero,List.set_cons_succ,i64_w,i32_w];rfl
            refine pure_ (i:=5) (N:=some 37) (v:=?_) (a':=?_) #[false,true,true,true,false,true,false,false,false,false] rfl rfl (any_of HT_.out (by kernel_rfl)) (fun _ _ _ h=>h) (Or.inl ⟨by rfl,?_⟩) ?_ ?_
            rotate_left
            ·intro w';go_simp;with_reducible rfl
            rotate_left
            ·simp only [Act.put,List.setIfInBounds_toArray,List.set_cons_zero,List.set_cons_succ,i64_w,i32_w];rfl
            refine pure_ (i:=6) (N:=some 38) (v:=?_) (a':=?_) #[false,true,true,true,false,true,true,false,false,false] rfl rfl (any_of HT_.out (by kernel_rfl)) (fun _ _ _ h=>h) (Or.inl ⟨by rfl,?_⟩) ?_ ?_
            rotate_left
            ·intro w';go_simp;with_reducible rfl
            rotate_left
            ·simp only [Act.put,List.setIfInBounds_toArray,List.set_cons_zero,List.set_cons_succ,i64_w,i32_w];rfl
            refine pure_ (i:=7) (N:=some 39) (v:=?_) (a':=?_) #[false,true,true,true,false,true,true,true,false,false] rfl rfl (any_of HT_.out (by kernel_rfl)) (fun _ _ _ h=>h) (Or.inl ⟨by rfl,?_⟩) ?_ ?_
            rotate_left
            ·intro w';go_simp;with_reducible rfl
            rotate_left
            ·simp only [Act.put,List.setIfInBounds_toArray,List.set_cons_zero,List.set_cons_succ,i64_w,i32_w];rfl
            refine one_ (i:=0) (N:=some 32) #[true,true,true,true,false,true,true,true,false,false] rfl rfl (one_of HT_.out (by kernel_rfl)) (by decide) (fun K hK=>?_)
            refine Kd.R_lit_step k52 _ 52 ?hg (N:=32) ?hd (xs:=([]:List (S52))) (inner:=[]) (ok:=fun _=>True) (okp:=fun _=>True) ?hr ?hp (fun _ hk=>hk) trivial (Below.refl _ _) (Nat.le_refl _) (by simp) ?_;(case hd=>rfl);(case hg=>rfl);(case hr=>first|(go_simp;done)|(go_simp;rfl));(case hp=>exact (Reps.none _ _))
            intro v584 w30 ho31 hb hg_ hnew_
            clear hg_ hnew_
            (first|rw [← Ny583.out] at ho31|(simp only [Int.reduceToNat] at ho31;rw [← Ny583.out] at ho31))
            have n0_:=Aside0.mk (Kd.R_lower ho31 (below_size (by repeat (first|(with_reducible first|exact HB.out|apply below_alloc|apply pw_below_drewN|apply below_drew1)|exact HB.out))))
            have n1_:=Aside0.mk (below_step (by repeat (first|(with_reducible first|exact HB.out|apply below_alloc|apply pw_below_drewN|apply below_drew1)|exact HB.out)) hb)
            clear HB
            have HO585:=n0_
            have HB:=n1_
            clear n0_ n1_
            clear hb ho31
            refine hK.out _ _ trivial (fun hHeld=>?_)
            clear hK K
            refine norm_ (a':=?_) ?_ ?_
            rotate_left
            ·show Act.put _ (some 32) _=_
             simp only [Act.put,List.setIfInBounds_toArray,List.set_cons_zero,List.set_cons_succ,i64_w,i32_w]
             rfl
            refine one_ (i:=4) (N:=some 36) #[true,true,true,true,true,true,true,true,false,false] rfl rfl (one_of HT_.out (by kernel_rfl)) (by decide) (fun K hK=>?_)
            refine Kd.R_append_rows_step k52 (w0:=w) w.heap.size (by rfl) (.tmp 32) (.tmp 35) 22 52 (.agg #[(.string ⟨#[]⟩),(.string ⟨#[]⟩)]) 32 rfl Tryd.underlying22 info52 rfl (by decide) (by omega) v584 y583 y586 _ _ _ (fun _=>True) (fun _=>False) rfl rfl ?aO ?aR (fun _ _ h=>h) (fun _ h=>h.elim) ?aF ?aB ?aS ?aL ?_
            (case aR=>repeat (first|exact (Kd.C_below HR589.out HB.out)|(with_reducible refine Kd.C_alloc ?_ _)|(with_reducible refine Kd.C_drewN ?_ _)|(with_reducible refine Kd.C_drew ?_)))
            (case aB=>exact (by repeat (first|(with_reducible first|exact HB.out|apply below_alloc|apply pw_below_drewN|apply below_drew1)|exact HB.out)))
            (case aF=>exact (fun _ _=>trivial))
            (case aO=>exact (by (with_reducible repeat (first|apply Kd.R_alloc|apply Kd.R_drewN|apply Kd.R_drew));exact HO585.out))
            (case aS=>exact (below_size (by repeat (first|(with_reducible first|exact HB.out|apply below_alloc|apply pw_below_drewN|apply below_drew1)|exact HB.out))))
            (case aL=>have:=LMc16.out;omega)
            intro v591 w32 ho hb hg hat
            rw [← Ny590.out] at ho
            have n0_:=Aside0.mk (hb)
            have n1_:=Aside0.mk (ho)
            clear HB
            clear HO585
            have HB:=n0_
            have HO592:=n1_
            clear n0_ n1_
            clear ho hb hg hat
            refine hK.out _ _ trivial (fun hHeld=>?_)
            clear hK K
            refine norm_ (a':=?_) ?_ ?_
            rotate_left
            ·show Act.put _ (some 36) _=_
             simp only [Act.put,List.setIfInBounds_toArray,List.set_cons_zero,List.set_cons_succ,i64_w,i32_w]
             rfl
            refine one_ (i:=8) (N:=some 40) #[true,true,true,true,true,true,true,true,true,false] rfl rfl (one_of HT_.out (by kernel_rfl)) (by decide) (fun K hK=>?_)
            refine Kd.R_append_rows_step k52 (w0:=w) w.heap.size (by rfl) (.tmp 36) (.tmp 39) 22 52 (.agg #[(.string ⟨#[]⟩),(.string ⟨#[]⟩)]) 32 rfl Tryd.underlying22 info52 rfl (by decide) (by omega) v591 y590 y593 _ _ _ (fun _=>True) (fun _=>False) rfl rfl ?aO ?aR (fun _ _ h=>h) (fun _ h=>h.elim) ?aF ?aB ?aS ?aL ?_
            (case aR=>repeat (first|exact (Kd.C_below HR596.out HB.out)|(with_reducible refine Kd.C_alloc ?_ _)|(with_reducible refine Kd.C_drewN ?_ _)|(with_reducible refine Kd.C_drew ?_)))
            (case aB=>exact (by repeat (first|(with_reducible first|exact HB.out|apply below_alloc|apply pw_below_drewN|apply below_drew1)|exact HB.out)))
            (case aF=>exact (fun _ _=>trivial))
            (case aO=>exact (by (with_reducible repeat (first|apply Kd.R_alloc|apply Kd.R_drewN|apply Kd.R_drew));exact HO592.out))
            (case aS=>exact (below_size (by repeat (first|(with_reducible first|exact HB.out|apply below_alloc|apply pw_below_drewN|apply below_drew1)|exact HB.out))))
            (case aL=>have:=LMc19.out;omega)
            intro v598 w33 ho hb hg hat
            rw [← Ny597.out] at ho
            have n0_:=Aside0.mk (hb)
            have n1_:=Aside0.mk (ho)
            clear HB
            clear HO592
            have HB:=n0_
            have HO599:=n1_
            clear n0_ n1_
            clear ho hb hg hat
            refine hK.out _ _ trivial (fun hHeld=>?_)
            clear hK K
            refine norm_ (a':=?_) ?_ ?_
            rotate_left
            ·show Act.put _ (some 40) _=_
             simp only [Act.put,List.setIfInBounds_toArray,List.set_cons_zero,List.set_cons_succ,i64_w,i32_w]
             rfl
            refine pure_ (i:=9) (N:=some 8) (v:=?_) (a':=?_) #[true,true,true,true,true,true,true,true,true,true] rfl rfl (any_of HT_.out (by kernel_rfl)) (fun _ _ _ h=>h) (Or.inl ⟨by rfl,?_⟩) ?_ ?_
            rotate_left
            ·intro w';go_simp;with_reducible rfl
            rotate_left
            ·simp only [Act.put,List.setIfInBounds_toArray,List.set_cons_zero,List.set_cons_succ,i64_w,i32_w];rfl
            refine done_ (done_of HT_.out (by kernel_rfl)) ?_
            try go_wp2_with (first|((with_reducible refine gate_callee (f:=28) rfl ?_);refine goesL_ (some 44) rfl rfl Tryd.func28 (by kernel_rfl) rfl #[.string a0, .slice A1 l1.length c1] rfl (by (try simp only [List.map_toArray,List.map_cons,List.map_nil]);first|done|rfl|(simp only [List.length_drop,List.length_take];rfl)) ?_;(with_reducible refine (key_Make.calls kj5 a0 _ _ l1 t600 t601 t604 _ ?side1 ?side2 A20.out).mono ?_);(case side1=>repeat (first|exact (Kd.C_below HR1.out HB.out)|(with_reducible refine Kd.C_alloc ?_ _)|(with_reducible refine Kd.C_drewN ?_ _)|(with_reducible refine Kd.C_drew ?_)));(case side2=>exact HC1.out);rintro e w34 ⟨v602,rfl,ho0,hb⟩;refine ⟨_,rfl,?_⟩;have n0_:=Aside0.mk (Kd.R_elder' (by (with_reducible repeat (first|apply Kd.R_alloc|apply Kd.R_drewN|apply Kd.R_drew));exact HO599.out) (Kd.R_base ho0) hb);have n1_:=Aside0.mk (Kd.R_lower (Kd.R_new' ho0 (Kd.R_lt (by (with_reducible repeat (first|apply Kd.R_alloc|apply Kd.R_drewN|apply Kd.R_drew));exact HO599.out))) (below_size (by repeat (first|(with_reducible first|exact HB.out|apply below_alloc|apply pw_below_drewN|apply below_drew1)|exact HB.out))));have n2_:=Aside0.mk (below_step (by repeat (first|(with_reducible first|exact HB.out|apply below_alloc|apply pw_below_drewN|apply below_drew1)|exact HB.out)) hb);clear HO599;clear HB;have HO599:=n0_;have HO603:=n1_;have HB:=n2_;clear n0_ n1_ n2_;(try clear hb);(try clear hb2);(try clear hk);(try clear hi);(try clear ho0))|((with_reducible refine gate_dst (N:=9) rfl ?_);(try (refine gate_guard (by rfl) ?_;dsimp only));refine box_event ?hg (N:=9) ?hd (cs:=#[.string (⟨#[]⟩:ByteArray), .slice none 0 0]) (t:=41) ?hr ?_;(case hd=>rfl);(case hg=>rfl);(case hr=>first|(go_simp;done)|(go_simp;rfl));intro gb605 hg w35 hbox hb;have n0_:=Aside0.mk (Kd.R_below (by (with_reducible repeat (first|apply Kd.R_alloc|apply Kd.R_drewN|apply Kd.R_drew));exact HO599.out) hb);have n1_:=Aside0.mk (Kd.R_below (by (with_reducible repeat (first|apply Kd.R_alloc|apply Kd.R_drewN|apply Kd.R_drew));exact HO603.out) hb);have n2_:=Aside0.mk (below_step (by repeat (first|(with_reducible first|exact HB.out|apply below_alloc|apply pw_below_drewN|apply below_drew1)|exact HB.out)) hb);have n3_:=Aside0.mk (hbox);have n4_:=Aside0.mk ((by rw [hg];exact (below_size (by repeat (first|(with_reducible first|exact HB.out|apply below_alloc|apply pw_below_drewN|apply below_drew1)|exact HB.out))):w.heap.size≤gb605));have n5_:=Aside0.mk ((by rw [hg];exact (below_size (by repeat (first|(with_reducible first|exact HB.out|apply below_alloc|apply pw_below_drewN|apply below_drew1)|exact HB.out))):w.heap.size≤gb605));clear HO599;clear HO603;clear HB;have HO599:=n0_;have HO603:=n1_;have HB:=n2_;have BK605:=n3_;have GW605:=n4_;have GE605:=n5_;clear n0_ n1_ n2_ n3_ n4_ n5_;clear hb hbox hg;have hcz36_0:w35.cell? ⟨gb605,0,none⟩=some (.string (⟨#[]⟩:ByteArray)):=(blk_cell BK605.out 0).trans rfl;have hcz36_1:w35.cell? ⟨gb605,1,none⟩=some (.slice none 0 0):=(blk_cell BK605.out 1).trans rfl;have hfz36_0:=blk_frozen BK605.out 0;have hfz36_1:=blk_frozen BK605.out 1;obtain ⟨Ao37,co37,eo37⟩:=Kd.R_slice HO603.out;subst eo37;obtain ⟨Ao38,co38,eo38⟩:=Kd.R_slice HO599.out;subst eo38)|((with_reducible refine gate_callee (f:=28) rfl ?_);refine goesL_ (some 50) rfl rfl Tryd.func28 (by kernel_rfl) rfl #[.string a0, .slice Ao38 y597.length co38] rfl (by (try simp only [List.map_toArray,List.map_cons,List.map_nil]);first|done|rfl|(simp only [List.length_drop,List.length_take];rfl)) ?_;(with_reducible refine (key_Make.calls kj5 a0 _ _ y597 t606 t607 t610 _ ?side1 ?side2 A21.out).mono ?_);(case side1=>refine (Kd.R_reads' (e:=52) (base:=w.heap.size) (ok:=fun k_=>(True∧some k_≠(.slice Ao37 t601.length co37:Value).ownBlock)) (n:=y597.length) (c:=co38) ?_).2.2;exact (by (with_reducible repeat (first|apply Kd.R_alloc|apply Kd.R_drewN|apply Kd.R_drew));exact (Kd.R_mono (Kd.R_far (p:=⟨gb605,1,none⟩) (Kd.R_far (p:=⟨gb605,0,none⟩) (Kd.R_types HO599.out BK605.out (by decide)) (fun _ hk=>hk.2) (.string t600)) (fun _ hk=>hk.2) (.slice Ao37 t601.length co37)) (fun _ h_=>h_.1))));(case side2=>exact (Kd.R_reads' HO599.out).2.1);rintro e w39 ⟨v608,rfl,ho0,hb⟩;refine ⟨_,rfl,?_⟩;have n0_:=Aside0.mk (Kd.R_elder' (by (with_reducible repeat (first|apply Kd.R_alloc|apply Kd.R_drewN|apply Kd.R_drew));exact (Kd.R_mono (Kd.R_far (p:=⟨gb605,1,none⟩) (Kd.R_far (p:=⟨gb605,0,none⟩) (Kd.R_types HO599.out BK605.out (by decide)) (fun _ hk=>hk.2) (.string t600)) (fun _ hk=>hk.2) (.slice Ao37 t601.length co37)) (fun _ h_=>h_.1))) (Kd.R_base ho0) hb);have n1_:=Aside0.mk (Kd.R_elder' (by (with_reducible repeat (first|apply Kd.R_alloc|apply Kd.R_drewN|apply Kd.R_drew));exact (Kd.R_mono (Kd.R_far (p:=⟨gb605,1,none⟩) (Kd.R_far (p:=⟨gb605,0,none⟩) (Kd.R_types HO603.out BK605.out (by decide)) (fun _ hk=>hk.2) (.string t600)) (fun _ hk=>hk.2) (.slice Ao37 t601.length co37)) (fun _ h_=>h_.1))) (Kd.R_base ho0) hb);have n2_:=Aside0.mk (Kd.R_lower (Kd.R_new' (Kd.R_new' ho0 (Kd.R_lt (by (with_reducible repeat (first|apply Kd.R_alloc|apply Kd.R_drewN|apply Kd.R_drew));exact (Kd.R_mono (Kd.R_far (p:=⟨gb605,1,none⟩) (Kd.R_far (p:=⟨gb605,0,none⟩) (Kd.R_types HO599.out BK605.out (by decide)) (fun _ hk=>hk.2) (.string t600)) (fun _ hk=>hk.2) (.slice Ao37 t601.length co37)) (fun _ h_=>h_.1))))) (Kd.R_lt (by (with_reducible repeat (first|apply Kd.R_alloc|apply Kd.R_drewN|apply Kd.R_drew));exact (Kd.R_mono (Kd.R_far (p:=⟨gb605,1,none⟩) (Kd.R_far (p:=⟨gb605,0,none⟩) (Kd.R_types HO603.out BK605.out (by decide)) (fun _ hk=>hk.2) (.string t600)) (fun _ hk=>hk.2) (.slice Ao37 t601.length co37)) (fun _ h_=>h_.1))))) (below_size (by repeat (first|(with_reducible first|exact HB.out|apply below_alloc|apply pw_below_drewN|apply below_drew1|refine below_set ?_ GE605.out)|exact HB.out))));have n3_:=Aside0.mk (blk_below (g:=gb605) (o := .cells #[.string t600, .slice Ao37 t601.length co37] 41 (0,0)) (by (with_reducible repeat (first|refine blk_drewN ?_ _|refine blk_drew ?_|refine blk_alloc ?_ _));refine blk_put (cs:=#[.string t600, .slice none 0 0]) ?_ 1 _ rfl;(with_reducible repeat (first|refine blk_drewN ?_ _|refine blk_drew ?_|refine blk_alloc ?_ _));refine blk_put (cs:=#[.string (⟨#[]⟩:ByteArray), .slice none 0 0]) ?_ 0 _ rfl;(with_reducible repeat (first|refine blk_drewN ?_ _|refine blk_drew ?_|refine blk_alloc ?_ _));exact BK605.out) hb);have n4_:=Aside0.mk (below_step (by repeat (first|(with_reducible first|exact HB.out|apply below_alloc|apply pw_below_drewN|apply below_drew1|refine below_set ?_ GE605.out)|exact HB.out)) hb);clear HO599;clear HO603;clear BK605;clear HB;have HO599:=n0_;have HO603:=n1_;have HO609:=n2_;have BK605:=n3_;have HB:=n4_;clear n0_ n1_ n2_ n3_ n4_;(try clear hb);(try clear hb2);(try clear hk);(try clear hi);(try clear ho0))|((with_reducible refine gate_dst (N:=11) rfl ?_);(try (refine gate_guard (by rfl) ?_;dsimp only));refine box_event ?hg (N:=11) ?hd (cs:=#[.string (⟨#[]⟩:ByteArray), .slice none 0 0]) (t:=41) ?hr ?_;(case hd=>rfl);(case hg=>rfl);(case hr=>first|(go_simp;done)|(go_simp;rfl));intro gb611 hg w40 hbox hb;have n0_:=Aside0.mk (Kd.R_below (by (with_reducible repeat (first|apply Kd.R_alloc|apply Kd.R_drewN|apply Kd.R_drew));exact HO599.out) hb);have n1_:=Aside0.mk (Kd.R_below (by (with_reducible repeat (first|apply Kd.R_alloc|apply Kd.R_drewN|apply Kd.R_drew));exact HO603.out) hb);have n2_:=Aside0.mk (Kd.R_below (by (with_reducible repeat (first|apply Kd.R_alloc|apply Kd.R_drewN|apply Kd.R_drew));exact HO609.out) hb);have n3_:=Aside0.mk (blk_below (g:=gb605) (o := .cells #[.string t600, .slice Ao37 t601.length co37] 41 (0,0)) (by (with_reducible repeat (first|refine blk_drewN ?_ _|refine blk_drew ?_|refine blk_alloc ?_ _));exact BK605.out) hb);have n4_:=Aside0.mk (below_step (by repeat (first|(with_reducible first|exact HB.out|apply below_alloc|apply pw_below_drewN|apply below_drew1|refine below_set ?_ GE605.out)|exact HB.out)) hb);have n5_:=Aside0.mk (hbox);have n6_:=Aside0.mk ((by rw [hg];exact (below_size (by repeat (first|(with_reducible first|exact HB.out|apply below_alloc|apply pw_below_drewN|apply below_drew1|refine below_set ?_ GE605.out)|exact HB.out))):w.heap.size≤gb611));have n7_:=Aside0.mk ((by rw [hg];exact (below_size (by repeat (first|(with_reducible first|exact HB.out|apply below_alloc|apply pw_below_drewN|apply below_drew1|refine below_set ?_ GE605.out)|exact HB.out))):w.heap.size≤gb611));have n8_:=Aside0.mk ((by rw [hg];exact Nat.ne_of_lt (blk_lt (g:=gb605) (o := .cells #[.string t600, .slice Ao37 t601.length co37] 41 (0,0)) (by (with_reducible repeat (first|refine blk_drewN ?_ _|refine blk_drew ?_|refine blk_alloc ?_ _));exact BK605.out)):gb605≠gb611));have n9_:=Aside0.mk ((by rw [hg];exact Nat.ne_of_gt (blk_lt (g:=gb605) (o := .cells #[.string t600, .slice Ao37 t601.length co37] 41 (0,0)) (by (with_reducible repeat (first|refine blk_drewN ?_ _|refine blk_drew ?_|refine blk_alloc ?_ _));exact BK605.out)):gb611≠gb605));clear HO599;clear HO603;clear HO609;clear BK605;clear HB;have HO599:=n0_;have HO603:=n1_;have HO609:=n2_;have BK605:=n3_;have HB:=n4_;have BK611:=n5_;have GW611:=n6_;have GE611:=n7_;have NB605_611:=n8_;have NB611_605:=n9_;clear n0_ n1_ n2_ n3_ n4_ n5_ n6_ n7_ n8_ n9_;clear hb hbox hg;have hnb41:=NB611_605.out;have hnc41:=NB605_611.out;have hcz42_0:w40.cell? ⟨gb611,0,none⟩=some (.string (⟨#[]⟩:ByteArray)):=(blk_cell BK611.out 0).trans rfl;have hcz42_1:w40.cell? ⟨gb611,1,none⟩=some (.slice none 0 0):=(blk_cell BK611.out 1).trans rfl;have hfz42_0:=blk_frozen BK611.out 0;have hfz42_1:=blk_frozen BK611.out 1;obtain ⟨Ao43,co43,eo43⟩:=Kd.R_slice HO609.out;subst eo43))
            have n0_:Aside0 (Kd.R k52 52 ((w40.setCell ⟨gb611,0,none⟩ (.string t606)).setCell ⟨gb611,1,none⟩ (.slice Ao43 t607.length co43)) w.heap.size (fun k_=>some k_≠(.slice Ao37 t601.length co37:Value).ownBlock∧some k_≠(.slice Ao43 t607.length co43:Value).ownBlock) (.slice Ao38 y597.length co38) y597):=⟨by (with_reducible repeat (first|apply Kd.R_alloc|apply Kd.R_drewN|apply Kd.R_drew));exact Kd.R_mono (Kd.R_far (p:=⟨gb611,1,none⟩) (Kd.R_far (p:=⟨gb611,0,none⟩) (Kd.R_types HO599.out BK611.out (by decide)) (fun _ hk=>hk.2) (.string t606)) (fun _ hk=>hk.2) (.slice Ao43 t607.length co43)) (fun _ hk=>⟨hk.1.1.2,hk.1.2⟩)⟩
            have n1_:Aside0 (Kd.R k52 52 ((w40.setCell ⟨gb611,0,none⟩ (.string t606)).setCell ⟨gb611,1,none⟩ (.slice Ao43 t607.length co43)) w.heap.size (fun k_=>some k_≠(.slice Ao38 y597.length co38:Value).ownBlock∧some k_≠(.slice Ao43 t607.length co43:Value).ownBlock) (.slice Ao37 t601.length co37) t601):=⟨by (with_reducible repeat (first|apply Kd.R_alloc|apply Kd.R_drewN|apply Kd.R_drew));exact Kd.R_mono (Kd.R_far (p:=⟨gb611,1,none⟩) (Kd.R_far (p:=⟨gb611,0,none⟩) (Kd.R_types HO603.out BK611.out (by decide)) (fun _ hk=>hk.2) (.string t606)) (fun _ hk=>hk.2) (.slice Ao43 t607.length co43)) (fun _ hk=>⟨hk.1.1.2,hk.1.2⟩)⟩
            have n2_:Aside0 (Kd.R k52 52 ((w40.setCell ⟨gb611,0,none⟩ (.string t606)).setCell ⟨gb611,1,none⟩ (.slice Ao43 t607.length co43)) w.heap.size (fun k_=>some k_≠(.slice Ao38 y597.length co38:Value).ownBlock∧some k_≠(.slice Ao37 t601.length co37:Value).ownBlock) (.slice Ao43 t607.length co43) t607):=⟨by (with_reducible repeat (first|apply Kd.R_alloc|apply Kd.R_drewN|apply Kd.R_drew));exact Kd.R_mono (Kd.R_far (p:=⟨gb611,1,none⟩) (Kd.R_far (p:=⟨gb611,0,none⟩) (Kd.R_types HO609.out BK611.out (by decide)) (fun _ hk=>hk.2) (.string t606)) (fun _ hk=>hk.2) (.slice Ao43 t607.length co43)) (fun _ hk=>⟨hk.1.1.2,hk.1.2⟩)⟩
            have n3_:Aside0 (((w40.setCell ⟨gb611,0,none⟩ (.string t606)).setCell ⟨gb611,1,none⟩ (.slice Ao43 t607.length co43)).heap[gb605]?=some (.cells #[.string t600, .slice Ao37 t601.length co37] 41 (0,0))):=⟨by (with_reducible repeat (first|refine blk_drewN ?_ _|refine blk_drew ?_|refine blk_alloc ?_ _));refine blk_far ?_ NB605_611.out _;(with_reducible repeat (first|refine blk_drewN ?_ _|refine blk_drew ?_|refine blk_alloc ?_ _));refine blk_far ?_ NB605_611.out _;(with_reducible repeat (first|refine blk_drewN ?_ _|refine blk_drew ?_|refine blk_alloc ?_ _));exact BK605.out⟩
            have n4_:Aside0 (((w40.setCell ⟨gb611,0,none⟩ (.string t606)).setCell ⟨gb611,1,none⟩ (.slice Ao43 t607.length co43)).heap[gb611]?=some (.cells #[.string t606, .slice Ao43 t607.length co43] 41 (0,0))):=⟨by (with_reducible repeat (first|refine blk_drewN ?_ _|refine blk_drew ?_|refine blk_alloc ?_ _));refine blk_put (cs:=#[.string t606, .slice none 0 0]) ?_ 1 _ rfl;(with_reducible repeat (first|refine blk_drewN ?_ _|refine blk_drew ?_|refine blk_alloc ?_ _));refine blk_put (cs:=#[.string (⟨#[]⟩:ByteArray), .slice none 0 0]) ?_ 0 _ rfl;(with_reducible repeat (first|refine blk_drewN ?_ _|refine blk_drew ?_|refine blk_alloc ?_ _));exact BK611.out⟩
            have n5_:Aside0 (Below w.heap.size w ((w40.setCell ⟨gb611,0,none⟩ (.string t606)).setCell ⟨gb611,1,none⟩ (.slice Ao43 t607.length co43))):=⟨by repeat (first|(with_reducible first|exact HB.out|apply below_alloc|apply pw_below_drewN|apply below_drew1|refine below_set ?_ GE605.out|refine below_set ?_ GE611.out)|exact HB.out)⟩
            (try clear HO599)
            (try clear HO603)
            (try clear HO609)
            (try clear BK605)
            (try clear BK611)
            (try clear HB)
            generalize ((w40.setCell ⟨gb611,0,none⟩ (.string t606)).setCell ⟨gb611,1,none⟩ (.slice Ao43 t607.length co43))=w44 at n0_ n1_ n2_ n3_ n4_ n5_ ⊢
            have HO599:=n0_
            have HO603:=n1_
            have HO609:=n2_
            have BK605:=n3_
            have BK611:=n4_
            have HB:=n5_
            clear n0_ n1_ n2_ n3_ n4_ n5_
            have n0_:=Aside0.mk (Kd.R_drew HO599.out)
            have n1_:=Aside0.mk (Kd.R_drew HO603.out)
            have n2_:=Aside0.mk (Kd.R_drew HO609.out)
            have n3_:=Aside0.mk (blk_drew BK605.out)
            have n4_:=Aside0.mk (blk_drew BK611.out)
            have n5_:=Aside0.mk (below_drew1 HB.out)
            clear HO599
            clear HO603
            clear HO609
            clear BK605
            clear BK611
            clear HB
            have HO599:=n0_
            have HO603:=n1_
            have HO609:=n2_
            have BK605:=n3_
            have BK611:=n4_
            have HB:=n5_
            clear n0_ n1_ n2_ n3_ n4_ n5_
            refine start_ (n:=16) (S:=fun w'=>w'.cell? ⟨gb605,0,none⟩=some (.string t600)∧w'.cell? ⟨gb605,1,none⟩=some (.slice Ao37 t601.length co37)∧w'.cell? ⟨gb611,0,none⟩=some (.string t606)∧w'.cell? ⟨gb611,1,none⟩=some (.slice Ao43 t607.length co43)) (ds:=[]) #[false,false,false,false,false,false,false,false,false,false,false,false,false,false,false,false] (by kernel_rfl) rfl rfl ⟨(blk_cell BK605.out 0).trans rfl,(blk_cell BK605.out 1).trans rfl,(blk_cell BK611.out 0).trans rfl,(blk_cell BK611.out 1).trans rfl⟩ (fun hHeld=>?_);refine with_tabW ebbtidelaw04_KeyOrder.tab9 ebbtidelaw04_KeyOrder.bits9 (fun HT_ HW_=>?_)
            generalize w44.drew=w45 at HO599 HO603 HO609 BK605 BK611 HB hHeld ⊢
            refine take_ (i:=0) (N:=some 53) (v:=?_) (a':=?_) #[true,false,false,false,false,false,false,false,false,false,false,false,false,false,false,false] rfl rfl (take_ofW HT_.out HW_.out (by kernel_rfl)) (fun _ _ _ h=>h) (Or.inl ⟨by rfl,?_⟩) hHeld ?_ ?_
            rotate_left
            ·rintro w' ⟨s0,s1,s2,s3⟩;go_simp;with_reducible rfl
            rotate_left
            ·simp only [Act.put,List.setIfInBounds_toArray,List.set_cons_zero,List.set_cons_succ,i64_w,i32_w];rfl
            refine take_ (i:=1) (N:=some 54) (v:=?_) (a':=?_) #[true,true,false,false,false,false,false,false,false,false,false,false,false,false,false,false] rfl rfl (take_ofW HT_.out HW_.out (by kernel_rfl)) (fun _ _ _ h=>h) (Or.inl ⟨by rfl,?_⟩) hHeld ?_ ?_
            rotate_left
            ·rintro w' ⟨s0,s1,s2,s3⟩;go_simp;with_reducible rfl
            rotate_left
            ·simp only [Act.put,List.setIfInBounds_toArray,List.set_cons_zero,List.set_cons_succ,i64_w,i32_w];rfl
            refine one_ (i:=2) (N:=some 55) #[true,true,true,false,false,false,false,false,false,false,false,false,false,false,false,false] rfl rfl (one_of HT_.out (by kernel_rfl)) (by decide) (fun K hK=>?_)
            refine goes_ Tryd.func30 (by kernel_rfl) rfl #[.agg #[.string t600, .slice Ao37 t601.length co37], .agg #[.string t606, .slice Ao43 t607.length co43]] (by rfl) rfl rfl (by (try simp only [List.map_toArray,List.map_cons,List.map_nil]);first|done|rfl|(simp only [List.length_drop,List.length_take];rfl)) ?_
            with_reducible refine (ebbtideref04_Same.calls kj5 t600 _ _ t601 t606 _ _ t607 true _ ?side1 ?side2 ?side3 ?side4 A22.out).mono ?_
            (case side1=>repeat (first|exact (Kd.R_reads' HO603.out).2.2|(with_reducible refine Kd.C_alloc ?_ _)|(with_reducible refine Kd.C_drewN ?_ _)|(with_reducible refine Kd.C_drew ?_)))
            (case side2=>exact (Kd.R_reads' HO603.out).2.1)
            (case side3=>repeat (first|exact (Kd.R_reads' HO609.out).2.2|(with_reducible refine Kd.C_alloc ?_ _)|(with_reducible refine Kd.C_drewN ?_ _)|(with_reducible refine Kd.C_drew ?_)))
            (case side4=>exact (Kd.R_reads' HO609.out).2.1)
            rintro e w46 ⟨rfl,hb⟩
            refine ⟨_,rfl,?_⟩
            have n0_:=Aside0.mk (Kd.R_below (by (with_reducible repeat (first|apply Kd.R_alloc|apply Kd.R_drewN|apply Kd.R_drew));exact HO599.out) hb)
            have n1_:=Aside0.mk (Kd.R_below (by (with_reducible repeat (first|apply Kd.R_alloc|apply Kd.R_drewN|apply Kd.R_drew));exact HO603.out) hb)
            have n2_:=Aside0.mk (Kd.R_below (by (with_reducible repeat (first|apply Kd.R_alloc|apply Kd.R_drewN|apply Kd.R_drew));exact HO609.out) hb)
            have n3_:=Aside0.mk (blk_below (g:=gb605) (o := .cells #[.string t600, .slice Ao37 t601.length co37] 41 (0,0)) (by (with_reducible repeat (first|refine blk_drewN ?_ _|refine blk_drew ?_|refine blk_alloc ?_ _));exact BK605.out) hb)
            have n4_:=Aside0.mk (blk_below (g:=gb611) (o := .cells #[.string t606, .slice Ao43 t607.length co43] 41 (0,0)) (by (with_reducible repeat (first|refine blk_drewN ?_ _|refine blk_drew ?_|refine blk_alloc ?_ _));exact BK611.out) hb)
            have n5_:=Aside0.mk (below_step (by repeat (first|(with_reducible first|exact HB.out|apply below_alloc|apply pw_below_drewN|apply below_drew1|refine below_set ?_ GE605.out|refine below_set ?_ GE611.out)|exact HB.out)) hb)
            clear HO599
            clear HO603
            clear HO609
            clear BK605
            clear BK611
            clear HB
            have HO599:=n0_
            have HO603:=n1_
            have HO609:=n2_
            have BK605:=n3_
            have BK611:=n4_
            have HB:=n5_
            clear n0_ n1_ n2_ n3_ n4_ n5_
            (try clear hb)
            (try clear hb2)
            (try clear hk)
            (try clear hi)
            refine hK.out _ _ ⟨(blk_cell BK605.out 0).trans rfl,(blk_cell BK605.out 1).trans rfl,(blk_cell BK611.out 0).trans rfl,(blk_cell BK611.out 1).trans rfl⟩ (fun hHeld=>?_)
            clear hK K
            refine norm_ (a':=?_) ?_ ?_
            rotate_left
            ·show Act.put _ (some 55) _=_
             simp only [Act.put,List.setIfInBounds_toArray,List.set_cons_zero,List.set_cons_succ,i64_w,i32_w]
             rfl
            refine pure_ (i:=3) (N:=some 56) (v:=?_) (a':=?_) #[true,true,true,true,false,false,false,false,false,false,false,false,false,false,false,false] rfl rfl (any_of HT_.out (by kernel_rfl)) (fun _ _ _ h=>h) (Or.inl ⟨by rfl,?_⟩) ?_ ?_
            rotate_left
            ·intro w';go_simp;with_reducible rfl
            rotate_left
            ·simp only [Act.put,List.setIfInBounds_toArray,List.set_cons_zero,List.set_cons_succ,i64_w,i32_w];rfl
            refine pure_ (i:=4) (N:=some 57) (v:=?_) (a':=?_) #[true,true,true,true,true,false,false,false,false,false,false,false,false,false,false,false] rfl rfl (any_of HT_.out (by kernel_rfl)) (fun _ _ _ h=>h) (Or.inl ⟨by rfl,?_⟩) ?_ ?_
            rotate_left
            ·intro w';go_simp;with_reducible rfl
            rotate_left
            ·simp only [Act.put,List.setIfInBounds_toArray,List.set_cons_zero,List.set_cons_succ,i64_w,i32_w];rfl
            refine pure_ (i:=5) (N:=some 58) (v:=?_) (a':=?_) #[true,true,true,true,true,true,false,false,false,false,false,false,false,false,false,false] rfl rfl (any_of HT_.out (by kernel_rfl)) (fun _ _ _ h=>h) (Or.inl ⟨by rfl,?_⟩) ?_ ?_
            rotate_left
            ·intro w';go_simp;with_reducible rfl
            rotate_left
            ·simp only [Act.put,List.setIfInBounds_toArray,List.set_cons_zero,List.set_cons_succ,i64_w,i32_w];rfl
            refine pure_ (i:=6) (N:=some 59) (v:=?_) (a':=?_) #[true,true,true,true,true,true,true,false,false,false,false,false,false,false,false,false] rfl rfl (any_of HT_.out (by kernel_rfl)) (fun _ _ _ h=>h) (Or.inl ⟨by rfl,?_⟩) ?_ ?_
            rotate_left
            ·intro w';go_simp;with_reducible rfl
            rotate_left
            ·simp only [Act.put,List.setIfInBounds_toArray,List.set_cons_zero,List.set_cons_succ,i64_w,i32_w];rfl
            refine pure_ (i:=7) (N:=some 60) (v:=?_) (a':=?_) #[true,true,true,true,true,true,true,true,false,false,false,false,false,false,false,false] rfl rfl (any_of HT_.out (by kernel_rfl)) (fun _ _ _ h=>h) (Or.inl ⟨by rfl,?_⟩) ?_ ?_
            rotate_left
            ·intro w';go_simp;with_reducible rfl
            rotate_left
            ·simp only [Act.put,List.setIfInBounds_toArray,List.set_cons_zero,List.set_cons_succ,i64_w,i32_w];rfl
            refine pure_ (i:=8) (N:=some 61) (v:=?_) (a':=?_) #[true,true,true,true,true,true,true,true,true,false,false,false,false,false,false,false] rfl rfl (any_of HT_.out (by kernel_rfl)) (fun _ _ _ h=>h) (Or.inl ⟨by rfl,?_⟩) ?_ ?_
            rotate_left
            ·intro w';go_simp;with_reducible rfl
            rotate_left
            ·simp only [Act.put,List.setIfInBounds_toArray,List.set_cons_zero,List.set_cons_succ,i64_w,i32_w];rfl
            refine take_ (i:=9) (N:=some 62) (v:=?_) (a':=?_) #[true,true,true,true,true,true,true,true,true,true,false,false,false,false,false,false] rfl rfl (take_ofW HT_.out HW_.out (by kernel_rfl)) (fun _ _ _ h=>h) (Or.inl ⟨by rfl,?_⟩) hHeld ?_ ?_
            rotate_left
            ·rintro w' ⟨s0,s1,s2,s3⟩;go_simp;with_reducible rfl
            rotate_left
            ·simp only [Act.put,List.setIfInBounds_toArray,List.set_cons_zero,List.set_cons_succ,i64_w,i32_w];rfl
            refine take_ (i:=11) (N:=some 64) (v:=?_) (a':=?_) #[true,true,true,true,true,true,true,true,true,true,false,true,false,false,false,false] rfl rfl (take_ofW HT_.out HW_.out (by kernel_rfl)) (fun _ _ _ h=>h) (Or.inl ⟨by rfl,?_⟩) hHeld ?_ ?_
            rotate_left
            ·rintro w' ⟨s0,s1,s2,s3⟩;go_simp;with_reducible rfl
            rotate_left
            ·simp only [Act.put,List.setIfInBounds_toArray,List.set_cons_zero,List.set_cons_succ,i64_w,i32_w];rfl
            refine one_ (i:=10) (N:=some 63) #[true,true,true,true,true,true,true,true,true,true,true,true,false,false,false,false] rfl rfl (one_of HT_.out (by kernel_rfl)) (by decide) (fun K hK=>?_)
            refine goes_ Tryd.func33 (by kernel_rfl) rfl #[.agg #[.string t600, .slice Ao37 t601.length co37]] (by rfl) rfl rfl (by (try simp only [List.map_toArray,List.map_cons,List.map_nil]);first|done|rfl|(simp only [List.length_drop,List.length_take];rfl)) ?_
            with_reducible refine (key_Text.calls kj5 t600 _ _ t601 t613 _ ?side1 ?side2 A25.out).mono ?_
            (case side1=>repeat (first|exact (Kd.R_reads' HO603.out).2.2|(with_reducible refine Kd.C_alloc ?_ _)|(with_reducible refine Kd.C_drewN ?_ _)|(with_reducible refine Kd.C_drew ?_)))
            (case side2=>exact (Kd.R_reads' HO603.out).2.1)
            rintro e w47 ⟨rfl,hb⟩
            refine ⟨_,rfl,?_⟩
            have n0_:=Aside0.mk (Kd.R_below (by (with_reducible repeat (first|apply Kd.R_alloc|apply Kd.R_drewN|apply Kd.R_drew));exact HO599.out) hb)
            have n1_:=Aside0.mk (Kd.R_below (by (with_reducible repeat (first|apply Kd.R_alloc|apply Kd.R_drewN|apply Kd.R_drew));exact HO603.out) hb)
            have n2_:=Aside0.mk (Kd.R_below (by (with_reducible repeat (first|apply Kd.R_alloc|apply Kd.R_drewN|apply Kd.R_drew));exact HO609.out) hb)
            have n3_:=Aside0.mk (blk_below (g:=gb605) (o := .cells #[.string t600, .slice Ao37 t601.length co37] 41 (0,0)) (by (with_reducible repeat (first|refine blk_drewN ?_ _|refine blk_drew ?_|refine blk_alloc ?_ _));exact BK605.out) hb)
            have n4_:=Aside0.mk (blk_below (g:=gb611) (o := .cells #[.string t606, .slice Ao43 t607.length co43] 41 (0,0)) (by (with_reducible repeat (first|refine blk_drewN ?_ _|refine blk_drew ?_|refine blk_alloc ?_ _));exact BK611.out) hb)
            have n5_:=Aside0.mk (below_step (by repeat (first|(with_reducible first|exact HB.out|apply below_alloc|apply pw_below_drewN|apply below_drew1|refine below_set ?_ GE605.out|refine below_set ?_ GE611.out)|exact HB.out)) hb)
            clear HO599
            clear HO603
            clear HO609
            clear BK605
            clear BK611
            clear HB
            have HO599:=n0_
            have HO603:=n1_
            have HO609:=n2_
            have BK605:=n3_
            have BK611:=n4_
            have HB:=n5_
            clear n0_ n1_ n2_ n3_ n4_ n5_
            (try clear hb)
            (try clear hb2)
            (try clear hk)
            (try clear hi)
            refine hK.out _ _ ⟨(blk_cell BK605.out 0).trans rfl,(blk_cell BK605.out 1).trans rfl,(blk_cell BK611.out 0).trans rfl,(blk_cell BK611.out 1).trans rfl⟩ (fun hHeld=>?_)
            clear hK K
            refine norm_ (a':=?_) ?_ ?_
            rotate_left
            ·show Act.put _ (some 63) _=_
             simp only [Act.put,List.setIfInBounds_toArray,List.set_cons_zero,List.set_cons_succ,i64_w,i32_w]
             rfl
            refine one_ (i:=12) (N:=some 65) #[true,true,true,true,true,true,true,true,true,true,true,true,true,false,false,false] rfl rfl (one_of HT_.out (by kernel_rfl)) (by decide) (fun K hK=>?_)
            refine goes_ Tryd.func33 (by kernel_rfl) rfl #[.agg #[.string t606, .slice Ao43 t607.length co43]] (by rfl) rfl rfl (by (try simp only [List.map_toArray,List.map_cons,List.map_nil]);first|done|rfl|(simp only [List.length_drop,List.length_take];rfl)) ?_
            with_reducible refine (key_Text.calls kj5 t606 _ _ t607 t614 _ ?side1 ?side2 A26.out).mono ?_
            (case side1=>repeat (first|exact (Kd.R_reads' HO609.out).2.2|(with_reducible refine Kd.C_alloc ?_ _)|(with_reducible refine Kd.C_drewN ?_ _)|(with_reducible refine Kd.C_drew ?_)))
            (case side2=>exact (Kd.R_reads' HO609.out).2.1)
            rintro e w48 ⟨rfl,hb⟩
            refine ⟨_,rfl,?_⟩
            have n0_:=Aside0.mk (Kd.R_below (by (with_reducible repeat (first|apply Kd.R_alloc|apply Kd.R_drewN|apply Kd.R_drew));exact HO599.out) hb)
            have n1_:=Aside0.mk (Kd.R_below (by (with_reducible repeat (first|apply Kd.R_alloc|apply Kd.R_drewN|apply Kd.R_drew));exact HO603.out) hb)
            have n2_:=Aside0.mk (Kd.R_below (by (with_reducible repeat (first|apply Kd.R_alloc|apply Kd.R_drewN|apply Kd.R_drew));exact HO609.out) hb)
            have n3_:=Aside0.mk (blk_below (g:=gb605) (o := .cells #[.string t600, .slice Ao37 t601.length co37] 41 (0,0)) (by (with_reducible repeat (first|refine blk_drewN ?_ _|refine blk_drew ?_|refine blk_alloc ?_ _));exact BK605.out) hb)
            have n4_:=Aside0.mk (blk_below (g:=gb611) (o := .cells #[.string t606, .slice Ao43 t607.length co43] 41 (0,0)) (by (with_reducible repeat (first|refine blk_drewN ?_ _|refine blk_drew ?_|refine blk_alloc ?_ _));exact BK611.out) hb)
            have n5_:=Aside0.mk (below_step (by repeat (first|(with_reducible first|exact HB.out|apply below_alloc|apply pw_below_drewN|apply below_drew1|refine below_set ?_ GE605.out|refine below_set ?_ GE611.out)|exact HB.out)) hb)
            clear HO599
            clear HO603
            clear HO609
            clear BK605
            clear BK611
            clear HB
            have HO599:=n0_
            have HO603:=n1_
            have HO609:=n2_
            have BK605:=n3_
            have BK611:=n4_
            have HB:=n5_
            clear n0_ n1_ n2_ n3_ n4_ n5_
            (try clear hb)
            (try clear hb2)
            (try clear hk)
            (try clear hi)
            refine hK.out _ _ ⟨(blk_cell BK605.out 0).trans rfl,(blk_cell BK605.out 1).trans rfl,(blk_cell BK611.out 0).trans rfl,(blk_cell BK611.out 1).trans rfl⟩ (fun hHeld=>?_)
            clear hK K
            refine norm_ (a':=?_) ?_ ?_
            rotate_left
            ·show Act.put _ (some 65) _=_
             simp only [Act.put,List.setIfInBounds_toArray,List.set_cons_zero,List.set_cons_succ,i64_w,i32_w]
             rfl
            refine pure_ (i:=13) (N:=some 66) (v:=?_) (a':=?_) #[true,true,true,true,true,true,true,true,true,true,true,true,true,true,false,false] rfl rfl (any_of HT_.out (by kernel_rfl)) (fun _ _ _ h=>h) (Or.inl ⟨by rfl,?_⟩) ?_ ?_
            rotate_left
            ·intro w';go_simp;with_reducible rfl
            rotate_left
            ·simp only [Act.put,List.setIfInBounds_toArray,List.set_cons_zero,List.set_cons_succ,i64_w,i32_w];rfl
            refine pure_ (i:=14) (N:=some 67) (v:=?_) (a':=?_) #[true,true,true,true,true,true,true,true,true,true,true,true,true,true,true,false] rfl rfl (any_of HT_.out (by kernel_rfl)) (fun _ _ _ h=>h) (Or.inl ⟨by rfl,?_⟩) ?_ ?_
            rotate_left
            ·intro w';go_simp;with_reducible rfl
            rotate_left
            ·simp only [Act.put,List.setIfInBounds_toArray,List.set_cons_zero,List.set_cons_succ,i64_w,i32_w];rfl
            refine pure_ (i:=15) (N:=some 6) (v:=?_) (a':=?_) #[true,true,true,true,true,true,true,true,true,true,true,true,true,true,true,true] rfl rfl (any_of HT_.out (by kernel_rfl)) (fun _ _ _ h=>h) (Or.inl ⟨by rfl,?_⟩) ?_ ?_
            rotate_left
            ·intro w';go_simp;with_reducible rfl
            rotate_left
            ·simp only [Act.put,List.setIfInBounds_toArray,List.set_cons_zero,List.set_cons_succ,i64_w,i32_w];rfl
            refine done_ (done_of HT_.out (by kernel_rfl)) ?_
            try go_wp2
            go_ret
            exact ⟨by first|rfl|(simp [errW_none,errW_some]<;>rfl)|(simp only [← hji13];first|rfl|(simp [errW_none,errW_some]<;>rfl))|(simp [*,errW_none,errW_some]<;>rfl),by repeat (first|(with_reducible first|exact HB.out|apply below_alloc|apply pw_below_drewN|apply below_drew1|refine below_set ?_ GE605.out|refine below_set ?_ GE611.out)|exact HB.out)⟩
           ·rw [if_neg c24] at H
            have c24b0:(t604 ==t610)=false:=beq_eq_false_iff_ne.mpr c24
            have c24b1:(t604 != t610)=true:=bne_iff_ne.mpr c24
            exact absurd H (by simp)
          ·replace c23:=Bool.eq_false_iff.mpr c23
           subst c23
           have H1:(none)=some r:=by rw [if_neg (show ¬ (false=true) by decide)] at H;exact H
           clear H
           have H:=H1
           clear H1
           exact absurd H (by simp)
         ·rw [if_neg c19] at H
          exact absurd H (by simp)
        ·rw [if_neg c16] at H
         exact absurd H (by simp)
       ·rw [if_neg c15] at H
        exact absurd H (by simp)
      ·rw [if_neg c14] at H
       exact absurd H (by simp)
 ·replace c5:=Bool.eq_false_iff.mpr c5
  subst c5
  have H1:(none)=some r:=by rw [if_neg (show ¬ (false=true) by decide)] at H;exact H
  clear H
  have H:=H1
  clear H1
  exact absurd H (by simp)
end Go.Proofs.YtbefmicenjdfkaaDoor.PTk
