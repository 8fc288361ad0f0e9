import Derived.Test.YtbefmicenjdfkaaDoorZaPTkx0
import Derived.Test.YtbefmicenjdfkaaDoorZaPTkx3
import Derived.Test.YtbefmicenjdfkaaDoorZaPTkx4
import Derived.Test.YtbefmicenjdfkaaDoorZaPTkx7
namespace Go.Proofs.YtbefmicenjdfkaaDoor.PTk
open Go.RowKit Go.Proofs.YtbefmicenjdfkaaDoorW.PrintWords Go.Proofs.YtbefmicenjdfkaaDoorW.PrintLast Go.Proofs.YtbefmicenjdfkaaDoorW.PrintMore
attribute [local go_sem] max2_int min2_int max_two min_two max_three min_three max_four min_four
set_option linter.unusedVariables false
set_option linter.unusedSimpArgs false
def ebbtidelaw03_TagOrder.j0:Nat→List (S52)→Int→Bool→Option (Bool)
 | 0,_,_,_=>none
 | k+1,x0,x1,x19=>if x19=true then (some true) else (if (x0.length:Int)=0 then (none) else ((some (([]:List (S52)):List (S52))).bind fun y381=>(if 0≤(Int.tmod (wrap64 (x1)) (x0.length:Int)) then (if (Int.tmod (wrap64 (x1)) (x0.length:Int))≤(x0.length:Int) then ((some (x0.drop ((Int.tmod (wrap64 (x1)) (x0.length:Int)):Int).toNat:List (S52))).bind fun y384=>(if y381.length+y384.length<4398046511104 then ((some (y381++y384:List (S52))).bind fun y388=>((some (x0.take ((Int.tmod (wrap64 (x1)) (x0.length:Int)):Int).toNat:List (S52))).bind fun y391=>(if y388.length+y391.length<4398046511104 then ((tag_Canon.f k x0).bind fun bt398=>((tag_Canon.f k (y388++y391)).bind fun bt402=>(if bt398.2=0 then (if bt402.2=0 then ((ebbtideref03_Same.f k bt398.1 bt402.1).bind fun t406=>(if t406=true then (if (bt398.1.length:Int)=(x0.length:Int) then ((tag_Right.f k bt398.1).bind fun t407=>(some t407)) else (none)) else (none))) else (none)) else (if bt402.2=bt398.2 then (some ((wrap64 ((bt398.1.length:Int)+(bt402.1.length:Int))) ==0)) else (none))))) else (none)))) else (none))) else (none)) else (none))))
def ebbtidelaw03_TagOrder.f (k:Nat) (l0:List (S52)) (a1:Int):Option (Bool):=(ebbtidelaw03_alive.f k).bind fun t379=>(if t379=true then ((ebbtideref03_Great.f k l0).bind fun t380=>(if t380=true then (ebbtidelaw03_TagOrder.j0 k l0 a1 true) else (ebbtidelaw03_TagOrder.j0 k l0 a1 ((l0.length:Int) ==0)))) else (none))
theorem ebbtidelaw03_TagOrder.mono_l:∀ k,(∀ y0 y1 y2,LeO (ebbtidelaw03_TagOrder.j0 k y0 y1 y2) (ebbtidelaw03_TagOrder.j0 (k+1) y0 y1 y2))
 | 0=>fun _ _ _ r h=>by simp [ebbtidelaw03_TagOrder.j0] at h
 | k+1=>by
  have ih0:=ebbtidelaw03_TagOrder.mono_l k
  ·intro y0 y1 y2
   unfold ebbtidelaw03_TagOrder.j0
   repeat' first
   | (with_reducible exact ih0 _ _ _)
   | (with_reducible exact ebbtidelaw03_alive.mono _)
   | (with_reducible exact ebbtideref03_Great.mono _ _)
   | (with_reducible exact ebbtideref03_Same.mono _ _ _)
   | (with_reducible exact tag_Canon.mono _ _)
   | (with_reducible exact tag_Right.mono _ _)
   | (with_reducible exact LeO.refl _)
   | (with_reducible exact LeO.none _)
   | (with_reducible refine LeO.ite ?_ ?_)
   | (with_reducible refine LeO.bind ?_ (fun _=>?_))
   | exact ih0 _ _ _
   | exact ebbtidelaw03_alive.mono _
   | exact ebbtideref03_Great.mono _ _
   | exact ebbtideref03_Same.mono _ _ _
   | exact tag_Canon.mono _ _
   | exact tag_Right.mono _ _
   | exact LeO.none _
   | refine LeO.ite ?_ ?_
   | refine LeO.bind ?_ (fun _=>?_)
theorem ebbtidelaw03_TagOrder.mono:∀ a0 a1 k,LeO (ebbtidelaw03_TagOrder.f k a0 a1) (ebbtidelaw03_TagOrder.f (k+1) a0 a1):=by
 intro a0 a1 k
 have ih0:=ebbtidelaw03_TagOrder.mono_l k
 unfold ebbtidelaw03_TagOrder.f
 repeat' first
   | (with_reducible exact ih0 _ _ _)
   | (with_reducible exact ebbtidelaw03_alive.mono _)
   | (with_reducible exact ebbtideref03_Great.mono _ _)
   | (with_reducible exact ebbtideref03_Same.mono _ _ _)
   | (with_reducible exact tag_Canon.mono _ _)
   | (with_reducible exact tag_Right.mono _ _)
   | (with_reducible exact LeO.refl _)
   | (with_reducible exact LeO.none _)
   | (with_reducible refine LeO.ite ?_ ?_)
   | (with_reducible refine LeO.bind ?_ (fun _=>?_))
   | exact ih0 _ _ _
   | exact ebbtidelaw03_alive.mono _
   | exact ebbtideref03_Great.mono _ _
   | exact ebbtideref03_Same.mono _ _ _
   | exact tag_Canon.mono _ _
   | exact tag_Right.mono _ _
   | exact LeO.none _
   | refine LeO.ite ?_ ?_
   | refine LeO.bind ?_ (fun _=>?_)
def ebbtidelaw03_TagOrder.T6:Bool×List (List Nat×List Nat):=(true,[([],[]),([],[]),([],[]),([1,2],[1,2]),([0,3],[0,3]),([],[]),([],[]),([5,6],[5,6]),([4,7,4],[4,7]),([8,8,0,1,2,3,4,5,6,7,8],[8])])
def ebbtidelaw03_TagOrder.B6:List Nat:=[0,0,0,6,15,0,0,96,255,511]
theorem ebbtidelaw03_TagOrder.tab6:rtab .any (opsOf Tryd.f6 6)=ebbtidelaw03_TagOrder.T6:=by kernel_rfl
theorem ebbtidelaw03_TagOrder.bits6:waitsOk ebbtidelaw03_TagOrder.T6.2 ebbtidelaw03_TagOrder.B6=true:=by kernel_rfl
set_option maxHeartbeats 8000000 in
set_option maxRecDepth 100000 in
theorem ebbtidelaw03_TagOrder.calls (k:Nat) (A0:Option Addr) (c0:Nat) (l0:List (S52)) (a1:Int) (r:Bool) (w:World) (hr0:Kd.C k52 w A0 l0.length l0) (hc0:l0.length≤c0) (h:ebbtidelaw03_TagOrder.f k l0 a1=some r) :
  Calls Tryd.prog 6 #[.slice A0 l0.length c0, .int .u8 a1] w fun e w'=>e = .returned (.bool r)∧Below w.heap.size w w':=by
 have HR0:=Aside0.mk hr0
 have HC0:=Aside0.mk hc0
 clear hr0 hc0
 have HB:=Aside0.mk (Below.refl w.heap.size w)
 have H:((ebbtidelaw03_alive.f k).bind fun t379=>(if t379=true then ((ebbtideref03_Great.f k l0).bind fun t380=>(if t380=true then (ebbtidelaw03_TagOrder.j0 k l0 a1 true) else (ebbtidelaw03_TagOrder.j0 k l0 a1 ((l0.length:Int) ==0)))) else (none)))=some r:=h
 clear h
 replace H:=Option.bind_eq_some_iff.mp H
 obtain ⟨t379,A30,H⟩:=H
 replace H:(if t379=true then ((ebbtideref03_Great.f k l0).bind fun t380=>(if t380=true then (ebbtidelaw03_TagOrder.j0 k l0 a1 true) else (ebbtidelaw03_TagOrder.j0 k l0 a1 ((l0.length:Int) ==0)))) else (none))=some r:=H
 have A3:=Aside0.mk A30
 clear A30
 by_cases c4:t379=true
 ·subst c4
  have H1:((ebbtideref03_Great.f k l0).bind fun t380=>(if t380=true then (ebbtidelaw03_TagOrder.j0 k l0 a1 true) else (ebbtidelaw03_TagOrder.j0 k l0 a1 ((l0.length:Int) ==0))))=some r:=by rw [if_pos rfl] at H;exact H
  clear H
  have H:=H1
  clear H1
  have HC5:=Aside0.mk H
  clear H
  go_enter Tryd.func6,Tryd.ntmps6
  go_upto_region 3 with (first|((with_reducible refine gate_callee (f:=12) rfl ?_);refine goesL_ (some 11) rfl rfl Tryd.func12 (by kernel_rfl) rfl #[] rfl (by (try simp only [List.map_toArray,List.map_cons,List.map_nil]);first|done|rfl|(simp only [List.length_drop,List.length_take];rfl)) ?_;(with_reducible refine (ebbtidelaw03_alive.calls k  true _ A3.out).mono ?_);rintro e w6 ⟨rfl,hb⟩;refine ⟨_,rfl,?_⟩;have n0_:=Aside0.mk (below_step (by repeat (first|(with_reducible first|exact HB.out|apply below_alloc|apply pw_below_drewN|apply below_drew1)|exact HB.out)) hb);clear HB;have HB:=n0_;clear n0_;(try clear hb);(try clear hb2);(try clear hk);(try clear hi)))
  (try simp only [Act.put,List.setIfInBounds_toArray,List.set_cons_zero,List.set_cons_succ])
  go_cut [19] (fun v19 wc=>∃ (kq:Nat) (x19_4:Bool),v19 = .bool x19_4∧Aside0 (ebbtidelaw03_TagOrder.j0 kq l0 a1 x19_4=some r)∧Aside0 (kq≤k)∧Aside0 (Below w.heap.size w wc))
  case first =>
   have H:=HC5.out
   clear HC5
   replace H:=Option.bind_eq_some_iff.mp H
   obtain ⟨t380,A70,H⟩:=H
   replace H:(if t380=true then (ebbtidelaw03_TagOrder.j0 k l0 a1 true) else (ebbtidelaw03_TagOrder.j0 k l0 a1 ((l0.length:Int) ==0)))=some r:=H
   have A7:=Aside0.mk A70
   clear A70
   by_cases c8:t380=true
   ·subst c8
    have H1:(ebbtidelaw03_TagOrder.j0 k l0 a1 true)=some r:=by rw [if_pos rfl] at H;exact H
    clear H
    have H:=H1
    clear H1
    have H':=Aside0.mk H
    clear H
    go_wp2_with (first|((with_reducible refine gate_callee (f:=13) rfl ?_);refine goesL_ (some 14) rfl rfl Tryd.func13 (by kernel_rfl) rfl #[.slice A0 l0.length c0] rfl (by (try simp only [List.map_toArray,List.map_cons,List.map_nil]);first|done|rfl|(simp only [List.length_drop,List.length_take];rfl)) ?_;(with_reducible refine (ebbtideref03_Great.calls k _ _ l0 true _ ?side1 ?side2 A7.out).mono ?_);(case side1=>repeat (first|exact (Kd.C_below HR0.out HB.out)|(with_reducible refine Kd.C_alloc ?_ _)|(with_reducible refine Kd.C_drewN ?_ _)|(with_reducible refine Kd.C_drew ?_)));(case side2=>exact HC0.out);rintro e w' ⟨rfl,⟨nd,rfl⟩⟩;refine ⟨_,rfl,?_⟩))
    go_meet
    case rel=>exact ⟨_,(true),(by first|rfl|(simp;done)|(simp [*];done)),H',⟨by first|omega|exact Nat.le_refl _⟩,⟨by repeat (first|(with_reducible first|exact HB.out|apply below_alloc|apply pw_below_drewN|apply below_drew1)|exact HB.out)⟩⟩
   ·replace c8:=Bool.eq_false_iff.mpr c8
    subst c8
    have H1:(ebbtidelaw03_TagOrder.j0 k l0 a1 ((l0.length:Int) ==0))=some r:=by rw [if_neg (show ¬ (false=true) by decide)] at H;exact H
    clear H
    have H:=H1
    clear H1
    have H':=Aside0.mk H
    clear H
    go_wp2_with (first|((with_reducible refine gate_callee (f:=13) rfl ?_);refine goesL_ (some 14) rfl rfl Tryd.func13 (by kernel_rfl) rfl #[.slice A0 l0.length c0] rfl (by (try simp only [List.map_toArray,List.map_cons,List.map_nil]);first|done|rfl|(simp only [List.length_drop,List.length_take];rfl)) ?_;(with_reducible refine (ebbtideref03_Great.calls k _ _ l0 false _ ?side1 ?side2 A7.out).mono ?_);(case side1=>repeat (first|exact (Kd.C_below HR0.out HB.out)|(with_reducible refine Kd.C_alloc ?_ _)|(with_reducible refine Kd.C_drewN ?_ _)|(with_reducible refine Kd.C_drew ?_)));(case side2=>exact HC0.out);rintro e w' ⟨rfl,⟨nd,rfl⟩⟩;refine ⟨_,rfl,?_⟩))
    go_meet
    case rel=>exact ⟨_,(((l0.length:Int) ==0)),(by first|rfl|(simp;done)|(simp [*];done)),H',⟨by first|omega|exact Nat.le_refl _⟩,⟨by repeat (first|(with_reducible first|exact HB.out|apply below_alloc|apply pw_below_drewN|apply below_drew1)|exact HB.out)⟩⟩
  case rest =>
   clear HC5
   try clear c1
   try clear p2
   try clear c4
   try clear c6
   try clear c8
   obtain ⟨kq,x19_4,rfl,HA,HJ4,HB⟩:=hcut
   cases kq with
   | zero=>exact absurd HA.out (by simp [ebbtidelaw03_TagOrder.j0])
   | succ kj4 =>
    have H:=HA.out
    clear HA
    simp only [ebbtidelaw03_TagOrder.j0] at H
    by_cases c9:x19_4=true
    ·subst c9
     have H1:(some true)=some r:=by rw [if_pos rfl] at H;exact H
     clear H
     have H:=H1
     clear H1
     obtain rfl:=Option.some.inj H
     go_wp2
     go_ret
     exact ⟨by first|rfl|(simp [errW_none,errW_some]<;>rfl)|(simp [*,errW_none,errW_some]<;>rfl),by repeat (first|(with_reducible first|exact HB.out|apply below_alloc|apply pw_below_drewN|apply below_drew1)|exact HB.out)⟩
    ·replace c9:=Bool.eq_false_iff.mpr c9
     subst c9
     have H1:(if (l0.length:Int)=0 then (none) else ((some (([]:List (S52)):List (S52))).bind fun y381=>(if 0≤(Int.tmod (wrap64 (a1)) (l0.length:Int)) then (if (Int.tmod (wrap64 (a1)) (l0.length:Int))≤(l0.length:Int) then ((some (l0.drop ((Int.tmod (wrap64 (a1)) (l0.length:Int)):Int).toNat:List (S52))).bind fun y384=>(if y381.length+y384.length<4398046511104 then ((some (y381++y384:List (S52))).bind fun y388=>((some (l0.take ((Int.tmod (wrap64 (a1)) (l0.length:Int)):Int).toNat:List (S52))).bind fun y391=>(if y388.length+y391.length<4398046511104 then ((tag_Canon.f kj4 l0).bind fun bt398=>((tag_Canon.f kj4 (y388++y391)).bind fun bt402=>(if bt398.2=0 then (if bt402.2=0 then ((ebbtideref03_Same.f kj4 bt398.1 bt402.1).bind fun t406=>(if t406=true then (if (bt398.1.length:Int)=(l0.length:Int) then ((tag_Right.f kj4 bt398.1).bind fun t407=>(some t407)) else (none)) else (none))) else (none)) else (if bt402.2=bt398.2 then (some ((wrap64 ((bt398.1.length:Int)+(bt402.1.length:Int))) ==0)) else (none))))) else (none)))) else (none))) else (none)) else (none))))=some r:=by rw [if_neg (show ¬ (false=true) by decide)] at H;exact H
     clear H
     have H:=H1
     clear H1
     by_cases c10:(l0.length:Int)=0
     ·rw [if_pos c10] at H
      exact absurd H (by simp)
     ·rw [if_neg c10] at H
      have c10b0:((l0.length:Int) ==0)=false:=beq_eq_false_iff_ne.mpr c10
      have c10b1:((l0.length:Int) != 0)=true:=bne_iff_ne.mpr c10
      have c10b2:¬ (l0=[]):=fun h_=>c10 (by rw [h_];rfl)
      obtain ⟨y381,hy381⟩:∃ y_:List (S52),y_=(([]:List (S52))):=⟨_,rfl⟩
      replace H:(if 0≤(Int.tmod (wrap64 (a1)) (l0.length:Int)) then (if (Int.tmod (wrap64 (a1)) (l0.length:Int))≤(l0.length:Int) then ((some (l0.drop ((Int.tmod (wrap64 (a1)) (l0.length:Int)):Int).toNat:List (S52))).bind fun y384=>(if y381.length+y384.length<4398046511104 then ((some (y381++y384:List (S52))).bind fun y388=>((some (l0.take ((Int.tmod (wrap64 (a1)) (l0.length:Int)):Int).toNat:List (S52))).bind fun y391=>(if y388.length+y391.length<4398046511104 then ((tag_Canon.f kj4 l0).bind fun bt398=>((tag_Canon.f kj4 (y388++y391)).bind fun bt402=>(if bt398.2=0 then (if bt402.2=0 then ((ebbtideref03_Same.f kj4 bt398.1 bt402.1).bind fun t406=>(if t406=true then (if (bt398.1.length:Int)=(l0.length:Int) then ((tag_Right.f kj4 bt398.1).bind fun t407=>(some t407)) else (none)) else (none))) else (none)) else (if bt402.2=bt398.2 then (some ((wrap64 ((bt398.1.length:Int)+(bt402.1.length:Int))) ==0)) else (none))))) else (none)))) else (none))) else (none)) else (none))=some r:=by first|(rw [hy381];with_reducible exact H)|(have H2_:=(Option.bind_some _ _).symm.trans H;rw [hy381];with_reducible exact H2_)|(have H2_:=(Option.bind_some _ _).symm.trans H;with_reducible exact H2_)|with_reducible exact H|(rw [hy381];exact H)|exact H
      have Ny381:=Aside0.mk hy381
      clear hy381
      obtain ⟨ji11,hji11⟩:∃ j_:Int,(Int.tmod (wrap64 (a1)) (l0.length:Int))=j_:=⟨_,rfl⟩
      replace H:(if 0≤(ji11) then (if (ji11)≤(l0.length:Int) then ((some (l0.drop ((ji11):Int).toNat:List (S52))).bind fun y384=>(if y381.length+y384.length<4398046511104 then ((some (y381++y384:List (S52))).bind fun y388=>((some (l0.take ((ji11):Int).toNat:List (S52))).bind fun y391=>(if y388.length+y391.length<4398046511104 then ((tag_Canon.f kj4 l0).bind fun bt398=>((tag_Canon.f kj4 (y388++y391)).bind fun bt402=>(if bt398.2=0 then (if bt402.2=0 then ((ebbtideref03_Same.f kj4 bt398.1 bt402.1).bind fun t406=>(if t406=true then (if (bt398.1.length:Int)=(l0.length:Int) then ((tag_Right.f kj4 bt398.1).bind fun t407=>(some t407)) else (none)) else (none))) else (none)) else (if bt402.2=bt398.2 then (some ((wrap64 ((bt398.1.length:Int)+(bt402.1.length:Int))) ==0)) else (none))))) else (none)))) else (none))) else (none)) else (none))=some r:=by first|(rw [hji11] at H;exact H)|(simp only [hji11] at H ⊢;exact H)
      by_cases c12:0≤(ji11)
      ·rw [if_pos c12] at H
       have c12b0:=eq_true c12
       have c12b1:decide (0≤(ji11))=true:=decide_eq_true c12
       clear c12
       by_cases c13:(ji11)≤(l0.length:Int)
       ·rw [if_pos c13] at H
        have c13b0:=eq_true c13
        have c13b1:decide ((ji11)≤(l0.length:Int))=true:=decide_eq_true c13
        clear c13
        obtain ⟨y384,hy384⟩:∃ y_:List (S52),y_=(l0.drop ((ji11):Int).toNat):=⟨_,rfl⟩
        replace H:(if y381.length+y384.length<4398046511104 then ((some (y381++y384:List (S52))).bind fun y388=>((some (l0.take ((ji11):Int).toNat:List (S52))).bind fun y391=>(if y388.length+y391.length<4398046511104 then ((tag_Canon.f kj4 l0).bind fun bt398=>((tag_Canon.f kj4 (y388++y391)).bind fun bt402=>(if bt398.2=0 then (if bt402.2=0 then ((ebbtideref03_Same.f kj4 bt398.1 bt402.1).bind fun t406=>(if t406=true then (if (bt398.1.length:Int)=(l0.length:Int) then ((tag_Right.f kj4 bt398.1).bind fun t407=>(some t407)) else (none)) else (none))) else (none)) else (if bt402.2=bt398.2 then (some ((wrap64 ((bt398.1.length:Int)+(bt402.1.length:Int))) ==0)) else (none))))) else (none)))) else (none))=some r:=by first|(rw [hy384];with_reducible exact H)|(have H2_:=(Option.bind_some _ _).symm.trans H;rw [hy384];with_reducible exact H2_)|(have H2_:=(Option.bind_some _ _).symm.trans H;with_reducible exact H2_)|with_reducible exact H|(rw [hy384];exact H)|exact H
        have Ny384:=Aside0.mk hy384
        clear hy384
        by_cases c14:y381.length+y384.length<4398046511104
        ·rw [if_pos c14] at H
         have LMc14:=Aside0.mk c14
         clear c14
         obtain ⟨y388,hy388⟩:∃ y_:List (S52),y_=(y381++y384):=⟨_,rfl⟩
         replace H:((some (l0.take ((ji11):Int).toNat:List (S52))).bind fun y391=>(if y388.length+y391.length<4398046511104 then ((tag_Canon.f kj4 l0).bind fun bt398=>((tag_Canon.f kj4 (y388++y391)).bind fun bt402=>(if bt398.2=0 then (if bt402.2=0 then ((ebbtideref03_Same.f kj4 bt398.1 bt402.1).bind fun t406=>(if t406=true then (if (bt398.1.length:Int)=(l0.length:Int) then ((tag_Right.f kj4 bt398.1).bind fun t407=>(some t407)) else (none)) else (none))) else (none)) else (if bt402.2=bt398.2 then (some ((wrap64 ((bt398.1.length:Int)+(bt402.1.length:Int))) ==0)) else (none))))) else (none)))=some r:=by first|(rw [hy388];with_reducible exact H)|(have H2_:=(Option.bind_some _ _).symm.trans H;rw [hy388];with_reducible exact H2_)|(have H2_:=(Option.bind_some _ _).symm.trans H;with_reducible exact H2_)|with_reducible exact H|(rw [hy388];exact H)|exact H
         have Ny388:=Aside0.mk hy388
         clear hy388
         have c15b0:=eq_true (of_decide_eq_true (by first|(with_reducible assumption)|assumption):0≤(ji11))
         have c16b0:=eq_true (of_decide_eq_true (by first|(with_reducible assumption)|assumption):(ji11)≤(l0.length:Int))
         obtain ⟨y391,hy391⟩:∃ y_:List (S52),y_=(l0.take ((ji11):Int).toNat):=⟨_,rfl⟩
         replace H:(if y388.length+y391.length<4398046511104 then ((tag_Canon.f kj4 l0).bind fun bt398=>((tag_Canon.f kj4 (y388++y391)).bind fun bt402=>(if bt398.2=0 then (if bt402.2=0 then ((ebbtideref03_Same.f kj4 bt398.1 bt402.1).bind fun t406=>(if t406=true then (if (bt398.1.length:Int)=(l0.length:Int) then ((tag_Right.f kj4 bt398.1).bind fun t407=>(some t407)) else (none)) else (none))) else (none)) else (if bt402.2=bt398.2 then (some ((wrap64 ((bt398.1.length:Int)+(bt402.1.length:Int))) ==0)) else (none))))) else (none))=some r:=by first|(rw [hy391];with_reducible exact H)|(have H2_:=(Option.bind_some _ _).symm.trans H;rw [hy391];with_reducible exact H2_)|(have H2_:=(Option.bind_some _ _).symm.trans H;with_reducible exact H2_)|with_reducible exact H|(rw [hy391];exact H)|exact H
         have Ny391:=Aside0.mk hy391
         clear hy391
         by_cases c17:y388.length+y391.length<4398046511104
         ·rw [if_pos c17] at H
          have LMc17:=Aside0.mk c17
          clear c17
          obtain ⟨y395,hy395⟩:∃ y_:List (S52),y_=(y388++y391):=⟨_,rfl⟩
          replace H:((tag_Canon.f kj4 l0).bind fun bt398=>((tag_Canon.f kj4 y395).bind fun bt402=>(if bt398.2=0 then (if bt402.2=0 then ((ebbtideref03_Same.f kj4 bt398.1 bt402.1).bind fun t406=>(if t406=true then (if (bt398.1.length:Int)=(l0.length:Int) then ((tag_Right.f kj4 bt398.1).bind fun t407=>(some t407)) else (none)) else (none))) else (none)) else (if bt402.2=bt398.2 then (some ((wrap64 ((bt398.1.length:Int)+(bt402.1.length:Int))) ==0)) else (none)))))=some r:=by first|(rw [hy395];with_reducible exact H)|(have H2_:=(Option.bind_some _ _).symm.trans H;rw [hy395];with_reducible exact H2_)|(have H2_:=(Option.bind_some _ _).symm.trans H;with_reducible exact H2_)|with_reducible exact H|(rw [hy395];exact H)|exact H
          have Ny395:=Aside0.mk hy395
          clear hy395
          replace H:=Option.bind_eq_some_iff.mp H
          obtain ⟨⟨t398,t399⟩,A180,H⟩:=H
          replace H:((tag_Canon.f kj4 y395).bind fun bt402=>(if t399=0 then (if bt402.2=0 then ((ebbtideref03_Same.f kj4 t398 bt402.1).bind fun t406=>(if t406=true then (if (t398.length:Int)=(l0.length:Int) then ((tag_Right.f kj4 t398).bind fun t407=>(some t407)) else (none)) else (none))) else (none)) else (if bt402.2=t399 then (some ((wrap64 ((t398.length:Int)+(bt402.1.length:Int))) ==0)) else (none))))=some r:=H
          have A18:=Aside0.mk A180
          clear A180
          replace H:=Option.bind_eq_some_iff.mp H
          obtain ⟨⟨t402,t403⟩,A190,H⟩:=H
          replace H:(if t399=0 then (if t403=0 then ((ebbtideref03_Same.f kj4 t398 t402).bind fun t406=>(if t406=true then (if (t398.length:Int)=(l0.length:Int) then ((tag_Right.f kj4 t398).bind fun t407=>(some t407)) else (none)) else (none))) else (none)) else (if t403=t399 then (some ((wrap64 ((t398.length:Int)+(t402.length:Int))) ==0)) else (none)))=some r:=H
          have A19:=Aside0.mk A190
          clear A190
          by_cases c20:t399=0
          ·rw [if_pos c20] at H
           have c20b0:(t399 ==0)=true:=beq_iff_eq.mpr c20
           have c20b1:(t399 != 0)=false:=bne_eq_false_iff_eq.mpr c20
           clear c20
           by_cases c21:t403=0
           ·rw [if_pos c21] at H
            have c21b0:(t403 ==0)=true:=beq_iff_eq.mpr c21
            have c21b1:(t403 != 0)=false:=bne_eq_false_iff_eq.mpr c21
            clear c21
            replace H:=Option.bind_eq_some_iff.mp H
            obtain ⟨t406,A220,H⟩:=H
            replace H:(if t406=true then (if (t398.length:Int)=(l0.length:Int) then ((tag_Right.f kj4 t398).bind fun t407=>(some t407)) else (none)) else (none))=some r:=H
            have A22:=Aside0.mk A220
            clear A220
            by_cases c23:t406=true
            ·subst c23
             have H1:(if (t398.length:Int)=(l0.length:Int) then ((tag_Right.f kj4 t398).bind fun t407=>(some t407)) else (none))=some r:=by rw [if_pos rfl] at H;exact H
             clear H
             have H:=H1
             clear H1
             by_cases c24:(t398.length:Int)=(l0.length:Int)
             ·rw [if_pos c24] at H
              have c24b0:((t398.length:Int) ==(l0.length:Int))=true:=beq_iff_eq.mpr c24
              have c24b1:((t398.length:Int) != (l0.length:Int))=false:=bne_eq_false_iff_eq.mpr c24
              have c24b2:(t398.length ==l0.length)=true:=by first|simpa using c24|(simp at c24 ⊢;omega)
              clear c24
              replace H:=Option.bind_eq_some_iff.mp H
              obtain ⟨t407,A250,H⟩:=H
              replace H:(some t407)=some r:=H
              have A25:=Aside0.mk A250
              clear A250
              obtain rfl:=Option.some.inj H
              try go_wp2
              have n0_:=Aside0.mk (below_drew1 HB.out)
              clear HB
              have HB:=n0_
              clear n0_
              have q27:((ji11):Int)≤((l0.length:Int):Int):=of_decide_eq_true (by first|(with_reducible assumption)|assumption)
              obtain ⟨i027,hi027,_,hsz27,_⟩:=info_parts info52
              have hroom27:l0.length≤c0:=HC0.out
              have hC27:Kd.C k52 _ A0 l0.length l0:=HR0.out
              have q027:(0:Int)≤((ji11):Int):=of_decide_eq_true (by first|(with_reducible assumption)|assumption)
              have hcut27:=cut_from (P:=Tryd.prog) 22 52 .i64 Tryd.underlying22 hi027 2 hsz27 A0 l0.length c0 (ji11) q027 q27
              have hr27:=Kd.C_drop (m:=((ji11):Int).toNat) (c:=c0) hC27 (by omega) hroom27
              obtain ⟨A27,hA27⟩:∃ A1,A1=(if c0=((ji11):Int).toNat then A0 else (A0:Option Addr).map (·.add (((ji11):Int).toNat * 2))):=⟨_,rfl⟩
              obtain ⟨c27,hc27⟩:∃ c1,c1=c0 - ((ji11):Int).toNat:=⟨_,rfl⟩
              have hy27:y384.length=l0.length - ((ji11):Int).toNat:=(by rw [Ny384.out,List.length_drop]<;>omega)
              rw [show (l0).drop ((ji11):Int).toNat=y384 from Ny384.out.symm] at hr27
              replace hr27:Kd.C k52 _ A27 y384.length y384:=(by rw [hA27];exact hr27)
              rw [← hy27,← hA27,← hc27] at hcut27
              have HR387:=Aside0.mk hr27
              have HC387:=Aside0.mk (show y384.length≤c27 from by rw [hy27,hc27];exact Nat.sub_le_sub_right hroom27 _)
              clear hr27 hC27 hroom27 hi027 hsz27 hc27
              have KY27:=Aside0.mk hy27
              have KA27:=Aside0.mk hA27
              clear hy27 hA27
              replace q27:=eq_true q27
              have q28:((ji11):Int)≤((l0.length:Int):Int):=of_decide_eq_true (by first|(with_reducible assumption)|assumption)
              obtain ⟨i028,hi028,_,hsz28,_⟩:=info_parts info52
              have hroom28:l0.length≤c0:=HC0.out
              have hC28:Kd.C k52 _ A0 l0.length l0:=HR0.out
              have hcut28:=cut_to (P:=Tryd.prog) 22 52 .i64 Tryd.underlying22 hi028 A0 l0.length c0 (ji11) (of_decide_eq_true (by first|(with_reducible assumption)|assumption)) q28 hroom28
              have hr28:=Kd.C_take (m:=((ji11):Int).toNat) hC28 (by omega)
              have hy28:y391.length=((ji11):Int).toNat:=(by rw [Ny391.out,List.length_take];omega)
              rw [← Ny391.out] at hr28
              rw [← hy28] at hcut28
              have HR394:=Aside0.mk hr28
              have HC394:=Aside0.mk (show y391.length≤c0 from by omega)
              clear hr28 hC28 hroom28 hi028 hsz28
              have KY28:=Aside0.mk hy28
              clear hy28
              replace q28:=eq_true q28
              refine start_ (n:=10) (S:=fun w'=>True) (ds:=[]) #[false,false,false,false,false,false,false,false,false,false] (by kernel_rfl) rfl rfl trivial (fun hHeld=>?_);refine with_tabW ebbtidelaw03_TagOrder.tab6 ebbtidelaw03_TagOrder.bits6 (fun HT_ HW_=>?_)
              generalize wc.drew=w26 at HB HR387 HR394 hHeld ⊢
              refine pure_ (i:=1) (N:=some 26) (v:=?_) (a':=?_) #[false,true,false,false,false,false,false,false,false,false] rfl rfl (any_of HT_.out (by kernel_rfl)) (fun _ _ _ h=>h) (Or.inl ⟨by rfl,?_⟩) ?_ ?_
              rotate_left
              ·intro w';go_simp;with_reducible rfl
              rotate_left
              ·simp only [Act.put,List.setIfInBounds_toArray,List.set_cons_zero,List.set_cons_succ,i64_w,i32_w];rfl
              refine pure_ (i:=2) (N:=some 27) (v:=?_) (a':=?_) #[false,true,true,false,false,false,false,false,false,false] rfl rfl (any_of HT_.out (by kernel_rfl)) (fun _ _ _ h=>h) (Or.inl ⟨by rfl,?_⟩) ?_ ?_
              rotate_left
              ·intro w';go_simp;with_reducible rfl
              rotate_left
              ·simp only [Act.put,List.setIfInBounds_toArray,List.set_cons_zero,List.set_cons_succ,i64_w,i32_w];rfl
              refine pure_ (i:=3) (N:=some 28) (v:=?_) (a':=?_) #[false,true,true,true,false,false,false,false,false,false] rfl rfl (any_of HT_.out (by kernel_rfl)) (fun _ _ _ h=>h) (Or.inl ⟨by rfl,?_⟩) ?_ ?_
              rotate_left
              ·intro w';go_simp;with_reducible rfl
              rotate_left
              ·simp only [Act.put,List.setIfInBounds_toArray,List.set_cons_zero,List.set_cons_succ,i64_w,i32_w];rfl
              refine pure_ (i:=5) (N:=some 30) (v:=?_) (a':=?_) #[false,true,true,true,false,true,false,false,false,false] rfl rfl (any_of HT_.out (by kernel_rfl)) (fun _ _ _ h=>h) (Or.inl ⟨by rfl,?_⟩) ?_ ?_
              rotate_left
              ·intro w';go_simp;with_reducible rfl
              rotate_left
              ·simp only [Act.put,List.setIfInBounds_toArray,List.set_cons_zero,List.set_cons_succ,i64_w,i32_w];rfl
              refine pure_ (i:=6) (N:=some 31) (v:=?_) (a':=?_) #[false,true,true,true,false,true,true,false,false,false] rfl rfl (any_of HT_.out (by kernel_rfl)) (fun _ _ _ h=>h) (Or.inl ⟨by rfl,?_⟩) ?_ ?_
              rotate_left
              ·intro w';go_simp;with_reducible rfl
              rotate_left
              ·simp only [Act.put,List.setIfInBounds_toArray,List.set_cons_zero,List.set_cons_succ,i64_w,i32_w];rfl
              refine pure_ (i:=7) (N:=some 32) (v:=?_) (a':=?_) #[false,true,true,true,false,true,true,true,false,false] rfl rfl (any_of HT_.out (by kernel_rfl)) (fun _ _ _ h=>h) (Or.inl ⟨by rfl,?_⟩) ?_ ?_
              rotate_left
              ·intro w';go_simp;with_reducible rfl
              rotate_left
              ·simp only [Act.put,List.setIfInBounds_toArray,List.set_cons_zero,List.set_cons_succ,i64_w,i32_w];rfl
              refine one_ (i:=0) (N:=some 25) #[true,true,true,true,false,true,true,true,false,false] rfl rfl (one_of HT_.out (by kernel_rfl)) (by decide) (fun K hK=>?_)
              refine Kd.R_lit_step k52 _ 52 ?hg (N:=25) ?hd (xs:=([]:List (S52))) (inner:=[]) (ok:=fun _=>True) (okp:=fun _=>True) ?hr ?hp (fun _ hk=>hk) trivial (Below.refl _ _) (Nat.le_refl _) (by simp) ?_;(case hd=>rfl);(case hg=>rfl);(case hr=>first|(go_simp;done)|(go_simp;rfl));(case hp=>exact (Reps.none _ _))
              intro v382 w29 ho30 hb hg_ hnew_
              clear hg_ hnew_
              (first|rw [← Ny381.out] at ho30|(simp only [Int.reduceToNat] at ho30;rw [← Ny381.out] at ho30))
              have n0_:=Aside0.mk (Kd.R_lower ho30 (below_size (by repeat (first|(with_reducible first|exact HB.out|apply below_alloc|apply pw_below_drewN|apply below_drew1)|exact HB.out))))
              have n1_:=Aside0.mk (below_step (by repeat (first|(with_reducible first|exact HB.out|apply below_alloc|apply pw_below_drewN|apply below_drew1)|exact HB.out)) hb)
              clear HB
              have HO383:=n0_
              have HB:=n1_
              clear n0_ n1_
              clear hb ho30
              refine hK.out _ _ trivial (fun hHeld=>?_)
              clear hK K
              refine norm_ (a':=?_) ?_ ?_
              rotate_left
              ·show Act.put _ (some 25) _=_
               simp only [Act.put,List.setIfInBounds_toArray,List.set_cons_zero,List.set_cons_succ,i64_w,i32_w]
               rfl
              refine one_ (i:=4) (N:=some 29) #[true,true,true,true,true,true,true,true,false,false] rfl rfl (one_of HT_.out (by kernel_rfl)) (by decide) (fun K hK=>?_)
              refine Kd.R_append_rows_step k52 (w0:=w) w.heap.size (by rfl) (.tmp 25) (.tmp 28) 22 52 (.agg #[(.string ⟨#[]⟩),(.string ⟨#[]⟩)]) 32 rfl Tryd.underlying22 info52 rfl (by decide) (by omega) v382 y381 y384 _ _ _ (fun _=>True) (fun _=>False) rfl rfl ?aO ?aR (fun _ _ h=>h) (fun _ h=>h.elim) ?aF ?aB ?aS ?aL ?_
              (case aR=>repeat (first|exact (Kd.C_below HR387.out HB.out)|(with_reducible refine Kd.C_alloc ?_ _)|(with_reducible refine Kd.C_drewN ?_ _)|(with_reducible refine Kd.C_drew ?_)))
              (case aB=>exact (by repeat (first|(with_reducible first|exact HB.out|apply below_alloc|apply pw_below_drewN|apply below_drew1)|exact HB.out)))
              (case aF=>exact (fun _ _=>trivial))
              (case aO=>exact (by (with_reducible repeat (first|apply Kd.R_alloc|apply Kd.R_drewN|apply Kd.R_drew));exact HO383.out))
              (case aS=>exact (below_size (by repeat (first|(with_reducible first|exact HB.out|apply below_alloc|apply pw_below_drewN|apply below_drew1)|exact HB.out))))
              (case aL=>have:=LMc14.out;omega)
              intro v389 w31 ho hb hg hat
              rw [← Ny388.out] at ho
              have n0_:=Aside0.mk (hb)
              have n1_:=Aside0.mk (ho)
              clear HB
              clear HO383
              have HB:=n0_
              have HO390:=n1_
              clear n0_ n1_
              clear ho hb hg hat
              refine hK.out _ _ trivial (fun hHeld=>?_)
              clear hK K
              refine norm_ (a':=?_) ?_ ?_
              rotate_left
              ·show Act.put _ (some 29) _=_
               simp only [Act.put,List.setIfInBounds_toArray,List.set_cons_zero,List.set_cons_succ,i64_w,i32_w]
               rfl
              refine one_ (i:=8) (N:=some 33) #[true,true,true,true,true,true,true,true,true,false] rfl rfl (one_of HT_.out (by kernel_rfl)) (by decide) (fun K hK=>?_)
              refine Kd.R_append_rows_step k52 (w0:=w) w.heap.size (by rfl) (.tmp 29) (.tmp 32) 22 52 (.agg #[(.string ⟨#[]⟩),(.string ⟨#[]⟩)]) 32 rfl Tryd.underlying22 info52 rfl (by decide) (by omega) v389 y388 y391 _ _ _ (fun _=>True) (fun _=>False) rfl rfl ?aO ?aR (fun _ _ h=>h) (fun _ h=>h.elim) ?aF ?aB ?aS ?aL ?_
              (case aR=>repeat (first|exact (Kd.C_below HR394.out HB.out)|(with_reducible refine Kd.C_alloc ?_ _)|(with_reducible refine Kd.C_drewN ?_ _)|(with_reducible refine Kd.C_drew ?_)))
              (case aB=>exact (by repeat (first|(with_reducible first|exact HB.out|apply below_alloc|apply pw_below_drewN|apply below_drew1)|exact HB.out)))
              (case aF=>exact (fun _ _=>trivial))
              (case aO=>exact (by (with_reducible repeat (first|apply Kd.R_alloc|apply Kd.R_drewN|apply Kd.R_drew));exact HO390.out))
              (case aS=>exact (below_size (by repeat (first|(with_reducible first|exact HB.out|apply below_alloc|apply pw_below_drewN|apply below_drew1)|exact HB.out))))
              (case aL=>have:=LMc17.out;omega)
              intro v396 w32 ho hb hg hat
              rw [← Ny395.out] at ho
              have n0_:=Aside0.mk (hb)
              have n1_:=Aside0.mk (ho)
              clear HB
              clear HO390
              have HB:=n0_
              have HO397:=n1_
              clear n0_ n1_
              clear ho hb hg hat
              refine hK.out _ _ trivial (fun hHeld=>?_)
              clear hK K
              refine norm_ (a':=?_) ?_ ?_
              rotate_left
              ·show Act.put _ (some 33) _=_
               simp only [Act.put,List.setIfInBounds_toArray,List.set_cons_zero,List.set_cons_succ,i64_w,i32_w]
               rfl
              refine pure_ (i:=9) (N:=some 6) (v:=?_) (a':=?_) #[true,true,true,true,true,true,true,true,true,true] rfl rfl (any_of HT_.out (by kernel_rfl)) (fun _ _ _ h=>h) (Or.inl ⟨by rfl,?_⟩) ?_ ?_
              rotate_left
              ·intro w';go_simp;with_reducible rfl
              rotate_left
              ·simp only [Act.put,List.setIfInBounds_toArray,List.set_cons_zero,List.set_cons_succ,i64_w,i32_w];rfl
              refine done_ (done_of HT_.out (by kernel_rfl)) ?_
              try go_wp2_with (first|((with_reducible refine gate_callee (f:=14) rfl ?_);refine goesL_ (some 36) rfl rfl Tryd.func14 (by kernel_rfl) rfl #[.slice A0 l0.length c0] rfl (by (try simp only [List.map_toArray,List.map_cons,List.map_nil]);first|done|rfl|(simp only [List.length_drop,List.length_take];rfl)) ?_;(with_reducible refine (tag_Canon.calls kj4 _ _ l0 t398 t399 _ ?side1 ?side2 A18.out).mono ?_);(case side1=>repeat (first|exact (Kd.C_below HR0.out HB.out)|(with_reducible refine Kd.C_alloc ?_ _)|(with_reducible refine Kd.C_drewN ?_ _)|(with_reducible refine Kd.C_drew ?_)));(case side2=>exact HC0.out);rintro e w33 ⟨v400,rfl,ho0,hb⟩;refine ⟨_,rfl,?_⟩;have n0_:=Aside0.mk (Kd.R_elder' (by (with_reducible repeat (first|apply Kd.R_alloc|apply Kd.R_drewN|apply Kd.R_drew));exact HO397.out) (Kd.R_base ho0) hb);have n1_:=Aside0.mk (Kd.R_lower (Kd.R_new' ho0 (Kd.R_lt (by (with_reducible repeat (first|apply Kd.R_alloc|apply Kd.R_drewN|apply Kd.R_drew));exact HO397.out))) (below_size (by repeat (first|(with_reducible first|exact HB.out|apply below_alloc|apply pw_below_drewN|apply below_drew1)|exact HB.out))));have n2_:=Aside0.mk (below_step (by repeat (first|(with_reducible first|exact HB.out|apply below_alloc|apply pw_below_drewN|apply below_drew1)|exact HB.out)) hb);clear HO397;clear HB;have HO397:=n0_;have HO401:=n1_;have HB:=n2_;clear n0_ n1_ n2_;(try clear hb);(try clear hb2);(try clear hk);(try clear hi);(try clear ho0);obtain ⟨Ao34,co34,eo34⟩:=Kd.R_slice HO397.out;subst eo34)|((with_reducible refine gate_callee (f:=14) rfl ?_);refine goesL_ (some 41) rfl rfl Tryd.func14 (by kernel_rfl) rfl #[.slice Ao34 y395.length co34] rfl (by (try simp only [List.map_toArray,List.map_cons,List.map_nil]);first|done|rfl|(simp only [List.length_drop,List.length_take];rfl)) ?_;(with_reducible refine (tag_Canon.calls kj4 _ _ y395 t402 t403 _ ?side1 ?side2 A19.out).mono ?_);(case side1=>repeat (first|exact (Kd.R_reads' HO397.out).2.2|(with_reducible refine Kd.C_alloc ?_ _)|(with_reducible refine Kd.C_drewN ?_ _)|(with_reducible refine Kd.C_drew ?_)));(case side2=>exact (Kd.R_reads' HO397.out).2.1);rintro e w35 ⟨v404,rfl,ho0,hb⟩;refine ⟨_,rfl,?_⟩;have n0_:=Aside0.mk (Kd.R_elder' (by (with_reducible repeat (first|apply Kd.R_alloc|apply Kd.R_drewN|apply Kd.R_drew));exact HO397.out) (Kd.R_base ho0) hb);have n1_:=Aside0.mk (Kd.R_elder' (by (with_reducible repeat (first|apply Kd.R_alloc|apply Kd.R_drewN|apply Kd.R_drew));exact HO401.out) (Kd.R_base ho0) hb);have n2_:=Aside0.mk (Kd.R_lower (Kd.R_new' (Kd.R_new' ho0 (Kd.R_lt (by (with_reducible repeat (first|apply Kd.R_alloc|apply Kd.R_drewN|apply Kd.R_drew));exact HO397.out))) (Kd.R_lt (by (with_reducible repeat (first|apply Kd.R_alloc|apply Kd.R_drewN|apply Kd.R_drew));exact HO401.out))) (below_size (by repeat (first|(with_reducible first|exact HB.out|apply below_alloc|apply pw_below_drewN|apply below_drew1)|exact HB.out))));have n3_:=Aside0.mk (below_step (by repeat (first|(with_reducible first|exact HB.out|apply below_alloc|apply pw_below_drewN|apply below_drew1)|exact HB.out)) hb);clear HO397;clear HO401;clear HB;have HO397:=n0_;have HO401:=n1_;have HO405:=n2_;have HB:=n3_;clear n0_ n1_ n2_ n3_;(try clear hb);(try clear hb2);(try clear hk);(try clear hi);(try clear ho0);obtain ⟨Ao36,co36,eo36⟩:=Kd.R_slice HO401.out;subst eo36;obtain ⟨Ao37,co37,eo37⟩:=Kd.R_slice HO405.out;subst eo37)|(go_at_call 18;(with_reducible refine (ebbtideref03_Same.calls kj4 _ _ t398 _ _ t402 true _ ?side1 ?side2 ?side3 ?side4 A22.out).mono ?_);(case side1=>repeat (first|exact (Kd.R_reads' HO401.out).2.2|(with_reducible refine Kd.C_alloc ?_ _)|(with_reducible refine Kd.C_drewN ?_ _)|(with_reducible refine Kd.C_drew ?_)));(case side2=>exact (Kd.R_reads' HO401.out).2.1);(case side3=>repeat (first|exact (Kd.R_reads' HO405.out).2.2|(with_reducible refine Kd.C_alloc ?_ _)|(with_reducible refine Kd.C_drewN ?_ _)|(with_reducible refine Kd.C_drew ?_)));(case side4=>exact (Kd.R_reads' HO405.out).2.1);rintro e w' ⟨rfl,⟨nd,rfl⟩⟩)|(go_at_call 19;(with_reducible refine (tag_Right.calls kj4 _ _ t398 t407 _ ?side1 ?side2 A25.out).mono ?_);(case side1=>repeat (first|exact (Kd.R_reads' HO401.out).2.2|(with_reducible refine Kd.C_alloc ?_ _)|(with_reducible refine Kd.C_drewN ?_ _)|(with_reducible refine Kd.C_drew ?_)));(case side2=>exact (Kd.R_reads' HO401.out).2.1);rintro e w38 ⟨rfl,hb⟩;have n0_:=Aside0.mk (Kd.R_below (by (with_reducible repeat (first|apply Kd.R_alloc|apply Kd.R_drewN|apply Kd.R_drew));exact HO397.out) hb);have n1_:=Aside0.mk (Kd.R_below (by (with_reducible repeat (first|apply Kd.R_alloc|apply Kd.R_drewN|apply Kd.R_drew));exact HO401.out) hb);have n2_:=Aside0.mk (Kd.R_below (by (with_reducible repeat (first|apply Kd.R_alloc|apply Kd.R_drewN|apply Kd.R_drew));exact HO405.out) hb);have n3_:=Aside0.mk (below_step (by repeat (first|(with_reducible first|exact HB.out|apply below_alloc|apply pw_below_drewN|apply below_drew1)|exact HB.out)) hb);clear HO397;clear HO401;clear HO405;clear HB;have HO397:=n0_;have HO401:=n1_;have HO405:=n2_;have HB:=n3_;clear n0_ n1_ n2_ n3_;(try clear hb);(try clear hb2);(try clear hk);(try clear hi)))
              go_ret
              exact ⟨by first|rfl|(simp [errW_none,errW_some]<;>rfl)|(simp only [← hji11];first|rfl|(simp [errW_none,errW_some]<;>rfl))|(simp [*,errW_none,errW_some]<;>rfl),by repeat (first|(with_reducible first|exact HB.out|apply below_alloc|apply pw_below_drewN|apply below_drew1)|exact HB.out)⟩
             ·rw [if_neg c24] at H
              exact absurd H (by simp)
            ·replace c23:=Bool.eq_false_iff.mpr c23
             subst c23
             have H1:(none)=some r:=by rw [if_neg (show ¬ (false=true) by decide)] at H;exact H
             clear H
             have H:=H1
             clear H1
             exact absurd H (by simp)
           ·rw [if_neg c21] at H
            exact absurd H (by simp)
          ·rw [if_neg c20] at H
           have c20b0:(t399 ==0)=false:=beq_eq_false_iff_ne.mpr c20
           have c20b1:(t399 != 0)=true:=bne_iff_ne.mpr c20
           by_cases c39:t403=t399
           ·rw [if_pos c39] at H
            have c39b0:(t403 ==t399)=true:=beq_iff_eq.mpr c39
            have c39b1:(t403 != t399)=false:=bne_eq_false_iff_eq.mpr c39
            clear c39
            obtain rfl:=Option.some.inj H
            try go_wp2
            have n0_:=Aside0.mk (below_drew1 HB.out)
            clear HB
            have HB:=n0_
            clear n0_
            have q41:((ji11):Int)≤((l0.length:Int):Int):=of_decide_eq_true (by first|(with_reducible assumption)|assumption)
            obtain ⟨i041,hi041,_,hsz41,_⟩:=info_parts info52
            have hroom41:l0.length≤c0:=HC0.out
            have hC41:Kd.C k52 _ A0 l0.length l0:=HR0.out
            have q041:(0:Int)≤((ji11):Int):=of_decide_eq_true (by first|(with_reducible assumption)|assumption)
            have hcut41:=cut_from (P:=Tryd.prog) 22 52 .i64 Tryd.underlying22 hi041 2 hsz41 A0 l0.length c0 (ji11) q041 q41
            have hr41:=Kd.C_drop (m:=((ji11):Int).toNat) (c:=c0) hC41 (by omega) hroom41
            obtain ⟨A41,hA41⟩:∃ A1,A1=(if c0=((ji11):Int).toNat then A0 else (A0:Option Addr).map (·.add (((ji11):Int).toNat * 2))):=⟨_,rfl⟩
            obtain ⟨c41,hc41⟩:∃ c1,c1=c0 - ((ji11):Int).toNat:=⟨_,rfl⟩
            have hy41:y384.length=l0.length - ((ji11):Int).toNat:=(by rw [Ny384.out,List.length_drop]<;>omega)
            rw [show (l0).drop ((ji11):Int).toNat=y384 from Ny384.out.symm] at hr41
            replace hr41:Kd.C k52 _ A41 y384.length y384:=(by rw [hA41];exact hr41)
            rw [← hy41,← hA41,← hc41] at hcut41
            have HR387:=Aside0.mk hr41
            have HC387:=Aside0.mk (show y384.length≤c41 from by rw [hy41,hc41];exact Nat.sub_le_sub_right hroom41 _)
            clear hr41 hC41 hroom41 hi041 hsz41 hc41
            have KY41:=Aside0.mk hy41
            have KA41:=Aside0.mk hA41
            clear hy41 hA41
            replace q41:=eq_true q41
            have q42:((ji11):Int)≤((l0.length:Int):Int):=of_decide_eq_true (by first|(with_reducible assumption)|assumption)
            obtain ⟨i042,hi042,_,hsz42,_⟩:=info_parts info52
            have hroom42:l0.length≤c0:=HC0.out
            have hC42:Kd.C k52 _ A0 l0.length l0:=HR0.out
            have hcut42:=cut_to (P:=Tryd.prog) 22 52 .i64 Tryd.underlying22 hi042 A0 l0.length c0 (ji11) (of_decide_eq_true (by first|(with_reducible assumption)|assumption)) q42 hroom42
            have hr42:=Kd.C_take (m:=((ji11):Int).toNat) hC42 (by omega)
            have hy42:y391.length=((ji11):Int).toNat:=(by rw [Ny391.out,List.length_take];omega)
            rw [← Ny391.out] at hr42
            rw [← hy42] at hcut42
            have HR394:=Aside0.mk hr42
            have HC394:=Aside0.mk (show y391.length≤c0 from by omega)
            clear hr42 hC42 hroom42 hi042 hsz42
            have KY42:=Aside0.mk hy42
            clear hy42
            replace q42:=eq_true q42
            refine start_ (n:=10) (S:=fun w'=>True) (ds:=[]) #[false,false,false,false,false,false,false,false,false,false] (by kernel_rfl) rfl rfl trivial (fun hHeld=>?_);refine with_tabW ebbtidelaw03_TagOrder.tab6 ebbtidelaw03_TagOrder.bits6 (fun HT_ HW_=>?_)
            generalize wc.drew=w40 at HB HR387 HR394 hHeld ⊢
            refine pure_ (i:=1) (N:=some 26) (v:=?_) (a':=?_) #[false,true,false,false,false,false,false,false,false,false] rfl rfl (any_of HT_.out (by kernel_rfl)) (fun _ _ _ h=>h) (Or.inl ⟨by rfl,?_⟩) ?_ ?_
            rotate_left
            ·intro w';go_simp;with_reducible rfl
            rotate_left
            ·simp only [Act.put,List.setIfInBounds_toArray,List.set_cons_zero,List.set_cons_succ,i64_w,i32_w];rfl
            refine pure_ (i:=2) (N:=some 27) (v:=?_) (a':=?_) #[false,true,true,false,false,false,false,false,false,false] rfl rfl (any_of HT_.out (by kernel_rfl)) (fun _ _ _ h=>h) (Or.inl ⟨by rfl,?_⟩) ?_ ?_
            rotate_left
            ·intro w';go_simp;with_reducible rfl
            rotate_left
            ·simp only [Act.put,List.setIfInBounds_toArray,List.set_cons_zero,List.set_cons_succ,i64_w,i32_w];rfl
            refine pure_ (i:=3) (N:=some 28) (v:=?_) (a':=?_) #[false,true,true,true,false,false,false,false,false,false] rfl rfl (any_of HT_.out (by kernel_rfl)) (fun _ _ _ h=>h) (Or.inl ⟨by rfl,?_⟩) ?_ ?_
            rotate_left
            ·intro w';go_simp;with_reducible rfl
            rotate_left
            ·simp only [Act.put,List.setIfInBounds_toArray,List.set_cons_zero,List.set_cons_succ,i64_w,i32_w];rfl
            refine pure_ (i:=5) (N:=some 30) (v:=?_) (a':=?_) #[false,true,true,true,false,true,false,false,false,false] rfl rfl (any_of HT_.out (by kernel_rfl)) (fun _ _ _ h=>h) (Or.inl ⟨by rfl,?_⟩) ?_ ?_
            rotate_left
            ·intro w';go_simp;with_reducible rfl
            rotate_left
            ·simp only [Act.put,List.setIfInBounds_toArray,List.set_cons_zero,List.set_cons_succ,i64_w,i32_w];rfl
            refine pure_ (i:=6) (N:=some 31) (v:=?_) (a':=?_) #[false,true,true,true,false,true,true,false,false,false] rfl rfl (any_of HT_.out (by kernel_rfl)) (fun _ _ _ h=>h) (Or.inl ⟨by rfl,?_⟩) ?_ ?_
            rotate_left
            ·intro w';go_simp;with_reducible rfl
            rotate_left
            ·simp only [Act.put,List.setIfInBounds_toArray,List.set_cons_zero,List.set_cons_succ,i64_w,i32_w];rfl
            refine pure_ (i:=7) (N:=some 32) (v:=?_) (a':=?_) #[false,true,true,true,false,true,true,true,false,false] rfl rfl (any_of HT_.out (by kernel_rfl)) (fun _ _ _ h=>h) (Or.inl ⟨by rfl,?_⟩) ?_ ?_
            rotate_left
            ·intro w';go_simp;with_reducible rfl
            rotate_left
            ·simp only [Act.put,List.setIfInBounds_toArray,List.set_cons_zero,List.set_cons_succ,i64_w,i32_w];rfl
            refine one_ (i:=0) (N:=some 25) #[true,true,true,true,false,true,true,true,false,false] rfl rfl (one_of HT_.out (by kernel_rfl)) (by decide) (fun K hK=>?_)
            refine Kd.R_lit_step k52 _ 52 ?hg (N:=25) ?hd (xs:=([]:List (S52))) (inner:=[]) (ok:=fun _=>True) (okp:=fun _=>True) ?hr ?hp (fun _ hk=>hk) trivial (Below.refl _ _) (Nat.le_refl _) (by simp) ?_;(case hd=>rfl);(case hg=>rfl);(case hr=>first|(go_simp;done)|(go_simp;rfl));(case hp=>exact (Reps.none _ _))
            intro v382 w43 ho44 hb hg_ hnew_
            clear hg_ hnew_
            (first|rw [← Ny381.out] at ho44|(simp only [Int.reduceToNat] at ho44;rw [← Ny381.out] at ho44))
            have n0_:=Aside0.mk (Kd.R_lower ho44 (below_size (by repeat (first|(with_reducible first|exact HB.out|apply below_alloc|apply pw_below_drewN|apply below_drew1)|exact HB.out))))
            have n1_:=Aside0.mk (below_step (by repeat (first|(with_reducible first|exact HB.out|apply below_alloc|apply pw_below_drewN|apply below_drew1)|exact HB.out)) hb)
            clear HB
            have HO383:=n0_
            have HB:=n1_
            clear n0_ n1_
            clear hb ho44
            refine hK.out _ _ trivial (fun hHeld=>?_)
            clear hK K
            refine norm_ (a':=?_) ?_ ?_
            rotate_left
            ·show Act.put _ (some 25) _=_
             simp only [Act.put,List.setIfInBounds_toArray,List.set_cons_zero,List.set_cons_succ,i64_w,i32_w]
             rfl
            refine one_ (i:=4) (N:=some 29) #[true,true,true,true,true,true,true,true,false,false] rfl rfl (one_of HT_.out (by kernel_rfl)) (by decide) (fun K hK=>?_)
            refine Kd.R_append_rows_step k52 (w0:=w) w.heap.size (by rfl) (.tmp 25) (.tmp 28) 22 52 (.agg #[(.string ⟨#[]⟩),(.string ⟨#[]⟩)]) 32 rfl Tryd.underlying22 info52 rfl (by decide) (by omega) v382 y381 y384 _ _ _ (fun _=>True) (fun _=>False) rfl rfl ?aO ?aR (fun _ _ h=>h) (fun _ h=>h.elim) ?aF ?aB ?aS ?aL ?_
            (case aR=>repeat (first|exact (Kd.C_below HR387.out HB.out)|(with_reducible refine Kd.C_alloc ?_ _)|(with_reducible refine Kd.C_drewN ?_ _)|(with_reducible refine Kd.C_drew ?_)))
            (case aB=>exact (by repeat (first|(with_reducible first|exact HB.out|apply below_alloc|apply pw_below_drewN|apply below_drew1)|exact HB.out)))
            (case aF=>exact (fun _ _=>trivial))
            (case aO=>exact (by (with_reducible repeat (first|apply Kd.R_alloc|apply Kd.R_drewN|apply Kd.R_drew));exact HO383.out))
            (case aS=>exact (below_size (by repeat (first|(with_reducible first|exact HB.out|apply below_alloc|apply pw_below_drewN|apply below_drew1)|exact HB.out))))
            (case aL=>have:=LMc14.out;omega)
            intro v389 w45 ho hb hg hat
            rw [← Ny388.out] at ho
            have n0_:=Aside0.mk (hb)
            have n1_:=Aside0.mk (ho)
            clear HB
            clear HO383
            have HB:=n0_
            have HO390:=n1_
            clear n0_ n1_
            clear ho hb hg hat
            refine hK.out _ _ trivial (fun hHeld=>?_)
            clear hK K
            refine norm_ (a':=?_) ?_ ?_
            rotate_left
            ·show Act.put _ (some 29) _=_
             simp only [Act.put,List.setIfInBounds_toArray,List.set_cons_zero,List.set_cons_succ,i64_w,i32_w]
             rfl
            refine one_ (i:=8) (N:=some 33) #[true,true,true,true,true,true,true,true,true,false] rfl rfl (one_of HT_.out (by kernel_rfl)) (by decide) (fun K hK=>?_)
            refine Kd.R_append_rows_step k52 (w0:=w) w.heap.size (by rfl) (.tmp 29) (.tmp 32) 22 52 (.agg #[(.string ⟨#[]⟩),(.string ⟨#[]⟩)]) 32 rfl Tryd.underlying22 info52 rfl (by decide) (by omega) v389 y388 y391 _ _ _ (fun _=>True) (fun _=>False) rfl rfl ?aO ?aR (fun _ _ h=>h) (fun _ h=>h.elim) ?aF ?aB ?aS ?aL ?_
            (case aR=>repeat (first|exact (Kd.C_below HR394.out HB.out)|(with_reducible refine Kd.C_alloc ?_ _)|(with_reducible refine Kd.C_drewN ?_ _)|(with_reducible refine Kd.C_drew ?_)))
            (case aB=>exact (by repeat (first|(with_reducible first|exact HB.out|apply below_alloc|apply pw_below_drewN|apply below_drew1)|exact HB.out)))
            (case aF=>exact (fun _ _=>trivial))
            (case aO=>exact (by (with_reducible repeat (first|apply Kd.R_alloc|apply Kd.R_drewN|apply Kd.R_drew));exact HO390.out))
            (case aS=>exact (below_size (by repeat (first|(with_reducible first|exact HB.out|apply below_alloc|apply pw_below_drewN|apply below_drew1)|exact HB.out))))
            (case aL=>have:=LMc17.out;omega)
            intro v396 w46 ho hb hg hat
            rw [← Ny395.out] at ho
            have n0_:=Aside0.mk (hb)
            have n1_:=Aside0.mk (ho)
            clear HB
            clear HO390
            have HB:=n0_
            have HO397:=n1_
            clear n0_ n1_
            clear ho hb hg hat
            refine hK.out _ _ trivial (fun hHeld=>?_)
            clear hK K
            refine norm_ (a':=?_) ?_ ?_
            rotate_left
            ·show Act.put _ (some 33) _=_
             simp only [Act.put,List.setIfInBounds_toArray,List.set_cons_zero,List.set_cons_succ,i64_w,i32_w]
             rfl
            refine pure_ (i:=9) (N:=some 6) (v:=?_) (a':=?_) #[true,true,true,true,true,true,true,true,true,true] rfl rfl (any_of HT_.out (by kernel_rfl)) (fun _ _ _ h=>h) (Or.inl ⟨by rfl,?_⟩) ?_ ?_
            rotate_left
            ·intro w';go_simp;with_reducible rfl
            rotate_left
            ·simp only [Act.put,List.setIfInBounds_toArray,List.set_cons_zero,List.set_cons_succ,i64_w,i32_w];rfl
            refine done_ (done_of HT_.out (by kernel_rfl)) ?_
            try go_wp2_with (first|((with_reducible refine gate_callee (f:=14) rfl ?_);refine goesL_ (some 36) rfl rfl Tryd.func14 (by kernel_rfl) rfl #[.slice A0 l0.length c0] rfl (by (try simp only [List.map_toArray,List.map_cons,List.map_nil]);first|done|rfl|(simp only [List.length_drop,List.length_take];rfl)) ?_;(with_reducible refine (tag_Canon.calls kj4 _ _ l0 t398 t399 _ ?side1 ?side2 A18.out).mono ?_);(case side1=>repeat (first|exact (Kd.C_below HR0.out HB.out)|(with_reducible refine Kd.C_alloc ?_ _)|(with_reducible refine Kd.C_drewN ?_ _)|(with_reducible refine Kd.C_drew ?_)));(case side2=>exact HC0.out);rintro e w47 ⟨v400,rfl,ho0,hb⟩;refine ⟨_,rfl,?_⟩;have n0_:=Aside0.mk (Kd.R_elder' (by (with_reducible repeat (first|apply Kd.R_alloc|apply Kd.R_drewN|apply Kd.R_drew));exact HO397.out) (Kd.R_base ho0) hb);have n1_:=Aside0.mk (Kd.R_lower (Kd.R_new' ho0 (Kd.R_lt (by (with_reducible repeat (first|apply Kd.R_alloc|apply Kd.R_drewN|apply Kd.R_drew));exact HO397.out))) (below_size (by repeat (first|(with_reducible first|exact HB.out|apply below_alloc|apply pw_below_drewN|apply below_drew1)|exact HB.out))));have n2_:=Aside0.mk (below_step (by repeat (first|(with_reducible first|exact HB.out|apply below_alloc|apply pw_below_drewN|apply below_drew1)|exact HB.out)) hb);clear HO397;clear HB;have HO397:=n0_;have HO401:=n1_;have HB:=n2_;clear n0_ n1_ n2_;(try clear hb);(try clear hb2);(try clear hk);(try clear hi);(try clear ho0);obtain ⟨Ao48,co48,eo48⟩:=Kd.R_slice HO397.out;subst eo48)|((with_reducible refine gate_callee (f:=14) rfl ?_);refine goesL_ (some 41) rfl rfl Tryd.func14 (by kernel_rfl) rfl #[.slice Ao48 y395.length co48] rfl (by (try simp only [List.map_toArray,List.map_cons,List.map_nil]);first|done|rfl|(simp only [List.length_drop,List.length_take];rfl)) ?_;(with_reducible refine (tag_Canon.calls kj4 _ _ y395 t402 t403 _ ?side1 ?side2 A19.out).mono ?_);(case side1=>repeat (first|exact (Kd.R_reads' HO397.out).2.2|(with_reducible refine Kd.C_alloc ?_ _)|(with_reducible refine Kd.C_drewN ?_ _)|(with_reducible refine Kd.C_drew ?_)));(case side2=>exact (Kd.R_reads' HO397.out).2.1);rintro e w49 ⟨v404,rfl,ho0,hb⟩;refine ⟨_,rfl,?_⟩;have n0_:=Aside0.mk (Kd.R_elder' (by (with_reducible repeat (first|apply Kd.R_alloc|apply Kd.R_drewN|apply Kd.R_drew));exact HO397.out) (Kd.R_base ho0) hb);have n1_:=Aside0.mk (Kd.R_elder' (by (with_reducible repeat (first|apply Kd.R_alloc|apply Kd.R_drewN|apply Kd.R_drew));exact HO401.out) (Kd.R_base ho0) hb);have n2_:=Aside0.mk (Kd.R_lower (Kd.R_new' (Kd.R_new' ho0 (Kd.R_lt (by (with_reducible repeat (first|apply Kd.R_alloc|apply Kd.R_drewN|apply Kd.R_drew));exact HO397.out))) (Kd.R_lt (by (with_reducible repeat (first|apply Kd.R_alloc|apply Kd.R_drewN|apply Kd.R_drew));exact HO401.out))) (below_size (by repeat (first|(with_reducible first|exact HB.out|apply below_alloc|apply pw_below_drewN|apply below_drew1)|exact HB.out))));have n3_:=Aside0.mk (below_step (by repeat (first|(with_reducible first|exact HB.out|apply below_alloc|apply pw_below_drewN|apply below_drew1)|exact HB.out)) hb);clear HO397;clear HO401;clear HB;have HO397:=n0_;have HO401:=n1_;have HO405:=n2_;have HB:=n3_;clear n0_ n1_ n2_ n3_;(try clear hb);(try clear hb2);(try clear hk);(try clear hi);(try clear ho0);obtain ⟨Ao50,co50,eo50⟩:=Kd.R_slice HO401.out;subst eo50;obtain ⟨Ao51,co51,eo51⟩:=Kd.R_slice HO405.out;subst eo51))
            go_ret
            exact ⟨by first|rfl|(simp [errW_none,errW_some]<;>rfl)|(simp only [← hji11];first|rfl|(simp [errW_none,errW_some]<;>rfl))|(simp [*,errW_none,errW_some]<;>rfl),by repeat (first|(with_reducible first|exact HB.out|apply below_alloc|apply pw_below_drewN|apply below_drew1)|exact HB.out)⟩
           ·rw [if_neg c39] at H
            exact absurd H (by simp)
         ·rw [if_neg c17] at H
          exact absurd H (by simp)
        ·rw [if_neg c14] at H
         exact absurd H (by simp)
       ·rw [if_neg c13] at H
        exact absurd H (by simp)
      ·rw [if_neg c12] at H
       exact absurd H (by simp)
 ·replace c4:=Bool.eq_false_iff.mpr c4
  subst c4
  have H1:(none)=some r:=by rw [if_neg (show ¬ (false=true) by decide)] at H;exact H
  clear H
  have H:=H1
  clear H1
  exact absurd H (by simp)
def stringslite_HasSuffix.f (a0:ByteArray) (a1:ByteArray):Option (Bool):=if (a0.size:Int)≥(a1.size:Int) then (if 0≤(wrap64 ((a0.size:Int) - (a1.size:Int))) then (if (wrap64 ((a0.size:Int) - (a1.size:Int)))≤(a0.size:Int) then (some ((a0.extract ((wrap64 ((a0.size:Int) - (a1.size:Int))):Int).toNat a0.size).toList ==a1.toList)) else (none)) else (none)) else (some false)
set_option maxHeartbeats 8000000 in
set_option maxRecDepth 100000 in
theorem stringslite_HasSuffix.calls (a0:ByteArray) (a1:ByteArray) (r:Bool) (w:World) (h:stringslite_HasSuffix.f a0 a1=some r) :
  Calls Tryd.prog 88 #[.string a0, .string a1] w fun e w'=>e = .returned (.bool r)∧Drawn0 w w':=by
 have H:(if (a0.size:Int)≥(a1.size:Int) then (if 0≤(wrap64 ((a0.size:Int) - (a1.size:Int))) then (if (wrap64 ((a0.size:Int) - (a1.size:Int)))≤(a0.size:Int) then (some ((a0.extract ((wrap64 ((a0.size:Int) - (a1.size:Int))):Int).toNat a0.size).toList ==a1.toList)) else (none)) else (none)) else (some false))=some r:=h
 clear h
 by_cases c3:(a0.size:Int)≥(a1.size:Int)
 ·rw [if_pos c3] at H
  have c3b0:decide ((a1.size:Int)≤(a0.size:Int))=true:=decide_eq_true c3
  have c3b1:decide (a1.size≤a0.size)=true:=decide_eq_true (Int.ofNat_le.mp c3)
  clear c3
  obtain ⟨ji4,hji4⟩:∃ j_:Int,(wrap64 ((a0.size:Int) - (a1.size:Int)))=j_:=⟨_,rfl⟩
  replace H:(if 0≤(ji4) then (if (ji4)≤(a0.size:Int) then (some ((a0.extract ((ji4):Int).toNat a0.size).toList ==a1.toList)) else (none)) else (none))=some r:=by first|(rw [hji4] at H;exact H)|(simp only [hji4] at H ⊢;exact H)
  have hji4w:(IntKind.i64.wrap ((a0.size:Int) - (a1.size:Int)))=ji4:=(i64_w _).trans hji4
  by_cases c5:0≤(ji4)
  ·rw [if_pos c5] at H
   have c5b0:=eq_true c5
   have c5b1:decide (0≤(ji4))=true:=decide_eq_true c5
   clear c5
   by_cases c6:(ji4)≤(a0.size:Int)
   ·rw [if_pos c6] at H
    have c6b0:=eq_true c6
    have c6b1:decide ((ji4)≤(a0.size:Int))=true:=decide_eq_true c6
    clear c6
    obtain rfl:=Option.some.inj H
    go_enter Tryd.func88,Tryd.ntmps88
    go_wp2
    go_ret
    exact ⟨by first|rfl|(simp;done)|(simp only [← hji4]<;>(first|rfl|simp))|(simp [*];done),by repeat (first|exact Drawn0.refl _|apply Drawn0.step)⟩
   ·rw [if_neg c6] at H
    exact absurd H (by simp)
  ·rw [if_neg c5] at H
   exact absurd H (by simp)
 ·rw [if_neg c3] at H
  have c3b0:decide ((a1.size:Int)≤(a0.size:Int))=false:=decide_eq_false c3
  have c3b1:decide (a1.size≤a0.size)=false:=decide_eq_false (fun h=>c3 (Int.ofNat_le.mpr h))
  clear c3
  obtain rfl:=Option.some.inj H
  go_enter Tryd.func88,Tryd.ntmps88
  go_wp2
  go_ret
  exact ⟨by first|rfl|(simp;done)|(simp [*];done),by repeat (first|exact Drawn0.refl _|apply Drawn0.step)⟩
def stringslite_CutSuffix.f (a0:ByteArray) (a1:ByteArray):Option (ByteArray×Bool):=(stringslite_HasSuffix.f a0 a1).bind fun t408=>(if t408=true then (if 0≤(wrap64 ((a0.size:Int) - (a1.size:Int))) then (if (wrap64 ((a0.size:Int) - (a1.size:Int)))≤(a0.size:Int) then (some (a0.extract 0 ((wrap64 ((a0.size:Int) - (a1.size:Int))):Int).toNat,true)) else (none)) else (none)) else (some (a0,false)))
set_option maxHeartbeats 8000000 in
set_option maxRecDepth 100000 in
theorem stringslite_CutSuffix.calls (a0:ByteArray) (a1:ByteArray) (r1:ByteArray) (r2:Bool) (w:World) (h:stringslite_CutSuffix.f a0 a1=some (r1,r2)) :
  Calls Tryd.prog 70 #[.string a0, .string a1] w fun e w'=>e = .returned (.tuple #[.string r1, .bool r2])∧Drawn0 w w':=by
 have H:((stringslite_HasSuffix.f a0 a1).bind fun t408=>(if t408=true then (if 0≤(wrap64 ((a0.size:Int) - (a1.size:Int))) then (if (wrap64 ((a0.size:Int) - (a1.size:Int)))≤(a0.size:Int) then (some (a0.extract 0 ((wrap64 ((a0.size:Int) - (a1.size:Int))):Int).toNat,true)) else (none)) else (none)) else (some (a0,false))))=some (r1,r2):=h
 clear h
 replace H:=Option.bind_eq_some_iff.mp H
 obtain ⟨t408,A30,H⟩:=H
 replace H:(if t408=true then (if 0≤(wrap64 ((a0.size:Int) - (a1.size:Int))) then (if (wrap64 ((a0.size:Int) - (a1.size:Int)))≤(a0.size:Int) then (some (a0.extract 0 ((wrap64 ((a0.size:Int) - (a1.size:Int))):Int).toNat,true)) else (none)) else (none)) else (some (a0,false)))=some (r1,r2):=H
 have A3:=Aside0.mk A30
 clear A30
 by_cases c4:t408=true
 ·subst c4
  have H1:(if 0≤(wrap64 ((a0.size:Int) - (a1.size:Int))) then (if (wrap64 ((a0.size:Int) - (a1.size:Int)))≤(a0.size:Int) then (some (a0.extract 0 ((wrap64 ((a0.size:Int) - (a1.size:Int))):Int).toNat,true)) else (none)) else (none))=some (r1,r2):=by rw [if_pos rfl] at H;exact H
  clear H
  have H:=H1
  clear H1
  obtain ⟨ji5,hji5⟩:∃ j_:Int,(wrap64 ((a0.size:Int) - (a1.size:Int)))=j_:=⟨_,rfl⟩
  replace H:(if 0≤(ji5) then (if (ji5)≤(a0.size:Int) then (some (a0.extract 0 ((ji5):Int).toNat,true)) else (none)) else (none))=some (r1,r2):=by first|(rw [hji5] at H;exact H)|(simp only [hji5] at H ⊢;exact H)
  (try rw [hji5] at A3)
  have hji5w:(IntKind.i64.wrap ((a0.size:Int) - (a1.size:Int)))=ji5:=(i64_w _).trans hji5
  by_cases c6:0≤(ji5)
  ·rw [if_pos c6] at H
   have c6b0:=eq_true c6
   have c6b1:decide (0≤(ji5))=true:=decide_eq_true c6
   clear c6
   by_cases c7:(ji5)≤(a0.size:Int)
   ·rw [if_pos c7] at H
    have c7b0:=eq_true c7
    have c7b1:decide ((ji5)≤(a0.size:Int))=true:=decide_eq_true c7
    clear c7
    simp only [Option.some.injEq,Prod.mk.injEq] at H
    obtain ⟨rfl,rfl⟩:=H
    go_enter Tryd.func70,Tryd.ntmps70
    go_wp2_with (first|((with_reducible refine gate_callee (f:=88) rfl ?_);refine goesL_ (some 8) rfl rfl Tryd.func88 (by kernel_rfl) rfl #[.string a0, .string a1] rfl (by (try simp only [List.map_toArray,List.map_cons,List.map_nil]);first|done|rfl|(simp only [List.length_drop,List.length_take];rfl)) ?_;(with_reducible refine (stringslite_HasSuffix.calls a0 a1 true _ A3.out).mono ?_);rintro e w' ⟨rfl,⟨nd,rfl⟩⟩;refine ⟨_,rfl,?_⟩))
    go_ret2
    exact ⟨by first|rfl|(simp;done)|(simp only [← hji5]<;>(first|rfl|simp))|(simp [*];done),by repeat (first|exact Drawn0.refl _|apply Drawn0.step)⟩
   ·rw [if_neg c7] at H
    exact absurd H (by simp)
  ·rw [if_neg c6] at H
   exact absurd H (by simp)
 ·replace c4:=Bool.eq_false_iff.mpr c4
  subst c4
  have H1:(some (a0,false))=some (r1,r2):=by rw [if_neg (show ¬ (false=true) by decide)] at H;exact H
  clear H
  have H:=H1
  clear H1
  simp only [Option.some.injEq,Prod.mk.injEq] at H
  obtain ⟨rfl,rfl⟩:=H
  go_enter Tryd.func70,Tryd.ntmps70
  go_wp2_with (first|((with_reducible refine gate_callee (f:=88) rfl ?_);refine goesL_ (some 8) rfl rfl Tryd.func88 (by kernel_rfl) rfl #[.string a0, .string a1] rfl (by (try simp only [List.map_toArray,List.map_cons,List.map_nil]);first|done|rfl|(simp only [List.length_drop,List.length_take];rfl)) ?_;(with_reducible refine (stringslite_HasSuffix.calls a0 a1 false _ A3.out).mono ?_);rintro e w' ⟨rfl,⟨nd,rfl⟩⟩;refine ⟨_,rfl,?_⟩))
  go_ret2
  exact ⟨by first|rfl|(simp;done)|(simp [*];done),by repeat (first|exact Drawn0.refl _|apply Drawn0.step)⟩
def strings_CutSuffix.f (a0:ByteArray) (a1:ByteArray):Option (ByteArray×Bool):=(stringslite_CutSuffix.f a0 a1).bind fun bt409=>(some (bt409.1,bt409.2))
set_option maxHeartbeats 8000000 in
set_option maxRecDepth 100000 in
theorem strings_CutSuffix.calls (a0:ByteArray) (a1:ByteArray) (r1:ByteArray) (r2:Bool) (w:World) (h:strings_CutSuffix.f a0 a1=some (r1,r2)) :
  Calls Tryd.prog 55 #[.string a0, .string a1] w fun e w'=>e = .returned (.tuple #[.string r1, .bool r2])∧Drawn0 w w':=by
 have H:((stringslite_CutSuffix.f a0 a1).bind fun bt409=>(some (bt409.1,bt409.2)))=some (r1,r2):=h
 clear h
 replace H:=Option.bind_eq_some_iff.mp H
 obtain ⟨⟨t409,t410⟩,A30,H⟩:=H
 replace H:(some (t409,t410))=some (r1,r2):=H
 have A3:=Aside0.mk A30
 clear A30
 simp only [Option.some.injEq,Prod.mk.injEq] at H
 obtain ⟨rfl,rfl⟩:=H
 go_enter Tryd.func55,Tryd.ntmps55
 go_wp2_with (first|((with_reducible refine gate_callee (f:=70) rfl ?_);refine goesL_ (some 8) rfl rfl Tryd.func70 (by kernel_rfl) rfl #[.string a0, .string a1] rfl (by (try simp only [List.map_toArray,List.map_cons,List.map_nil]);first|done|rfl|(simp only [List.length_drop,List.length_take];rfl)) ?_;(with_reducible refine (stringslite_CutSuffix.calls a0 a1 t409 t410 _ A3.out).mono ?_);rintro e w' ⟨rfl,⟨nd,rfl⟩⟩;refine ⟨_,rfl,?_⟩))
 go_ret2
 exact ⟨by first|rfl|(simp;done)|(simp [*];done),by repeat (first|exact Drawn0.refl _|apply Drawn0.step)⟩
end Go.Proofs.YtbefmicenjdfkaaDoor.PTk
