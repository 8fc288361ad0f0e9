import Derived.Test.YteaadaaghhojfaaGreatDoorZQbPQux0
import Derived.Test.YteaadaaghhojfaaGreatDoorZQbPQux6
namespace Go.Proofs.YteaadaaghhojfaaGreatDoor.PQu
open Go.RowKit Go.Proofs.YteaadaaghhojfaaGreatDoorW.PrintWords Go.Proofs.YteaadaaghhojfaaGreatDoorW.PrintLast Go.Proofs.YteaadaaghhojfaaGreatDoorW.PrintMore
attribute [local go_sem] max2_int min2_int max_two min_two max_three min_three max_four min_four
set_option linter.unusedVariables false
set_option linter.unusedSimpArgs false
set_option maxHeartbeats 8000000
set_option maxRecDepth 100000
mutual
def ebbtideref03_Canon.l0:Nat→List (S93)→Int→Option ((List (S93))×Int)
 | 0,_,_=>none
 | k+1,x0,x4=>if x4<(x0.length:Int) then (if 0≤x4 then ((ebbtideref03_may.f k ((rd_T93 x0 x4).f0) ((rd_T93 x0 x4).f1)).bind fun t172=>(if t172=true then (ebbtideref03_Canon.l0 k x0 (wrap64 (x4+1))) else (some (([]:List (S93)),2)))) else (none)) else (if (x0.length:Int)>4 then (some (([]:List (S93)),4)) else (ebbtideref03_Canon.l1 k x0 ([]:List (S93)) 0))
def ebbtideref03_Canon.l1:Nat→List (S93)→List (S93)→Int→Option ((List (S93))×Int)
 | 0,_,_,_=>none
 | k+1,x0,x5,x6=>if x6<(x0.length:Int) then (ebbtideref03_Canon.l2 k x0 x5 x6 0) else (some (x5,0))
def ebbtideref03_Canon.l2:Nat→List (S93)→List (S93)→Int→Int→Option ((List (S93))×Int)
 | 0,_,_,_,_=>none
 | k+1,x0,x5,x6,x7=>if x7<(x5.length:Int) then (if 0≤x7 then (if 0≤x6 then (if x6<(x0.length:Int) then (if (Op.bytesLess (((rd_T93 x5 x7).f0).toList) (((rd_T93 x0 x6).f0).toList))=true then (ebbtideref03_Canon.l2 k x0 x5 x6 (wrap64 (x7+1))) else (if ((rd_T93 x5 x7).f0).toList=((rd_T93 x0 x6).f0).toList then (some (([]:List (S93)),5)) else ((some (([]:List (S93)):List (S93))).bind fun y177=>(if x7≤(x5.length:Int) then ((some (x5.drop (x7:Int).toNat:List (S93))).bind fun y180=>(if y177.length+y180.length<4398046511104 then ((some (y177++y180:List (S93))).bind fun y184=>((some (x5.take (x7:Int).toNat:List (S93))).bind fun y187=>(if y187.length<4398046511104 then ((some (y187++[(⟨(rd_T93 x0 x6).f0,(rd_T93 x0 x6).f1⟩:S93)]:List (S93))).bind fun y191=>(if y191.length+y184.length<4398046511104 then (ebbtideref03_Canon.l1 k x0 (y191++y184) (wrap64 (x6+1))) else (none))) else (none)))) else (none))) else (none))))) else (none)) else (none)) else (none)) else ((some (([]:List (S93)):List (S93))).bind fun y197=>(if 0≤x7 then (if x7≤(x5.length:Int) then ((some (x5.drop (x7:Int).toNat:List (S93))).bind fun y200=>(if y197.length+y200.length<4398046511104 then ((some (y197++y200:List (S93))).bind fun y204=>((some (x5.take (x7:Int).toNat:List (S93))).bind fun y207=>(if 0≤x6 then (if x6<(x0.length:Int) then (if y207.length<4398046511104 then ((some (y207++[(⟨(rd_T93 x0 x6).f0,(rd_T93 x0 x6).f1⟩:S93)]:List (S93))).bind fun y211=>(if y211.length+y204.length<4398046511104 then (ebbtideref03_Canon.l1 k x0 (y211++y204) (wrap64 (x6+1))) else (none))) else (none)) else (none)) else (none)))) else (none))) else (none)) else (none)))
end
def ebbtideref03_Canon.f (k:Nat) (l0:List (S93)):Option ((List (S93))×Int):=ebbtideref03_Canon.l0 k l0 0
theorem ebbtideref03_Canon.mono_l:∀ k,(∀ y0 y1,LeO (ebbtideref03_Canon.l0 k y0 y1) (ebbtideref03_Canon.l0 (k+1) y0 y1))∧(∀ y0 y1 y2,LeO (ebbtideref03_Canon.l1 k y0 y1 y2) (ebbtideref03_Canon.l1 (k+1) y0 y1 y2))∧(∀ y0 y1 y2 y3,LeO (ebbtideref03_Canon.l2 k y0 y1 y2 y3) (ebbtideref03_Canon.l2 (k+1) y0 y1 y2 y3))
 | 0=>⟨fun _ _ r h=>by simp [ebbtideref03_Canon.l0] at h,fun _ _ _ r h=>by simp [ebbtideref03_Canon.l1] at h,fun _ _ _ _ r h=>by simp [ebbtideref03_Canon.l2] at h⟩
 | k+1=>by
  obtain ⟨ih0,ih1,ih2⟩:=ebbtideref03_Canon.mono_l k
  refine ⟨?_,?_,?_⟩
  ·intro y0 y1
   unfold ebbtideref03_Canon.l0
   repeat' first
   | (with_reducible exact ih0 _ _)
   | (with_reducible exact ih1 _ _ _)
   | (with_reducible exact ih2 _ _ _ _)
   | (with_reducible exact ebbtideref03_may.mono _ _ _)
   | (with_reducible exact LeO.refl _)
   | (with_reducible exact LeO.none _)
   | (with_reducible refine LeO.ite ?_ ?_)
   | (with_reducible refine LeO.bind ?_ (fun _=>?_))
   | exact ih0 _ _
   | exact ih1 _ _ _
   | exact ih2 _ _ _ _
   | exact ebbtideref03_may.mono _ _ _
   | exact LeO.none _
   | refine LeO.ite ?_ ?_
   | refine LeO.bind ?_ (fun _=>?_)
  ·intro y0 y1 y2
   unfold ebbtideref03_Canon.l1
   repeat' first
   | (with_reducible exact ih0 _ _)
   | (with_reducible exact ih1 _ _ _)
   | (with_reducible exact ih2 _ _ _ _)
   | (with_reducible exact ebbtideref03_may.mono _ _ _)
   | (with_reducible exact LeO.refl _)
   | (with_reducible exact LeO.none _)
   | (with_reducible refine LeO.ite ?_ ?_)
   | (with_reducible refine LeO.bind ?_ (fun _=>?_))
   | exact ih0 _ _
   | exact ih1 _ _ _
   | exact ih2 _ _ _ _
   | exact ebbtideref03_may.mono _ _ _
   | exact LeO.none _
   | refine LeO.ite ?_ ?_
   | refine LeO.bind ?_ (fun _=>?_)
  ·intro y0 y1 y2 y3
   unfold ebbtideref03_Canon.l2
   repeat' first
   | (with_reducible exact ih0 _ _)
   | (with_reducible exact ih1 _ _ _)
   | (with_reducible exact ih2 _ _ _ _)
   | (with_reducible exact ebbtideref03_may.mono _ _ _)
   | (with_reducible exact LeO.refl _)
   | (with_reducible exact LeO.none _)
   | (with_reducible refine LeO.ite ?_ ?_)
   | (with_reducible refine LeO.bind ?_ (fun _=>?_))
   | exact ih0 _ _
   | exact ih1 _ _ _
   | exact ih2 _ _ _ _
   | exact ebbtideref03_may.mono _ _ _
   | exact LeO.none _
   | refine LeO.ite ?_ ?_
   | refine LeO.bind ?_ (fun _=>?_)
theorem ebbtideref03_Canon.mono:∀ a0 k,LeO (ebbtideref03_Canon.f k a0) (ebbtideref03_Canon.f (k+1) a0):=by
 intro a0 k
 obtain ⟨ih0,ih1,ih2⟩:=ebbtideref03_Canon.mono_l k
 unfold ebbtideref03_Canon.f
 repeat' first
   | (with_reducible exact ih0 _ _)
   | (with_reducible exact ih1 _ _ _)
   | (with_reducible exact ih2 _ _ _ _)
   | (with_reducible exact ebbtideref03_may.mono _ _ _)
   | (with_reducible exact LeO.refl _)
   | (with_reducible exact LeO.none _)
   | (with_reducible refine LeO.ite ?_ ?_)
   | (with_reducible refine LeO.bind ?_ (fun _=>?_))
   | exact ih0 _ _
   | exact ih1 _ _ _
   | exact ih2 _ _ _ _
   | exact ebbtideref03_may.mono _ _ _
   | exact LeO.none _
   | refine LeO.ite ?_ ?_
   | refine LeO.bind ?_ (fun _=>?_)
def ebbtideref03_Canon.T13:Bool×List (List Nat×List Nat):=(true,[([],[]),([],[]),([1],[1]),([0,2],[0,2]),([3],[3]),([4],[4]),([4],[4]),([5,6,4],[4,5,6]),([7,4],[4,7]),([8,4],[4,8]),([4],[4]),([4],[4]),([10,11,4],[4,10,11]),([12,4],[4,12]),([13,4],[4,13]),([9,14,4],[4,9,14]),([4,15],[4,15])])
def ebbtideref03_Canon.B13:List Nat:=[0,0,2,7,15,31,31,127,255,511,31,31,3103,7199,15391,32767,65535]
theorem ebbtideref03_Canon.tab13:rtab .any (opsOf Tryz.f133 13)=ebbtideref03_Canon.T13:=qK
theorem ebbtideref03_Canon.bits13:waitsOk ebbtideref03_Canon.T13.2 ebbtideref03_Canon.B13=true:=qK
def ebbtideref03_Canon.T15:Bool×List (List Nat×List Nat):=(true,[([],[]),([],[]),([1],[1]),([0,2],[0,2]),([3],[3]),([4],[4]),([4],[4]),([5,6,4],[4,5,6]),([7,4],[4,7]),([8,4],[4,8]),([4],[4]),([4],[4]),([10,11,4],[4,10,11]),([12,4],[4,12]),([13,4],[4,13]),([9,14,4],[4,9,14]),([4,15],[4,15])])
def ebbtideref03_Canon.B15:List Nat:=[0,0,2,7,15,31,31,127,255,511,31,31,3103,7199,15391,32767,65535]
theorem ebbtideref03_Canon.tab15:rtab .any (opsOf Tryz.f133 15)=ebbtideref03_Canon.T15:=qK
theorem ebbtideref03_Canon.bits15:waitsOk ebbtideref03_Canon.T15.2 ebbtideref03_Canon.B15=true:=qK
def ebbtideref03_Canon.T18:Bool×List (List Nat×List Nat):=(true,[([],[]),([],[]),([0,1],[0,1]),([],[]),([],[]),([3,4],[3,4]),([5],[5]),([6],[6]),([2,7],[2,7]),([],[]),([8,9,8],[8,9]),([10,10,0,1,2,3,4,5,6,7,8,9,10],[0,10])])
def ebbtideref03_Canon.B18:List Nat:=[0,0,3,0,0,24,56,120,255,0,1023,2047]
theorem ebbtideref03_Canon.tab18:rtab .any (opsOf Tryz.f133 18)=ebbtideref03_Canon.T18:=qK
theorem ebbtideref03_Canon.bits18:waitsOk ebbtideref03_Canon.T18.2 ebbtideref03_Canon.B18=true:=qK
theorem ebbtideref03_Canon.calls (k:Nat) (A0:Option Addr) (c0:Nat) (l0:List (S93)) (r1:List (S93)) (r2:Int) (w:World) (hr0:Kd.C k93 w A0 l0.length l0) (hc0:l0.length≤c0) (h:ebbtideref03_Canon.f k l0=some (r1,r2)) :
  Calls Tryz.prog 133 #[.slice A0 l0.length c0] w fun e w'=>∃ v0_:Value,e = .returned (.tuple #[v0_, .int .i64 r2])∧Kd.R k93 93 w' w.heap.size (fun _=>True) v0_ r1∧Below w.heap.size w w':=by
 have hu93:=Tryz.underlying93
 have HR0:=Aside0.mk hr0
 have HC0:=Aside0.mk hc0
 clear hr0 hc0
 have HB:=Aside0.mk (Below.refl w.heap.size w)
 have H:(ebbtideref03_Canon.l0 k l0 0)=some (r1,r2):=h
 clear h
 have H':=Aside0.mk H
 clear H
 go_enter Tryz.func133,Tryz.ntmps133
 go_wp2
 go_loopg [4] k (fun kq v4 w'=>∃ (x4_1:Int),v4 = .int .i64 x4_1∧Aside0 (ebbtideref03_Canon.l0 kq l0 x4_1=some (r1,r2))∧Aside0 (kq≤k)∧Aside0 (Below w.heap.size w w'))
 case atStart=>exact ⟨(0),qS,H',⟨Nat.le_refl _⟩,⟨qB⟩⟩
 case round =>
  clear H'
  obtain ⟨x4_1,rfl,HA,HK1,HB⟩:=hrel
  cases gk with
  | zero=>exact absurd HA.out (by simp [ebbtideref03_Canon.l0])
  | succ k1 =>
   have H:=HA.out
   clear HA
   simp only [ebbtideref03_Canon.l0] at H
   by_cases c2:x4_1<(l0.length:Int)
   ·rw [if_pos c2] at H
    have c2b0:decide (x4_1<(l0.length:Int))=true:=decide_eq_true c2
    clear c2
    by_cases c3:0≤x4_1
    rotate_left
    ·rw [if_neg c3] at H
     exact absurd H (by simp)
    rw [if_pos c3] at H
    have c3b0:decide (0≤x4_1)=true:=decide_eq_true c3
    clear c3
    replace H:=Option.bind_eq_some_iff.mp H
    obtain ⟨t172,A40,H⟩:=H
    replace H:(if t172=true then (ebbtideref03_Canon.l0 k1 l0 (wrap64 (x4_1+1))) else (some (([]:List (S93)),2)))=some (r1,r2):=H
    have A4:=Aside0.mk A40
    clear A40
    by_cases c5:t172=true
    ·subst c5
     have H1:(ebbtideref03_Canon.l0 k1 l0 (wrap64 (x4_1+1)))=some (r1,r2):=by rw [if_pos rfl] at H;exact H
     clear H
     have H:=H1
     clear H1
     have H':=Aside0.mk H
     clear H
     have p171:0≤(x4_1:Int):=of_decide_eq_true qA
     have q171:x4_1<(l0.length:Int):=of_decide_eq_true qA
     obtain ⟨ad171,e171,hx171_0,hx171_1⟩:=at_T93 HR0.out x4_1 p171 q171
     cases e171
     replace hx171_0:=(HB.out.cell (World.block_lt_of_cell? w _ hx171_0)).trans hx171_0
     replace hx171_1:=(HB.out.cell (World.block_lt_of_cell? w _ hx171_1)).trans hx171_1
     replace p171:=eq_true p171
     replace q171:=eq_true q171
     go_wp2_with (first|((with_reducible refine gate_callee (f:=164) rfl ?_);refine goesL_ (some 19) rfl rfl Tryz.func164 qK rfl #[.agg #[.string ((rd_T93 l0 x4_1).f0), .string ((rd_T93 l0 x4_1).f1)]] rfl qG ?_;(with_reducible refine (ebbtideref03_may.calls k1 ((rd_T93 l0 x4_1).f0) ((rd_T93 l0 x4_1).f1) true _ A4.out).mono ?_);rintro e w6 ⟨rfl,hb⟩;refine ⟨_,rfl,?_⟩;replace HB:=Aside0.mk (below_step qB hb);clear hb))
     go_roundg k1
     case measure=>have:=HK1.out;omega
     case rel=>exact ⟨(wrap64 (x4_1+1)),qS,H',⟨by have:=HK1.out;omega⟩,⟨qB⟩⟩
    replace c5:=Bool.eq_false_iff.mpr c5
    subst c5
    have H1:(some (([]:List (S93)),2))=some (r1,r2):=by rw [if_neg (show ¬ (false=true) by decide)] at H;exact H
    clear H
    have H:=H1
    clear H1
    simp only [Option.some.injEq,Prod.mk.injEq] at H
    obtain ⟨rfl,rfl⟩:=H
    have p171:0≤(x4_1:Int):=of_decide_eq_true qA
    have q171:x4_1<(l0.length:Int):=of_decide_eq_true qA
    obtain ⟨ad171,e171,hx171_0,hx171_1⟩:=at_T93 HR0.out x4_1 p171 q171
    cases e171
    replace hx171_0:=(HB.out.cell (World.block_lt_of_cell? w _ hx171_0)).trans hx171_0
    replace hx171_1:=(HB.out.cell (World.block_lt_of_cell? w _ hx171_1)).trans hx171_1
    replace p171:=eq_true p171
    replace q171:=eq_true q171
    go_wp2_with (first|((with_reducible refine gate_callee (f:=164) rfl ?_);refine goesL_ (some 19) rfl rfl Tryz.func164 qK rfl #[.agg #[.string ((rd_T93 l0 x4_1).f0), .string ((rd_T93 l0 x4_1).f1)]] rfl qG ?_;(with_reducible refine (ebbtideref03_may.calls k1 ((rd_T93 l0 x4_1).f0) ((rd_T93 l0 x4_1).f1) false _ A4.out).mono ?_);rintro e w7 ⟨rfl,hb⟩;refine ⟨_,rfl,?_⟩;replace HB:=Aside0.mk (below_step qB hb);clear hb))
    go_ret2
    exact ⟨_,qE,qN,qB⟩
   rw [if_neg c2] at H
   have c2b0:decide (x4_1<(l0.length:Int))=false:=decide_eq_false c2
   clear c2
   by_cases c8:(l0.length:Int)>4
   ·rw [if_pos c8] at H
    have c8b0:decide (4<(l0.length:Int))=true:=decide_eq_true c8
    have c8b1:decide (4<l0.length)=true:=decide_eq_true (by omega)
    clear c8
    simp only [Option.some.injEq,Prod.mk.injEq] at H
    obtain ⟨rfl,rfl⟩:=H
    go_wp2
    go_ret2
    exact ⟨_,qE,qN,qB⟩
   rw [if_neg c8] at H
   have c8b0:decide (4<(l0.length:Int))=false:=decide_eq_false c8
   have c8b1:decide (4<l0.length)=false:=decide_eq_false (by omega)
   clear c8
   have H':=Aside0.mk H
   clear H
   go_wp2
   go_loopg [5,6] k1 (fun kq v5 v6 w'=>∃ (x5_2:List (S93)) (x6_2:Int),v6 = .int .i64 x6_2∧Aside0 (ebbtideref03_Canon.l1 kq l0 x5_2 x6_2=some (r1,r2))∧Aside0 (kq≤k1)∧Aside0 (Kd.R k93 93 w' w.heap.size (fun _=>True) v5 x5_2)∧Aside0 (Below w.heap.size w w'))
   case atStart=>exact ⟨(([]:List (S93))),(0),qS,H',⟨Nat.le_refl _⟩,⟨qN⟩,⟨qB⟩⟩
   case round =>
    clear H'
    try clear c2b0;try clear c8b0;try clear c8b1
    obtain ⟨x5_2,x6_2,rfl,HA,HK2,HO_5,HB⟩:=hrel
    cases gk with
    | zero=>exact absurd HA.out (by simp [ebbtideref03_Canon.l1])
    | succ k2 =>
     have H:=HA.out
     clear HA
     simp only [ebbtideref03_Canon.l1] at H
     by_cases c9:x6_2<(l0.length:Int)
     rotate_left
     ·rw [if_neg c9] at H
      have c9b0:decide (x6_2<(l0.length:Int))=false:=decide_eq_false c9
      clear c9
      simp only [Option.some.injEq,Prod.mk.injEq] at H
      obtain ⟨rfl,rfl⟩:=H
      go_wp2
      go_ret2
      exact ⟨_,qE,qR HO_5,qB⟩
     rw [if_pos c9] at H
     have c9b0:decide (x6_2<(l0.length:Int))=true:=decide_eq_true c9
     clear c9
     have H':=Aside0.mk H
     clear H
     go_wp2
     go_loopg [7] k2 (fun kq v7 w'=>∃ (x7_3:Int),v7 = .int .i64 x7_3∧Aside0 (ebbtideref03_Canon.l2 kq l0 x5_2 x6_2 x7_3=some (r1,r2))∧Aside0 (kq≤k2)∧Aside0 (Kd.R k93 93 w' w.heap.size (fun _=>True) u5 x5_2)∧Aside0 (Below w.heap.size w w'))
     case atStart=>exact ⟨(0),qS,H',⟨Nat.le_refl _⟩,⟨qR HO_5⟩,⟨qB⟩⟩
     case round =>
      clear H'
      try clear c2b0;try clear c8b0;try clear c9b0
      obtain ⟨x7_3,rfl,HA,HK3,HO_5,HB⟩:=hrel
      cases gk with
      | zero=>exact absurd HA.out (by simp [ebbtideref03_Canon.l2])
      | succ k3 =>
       have H:=HA.out
       clear HA
       simp only [ebbtideref03_Canon.l2] at H
       by_cases c10:x7_3<(x5_2.length:Int)
       rotate_left
       ·rw [if_neg c10] at H
        have c10b0:decide (x7_3<(x5_2.length:Int))=false:=decide_eq_false c10
        clear c10
        obtain ⟨y197,hy197⟩:∃ y_:List (S93),y_=(([]:List (S93))):=⟨_,rfl⟩
        replace H:(if 0≤x7_3 then (if x7_3≤(x5_2.length:Int) then ((some (x5_2.drop (x7_3:Int).toNat:List (S93))).bind fun y200=>(if y197.length+y200.length<4398046511104 then ((some (y197++y200:List (S93))).bind fun y204=>((some (x5_2.take (x7_3:Int).toNat:List (S93))).bind fun y207=>(if 0≤x6_2 then (if x6_2<(l0.length:Int) then (if y207.length<4398046511104 then ((some (y207++[(⟨(rd_T93 l0 x6_2).f0,(rd_T93 l0 x6_2).f1⟩:S93)]:List (S93))).bind fun y211=>(if y211.length+y204.length<4398046511104 then (ebbtideref03_Canon.l1 k3 l0 (y211++y204) (wrap64 (x6_2+1))) else (none))) else (none)) else (none)) else (none)))) else (none))) else (none)) else (none))=some (r1,r2):=by first|(rw [hy197];with_reducible exact H)|(have H2_:=(Option.bind_some _ _).symm.trans H;rw [hy197];with_reducible exact H2_)|(have H2_:=(Option.bind_some _ _).symm.trans H;with_reducible exact H2_)|with_reducible exact H|(rw [hy197];exact H)|exact H
        have Ny197:=Aside0.mk hy197
        clear hy197
        by_cases c39:0≤x7_3
        rotate_left
        ·rw [if_neg c39] at H
         exact absurd H (by simp)
        rw [if_pos c39] at H
        have c39b0:=eq_true c39
        have c39b1:decide (0≤x7_3)=true:=decide_eq_true c39
        clear c39
        by_cases c40:x7_3≤(x5_2.length:Int)
        rotate_left
        ·rw [if_neg c40] at H
         exact absurd H (by simp)
        rw [if_pos c40] at H
        have c40b0:=eq_true c40
        have c40b1:decide (x7_3≤(x5_2.length:Int))=true:=decide_eq_true c40
        clear c40
        obtain ⟨y200,hy200⟩:∃ y_:List (S93),y_=(x5_2.drop (x7_3:Int).toNat):=⟨_,rfl⟩
        replace H:(if y197.length+y200.length<4398046511104 then ((some (y197++y200:List (S93))).bind fun y204=>((some (x5_2.take (x7_3:Int).toNat:List (S93))).bind fun y207=>(if 0≤x6_2 then (if x6_2<(l0.length:Int) then (if y207.length<4398046511104 then ((some (y207++[(⟨(rd_T93 l0 x6_2).f0,(rd_T93 l0 x6_2).f1⟩:S93)]:List (S93))).bind fun y211=>(if y211.length+y204.length<4398046511104 then (ebbtideref03_Canon.l1 k3 l0 (y211++y204) (wrap64 (x6_2+1))) else (none))) else (none)) else (none)) else (none)))) else (none))=some (r1,r2):=by first|(rw [hy200];with_reducible exact H)|(have H2_:=(Option.bind_some _ _).symm.trans H;rw [hy200];with_reducible exact H2_)|(have H2_:=(Option.bind_some _ _).symm.trans H;with_reducible exact H2_)|with_reducible exact H|(rw [hy200];exact H)|exact H
        have Ny200:=Aside0.mk hy200
        clear hy200
        by_cases c41:y197.length+y200.length<4398046511104
        rotate_left
        ·rw [if_neg c41] at H
         exact absurd H (by simp)
        rw [if_pos c41] at H
        have LMc41:=Aside0.mk c41
        clear c41
        obtain ⟨y204,hy204⟩:∃ y_:List (S93),y_=(y197++y200):=⟨_,rfl⟩
        replace H:((some (x5_2.take (x7_3:Int).toNat:List (S93))).bind fun y207=>(if 0≤x6_2 then (if x6_2<(l0.length:Int) then (if y207.length<4398046511104 then ((some (y207++[(⟨(rd_T93 l0 x6_2).f0,(rd_T93 l0 x6_2).f1⟩:S93)]:List (S93))).bind fun y211=>(if y211.length+y204.length<4398046511104 then (ebbtideref03_Canon.l1 k3 l0 (y211++y204) (wrap64 (x6_2+1))) else (none))) else (none)) else (none)) else (none)))=some (r1,r2):=by first|(rw [hy204];with_reducible exact H)|(have H2_:=(Option.bind_some _ _).symm.trans H;rw [hy204];with_reducible exact H2_)|(have H2_:=(Option.bind_some _ _).symm.trans H;with_reducible exact H2_)|with_reducible exact H|(rw [hy204];exact H)|exact H
        have Ny204:=Aside0.mk hy204
        clear hy204
        have c42b0:=eq_true (of_decide_eq_true qA:x7_3≤(x5_2.length:Int))
        obtain ⟨y207,hy207⟩:∃ y_:List (S93),y_=(x5_2.take (x7_3:Int).toNat):=⟨_,rfl⟩
        replace H:(if 0≤x6_2 then (if x6_2<(l0.length:Int) then (if y207.length<4398046511104 then ((some (y207++[(⟨(rd_T93 l0 x6_2).f0,(rd_T93 l0 x6_2).f1⟩:S93)]:List (S93))).bind fun y211=>(if y211.length+y204.length<4398046511104 then (ebbtideref03_Canon.l1 k3 l0 (y211++y204) (wrap64 (x6_2+1))) else (none))) else (none)) else (none)) else (none))=some (r1,r2):=by first|(rw [hy207];with_reducible exact H)|(have H2_:=(Option.bind_some _ _).symm.trans H;rw [hy207];with_reducible exact H2_)|(have H2_:=(Option.bind_some _ _).symm.trans H;with_reducible exact H2_)|with_reducible exact H|(rw [hy207];exact H)|exact H
        have Ny207:=Aside0.mk hy207
        clear hy207
        by_cases c43:0≤x6_2
        rotate_left
        ·rw [if_neg c43] at H
         exact absurd H (by simp)
        rw [if_pos c43] at H
        have c43b0:decide (0≤x6_2)=true:=decide_eq_true c43
        clear c43
        by_cases c44:x6_2<(l0.length:Int)
        rotate_left
        ·rw [if_neg c44] at H
         exact absurd H (by simp)
        rw [if_pos c44] at H
        have c44b0:decide (x6_2<(l0.length:Int))=true:=decide_eq_true c44
        clear c44
        by_cases c45:y207.length<4398046511104
        rotate_left
        ·rw [if_neg c45] at H
         exact absurd H (by simp)
        rw [if_pos c45] at H
        have LMc45:=Aside0.mk c45
        clear c45
        obtain ⟨y211,hy211⟩:∃ y_:List (S93),y_=(y207++[(⟨(rd_T93 l0 x6_2).f0,(rd_T93 l0 x6_2).f1⟩:S93)]):=⟨_,rfl⟩
        replace H:(if y211.length+y204.length<4398046511104 then (ebbtideref03_Canon.l1 k3 l0 (y211++y204) (wrap64 (x6_2+1))) else (none))=some (r1,r2):=by first|(rw [hy211];with_reducible exact H)|(have H2_:=(Option.bind_some _ _).symm.trans H;rw [hy211];with_reducible exact H2_)|(have H2_:=(Option.bind_some _ _).symm.trans H;with_reducible exact H2_)|with_reducible exact H|(rw [hy211];exact H)|exact H
        have Ny211:=Aside0.mk hy211
        clear hy211
        by_cases c46:y211.length+y204.length<4398046511104
        rotate_left
        ·rw [if_neg c46] at H
         exact absurd H (by simp)
        rw [if_pos c46] at H
        have LMc46:=Aside0.mk c46
        clear c46
        obtain ⟨y214,hy214⟩:∃ y_:List (S93),y_=(y211++y204):=⟨_,rfl⟩
        replace H:(ebbtideref03_Canon.l1 k3 l0 y214 (wrap64 (x6_2+1)))=some (r1,r2):=by first|(rw [hy214];with_reducible exact H)|(have H2_:=(Option.bind_some _ _).symm.trans H;rw [hy214];with_reducible exact H2_)|(have H2_:=(Option.bind_some _ _).symm.trans H;with_reducible exact H2_)|with_reducible exact H|(rw [hy214];exact H)|exact H
        have Ny214:=Aside0.mk hy214
        clear hy214
        have H':=Aside0.mk H
        clear H
        try go_wp2
        replace HO_5:=Aside0.mk (Kd.R_drew HO_5.out)
        replace HB:=Aside0.mk (below_drew1 HB.out)
        obtain ⟨Ao48,co48,eo48⟩:=Kd.R_slice HO_5.out
        (first|subst eo48|(injection eo48 with f1_ f2_ f3_;have f4_:=f1_.symm;have f5_:=f3_.symm;clear f1_ f2_ f3_;subst f4_;subst f5_))
        refine start_ (n:=17) (S:=fun w'=>True) (ds:=[]) #[false,false,false,false,false,false,false,false,false,false,false,false,false,false,false,false,false] qK rfl rfl trivial (fun hHeld=>?_);refine with_tabW ebbtideref03_Canon.tab13 ebbtideref03_Canon.bits13 (fun HT_ HW_=>?_)
        generalize wr.drew=w47 at HO_5 HB hHeld ⊢
        refine pure_ (i:=0) (N:=some 30) (v:=?_) (a':=?_) #[true,false,false,false,false,false,false,false,false,false,false,false,false,false,false,false,false] rfl rfl (any_of HT_.out qK) (fun _ _ _ h=>h) (Or.inl ⟨by rfl,?_⟩) ?_ ?_
        rotate_left
        ·intro w';go_simp;with_reducible rfl
        rotate_left
        ·simp only [Act.put,List.setIfInBounds_toArray,List.set_cons_zero,List.set_cons_succ,i64_w,i32_w];rfl
        refine pure_ (i:=1) (N:=some 31) (v:=?_) (a':=?_) #[true,true,false,false,false,false,false,false,false,false,false,false,false,false,false,false,false] rfl rfl (any_of HT_.out qK) (fun _ _ _ h=>h) (Or.inl ⟨by rfl,?_⟩) ?_ ?_
        rotate_left
        ·intro w';go_simp;with_reducible rfl
        rotate_left
        ·simp only [Act.put,List.setIfInBounds_toArray,List.set_cons_zero,List.set_cons_succ,i64_w,i32_w];rfl
        refine pure_ (i:=2) (N:=some 32) (v:=?_) (a':=?_) #[true,true,true,false,false,false,false,false,false,false,false,false,false,false,false,false,false] rfl rfl (any_of HT_.out qK) (fun _ _ _ h=>h) (Or.inl ⟨by rfl,?_⟩) ?_ ?_
        rotate_left
        ·intro w';go_simp;with_reducible rfl
        rotate_left
        ·simp only [Act.put,List.setIfInBounds_toArray,List.set_cons_zero,List.set_cons_succ,i64_w,i32_w];rfl
        refine pure_ (i:=3) (N:=some 33) (v:=?_) (a':=?_) #[true,true,true,true,false,false,false,false,false,false,false,false,false,false,false,false,false] rfl rfl (any_of HT_.out qK) (fun _ _ _ h=>h) (Or.inl ⟨by rfl,?_⟩) ?_ ?_
        rotate_left
        ·intro w';go_simp;with_reducible rfl
        rotate_left
        ·simp only [Act.put,List.setIfInBounds_toArray,List.set_cons_zero,List.set_cons_succ,i64_w,i32_w];rfl
        refine pure_ (i:=4) (N:=some 34) (v:=?_) (a':=?_) #[true,true,true,true,true,false,false,false,false,false,false,false,false,false,false,false,false] rfl rfl (any_of HT_.out qK) (fun _ _ _ h=>h) (Or.inl ⟨by rfl,?_⟩) ?_ ?_
        rotate_left
        ·intro w';go_simp;with_reducible rfl
        rotate_left
        ·simp only [Act.put,List.setIfInBounds_toArray,List.set_cons_zero,List.set_cons_succ,i64_w,i32_w];rfl
        refine pure_ (i:=5) (N:=some 35) (v:=undef) (a':=?_) #[true,true,true,true,true,true,false,false,false,false,false,false,false,false,false,false,false] rfl rfl (any_of HT_.out qK) (fun _ _ _ h=>h) (Or.inr ⟨by rfl,rfl⟩) ?_ ?_
        rotate_left
        ·simp only [Act.put,List.setIfInBounds_toArray,List.set_cons_zero,List.set_cons_succ,i64_w,i32_w];rfl
        refine pure_ (i:=6) (N:=some 36) (v:=undef) (a':=?_) #[true,true,true,true,true,true,true,false,false,false,false,false,false,false,false,false,false] rfl rfl (any_of HT_.out qK) (fun _ _ _ h=>h) (Or.inr ⟨by rfl,rfl⟩) ?_ ?_
        rotate_left
        ·simp only [Act.put,List.setIfInBounds_toArray,List.set_cons_zero,List.set_cons_succ,i64_w,i32_w];rfl
        refine pure_ (i:=7) (N:=some 37) (v:=undef) (a':=?_) #[true,true,true,true,true,true,true,true,false,false,false,false,false,false,false,false,false] rfl rfl (any_of HT_.out qK) (fun _ _ _ h=>h) (Or.inr ⟨by rfl,rfl⟩) ?_ ?_
        rotate_left
        ·simp only [Act.put,List.setIfInBounds_toArray,List.set_cons_zero,List.set_cons_succ,i64_w,i32_w];rfl
        refine pure_ (i:=8) (N:=some 38) (v:=undef) (a':=?_) #[true,true,true,true,true,true,true,true,true,false,false,false,false,false,false,false,false] rfl rfl (any_of HT_.out qK) (fun _ _ _ h=>h) (Or.inr ⟨by rfl,rfl⟩) ?_ ?_
        rotate_left
        ·simp only [Act.put,List.setIfInBounds_toArray,List.set_cons_zero,List.set_cons_succ,i64_w,i32_w];rfl
        refine pure_ (i:=9) (N:=some 39) (v:=undef) (a':=?_) #[true,true,true,true,true,true,true,true,true,true,false,false,false,false,false,false,false] rfl rfl (any_of HT_.out qK) (fun _ _ _ h=>h) (Or.inr ⟨by rfl,rfl⟩) ?_ ?_
        rotate_left
        ·simp only [Act.put,List.setIfInBounds_toArray,List.set_cons_zero,List.set_cons_succ,i64_w,i32_w];rfl
        refine pure_ (i:=10) (N:=some 40) (v:=undef) (a':=?_) #[true,true,true,true,true,true,true,true,true,true,true,false,false,false,false,false,false] rfl rfl (any_of HT_.out qK) (fun _ _ _ h=>h) (Or.inr ⟨by rfl,rfl⟩) ?_ ?_
        rotate_left
        ·simp only [Act.put,List.setIfInBounds_toArray,List.set_cons_zero,List.set_cons_succ,i64_w,i32_w];rfl
        refine pure_ (i:=11) (N:=some 41) (v:=undef) (a':=?_) #[true,true,true,true,true,true,true,true,true,true,true,true,false,false,false,false,false] rfl rfl (any_of HT_.out qK) (fun _ _ _ h=>h) (Or.inr ⟨by rfl,rfl⟩) ?_ ?_
        rotate_left
        ·simp only [Act.put,List.setIfInBounds_toArray,List.set_cons_zero,List.set_cons_succ,i64_w,i32_w];rfl
        refine pure_ (i:=12) (N:=some 42) (v:=undef) (a':=?_) #[true,true,true,true,true,true,true,true,true,true,true,true,true,false,false,false,false] rfl rfl (any_of HT_.out qK) (fun _ _ _ h=>h) (Or.inr ⟨by rfl,rfl⟩) ?_ ?_
        rotate_left
        ·simp only [Act.put,List.setIfInBounds_toArray,List.set_cons_zero,List.set_cons_succ,i64_w,i32_w];rfl
        refine pure_ (i:=13) (N:=some 43) (v:=undef) (a':=?_) #[true,true,true,true,true,true,true,true,true,true,true,true,true,true,false,false,false] rfl rfl (any_of HT_.out qK) (fun _ _ _ h=>h) (Or.inr ⟨by rfl,rfl⟩) ?_ ?_
        rotate_left
        ·simp only [Act.put,List.setIfInBounds_toArray,List.set_cons_zero,List.set_cons_succ,i64_w,i32_w];rfl
        refine pure_ (i:=14) (N:=some 44) (v:=undef) (a':=?_) #[true,true,true,true,true,true,true,true,true,true,true,true,true,true,true,false,false] rfl rfl (any_of HT_.out qK) (fun _ _ _ h=>h) (Or.inr ⟨by rfl,rfl⟩) ?_ ?_
        rotate_left
        ·simp only [Act.put,List.setIfInBounds_toArray,List.set_cons_zero,List.set_cons_succ,i64_w,i32_w];rfl
        refine pure_ (i:=15) (N:=some 45) (v:=undef) (a':=?_) #[true,true,true,true,true,true,true,true,true,true,true,true,true,true,true,true,false] rfl rfl (any_of HT_.out qK) (fun _ _ _ h=>h) (Or.inr ⟨by rfl,rfl⟩) ?_ ?_
        rotate_left
        ·simp only [Act.put,List.setIfInBounds_toArray,List.set_cons_zero,List.set_cons_succ,i64_w,i32_w];rfl
        refine pure_ (i:=16) (N:=some 46) (v:=?_) (a':=?_) #[true,true,true,true,true,true,true,true,true,true,true,true,true,true,true,true,true] rfl rfl (any_of HT_.out qK) (fun _ _ _ h=>h) (Or.inl ⟨by rfl,?_⟩) ?_ ?_
        rotate_left
        ·intro w';go_simp;with_reducible rfl
        rotate_left
        ·simp only [Act.put,List.setIfInBounds_toArray,List.set_cons_zero,List.set_cons_succ,i64_w,i32_w];rfl
        refine done_ (done_of HT_.out qK) ?_
        try go_wp2
        replace HO_5:=Aside0.mk (Kd.R_drew HO_5.out)
        replace HB:=Aside0.mk (below_drew1 HB.out)
        refine start_ (n:=17) (S:=fun w'=>True) (ds:=[]) #[false,false,false,false,false,false,false,false,false,false,false,false,false,false,false,false,false] qK rfl rfl trivial (fun hHeld=>?_);refine with_tabW ebbtideref03_Canon.tab15 ebbtideref03_Canon.bits15 (fun HT_ HW_=>?_)
        generalize w47.drew=w49 at HO_5 HB hHeld ⊢
        refine pure_ (i:=0) (N:=some 49) (v:=?_) (a':=?_) #[true,false,false,false,false,false,false,false,false,false,false,false,false,false,false,false,false] rfl rfl (any_of HT_.out qK) (fun _ _ _ h=>h) (Or.inl ⟨by rfl,?_⟩) ?_ ?_
        rotate_left
        ·intro w';go_simp;with_reducible rfl
        rotate_left
        ·simp only [Act.put,List.setIfInBounds_toArray,List.set_cons_zero,List.set_cons_succ,i64_w,i32_w];rfl
        refine pure_ (i:=1) (N:=some 50) (v:=?_) (a':=?_) #[true,true,false,false,false,false,false,false,false,false,false,false,false,false,false,false,false] rfl rfl (any_of HT_.out qK) (fun _ _ _ h=>h) (Or.inl ⟨by rfl,?_⟩) ?_ ?_
        rotate_left
        ·intro w';go_simp;with_reducible rfl
        rotate_left
        ·simp only [Act.put,List.setIfInBounds_toArray,List.set_cons_zero,List.set_cons_succ,i64_w,i32_w];rfl
        refine pure_ (i:=2) (N:=some 51) (v:=?_) (a':=?_) #[true,true,true,false,false,false,false,false,false,false,false,false,false,false,false,false,false] rfl rfl (any_of HT_.out qK) (fun _ _ _ h=>h) (Or.inl ⟨by rfl,?_⟩) ?_ ?_
        rotate_left
        ·intro w';go_simp;with_reducible rfl
        rotate_left
        ·simp only [Act.put,List.setIfInBounds_toArray,List.set_cons_zero,List.set_cons_succ,i64_w,i32_w];rfl
        refine pure_ (i:=3) (N:=some 52) (v:=?_) (a':=?_) #[true,true,true,true,false,false,false,false,false,false,false,false,false,false,false,false,false] rfl rfl (any_of HT_.out qK) (fun _ _ _ h=>h) (Or.inl ⟨by rfl,?_⟩) ?_ ?_
        rotate_left
        ·intro w';go_simp;with_reducible rfl
        rotate_left
        ·simp only [Act.put,List.setIfInBounds_toArray,List.set_cons_zero,List.set_cons_succ,i64_w,i32_w];rfl
        refine pure_ (i:=4) (N:=some 53) (v:=?_) (a':=?_) #[true,true,true,true,true,false,false,false,false,false,false,false,false,false,false,false,false] rfl rfl (any_of HT_.out qK) (fun _ _ _ h=>h) (Or.inl ⟨by rfl,?_⟩) ?_ ?_
        rotate_left
        ·intro w';go_simp;with_reducible rfl
        rotate_left
        ·simp only [Act.put,List.setIfInBounds_toArray,List.set_cons_zero,List.set_cons_succ,i64_w,i32_w];rfl
        refine pure_ (i:=5) (N:=some 54) (v:=undef) (a':=?_) #[true,true,true,true,true,true,false,false,false,false,false,false,false,false,false,false,false] rfl rfl (any_of HT_.out qK) (fun _ _ _ h=>h) (Or.inr ⟨by rfl,rfl⟩) ?_ ?_
        rotate_left
        ·simp only [Act.put,List.setIfInBounds_toArray,List.set_cons_zero,List.set_cons_succ,i64_w,i32_w];rfl
        refine pure_ (i:=6) (N:=some 55) (v:=undef) (a':=?_) #[true,true,true,true,true,true,true,false,false,false,false,false,false,false,false,false,false] rfl rfl (any_of HT_.out qK) (fun _ _ _ h=>h) (Or.inr ⟨by rfl,rfl⟩) ?_ ?_
        rotate_left
        ·simp only [Act.put,List.setIfInBounds_toArray,List.set_cons_zero,List.set_cons_succ,i64_w,i32_w];rfl
        refine pure_ (i:=7) (N:=some 56) (v:=undef) (a':=?_) #[true,true,true,true,true,true,true,true,false,false,false,false,false,false,false,false,false] rfl rfl (any_of HT_.out qK) (fun _ _ _ h=>h) (Or.inr ⟨by rfl,rfl⟩) ?_ ?_
        rotate_left
        ·simp only [Act.put,List.setIfInBounds_toArray,List.set_cons_zero,List.set_cons_succ,i64_w,i32_w];rfl
        refine pure_ (i:=8) (N:=some 57) (v:=undef) (a':=?_) #[true,true,true,true,true,true,true,true,true,false,false,false,false,false,false,false,false] rfl rfl (any_of HT_.out qK) (fun _ _ _ h=>h) (Or.inr ⟨by rfl,rfl⟩) ?_ ?_
        rotate_left
        ·simp only [Act.put,List.setIfInBounds_toArray,List.set_cons_zero,List.set_cons_succ,i64_w,i32_w];rfl
        refine pure_ (i:=9) (N:=some 58) (v:=undef) (a':=?_) #[true,true,true,true,true,true,true,true,true,true,false,false,false,false,false,false,false] rfl rfl (any_of HT_.out qK) (fun _ _ _ h=>h) (Or.inr ⟨by rfl,rfl⟩) ?_ ?_
        rotate_left
        ·simp only [Act.put,List.setIfInBounds_toArray,List.set_cons_zero,List.set_cons_succ,i64_w,i32_w];rfl
        refine pure_ (i:=10) (N:=some 59) (v:=undef) (a':=?_) #[true,true,true,true,true,true,true,true,true,true,true,false,false,false,false,false,false] rfl rfl (any_of HT_.out qK) (fun _ _ _ h=>h) (Or.inr ⟨by rfl,rfl⟩) ?_ ?_
        rotate_left
        ·simp only [Act.put,List.setIfInBounds_toArray,List.set_cons_zero,List.set_cons_succ,i64_w,i32_w];rfl
        refine pure_ (i:=11) (N:=some 60) (v:=undef) (a':=?_) #[true,true,true,true,true,true,true,true,true,true,true,true,false,false,false,false,false] rfl rfl (any_of HT_.out qK) (fun _ _ _ h=>h) (Or.inr ⟨by rfl,rfl⟩) ?_ ?_
        rotate_left
        ·simp only [Act.put,List.setIfInBounds_toArray,List.set_cons_zero,List.set_cons_succ,i64_w,i32_w];rfl
        refine pure_ (i:=12) (N:=some 61) (v:=undef) (a':=?_) #[true,true,true,true,true,true,true,true,true,true,true,true,true,false,false,false,false] rfl rfl (any_of HT_.out qK) (fun _ _ _ h=>h) (Or.inr ⟨by rfl,rfl⟩) ?_ ?_
        rotate_left
        ·simp only [Act.put,List.setIfInBounds_toArray,List.set_cons_zero,List.set_cons_succ,i64_w,i32_w];rfl
        refine pure_ (i:=13) (N:=some 62) (v:=undef) (a':=?_) #[true,true,true,true,true,true,true,true,true,true,true,true,true,true,false,false,false] rfl rfl (any_of HT_.out qK) (fun _ _ _ h=>h) (Or.inr ⟨by rfl,rfl⟩) ?_ ?_
        rotate_left
        ·simp only [Act.put,List.setIfInBounds_toArray,List.set_cons_zero,List.set_cons_succ,i64_w,i32_w];rfl
        refine pure_ (i:=14) (N:=some 63) (v:=undef) (a':=?_) #[true,true,true,true,true,true,true,true,true,true,true,true,true,true,true,false,false] rfl rfl (any_of HT_.out qK) (fun _ _ _ h=>h) (Or.inr ⟨by rfl,rfl⟩) ?_ ?_
        rotate_left
        ·simp only [Act.put,List.setIfInBounds_toArray,List.set_cons_zero,List.set_cons_succ,i64_w,i32_w];rfl
        refine pure_ (i:=15) (N:=some 64) (v:=undef) (a':=?_) #[true,true,true,true,true,true,true,true,true,true,true,true,true,true,true,true,false] rfl rfl (any_of HT_.out qK) (fun _ _ _ h=>h) (Or.inr ⟨by rfl,rfl⟩) ?_ ?_
        rotate_left
        ·simp only [Act.put,List.setIfInBounds_toArray,List.set_cons_zero,List.set_cons_succ,i64_w,i32_w];rfl
        refine pure_ (i:=16) (N:=some 65) (v:=?_) (a':=?_) #[true,true,true,true,true,true,true,true,true,true,true,true,true,true,true,true,true] rfl rfl (any_of HT_.out qK) (fun _ _ _ h=>h) (Or.inl ⟨by rfl,?_⟩) ?_ ?_
        rotate_left
        ·intro w';go_simp;with_reducible rfl
        rotate_left
        ·simp only [Act.put,List.setIfInBounds_toArray,List.set_cons_zero,List.set_cons_succ,i64_w,i32_w];rfl
        refine done_ (done_of HT_.out qK) ?_
        try go_wp2_with (first|((with_reducible refine gate_dst (N:=66) rfl ?_);refine Kd.R_lit k93 _ 93 ?hg (N:=66) ?hd (xs:=([]:List (S93))) (inner:=[]) (ok:=fun _=>True) (okp:=fun _=>True) ?hr ?hp (fun _ hk=>hk) trivial (Below.refl _ _) (Nat.le_refl _) (by simp) ?_;(case hd=>rfl);(case hg=>rfl);(case hr=>first|(go_simp;done)|(go_simp;rfl));(case hp=>exact (Reps.none _ _));intro v198 w50 ho51 hb hg_ hnew_;clear hg_ hnew_;(first|rw [← Ny197.out] at ho51|(simp only [Int.reduceToNat] at ho51;rw [← Ny197.out] at ho51));have HO199:=Aside0.mk (Kd.R_lower (Kd.R_new' ho51 (Kd.R_lt (qR HO_5))) (below_size qB));replace HO_5:=Aside0.mk (Kd.R_elder' (qR HO_5) (Kd.R_base ho51) hb);replace HB:=Aside0.mk (below_step qB hb);clear hb ho51;have q52:(x7_3:Int)≤((x5_2.length:Int):Int):=of_decide_eq_true qA;obtain ⟨i052,hi052,_,hsz52,_⟩:=info_parts info93;have hroom52:x5_2.length≤co48:=(Kd.R_reads' HO_5.out).2.1;have hC52:Kd.C k93 _ Ao48 x5_2.length x5_2:=(Kd.R_reads' HO_5.out).2.2;have q052:(0:Int)≤(x7_3:Int):=of_decide_eq_true qA;have hcut52:=cut_from (P:=Tryz.prog) 34 93 .i64 Tryz.underlying34 hi052 2 hsz52 Ao48 x5_2.length co48 x7_3 q052 q52;have hr52:=Kd.C_drop (m:=(x7_3:Int).toNat) (c:=co48) hC52 (by omega) hroom52;obtain ⟨A52,hA52⟩:∃ A1,A1=(if co48=(x7_3:Int).toNat then Ao48 else (Ao48:Option Addr).map (·.add ((x7_3:Int).toNat * 2))):=⟨_,rfl⟩;obtain ⟨c52,hc52⟩:∃ c1,c1=co48 - (x7_3:Int).toNat:=⟨_,rfl⟩;have hy52:y200.length=x5_2.length - (x7_3:Int).toNat:=(by rw [Ny200.out,List.length_drop]<;>omega);rw [show (x5_2).drop (x7_3:Int).toNat=y200 from Ny200.out.symm] at hr52;replace hr52:Kd.C k93 _ A52 y200.length y200:=(by rw [hA52];exact hr52);rw [← hy52,← hA52,← hc52] at hcut52;have HR203:=Aside0.mk hr52;have HC203:=Aside0.mk (show y200.length≤c52 from by rw [hy52,hc52];exact Nat.sub_le_sub_right hroom52 _);clear hr52 hC52 hroom52 hi052 hsz52 hc52;have KY52:=Aside0.mk hy52;have KA52:=Aside0.mk hA52;clear hy52 hA52;have KL52:=Aside0.mk (show (x7_3:Int).toNat≤x5_2.length from by omega);replace q52:=eq_true q52)|((with_reducible refine gate_builtin (b := .append) (xs:=#[.tmp 66, .tmp 69]) rfl ?_);at_builtin;refine Kd.R_append_rows k93 (w0:=w) w.heap.size rfl (.tmp 66) (.tmp 69) 34 93 (.agg #[(.string ⟨#[]⟩),(.string ⟨#[]⟩)]) 32 rfl Tryz.underlying34 info93 rfl (by decide) (by omega) v198 y197 y200 _ _ _ (fun k_=>some k_≠(.slice Ao48 x5_2.length co48:Value).ownBlock) (fun _=>False) rfl rfl ?aO ?aR (fun _ _ h=>h) (fun _ h=>h.elim) ?aF ?aB ?aS ?aL ?_;(case aR=>repeat (first|exact (by repeat (first|(with_reducible exact HR203.out)|(with_reducible refine Kd.C_alloc ?_ _)|(with_reducible refine Kd.C_drewN ?_ _)|(with_reducible refine Kd.C_drew ?_)|exact HR203.out))|(with_reducible refine Kd.C_alloc ?_ _)|(with_reducible refine Kd.C_drewN ?_ _)|(with_reducible refine Kd.C_drew ?_)));(case aB=>exact qB);(case aF=>exact (fun k_ hk=>Kd.fresh' (Kd.R_lt (qR HO_5)) k_ hk));(case aO=>exact (by (with_reducible repeat (first|apply Kd.R_alloc|apply Kd.R_drewN|apply Kd.R_drew));exact Kd.R_mono HO199.out (fun _ hk=>hk.2)));(case aS=>exact (below_size qB));(case aL=>have:=LMc41.out;omega);intro v205 w53 ho hb hg hat;rw [← Ny204.out] at ho;replace HB:=Aside0.mk hb;replace HR203:=Aside0.mk ((show Kd.C k93 w53 A52 y200.length y200 from by rw [Ny200.out,KA52.out];exact Kd.C_drop (m:=(x7_3:Int).toNat) (c:=co48) ((Kd.R_reads' (Kd.R_after (ok:=(fun _=>True)) (qR HO_5) hg hat)).2.2) KL52.out ((Kd.R_reads' (Kd.R_after (ok:=(fun _=>True)) (qR HO_5) hg hat)).2.1)));replace HO_5:=Aside0.mk (Kd.R_after (ok:=(fun _=>True)) (qR HO_5) hg hat);have HO206:=Aside0.mk ho;clear HO199;clear ho hb hg hat))
        replace HO_5:=Aside0.mk (Kd.R_drew HO_5.out)
        replace HO206:=Aside0.mk (Kd.R_drew HO206.out)
        replace HR203:=Aside0.mk (Kd.C_drew HR203.out)
        replace HB:=Aside0.mk (below_drew1 HB.out)
        have q55:(x7_3:Int)≤((x5_2.length:Int):Int):=of_decide_eq_true qA
        obtain ⟨i055,hi055,_,hsz55,_⟩:=info_parts info93
        have hcut55:=cut_to (P:=Tryz.prog) 34 93 .i64 Tryz.underlying34 hi055 Ao48 x5_2.length co48 x7_3 (of_decide_eq_true qA) q55 (Kd.R_reads' HO_5.out).2.1
        have hr55:=Kd.R_take (m:=(x7_3:Int).toNat) HO_5.out (by omega)
        have hy55:y207.length=(x7_3:Int).toNat:=(by rw [Ny207.out,List.length_take];omega)
        rw [← Ny207.out] at hr55
        rw [← hy55] at hr55 hcut55
        clear hy55 hi055 hsz55 HO_5
        have HO209:=Aside0.mk hr55
        clear hr55
        replace q55:=eq_true q55
        have p210:0≤(x6_2:Int):=of_decide_eq_true qA
        have q210:x6_2<(l0.length:Int):=of_decide_eq_true qA
        obtain ⟨ad210,e210,hx210_0,hx210_1⟩:=at_T93 HR0.out x6_2 p210 q210
        have hw210_1:=hx210_1
        have hw210_0:=hx210_0
        cases e210
        replace hx210_0:=(HB.out.cell (World.block_lt_of_cell? w _ hx210_0)).trans hx210_0
        replace hx210_1:=(HB.out.cell (World.block_lt_of_cell? w _ hx210_1)).trans hx210_1
        replace p210:=eq_true p210
        replace q210:=eq_true q210
        refine start_ (n:=12) (S:=fun w'=>w'.cell? (ad210.add ((x6_2).toNat * 2))=some (.string ((rd_T93 l0 x6_2).f0))∧w'.cell? ⟨(ad210.add ((x6_2).toNat * 2)).block,(ad210.add ((x6_2).toNat * 2)).off+1,none⟩=some (.string ((rd_T93 l0 x6_2).f1))) (ds:=[]) #[false,false,false,false,false,false,false,false,false,false,false,false] qK rfl rfl ⟨((HB.out.cell (World.block_lt_of_cell? w _ hw210_0)).trans hw210_0),((HB.out.cell (World.block_lt_of_cell? w _ hw210_1)).trans hw210_1)⟩ (fun hHeld=>?_);refine with_tabW ebbtideref03_Canon.tab18 ebbtideref03_Canon.bits18 (fun HT_ HW_=>?_)
        generalize w53.drew=w54 at HO_5 HO206 HR203 HB HO209 hx210_0 hx210_1 hHeld ⊢
        refine pure_ (i:=0) (N:=some 71) (v:=?_) (a':=?_) #[true,false,false,false,false,false,false,false,false,false,false,false] rfl rfl (any_of HT_.out qK) (fun _ _ _ h=>h) (Or.inl ⟨by rfl,?_⟩) ?_ ?_
        rotate_left
        ·intro w';go_simp;with_reducible rfl
        rotate_left
        ·simp only [Act.put,List.setIfInBounds_toArray,List.set_cons_zero,List.set_cons_succ,i64_w,i32_w];rfl
        refine pure_ (i:=1) (N:=some 72) (v:=?_) (a':=?_) #[true,true,false,false,false,false,false,false,false,false,false,false] rfl rfl (any_of HT_.out qK) (fun _ _ _ h=>h) (Or.inl ⟨by rfl,?_⟩) ?_ ?_
        rotate_left
        ·intro w';go_simp;with_reducible rfl
        rotate_left
        ·simp only [Act.put,List.setIfInBounds_toArray,List.set_cons_zero,List.set_cons_succ,i64_w,i32_w];rfl
        refine pure_ (i:=2) (N:=some 73) (v:=?_) (a':=?_) #[true,true,true,false,false,false,false,false,false,false,false,false] rfl rfl (any_of HT_.out qK) (fun _ _ _ h=>h) (Or.inl ⟨by rfl,?_⟩) ?_ ?_
        rotate_left
        ·intro w';go_simp;with_reducible rfl
        rotate_left
        ·simp only [Act.put,List.setIfInBounds_toArray,List.set_cons_zero,List.set_cons_succ,i64_w,i32_w];rfl
        refine pure_ (i:=3) (N:=some 74) (v:=?_) (a':=?_) #[true,true,true,true,false,false,false,false,false,false,false,false] rfl rfl (any_of HT_.out qK) (fun _ _ _ h=>h) (Or.inl ⟨by rfl,?_⟩) ?_ ?_
        rotate_left
        ·intro w';go_simp;with_reducible rfl
        rotate_left
        ·simp only [Act.put,List.setIfInBounds_toArray,List.set_cons_zero,List.set_cons_succ,i64_w,i32_w];rfl
        refine pure_ (i:=4) (N:=some 75) (v:=?_) (a':=?_) #[true,true,true,true,true,false,false,false,false,false,false,false] rfl rfl (any_of HT_.out qK) (fun _ _ _ h=>h) (Or.inl ⟨by rfl,?_⟩) ?_ ?_
        rotate_left
        ·intro w';go_simp;with_reducible rfl
        rotate_left
        ·simp only [Act.put,List.setIfInBounds_toArray,List.set_cons_zero,List.set_cons_succ,i64_w,i32_w];rfl
        refine pure_ (i:=5) (N:=some 76) (v:=?_) (a':=?_) #[true,true,true,true,true,true,false,false,false,false,false,false] rfl rfl (any_of HT_.out qK) (fun _ _ _ h=>h) (Or.inl ⟨by rfl,?_⟩) ?_ ?_
        rotate_left
        ·intro w';go_simp;with_reducible rfl
        rotate_left
        ·simp only [Act.put,List.setIfInBounds_toArray,List.set_cons_zero,List.set_cons_succ,i64_w,i32_w];rfl
        refine pure_ (i:=9) (N:=some 80) (v:=?_) (a':=?_) #[true,true,true,true,true,true,false,false,false,true,false,false] rfl rfl (any_of HT_.out qK) (fun _ _ _ h=>h) (Or.inl ⟨by rfl,?_⟩) ?_ ?_
        rotate_left
        ·intro w';go_simp;with_reducible rfl
        rotate_left
        ·simp only [Act.put,List.setIfInBounds_toArray,List.set_cons_zero,List.set_cons_succ,i64_w,i32_w];rfl
        refine take_ (i:=6) (N:=some 77) (v:=?_) (a':=?_) #[true,true,true,true,true,true,true,false,false,true,false,false] rfl rfl (take_ofW HT_.out HW_.out qK) (fun _ _ _ h=>h) (Or.inl ⟨by rfl,?_⟩) hHeld ?_ ?_
        rotate_left
        ·rintro w' ⟨s0,s1⟩;go_simp;with_reducible rfl
        rotate_left
        ·simp only [Act.put,List.setIfInBounds_toArray,List.set_cons_zero,List.set_cons_succ,i64_w,i32_w];rfl
        refine one_ (i:=7) (N:=some 78) #[true,true,true,true,true,true,true,true,false,true,false,false] rfl rfl (one_of HT_.out qK) (by decide) (fun K hK=>?_)
        refine value_ (w1:=?_) (v:=?_) (by rfl) rfl ?_ ?_
        rotate_left 2
        ·go_simp
         constructor
         ·rfl
         ·rfl
        refine hK.out _ _ ⟨(World.cell?_alloc_lt _ _ _ (World.block_lt_of_cell? _ _ (((HB.out.cell (World.block_lt_of_cell? w _ hw210_0)).trans hw210_0)))).trans (((HB.out.cell (World.block_lt_of_cell? w _ hw210_0)).trans hw210_0)),(World.cell?_alloc_lt _ _ _ (World.block_lt_of_cell? _ _ (((HB.out.cell (World.block_lt_of_cell? w _ hw210_1)).trans hw210_1)))).trans (((HB.out.cell (World.block_lt_of_cell? w _ hw210_1)).trans hw210_1))⟩ (fun hHeld=>?_)
        clear hK K
        refine norm_ (a':=?_) ?_ ?_
        rotate_left
        ·show Act.put _ (some 78) _=_
         simp only [Act.put,List.setIfInBounds_toArray,List.set_cons_zero,List.set_cons_succ,i64_w,i32_w]
         rfl
        refine one_ (i:=8) (N:=some 79) #[true,true,true,true,true,true,true,true,true,true,false,false] rfl rfl (one_of HT_.out qK) (by decide) (fun K hK=>?_)
        refine Kd.R_append_step k93 (w0:=w) w.heap.size (by rfl) (.tmp 73) (.tmp 78) 34 93 (.agg #[(.string ⟨#[]⟩),(.string ⟨#[]⟩)]) 32 rfl Tryz.underlying34 info93 rfl (by decide) (by omega) (.slice Ao48 y207.length co48) y207 (⟨(rd_T93 l0 x6_2).f0,(rd_T93 l0 x6_2).f1⟩:S93) [.string ((rd_T93 l0 x6_2).f0), .string ((rd_T93 l0 x6_2).f1)] (fun k_=>some k_≠(v205:Value).ownBlock) (fun _=>False) rfl rfl ?aP (fun _ hk=>hk.elim) ?aF ?aO ?aB ?aS ?aL ?_
        (case aP=>exact k93_mkM _ _ _ (⟨(rd_T93 l0 x6_2).f0,(rd_T93 l0 x6_2).f1⟩:S93))
        (case aB=>exact qB)
        (case aF=>exact (fun k_ hk=>Kd.fresh' (Kd.R_lt (qR HO206)) k_ hk))
        (case aO=>exact (by (with_reducible repeat (first|apply Kd.R_alloc|apply Kd.R_drewN|apply Kd.R_drew));exact Kd.R_mono HO209.out (fun _ hk=>hk.2)))
        (case aS=>exact (below_size qB))
        (case aL=>have:=LMc45.out;omega)
        intro v212 w56 ho hb hg hat
        rw [← Ny211.out] at ho
        replace HO206:=Aside0.mk (Kd.R_after (ok:=(fun _=>True)) (by (with_reducible repeat (first|apply Kd.R_alloc|apply Kd.R_drewN|apply Kd.R_drew));exact Kd.R_mono HO206.out (fun _ hk=>⟨trivial,by first|exact hk|exact fun e_=>hk (e_.trans (Go.Proofs.YteaadaaghhojfaaGreatDoorW.XW.ob_len _ _ _ _ _))⟩)) hg hat)
        replace HB:=Aside0.mk hb
        have HO213:=Aside0.mk ho
        clear HO209
        clear ho hb hg hat
        obtain ⟨Ao58,co58,eo58⟩:=Kd.R_slice HO206.out
        (first|subst eo58|(injection eo58 with f1_ f2_ f3_;have f4_:=f1_.symm;have f5_:=f3_.symm;clear f1_ f2_ f3_;subst f4_;subst f5_))
        refine hK.out _ _ ⟨((HB.out.cell (World.block_lt_of_cell? w _ hw210_0)).trans hw210_0),((HB.out.cell (World.block_lt_of_cell? w _ hw210_1)).trans hw210_1)⟩ (fun hHeld=>?_)
        clear hK K
        refine norm_ (a':=?_) ?_ ?_
        rotate_left
        ·show Act.put _ (some 79) _=_
         simp only [Act.put,List.setIfInBounds_toArray,List.set_cons_zero,List.set_cons_succ,i64_w,i32_w]
         rfl
        refine one_ (i:=10) (N:=some 81) #[true,true,true,true,true,true,true,true,true,true,true,false] rfl rfl (one_of HT_.out qK) (by decide) (fun K hK=>?_)
        refine Kd.R_append_rows_step k93 (w0:=w) w.heap.size (by rfl) (.tmp 79) (.tmp 80) 34 93 (.agg #[(.string ⟨#[]⟩),(.string ⟨#[]⟩)]) 32 rfl Tryz.underlying34 info93 rfl (by decide) (by omega) v212 y211 y204 _ _ _ (fun k_=>some k_≠(.slice Ao58 y204.length co58:Value).ownBlock) (fun _=>False) rfl rfl ?aO ?aR (fun _ _ h=>h) (fun _ h=>h.elim) ?aF ?aB ?aS ?aL ?_
        (case aR=>repeat (first|exact (Kd.R_reads' HO206.out).2.2|(with_reducible refine Kd.C_alloc ?_ _)|(with_reducible refine Kd.C_drewN ?_ _)|(with_reducible refine Kd.C_drew ?_)))
        (case aB=>exact qB)
        (case aF=>exact (fun k_ hk=>Kd.fresh' (Kd.R_lt (qR HO206)) k_ hk))
        (case aO=>exact (qR HO213))
        (case aS=>exact (below_size qB))
        (case aL=>have:=LMc46.out;omega)
        intro v215 w57 ho hb hg hat
        rw [← Ny214.out] at ho
        replace HO206:=Aside0.mk (Kd.R_after (ok:=(fun _=>True)) (qR HO206) hg hat)
        replace HB:=Aside0.mk hb
        have HO216:=Aside0.mk ho
        clear HO213
        clear ho hb hg hat
        refine hK.out _ _ ⟨((HB.out.cell (World.block_lt_of_cell? w _ hw210_0)).trans hw210_0),((HB.out.cell (World.block_lt_of_cell? w _ hw210_1)).trans hw210_1)⟩ (fun hHeld=>?_)
        clear hK K
        refine norm_ (a':=?_) ?_ ?_
        rotate_left
        ·show Act.put _ (some 81) _=_
         simp only [Act.put,List.setIfInBounds_toArray,List.set_cons_zero,List.set_cons_succ,i64_w,i32_w]
         rfl
        refine pure_ (i:=11) (N:=some 5) (v:=?_) (a':=?_) #[true,true,true,true,true,true,true,true,true,true,true,true] rfl rfl (any_of HT_.out qK) (fun _ _ _ h=>h) (Or.inl ⟨by rfl,?_⟩) ?_ ?_
        rotate_left
        ·intro w';go_simp;with_reducible rfl
        rotate_left
        ·simp only [Act.put,List.setIfInBounds_toArray,List.set_cons_zero,List.set_cons_succ,i64_w,i32_w];rfl
        refine done_ (done_of HT_.out qK) ?_
        try go_wp2
        go_roundg k3
        case measure=>have:=HK1.out;have:=HK2.out;have:=HK3.out;omega
        case rel=>exact ⟨(y214),(wrap64 (x6_2+1)),qS,H',⟨by have:=HK1.out;have:=HK2.out;have:=HK3.out;omega⟩,⟨by (with_reducible repeat (first|apply Kd.R_alloc|apply Kd.R_drewN|apply Kd.R_drew));exact Kd.R_mono HO216.out (fun _ hk=>trivial)⟩,⟨qB⟩⟩
       rw [if_pos c10] at H
       have c10b0:decide (x7_3<(x5_2.length:Int))=true:=decide_eq_true c10
       clear c10
       by_cases c11:0≤x7_3
       rotate_left
       ·rw [if_neg c11] at H
        exact absurd H (by simp)
       rw [if_pos c11] at H
       have c11b0:decide (0≤x7_3)=true:=decide_eq_true c11
       clear c11
       by_cases c12:0≤x6_2
       rotate_left
       ·rw [if_neg c12] at H
        exact absurd H (by simp)
       rw [if_pos c12] at H
       have c12b0:decide (0≤x6_2)=true:=decide_eq_true c12
       clear c12
       by_cases c13:x6_2<(l0.length:Int)
       rotate_left
       ·rw [if_neg c13] at H
        exact absurd H (by simp)
       rw [if_pos c13] at H
       have c13b0:decide (x6_2<(l0.length:Int))=true:=decide_eq_true c13
       clear c13
       by_cases c14:(Op.bytesLess (((rd_T93 x5_2 x7_3).f0).toList) (((rd_T93 l0 x6_2).f0).toList))=true
       ·rw [if_pos c14] at H
        have c14b0:(Op.bytesLess (((rd_T93 x5_2 x7_3).f0).toList) (((rd_T93 l0 x6_2).f0).toList))=true:=c14
        clear c14
        have H':=Aside0.mk H
        clear H
        try go_wp2
        replace HO_5:=Aside0.mk (Kd.R_drew HO_5.out)
        replace HB:=Aside0.mk (below_drew1 HB.out)
        obtain ⟨Ao16,co16,eo16⟩:=Kd.R_slice HO_5.out
        (first|subst eo16|(injection eo16 with f1_ f2_ f3_;have f4_:=f1_.symm;have f5_:=f3_.symm;clear f1_ f2_ f3_;subst f4_;subst f5_))
        have p173:0≤(x7_3:Int):=of_decide_eq_true qA
        have q173:x7_3<(x5_2.length:Int):=of_decide_eq_true qA
        obtain ⟨ad173,e173,hx173_0,hx173_1⟩:=at_T93 (Kd.R_reads' HO_5.out).2.2 x7_3 p173 q173
        cases e173
        replace p173:=eq_true p173
        replace q173:=eq_true q173
        have p174:0≤(x6_2:Int):=of_decide_eq_true qA
        have q174:x6_2<(l0.length:Int):=of_decide_eq_true qA
        obtain ⟨ad174,e174,hx174_0,hx174_1⟩:=at_T93 HR0.out x6_2 p174 q174
        have hw174_1:=hx174_1
        have hw174_0:=hx174_0
        cases e174
        replace hx174_0:=(HB.out.cell (World.block_lt_of_cell? w _ hx174_0)).trans hx174_0
        replace hx174_1:=(HB.out.cell (World.block_lt_of_cell? w _ hx174_1)).trans hx174_1
        replace p174:=eq_true p174
        replace q174:=eq_true q174
        refine start_ (n:=17) (S:=fun w'=>w'.cell? (ad173.add ((x7_3).toNat * 2))=some (.string ((rd_T93 x5_2 x7_3).f0))∧w'.cell? ⟨(ad173.add ((x7_3).toNat * 2)).block,(ad173.add ((x7_3).toNat * 2)).off+1,none⟩=some (.string ((rd_T93 x5_2 x7_3).f1))∧w'.cell? (ad174.add ((x6_2).toNat * 2))=some (.string ((rd_T93 l0 x6_2).f0))∧w'.cell? ⟨(ad174.add ((x6_2).toNat * 2)).block,(ad174.add ((x6_2).toNat * 2)).off+1,none⟩=some (.string ((rd_T93 l0 x6_2).f1))) (ds:=[]) #[false,false,false,false,false,false,false,false,false,false,false,false,false,false,false,false,false] qK rfl rfl ⟨hx173_0,hx173_1,((HB.out.cell (World.block_lt_of_cell? w _ hw174_0)).trans hw174_0),((HB.out.cell (World.block_lt_of_cell? w _ hw174_1)).trans hw174_1)⟩ (fun hHeld=>?_);refine with_tabW ebbtideref03_Canon.tab13 ebbtideref03_Canon.bits13 (fun HT_ HW_=>?_)
        generalize wr.drew=w15 at HO_5 HB hx173_0 hx173_1 hx174_0 hx174_1 hHeld ⊢
        refine pure_ (i:=0) (N:=some 30) (v:=?_) (a':=?_) #[true,false,false,false,false,false,false,false,false,false,false,false,false,false,false,false,false] rfl rfl (any_of HT_.out qK) (fun _ _ _ h=>h) (Or.inl ⟨by rfl,?_⟩) ?_ ?_
        rotate_left
        ·intro w';go_simp;with_reducible rfl
        rotate_left
        ·simp only [Act.put,List.setIfInBounds_toArray,List.set_cons_zero,List.set_cons_succ,i64_w,i32_w];rfl
        refine pure_ (i:=1) (N:=some 31) (v:=?_) (a':=?_) #[true,true,false,false,false,false,false,false,false,false,false,false,false,false,false,false,false] rfl rfl (any_of HT_.out qK) (fun _ _ _ h=>h) (Or.inl ⟨by rfl,?_⟩) ?_ ?_
        rotate_left
        ·intro w';go_simp;with_reducible rfl
        rotate_left
        ·simp only [Act.put,List.setIfInBounds_toArray,List.set_cons_zero,List.set_cons_succ,i64_w,i32_w];rfl
        refine pure_ (i:=2) (N:=some 32) (v:=?_) (a':=?_) #[true,true,true,false,false,false,false,false,false,false,false,false,false,false,false,false,false] rfl rfl (any_of HT_.out qK) (fun _ _ _ h=>h) (Or.inl ⟨by rfl,?_⟩) ?_ ?_
        rotate_left
        ·intro w';go_simp;with_reducible rfl
        rotate_left
        ·simp only [Act.put,List.setIfInBounds_toArray,List.set_cons_zero,List.set_cons_succ,i64_w,i32_w];rfl
        refine pure_ (i:=3) (N:=some 33) (v:=?_) (a':=?_) #[true,true,true,true,false,false,false,false,false,false,false,false,false,false,false,false,false] rfl rfl (any_of HT_.out qK) (fun _ _ _ h=>h) (Or.inl ⟨by rfl,?_⟩) ?_ ?_
        rotate_left
        ·intro w';go_simp;with_reducible rfl
        rotate_left
        ·simp only [Act.put,List.setIfInBounds_toArray,List.set_cons_zero,List.set_cons_succ,i64_w,i32_w];rfl
        refine pure_ (i:=4) (N:=some 34) (v:=?_) (a':=?_) #[true,true,true,true,true,false,false,false,false,false,false,false,false,false,false,false,false] rfl rfl (any_of HT_.out qK) (fun _ _ _ h=>h) (Or.inl ⟨by rfl,?_⟩) ?_ ?_
        rotate_left
        ·intro w';go_simp;with_reducible rfl
        rotate_left
        ·simp only [Act.put,List.setIfInBounds_toArray,List.set_cons_zero,List.set_cons_succ,i64_w,i32_w];rfl
        refine pure_ (i:=5) (N:=some 35) (v:=?_) (a':=?_) #[true,true,true,true,true,true,false,false,false,false,false,false,false,false,false,false,false] rfl rfl (any_of HT_.out qK) (fun _ _ _ h=>h) (Or.inl ⟨by rfl,?_⟩) ?_ ?_
        rotate_left
        ·intro w';go_simp;with_reducible rfl
        rotate_left
        ·simp only [Act.put,List.setIfInBounds_toArray,List.set_cons_zero,List.set_cons_succ,i64_w,i32_w];rfl
        refine pure_ (i:=6) (N:=some 36) (v:=?_) (a':=?_) #[true,true,true,true,true,true,true,false,false,false,false,false,false,false,false,false,false] rfl rfl (any_of HT_.out qK) (fun _ _ _ h=>h) (Or.inl ⟨by rfl,?_⟩) ?_ ?_
        rotate_left
        ·intro w';go_simp;with_reducible rfl
        rotate_left
        ·simp only [Act.put,List.setIfInBounds_toArray,List.set_cons_zero,List.set_cons_succ,i64_w,i32_w];rfl
        refine pure_ (i:=7) (N:=some 37) (v:=?_) (a':=?_) #[true,true,true,true,true,true,true,true,false,false,false,false,false,false,false,false,false] rfl rfl (any_of HT_.out qK) (fun _ _ _ h=>h) (Or.inl ⟨by rfl,?_⟩) ?_ ?_
        rotate_left
        ·intro w';go_simp;with_reducible rfl
        rotate_left
        ·simp only [Act.put,List.setIfInBounds_toArray,List.set_cons_zero,List.set_cons_succ,i64_w,i32_w];rfl
        refine pure_ (i:=8) (N:=some 38) (v:=?_) (a':=?_) #[true,true,true,true,true,true,true,true,true,false,false,false,false,false,false,false,false] rfl rfl (any_of HT_.out qK) (fun _ _ _ h=>h) (Or.inl ⟨by rfl,?_⟩) ?_ ?_
        rotate_left
        ·intro w';go_simp;with_reducible rfl
        rotate_left
        ·simp only [Act.put,List.setIfInBounds_toArray,List.set_cons_zero,List.set_cons_succ,i64_w,i32_w];rfl
        refine pure_ (i:=10) (N:=some 40) (v:=?_) (a':=?_) #[true,true,true,true,true,true,true,true,true,false,true,false,false,false,false,false,false] rfl rfl (any_of HT_.out qK) (fun _ _ _ h=>h) (Or.inl ⟨by rfl,?_⟩) ?_ ?_
        rotate_left
        ·intro w';go_simp;with_reducible rfl
        rotate_left
        ·simp only [Act.put,List.setIfInBounds_toArray,List.set_cons_zero,List.set_cons_succ,i64_w,i32_w];rfl
        refine pure_ (i:=11) (N:=some 41) (v:=?_) (a':=?_) #[true,true,true,true,true,true,true,true,true,false,true,true,false,false,false,false,false] rfl rfl (any_of HT_.out qK) (fun _ _ _ h=>h) (Or.inl ⟨by rfl,?_⟩) ?_ ?_
        rotate_left
        ·intro w';go_simp;with_reducible rfl
        rotate_left
        ·simp only [Act.put,List.setIfInBounds_toArray,List.set_cons_zero,List.set_cons_succ,i64_w,i32_w];rfl
        refine pure_ (i:=12) (N:=some 42) (v:=?_) (a':=?_) #[true,true,true,true,true,true,true,true,true,false,true,true,true,false,false,false,false] rfl rfl (any_of HT_.out qK) (fun _ _ _ h=>h) (Or.inl ⟨by rfl,?_⟩) ?_ ?_
        rotate_left
        ·intro w';go_simp;with_reducible rfl
        rotate_left
        ·simp only [Act.put,List.setIfInBounds_toArray,List.set_cons_zero,List.set_cons_succ,i64_w,i32_w];rfl
        refine pure_ (i:=13) (N:=some 43) (v:=?_) (a':=?_) #[true,true,true,true,true,true,true,true,true,false,true,true,true,true,false,false,false] rfl rfl (any_of HT_.out qK) (fun _ _ _ h=>h) (Or.inl ⟨by rfl,?_⟩) ?_ ?_
        rotate_left
        ·intro w';go_simp;with_reducible rfl
        rotate_left
        ·simp only [Act.put,List.setIfInBounds_toArray,List.set_cons_zero,List.set_cons_succ,i64_w,i32_w];rfl
        refine take_ (i:=9) (N:=some 39) (v:=?_) (a':=?_) #[true,true,true,true,true,true,true,true,true,true,true,true,true,true,false,false,false] rfl rfl (take_ofW HT_.out HW_.out qK) (fun _ _ _ h=>h) (Or.inl ⟨by rfl,?_⟩) hHeld ?_ ?_
        rotate_left
        ·rintro w' ⟨s0,s1,s2,s3⟩;go_simp;with_reducible rfl
        rotate_left
        ·simp only [Act.put,List.setIfInBounds_toArray,List.set_cons_zero,List.set_cons_succ,i64_w,i32_w];rfl
        refine take_ (i:=14) (N:=some 44) (v:=?_) (a':=?_) #[true,true,true,true,true,true,true,true,true,true,true,true,true,true,true,false,false] rfl rfl (take_ofW HT_.out HW_.out qK) (fun _ _ _ h=>h) (Or.inl ⟨by rfl,?_⟩) hHeld ?_ ?_
        rotate_left
        ·rintro w' ⟨s0,s1,s2,s3⟩;go_simp;with_reducible rfl
        rotate_left
        ·simp only [Act.put,List.setIfInBounds_toArray,List.set_cons_zero,List.set_cons_succ,i64_w,i32_w];rfl
        refine pure_ (i:=15) (N:=some 45) (v:=?_) (a':=?_) #[true,true,true,true,true,true,true,true,true,true,true,true,true,true,true,true,false] rfl rfl (any_of HT_.out qK) (fun _ _ _ h=>h) (Or.inl ⟨by rfl,?_⟩) ?_ ?_
        rotate_left
        ·intro w';go_simp;with_reducible rfl
        rotate_left
        ·simp only [Act.put,List.setIfInBounds_toArray,List.set_cons_zero,List.set_cons_succ,i64_w,i32_w];rfl
        refine pure_ (i:=16) (N:=some 46) (v:=?_) (a':=?_) #[true,true,true,true,true,true,true,true,true,true,true,true,true,true,true,true,true] rfl rfl (any_of HT_.out qK) (fun _ _ _ h=>h) (Or.inl ⟨by rfl,?_⟩) ?_ ?_
        rotate_left
        ·intro w';go_simp;with_reducible rfl
        rotate_left
        ·simp only [Act.put,List.setIfInBounds_toArray,List.set_cons_zero,List.set_cons_succ,i64_w,i32_w];rfl
        refine done_ (done_of HT_.out qK) ?_
        try go_wp2
        go_roundg k3
        case measure=>have:=HK1.out;have:=HK2.out;have:=HK3.out;omega
        case rel=>exact ⟨(wrap64 (x7_3+1)),qS,H',⟨by have:=HK1.out;have:=HK2.out;have:=HK3.out;omega⟩,⟨qR HO_5⟩,⟨qB⟩⟩
       rw [if_neg c14] at H
       have c14b0:(Op.bytesLess (((rd_T93 x5_2 x7_3).f0).toList) (((rd_T93 l0 x6_2).f0).toList))=false:=by simpa using c14
       clear c14
       by_cases c17:((rd_T93 x5_2 x7_3).f0).toList=((rd_T93 l0 x6_2).f0).toList
       ·rw [if_pos c17] at H
        have c17b0:(((rd_T93 x5_2 x7_3).f0).toList ==((rd_T93 l0 x6_2).f0).toList)=true:=beq_iff_eq.mpr c17
        have c17b1:(((rd_T93 x5_2 x7_3).f0).toList != ((rd_T93 l0 x6_2).f0).toList)=false:=bne_eq_false_iff_eq.mpr c17
        clear c17
        simp only [Option.some.injEq,Prod.mk.injEq] at H
        obtain ⟨rfl,rfl⟩:=H
        try go_wp2
        replace HO_5:=Aside0.mk (Kd.R_drew HO_5.out)
        replace HB:=Aside0.mk (below_drew1 HB.out)
        obtain ⟨Ao19,co19,eo19⟩:=Kd.R_slice HO_5.out
        (first|subst eo19|(injection eo19 with f1_ f2_ f3_;have f4_:=f1_.symm;have f5_:=f3_.symm;clear f1_ f2_ f3_;subst f4_;subst f5_))
        have p173:0≤(x7_3:Int):=of_decide_eq_true qA
        have q173:x7_3<(x5_2.length:Int):=of_decide_eq_true qA
        obtain ⟨ad173,e173,hx173_0,hx173_1⟩:=at_T93 (Kd.R_reads' HO_5.out).2.2 x7_3 p173 q173
        cases e173
        replace p173:=eq_true p173
        replace q173:=eq_true q173
        have p174:0≤(x6_2:Int):=of_decide_eq_true qA
        have q174:x6_2<(l0.length:Int):=of_decide_eq_true qA
        obtain ⟨ad174,e174,hx174_0,hx174_1⟩:=at_T93 HR0.out x6_2 p174 q174
        have hw174_1:=hx174_1
        have hw174_0:=hx174_0
        cases e174
        replace hx174_0:=(HB.out.cell (World.block_lt_of_cell? w _ hx174_0)).trans hx174_0
        replace hx174_1:=(HB.out.cell (World.block_lt_of_cell? w _ hx174_1)).trans hx174_1
        replace p174:=eq_true p174
        replace q174:=eq_true q174
        refine start_ (n:=17) (S:=fun w'=>w'.cell? (ad173.add ((x7_3).toNat * 2))=some (.string ((rd_T93 x5_2 x7_3).f0))∧w'.cell? ⟨(ad173.add ((x7_3).toNat * 2)).block,(ad173.add ((x7_3).toNat * 2)).off+1,none⟩=some (.string ((rd_T93 x5_2 x7_3).f1))∧w'.cell? (ad174.add ((x6_2).toNat * 2))=some (.string ((rd_T93 l0 x6_2).f0))∧w'.cell? ⟨(ad174.add ((x6_2).toNat * 2)).block,(ad174.add ((x6_2).toNat * 2)).off+1,none⟩=some (.string ((rd_T93 l0 x6_2).f1))) (ds:=[]) #[false,false,false,false,false,false,false,false,false,false,false,false,false,false,false,false,false] qK rfl rfl ⟨hx173_0,hx173_1,((HB.out.cell (World.block_lt_of_cell? w _ hw174_0)).trans hw174_0),((HB.out.cell (World.block_lt_of_cell? w _ hw174_1)).trans hw174_1)⟩ (fun hHeld=>?_);refine with_tabW ebbtideref03_Canon.tab13 ebbtideref03_Canon.bits13 (fun HT_ HW_=>?_)
        generalize wr.drew=w18 at HO_5 HB hx173_0 hx173_1 hx174_0 hx174_1 hHeld ⊢
        refine pure_ (i:=0) (N:=some 30) (v:=?_) (a':=?_) #[true,false,false,false,false,false,false,false,false,false,false,false,false,false,false,false,false] rfl rfl (any_of HT_.out qK) (fun _ _ _ h=>h) (Or.inl ⟨by rfl,?_⟩) ?_ ?_
        rotate_left
        ·intro w';go_simp;with_reducible rfl
        rotate_left
        ·simp only [Act.put,List.setIfInBounds_toArray,List.set_cons_zero,List.set_cons_succ,i64_w,i32_w];rfl
        refine pure_ (i:=1) (N:=some 31) (v:=?_) (a':=?_) #[true,true,false,false,false,false,false,false,false,false,false,false,false,false,false,false,false] rfl rfl (any_of HT_.out qK) (fun _ _ _ h=>h) (Or.inl ⟨by rfl,?_⟩) ?_ ?_
        rotate_left
        ·intro w';go_simp;with_reducible rfl
        rotate_left
        ·simp only [Act.put,List.setIfInBounds_toArray,List.set_cons_zero,List.set_cons_succ,i64_w,i32_w];rfl
        refine pure_ (i:=2) (N:=some 32) (v:=?_) (a':=?_) #[true,true,true,false,false,false,false,false,false,false,false,false,false,false,false,false,false] rfl rfl (any_of HT_.out qK) (fun _ _ _ h=>h) (Or.inl ⟨by rfl,?_⟩) ?_ ?_
        rotate_left
        ·intro w';go_simp;with_reducible rfl
        rotate_left
        ·simp only [Act.put,List.setIfInBounds_toArray,List.set_cons_zero,List.set_cons_succ,i64_w,i32_w];rfl
        refine pure_ (i:=3) (N:=some 33) (v:=?_) (a':=?_) #[true,true,true,true,false,false,false,false,false,false,false,false,false,false,false,false,false] rfl rfl (any_of HT_.out qK) (fun _ _ _ h=>h) (Or.inl ⟨by rfl,?_⟩) ?_ ?_
        rotate_left
        ·intro w';go_simp;with_reducible rfl
        rotate_left
        ·simp only [Act.put,List.setIfInBounds_toArray,List.set_cons_zero,List.set_cons_succ,i64_w,i32_w];rfl
        refine pure_ (i:=4) (N:=some 34) (v:=?_) (a':=?_) #[true,true,true,true,true,false,false,false,false,false,false,false,false,false,false,false,false] rfl rfl (any_of HT_.out qK) (fun _ _ _ h=>h) (Or.inl ⟨by rfl,?_⟩) ?_ ?_
        rotate_left
        ·intro w';go_simp;with_reducible rfl
        rotate_left
        ·simp only [Act.put,List.setIfInBounds_toArray,List.set_cons_zero,List.set_cons_succ,i64_w,i32_w];rfl
        refine pure_ (i:=5) (N:=some 35) (v:=?_) (a':=?_) #[true,true,true,true,true,true,false,false,false,false,false,false,false,false,false,false,false] rfl rfl (any_of HT_.out qK) (fun _ _ _ h=>h) (Or.inl ⟨by rfl,?_⟩) ?_ ?_
        rotate_left
        ·intro w';go_simp;with_reducible rfl
        rotate_left
        ·simp only [Act.put,List.setIfInBounds_toArray,List.set_cons_zero,List.set_cons_succ,i64_w,i32_w];rfl
        refine pure_ (i:=6) (N:=some 36) (v:=?_) (a':=?_) #[true,true,true,true,true,true,true,false,false,false,false,false,false,false,false,false,false] rfl rfl (any_of HT_.out qK) (fun _ _ _ h=>h) (Or.inl ⟨by rfl,?_⟩) ?_ ?_
        rotate_left
        ·intro w';go_simp;with_reducible rfl
        rotate_left
        ·simp only [Act.put,List.setIfInBounds_toArray,List.set_cons_zero,List.set_cons_succ,i64_w,i32_w];rfl
        refine pure_ (i:=7) (N:=some 37) (v:=?_) (a':=?_) #[true,true,true,true,true,true,true,true,false,false,false,false,false,false,false,false,false] rfl rfl (any_of HT_.out qK) (fun _ _ _ h=>h) (Or.inl ⟨by rfl,?_⟩) ?_ ?_
        rotate_left
        ·intro w';go_simp;with_reducible rfl
        rotate_left
        ·simp only [Act.put,List.setIfInBounds_toArray,List.set_cons_zero,List.set_cons_succ,i64_w,i32_w];rfl
        refine pure_ (i:=8) (N:=some 38) (v:=?_) (a':=?_) #[true,true,true,true,true,true,true,true,true,false,false,false,false,false,false,false,false] rfl rfl (any_of HT_.out qK) (fun _ _ _ h=>h) (Or.inl ⟨by rfl,?_⟩) ?_ ?_
        rotate_left
        ·intro w';go_simp;with_reducible rfl
        rotate_left
        ·simp only [Act.put,List.setIfInBounds_toArray,List.set_cons_zero,List.set_cons_succ,i64_w,i32_w];rfl
        refine pure_ (i:=10) (N:=some 40) (v:=?_) (a':=?_) #[true,true,true,true,true,true,true,true,true,false,true,false,false,false,false,false,false] rfl rfl (any_of HT_.out qK) (fun _ _ _ h=>h) (Or.inl ⟨by rfl,?_⟩) ?_ ?_
        rotate_left
        ·intro w';go_simp;with_reducible rfl
        rotate_left
        ·simp only [Act.put,List.setIfInBounds_toArray,List.set_cons_zero,List.set_cons_succ,i64_w,i32_w];rfl
        refine pure_ (i:=11) (N:=some 41) (v:=?_) (a':=?_) #[true,true,true,true,true,true,true,true,true,false,true,true,false,false,false,false,false] rfl rfl (any_of HT_.out qK) (fun _ _ _ h=>h) (Or.inl ⟨by rfl,?_⟩) ?_ ?_
        rotate_left
        ·intro w';go_simp;with_reducible rfl
        rotate_left
        ·simp only [Act.put,List.setIfInBounds_toArray,List.set_cons_zero,List.set_cons_succ,i64_w,i32_w];rfl
        refine pure_ (i:=12) (N:=some 42) (v:=?_) (a':=?_) #[true,true,true,true,true,true,true,true,true,false,true,true,true,false,false,false,false] rfl rfl (any_of HT_.out qK) (fun _ _ _ h=>h) (Or.inl ⟨by rfl,?_⟩) ?_ ?_
        rotate_left
        ·intro w';go_simp;with_reducible rfl
        rotate_left
        ·simp only [Act.put,List.setIfInBounds_toArray,List.set_cons_zero,List.set_cons_succ,i64_w,i32_w];rfl
        refine pure_ (i:=13) (N:=some 43) (v:=?_) (a':=?_) #[true,true,true,true,true,true,true,true,true,false,true,true,true,true,false,false,false] rfl rfl (any_of HT_.out qK) (fun _ _ _ h=>h) (Or.inl ⟨by rfl,?_⟩) ?_ ?_
        rotate_left
        ·intro w';go_simp;with_reducible rfl
        rotate_left
        ·simp only [Act.put,List.setIfInBounds_toArray,List.set_cons_zero,List.set_cons_succ,i64_w,i32_w];rfl
        refine take_ (i:=9) (N:=some 39) (v:=?_) (a':=?_) #[true,true,true,true,true,true,true,true,true,true,true,true,true,true,false,false,false] rfl rfl (take_ofW HT_.out HW_.out qK) (fun _ _ _ h=>h) (Or.inl ⟨by rfl,?_⟩) hHeld ?_ ?_
        rotate_left
        ·rintro w' ⟨s0,s1,s2,s3⟩;go_simp;with_reducible rfl
        rotate_left
        ·simp only [Act.put,List.setIfInBounds_toArray,List.set_cons_zero,List.set_cons_succ,i64_w,i32_w];rfl
        refine take_ (i:=14) (N:=some 44) (v:=?_) (a':=?_) #[true,true,true,true,true,true,true,true,true,true,true,true,true,true,true,false,false] rfl rfl (take_ofW HT_.out HW_.out qK) (fun _ _ _ h=>h) (Or.inl ⟨by rfl,?_⟩) hHeld ?_ ?_
        rotate_left
        ·rintro w' ⟨s0,s1,s2,s3⟩;go_simp;with_reducible rfl
        rotate_left
        ·simp only [Act.put,List.setIfInBounds_toArray,List.set_cons_zero,List.set_cons_succ,i64_w,i32_w];rfl
        refine pure_ (i:=15) (N:=some 45) (v:=?_) (a':=?_) #[true,true,true,true,true,true,true,true,true,true,true,true,true,true,true,true,false] rfl rfl (any_of HT_.out qK) (fun _ _ _ h=>h) (Or.inl ⟨by rfl,?_⟩) ?_ ?_
        rotate_left
        ·intro w';go_simp;with_reducible rfl
        rotate_left
        ·simp only [Act.put,List.setIfInBounds_toArray,List.set_cons_zero,List.set_cons_succ,i64_w,i32_w];rfl
        refine pure_ (i:=16) (N:=some 46) (v:=?_) (a':=?_) #[true,true,true,true,true,true,true,true,true,true,true,true,true,true,true,true,true] rfl rfl (any_of HT_.out qK) (fun _ _ _ h=>h) (Or.inl ⟨by rfl,?_⟩) ?_ ?_
        rotate_left
        ·intro w';go_simp;with_reducible rfl
        rotate_left
        ·simp only [Act.put,List.setIfInBounds_toArray,List.set_cons_zero,List.set_cons_succ,i64_w,i32_w];rfl
        refine done_ (done_of HT_.out qK) ?_
        try go_wp2
        replace HO_5:=Aside0.mk (Kd.R_drew HO_5.out)
        replace HB:=Aside0.mk (below_drew1 HB.out)
        have p175:0≤(x7_3:Int):=of_decide_eq_true qA
        have q175:x7_3<(x5_2.length:Int):=of_decide_eq_true qA
        obtain ⟨ad175,e175,hx175_0,hx175_1⟩:=at_T93 (Kd.R_reads' HO_5.out).2.2 x7_3 p175 q175
        obtain rfl:ad173=ad175:=(by injection e175)
        replace p175:=eq_true p175
        replace q175:=eq_true q175
        have p176:0≤(x6_2:Int):=of_decide_eq_true qA
        have q176:x6_2<(l0.length:Int):=of_decide_eq_true qA
        obtain ⟨ad176,e176,hx176_0,hx176_1⟩:=at_T93 HR0.out x6_2 p176 q176
        have hw176_1:=hx176_1
        have hw176_0:=hx176_0
        obtain rfl:ad174=ad176:=(by injection e176)
        replace hx176_0:=(HB.out.cell (World.block_lt_of_cell? w _ hx176_0)).trans hx176_0
        replace hx176_1:=(HB.out.cell (World.block_lt_of_cell? w _ hx176_1)).trans hx176_1
        replace p176:=eq_true p176
        replace q176:=eq_true q176
        refine start_ (n:=17) (S:=fun w'=>w'.cell? (ad173.add ((x7_3).toNat * 2))=some (.string ((rd_T93 x5_2 x7_3).f0))∧w'.cell? ⟨(ad173.add ((x7_3).toNat * 2)).block,(ad173.add ((x7_3).toNat * 2)).off+1,none⟩=some (.string ((rd_T93 x5_2 x7_3).f1))∧w'.cell? (ad174.add ((x6_2).toNat * 2))=some (.string ((rd_T93 l0 x6_2).f0))∧w'.cell? ⟨(ad174.add ((x6_2).toNat * 2)).block,(ad174.add ((x6_2).toNat * 2)).off+1,none⟩=some (.string ((rd_T93 l0 x6_2).f1))) (ds:=[]) #[false,false,false,false,false,false,false,false,false,false,false,false,false,false,false,false,false] qK rfl rfl ⟨hx175_0,hx175_1,((HB.out.cell (World.block_lt_of_cell? w _ hw176_0)).trans hw176_0),((HB.out.cell (World.block_lt_of_cell? w _ hw176_1)).trans hw176_1)⟩ (fun hHeld=>?_);refine with_tabW ebbtideref03_Canon.tab15 ebbtideref03_Canon.bits15 (fun HT_ HW_=>?_)
        generalize w18.drew=w20 at HO_5 HB hx175_0 hx175_1 hx176_0 hx176_1 hHeld ⊢
        refine pure_ (i:=0) (N:=some 49) (v:=?_) (a':=?_) #[true,false,false,false,false,false,false,false,false,false,false,false,false,false,false,false,false] rfl rfl (any_of HT_.out qK) (fun _ _ _ h=>h) (Or.inl ⟨by rfl,?_⟩) ?_ ?_
        rotate_left
        ·intro w';go_simp;with_reducible rfl
        rotate_left
        ·simp only [Act.put,List.setIfInBounds_toArray,List.set_cons_zero,List.set_cons_succ,i64_w,i32_w];rfl
        refine pure_ (i:=1) (N:=some 50) (v:=?_) (a':=?_) #[true,true,false,false,false,false,false,false,false,false,false,false,false,false,false,false,false] rfl rfl (any_of HT_.out qK) (fun _ _ _ h=>h) (Or.inl ⟨by rfl,?_⟩) ?_ ?_
        rotate_left
        ·intro w';go_simp;with_reducible rfl
        rotate_left
        ·simp only [Act.put,List.setIfInBounds_toArray,List.set_cons_zero,List.set_cons_succ,i64_w,i32_w];rfl
        refine pure_ (i:=2) (N:=some 51) (v:=?_) (a':=?_) #[true,true,true,false,false,false,false,false,false,false,false,false,false,false,false,false,false] rfl rfl (any_of HT_.out qK) (fun _ _ _ h=>h) (Or.inl ⟨by rfl,?_⟩) ?_ ?_
        rotate_left
        ·intro w';go_simp;with_reducible rfl
        rotate_left
        ·simp only [Act.put,List.setIfInBounds_toArray,List.set_cons_zero,List.set_cons_succ,i64_w,i32_w];rfl
        refine pure_ (i:=3) (N:=some 52) (v:=?_) (a':=?_) #[true,true,true,true,false,false,false,false,false,false,false,false,false,false,false,false,false] rfl rfl (any_of HT_.out qK) (fun _ _ _ h=>h) (Or.inl ⟨by rfl,?_⟩) ?_ ?_
        rotate_left
        ·intro w';go_simp;with_reducible rfl
        rotate_left
        ·simp only [Act.put,List.setIfInBounds_toArray,List.set_cons_zero,List.set_cons_succ,i64_w,i32_w];rfl
        refine pure_ (i:=4) (N:=some 53) (v:=?_) (a':=?_) #[true,true,true,true,true,false,false,false,false,false,false,false,false,false,false,false,false] rfl rfl (any_of HT_.out qK) (fun _ _ _ h=>h) (Or.inl ⟨by rfl,?_⟩) ?_ ?_
        rotate_left
        ·intro w';go_simp;with_reducible rfl
        rotate_left
        ·simp only [Act.put,List.setIfInBounds_toArray,List.set_cons_zero,List.set_cons_succ,i64_w,i32_w];rfl
        refine pure_ (i:=5) (N:=some 54) (v:=?_) (a':=?_) #[true,true,true,true,true,true,false,false,false,false,false,false,false,false,false,false,false] rfl rfl (any_of HT_.out qK) (fun _ _ _ h=>h) (Or.inl ⟨by rfl,?_⟩) ?_ ?_
        rotate_left
        ·intro w';go_simp;with_reducible rfl
        rotate_left
        ·simp only [Act.put,List.setIfInBounds_toArray,List.set_cons_zero,List.set_cons_succ,i64_w,i32_w];rfl
        refine pure_ (i:=6) (N:=some 55) (v:=?_) (a':=?_) #[true,true,true,true,true,true,true,false,false,false,false,false,false,false,false,false,false] rfl rfl (any_of HT_.out qK) (fun _ _ _ h=>h) (Or.inl ⟨by rfl,?_⟩) ?_ ?_
        rotate_left
        ·intro w';go_simp;with_reducible rfl
        rotate_left
        ·simp only [Act.put,List.setIfInBounds_toArray,List.set_cons_zero,List.set_cons_succ,i64_w,i32_w];rfl
        refine pure_ (i:=7) (N:=some 56) (v:=?_) (a':=?_) #[true,true,true,true,true,true,true,true,false,false,false,false,false,false,false,false,false] rfl rfl (any_of HT_.out qK) (fun _ _ _ h=>h) (Or.inl ⟨by rfl,?_⟩) ?_ ?_
        rotate_left
        ·intro w';go_simp;with_reducible rfl
        rotate_left
        ·simp only [Act.put,List.setIfInBounds_toArray,List.set_cons_zero,List.set_cons_succ,i64_w,i32_w];rfl
        refine pure_ (i:=8) (N:=some 57) (v:=?_) (a':=?_) #[true,true,true,true,true,true,true,true,true,false,false,false,false,false,false,false,false] rfl rfl (any_of HT_.out qK) (fun _ _ _ h=>h) (Or.inl ⟨by rfl,?_⟩) ?_ ?_
        rotate_left
        ·intro w';go_simp;with_reducible rfl
        rotate_left
        ·simp only [Act.put,List.setIfInBounds_toArray,List.set_cons_zero,List.set_cons_succ,i64_w,i32_w];rfl
        refine pure_ (i:=10) (N:=some 59) (v:=?_) (a':=?_) #[true,true,true,true,true,true,true,true,true,false,true,false,false,false,false,false,false] rfl rfl (any_of HT_.out qK) (fun _ _ _ h=>h) (Or.inl ⟨by rfl,?_⟩) ?_ ?_
        rotate_left
        ·intro w';go_simp;with_reducible rfl
        rotate_left
        ·simp only [Act.put,List.setIfInBounds_toArray,List.set_cons_zero,List.set_cons_succ,i64_w,i32_w];rfl
        refine pure_ (i:=11) (N:=some 60) (v:=?_) (a':=?_) #[true,true,true,true,true,true,true,true,true,false,true,true,false,false,false,false,false] rfl rfl (any_of HT_.out qK) (fun _ _ _ h=>h) (Or.inl ⟨by rfl,?_⟩) ?_ ?_
        rotate_left
        ·intro w';go_simp;with_reducible rfl
        rotate_left
        ·simp only [Act.put,List.setIfInBounds_toArray,List.set_cons_zero,List.set_cons_succ,i64_w,i32_w];rfl
        refine pure_ (i:=12) (N:=some 61) (v:=?_) (a':=?_) #[true,true,true,true,true,true,true,true,true,false,true,true,true,false,false,false,false] rfl rfl (any_of HT_.out qK) (fun _ _ _ h=>h) (Or.inl ⟨by rfl,?_⟩) ?_ ?_
        rotate_left
        ·intro w';go_simp;with_reducible rfl
        rotate_left
        ·simp only [Act.put,List.setIfInBounds_toArray,List.set_cons_zero,List.set_cons_succ,i64_w,i32_w];rfl
        refine pure_ (i:=13) (N:=some 62) (v:=?_) (a':=?_) #[true,true,true,true,true,true,true,true,true,false,true,true,true,true,false,false,false] rfl rfl (any_of HT_.out qK) (fun _ _ _ h=>h) (Or.inl ⟨by rfl,?_⟩) ?_ ?_
        rotate_left
        ·intro w';go_simp;with_reducible rfl
        rotate_left
        ·simp only [Act.put,List.setIfInBounds_toArray,List.set_cons_zero,List.set_cons_succ,i64_w,i32_w];rfl
        refine take_ (i:=9) (N:=some 58) (v:=?_) (a':=?_) #[true,true,true,true,true,true,true,true,true,true,true,true,true,true,false,false,false] rfl rfl (take_ofW HT_.out HW_.out qK) (fun _ _ _ h=>h) (Or.inl ⟨by rfl,?_⟩) hHeld ?_ ?_
        rotate_left
        ·rintro w' ⟨s0,s1,s2,s3⟩;go_simp;with_reducible rfl
        rotate_left
        ·simp only [Act.put,List.setIfInBounds_toArray,List.set_cons_zero,List.set_cons_succ,i64_w,i32_w];rfl
        refine take_ (i:=14) (N:=some 63) (v:=?_) (a':=?_) #[true,true,true,true,true,true,true,true,true,true,true,true,true,true,true,false,false] rfl rfl (take_ofW HT_.out HW_.out qK) (fun _ _ _ h=>h) (Or.inl ⟨by rfl,?_⟩) hHeld ?_ ?_
        rotate_left
        ·rintro w' ⟨s0,s1,s2,s3⟩;go_simp;with_reducible rfl
        rotate_left
        ·simp only [Act.put,List.setIfInBounds_toArray,List.set_cons_zero,List.set_cons_succ,i64_w,i32_w];rfl
        refine pure_ (i:=15) (N:=some 64) (v:=?_) (a':=?_) #[true,true,true,true,true,true,true,true,true,true,true,true,true,true,true,true,false] rfl rfl (any_of HT_.out qK) (fun _ _ _ h=>h) (Or.inl ⟨by rfl,?_⟩) ?_ ?_
        rotate_left
        ·intro w';go_simp;with_reducible rfl
        rotate_left
        ·simp only [Act.put,List.setIfInBounds_toArray,List.set_cons_zero,List.set_cons_succ,i64_w,i32_w];rfl
        refine pure_ (i:=16) (N:=some 65) (v:=?_) (a':=?_) #[true,true,true,true,true,true,true,true,true,true,true,true,true,true,true,true,true] rfl rfl (any_of HT_.out qK) (fun _ _ _ h=>h) (Or.inl ⟨by rfl,?_⟩) ?_ ?_
        rotate_left
        ·intro w';go_simp;with_reducible rfl
        rotate_left
        ·simp only [Act.put,List.setIfInBounds_toArray,List.set_cons_zero,List.set_cons_succ,i64_w,i32_w];rfl
        refine done_ (done_of HT_.out qK) ?_
        try go_wp2
        go_ret2
        exact ⟨_,qE,qN,qB⟩
       rw [if_neg c17] at H
       have c17b0:(((rd_T93 x5_2 x7_3).f0).toList ==((rd_T93 l0 x6_2).f0).toList)=false:=beq_eq_false_iff_ne.mpr c17
       have c17b1:(((rd_T93 x5_2 x7_3).f0).toList != ((rd_T93 l0 x6_2).f0).toList)=true:=bne_iff_ne.mpr c17
       obtain ⟨y177,hy177⟩:∃ y_:List (S93),y_=(([]:List (S93))):=⟨_,rfl⟩
       replace H:(if x7_3≤(x5_2.length:Int) then ((some (x5_2.drop (x7_3:Int).toNat:List (S93))).bind fun y180=>(if y177.length+y180.length<4398046511104 then ((some (y177++y180:List (S93))).bind fun y184=>((some (x5_2.take (x7_3:Int).toNat:List (S93))).bind fun y187=>(if y187.length<4398046511104 then ((some (y187++[(⟨(rd_T93 l0 x6_2).f0,(rd_T93 l0 x6_2).f1⟩:S93)]:List (S93))).bind fun y191=>(if y191.length+y184.length<4398046511104 then (ebbtideref03_Canon.l1 k3 l0 (y191++y184) (wrap64 (x6_2+1))) else (none))) else (none)))) else (none))) else (none))=some (r1,r2):=by first|(rw [hy177];with_reducible exact H)|(have H2_:=(Option.bind_some _ _).symm.trans H;rw [hy177];with_reducible exact H2_)|(have H2_:=(Option.bind_some _ _).symm.trans H;with_reducible exact H2_)|with_reducible exact H|(rw [hy177];exact H)|exact H
       have Ny177:=Aside0.mk hy177
       clear hy177
       have c21b0:=eq_true (of_decide_eq_true qA:0≤x7_3)
       by_cases c22:x7_3≤(x5_2.length:Int)
       rotate_left
       ·rw [if_neg c22] at H
        exact absurd H (by simp)
       rw [if_pos c22] at H
       have c22b0:=eq_true c22
       have c22b1:decide (x7_3≤(x5_2.length:Int))=true:=decide_eq_true c22
       clear c22
       obtain ⟨y180,hy180⟩:∃ y_:List (S93),y_=(x5_2.drop (x7_3:Int).toNat):=⟨_,rfl⟩
       replace H:(if y177.length+y180.length<4398046511104 then ((some (y177++y180:List (S93))).bind fun y184=>((some (x5_2.take (x7_3:Int).toNat:List (S93))).bind fun y187=>(if y187.length<4398046511104 then ((some (y187++[(⟨(rd_T93 l0 x6_2).f0,(rd_T93 l0 x6_2).f1⟩:S93)]:List (S93))).bind fun y191=>(if y191.length+y184.length<4398046511104 then (ebbtideref03_Canon.l1 k3 l0 (y191++y184) (wrap64 (x6_2+1))) else (none))) else (none)))) else (none))=some (r1,r2):=by first|(rw [hy180];with_reducible exact H)|(have H2_:=(Option.bind_some _ _).symm.trans H;rw [hy180];with_reducible exact H2_)|(have H2_:=(Option.bind_some _ _).symm.trans H;with_reducible exact H2_)|with_reducible exact H|(rw [hy180];exact H)|exact H
       have Ny180:=Aside0.mk hy180
       clear hy180
       by_cases c23:y177.length+y180.length<4398046511104
       rotate_left
       ·rw [if_neg c23] at H
        exact absurd H (by simp)
       rw [if_pos c23] at H
       have LMc23:=Aside0.mk c23
       clear c23
       obtain ⟨y184,hy184⟩:∃ y_:List (S93),y_=(y177++y180):=⟨_,rfl⟩
       replace H:((some (x5_2.take (x7_3:Int).toNat:List (S93))).bind fun y187=>(if y187.length<4398046511104 then ((some (y187++[(⟨(rd_T93 l0 x6_2).f0,(rd_T93 l0 x6_2).f1⟩:S93)]:List (S93))).bind fun y191=>(if y191.length+y184.length<4398046511104 then (ebbtideref03_Canon.l1 k3 l0 (y191++y184) (wrap64 (x6_2+1))) else (none))) else (none)))=some (r1,r2):=by first|(rw [hy184];with_reducible exact H)|(have H2_:=(Option.bind_some _ _).symm.trans H;rw [hy184];with_reducible exact H2_)|(have H2_:=(Option.bind_some _ _).symm.trans H;with_reducible exact H2_)|with_reducible exact H|(rw [hy184];exact H)|exact H
       have Ny184:=Aside0.mk hy184
       clear hy184
       have c24b0:=eq_true (of_decide_eq_true qA:x7_3≤(x5_2.length:Int))
       obtain ⟨y187,hy187⟩:∃ y_:List (S93),y_=(x5_2.take (x7_3:Int).toNat):=⟨_,rfl⟩
       replace H:(if y187.length<4398046511104 then ((some (y187++[(⟨(rd_T93 l0 x6_2).f0,(rd_T93 l0 x6_2).f1⟩:S93)]:List (S93))).bind fun y191=>(if y191.length+y184.length<4398046511104 then (ebbtideref03_Canon.l1 k3 l0 (y191++y184) (wrap64 (x6_2+1))) else (none))) else (none))=some (r1,r2):=by first|(rw [hy187];with_reducible exact H)|(have H2_:=(Option.bind_some _ _).symm.trans H;rw [hy187];with_reducible exact H2_)|(have H2_:=(Option.bind_some _ _).symm.trans H;with_reducible exact H2_)|with_reducible exact H|(rw [hy187];exact H)|exact H
       have Ny187:=Aside0.mk hy187
       clear hy187
       by_cases c25:y187.length<4398046511104
       rotate_left
       ·rw [if_neg c25] at H
        exact absurd H (by simp)
       rw [if_pos c25] at H
       have LMc25:=Aside0.mk c25
       clear c25
       obtain ⟨y191,hy191⟩:∃ y_:List (S93),y_=(y187++[(⟨(rd_T93 l0 x6_2).f0,(rd_T93 l0 x6_2).f1⟩:S93)]):=⟨_,rfl⟩
       replace H:(if y191.length+y184.length<4398046511104 then (ebbtideref03_Canon.l1 k3 l0 (y191++y184) (wrap64 (x6_2+1))) else (none))=some (r1,r2):=by first|(rw [hy191];with_reducible exact H)|(have H2_:=(Option.bind_some _ _).symm.trans H;rw [hy191];with_reducible exact H2_)|(have H2_:=(Option.bind_some _ _).symm.trans H;with_reducible exact H2_)|with_reducible exact H|(rw [hy191];exact H)|exact H
       have Ny191:=Aside0.mk hy191
       clear hy191
       by_cases c26:y191.length+y184.length<4398046511104
       rotate_left
       ·rw [if_neg c26] at H
        exact absurd H (by simp)
       rw [if_pos c26] at H
       have LMc26:=Aside0.mk c26
       clear c26
       obtain ⟨y194,hy194⟩:∃ y_:List (S93),y_=(y191++y184):=⟨_,rfl⟩
       replace H:(ebbtideref03_Canon.l1 k3 l0 y194 (wrap64 (x6_2+1)))=some (r1,r2):=by first|(rw [hy194];with_reducible exact H)|(have H2_:=(Option.bind_some _ _).symm.trans H;rw [hy194];with_reducible exact H2_)|(have H2_:=(Option.bind_some _ _).symm.trans H;with_reducible exact H2_)|with_reducible exact H|(rw [hy194];exact H)|exact H
       have Ny194:=Aside0.mk hy194
       clear hy194
       have H':=Aside0.mk H
       clear H
       try go_wp2
       replace HO_5:=Aside0.mk (Kd.R_drew HO_5.out)
       replace HB:=Aside0.mk (below_drew1 HB.out)
       obtain ⟨Ao28,co28,eo28⟩:=Kd.R_slice HO_5.out
       (first|subst eo28|(injection eo28 with f1_ f2_ f3_;have f4_:=f1_.symm;have f5_:=f3_.symm;clear f1_ f2_ f3_;subst f4_;subst f5_))
       have p173:0≤(x7_3:Int):=of_decide_eq_true qA
       have q173:x7_3<(x5_2.length:Int):=of_decide_eq_true qA
       obtain ⟨ad173,e173,hx173_0,hx173_1⟩:=at_T93 (Kd.R_reads' HO_5.out).2.2 x7_3 p173 q173
       cases e173
       replace p173:=eq_true p173
       replace q173:=eq_true q173
       have p174:0≤(x6_2:Int):=of_decide_eq_true qA
       have q174:x6_2<(l0.length:Int):=of_decide_eq_true qA
       obtain ⟨ad174,e174,hx174_0,hx174_1⟩:=at_T93 HR0.out x6_2 p174 q174
       have hw174_1:=hx174_1
       have hw174_0:=hx174_0
       cases e174
       replace hx174_0:=(HB.out.cell (World.block_lt_of_cell? w _ hx174_0)).trans hx174_0
       replace hx174_1:=(HB.out.cell (World.block_lt_of_cell? w _ hx174_1)).trans hx174_1
       replace p174:=eq_true p174
       replace q174:=eq_true q174
       refine start_ (n:=17) (S:=fun w'=>w'.cell? (ad173.add ((x7_3).toNat * 2))=some (.string ((rd_T93 x5_2 x7_3).f0))∧w'.cell? ⟨(ad173.add ((x7_3).toNat * 2)).block,(ad173.add ((x7_3).toNat * 2)).off+1,none⟩=some (.string ((rd_T93 x5_2 x7_3).f1))∧w'.cell? (ad174.add ((x6_2).toNat * 2))=some (.string ((rd_T93 l0 x6_2).f0))∧w'.cell? ⟨(ad174.add ((x6_2).toNat * 2)).block,(ad174.add ((x6_2).toNat * 2)).off+1,none⟩=some (.string ((rd_T93 l0 x6_2).f1))) (ds:=[]) #[false,false,false,false,false,false,false,false,false,false,false,false,false,false,false,false,false] qK rfl rfl ⟨hx173_0,hx173_1,((HB.out.cell (World.block_lt_of_cell? w _ hw174_0)).trans hw174_0),((HB.out.cell (World.block_lt_of_cell? w _ hw174_1)).trans hw174_1)⟩ (fun hHeld=>?_);refine with_tabW ebbtideref03_Canon.tab13 ebbtideref03_Canon.bits13 (fun HT_ HW_=>?_)
       generalize wr.drew=w27 at HO_5 HB hx173_0 hx173_1 hx174_0 hx174_1 hHeld ⊢
       refine pure_ (i:=0) (N:=some 30) (v:=?_) (a':=?_) #[true,false,false,false,false,false,false,false,false,false,false,false,false,false,false,false,false] rfl rfl (any_of HT_.out qK) (fun _ _ _ h=>h) (Or.inl ⟨by rfl,?_⟩) ?_ ?_
       rotate_left
       ·intro w';go_simp;with_reducible rfl
       rotate_left
       ·simp only [Act.put,List.setIfInBounds_toArray,List.set_cons_zero,List.set_cons_succ,i64_w,i32_w];rfl
       refine pure_ (i:=1) (N:=some 31) (v:=?_) (a':=?_) #[true,true,false,false,false,false,false,false,false,false,false,false,false,false,false,false,false] rfl rfl (any_of HT_.out qK) (fun _ _ _ h=>h) (Or.inl ⟨by rfl,?_⟩) ?_ ?_
       rotate_left
       ·intro w';go_simp;with_reducible rfl
       rotate_left
       ·simp only [Act.put,List.setIfInBounds_toArray,List.set_cons_zero,List.set_cons_succ,i64_w,i32_w];rfl
       refine pure_ (i:=2) (N:=some 32) (v:=?_) (a':=?_) #[true,true,true,false,false,false,false,false,false,false,false,false,false,false,false,false,false] rfl rfl (any_of HT_.out qK) (fun _ _ _ h=>h) (Or.inl ⟨by rfl,?_⟩) ?_ ?_
       rotate_left
       ·intro w';go_simp;with_reducible rfl
       rotate_left
       ·simp only [Act.put,List.setIfInBounds_toArray,List.set_cons_zero,List.set_cons_succ,i64_w,i32_w];rfl
       refine pure_ (i:=3) (N:=some 33) (v:=?_) (a':=?_) #[true,true,true,true,false,false,false,false,false,false,false,false,false,false,false,false,false] rfl rfl (any_of HT_.out qK) (fun _ _ _ h=>h) (Or.inl ⟨by rfl,?_⟩) ?_ ?_
       rotate_left
       ·intro w';go_simp;with_reducible rfl
       rotate_left
       ·simp only [Act.put,List.setIfInBounds_toArray,List.set_cons_zero,List.set_cons_succ,i64_w,i32_w];rfl
       refine pure_ (i:=4) (N:=some 34) (v:=?_) (a':=?_) #[true,true,true,true,true,false,false,false,false,false,false,false,false,false,false,false,false] rfl rfl (any_of HT_.out qK) (fun _ _ _ h=>h) (Or.inl ⟨by rfl,?_⟩) ?_ ?_
       rotate_left
       ·intro w';go_simp;with_reducible rfl
       rotate_left
       ·simp only [Act.put,List.setIfInBounds_toArray,List.set_cons_zero,List.set_cons_succ,i64_w,i32_w];rfl
       refine pure_ (i:=5) (N:=some 35) (v:=?_) (a':=?_) #[true,true,true,true,true,true,false,false,false,false,false,false,false,false,false,false,false] rfl rfl (any_of HT_.out qK) (fun _ _ _ h=>h) (Or.inl ⟨by rfl,?_⟩) ?_ ?_
       rotate_left
       ·intro w';go_simp;with_reducible rfl
       rotate_left
       ·simp only [Act.put,List.setIfInBounds_toArray,List.set_cons_zero,List.set_cons_succ,i64_w,i32_w];rfl
       refine pure_ (i:=6) (N:=some 36) (v:=?_) (a':=?_) #[true,true,true,true,true,true,true,false,false,false,false,false,false,false,false,false,false] rfl rfl (any_of HT_.out qK) (fun _ _ _ h=>h) (Or.inl ⟨by rfl,?_⟩) ?_ ?_
       rotate_left
       ·intro w';go_simp;with_reducible rfl
       rotate_left
       ·simp only [Act.put,List.setIfInBounds_toArray,List.set_cons_zero,List.set_cons_succ,i64_w,i32_w];rfl
       refine pure_ (i:=7) (N:=some 37) (v:=?_) (a':=?_) #[true,true,true,true,true,true,true,true,false,false,false,false,false,false,false,false,false] rfl rfl (any_of HT_.out qK) (fun _ _ _ h=>h) (Or.inl ⟨by rfl,?_⟩) ?_ ?_
       rotate_left
       ·intro w';go_simp;with_reducible rfl
       rotate_left
       ·simp only [Act.put,List.setIfInBounds_toArray,List.set_cons_zero,List.set_cons_succ,i64_w,i32_w];rfl
       refine pure_ (i:=8) (N:=some 38) (v:=?_) (a':=?_) #[true,true,true,true,true,true,true,true,true,false,false,false,false,false,false,false,false] rfl rfl (any_of HT_.out qK) (fun _ _ _ h=>h) (Or.inl ⟨by rfl,?_⟩) ?_ ?_
       rotate_left
       ·intro w';go_simp;with_reducible rfl
       rotate_left
       ·simp only [Act.put,List.setIfInBounds_toArray,List.set_cons_zero,List.set_cons_succ,i64_w,i32_w];rfl
       refine pure_ (i:=10) (N:=some 40) (v:=?_) (a':=?_) #[true,true,true,true,true,true,true,true,true,false,true,false,false,false,false,false,false] rfl rfl (any_of HT_.out qK) (fun _ _ _ h=>h) (Or.inl ⟨by rfl,?_⟩) ?_ ?_
       rotate_left
       ·intro w';go_simp;with_reducible rfl
       rotate_left
       ·simp only [Act.put,List.setIfInBounds_toArray,List.set_cons_zero,List.set_cons_succ,i64_w,i32_w];rfl
       refine pure_ (i:=11) (N:=some 41) (v:=?_) (a':=?_) #[true,true,true,true,true,true,true,true,true,false,true,true,false,false,false,false,false] rfl rfl (any_of HT_.out qK) (fun _ _ _ h=>h) (Or.inl ⟨by rfl,?_⟩) ?_ ?_
       rotate_left
       ·intro w';go_simp;with_reducible rfl
       rotate_left
       ·simp only [Act.put,List.setIfInBounds_toArray,List.set_cons_zero,List.set_cons_succ,i64_w,i32_w];rfl
       refine pure_ (i:=12) (N:=some 42) (v:=?_) (a':=?_) #[true,true,true,true,true,true,true,true,true,false,true,true,true,false,false,false,false] rfl rfl (any_of HT_.out qK) (fun _ _ _ h=>h) (Or.inl ⟨by rfl,?_⟩) ?_ ?_
       rotate_left
       ·intro w';go_simp;with_reducible rfl
       rotate_left
       ·simp only [Act.put,List.setIfInBounds_toArray,List.set_cons_zero,List.set_cons_succ,i64_w,i32_w];rfl
       refine pure_ (i:=13) (N:=some 43) (v:=?_) (a':=?_) #[true,true,true,true,true,true,true,true,true,false,true,true,true,true,false,false,false] rfl rfl (any_of HT_.out qK) (fun _ _ _ h=>h) (Or.inl ⟨by rfl,?_⟩) ?_ ?_
       rotate_left
       ·intro w';go_simp;with_reducible rfl
       rotate_left
       ·simp only [Act.put,List.setIfInBounds_toArray,List.set_cons_zero,List.set_cons_succ,i64_w,i32_w];rfl
       refine take_ (i:=9) (N:=some 39) (v:=?_) (a':=?_) #[true,true,true,true,true,true,true,true,true,true,true,true,true,true,false,false,false] rfl rfl (take_ofW HT_.out HW_.out qK) (fun _ _ _ h=>h) (Or.inl ⟨by rfl,?_⟩) hHeld ?_ ?_
       rotate_left
       ·rintro w' ⟨s0,s1,s2,s3⟩;go_simp;with_reducible rfl
       rotate_left
       ·simp only [Act.put,List.setIfInBounds_toArray,List.set_cons_zero,List.set_cons_succ,i64_w,i32_w];rfl
       refine take_ (i:=14) (N:=some 44) (v:=?_) (a':=?_) #[true,true,true,true,true,true,true,true,true,true,true,true,true,true,true,false,false] rfl rfl (take_ofW HT_.out HW_.out qK) (fun _ _ _ h=>h) (Or.inl ⟨by rfl,?_⟩) hHeld ?_ ?_
       rotate_left
       ·rintro w' ⟨s0,s1,s2,s3⟩;go_simp;with_reducible rfl
       rotate_left
       ·simp only [Act.put,List.setIfInBounds_toArray,List.set_cons_zero,List.set_cons_succ,i64_w,i32_w];rfl
       refine pure_ (i:=15) (N:=some 45) (v:=?_) (a':=?_) #[true,true,true,true,true,true,true,true,true,true,true,true,true,true,true,true,false] rfl rfl (any_of HT_.out qK) (fun _ _ _ h=>h) (Or.inl ⟨by rfl,?_⟩) ?_ ?_
       rotate_left
       ·intro w';go_simp;with_reducible rfl
       rotate_left
       ·simp only [Act.put,List.setIfInBounds_toArray,List.set_cons_zero,List.set_cons_succ,i64_w,i32_w];rfl
       refine pure_ (i:=16) (N:=some 46) (v:=?_) (a':=?_) #[true,true,true,true,true,true,true,true,true,true,true,true,true,true,true,true,true] rfl rfl (any_of HT_.out qK) (fun _ _ _ h=>h) (Or.inl ⟨by rfl,?_⟩) ?_ ?_
       rotate_left
       ·intro w';go_simp;with_reducible rfl
       rotate_left
       ·simp only [Act.put,List.setIfInBounds_toArray,List.set_cons_zero,List.set_cons_succ,i64_w,i32_w];rfl
       refine done_ (done_of HT_.out qK) ?_
       try go_wp2
       replace HO_5:=Aside0.mk (Kd.R_drew HO_5.out)
       replace HB:=Aside0.mk (below_drew1 HB.out)
       have p175:0≤(x7_3:Int):=of_decide_eq_true qA
       have q175:x7_3<(x5_2.length:Int):=of_decide_eq_true qA
       obtain ⟨ad175,e175,hx175_0,hx175_1⟩:=at_T93 (Kd.R_reads' HO_5.out).2.2 x7_3 p175 q175
       obtain rfl:ad173=ad175:=(by injection e175)
       replace p175:=eq_true p175
       replace q175:=eq_true q175
       have p176:0≤(x6_2:Int):=of_decide_eq_true qA
       have q176:x6_2<(l0.length:Int):=of_decide_eq_true qA
       obtain ⟨ad176,e176,hx176_0,hx176_1⟩:=at_T93 HR0.out x6_2 p176 q176
       have hw176_1:=hx176_1
       have hw176_0:=hx176_0
       obtain rfl:ad174=ad176:=(by injection e176)
       replace hx176_0:=(HB.out.cell (World.block_lt_of_cell? w _ hx176_0)).trans hx176_0
       replace hx176_1:=(HB.out.cell (World.block_lt_of_cell? w _ hx176_1)).trans hx176_1
       replace p176:=eq_true p176
       replace q176:=eq_true q176
       refine start_ (n:=17) (S:=fun w'=>w'.cell? (ad173.add ((x7_3).toNat * 2))=some (.string ((rd_T93 x5_2 x7_3).f0))∧w'.cell? ⟨(ad173.add ((x7_3).toNat * 2)).block,(ad173.add ((x7_3).toNat * 2)).off+1,none⟩=some (.string ((rd_T93 x5_2 x7_3).f1))∧w'.cell? (ad174.add ((x6_2).toNat * 2))=some (.string ((rd_T93 l0 x6_2).f0))∧w'.cell? ⟨(ad174.add ((x6_2).toNat * 2)).block,(ad174.add ((x6_2).toNat * 2)).off+1,none⟩=some (.string ((rd_T93 l0 x6_2).f1))) (ds:=[]) #[false,false,false,false,false,false,false,false,false,false,false,false,false,false,false,false,false] qK rfl rfl ⟨hx175_0,hx175_1,((HB.out.cell (World.block_lt_of_cell? w _ hw176_0)).trans hw176_0),((HB.out.cell (World.block_lt_of_cell? w _ hw176_1)).trans hw176_1)⟩ (fun hHeld=>?_);refine with_tabW ebbtideref03_Canon.tab15 ebbtideref03_Canon.bits15 (fun HT_ HW_=>?_)
       generalize w27.drew=w29 at HO_5 HB hx175_0 hx175_1 hx176_0 hx176_1 hHeld ⊢
       refine pure_ (i:=0) (N:=some 49) (v:=?_) (a':=?_) #[true,false,false,false,false,false,false,false,false,false,false,false,false,false,false,false,false] rfl rfl (any_of HT_.out qK) (fun _ _ _ h=>h) (Or.inl ⟨by rfl,?_⟩) ?_ ?_
       rotate_left
       ·intro w';go_simp;with_reducible rfl
       rotate_left
       ·simp only [Act.put,List.setIfInBounds_toArray,List.set_cons_zero,List.set_cons_succ,i64_w,i32_w];rfl
       refine pure_ (i:=1) (N:=some 50) (v:=?_) (a':=?_) #[true,true,false,false,false,false,false,false,false,false,false,false,false,false,false,false,false] rfl rfl (any_of HT_.out qK) (fun _ _ _ h=>h) (Or.inl ⟨by rfl,?_⟩) ?_ ?_
       rotate_left
       ·intro w';go_simp;with_reducible rfl
       rotate_left
       ·simp only [Act.put,List.setIfInBounds_toArray,List.set_cons_zero,List.set_cons_succ,i64_w,i32_w];rfl
       refine pure_ (i:=2) (N:=some 51) (v:=?_) (a':=?_) #[true,true,true,false,false,false,false,false,false,false,false,false,false,false,false,false,false] rfl rfl (any_of HT_.out qK) (fun _ _ _ h=>h) (Or.inl ⟨by rfl,?_⟩) ?_ ?_
       rotate_left
       ·intro w';go_simp;with_reducible rfl
       rotate_left
       ·simp only [Act.put,List.setIfInBounds_toArray,List.set_cons_zero,List.set_cons_succ,i64_w,i32_w];rfl
       refine pure_ (i:=3) (N:=some 52) (v:=?_) (a':=?_) #[true,true,true,true,false,false,false,false,false,false,false,false,false,false,false,false,false] rfl rfl (any_of HT_.out qK) (fun _ _ _ h=>h) (Or.inl ⟨by rfl,?_⟩) ?_ ?_
       rotate_left
       ·intro w';go_simp;with_reducible rfl
       rotate_left
       ·simp only [Act.put,List.setIfInBounds_toArray,List.set_cons_zero,List.set_cons_succ,i64_w,i32_w];rfl
       refine pure_ (i:=4) (N:=some 53) (v:=?_) (a':=?_) #[true,true,true,true,true,false,false,false,false,false,false,false,false,false,false,false,false] rfl rfl (any_of HT_.out qK) (fun _ _ _ h=>h) (Or.inl ⟨by rfl,?_⟩) ?_ ?_
       rotate_left
       ·intro w';go_simp;with_reducible rfl
       rotate_left
       ·simp only [Act.put,List.setIfInBounds_toArray,List.set_cons_zero,List.set_cons_succ,i64_w,i32_w];rfl
       refine pure_ (i:=5) (N:=some 54) (v:=?_) (a':=?_) #[true,true,true,true,true,true,false,false,false,false,false,false,false,false,false,false,false] rfl rfl (any_of HT_.out qK) (fun _ _ _ h=>h) (Or.inl ⟨by rfl,?_⟩) ?_ ?_
       rotate_left
       ·intro w';go_simp;with_reducible rfl
       rotate_left
       ·simp only [Act.put,List.setIfInBounds_toArray,List.set_cons_zero,List.set_cons_succ,i64_w,i32_w];rfl
       refine pure_ (i:=6) (N:=some 55) (v:=?_) (a':=?_) #[true,true,true,true,true,true,true,false,false,false,false,false,false,false,false,false,false] rfl rfl (any_of HT_.out qK) (fun _ _ _ h=>h) (Or.inl ⟨by rfl,?_⟩) ?_ ?_
       rotate_left
       ·intro w';go_simp;with_reducible rfl
       rotate_left
       ·simp only [Act.put,List.setIfInBounds_toArray,List.set_cons_zero,List.set_cons_succ,i64_w,i32_w];rfl
       refine pure_ (i:=7) (N:=some 56) (v:=?_) (a':=?_) #[true,true,true,true,true,true,true,true,false,false,false,false,false,false,false,false,false] rfl rfl (any_of HT_.out qK) (fun _ _ _ h=>h) (Or.inl ⟨by rfl,?_⟩) ?_ ?_
       rotate_left
       ·intro w';go_simp;with_reducible rfl
       rotate_left
       ·simp only [Act.put,List.setIfInBounds_toArray,List.set_cons_zero,List.set_cons_succ,i64_w,i32_w];rfl
       refine pure_ (i:=8) (N:=some 57) (v:=?_) (a':=?_) #[true,true,true,true,true,true,true,true,true,false,false,false,false,false,false,false,false] rfl rfl (any_of HT_.out qK) (fun _ _ _ h=>h) (Or.inl ⟨by rfl,?_⟩) ?_ ?_
       rotate_left
       ·intro w';go_simp;with_reducible rfl
       rotate_left
       ·simp only [Act.put,List.setIfInBounds_toArray,List.set_cons_zero,List.set_cons_succ,i64_w,i32_w];rfl
       refine pure_ (i:=10) (N:=some 59) (v:=?_) (a':=?_) #[true,true,true,true,true,true,true,true,true,false,true,false,false,false,false,false,false] rfl rfl (any_of HT_.out qK) (fun _ _ _ h=>h) (Or.inl ⟨by rfl,?_⟩) ?_ ?_
       rotate_left
       ·intro w';go_simp;with_reducible rfl
       rotate_left
       ·simp only [Act.put,List.setIfInBounds_toArray,List.set_cons_zero,List.set_cons_succ,i64_w,i32_w];rfl
       refine pure_ (i:=11) (N:=some 60) (v:=?_) (a':=?_) #[true,true,true,true,true,true,true,true,true,false,true,true,false,false,false,false,false] rfl rfl (any_of HT_.out qK) (fun _ _ _ h=>h) (Or.inl ⟨by rfl,?_⟩) ?_ ?_
       rotate_left
       ·intro w';go_simp;with_reducible rfl
       rotate_left
       ·simp only [Act.put,List.setIfInBounds_toArray,List.set_cons_zero,List.set_cons_succ,i64_w,i32_w];rfl
       refine pure_ (i:=12) (N:=some 61) (v:=?_) (a':=?_) #[true,true,true,true,true,true,true,true,true,false,true,true,true,false,false,false,false] rfl rfl (any_of HT_.out qK) (fun _ _ _ h=>h) (Or.inl ⟨by rfl,?_⟩) ?_ ?_
       rotate_left
       ·intro w';go_simp;with_reducible rfl
       rotate_left
       ·simp only [Act.put,List.setIfInBounds_toArray,List.set_cons_zero,List.set_cons_succ,i64_w,i32_w];rfl
       refine pure_ (i:=13) (N:=some 62) (v:=?_) (a':=?_) #[true,true,true,true,true,true,true,true,true,false,true,true,true,true,false,false,false] rfl rfl (any_of HT_.out qK) (fun _ _ _ h=>h) (Or.inl ⟨by rfl,?_⟩) ?_ ?_
       rotate_left
       ·intro w';go_simp;with_reducible rfl
       rotate_left
       ·simp only [Act.put,List.setIfInBounds_toArray,List.set_cons_zero,List.set_cons_succ,i64_w,i32_w];rfl
       refine take_ (i:=9) (N:=some 58) (v:=?_) (a':=?_) #[true,true,true,true,true,true,true,true,true,true,true,true,true,true,false,false,false] rfl rfl (take_ofW HT_.out HW_.out qK) (fun _ _ _ h=>h) (Or.inl ⟨by rfl,?_⟩) hHeld ?_ ?_
       rotate_left
       ·rintro w' ⟨s0,s1,s2,s3⟩;go_simp;with_reducible rfl
       rotate_left
       ·simp only [Act.put,List.setIfInBounds_toArray,List.set_cons_zero,List.set_cons_succ,i64_w,i32_w];rfl
       refine take_ (i:=14) (N:=some 63) (v:=?_) (a':=?_) #[true,true,true,true,true,true,true,true,true,true,true,true,true,true,true,false,false] rfl rfl (take_ofW HT_.out HW_.out qK) (fun _ _ _ h=>h) (Or.inl ⟨by rfl,?_⟩) hHeld ?_ ?_
       rotate_left
       ·rintro w' ⟨s0,s1,s2,s3⟩;go_simp;with_reducible rfl
       rotate_left
       ·simp only [Act.put,List.setIfInBounds_toArray,List.set_cons_zero,List.set_cons_succ,i64_w,i32_w];rfl
       refine pure_ (i:=15) (N:=some 64) (v:=?_) (a':=?_) #[true,true,true,true,true,true,true,true,true,true,true,true,true,true,true,true,false] rfl rfl (any_of HT_.out qK) (fun _ _ _ h=>h) (Or.inl ⟨by rfl,?_⟩) ?_ ?_
       rotate_left
       ·intro w';go_simp;with_reducible rfl
       rotate_left
       ·simp only [Act.put,List.setIfInBounds_toArray,List.set_cons_zero,List.set_cons_succ,i64_w,i32_w];rfl
       refine pure_ (i:=16) (N:=some 65) (v:=?_) (a':=?_) #[true,true,true,true,true,true,true,true,true,true,true,true,true,true,true,true,true] rfl rfl (any_of HT_.out qK) (fun _ _ _ h=>h) (Or.inl ⟨by rfl,?_⟩) ?_ ?_
       rotate_left
       ·intro w';go_simp;with_reducible rfl
       rotate_left
       ·simp only [Act.put,List.setIfInBounds_toArray,List.set_cons_zero,List.set_cons_succ,i64_w,i32_w];rfl
       refine done_ (done_of HT_.out qK) ?_
       try go_wp2_with (first|((with_reducible refine gate_dst (N:=66) rfl ?_);refine Kd.R_lit k93 _ 93 ?hg (N:=66) ?hd (xs:=([]:List (S93))) (inner:=[]) (ok:=fun _=>True) (okp:=fun _=>True) ?hr ?hp (fun _ hk=>hk) trivial (Below.refl _ _) (Nat.le_refl _) (by simp) ?_;(case hd=>rfl);(case hg=>rfl);(case hr=>first|(go_simp;done)|(go_simp;rfl));(case hp=>exact (Reps.none _ _));intro v178 w30 ho31 hb hg_ hnew_;clear hg_ hnew_;(first|rw [← Ny177.out] at ho31|(simp only [Int.reduceToNat] at ho31;rw [← Ny177.out] at ho31));have HO179:=Aside0.mk (Kd.R_lower (Kd.R_new' ho31 (Kd.R_lt (qR HO_5))) (below_size qB));replace HO_5:=Aside0.mk (Kd.R_elder' (qR HO_5) (Kd.R_base ho31) hb);replace HB:=Aside0.mk (below_step qB hb);clear hb ho31;have q32:(x7_3:Int)≤((x5_2.length:Int):Int):=of_decide_eq_true qA;obtain ⟨i032,hi032,_,hsz32,_⟩:=info_parts info93;have hroom32:x5_2.length≤co28:=(Kd.R_reads' HO_5.out).2.1;have hC32:Kd.C k93 _ (some ad173) x5_2.length x5_2:=(Kd.R_reads' HO_5.out).2.2;have q032:(0:Int)≤(x7_3:Int):=of_decide_eq_true qA;have hcut32:=cut_from (P:=Tryz.prog) 34 93 .i64 Tryz.underlying34 hi032 2 hsz32 (some ad173) x5_2.length co28 x7_3 q032 q32;have hr32:=Kd.C_drop (m:=(x7_3:Int).toNat) (c:=co28) hC32 (by omega) hroom32;obtain ⟨A32,hA32⟩:∃ A1,A1=(if co28=(x7_3:Int).toNat then (some ad173) else ((some ad173):Option Addr).map (·.add ((x7_3:Int).toNat * 2))):=⟨_,rfl⟩;obtain ⟨c32,hc32⟩:∃ c1,c1=co28 - (x7_3:Int).toNat:=⟨_,rfl⟩;have hy32:y180.length=x5_2.length - (x7_3:Int).toNat:=(by rw [Ny180.out,List.length_drop]<;>omega);rw [show (x5_2).drop (x7_3:Int).toNat=y180 from Ny180.out.symm] at hr32;replace hr32:Kd.C k93 _ A32 y180.length y180:=(by rw [hA32];exact hr32);rw [← hy32,← hA32,← hc32] at hcut32;have HR183:=Aside0.mk hr32;have HC183:=Aside0.mk (show y180.length≤c32 from by rw [hy32,hc32];exact Nat.sub_le_sub_right hroom32 _);clear hr32 hC32 hroom32 hi032 hsz32 hc32;have KY32:=Aside0.mk hy32;have KA32:=Aside0.mk hA32;clear hy32 hA32;have KL32:=Aside0.mk (show (x7_3:Int).toNat≤x5_2.length from by omega);replace q32:=eq_true q32)|((with_reducible refine gate_builtin (b := .append) (xs:=#[.tmp 66, .tmp 69]) rfl ?_);at_builtin;refine Kd.R_append_rows k93 (w0:=w) w.heap.size rfl (.tmp 66) (.tmp 69) 34 93 (.agg #[(.string ⟨#[]⟩),(.string ⟨#[]⟩)]) 32 rfl Tryz.underlying34 info93 rfl (by decide) (by omega) v178 y177 y180 _ _ _ (fun k_=>some k_≠(.slice (some ad173) x5_2.length co28:Value).ownBlock) (fun _=>False) rfl rfl ?aO ?aR (fun _ _ h=>h) (fun _ h=>h.elim) ?aF ?aB ?aS ?aL ?_;(case aR=>repeat (first|exact (by repeat (first|(with_reducible exact HR183.out)|(with_reducible refine Kd.C_alloc ?_ _)|(with_reducible refine Kd.C_drewN ?_ _)|(with_reducible refine Kd.C_drew ?_)|exact HR183.out))|(with_reducible refine Kd.C_alloc ?_ _)|(with_reducible refine Kd.C_drewN ?_ _)|(with_reducible refine Kd.C_drew ?_)));(case aB=>exact qB);(case aF=>exact (fun k_ hk=>Kd.fresh' (Kd.R_lt (qR HO_5)) k_ hk));(case aO=>exact (by (with_reducible repeat (first|apply Kd.R_alloc|apply Kd.R_drewN|apply Kd.R_drew));exact Kd.R_mono HO179.out (fun _ hk=>hk.2)));(case aS=>exact (below_size qB));(case aL=>have:=LMc23.out;omega);intro v185 w33 ho hb hg hat;rw [← Ny184.out] at ho;replace HB:=Aside0.mk hb;replace HR183:=Aside0.mk ((show Kd.C k93 w33 A32 y180.length y180 from by rw [Ny180.out,KA32.out];exact Kd.C_drop (m:=(x7_3:Int).toNat) (c:=co28) ((Kd.R_reads' (Kd.R_after (ok:=(fun _=>True)) (qR HO_5) hg hat)).2.2) KL32.out ((Kd.R_reads' (Kd.R_after (ok:=(fun _=>True)) (qR HO_5) hg hat)).2.1)));replace HO_5:=Aside0.mk (Kd.R_after (ok:=(fun _=>True)) (qR HO_5) hg hat);have HO186:=Aside0.mk ho;clear HO179;clear ho hb hg hat))
       replace HO_5:=Aside0.mk (Kd.R_drew HO_5.out)
       replace HO186:=Aside0.mk (Kd.R_drew HO186.out)
       replace HR183:=Aside0.mk (Kd.C_drew HR183.out)
       replace HB:=Aside0.mk (below_drew1 HB.out)
       have q35:(x7_3:Int)≤((x5_2.length:Int):Int):=of_decide_eq_true qA
       obtain ⟨i035,hi035,_,hsz35,_⟩:=info_parts info93
       have hcut35:=cut_to (P:=Tryz.prog) 34 93 .i64 Tryz.underlying34 hi035 (some ad173) x5_2.length co28 x7_3 (of_decide_eq_true qA) q35 (Kd.R_reads' HO_5.out).2.1
       have hr35:=Kd.R_take (m:=(x7_3:Int).toNat) HO_5.out (by omega)
       have hy35:y187.length=(x7_3:Int).toNat:=(by rw [Ny187.out,List.length_take];omega)
       rw [← Ny187.out] at hr35
       rw [← hy35] at hr35 hcut35
       clear hy35 hi035 hsz35 HO_5
       have HO189:=Aside0.mk hr35
       clear hr35
       replace q35:=eq_true q35
       have p190:0≤(x6_2:Int):=of_decide_eq_true qA
       have q190:x6_2<(l0.length:Int):=of_decide_eq_true qA
       obtain ⟨ad190,e190,hx190_0,hx190_1⟩:=at_T93 HR0.out x6_2 p190 q190
       have hw190_1:=hx190_1
       have hw190_0:=hx190_0
       obtain rfl:ad174=ad190:=(by injection e190)
       replace hx190_0:=(HB.out.cell (World.block_lt_of_cell? w _ hx190_0)).trans hx190_0
       replace hx190_1:=(HB.out.cell (World.block_lt_of_cell? w _ hx190_1)).trans hx190_1
       replace p190:=eq_true p190
       replace q190:=eq_true q190
       refine start_ (n:=12) (S:=fun w'=>w'.cell? (ad174.add ((x6_2).toNat * 2))=some (.string ((rd_T93 l0 x6_2).f0))∧w'.cell? ⟨(ad174.add ((x6_2).toNat * 2)).block,(ad174.add ((x6_2).toNat * 2)).off+1,none⟩=some (.string ((rd_T93 l0 x6_2).f1))) (ds:=[]) #[false,false,false,false,false,false,false,false,false,false,false,false] qK rfl rfl ⟨((HB.out.cell (World.block_lt_of_cell? w _ hw190_0)).trans hw190_0),((HB.out.cell (World.block_lt_of_cell? w _ hw190_1)).trans hw190_1)⟩ (fun hHeld=>?_);refine with_tabW ebbtideref03_Canon.tab18 ebbtideref03_Canon.bits18 (fun HT_ HW_=>?_)
       generalize w33.drew=w34 at HO_5 HO186 HR183 HB HO189 hx190_0 hx190_1 hHeld ⊢
       refine pure_ (i:=0) (N:=some 71) (v:=?_) (a':=?_) #[true,false,false,false,false,false,false,false,false,false,false,false] rfl rfl (any_of HT_.out qK) (fun _ _ _ h=>h) (Or.inl ⟨by rfl,?_⟩) ?_ ?_
       rotate_left
       ·intro w';go_simp;with_reducible rfl
       rotate_left
       ·simp only [Act.put,List.setIfInBounds_toArray,List.set_cons_zero,List.set_cons_succ,i64_w,i32_w];rfl
       refine pure_ (i:=1) (N:=some 72) (v:=?_) (a':=?_) #[true,true,false,false,false,false,false,false,false,false,false,false] rfl rfl (any_of HT_.out qK) (fun _ _ _ h=>h) (Or.inl ⟨by rfl,?_⟩) ?_ ?_
       rotate_left
       ·intro w';go_simp;with_reducible rfl
       rotate_left
       ·simp only [Act.put,List.setIfInBounds_toArray,List.set_cons_zero,List.set_cons_succ,i64_w,i32_w];rfl
       refine pure_ (i:=2) (N:=some 73) (v:=?_) (a':=?_) #[true,true,true,false,false,false,false,false,false,false,false,false] rfl rfl (any_of HT_.out qK) (fun _ _ _ h=>h) (Or.inl ⟨by rfl,?_⟩) ?_ ?_
       rotate_left
       ·intro w';go_simp;with_reducible rfl
       rotate_left
       ·simp only [Act.put,List.setIfInBounds_toArray,List.set_cons_zero,List.set_cons_succ,i64_w,i32_w];rfl
       refine pure_ (i:=3) (N:=some 74) (v:=?_) (a':=?_) #[true,true,true,true,false,false,false,false,false,false,false,false] rfl rfl (any_of HT_.out qK) (fun _ _ _ h=>h) (Or.inl ⟨by rfl,?_⟩) ?_ ?_
       rotate_left
       ·intro w';go_simp;with_reducible rfl
       rotate_left
       ·simp only [Act.put,List.setIfInBounds_toArray,List.set_cons_zero,List.set_cons_succ,i64_w,i32_w];rfl
       refine pure_ (i:=4) (N:=some 75) (v:=?_) (a':=?_) #[true,true,true,true,true,false,false,false,false,false,false,false] rfl rfl (any_of HT_.out qK) (fun _ _ _ h=>h) (Or.inl ⟨by rfl,?_⟩) ?_ ?_
       rotate_left
       ·intro w';go_simp;with_reducible rfl
       rotate_left
       ·simp only [Act.put,List.setIfInBounds_toArray,List.set_cons_zero,List.set_cons_succ,i64_w,i32_w];rfl
       refine pure_ (i:=5) (N:=some 76) (v:=?_) (a':=?_) #[true,true,true,true,true,true,false,false,false,false,false,false] rfl rfl (any_of HT_.out qK) (fun _ _ _ h=>h) (Or.inl ⟨by rfl,?_⟩) ?_ ?_
       rotate_left
       ·intro w';go_simp;with_reducible rfl
       rotate_left
       ·simp only [Act.put,List.setIfInBounds_toArray,List.set_cons_zero,List.set_cons_succ,i64_w,i32_w];rfl
       refine pure_ (i:=9) (N:=some 80) (v:=?_) (a':=?_) #[true,true,true,true,true,true,false,false,false,true,false,false] rfl rfl (any_of HT_.out qK) (fun _ _ _ h=>h) (Or.inl ⟨by rfl,?_⟩) ?_ ?_
       rotate_left
       ·intro w';go_simp;with_reducible rfl
       rotate_left
       ·simp only [Act.put,List.setIfInBounds_toArray,List.set_cons_zero,List.set_cons_succ,i64_w,i32_w];rfl
       refine take_ (i:=6) (N:=some 77) (v:=?_) (a':=?_) #[true,true,true,true,true,true,true,false,false,true,false,false] rfl rfl (take_ofW HT_.out HW_.out qK) (fun _ _ _ h=>h) (Or.inl ⟨by rfl,?_⟩) hHeld ?_ ?_
       rotate_left
       ·rintro w' ⟨s0,s1⟩;go_simp;with_reducible rfl
       rotate_left
       ·simp only [Act.put,List.setIfInBounds_toArray,List.set_cons_zero,List.set_cons_succ,i64_w,i32_w];rfl
       refine one_ (i:=7) (N:=some 78) #[true,true,true,true,true,true,true,true,false,true,false,false] rfl rfl (one_of HT_.out qK) (by decide) (fun K hK=>?_)
       refine value_ (w1:=?_) (v:=?_) (by rfl) rfl ?_ ?_
       rotate_left 2
       ·go_simp
        constructor
        ·rfl
        ·rfl
       refine hK.out _ _ ⟨(World.cell?_alloc_lt _ _ _ (World.block_lt_of_cell? _ _ (((HB.out.cell (World.block_lt_of_cell? w _ hw190_0)).trans hw190_0)))).trans (((HB.out.cell (World.block_lt_of_cell? w _ hw190_0)).trans hw190_0)),(World.cell?_alloc_lt _ _ _ (World.block_lt_of_cell? _ _ (((HB.out.cell (World.block_lt_of_cell? w _ hw190_1)).trans hw190_1)))).trans (((HB.out.cell (World.block_lt_of_cell? w _ hw190_1)).trans hw190_1))⟩ (fun hHeld=>?_)
       clear hK K
       refine norm_ (a':=?_) ?_ ?_
       rotate_left
       ·show Act.put _ (some 78) _=_
        simp only [Act.put,List.setIfInBounds_toArray,List.set_cons_zero,List.set_cons_succ,i64_w,i32_w]
        rfl
       refine one_ (i:=8) (N:=some 79) #[true,true,true,true,true,true,true,true,true,true,false,false] rfl rfl (one_of HT_.out qK) (by decide) (fun K hK=>?_)
       refine Kd.R_append_step k93 (w0:=w) w.heap.size (by rfl) (.tmp 73) (.tmp 78) 34 93 (.agg #[(.string ⟨#[]⟩),(.string ⟨#[]⟩)]) 32 rfl Tryz.underlying34 info93 rfl (by decide) (by omega) (.slice (some ad173) y187.length co28) y187 (⟨(rd_T93 l0 x6_2).f0,(rd_T93 l0 x6_2).f1⟩:S93) [.string ((rd_T93 l0 x6_2).f0), .string ((rd_T93 l0 x6_2).f1)] (fun k_=>some k_≠(v185:Value).ownBlock) (fun _=>False) rfl rfl ?aP (fun _ hk=>hk.elim) ?aF ?aO ?aB ?aS ?aL ?_
       (case aP=>exact k93_mkM _ _ _ (⟨(rd_T93 l0 x6_2).f0,(rd_T93 l0 x6_2).f1⟩:S93))
       (case aB=>exact qB)
       (case aF=>exact (fun k_ hk=>Kd.fresh' (Kd.R_lt (qR HO186)) k_ hk))
       (case aO=>exact (by (with_reducible repeat (first|apply Kd.R_alloc|apply Kd.R_drewN|apply Kd.R_drew));exact Kd.R_mono HO189.out (fun _ hk=>hk.2)))
       (case aS=>exact (below_size qB))
       (case aL=>have:=LMc25.out;omega)
       intro v192 w36 ho hb hg hat
       rw [← Ny191.out] at ho
       replace HO186:=Aside0.mk (Kd.R_after (ok:=(fun _=>True)) (by (with_reducible repeat (first|apply Kd.R_alloc|apply Kd.R_drewN|apply Kd.R_drew));exact Kd.R_mono HO186.out (fun _ hk=>⟨trivial,by first|exact hk|exact fun e_=>hk (e_.trans (Go.Proofs.YteaadaaghhojfaaGreatDoorW.XW.ob_len _ _ _ _ _))⟩)) hg hat)
       replace HB:=Aside0.mk hb
       have HO193:=Aside0.mk ho
       clear HO189
       clear ho hb hg hat
       obtain ⟨Ao38,co38,eo38⟩:=Kd.R_slice HO186.out
       (first|subst eo38|(injection eo38 with f1_ f2_ f3_;have f4_:=f1_.symm;have f5_:=f3_.symm;clear f1_ f2_ f3_;subst f4_;subst f5_))
       refine hK.out _ _ ⟨((HB.out.cell (World.block_lt_of_cell? w _ hw190_0)).trans hw190_0),((HB.out.cell (World.block_lt_of_cell? w _ hw190_1)).trans hw190_1)⟩ (fun hHeld=>?_)
       clear hK K
       refine norm_ (a':=?_) ?_ ?_
       rotate_left
       ·show Act.put _ (some 79) _=_
        simp only [Act.put,List.setIfInBounds_toArray,List.set_cons_zero,List.set_cons_succ,i64_w,i32_w]
        rfl
       refine one_ (i:=10) (N:=some 81) #[true,true,true,true,true,true,true,true,true,true,true,false] rfl rfl (one_of HT_.out qK) (by decide) (fun K hK=>?_)
       refine Kd.R_append_rows_step k93 (w0:=w) w.heap.size (by rfl) (.tmp 79) (.tmp 80) 34 93 (.agg #[(.string ⟨#[]⟩),(.string ⟨#[]⟩)]) 32 rfl Tryz.underlying34 info93 rfl (by decide) (by omega) v192 y191 y184 _ _ _ (fun k_=>some k_≠(.slice Ao38 y184.length co38:Value).ownBlock) (fun _=>False) rfl rfl ?aO ?aR (fun _ _ h=>h) (fun _ h=>h.elim) ?aF ?aB ?aS ?aL ?_
       (case aR=>repeat (first|exact (Kd.R_reads' HO186.out).2.2|(with_reducible refine Kd.C_alloc ?_ _)|(with_reducible refine Kd.C_drewN ?_ _)|(with_reducible refine Kd.C_drew ?_)))
       (case aB=>exact qB)
       (case aF=>exact (fun k_ hk=>Kd.fresh' (Kd.R_lt (qR HO186)) k_ hk))
       (case aO=>exact (qR HO193))
       (case aS=>exact (below_size qB))
       (case aL=>have:=LMc26.out;omega)
       intro v195 w37 ho hb hg hat
       rw [← Ny194.out] at ho
       replace HO186:=Aside0.mk (Kd.R_after (ok:=(fun _=>True)) (qR HO186) hg hat)
       replace HB:=Aside0.mk hb
       have HO196:=Aside0.mk ho
       clear HO193
       clear ho hb hg hat
       refine hK.out _ _ ⟨((HB.out.cell (World.block_lt_of_cell? w _ hw190_0)).trans hw190_0),((HB.out.cell (World.block_lt_of_cell? w _ hw190_1)).trans hw190_1)⟩ (fun hHeld=>?_)
       clear hK K
       refine norm_ (a':=?_) ?_ ?_
       rotate_left
       ·show Act.put _ (some 81) _=_
        simp only [Act.put,List.setIfInBounds_toArray,List.set_cons_zero,List.set_cons_succ,i64_w,i32_w]
        rfl
       refine pure_ (i:=11) (N:=some 5) (v:=?_) (a':=?_) #[true,true,true,true,true,true,true,true,true,true,true,true] rfl rfl (any_of HT_.out qK) (fun _ _ _ h=>h) (Or.inl ⟨by rfl,?_⟩) ?_ ?_
       rotate_left
       ·intro w';go_simp;with_reducible rfl
       rotate_left
       ·simp only [Act.put,List.setIfInBounds_toArray,List.set_cons_zero,List.set_cons_succ,i64_w,i32_w];rfl
       refine done_ (done_of HT_.out qK) ?_
       try go_wp2
       go_roundg k3
       case measure=>have:=HK1.out;have:=HK2.out;have:=HK3.out;omega
       case rel=>exact ⟨(y194),(wrap64 (x6_2+1)),qS,H',⟨by have:=HK1.out;have:=HK2.out;have:=HK3.out;omega⟩,⟨by (with_reducible repeat (first|apply Kd.R_alloc|apply Kd.R_drewN|apply Kd.R_drew));exact Kd.R_mono HO196.out (fun _ hk=>trivial)⟩,⟨qB⟩⟩
end Go.Proofs.YteaadaaghhojfaaGreatDoor.PQu
