import Derived.Test.YteaadaaghhojfaaGreatDoorZQcPQux0
import Derived.Test.YteaadaaghhojfaaGreatDoorZQcPQux5
import Derived.Test.YteaadaaghhojfaaGreatDoorZQcPQux12
namespace Go.Proofs.YteaadaaghhojfaaGreatDoor.PQu
open Go.RowKit Go.Proofs.YteaadaaghhojfaaGreatDoorW.PrintWords Go.Proofs.YteaadaaghhojfaaGreatDoorW.PrintLast Go.Proofs.YteaadaaghhojfaaGreatDoorW.PrintMore
attribute [local go_sem] max2_int min2_int max_two min_two max_three min_three max_four min_four
set_option linter.unusedVariables false
set_option linter.unusedSimpArgs false
set_option maxHeartbeats 8000000
set_option maxRecDepth 100000
def ebbtideref05_Text.l0:Nat→List (S127)→List ByteArray→Int→Option (ByteArray)
 | 0,_,_,_=>none
 | k+1,x0,x3,x4=>if x4<(x0.length:Int) then (if 0≤x4 then (if ((rd_T127 x0 x4).f0)=1 then (if ((rd_T127 x0 x4).f1).size+1≤9223372036854775807 then (if ((rd_T127 x0 x4).f1).size+1+((rd_T127 x0 x4).f2).size≤9223372036854775807 then (if x3.length<8796093022208 then (ebbtideref05_Text.l0 k x0 (x3++[(((rd_T127 x0 x4).f1)++(⟨#[61]⟩:ByteArray))++((rd_T127 x0 x4).f2)]) (wrap64 (x4+1))) else (none)) else (none)) else (none)) else (if ((rd_T127 x0 x4).f0)=2 then (if ((rd_T127 x0 x4).f1).size+2≤9223372036854775807 then (if ((rd_T127 x0 x4).f1).size+2+((rd_T127 x0 x4).f2).size≤9223372036854775807 then (if x3.length<8796093022208 then (ebbtideref05_Text.l0 k x0 (x3++[(((rd_T127 x0 x4).f1)++(⟨#[33,61]⟩:ByteArray))++((rd_T127 x0 x4).f2)]) (wrap64 (x4+1))) else (none)) else (none)) else (none)) else (if ((rd_T127 x0 x4).f0)=3 then (if ((rd_T127 x0 x4).f1).size+1≤9223372036854775807 then (if ((rd_T127 x0 x4).f1).size+1+((rd_T127 x0 x4).f2).size≤9223372036854775807 then (if ((rd_T127 x0 x4).f1).size+1+((rd_T127 x0 x4).f2).size+1≤9223372036854775807 then (if x3.length<8796093022208 then (ebbtideref05_Text.l0 k x0 (x3++[((((rd_T127 x0 x4).f1)++(⟨#[61]⟩:ByteArray))++((rd_T127 x0 x4).f2))++(⟨#[42]⟩:ByteArray)]) (wrap64 (x4+1))) else (none)) else (none)) else (none)) else (none)) else (if x3.length<8796093022208 then (ebbtideref05_Text.l0 k x0 (x3++[(rd_T127 x0 x4).f1]) (wrap64 (x4+1))) else (none))))) else (none)) else ((ebbtideref02_Join.f k (⟨#[44]⟩:ByteArray) x3).bind fun t411=>(some t411))
def ebbtideref05_Text.f (k:Nat) (l0:List (S127)):Option (ByteArray):=ebbtideref05_Text.l0 k l0 ([]:List ByteArray) 0
theorem ebbtideref05_Text.mono_l:∀ k,(∀ y0 y1 y2,LeO (ebbtideref05_Text.l0 k y0 y1 y2) (ebbtideref05_Text.l0 (k+1) y0 y1 y2))
 | 0=>fun _ _ _ r h=>by simp [ebbtideref05_Text.l0] at h
 | k+1=>by
  have ih0:=ebbtideref05_Text.mono_l k
  ·intro y0 y1 y2
   unfold ebbtideref05_Text.l0
   repeat' first
   | (with_reducible exact ih0 _ _ _)
   | (with_reducible exact ebbtideref02_Join.mono _ _ _)
   | (with_reducible exact LeO.refl _)
   | (with_reducible exact LeO.none _)
   | (with_reducible refine LeO.ite ?_ ?_)
   | (with_reducible refine LeO.bind ?_ (fun _=>?_))
   | exact ih0 _ _ _
   | exact ebbtideref02_Join.mono _ _ _
   | exact LeO.none _
   | refine LeO.ite ?_ ?_
   | refine LeO.bind ?_ (fun _=>?_)
theorem ebbtideref05_Text.mono:∀ a0 k,LeO (ebbtideref05_Text.f k a0) (ebbtideref05_Text.f (k+1) a0):=by
 intro a0 k
 have ih0:=ebbtideref05_Text.mono_l k
 unfold ebbtideref05_Text.f
 repeat' first
   | (with_reducible exact ih0 _ _ _)
   | (with_reducible exact ebbtideref02_Join.mono _ _ _)
   | (with_reducible exact LeO.refl _)
   | (with_reducible exact LeO.none _)
   | (with_reducible refine LeO.ite ?_ ?_)
   | (with_reducible refine LeO.bind ?_ (fun _=>?_))
   | exact ih0 _ _ _
   | exact ebbtideref02_Join.mono _ _ _
   | exact LeO.none _
   | refine LeO.ite ?_ ?_
   | refine LeO.bind ?_ (fun _=>?_)
theorem ebbtideref05_Text.calls (k:Nat) (A0:Option Addr) (c0:Nat) (l0:List (S127)) (r:ByteArray) (w:World) (hr0:Kd.C k127 w A0 l0.length l0) (hc0:l0.length≤c0) (h:ebbtideref05_Text.f k l0=some r) :
  Calls Tryz.prog 60 #[.slice A0 l0.length c0] w fun e w'=>e = .returned (.string r)∧Below w.heap.size w w':=by
 have HR0:=Aside0.mk hr0
 have HC0:=Aside0.mk hc0
 clear hr0 hc0
 have HB:=Aside0.mk (Below.refl w.heap.size w)
 have H:(ebbtideref05_Text.l0 k l0 ([]:List ByteArray) 0)=some r:=h
 clear h
 have H':=Aside0.mk H
 clear H
 go_enter Tryz.func60,Tryz.ntmps60
 go_wp2
 go_loopg [3,4] k (fun kq v3 v4 w'=>∃ (x3_1:List ByteArray) (x4_1:Int),v4 = .int .i64 x4_1∧Aside0 (ebbtideref05_Text.l0 kq l0 x3_1 x4_1=some r)∧Aside0 (kq≤k)∧Aside0 (Kd.R Kd.string 9 w' w.heap.size (fun _=>True) v3 x3_1)∧Aside0 (Below w.heap.size w w'))
 case atStart=>exact ⟨(([]:List ByteArray)),(0),qS,H',⟨Nat.le_refl _⟩,⟨qN⟩,⟨qB⟩⟩
 case round =>
  clear H'
  obtain ⟨x3_1,x4_1,rfl,HA,HK1,HO_3,HB⟩:=hrel
  cases gk with
  | zero=>exact absurd HA.out (by simp [ebbtideref05_Text.l0])
  | succ k1 =>
   have H:=HA.out
   clear HA
   simp only [ebbtideref05_Text.l0] at H
   by_cases c2:x4_1<(l0.length:Int)
   rotate_left
   ·rw [if_neg c2] at H
    have c2b0:decide (x4_1<(l0.length:Int))=false:=decide_eq_false c2
    clear c2
    replace H:=Option.bind_eq_some_iff.mp H
    obtain ⟨t411,A220,H⟩:=H
    replace H:(some t411)=some r:=H
    have A22:=Aside0.mk A220
    clear A220
    obtain rfl:=Option.some.inj H
    obtain ⟨Ao23,co23,eo23⟩:=Kd.R_slice HO_3.out
    subst eo23
    go_wp2_with (first|((with_reducible refine gate_callee (f:=61) rfl ?_);refine goesL_ (some 58) rfl rfl Tryz.func61 qK rfl #[.string (⟨#[44]⟩:ByteArray), .slice Ao23 x3_1.length co23] rfl qG ?_;(with_reducible refine (ebbtideref02_Join.calls k1 (⟨#[44]⟩:ByteArray) _ _ x3_1 t411 _ ?side1 ?side2 A22.out).mono ?_);(case side1=>repeat (first|exact (Kd.R_reads' HO_3.out).2.2|(with_reducible refine Kd.C_alloc ?_ _)|(with_reducible refine Kd.C_drewN ?_ _)|(with_reducible refine Kd.C_drew ?_)));(case side2=>exact (Kd.R_reads' HO_3.out).2.1);rintro e w' ⟨rfl,⟨nd,rfl⟩⟩;refine ⟨_,rfl,?_⟩))
    go_ret
    exact ⟨qE,qB⟩
   rw [if_pos c2] at H
   have c2b0:decide (x4_1<(l0.length:Int))=true:=decide_eq_true c2
   clear c2
   by_cases c3:0≤x4_1
   rotate_left
   ·rw [if_neg c3] at H
    exact absurd H (by simp)
   rw [if_pos c3] at H
   have c3b0:decide (0≤x4_1)=true:=decide_eq_true c3
   clear c3
   by_cases c4:((rd_T127 l0 x4_1).f0)=1
   ·rw [if_pos c4] at H
    have c4b0:(((rd_T127 l0 x4_1).f0) ==1)=true:=beq_iff_eq.mpr c4
    have c4b1:(((rd_T127 l0 x4_1).f0) != 1)=false:=bne_eq_false_iff_eq.mpr c4
    clear c4
    by_cases c5:((rd_T127 l0 x4_1).f1).size+1≤9223372036854775807
    rotate_left
    ·rw [if_neg c5] at H
     exact absurd H (by simp)
    rw [if_pos c5] at H
    have c5b0:=eq_true c5
    have c5b1:decide (((rd_T127 l0 x4_1).f1).size+1≤9223372036854775807)=true:=decide_eq_true c5
    try have c5b2:(9223372036854775807<((rd_T127 l0 x4_1).f1).size+1)=False:=eq_false (Nat.not_lt.2 c5)
    by_cases c6:((rd_T127 l0 x4_1).f1).size+1+((rd_T127 l0 x4_1).f2).size≤9223372036854775807
    rotate_left
    ·rw [if_neg c6] at H
     exact absurd H (by simp)
    rw [if_pos c6] at H
    have c6b0:=eq_true c6
    have c6b1:decide (((rd_T127 l0 x4_1).f1).size+1+((rd_T127 l0 x4_1).f2).size≤9223372036854775807)=true:=decide_eq_true c6
    try have c6b2:(9223372036854775807<((rd_T127 l0 x4_1).f1).size+1+((rd_T127 l0 x4_1).f2).size)=False:=eq_false (Nat.not_lt.2 c6)
    by_cases c7:x3_1.length<8796093022208
    rotate_left
    ·rw [if_neg c7] at H
     exact absurd H (by simp)
    rw [if_pos c7] at H
    have LMc7:=Aside0.mk c7
    clear c7
    obtain ⟨y415,hy415⟩:∃ y_:List ByteArray,y_=(x3_1++[(((rd_T127 l0 x4_1).f1)++(⟨#[61]⟩:ByteArray))++((rd_T127 l0 x4_1).f2)]):=⟨_,rfl⟩
    replace H:(ebbtideref05_Text.l0 k1 l0 y415 (wrap64 (x4_1+1)))=some r:=by first|(rw [hy415];with_reducible exact H)|(have H2_:=(Option.bind_some _ _).symm.trans H;rw [hy415];with_reducible exact H2_)|(have H2_:=(Option.bind_some _ _).symm.trans H;with_reducible exact H2_)|with_reducible exact H|(rw [hy415];exact H)|exact H
    have Ny415:=Aside0.mk hy415
    clear hy415
    have H':=Aside0.mk H
    clear H
    have p412:0≤(x4_1:Int):=of_decide_eq_true qA
    have q412:x4_1<(l0.length:Int):=of_decide_eq_true qA
    obtain ⟨ad412,e412,hx412_0,hx412_1,hx412_2⟩:=at_T127 HR0.out x4_1 p412 q412
    cases e412
    replace hx412_0:=(HB.out.cell (World.block_lt_of_cell? w _ hx412_0)).trans hx412_0
    replace hx412_1:=(HB.out.cell (World.block_lt_of_cell? w _ hx412_1)).trans hx412_1
    replace hx412_2:=(HB.out.cell (World.block_lt_of_cell? w _ hx412_2)).trans hx412_2
    replace p412:=eq_true p412
    replace q412:=eq_true q412
    have p413:0≤(x4_1:Int):=of_decide_eq_true qA
    have q413:x4_1<(l0.length:Int):=of_decide_eq_true qA
    obtain ⟨ad413,e413,hx413_0,hx413_1,hx413_2⟩:=at_T127 HR0.out x4_1 p413 q413
    obtain rfl:ad412=ad413:=(by injection e413)
    replace hx413_0:=(HB.out.cell (World.block_lt_of_cell? w _ hx413_0)).trans hx413_0
    replace hx413_1:=(HB.out.cell (World.block_lt_of_cell? w _ hx413_1)).trans hx413_1
    replace hx413_2:=(HB.out.cell (World.block_lt_of_cell? w _ hx413_2)).trans hx413_2
    replace p413:=eq_true p413
    replace q413:=eq_true q413
    have p414:0≤(x4_1:Int):=of_decide_eq_true qA
    have q414:x4_1<(l0.length:Int):=of_decide_eq_true qA
    obtain ⟨ad414,e414,hx414_0,hx414_1,hx414_2⟩:=at_T127 HR0.out x4_1 p414 q414
    obtain rfl:ad412=ad414:=(by injection e414)
    replace hx414_0:=(HB.out.cell (World.block_lt_of_cell? w _ hx414_0)).trans hx414_0
    replace hx414_1:=(HB.out.cell (World.block_lt_of_cell? w _ hx414_1)).trans hx414_1
    replace hx414_2:=(HB.out.cell (World.block_lt_of_cell? w _ hx414_2)).trans hx414_2
    replace p414:=eq_true p414
    replace q414:=eq_true q414
    go_wp2_with (first|((with_reducible refine gate_builtin (b := .append) (xs:=#[.tmp 53, .tmp 55]) rfl ?_);at_builtin;refine Kd.R_append Kd.string (w0:=w) w.heap.size rfl (.tmp 53) (.tmp 55) 23 9 (.string ⟨#[]⟩) 16 rfl Tryz.underlying23 info9 rfl (by decide) (by omega) u3 x3_1 ((((rd_T127 l0 x4_1).f1)++(⟨#[61]⟩:ByteArray))++((rd_T127 l0 x4_1).f2)) [.string ((((rd_T127 l0 x4_1).f1)++(⟨#[61]⟩:ByteArray))++((rd_T127 l0 x4_1).f2))] (fun _=>True) (fun _=>False) rfl rfl ?aP (fun _ hk=>hk.elim) ?aF ?aO ?aB ?aS ?aL ?_;(case aP=>exact rfl);(case aB=>exact qB);(case aF=>exact (fun _ _=>trivial));(case aO=>exact (qR HO_3));(case aS=>exact (below_size qB));(case aL=>have:=LMc7.out;omega);intro v416 w8 ho hb hg hat;rw [← Ny415.out] at ho;replace HB:=Aside0.mk hb;have HO417:=Aside0.mk ho;clear HO_3;clear ho hb hg hat))
    go_roundg k1
    case measure=>have:=HK1.out;omega
    case rel=>exact ⟨(y415),(wrap64 (x4_1+1)),qS,H',⟨by have:=HK1.out;omega⟩,⟨qR HO417⟩,⟨qB⟩⟩
   rw [if_neg c4] at H
   have c4b0:(((rd_T127 l0 x4_1).f0) ==1)=false:=beq_eq_false_iff_ne.mpr c4
   have c4b1:(((rd_T127 l0 x4_1).f0) != 1)=true:=bne_iff_ne.mpr c4
   by_cases c9:((rd_T127 l0 x4_1).f0)=2
   ·rw [if_pos c9] at H
    have c9b0:(((rd_T127 l0 x4_1).f0) ==2)=true:=beq_iff_eq.mpr c9
    have c9b1:(((rd_T127 l0 x4_1).f0) != 2)=false:=bne_eq_false_iff_eq.mpr c9
    clear c9
    by_cases c10:((rd_T127 l0 x4_1).f1).size+2≤9223372036854775807
    rotate_left
    ·rw [if_neg c10] at H
     exact absurd H (by simp)
    rw [if_pos c10] at H
    have c10b0:=eq_true c10
    have c10b1:decide (((rd_T127 l0 x4_1).f1).size+2≤9223372036854775807)=true:=decide_eq_true c10
    try have c10b2:(9223372036854775807<((rd_T127 l0 x4_1).f1).size+2)=False:=eq_false (Nat.not_lt.2 c10)
    by_cases c11:((rd_T127 l0 x4_1).f1).size+2+((rd_T127 l0 x4_1).f2).size≤9223372036854775807
    rotate_left
    ·rw [if_neg c11] at H
     exact absurd H (by simp)
    rw [if_pos c11] at H
    have c11b0:=eq_true c11
    have c11b1:decide (((rd_T127 l0 x4_1).f1).size+2+((rd_T127 l0 x4_1).f2).size≤9223372036854775807)=true:=decide_eq_true c11
    try have c11b2:(9223372036854775807<((rd_T127 l0 x4_1).f1).size+2+((rd_T127 l0 x4_1).f2).size)=False:=eq_false (Nat.not_lt.2 c11)
    by_cases c12:x3_1.length<8796093022208
    rotate_left
    ·rw [if_neg c12] at H
     exact absurd H (by simp)
    rw [if_pos c12] at H
    have LMc12:=Aside0.mk c12
    clear c12
    obtain ⟨y419,hy419⟩:∃ y_:List ByteArray,y_=(x3_1++[(((rd_T127 l0 x4_1).f1)++(⟨#[33,61]⟩:ByteArray))++((rd_T127 l0 x4_1).f2)]):=⟨_,rfl⟩
    replace H:(ebbtideref05_Text.l0 k1 l0 y419 (wrap64 (x4_1+1)))=some r:=by first|(rw [hy419];with_reducible exact H)|(have H2_:=(Option.bind_some _ _).symm.trans H;rw [hy419];with_reducible exact H2_)|(have H2_:=(Option.bind_some _ _).symm.trans H;with_reducible exact H2_)|with_reducible exact H|(rw [hy419];exact H)|exact H
    have Ny419:=Aside0.mk hy419
    clear hy419
    have H':=Aside0.mk H
    clear H
    have p412:0≤(x4_1:Int):=of_decide_eq_true qA
    have q412:x4_1<(l0.length:Int):=of_decide_eq_true qA
    obtain ⟨ad412,e412,hx412_0,hx412_1,hx412_2⟩:=at_T127 HR0.out x4_1 p412 q412
    cases e412
    replace hx412_0:=(HB.out.cell (World.block_lt_of_cell? w _ hx412_0)).trans hx412_0
    replace hx412_1:=(HB.out.cell (World.block_lt_of_cell? w _ hx412_1)).trans hx412_1
    replace hx412_2:=(HB.out.cell (World.block_lt_of_cell? w _ hx412_2)).trans hx412_2
    replace p412:=eq_true p412
    replace q412:=eq_true q412
    have p413:0≤(x4_1:Int):=of_decide_eq_true qA
    have q413:x4_1<(l0.length:Int):=of_decide_eq_true qA
    obtain ⟨ad413,e413,hx413_0,hx413_1,hx413_2⟩:=at_T127 HR0.out x4_1 p413 q413
    obtain rfl:ad412=ad413:=(by injection e413)
    replace hx413_0:=(HB.out.cell (World.block_lt_of_cell? w _ hx413_0)).trans hx413_0
    replace hx413_1:=(HB.out.cell (World.block_lt_of_cell? w _ hx413_1)).trans hx413_1
    replace hx413_2:=(HB.out.cell (World.block_lt_of_cell? w _ hx413_2)).trans hx413_2
    replace p413:=eq_true p413
    replace q413:=eq_true q413
    have p418:0≤(x4_1:Int):=of_decide_eq_true qA
    have q418:x4_1<(l0.length:Int):=of_decide_eq_true qA
    obtain ⟨ad418,e418,hx418_0,hx418_1,hx418_2⟩:=at_T127 HR0.out x4_1 p418 q418
    obtain rfl:ad412=ad418:=(by injection e418)
    replace hx418_0:=(HB.out.cell (World.block_lt_of_cell? w _ hx418_0)).trans hx418_0
    replace hx418_1:=(HB.out.cell (World.block_lt_of_cell? w _ hx418_1)).trans hx418_1
    replace hx418_2:=(HB.out.cell (World.block_lt_of_cell? w _ hx418_2)).trans hx418_2
    replace p418:=eq_true p418
    replace q418:=eq_true q418
    go_wp2_with (first|((with_reducible refine gate_builtin (b := .append) (xs:=#[.tmp 53, .tmp 55]) rfl ?_);at_builtin;refine Kd.R_append Kd.string (w0:=w) w.heap.size rfl (.tmp 53) (.tmp 55) 23 9 (.string ⟨#[]⟩) 16 rfl Tryz.underlying23 info9 rfl (by decide) (by omega) u3 x3_1 ((((rd_T127 l0 x4_1).f1)++(⟨#[33,61]⟩:ByteArray))++((rd_T127 l0 x4_1).f2)) [.string ((((rd_T127 l0 x4_1).f1)++(⟨#[33,61]⟩:ByteArray))++((rd_T127 l0 x4_1).f2))] (fun _=>True) (fun _=>False) rfl rfl ?aP (fun _ hk=>hk.elim) ?aF ?aO ?aB ?aS ?aL ?_;(case aP=>exact rfl);(case aB=>exact qB);(case aF=>exact (fun _ _=>trivial));(case aO=>exact (qR HO_3));(case aS=>exact (below_size qB));(case aL=>have:=LMc12.out;omega);intro v420 w13 ho hb hg hat;rw [← Ny419.out] at ho;replace HB:=Aside0.mk hb;have HO421:=Aside0.mk ho;clear HO_3;clear ho hb hg hat))
    go_roundg k1
    case measure=>have:=HK1.out;omega
    case rel=>exact ⟨(y419),(wrap64 (x4_1+1)),qS,H',⟨by have:=HK1.out;omega⟩,⟨qR HO421⟩,⟨qB⟩⟩
   rw [if_neg c9] at H
   have c9b0:(((rd_T127 l0 x4_1).f0) ==2)=false:=beq_eq_false_iff_ne.mpr c9
   have c9b1:(((rd_T127 l0 x4_1).f0) != 2)=true:=bne_iff_ne.mpr c9
   by_cases c14:((rd_T127 l0 x4_1).f0)=3
   rotate_left
   ·rw [if_neg c14] at H
    have c14b0:(((rd_T127 l0 x4_1).f0) ==3)=false:=beq_eq_false_iff_ne.mpr c14
    have c14b1:(((rd_T127 l0 x4_1).f0) != 3)=true:=bne_iff_ne.mpr c14
    by_cases c20:x3_1.length<8796093022208
    rotate_left
    ·rw [if_neg c20] at H
     exact absurd H (by simp)
    rw [if_pos c20] at H
    have LMc20:=Aside0.mk c20
    clear c20
    obtain ⟨y426,hy426⟩:∃ y_:List ByteArray,y_=(x3_1++[(rd_T127 l0 x4_1).f1]):=⟨_,rfl⟩
    replace H:(ebbtideref05_Text.l0 k1 l0 y426 (wrap64 (x4_1+1)))=some r:=by first|(rw [hy426];with_reducible exact H)|(have H2_:=(Option.bind_some _ _).symm.trans H;rw [hy426];with_reducible exact H2_)|(have H2_:=(Option.bind_some _ _).symm.trans H;with_reducible exact H2_)|with_reducible exact H|(rw [hy426];exact H)|exact H
    have Ny426:=Aside0.mk hy426
    clear hy426
    have H':=Aside0.mk H
    clear H
    have p412:0≤(x4_1:Int):=of_decide_eq_true qA
    have q412:x4_1<(l0.length:Int):=of_decide_eq_true qA
    obtain ⟨ad412,e412,hx412_0,hx412_1,hx412_2⟩:=at_T127 HR0.out x4_1 p412 q412
    cases e412
    replace hx412_0:=(HB.out.cell (World.block_lt_of_cell? w _ hx412_0)).trans hx412_0
    replace hx412_1:=(HB.out.cell (World.block_lt_of_cell? w _ hx412_1)).trans hx412_1
    replace hx412_2:=(HB.out.cell (World.block_lt_of_cell? w _ hx412_2)).trans hx412_2
    replace p412:=eq_true p412
    replace q412:=eq_true q412
    have p413:0≤(x4_1:Int):=of_decide_eq_true qA
    have q413:x4_1<(l0.length:Int):=of_decide_eq_true qA
    obtain ⟨ad413,e413,hx413_0,hx413_1,hx413_2⟩:=at_T127 HR0.out x4_1 p413 q413
    obtain rfl:ad412=ad413:=(by injection e413)
    replace hx413_0:=(HB.out.cell (World.block_lt_of_cell? w _ hx413_0)).trans hx413_0
    replace hx413_1:=(HB.out.cell (World.block_lt_of_cell? w _ hx413_1)).trans hx413_1
    replace hx413_2:=(HB.out.cell (World.block_lt_of_cell? w _ hx413_2)).trans hx413_2
    replace p413:=eq_true p413
    replace q413:=eq_true q413
    go_wp2_with (first|((with_reducible refine gate_builtin (b := .append) (xs:=#[.tmp 53, .tmp 55]) rfl ?_);at_builtin;refine Kd.R_append Kd.string (w0:=w) w.heap.size rfl (.tmp 53) (.tmp 55) 23 9 (.string ⟨#[]⟩) 16 rfl Tryz.underlying23 info9 rfl (by decide) (by omega) u3 x3_1 ((rd_T127 l0 x4_1).f1) [.string ((rd_T127 l0 x4_1).f1)] (fun _=>True) (fun _=>False) rfl rfl ?aP (fun _ hk=>hk.elim) ?aF ?aO ?aB ?aS ?aL ?_;(case aP=>exact rfl);(case aB=>exact qB);(case aF=>exact (fun _ _=>trivial));(case aO=>exact (qR HO_3));(case aS=>exact (below_size qB));(case aL=>have:=LMc20.out;omega);intro v427 w21 ho hb hg hat;rw [← Ny426.out] at ho;replace HB:=Aside0.mk hb;have HO428:=Aside0.mk ho;clear HO_3;clear ho hb hg hat))
    go_roundg k1
    case measure=>have:=HK1.out;omega
    case rel=>exact ⟨(y426),(wrap64 (x4_1+1)),qS,H',⟨by have:=HK1.out;omega⟩,⟨qR HO428⟩,⟨qB⟩⟩
   rw [if_pos c14] at H
   have c14b0:(((rd_T127 l0 x4_1).f0) ==3)=true:=beq_iff_eq.mpr c14
   have c14b1:(((rd_T127 l0 x4_1).f0) != 3)=false:=bne_eq_false_iff_eq.mpr c14
   clear c14
   by_cases c15:((rd_T127 l0 x4_1).f1).size+1≤9223372036854775807
   rotate_left
   ·rw [if_neg c15] at H
    exact absurd H (by simp)
   rw [if_pos c15] at H
   have c15b0:=eq_true c15
   have c15b1:decide (((rd_T127 l0 x4_1).f1).size+1≤9223372036854775807)=true:=decide_eq_true c15
   try have c15b2:(9223372036854775807<((rd_T127 l0 x4_1).f1).size+1)=False:=eq_false (Nat.not_lt.2 c15)
   by_cases c16:((rd_T127 l0 x4_1).f1).size+1+((rd_T127 l0 x4_1).f2).size≤9223372036854775807
   rotate_left
   ·rw [if_neg c16] at H
    exact absurd H (by simp)
   rw [if_pos c16] at H
   have c16b0:=eq_true c16
   have c16b1:decide (((rd_T127 l0 x4_1).f1).size+1+((rd_T127 l0 x4_1).f2).size≤9223372036854775807)=true:=decide_eq_true c16
   try have c16b2:(9223372036854775807<((rd_T127 l0 x4_1).f1).size+1+((rd_T127 l0 x4_1).f2).size)=False:=eq_false (Nat.not_lt.2 c16)
   by_cases c17:((rd_T127 l0 x4_1).f1).size+1+((rd_T127 l0 x4_1).f2).size+1≤9223372036854775807
   rotate_left
   ·rw [if_neg c17] at H
    exact absurd H (by simp)
   rw [if_pos c17] at H
   have c17b0:=eq_true c17
   have c17b1:decide (((rd_T127 l0 x4_1).f1).size+1+((rd_T127 l0 x4_1).f2).size+1≤9223372036854775807)=true:=decide_eq_true c17
   try have c17b2:(9223372036854775807<((rd_T127 l0 x4_1).f1).size+1+((rd_T127 l0 x4_1).f2).size+1)=False:=eq_false (Nat.not_lt.2 c17)
   by_cases c18:x3_1.length<8796093022208
   rotate_left
   ·rw [if_neg c18] at H
    exact absurd H (by simp)
   rw [if_pos c18] at H
   have LMc18:=Aside0.mk c18
   clear c18
   obtain ⟨y423,hy423⟩:∃ y_:List ByteArray,y_=(x3_1++[((((rd_T127 l0 x4_1).f1)++(⟨#[61]⟩:ByteArray))++((rd_T127 l0 x4_1).f2))++(⟨#[42]⟩:ByteArray)]):=⟨_,rfl⟩
   replace H:(ebbtideref05_Text.l0 k1 l0 y423 (wrap64 (x4_1+1)))=some r:=by first|(rw [hy423];with_reducible exact H)|(have H2_:=(Option.bind_some _ _).symm.trans H;rw [hy423];with_reducible exact H2_)|(have H2_:=(Option.bind_some _ _).symm.trans H;with_reducible exact H2_)|with_reducible exact H|(rw [hy423];exact H)|exact H
   have Ny423:=Aside0.mk hy423
   clear hy423
   have H':=Aside0.mk H
   clear H
   have p412:0≤(x4_1:Int):=of_decide_eq_true qA
   have q412:x4_1<(l0.length:Int):=of_decide_eq_true qA
   obtain ⟨ad412,e412,hx412_0,hx412_1,hx412_2⟩:=at_T127 HR0.out x4_1 p412 q412
   cases e412
   replace hx412_0:=(HB.out.cell (World.block_lt_of_cell? w _ hx412_0)).trans hx412_0
   replace hx412_1:=(HB.out.cell (World.block_lt_of_cell? w _ hx412_1)).trans hx412_1
   replace hx412_2:=(HB.out.cell (World.block_lt_of_cell? w _ hx412_2)).trans hx412_2
   replace p412:=eq_true p412
   replace q412:=eq_true q412
   have p413:0≤(x4_1:Int):=of_decide_eq_true qA
   have q413:x4_1<(l0.length:Int):=of_decide_eq_true qA
   obtain ⟨ad413,e413,hx413_0,hx413_1,hx413_2⟩:=at_T127 HR0.out x4_1 p413 q413
   obtain rfl:ad412=ad413:=(by injection e413)
   replace hx413_0:=(HB.out.cell (World.block_lt_of_cell? w _ hx413_0)).trans hx413_0
   replace hx413_1:=(HB.out.cell (World.block_lt_of_cell? w _ hx413_1)).trans hx413_1
   replace hx413_2:=(HB.out.cell (World.block_lt_of_cell? w _ hx413_2)).trans hx413_2
   replace p413:=eq_true p413
   replace q413:=eq_true q413
   have p422:0≤(x4_1:Int):=of_decide_eq_true qA
   have q422:x4_1<(l0.length:Int):=of_decide_eq_true qA
   obtain ⟨ad422,e422,hx422_0,hx422_1,hx422_2⟩:=at_T127 HR0.out x4_1 p422 q422
   obtain rfl:ad412=ad422:=(by injection e422)
   replace hx422_0:=(HB.out.cell (World.block_lt_of_cell? w _ hx422_0)).trans hx422_0
   replace hx422_1:=(HB.out.cell (World.block_lt_of_cell? w _ hx422_1)).trans hx422_1
   replace hx422_2:=(HB.out.cell (World.block_lt_of_cell? w _ hx422_2)).trans hx422_2
   replace p422:=eq_true p422
   replace q422:=eq_true q422
   go_wp2_with (first|((with_reducible refine gate_builtin (b := .append) (xs:=#[.tmp 53, .tmp 55]) rfl ?_);at_builtin;refine Kd.R_append Kd.string (w0:=w) w.heap.size rfl (.tmp 53) (.tmp 55) 23 9 (.string ⟨#[]⟩) 16 rfl Tryz.underlying23 info9 rfl (by decide) (by omega) u3 x3_1 (((((rd_T127 l0 x4_1).f1)++(⟨#[61]⟩:ByteArray))++((rd_T127 l0 x4_1).f2))++(⟨#[42]⟩:ByteArray)) [.string (((((rd_T127 l0 x4_1).f1)++(⟨#[61]⟩:ByteArray))++((rd_T127 l0 x4_1).f2))++(⟨#[42]⟩:ByteArray))] (fun _=>True) (fun _=>False) rfl rfl ?aP (fun _ hk=>hk.elim) ?aF ?aO ?aB ?aS ?aL ?_;(case aP=>exact rfl);(case aB=>exact qB);(case aF=>exact (fun _ _=>trivial));(case aO=>exact (qR HO_3));(case aS=>exact (below_size qB));(case aL=>have:=LMc18.out;omega);intro v424 w19 ho hb hg hat;rw [← Ny423.out] at ho;replace HB:=Aside0.mk hb;have HO425:=Aside0.mk ho;clear HO_3;clear ho hb hg hat))
   go_roundg k1
   case measure=>have:=HK1.out;omega
   case rel=>exact ⟨(y423),(wrap64 (x4_1+1)),qS,H',⟨by have:=HK1.out;omega⟩,⟨qR HO425⟩,⟨qB⟩⟩
end Go.Proofs.YteaadaaghhojfaaGreatDoor.PQu
