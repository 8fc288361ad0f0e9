import Derived.Test.YteaadaaghhojfaaGreatDoorZQbPQux0
import Derived.Test.YteaadaaghhojfaaGreatDoorZQbPQux4
import Derived.Test.YteaadaaghhojfaaGreatDoorZQbPQux5
import Derived.Test.YteaadaaghhojfaaGreatDoorZQbPQux11
import Derived.Test.YteaadaaghhojfaaGreatDoorZQbPQux12
import Derived.Test.YteaadaaghhojfaaGreatDoorZQbPQux13
import Derived.Test.YteaadaaghhojfaaGreatDoorZQbPQux15
import Derived.Test.YteaadaaghhojfaaGreatDoorZQbPQux16
import Derived.Test.YteaadaaghhojfaaGreatDoorZQbPQux17
namespace Go.Proofs.YteaadaaghhojfaaGreatDoor.PQu
open Go.RowKit Go.Proofs.YteaadaaghhojfaaGreatDoorW.PrintWords Go.Proofs.YteaadaaghhojfaaGreatDoorW.PrintLast Go.Proofs.YteaadaaghhojfaaGreatDoorW.PrintMore
attribute [local go_sem] max2_int min2_int max_two min_two max_three min_three max_four min_four
set_option linter.unusedVariables false
set_option linter.unusedSimpArgs false
set_option maxHeartbeats 8000000
set_option maxRecDepth 100000
def ebbtideref05_Parse.l0:Nat→List (S127)→List ByteArray→Int→Option ((List (S127))×Int)
 | 0,_,_,_=>none
 | k+1,x4,x5,x6=>if x6<(x5.length:Int) then (if 0≤x6 then ((ebbtideref05_part.f k (rdOf ByteArray.empty x5 x6)).bind fun bt477=>((ebbtideref05_may.f k bt477.1 bt477.2.1 bt477.2.2).bind fun t481=>(if t481=true then (if x4.length<3518437208883 then (ebbtideref05_Parse.l0 k (x4++[(⟨bt477.1,bt477.2.1,bt477.2.2⟩:S127)]) x5 (wrap64 (x6+1))) else (none)) else (some (([]:List (S127)),2))))) else (none)) else (if (x4.length:Int)>4 then (some (([]:List (S127)),4)) else (some (x4,0)))
def ebbtideref05_Parse.f (k:Nat) (a0:ByteArray):Option ((List (S127))×Int):=if a0.toList=([]:List UInt8) then (some (([]:List (S127)),0)) else ((ebbtideref02_Split.f k a0 44).bind fun t473=>(ebbtideref05_Parse.l0 k ([]:List (S127)) t473 0))
theorem ebbtideref05_Parse.mono_l:∀ k,(∀ y0 y1 y2,LeO (ebbtideref05_Parse.l0 k y0 y1 y2) (ebbtideref05_Parse.l0 (k+1) y0 y1 y2))
 | 0=>fun _ _ _ r h=>by simp [ebbtideref05_Parse.l0] at h
 | k+1=>by
  have ih0:=ebbtideref05_Parse.mono_l k
  ·intro y0 y1 y2
   unfold ebbtideref05_Parse.l0
   repeat' first
   | (with_reducible exact ih0 _ _ _)
   | (with_reducible exact ebbtideref02_Split.mono _ _ _)
   | (with_reducible exact ebbtideref05_may.mono _ _ _ _)
   | (with_reducible exact ebbtideref05_part.mono _ _)
   | (with_reducible exact LeO.refl _)
   | (with_reducible exact LeO.none _)
   | (with_reducible refine LeO.ite ?_ ?_)
   | (with_reducible refine LeO.bind ?_ (fun _=>?_))
   | exact ih0 _ _ _
   | exact ebbtideref02_Split.mono _ _ _
   | exact ebbtideref05_may.mono _ _ _ _
   | exact ebbtideref05_part.mono _ _
   | exact LeO.none _
   | refine LeO.ite ?_ ?_
   | refine LeO.bind ?_ (fun _=>?_)
theorem ebbtideref05_Parse.mono:∀ a0 k,LeO (ebbtideref05_Parse.f k a0) (ebbtideref05_Parse.f (k+1) a0):=by
 intro a0 k
 have ih0:=ebbtideref05_Parse.mono_l k
 unfold ebbtideref05_Parse.f
 repeat' first
   | (with_reducible exact ih0 _ _ _)
   | (with_reducible exact ebbtideref02_Split.mono _ _ _)
   | (with_reducible exact ebbtideref05_may.mono _ _ _ _)
   | (with_reducible exact ebbtideref05_part.mono _ _)
   | (with_reducible exact LeO.refl _)
   | (with_reducible exact LeO.none _)
   | (with_reducible refine LeO.ite ?_ ?_)
   | (with_reducible refine LeO.bind ?_ (fun _=>?_))
   | exact ih0 _ _ _
   | exact ebbtideref02_Split.mono _ _ _
   | exact ebbtideref05_may.mono _ _ _ _
   | exact ebbtideref05_part.mono _ _
   | exact LeO.none _
   | refine LeO.ite ?_ ?_
   | refine LeO.bind ?_ (fun _=>?_)
theorem ebbtideref05_Parse.calls (k:Nat) (a0:ByteArray) (r1:List (S127)) (r2:Int) (w:World) (h:ebbtideref05_Parse.f k a0=some (r1,r2)) :
  Calls Tryz.prog 71 #[.string a0] w fun e w'=>∃ v0_:Value,e = .returned (.tuple #[v0_, .int .i64 r2])∧Kd.R k127 127 w' w.heap.size (fun _=>True) v0_ r1∧Below w.heap.size w w':=by
 have hu127:=Tryz.underlying127
 have HB:=Aside0.mk (Below.refl w.heap.size w)
 have H:(if a0.toList=([]:List UInt8) then (some (([]:List (S127)),0)) else ((ebbtideref02_Split.f k a0 44).bind fun t473=>(ebbtideref05_Parse.l0 k ([]:List (S127)) t473 0)))=some (r1,r2):=h
 clear h
 by_cases c2:a0.toList=([]:List UInt8)
 ·rw [if_pos c2] at H
  have c2b0:(a0.toList ==([]:List UInt8))=true:=beq_iff_eq.mpr c2
  have c2b1:(a0.toList != ([]:List UInt8))=false:=bne_eq_false_iff_eq.mpr c2
  clear c2
  simp only [Option.some.injEq,Prod.mk.injEq] at H
  obtain ⟨rfl,rfl⟩:=H
  go_enter Tryz.func71,Tryz.ntmps71
  go_wp2
  go_ret2
  exact ⟨_,qE,qN,qB⟩
 rw [if_neg c2] at H
 have c2b0:(a0.toList ==([]:List UInt8))=false:=beq_eq_false_iff_ne.mpr c2
 have c2b1:(a0.toList != ([]:List UInt8))=true:=bne_iff_ne.mpr c2
 replace H:=Option.bind_eq_some_iff.mp H
 obtain ⟨t473,A30,H⟩:=H
 replace H:(ebbtideref05_Parse.l0 k ([]:List (S127)) t473 0)=some (r1,r2):=H
 have A3:=Aside0.mk A30
 clear A30
 have H':=Aside0.mk H
 clear H
 go_enter Tryz.func71,Tryz.ntmps71
 go_wp2_with (first|((with_reducible refine gate_callee (f:=72) rfl ?_);refine goesL_ (some 11) rfl rfl Tryz.func72 qK rfl #[.string a0, .int .u8 44] rfl qG ?_;(with_reducible refine (ebbtideref02_Split.calls k a0 44 t473 _ A3.out).mono ?_);rintro e w4 ⟨v474,rfl,ho0,hb⟩;refine ⟨_,rfl,?_⟩;have HO475:=Aside0.mk (Kd.R_lower ho0 (below_size qB));replace HB:=Aside0.mk (below_step qB hb);clear hb ho0))
 go_loopg [4,6] k (fun kq v4 v6 w'=>∃ (x4_1:List (S127)) (x6_1:Int),v6 = .int .i64 x6_1∧Aside0 (ebbtideref05_Parse.l0 kq x4_1 t473 x6_1=some (r1,r2))∧Aside0 (kq≤k)∧Aside0 (Kd.R k127 127 w' w.heap.size (fun _=>True) v4 x4_1)∧Aside0 (Kd.R Kd.string 9 w' w.heap.size (fun _=>True) v474 t473)∧Aside0 (Below w.heap.size w w'))
 case atStart=>exact ⟨(([]:List (S127))),(0),qS,H',⟨Nat.le_refl _⟩,⟨qN⟩,⟨qR HO475⟩,⟨qB⟩⟩
 case round =>
  clear H'
  try clear c2;try clear c2b0;try clear c2b1
  obtain ⟨x4_1,x6_1,rfl,HA,HK1,HO_4,HO_5,HB⟩:=hrel
  cases gk with
  | zero=>exact absurd HA.out (by simp [ebbtideref05_Parse.l0])
  | succ k1 =>
   have H:=HA.out
   clear HA
   simp only [ebbtideref05_Parse.l0] at H
   by_cases c5:x6_1<(t473.length:Int)
   rotate_left
   ·rw [if_neg c5] at H
    have c5b0:decide (x6_1<(t473.length:Int))=false:=decide_eq_false c5
    clear c5
    by_cases c23:(x4_1.length:Int)>4
    ·rw [if_pos c23] at H
     have c23b0:decide (4<(x4_1.length:Int))=true:=decide_eq_true c23
     have c23b1:decide (4<x4_1.length)=true:=decide_eq_true (by omega)
     clear c23
     simp only [Option.some.injEq,Prod.mk.injEq] at H
     obtain ⟨rfl,rfl⟩:=H
     obtain ⟨Ao24,co24,eo24⟩:=Kd.R_slice HO_5.out
     subst eo24
     obtain ⟨Ao25,co25,eo25⟩:=Kd.R_slice HO_4.out
     subst eo25
     go_wp2
     go_ret2
     exact ⟨_,qE,qN,qB⟩
    rw [if_neg c23] at H
    have c23b0:decide (4<(x4_1.length:Int))=false:=decide_eq_false c23
    have c23b1:decide (4<x4_1.length)=false:=decide_eq_false (by omega)
    clear c23
    simp only [Option.some.injEq,Prod.mk.injEq] at H
    obtain ⟨rfl,rfl⟩:=H
    obtain ⟨Ao26,co26,eo26⟩:=Kd.R_slice HO_5.out
    subst eo26
    obtain ⟨Ao27,co27,eo27⟩:=Kd.R_slice HO_4.out
    subst eo27
    go_wp2
    go_ret2
    exact ⟨_,qE,qR HO_4,qB⟩
   rw [if_pos c5] at H
   have c5b0:decide (x6_1<(t473.length:Int))=true:=decide_eq_true c5
   clear c5
   by_cases c6:0≤x6_1
   rotate_left
   ·rw [if_neg c6] at H
    exact absurd H (by simp)
   rw [if_pos c6] at H
   have c6b0:decide (0≤x6_1)=true:=decide_eq_true c6
   clear c6
   replace H:=Option.bind_eq_some_iff.mp H
   obtain ⟨⟨t477,t478,t479⟩,A70,H⟩:=H
   replace H:((ebbtideref05_may.f k1 t477 t478 t479).bind fun t481=>(if t481=true then (if x4_1.length<3518437208883 then (ebbtideref05_Parse.l0 k1 (x4_1++[(⟨t477,t478,t479⟩:S127)]) t473 (wrap64 (x6_1+1))) else (none)) else (some (([]:List (S127)),2))))=some (r1,r2):=H
   have A7:=Aside0.mk A70
   clear A70
   replace H:=Option.bind_eq_some_iff.mp H
   obtain ⟨t481,A80,H⟩:=H
   replace H:(if t481=true then (if x4_1.length<3518437208883 then (ebbtideref05_Parse.l0 k1 (x4_1++[(⟨t477,t478,t479⟩:S127)]) t473 (wrap64 (x6_1+1))) else (none)) else (some (([]:List (S127)),2)))=some (r1,r2):=H
   have A8:=Aside0.mk A80
   clear A80
   by_cases c9:t481=true
   rotate_left
   ·replace c9:=Bool.eq_false_iff.mpr c9
    subst c9
    have H1:(some (([]:List (S127)),2))=some (r1,r2):=by rw [if_neg (show ¬ (false=true) by decide)] at H;exact H
    clear H
    have H:=H1
    clear H1
    simp only [Option.some.injEq,Prod.mk.injEq] at H
    obtain ⟨rfl,rfl⟩:=H
    obtain ⟨Ao18,co18,eo18⟩:=Kd.R_slice HO_5.out
    subst eo18
    have p476:0≤(x6_1:Int):=of_decide_eq_true qA
    have q476:x6_1<(t473.length:Int):=of_decide_eq_true qA
    obtain ⟨ad476,e476,hx476_0⟩:=Kd.at_string (Kd.R_reads' HO_5.out).2.2 x6_1 p476 q476
    cases e476
    replace p476:=eq_true p476
    replace q476:=eq_true q476
    go_wp2_with (first|((with_reducible refine gate_callee (f:=117) rfl ?_);refine goesL_ (some 22) rfl rfl Tryz.func117 qK rfl #[.string (rdOf ByteArray.empty t473 x6_1)] rfl qG ?_;(with_reducible refine (ebbtideref05_part.calls k1 (rdOf ByteArray.empty t473 x6_1) t477 t478 t479 _ A7.out).mono ?_);rintro e w19 ⟨rfl,hb⟩;refine ⟨_,rfl,?_⟩;replace HO_4:=Aside0.mk (Kd.R_below (qR HO_4) hb);replace HO_5:=Aside0.mk (Kd.R_below (qR HO_5) hb);replace HB:=Aside0.mk (below_step qB hb);clear hb)|((with_reducible refine gate_dst (N:=7) rfl ?_);refine box_event ?hg (N:=7) ?hd (cs:=#[.int .i64 0, .string (⟨#[]⟩:ByteArray), .string (⟨#[]⟩:ByteArray)]) (t:=127) ?hr ?_;(case hd=>rfl);(case hg=>rfl);(case hr=>first|(go_simp;done)|(go_simp;rfl));intro gb480 hg w20 hbox hb;replace HO_4:=Aside0.mk (Kd.R_below (Kd.R_elderB (qR HO_4) gb480 (Nat.le_of_eq hg.symm)) hb);replace HO_5:=Aside0.mk (Kd.R_below (qR HO_5) hb);have BK480:=Aside0.mk hbox;have GW480:Aside0 (w.heap.size≤gb480):=⟨qH⟩;have GE480:=GW480;replace HB:=Aside0.mk (below_step qB hb);clear hb hbox hg;obtain ⟨hcz21_0,hcz21_1,hcz21_2,hfz21_0,hfz21_1,hfz21_2⟩:=cf3 BK480.out)|((with_reducible refine gate_callee (f:=111) rfl ?_);refine goesL_ (some 24) rfl rfl Tryz.func111 qK rfl #[.agg #[.int .i64 t477, .string t478, .string t479]] rfl qG ?_;(with_reducible refine (ebbtideref05_may.calls k1 t477 t478 t479 false _ A8.out).mono ?_);rintro e w22 ⟨rfl,hb⟩;refine ⟨_,rfl,?_⟩;replace HO_4:=Aside0.mk (Kd.R_below (by (with_reducible repeat (first|apply Kd.R_alloc|apply Kd.R_drewN|apply Kd.R_drew));exact (Kd.R_mono (Kd.R_far (p:=⟨gb480,2,none⟩) (Kd.R_far (p:=⟨gb480,1,none⟩) (Kd.R_far (p:=⟨gb480,0,none⟩) (Kd.R_mono HO_4.out (fun k_ hk=>(⟨hk,hk.2⟩:_∧k_≠gb480))) (fun _ hk=>hk.2) (.int .i64 t477)) (fun _ hk=>hk.2) (.string t478)) (fun _ hk=>hk.2) (.string t479)) (fun _ h_=>h_.1))) hb);replace HO_5:=Aside0.mk (Kd.R_below (by (with_reducible repeat (first|apply Kd.R_alloc|apply Kd.R_drewN|apply Kd.R_drew));exact (Kd.R_mono (Kd.R_far (p:=⟨gb480,2,none⟩) (Kd.R_far (p:=⟨gb480,1,none⟩) (Kd.R_far (p:=⟨gb480,0,none⟩) (Kd.R_types HO_5.out BK480.out (by decide)) (fun _ hk=>hk.2) (.int .i64 t477)) (fun _ hk=>hk.2) (.string t478)) (fun _ hk=>hk.2) (.string t479)) (fun _ h_=>h_.1))) hb);replace BK480:=Aside0.mk (blk_below (g:=gb480) (o := .cells #[.int .i64 t477, .string t478, .string t479] 127 (0,0)) (by (with_reducible repeat (first|refine blk_drewN ?_ _|refine blk_drew ?_|refine blk_alloc ?_ _));refine blk_put (cs:=#[.int .i64 t477, .string t478, .string (⟨#[]⟩:ByteArray)]) ?_ 2 _ rfl;(with_reducible repeat (first|refine blk_drewN ?_ _|refine blk_drew ?_|refine blk_alloc ?_ _));refine blk_put (cs:=#[.int .i64 t477, .string (⟨#[]⟩:ByteArray), .string (⟨#[]⟩:ByteArray)]) ?_ 1 _ rfl;(with_reducible repeat (first|refine blk_drewN ?_ _|refine blk_drew ?_|refine blk_alloc ?_ _));refine blk_put (cs:=#[.int .i64 0, .string (⟨#[]⟩:ByteArray), .string (⟨#[]⟩:ByteArray)]) ?_ 0 _ rfl;(with_reducible repeat (first|refine blk_drewN ?_ _|refine blk_drew ?_|refine blk_alloc ?_ _));exact BK480.out) hb);replace HB:=Aside0.mk (below_step qC hb);clear hb))
    go_ret2
    exact ⟨_,qE,qN,qC⟩
   subst c9
   have H1:(if x4_1.length<3518437208883 then (ebbtideref05_Parse.l0 k1 (x4_1++[(⟨t477,t478,t479⟩:S127)]) t473 (wrap64 (x6_1+1))) else (none))=some (r1,r2):=by rw [if_pos rfl] at H;exact H
   clear H
   have H:=H1
   clear H1
   by_cases c10:x4_1.length<3518437208883
   rotate_left
   ·rw [if_neg c10] at H
    exact absurd H (by simp)
   rw [if_pos c10] at H
   have LMc10:=Aside0.mk c10
   clear c10
   obtain ⟨y482,hy482⟩:∃ y_:List (S127),y_=(x4_1++[(⟨t477,t478,t479⟩:S127)]):=⟨_,rfl⟩
   replace H:(ebbtideref05_Parse.l0 k1 y482 t473 (wrap64 (x6_1+1)))=some (r1,r2):=by first|(rw [hy482];with_reducible exact H)|(have H2_:=(Option.bind_some _ _).symm.trans H;rw [hy482];with_reducible exact H2_)|(have H2_:=(Option.bind_some _ _).symm.trans H;with_reducible exact H2_)|with_reducible exact H|(rw [hy482];exact H)|exact H
   have Ny482:=Aside0.mk hy482
   clear hy482
   have H':=Aside0.mk H
   clear H
   obtain ⟨Ao11,co11,eo11⟩:=Kd.R_slice HO_5.out
   subst eo11
   have p476:0≤(x6_1:Int):=of_decide_eq_true qA
   have q476:x6_1<(t473.length:Int):=of_decide_eq_true qA
   obtain ⟨ad476,e476,hx476_0⟩:=Kd.at_string (Kd.R_reads' HO_5.out).2.2 x6_1 p476 q476
   cases e476
   replace p476:=eq_true p476
   replace q476:=eq_true q476
   go_wp2_with (first|((with_reducible refine gate_callee (f:=117) rfl ?_);refine goesL_ (some 22) rfl rfl Tryz.func117 qK rfl #[.string (rdOf ByteArray.empty t473 x6_1)] rfl qG ?_;(with_reducible refine (ebbtideref05_part.calls k1 (rdOf ByteArray.empty t473 x6_1) t477 t478 t479 _ A7.out).mono ?_);rintro e w12 ⟨rfl,hb⟩;refine ⟨_,rfl,?_⟩;replace HO_4:=Aside0.mk (Kd.R_below (qR HO_4) hb);replace HO_5:=Aside0.mk (Kd.R_below (qR HO_5) hb);replace HB:=Aside0.mk (below_step qB hb);clear hb)|((with_reducible refine gate_dst (N:=7) rfl ?_);refine box_event ?hg (N:=7) ?hd (cs:=#[.int .i64 0, .string (⟨#[]⟩:ByteArray), .string (⟨#[]⟩:ByteArray)]) (t:=127) ?hr ?_;(case hd=>rfl);(case hg=>rfl);(case hr=>first|(go_simp;done)|(go_simp;rfl));intro gb480 hg w13 hbox hb;replace HO_4:=Aside0.mk (Kd.R_below (Kd.R_elderB (qR HO_4) gb480 (Nat.le_of_eq hg.symm)) hb);replace HO_5:=Aside0.mk (Kd.R_below (qR HO_5) hb);have BK480:=Aside0.mk hbox;have GW480:Aside0 (w.heap.size≤gb480):=⟨qH⟩;have GE480:=GW480;replace HB:=Aside0.mk (below_step qB hb);clear hb hbox hg;obtain ⟨hcz14_0,hcz14_1,hcz14_2,hfz14_0,hfz14_1,hfz14_2⟩:=cf3 BK480.out)|((with_reducible refine gate_callee (f:=111) rfl ?_);refine goesL_ (some 24) rfl rfl Tryz.func111 qK rfl #[.agg #[.int .i64 t477, .string t478, .string t479]] rfl qG ?_;(with_reducible refine (ebbtideref05_may.calls k1 t477 t478 t479 true _ A8.out).mono ?_);rintro e w15 ⟨rfl,hb⟩;refine ⟨_,rfl,?_⟩;replace HO_4:=Aside0.mk (Kd.R_below (by (with_reducible repeat (first|apply Kd.R_alloc|apply Kd.R_drewN|apply Kd.R_drew));exact (Kd.R_mono (Kd.R_far (p:=⟨gb480,2,none⟩) (Kd.R_far (p:=⟨gb480,1,none⟩) (Kd.R_far (p:=⟨gb480,0,none⟩) (Kd.R_mono HO_4.out (fun k_ hk=>(⟨hk,hk.2⟩:_∧k_≠gb480))) (fun _ hk=>hk.2) (.int .i64 t477)) (fun _ hk=>hk.2) (.string t478)) (fun _ hk=>hk.2) (.string t479)) (fun _ h_=>h_.1))) hb);replace HO_5:=Aside0.mk (Kd.R_below (by (with_reducible repeat (first|apply Kd.R_alloc|apply Kd.R_drewN|apply Kd.R_drew));exact (Kd.R_mono (Kd.R_far (p:=⟨gb480,2,none⟩) (Kd.R_far (p:=⟨gb480,1,none⟩) (Kd.R_far (p:=⟨gb480,0,none⟩) (Kd.R_types HO_5.out BK480.out (by decide)) (fun _ hk=>hk.2) (.int .i64 t477)) (fun _ hk=>hk.2) (.string t478)) (fun _ hk=>hk.2) (.string t479)) (fun _ h_=>h_.1))) hb);replace BK480:=Aside0.mk (blk_below (g:=gb480) (o := .cells #[.int .i64 t477, .string t478, .string t479] 127 (0,0)) (by (with_reducible repeat (first|refine blk_drewN ?_ _|refine blk_drew ?_|refine blk_alloc ?_ _));refine blk_put (cs:=#[.int .i64 t477, .string t478, .string (⟨#[]⟩:ByteArray)]) ?_ 2 _ rfl;(with_reducible repeat (first|refine blk_drewN ?_ _|refine blk_drew ?_|refine blk_alloc ?_ _));refine blk_put (cs:=#[.int .i64 t477, .string (⟨#[]⟩:ByteArray), .string (⟨#[]⟩:ByteArray)]) ?_ 1 _ rfl;(with_reducible repeat (first|refine blk_drewN ?_ _|refine blk_drew ?_|refine blk_alloc ?_ _));refine blk_put (cs:=#[.int .i64 0, .string (⟨#[]⟩:ByteArray), .string (⟨#[]⟩:ByteArray)]) ?_ 0 _ rfl;(with_reducible repeat (first|refine blk_drewN ?_ _|refine blk_drew ?_|refine blk_alloc ?_ _));exact BK480.out) hb);replace HB:=Aside0.mk (below_step qC hb);clear hb;obtain ⟨hcz16_0,hcz16_1,hcz16_2,hfz16_0,hfz16_1,hfz16_2⟩:=cf3 BK480.out)|((with_reducible refine gate_builtin (b := .append) (xs:=#[.tmp 26, .tmp 28]) rfl ?_);at_builtin;refine Kd.R_append k127 (w0:=w) w.heap.size rfl (.tmp 26) (.tmp 28) 22 127 (.agg #[(.int .i64 0),(.string ⟨#[]⟩),(.string ⟨#[]⟩)]) 40 rfl Tryz.underlying22 info127 rfl (by decide) (by omega) u4 x4_1 (⟨t477,t478,t479⟩:S127) [.int .i64 t477, .string t478, .string t479] (fun k_=>k_≠gb480) (fun _=>False) rfl rfl ?aP (fun _ hk=>hk.elim) ?aF ?aO ?aB ?aS ?aL ?_;(case aP=>exact k127_mkM _ _ _ (⟨t477,t478,t479⟩:S127));(case aB=>exact qC);(case aF=>exact (fun k_ hk=>Kd.freshB (g:=gb480) (o := .cells #[.int .i64 t477, .string t478, .string t479] 127 (0,0)) (qW BK480) k_ hk));(case aO=>exact (by (with_reducible repeat (first|apply Kd.R_alloc|apply Kd.R_drewN|apply Kd.R_drew));exact Kd.R_mono HO_4.out (fun _ hk=>hk.2)));(case aS=>exact (below_size qC));(case aL=>have:=LMc10.out;omega);intro v483 w17 ho hb hg hat;rw [← Ny482.out] at ho;replace HO_5:=Aside0.mk (Kd.R_over' (qR HO_5) (Kd.R_typed (qR HO_4)) (by decide) hg);replace BK480:=Aside0.mk (blk_grown (g:=gb480) (o := .cells #[.int .i64 t477, .string t478, .string t479] 127 (0,0)) (qW BK480) hg (Kd.R_away HO_4.out (fun _ hk=>hk.2)));replace HB:=Aside0.mk hb;have HO484:=Aside0.mk ho;clear HO_4;clear ho hb hg hat))
   go_roundg k1
   case measure=>have:=HK1.out;omega
   case rel=>exact ⟨(y482),(wrap64 (x6_1+1)),qS,H',⟨by have:=HK1.out;omega⟩,⟨by (with_reducible repeat (first|apply Kd.R_alloc|apply Kd.R_drewN|apply Kd.R_drew));exact Kd.R_mono HO484.out (fun _ hk=>trivial)⟩,⟨qR HO_5⟩,⟨qC⟩⟩
mutual
def ebbtideref07_Parse.j0:Nat→List ByteArray→Bool→Option (Int×ByteArray×(List (S127))×List ByteArray×Int)
 | 0,_,_=>none
 | k+1,x4,x26=>if x26=true then (some (0,(⟨#[]⟩:ByteArray),([]:List (S127)),([]:List ByteArray),2)) else (if 0<(x4.length:Int) then ((ebbtideref07_agg.f k (rdOf ByteArray.empty x4 0)).bind fun t491=>(if t491=0 then (some (0,(⟨#[]⟩:ByteArray),([]:List (S127)),([]:List ByteArray),2)) else (if 1<(x4.length:Int) then ((ebbtideref04_Cut.f k (rdOf ByteArray.empty x4 1)).bind fun bt494=>(if bt494.2.2=true then ((ebbtideref02_Name.f k bt494.1).bind fun t497=>(ebbtideref07_Parse.j1 k x4 bt494.1 bt494.2.1 (!t497) t491 (⟨#[]⟩:ByteArray))) else (ebbtideref07_Parse.j1 k x4 bt494.1 bt494.2.1 true t491 (⟨#[]⟩:ByteArray)))) else (none)))) else (none))
def ebbtideref07_Parse.j1:Nat→List ByteArray→ByteArray→ByteArray→Bool→Int→ByteArray→Option (Int×ByteArray×(List (S127))×List ByteArray×Int)
 | 0,_,_,_,_,_,_=>none
 | k+1,x4,x6,x7,x51,x493000,x493001=>if x51=true then (some (0,(⟨#[]⟩:ByteArray),([]:List (S127)),([]:List ByteArray),2)) else ((ebbtideref05_Parse.f k x7).bind fun bt498=>(if bt498.2=0 then (if (x4.length:Int)=4 then (if 3<(x4.length:Int) then ((ebbtideref02_Split.f k (rdOf ByteArray.empty x4 3) 44).bind fun t503=>((ebbtideref07_names.f k t503).bind fun t506=>(if t506=0 then (some (x493000,x6,bt498.1,t503,0)) else (some (0,(⟨#[]⟩:ByteArray),([]:List (S127)),([]:List ByteArray),t506))))) else (none)) else ((ebbtideref07_names.f k ([]:List ByteArray)).bind fun t507=>(if t507=0 then (some (x493000,x6,bt498.1,([]:List ByteArray),0)) else (some (0,(⟨#[]⟩:ByteArray),([]:List (S127)),([]:List ByteArray),t507))))) else (some (0,(⟨#[]⟩:ByteArray),([]:List (S127)),([]:List ByteArray),bt498.2))))
end
def ebbtideref07_Parse.f (k:Nat) (a0:ByteArray):Option (Int×ByteArray×(List (S127))×List ByteArray×Int):=(ebbtideref02_Fields.f k a0).bind fun t486=>(if (t486.length:Int)=2 then (ebbtideref07_Parse.j0 k t486 false) else (if (t486.length:Int)=4 then (if 2<(t486.length:Int) then (ebbtideref07_Parse.j0 k t486 ((rdOf ByteArray.empty t486 2).toList != ([98,121]:List UInt8))) else (none)) else (ebbtideref07_Parse.j0 k t486 true)))
theorem ebbtideref07_Parse.mono_l:∀ k,(∀ y0 y1,LeO (ebbtideref07_Parse.j0 k y0 y1) (ebbtideref07_Parse.j0 (k+1) y0 y1))∧(∀ y0 y1 y2 y3 y4 y5,LeO (ebbtideref07_Parse.j1 k y0 y1 y2 y3 y4 y5) (ebbtideref07_Parse.j1 (k+1) y0 y1 y2 y3 y4 y5))
 | 0=>⟨fun _ _ r h=>by simp [ebbtideref07_Parse.j0] at h,fun _ _ _ _ _ _ r h=>by simp [ebbtideref07_Parse.j1] at h⟩
 | k+1=>by
  obtain ⟨ih0,ih1⟩:=ebbtideref07_Parse.mono_l k
  refine ⟨?_,?_⟩
  ·intro y0 y1
   unfold ebbtideref07_Parse.j0
   repeat' first
   | (with_reducible exact ih0 _ _)
   | (with_reducible exact ih1 _ _ _ _ _ _)
   | (with_reducible exact ebbtideref02_Fields.mono _ _)
   | (with_reducible exact ebbtideref02_Name.mono _ _)
   | (with_reducible exact ebbtideref02_Split.mono _ _ _)
   | (with_reducible exact ebbtideref04_Cut.mono _ _)
   | (with_reducible exact ebbtideref05_Parse.mono _ _)
   | (with_reducible exact ebbtideref07_agg.mono _ _)
   | (with_reducible exact ebbtideref07_names.mono _ _)
   | (with_reducible exact LeO.refl _)
   | (with_reducible exact LeO.none _)
   | (with_reducible refine LeO.ite ?_ ?_)
   | (with_reducible refine LeO.bind ?_ (fun _=>?_))
   | exact ih0 _ _
   | exact ih1 _ _ _ _ _ _
   | exact ebbtideref02_Fields.mono _ _
   | exact ebbtideref02_Name.mono _ _
   | exact ebbtideref02_Split.mono _ _ _
   | exact ebbtideref04_Cut.mono _ _
   | exact ebbtideref05_Parse.mono _ _
   | exact ebbtideref07_agg.mono _ _
   | exact ebbtideref07_names.mono _ _
   | exact LeO.none _
   | refine LeO.ite ?_ ?_
   | refine LeO.bind ?_ (fun _=>?_)
  ·intro y0 y1 y2 y3 y4 y5
   unfold ebbtideref07_Parse.j1
   repeat' first
   | (with_reducible exact ih0 _ _)
   | (with_reducible exact ih1 _ _ _ _ _ _)
   | (with_reducible exact ebbtideref02_Fields.mono _ _)
   | (with_reducible exact ebbtideref02_Name.mono _ _)
   | (with_reducible exact ebbtideref02_Split.mono _ _ _)
   | (with_reducible exact ebbtideref04_Cut.mono _ _)
   | (with_reducible exact ebbtideref05_Parse.mono _ _)
   | (with_reducible exact ebbtideref07_agg.mono _ _)
   | (with_reducible exact ebbtideref07_names.mono _ _)
   | (with_reducible exact LeO.refl _)
   | (with_reducible exact LeO.none _)
   | (with_reducible refine LeO.ite ?_ ?_)
   | (with_reducible refine LeO.bind ?_ (fun _=>?_))
   | exact ih0 _ _
   | exact ih1 _ _ _ _ _ _
   | exact ebbtideref02_Fields.mono _ _
   | exact ebbtideref02_Name.mono _ _
   | exact ebbtideref02_Split.mono _ _ _
   | exact ebbtideref04_Cut.mono _ _
   | exact ebbtideref05_Parse.mono _ _
   | exact ebbtideref07_agg.mono _ _
   | exact ebbtideref07_names.mono _ _
   | exact LeO.none _
   | refine LeO.ite ?_ ?_
   | refine LeO.bind ?_ (fun _=>?_)
theorem ebbtideref07_Parse.mono:∀ a0 k,LeO (ebbtideref07_Parse.f k a0) (ebbtideref07_Parse.f (k+1) a0):=by
 intro a0 k
 obtain ⟨ih0,ih1⟩:=ebbtideref07_Parse.mono_l k
 unfold ebbtideref07_Parse.f
 repeat' first
   | (with_reducible exact ih0 _ _)
   | (with_reducible exact ih1 _ _ _ _ _ _)
   | (with_reducible exact ebbtideref02_Fields.mono _ _)
   | (with_reducible exact ebbtideref02_Name.mono _ _)
   | (with_reducible exact ebbtideref02_Split.mono _ _ _)
   | (with_reducible exact ebbtideref04_Cut.mono _ _)
   | (with_reducible exact ebbtideref05_Parse.mono _ _)
   | (with_reducible exact ebbtideref07_agg.mono _ _)
   | (with_reducible exact ebbtideref07_names.mono _ _)
   | (with_reducible exact LeO.refl _)
   | (with_reducible exact LeO.none _)
   | (with_reducible refine LeO.ite ?_ ?_)
   | (with_reducible refine LeO.bind ?_ (fun _=>?_))
   | exact ih0 _ _
   | exact ih1 _ _ _ _ _ _
   | exact ebbtideref02_Fields.mono _ _
   | exact ebbtideref02_Name.mono _ _
   | exact ebbtideref02_Split.mono _ _ _
   | exact ebbtideref04_Cut.mono _ _
   | exact ebbtideref05_Parse.mono _ _
   | exact ebbtideref07_agg.mono _ _
   | exact ebbtideref07_names.mono _ _
   | exact LeO.none _
   | refine LeO.ite ?_ ?_
   | refine LeO.bind ?_ (fun _=>?_)
theorem ebbtideref07_Parse.calls (k:Nat) (a0:ByteArray) (r1:Int) (r2:ByteArray) (r3:List (S127)) (r4:List ByteArray) (r5:Int) (w:World) (h:ebbtideref07_Parse.f k a0=some (r1,r2,r3,r4,r5)) :
  Calls Tryz.prog 21 #[.string a0] w fun e w'=>∃ v2_ v3_:Value,e = .returned (.tuple #[.agg #[.int .i64 r1, .string r2,v2_,v3_], .int .i64 r5])∧Kd.R k127 127 w' w.heap.size (fun _=>True) v2_ r3∧Kd.R Kd.string 9 w' w.heap.size (fun _=>True) v3_ r4∧Below w.heap.size w w':=by
 have hu25:=Tryz.underlying25
 have HB:=Aside0.mk (Below.refl w.heap.size w)
 have H:((ebbtideref02_Fields.f k a0).bind fun t486=>(if (t486.length:Int)=2 then (ebbtideref07_Parse.j0 k t486 false) else (if (t486.length:Int)=4 then (if 2<(t486.length:Int) then (ebbtideref07_Parse.j0 k t486 ((rdOf ByteArray.empty t486 2).toList != ([98,121]:List UInt8))) else (none)) else (ebbtideref07_Parse.j0 k t486 true))))=some (r1,r2,r3,r4,r5):=h
 clear h
 replace H:=Option.bind_eq_some_iff.mp H
 obtain ⟨t486,A20,H⟩:=H
 replace H:(if (t486.length:Int)=2 then (ebbtideref07_Parse.j0 k t486 false) else (if (t486.length:Int)=4 then (if 2<(t486.length:Int) then (ebbtideref07_Parse.j0 k t486 ((rdOf ByteArray.empty t486 2).toList != ([98,121]:List UInt8))) else (none)) else (ebbtideref07_Parse.j0 k t486 true)))=some (r1,r2,r3,r4,r5):=H
 have A2:=Aside0.mk A20
 clear A20
 have HC3:=Aside0.mk H
 clear H
 go_enter Tryz.func21,Tryz.ntmps21
 go_upto_region 2 with (first|((with_reducible refine gate_dst (N:=2) rfl ?_);(try (refine gate_guard (by rfl) ?_;dsimp only));refine box_event ?hg (N:=2) ?hd (cs:=#[.int .i64 0, .string (⟨#[]⟩:ByteArray), .slice none 0 0, .slice none 0 0]) (t:=25) ?hr ?_;(case hd=>rfl);(case hg=>rfl);(case hr=>first|(go_simp;done)|(go_simp;rfl));intro gb485 hg w4 hbox hb;have BK485:=Aside0.mk hbox;have GW485:Aside0 (w.heap.size≤gb485):=⟨qH⟩;have GE485:=GW485;replace HB:=Aside0.mk (below_step qB hb);clear hb hbox hg)|((with_reducible refine gate_callee (f:=68) rfl ?_);refine goesL_ (some 12) rfl rfl Tryz.func68 qK rfl #[.string a0] rfl qG ?_;(with_reducible refine (ebbtideref02_Fields.calls k a0 t486 _ A2.out).mono ?_);rintro e w5 ⟨v487,rfl,ho0,hb⟩;refine ⟨_,rfl,?_⟩;have HO488:=Aside0.mk (Kd.R_lower ho0 (below_size qC));replace BK485:=Aside0.mk (blk_below (g:=gb485) (o := .cells #[.int .i64 0, .string (⟨#[]⟩:ByteArray), .slice none 0 0, .slice none 0 0] 25 (0,0)) (qW BK485) hb);replace HB:=Aside0.mk (below_step qC hb);clear hb ho0))
 (try simp only [Act.put,List.setIfInBounds_toArray,List.set_cons_zero,List.set_cons_succ])
 go_cut [26] (fun v26 wc=>∃ (kq:Nat) (x26_2:Bool),v26 = .bool x26_2∧Aside0 (ebbtideref07_Parse.j0 kq t486 x26_2=some (r1,r2,r3,r4,r5))∧Aside0 (kq≤k)∧Aside0 (Kd.R Kd.string 9 wc w.heap.size (fun _=>True) v487 t486)∧Aside0 (wc.heap[gb485]?=some (.cells #[.int .i64 0, .string (⟨#[]⟩:ByteArray),(.slice none 0 0),(.slice none 0 0)] 25 (0,0)))∧Aside0 (Below w.heap.size w wc))
 case first =>
  have H:=HC3.out
  clear HC3
  by_cases c6:(t486.length:Int)=2
  ·rw [if_pos c6] at H
   have c6b0:((t486.length:Int) ==2)=true:=beq_iff_eq.mpr c6
   have c6b1:((t486.length:Int) != 2)=false:=bne_eq_false_iff_eq.mpr c6
   clear c6
   (first|rw [c6b0]|(simp only [i64_w,i32_w];rw [c6b0])|rw [c6b1]|skip)
   have H':=Aside0.mk H
   clear H
   obtain ⟨Ao7,co7,eo7⟩:=Kd.R_slice HO488.out
   subst eo7
   go_wp2
   go_meet
   case rel=>exact ⟨_,(false),qS,H',⟨by first|omega|exact Nat.le_refl _⟩,⟨qR HO488⟩,⟨qW BK485⟩,⟨qC⟩⟩
  rw [if_neg c6] at H
  have c6b0:((t486.length:Int) ==2)=false:=beq_eq_false_iff_ne.mpr c6
  have c6b1:((t486.length:Int) != 2)=true:=bne_iff_ne.mpr c6
  (first|rw [c6b0]|(simp only [i64_w,i32_w];rw [c6b0])|rw [c6b1]|skip)
  by_cases c8:(t486.length:Int)=4
  rotate_left
  ·rw [if_neg c8] at H
   have c8b0:((t486.length:Int) ==4)=false:=beq_eq_false_iff_ne.mpr c8
   have c8b1:((t486.length:Int) != 4)=true:=bne_iff_ne.mpr c8
   have H':=Aside0.mk H
   clear H
   obtain ⟨Ao11,co11,eo11⟩:=Kd.R_slice HO488.out
   subst eo11
   go_wp2
   go_meet
   case rel=>exact ⟨_,(true),qS,H',⟨by first|omega|exact Nat.le_refl _⟩,⟨qR HO488⟩,⟨qW BK485⟩,⟨qC⟩⟩
  rw [if_pos c8] at H
  have c8b0:((t486.length:Int) ==4)=true:=beq_iff_eq.mpr c8
  have c8b1:((t486.length:Int) != 4)=false:=bne_eq_false_iff_eq.mpr c8
  clear c8
  by_cases c9:2<(t486.length:Int)
  rotate_left
  ·rw [if_neg c9] at H
   exact absurd H (by simp)
  rw [if_pos c9] at H
  have c9b0:decide (2<(t486.length:Int))=true:=decide_eq_true c9
  have c9b1:decide (2<t486.length)=true:=decide_eq_true (by omega)
  clear c9
  have H':=Aside0.mk H
  clear H
  obtain ⟨Ao10,co10,eo10⟩:=Kd.R_slice HO488.out
  subst eo10
  have p489:0≤(2:Int):=(by omega)
  have q489:2<(t486.length:Int):=of_decide_eq_true qA
  obtain ⟨ad489,e489,hx489_0⟩:=Kd.at_string (Kd.R_reads' HO488.out).2.2 2 p489 q489
  cases e489
  (try simp only [show (2:Int).toNat=2 from rfl,Nat.reduceMul,Nat.reduceEqDiff,Go.Addr.add,↓reduceIte] at hx489_0)
  have qi489:(2<t486.length)=True:=eq_true (by omega)
  (try rw [show ((2:Int)).toNat=2 from rfl] at hx489_0)
  replace p489:=eq_true p489
  replace q489:=eq_true q489
  go_wp2
  go_meet
  case rel=>exact ⟨_,(((rdOf ByteArray.empty t486 2).toList != ([98,121]:List UInt8))),qS,H',⟨by first|omega|exact Nat.le_refl _⟩,⟨qR HO488⟩,⟨qW BK485⟩,⟨qC⟩⟩
 case rest =>
  clear HC3
  obtain ⟨kq,x26_2,rfl,HA,HJ2,HO_4,BK485,HB⟩:=hcut
  cases kq with
  | zero=>exact absurd HA.out (by simp [ebbtideref07_Parse.j0])
  | succ kj2 =>
   have H:=HA.out
   clear HA
   simp only [ebbtideref07_Parse.j0] at H
   by_cases c12:x26_2=true
   ·subst c12
    have H1:(some (0,(⟨#[]⟩:ByteArray),([]:List (S127)),([]:List ByteArray),2))=some (r1,r2,r3,r4,r5):=by rw [if_pos rfl] at H;exact H
    clear H
    have H:=H1
    clear H1
    simp only [Option.some.injEq,Prod.mk.injEq] at H
    obtain ⟨rfl,rfl,rfl,rfl,rfl⟩:=H
    obtain ⟨hcz13_0,hcz13_1,hcz13_2,hcz13_3,hfz13_0,hfz13_1,hfz13_2,hfz13_3⟩:=cf4 BK485.out
    go_wp2
    refine bodyPost_ret (results_ct rfl _ _ gb485 25 #[.int .i64 0, .string (⟨#[]⟩:ByteArray), .slice none 0 0, .slice none 0 0] (0,0) _ rfl (by (with_reducible repeat (first|refine blk_drewN ?_ _|refine blk_drew ?_|refine blk_alloc ?_ _));refine blk_put (cs:=#[.int .i64 0, .string (⟨#[]⟩:ByteArray), .slice none 0 0, .slice none 0 0]) ?_ 3 _ rfl;(with_reducible repeat (first|refine blk_drewN ?_ _|refine blk_drew ?_|refine blk_alloc ?_ _));refine blk_put (cs:=#[.int .i64 0, .string (⟨#[]⟩:ByteArray), .slice none 0 0, .slice none 0 0]) ?_ 2 _ rfl;(with_reducible repeat (first|refine blk_drewN ?_ _|refine blk_drew ?_|refine blk_alloc ?_ _));refine blk_put (cs:=#[.int .i64 0, .string (⟨#[]⟩:ByteArray), .slice none 0 0, .slice none 0 0]) ?_ 1 _ rfl;(with_reducible repeat (first|refine blk_drewN ?_ _|refine blk_drew ?_|refine blk_alloc ?_ _));refine blk_put (cs:=#[.int .i64 0, .string (⟨#[]⟩:ByteArray), .slice none 0 0, .slice none 0 0]) ?_ 0 _ rfl;(with_reducible repeat (first|refine blk_drewN ?_ _|refine blk_drew ?_|refine blk_alloc ?_ _));exact BK485.out) Tryz.underlying25 rfl qK) rfl ?_
    exact ⟨_,_,qE,qN,qN,qC⟩
   replace c12:=Bool.eq_false_iff.mpr c12
   subst c12
   have H1:(if 0<(t486.length:Int) then ((ebbtideref07_agg.f kj2 (rdOf ByteArray.empty t486 0)).bind fun t491=>(if t491=0 then (some (0,(⟨#[]⟩:ByteArray),([]:List (S127)),([]:List ByteArray),2)) else (if 1<(t486.length:Int) then ((ebbtideref04_Cut.f kj2 (rdOf ByteArray.empty t486 1)).bind fun bt494=>(if bt494.2.2=true then ((ebbtideref02_Name.f kj2 bt494.1).bind fun t497=>(ebbtideref07_Parse.j1 kj2 t486 bt494.1 bt494.2.1 (!t497) t491 (⟨#[]⟩:ByteArray))) else (ebbtideref07_Parse.j1 kj2 t486 bt494.1 bt494.2.1 true t491 (⟨#[]⟩:ByteArray)))) else (none)))) else (none))=some (r1,r2,r3,r4,r5):=by rw [if_neg (show ¬ (false=true) by decide)] at H;exact H
   clear H
   have H:=H1
   clear H1
   by_cases c14:0<(t486.length:Int)
   rotate_left
   ·rw [if_neg c14] at H
    exact absurd H (by simp)
   rw [if_pos c14] at H
   have c14b0:decide (0<(t486.length:Int))=true:=decide_eq_true c14
   have c14b1:decide (0<t486.length)=true:=decide_eq_true (by omega)
   clear c14
   replace H:=Option.bind_eq_some_iff.mp H
   obtain ⟨t491,A150,H⟩:=H
   replace H:(if t491=0 then (some (0,(⟨#[]⟩:ByteArray),([]:List (S127)),([]:List ByteArray),2)) else (if 1<(t486.length:Int) then ((ebbtideref04_Cut.f kj2 (rdOf ByteArray.empty t486 1)).bind fun bt494=>(if bt494.2.2=true then ((ebbtideref02_Name.f kj2 bt494.1).bind fun t497=>(ebbtideref07_Parse.j1 kj2 t486 bt494.1 bt494.2.1 (!t497) t491 (⟨#[]⟩:ByteArray))) else (ebbtideref07_Parse.j1 kj2 t486 bt494.1 bt494.2.1 true t491 (⟨#[]⟩:ByteArray)))) else (none)))=some (r1,r2,r3,r4,r5):=H
   have A15:=Aside0.mk A150
   clear A150
   by_cases c16:t491=0
   ·rw [if_pos c16] at H
    have c16b0:(t491 ==0)=true:=beq_iff_eq.mpr c16
    have c16b1:(t491 != 0)=false:=bne_eq_false_iff_eq.mpr c16
    clear c16
    simp only [Option.some.injEq,Prod.mk.injEq] at H
    obtain ⟨rfl,rfl,rfl,rfl,rfl⟩:=H
    obtain ⟨Ao17,co17,eo17⟩:=Kd.R_slice HO_4.out
    subst eo17
    have p490:0≤(0:Int):=(by omega)
    have q490:0<(t486.length:Int):=of_decide_eq_true qA
    obtain ⟨ad490,e490,hx490_0⟩:=Kd.at_string (Kd.R_reads' HO_4.out).2.2 0 p490 q490
    cases e490
    have qi490:(0<t486.length)=True:=eq_true (by omega)
    (try rw [show ((0:Int)).toNat=0 from rfl] at hx490_0)
    (try rw [Addr.add_zero'] at hx490_0)
    replace p490:=eq_true p490
    replace q490:=eq_true q490
    go_wp2_with (first|((with_reducible refine gate_callee (f:=69) rfl ?_);refine goesL_ (some 31) rfl rfl Tryz.func69 qK rfl #[.string (rdOf ByteArray.empty t486 0)] rfl qG ?_;(with_reducible refine (ebbtideref07_agg.calls kj2 (rdOf ByteArray.empty t486 0) t491 _ A15.out).mono ?_);rintro e w18 ⟨rfl,hb⟩;refine ⟨_,rfl,?_⟩;replace HO_4:=Aside0.mk (Kd.R_below (qR HO_4) hb);replace BK485:=Aside0.mk (blk_below (g:=gb485) (o := .cells #[.int .i64 0, .string (⟨#[]⟩:ByteArray), .slice none 0 0, .slice none 0 0] 25 (0,0)) (qW BK485) hb);replace HB:=Aside0.mk (below_step qC hb);clear hb)|((with_reducible refine gate_dst (N:=5) rfl ?_);(try (refine gate_guard (by rfl) ?_;dsimp only));refine box_event ?hg (N:=5) ?hd (cs:=#[.int .i64 0, .string (⟨#[]⟩:ByteArray), .slice none 0 0, .slice none 0 0]) (t:=25) ?hr ?_;(case hd=>rfl);(case hg=>rfl);(case hr=>first|(go_simp;done)|(go_simp;rfl));intro gb492 hg w19 hbox hb;replace HO_4:=Aside0.mk (Kd.R_below (qR HO_4) hb);have BK492:=Aside0.mk hbox;have GW492:Aside0 (w.heap.size≤gb492):=⟨qI⟩;have GE492:=GW492;replace HB:=Aside0.mk (below_step qC hb);have NB485_492:=Aside0.mk ((by rw [hg];exact Nat.ne_of_lt (blk_lt (g:=gb485) (o := .cells #[.int .i64 0, .string (⟨#[]⟩:ByteArray), .slice none 0 0, .slice none 0 0] 25 (0,0)) (qW BK485)):gb485≠gb492));have NB492_485:=Aside0.mk ((by rw [hg];exact Nat.ne_of_gt (blk_lt (g:=gb485) (o := .cells #[.int .i64 0, .string (⟨#[]⟩:ByteArray), .slice none 0 0, .slice none 0 0] 25 (0,0)) (qW BK485)):gb492≠gb485));replace BK485:=Aside0.mk (blk_below (g:=gb485) (o := .cells #[.int .i64 0, .string (⟨#[]⟩:ByteArray), .slice none 0 0, .slice none 0 0] 25 (0,0)) (qW BK485) hb);clear hb hbox hg;have hnb20:=NB492_485.out;have hnc20:=NB485_492.out;obtain ⟨hcz21_0,hcz21_1,hcz21_2,hcz21_3,hfz21_0,hfz21_1,hfz21_2,hfz21_3⟩:=cf4 BK492.out;obtain ⟨hcz22_0,hcz22_1,hcz22_2,hcz22_3,hfz22_0,hfz22_1,hfz22_2,hfz22_3⟩:=cf4 BK485.out))
    refine bodyPost_ret (results_ct rfl _ _ gb485 25 #[.int .i64 0, .string (⟨#[]⟩:ByteArray), .slice none 0 0, .slice none 0 0] (0,0) _ rfl (by (with_reducible repeat (first|refine blk_drewN ?_ _|refine blk_drew ?_|refine blk_alloc ?_ _));refine blk_put (cs:=#[.int .i64 0, .string (⟨#[]⟩:ByteArray), .slice none 0 0, .slice none 0 0]) ?_ 3 _ rfl;(with_reducible repeat (first|refine blk_drewN ?_ _|refine blk_drew ?_|refine blk_alloc ?_ _));refine blk_put (cs:=#[.int .i64 0, .string (⟨#[]⟩:ByteArray), .slice none 0 0, .slice none 0 0]) ?_ 2 _ rfl;(with_reducible repeat (first|refine blk_drewN ?_ _|refine blk_drew ?_|refine blk_alloc ?_ _));refine blk_put (cs:=#[.int .i64 0, .string (⟨#[]⟩:ByteArray), .slice none 0 0, .slice none 0 0]) ?_ 1 _ rfl;(with_reducible repeat (first|refine blk_drewN ?_ _|refine blk_drew ?_|refine blk_alloc ?_ _));refine blk_put (cs:=#[.int .i64 0, .string (⟨#[]⟩:ByteArray), .slice none 0 0, .slice none 0 0]) ?_ 0 _ rfl;(with_reducible repeat (first|refine blk_drewN ?_ _|refine blk_drew ?_|refine blk_alloc ?_ _));refine blk_far ?_ NB485_492.out _;(with_reducible repeat (first|refine blk_drewN ?_ _|refine blk_drew ?_|refine blk_alloc ?_ _));refine blk_far ?_ NB485_492.out _;(with_reducible repeat (first|refine blk_drewN ?_ _|refine blk_drew ?_|refine blk_alloc ?_ _));refine blk_far ?_ NB485_492.out _;(with_reducible repeat (first|refine blk_drewN ?_ _|refine blk_drew ?_|refine blk_alloc ?_ _));refine blk_far ?_ NB485_492.out _;(with_reducible repeat (first|refine blk_drewN ?_ _|refine blk_drew ?_|refine blk_alloc ?_ _));exact BK485.out) Tryz.underlying25 rfl qK) rfl ?_
    exact ⟨_,_,qE,qN,qN,qC⟩
   rw [if_neg c16] at H
   have c16b0:(t491 ==0)=false:=beq_eq_false_iff_ne.mpr c16
   have c16b1:(t491 != 0)=true:=bne_iff_ne.mpr c16
   by_cases c23:1<(t486.length:Int)
   rotate_left
   ·rw [if_neg c23] at H
    exact absurd H (by simp)
   rw [if_pos c23] at H
   have c23b0:decide (1<(t486.length:Int))=true:=decide_eq_true c23
   have c23b1:decide (1<t486.length)=true:=decide_eq_true (by omega)
   clear c23
   replace H:=Option.bind_eq_some_iff.mp H
   obtain ⟨⟨t494,t495,t496⟩,A240,H⟩:=H
   replace H:(if t496=true then ((ebbtideref02_Name.f kj2 t494).bind fun t497=>(ebbtideref07_Parse.j1 kj2 t486 t494 t495 (!t497) t491 (⟨#[]⟩:ByteArray))) else (ebbtideref07_Parse.j1 kj2 t486 t494 t495 true t491 (⟨#[]⟩:ByteArray)))=some (r1,r2,r3,r4,r5):=H
   have A24:=Aside0.mk A240
   clear A240
   have HC25:=Aside0.mk H
   clear H
   obtain ⟨Ao26,co26,eo26⟩:=Kd.R_slice HO_4.out
   subst eo26
   have p490:0≤(0:Int):=(by omega)
   have q490:0<(t486.length:Int):=of_decide_eq_true qA
   obtain ⟨ad490,e490,hx490_0⟩:=Kd.at_string (Kd.R_reads' HO_4.out).2.2 0 p490 q490
   cases e490
   have qi490:(0<t486.length)=True:=eq_true (by omega)
   (try rw [show ((0:Int)).toNat=0 from rfl] at hx490_0)
   (try rw [Addr.add_zero'] at hx490_0)
   replace p490:=eq_true p490
   replace q490:=eq_true q490
   go_upto_region 8 with (first|((with_reducible refine gate_callee (f:=69) rfl ?_);refine goesL_ (some 31) rfl rfl Tryz.func69 qK rfl #[.string (rdOf ByteArray.empty t486 0)] rfl qG ?_;(with_reducible refine (ebbtideref07_agg.calls kj2 (rdOf ByteArray.empty t486 0) t491 _ A15.out).mono ?_);rintro e w27 ⟨rfl,hb⟩;refine ⟨_,rfl,?_⟩;replace HO_4:=Aside0.mk (Kd.R_below (qR HO_4) hb);replace BK485:=Aside0.mk (blk_below (g:=gb485) (o := .cells #[.int .i64 0, .string (⟨#[]⟩:ByteArray), .slice none 0 0, .slice none 0 0] 25 (0,0)) (qW BK485) hb);replace HB:=Aside0.mk (below_step qC hb);clear hb)|((with_reducible refine gate_dst (N:=5) rfl ?_);(try (refine gate_guard (by rfl) ?_;dsimp only));refine box_event ?hg (N:=5) ?hd (cs:=#[.int .i64 0, .string (⟨#[]⟩:ByteArray), .slice none 0 0, .slice none 0 0]) (t:=25) ?hr ?_;(case hd=>rfl);(case hg=>rfl);(case hr=>first|(go_simp;done)|(go_simp;rfl));intro gb492 hg w28 hbox hb;replace HO_4:=Aside0.mk (Kd.R_below (qR HO_4) hb);have BK492:=Aside0.mk hbox;have GW492:Aside0 (w.heap.size≤gb492):=⟨qI⟩;have GE492:=GW492;replace HB:=Aside0.mk (below_step qC hb);have NB485_492:=Aside0.mk ((by rw [hg];exact Nat.ne_of_lt (blk_lt (g:=gb485) (o := .cells #[.int .i64 0, .string (⟨#[]⟩:ByteArray), .slice none 0 0, .slice none 0 0] 25 (0,0)) (qW BK485)):gb485≠gb492));have NB492_485:=Aside0.mk ((by rw [hg];exact Nat.ne_of_gt (blk_lt (g:=gb485) (o := .cells #[.int .i64 0, .string (⟨#[]⟩:ByteArray), .slice none 0 0, .slice none 0 0] 25 (0,0)) (qW BK485)):gb492≠gb485));replace BK485:=Aside0.mk (blk_below (g:=gb485) (o := .cells #[.int .i64 0, .string (⟨#[]⟩:ByteArray), .slice none 0 0, .slice none 0 0] 25 (0,0)) (qW BK485) hb);clear hb hbox hg;have hnb29:=NB492_485.out;have hnc29:=NB485_492.out;obtain ⟨hcz30_0,hcz30_1,hcz30_2,hcz30_3,hfz30_0,hfz30_1,hfz30_2,hfz30_3⟩:=cf4 BK492.out;have p493:0≤(1:Int):=(by omega);have q493:1<(t486.length:Int):=of_decide_eq_true qA;obtain ⟨ad493,e493,hx493_0⟩:=Kd.at_string (Kd.R_reads' HO_4.out).2.2 1 p493 q493;obtain rfl:ad490=ad493:=(by injection e493);(try simp only [show (1:Int).toNat=1 from rfl,Nat.reduceMul,Nat.reduceEqDiff,Go.Addr.add,↓reduceIte] at hx493_0);have qi493:(1<t486.length)=True:=eq_true (by omega);(try rw [show ((1:Int)).toNat=1 from rfl] at hx493_0);have hn493_0:ad490.block≠gb492:=Kd.own_blk (Kd.R_ne HO_4.out BK492.out (by decide));have hn493_1:ad490.block≠gb492:=Kd.own_blk (Kd.R_ne HO_4.out BK492.out (by decide));have hn493_2:ad490.block≠gb492:=Kd.own_blk (Kd.R_ne HO_4.out BK492.out (by decide));have hn493_3:ad490.block≠gb492:=Kd.own_blk (Kd.R_ne HO_4.out BK492.out (by decide));replace hx493_0:=(cell_far (p:=⟨gb492,0,none⟩) (by first|(rw [add_block];exact hn493_0)|(show (Addr.add _ _).block≠_;rw [add_block];exact hn493_0)|exact hn493_0) (.int .i64 t491)).trans hx493_0;replace hx493_0:=(cell_far (p:=⟨gb492,1,none⟩) (by first|(rw [add_block];exact hn493_1)|(show (Addr.add _ _).block≠_;rw [add_block];exact hn493_1)|exact hn493_1) (.string (⟨#[]⟩:ByteArray))).trans hx493_0;replace hx493_0:=(cell_far (p:=⟨gb492,2,none⟩) (by first|(rw [add_block];exact hn493_2)|(show (Addr.add _ _).block≠_;rw [add_block];exact hn493_2)|exact hn493_2) (.slice none 0 0)).trans hx493_0;replace hx493_0:=(cell_far (p:=⟨gb492,3,none⟩) (by first|(rw [add_block];exact hn493_3)|(show (Addr.add _ _).block≠_;rw [add_block];exact hn493_3)|exact hn493_3) (.slice none 0 0)).trans hx493_0;clear hn493_0;clear hn493_1;clear hn493_2;clear hn493_3;replace p493:=eq_true p493;replace q493:=eq_true q493)|((with_reducible refine gate_callee (f:=70) rfl ?_);refine goesL_ (some 41) rfl rfl Tryz.func70 qK rfl #[.string (rdOf ByteArray.empty t486 1)] rfl qG ?_;(with_reducible refine (ebbtideref04_Cut.calls kj2 (rdOf ByteArray.empty t486 1) t494 t495 t496 _ A24.out).mono ?_);rintro e w' ⟨rfl,⟨nd,rfl⟩⟩;refine ⟨_,rfl,?_⟩))
   (try simp only [Act.put,List.setIfInBounds_toArray,List.set_cons_zero,List.set_cons_succ])
   go_cut [51] (fun v51 wc=>∃ (kq:Nat) (x51_24:Bool),v51 = .bool x51_24∧Aside0 (ebbtideref07_Parse.j1 kq t486 t494 t495 x51_24 t491 (⟨#[]⟩:ByteArray)=some (r1,r2,r3,r4,r5))∧Aside0 (kq≤kj2)∧Aside0 (Kd.R Kd.string 9 wc w.heap.size (fun _=>True) (.slice (some ad490) t486.length co26) t486)∧Aside0 (wc.heap[gb485]?=some (.cells #[.int .i64 0, .string (⟨#[]⟩:ByteArray),(.slice none 0 0),(.slice none 0 0)] 25 (0,0)))∧Aside0 (wc.heap[gb492]?=some (.cells #[.int .i64 t491, .string (⟨#[]⟩:ByteArray),(.slice none 0 0),(.slice none 0 0)] 25 (0,0)))∧Aside0 (Below w.heap.size w wc))
   case first =>
    have H:=HC25.out
    clear HC25
    by_cases c31:t496=true
    rotate_left
    ·replace c31:=Bool.eq_false_iff.mpr c31
     subst c31
     have H1:(ebbtideref07_Parse.j1 kj2 t486 t494 t495 true t491 (⟨#[]⟩:ByteArray))=some (r1,r2,r3,r4,r5):=by rw [if_neg (show ¬ (false=true) by decide)] at H;exact H
     clear H
     have H:=H1
     clear H1
     have H':=Aside0.mk H
     clear H
     go_wp2
     go_meet
     case rel=>exact ⟨_,(true),qS,H',⟨by have:=HJ2.out;first|omega|exact Nat.le_refl _⟩,⟨by (with_reducible repeat (first|apply Kd.R_alloc|apply Kd.R_drewN|apply Kd.R_drew));exact Kd.R_mono (Kd.R_far (p:=⟨gb492,3,none⟩) (Kd.R_far (p:=⟨gb492,2,none⟩) (Kd.R_far (p:=⟨gb492,1,none⟩) (Kd.R_far (p:=⟨gb492,0,none⟩) (Kd.R_types HO_4.out BK492.out (by decide)) (fun _ hk=>hk.2) (.int .i64 t491)) (fun _ hk=>hk.2) (.string (⟨#[]⟩:ByteArray))) (fun _ hk=>hk.2) (.slice none 0 0)) (fun _ hk=>hk.2) (.slice none 0 0)) (fun _ hk=>trivial)⟩,⟨by (with_reducible repeat (first|refine blk_drewN ?_ _|refine blk_drew ?_|refine blk_alloc ?_ _));refine blk_far ?_ NB485_492.out _;(with_reducible repeat (first|refine blk_drewN ?_ _|refine blk_drew ?_|refine blk_alloc ?_ _));refine blk_far ?_ NB485_492.out _;(with_reducible repeat (first|refine blk_drewN ?_ _|refine blk_drew ?_|refine blk_alloc ?_ _));refine blk_far ?_ NB485_492.out _;(with_reducible repeat (first|refine blk_drewN ?_ _|refine blk_drew ?_|refine blk_alloc ?_ _));refine blk_far ?_ NB485_492.out _;(with_reducible repeat (first|refine blk_drewN ?_ _|refine blk_drew ?_|refine blk_alloc ?_ _));exact BK485.out⟩,⟨by (with_reducible repeat (first|refine blk_drewN ?_ _|refine blk_drew ?_|refine blk_alloc ?_ _));refine blk_put (cs:=#[.int .i64 t491, .string (⟨#[]⟩:ByteArray), .slice none 0 0, .slice none 0 0]) ?_ 3 _ rfl;(with_reducible repeat (first|refine blk_drewN ?_ _|refine blk_drew ?_|refine blk_alloc ?_ _));refine blk_put (cs:=#[.int .i64 t491, .string (⟨#[]⟩:ByteArray), .slice none 0 0, .slice none 0 0]) ?_ 2 _ rfl;(with_reducible repeat (first|refine blk_drewN ?_ _|refine blk_drew ?_|refine blk_alloc ?_ _));refine blk_put (cs:=#[.int .i64 t491, .string (⟨#[]⟩:ByteArray), .slice none 0 0, .slice none 0 0]) ?_ 1 _ rfl;(with_reducible repeat (first|refine blk_drewN ?_ _|refine blk_drew ?_|refine blk_alloc ?_ _));refine blk_put (cs:=#[.int .i64 0, .string (⟨#[]⟩:ByteArray), .slice none 0 0, .slice none 0 0]) ?_ 0 _ rfl;(with_reducible repeat (first|refine blk_drewN ?_ _|refine blk_drew ?_|refine blk_alloc ?_ _));exact BK492.out⟩,⟨qC⟩⟩
    subst c31
    have H1:((ebbtideref02_Name.f kj2 t494).bind fun t497=>(ebbtideref07_Parse.j1 kj2 t486 t494 t495 (!t497) t491 (⟨#[]⟩:ByteArray)))=some (r1,r2,r3,r4,r5):=by rw [if_pos rfl] at H;exact H
    clear H
    have H:=H1
    clear H1
    replace H:=Option.bind_eq_some_iff.mp H
    obtain ⟨t497,A320,H⟩:=H
    replace H:(ebbtideref07_Parse.j1 kj2 t486 t494 t495 (!t497) t491 (⟨#[]⟩:ByteArray))=some (r1,r2,r3,r4,r5):=H
    have A32:=Aside0.mk A320
    clear A320
    have H':=Aside0.mk H
    clear H
    go_wp2_with (first|(go_at_call 54;(with_reducible refine (ebbtideref02_Name.calls kj2 t494 t497 _ A32.out).mono ?_);rintro e w' ⟨rfl,⟨nd,rfl⟩⟩))
    go_meet
    case rel=>exact ⟨_,(!t497),qS,H',⟨by have:=HJ2.out;first|omega|exact Nat.le_refl _⟩,⟨by (with_reducible repeat (first|apply Kd.R_alloc|apply Kd.R_drewN|apply Kd.R_drew));exact Kd.R_mono (Kd.R_far (p:=⟨gb492,3,none⟩) (Kd.R_far (p:=⟨gb492,2,none⟩) (Kd.R_far (p:=⟨gb492,1,none⟩) (Kd.R_far (p:=⟨gb492,0,none⟩) (Kd.R_types HO_4.out BK492.out (by decide)) (fun _ hk=>hk.2) (.int .i64 t491)) (fun _ hk=>hk.2) (.string (⟨#[]⟩:ByteArray))) (fun _ hk=>hk.2) (.slice none 0 0)) (fun _ hk=>hk.2) (.slice none 0 0)) (fun _ hk=>trivial)⟩,⟨by (with_reducible repeat (first|refine blk_drewN ?_ _|refine blk_drew ?_|refine blk_alloc ?_ _));refine blk_far ?_ NB485_492.out _;(with_reducible repeat (first|refine blk_drewN ?_ _|refine blk_drew ?_|refine blk_alloc ?_ _));refine blk_far ?_ NB485_492.out _;(with_reducible repeat (first|refine blk_drewN ?_ _|refine blk_drew ?_|refine blk_alloc ?_ _));refine blk_far ?_ NB485_492.out _;(with_reducible repeat (first|refine blk_drewN ?_ _|refine blk_drew ?_|refine blk_alloc ?_ _));refine blk_far ?_ NB485_492.out _;(with_reducible repeat (first|refine blk_drewN ?_ _|refine blk_drew ?_|refine blk_alloc ?_ _));exact BK485.out⟩,⟨by (with_reducible repeat (first|refine blk_drewN ?_ _|refine blk_drew ?_|refine blk_alloc ?_ _));refine blk_put (cs:=#[.int .i64 t491, .string (⟨#[]⟩:ByteArray), .slice none 0 0, .slice none 0 0]) ?_ 3 _ rfl;(with_reducible repeat (first|refine blk_drewN ?_ _|refine blk_drew ?_|refine blk_alloc ?_ _));refine blk_put (cs:=#[.int .i64 t491, .string (⟨#[]⟩:ByteArray), .slice none 0 0, .slice none 0 0]) ?_ 2 _ rfl;(with_reducible repeat (first|refine blk_drewN ?_ _|refine blk_drew ?_|refine blk_alloc ?_ _));refine blk_put (cs:=#[.int .i64 t491, .string (⟨#[]⟩:ByteArray), .slice none 0 0, .slice none 0 0]) ?_ 1 _ rfl;(with_reducible repeat (first|refine blk_drewN ?_ _|refine blk_drew ?_|refine blk_alloc ?_ _));refine blk_put (cs:=#[.int .i64 0, .string (⟨#[]⟩:ByteArray), .slice none 0 0, .slice none 0 0]) ?_ 0 _ rfl;(with_reducible repeat (first|refine blk_drewN ?_ _|refine blk_drew ?_|refine blk_alloc ?_ _));exact BK492.out⟩,⟨qC⟩⟩
   case rest =>
    clear HC25
    try clear c12;try clear c14b0;try clear c14b1;try clear c16;try clear c16b0;try clear c16b1;try clear c23b0;try clear c23b1;try clear hcz30_0;try clear hcz30_1;try clear hcz30_2;try clear hcz30_3;try clear hfz30_0;try clear hfz30_1;try clear hfz30_2;try clear hfz30_3;try clear hx490_0;try clear hx493_0;try clear p490;try clear p493;try clear q490;try clear q493
    obtain ⟨kq,x51_24,rfl,HA,HJ24,HO_4,BK485,BK492,HB⟩:=hcut
    cases kq with
    | zero=>exact absurd HA.out (by simp [ebbtideref07_Parse.j1])
    | succ kj24 =>
     have H:=HA.out
     clear HA
     simp only [ebbtideref07_Parse.j1] at H
     by_cases c33:x51_24=true
     ·subst c33
      have H1:(some (0,(⟨#[]⟩:ByteArray),([]:List (S127)),([]:List ByteArray),2))=some (r1,r2,r3,r4,r5):=by rw [if_pos rfl] at H;exact H
      clear H
      have H:=H1
      clear H1
      simp only [Option.some.injEq,Prod.mk.injEq] at H
      obtain ⟨rfl,rfl,rfl,rfl,rfl⟩:=H
      have hnb34:=NB485_492.out
      have hnc34:=NB492_485.out
      obtain ⟨hcz35_0,hcz35_1,hcz35_2,hcz35_3,hfz35_0,hfz35_1,hfz35_2,hfz35_3⟩:=cf4 BK485.out
      go_wp2
      refine bodyPost_ret (results_ct rfl _ _ gb485 25 #[.int .i64 0, .string (⟨#[]⟩:ByteArray), .slice none 0 0, .slice none 0 0] (0,0) _ rfl (by (with_reducible repeat (first|refine blk_drewN ?_ _|refine blk_drew ?_|refine blk_alloc ?_ _));refine blk_put (cs:=#[.int .i64 0, .string (⟨#[]⟩:ByteArray), .slice none 0 0, .slice none 0 0]) ?_ 3 _ rfl;(with_reducible repeat (first|refine blk_drewN ?_ _|refine blk_drew ?_|refine blk_alloc ?_ _));refine blk_put (cs:=#[.int .i64 0, .string (⟨#[]⟩:ByteArray), .slice none 0 0, .slice none 0 0]) ?_ 2 _ rfl;(with_reducible repeat (first|refine blk_drewN ?_ _|refine blk_drew ?_|refine blk_alloc ?_ _));refine blk_put (cs:=#[.int .i64 0, .string (⟨#[]⟩:ByteArray), .slice none 0 0, .slice none 0 0]) ?_ 1 _ rfl;(with_reducible repeat (first|refine blk_drewN ?_ _|refine blk_drew ?_|refine blk_alloc ?_ _));refine blk_put (cs:=#[.int .i64 0, .string (⟨#[]⟩:ByteArray), .slice none 0 0, .slice none 0 0]) ?_ 0 _ rfl;(with_reducible repeat (first|refine blk_drewN ?_ _|refine blk_drew ?_|refine blk_alloc ?_ _));exact BK485.out) Tryz.underlying25 rfl qK) rfl ?_
      exact ⟨_,_,qE,qN,qN,qC⟩
     replace c33:=Bool.eq_false_iff.mpr c33
     subst c33
     have H1:((ebbtideref05_Parse.f kj24 t495).bind fun bt498=>(if bt498.2=0 then (if (t486.length:Int)=4 then (if 3<(t486.length:Int) then ((ebbtideref02_Split.f kj24 (rdOf ByteArray.empty t486 3) 44).bind fun t503=>((ebbtideref07_names.f kj24 t503).bind fun t506=>(if t506=0 then (some (t491,t494,bt498.1,t503,0)) else (some (0,(⟨#[]⟩:ByteArray),([]:List (S127)),([]:List ByteArray),t506))))) else (none)) else ((ebbtideref07_names.f kj24 ([]:List ByteArray)).bind fun t507=>(if t507=0 then (some (t491,t494,bt498.1,([]:List ByteArray),0)) else (some (0,(⟨#[]⟩:ByteArray),([]:List (S127)),([]:List ByteArray),t507))))) else (some (0,(⟨#[]⟩:ByteArray),([]:List (S127)),([]:List ByteArray),bt498.2))))=some (r1,r2,r3,r4,r5):=by rw [if_neg (show ¬ (false=true) by decide)] at H;exact H
     clear H
     have H:=H1
     clear H1
     replace H:=Option.bind_eq_some_iff.mp H
     obtain ⟨⟨t498,t499⟩,A360,H⟩:=H
     replace H:(if t499=0 then (if (t486.length:Int)=4 then (if 3<(t486.length:Int) then ((ebbtideref02_Split.f kj24 (rdOf ByteArray.empty t486 3) 44).bind fun t503=>((ebbtideref07_names.f kj24 t503).bind fun t506=>(if t506=0 then (some (t491,t494,t498,t503,0)) else (some (0,(⟨#[]⟩:ByteArray),([]:List (S127)),([]:List ByteArray),t506))))) else (none)) else ((ebbtideref07_names.f kj24 ([]:List ByteArray)).bind fun t507=>(if t507=0 then (some (t491,t494,t498,([]:List ByteArray),0)) else (some (0,(⟨#[]⟩:ByteArray),([]:List (S127)),([]:List ByteArray),t507))))) else (some (0,(⟨#[]⟩:ByteArray),([]:List (S127)),([]:List ByteArray),t499)))=some (r1,r2,r3,r4,r5):=H
     have A36:=Aside0.mk A360
     clear A360
     by_cases c37:t499=0
     rotate_left
     ·rw [if_neg c37] at H
      have c37b0:(t499 ==0)=false:=beq_eq_false_iff_ne.mpr c37
      have c37b1:(t499 != 0)=true:=bne_iff_ne.mpr c37
      simp only [Option.some.injEq,Prod.mk.injEq] at H
      obtain ⟨rfl,rfl,rfl,rfl,rfl⟩:=H
      go_wp2_with (first|((with_reducible refine gate_callee (f:=71) rfl ?_);refine goesL_ (some 55) rfl rfl Tryz.func71 qK rfl #[.string t495] rfl qG ?_;(with_reducible refine (ebbtideref05_Parse.calls kj24 t495 t498 t499 _ A36.out).mono ?_);rintro e w71 ⟨v500,rfl,ho0,hb⟩;refine ⟨_,rfl,?_⟩;replace HO_4:=Aside0.mk (Kd.R_below (qR HO_4) hb);have HO501:=Aside0.mk (Kd.R_lower ho0 (below_size qC));replace BK485:=Aside0.mk (blk_below (g:=gb485) (o := .cells #[.int .i64 0, .string (⟨#[]⟩:ByteArray), .slice none 0 0, .slice none 0 0] 25 (0,0)) (qW BK485) hb);replace BK492:=Aside0.mk (blk_below (g:=gb492) (o := .cells #[.int .i64 t491, .string (⟨#[]⟩:ByteArray), .slice none 0 0, .slice none 0 0] 25 (0,0)) (qW BK492) hb);replace HB:=Aside0.mk (below_step qC hb);clear hb ho0;have hnb72:=NB485_492.out;have hnc72:=NB492_485.out;obtain ⟨hcz73_0,hcz73_1,hcz73_2,hcz73_3,hfz73_0,hfz73_1,hfz73_2,hfz73_3⟩:=cf4 BK485.out))
      refine bodyPost_ret (results_ct rfl _ _ gb485 25 #[.int .i64 0, .string (⟨#[]⟩:ByteArray), .slice none 0 0, .slice none 0 0] (0,0) _ rfl (by (with_reducible repeat (first|refine blk_drewN ?_ _|refine blk_drew ?_|refine blk_alloc ?_ _));refine blk_put (cs:=#[.int .i64 0, .string (⟨#[]⟩:ByteArray), .slice none 0 0, .slice none 0 0]) ?_ 3 _ rfl;(with_reducible repeat (first|refine blk_drewN ?_ _|refine blk_drew ?_|refine blk_alloc ?_ _));refine blk_put (cs:=#[.int .i64 0, .string (⟨#[]⟩:ByteArray), .slice none 0 0, .slice none 0 0]) ?_ 2 _ rfl;(with_reducible repeat (first|refine blk_drewN ?_ _|refine blk_drew ?_|refine blk_alloc ?_ _));refine blk_put (cs:=#[.int .i64 0, .string (⟨#[]⟩:ByteArray), .slice none 0 0, .slice none 0 0]) ?_ 1 _ rfl;(with_reducible repeat (first|refine blk_drewN ?_ _|refine blk_drew ?_|refine blk_alloc ?_ _));refine blk_put (cs:=#[.int .i64 0, .string (⟨#[]⟩:ByteArray), .slice none 0 0, .slice none 0 0]) ?_ 0 _ rfl;(with_reducible repeat (first|refine blk_drewN ?_ _|refine blk_drew ?_|refine blk_alloc ?_ _));exact BK485.out) Tryz.underlying25 rfl qK) rfl ?_
      exact ⟨_,_,qE,qN,qN,qC⟩
     rw [if_pos c37] at H
     have c37b0:(t499 ==0)=true:=beq_iff_eq.mpr c37
     have c37b1:(t499 != 0)=false:=bne_eq_false_iff_eq.mpr c37
     clear c37
     by_cases c38:(t486.length:Int)=4
     rotate_left
     ·rw [if_neg c38] at H
      have c38b0:((t486.length:Int) ==4)=false:=beq_eq_false_iff_ne.mpr c38
      have c38b1:((t486.length:Int) != 4)=true:=bne_iff_ne.mpr c38
      replace H:=Option.bind_eq_some_iff.mp H
      obtain ⟨t507,A590,H⟩:=H
      replace H:(if t507=0 then (some (t491,t494,t498,([]:List ByteArray),0)) else (some (0,(⟨#[]⟩:ByteArray),([]:List (S127)),([]:List ByteArray),t507)))=some (r1,r2,r3,r4,r5):=H
      have A59:=Aside0.mk A590
      clear A590
      by_cases c60:t507=0
      rotate_left
      ·rw [if_neg c60] at H
       have c60b0:(t507 ==0)=false:=beq_eq_false_iff_ne.mpr c60
       have c60b1:(t507 != 0)=true:=bne_iff_ne.mpr c60
       simp only [Option.some.injEq,Prod.mk.injEq] at H
       obtain ⟨rfl,rfl,rfl,rfl,rfl⟩:=H
       go_wp2_with (first|((with_reducible refine gate_callee (f:=71) rfl ?_);refine goesL_ (some 55) rfl rfl Tryz.func71 qK rfl #[.string t495] rfl qG ?_;(with_reducible refine (ebbtideref05_Parse.calls kj24 t495 t498 t499 _ A36.out).mono ?_);rintro e w66 ⟨v500,rfl,ho0,hb⟩;refine ⟨_,rfl,?_⟩;replace HO_4:=Aside0.mk (Kd.R_below (qR HO_4) hb);have HO501:=Aside0.mk (Kd.R_lower ho0 (below_size qC));replace BK485:=Aside0.mk (blk_below (g:=gb485) (o := .cells #[.int .i64 0, .string (⟨#[]⟩:ByteArray), .slice none 0 0, .slice none 0 0] 25 (0,0)) (qW BK485) hb);replace BK492:=Aside0.mk (blk_below (g:=gb492) (o := .cells #[.int .i64 t491, .string (⟨#[]⟩:ByteArray), .slice none 0 0, .slice none 0 0] 25 (0,0)) (qW BK492) hb);replace HB:=Aside0.mk (below_step qC hb);clear hb ho0;have hnb67:=NB492_485.out;have hnc67:=NB485_492.out;obtain ⟨hcz68_0,hcz68_1,hcz68_2,hcz68_3,hfz68_0,hfz68_1,hfz68_2,hfz68_3⟩:=cf4 BK492.out;obtain ⟨Ao69,co69,eo69⟩:=Kd.R_slice HO501.out;subst eo69)|((with_reducible refine gate_callee (f:=56) rfl ?_);refine goesL_ (some 76) rfl rfl Tryz.func56 qK rfl #[.slice none 0 0] rfl qG ?_;(refine (ebbtideref07_names.calls kj24 _ _ ([]:List ByteArray) t507 _ ?side1 ?side2 A59.out).mono ?_);(case side1=>exact Kd.C_nil _ _);(case side2=>exact Nat.le_refl _);rintro e w' ⟨rfl,⟨nd,rfl⟩⟩;refine ⟨_,rfl,?_⟩;obtain ⟨hcz70_0,hcz70_1,hcz70_2,hcz70_3,hfz70_0,hfz70_1,hfz70_2,hfz70_3⟩:=cf4 BK485.out))
       refine bodyPost_ret (results_ct rfl _ _ gb485 25 #[.int .i64 0, .string (⟨#[]⟩:ByteArray), .slice none 0 0, .slice none 0 0] (0,0) _ rfl (by (with_reducible repeat (first|refine blk_drewN ?_ _|refine blk_drew ?_|refine blk_alloc ?_ _));refine blk_put (cs:=#[.int .i64 0, .string (⟨#[]⟩:ByteArray), .slice none 0 0, .slice none 0 0]) ?_ 3 _ rfl;(with_reducible repeat (first|refine blk_drewN ?_ _|refine blk_drew ?_|refine blk_alloc ?_ _));refine blk_put (cs:=#[.int .i64 0, .string (⟨#[]⟩:ByteArray), .slice none 0 0, .slice none 0 0]) ?_ 2 _ rfl;(with_reducible repeat (first|refine blk_drewN ?_ _|refine blk_drew ?_|refine blk_alloc ?_ _));refine blk_put (cs:=#[.int .i64 0, .string (⟨#[]⟩:ByteArray), .slice none 0 0, .slice none 0 0]) ?_ 1 _ rfl;(with_reducible repeat (first|refine blk_drewN ?_ _|refine blk_drew ?_|refine blk_alloc ?_ _));refine blk_put (cs:=#[.int .i64 0, .string (⟨#[]⟩:ByteArray), .slice none 0 0, .slice none 0 0]) ?_ 0 _ rfl;(with_reducible repeat (first|refine blk_drewN ?_ _|refine blk_drew ?_|refine blk_alloc ?_ _));refine blk_far ?_ NB485_492.out _;(with_reducible repeat (first|refine blk_drewN ?_ _|refine blk_drew ?_|refine blk_alloc ?_ _));refine blk_far ?_ NB485_492.out _;(with_reducible repeat (first|refine blk_drewN ?_ _|refine blk_drew ?_|refine blk_alloc ?_ _));exact BK485.out) Tryz.underlying25 rfl qK) rfl ?_
       exact ⟨_,_,qE,qN,qN,qC⟩
      rw [if_pos c60] at H
      have c60b0:(t507 ==0)=true:=beq_iff_eq.mpr c60
      have c60b1:(t507 != 0)=false:=bne_eq_false_iff_eq.mpr c60
      clear c60
      simp only [Option.some.injEq,Prod.mk.injEq] at H
      obtain ⟨rfl,rfl,rfl,rfl,rfl⟩:=H
      go_wp2_with (first|((with_reducible refine gate_callee (f:=71) rfl ?_);refine goesL_ (some 55) rfl rfl Tryz.func71 qK rfl #[.string t495] rfl qG ?_;(with_reducible refine (ebbtideref05_Parse.calls kj24 t495 t498 t499 _ A36.out).mono ?_);rintro e w61 ⟨v500,rfl,ho0,hb⟩;refine ⟨_,rfl,?_⟩;replace HO_4:=Aside0.mk (Kd.R_below (qR HO_4) hb);have HO501:=Aside0.mk (Kd.R_lower ho0 (below_size qC));replace BK485:=Aside0.mk (blk_below (g:=gb485) (o := .cells #[.int .i64 0, .string (⟨#[]⟩:ByteArray), .slice none 0 0, .slice none 0 0] 25 (0,0)) (qW BK485) hb);replace BK492:=Aside0.mk (blk_below (g:=gb492) (o := .cells #[.int .i64 t491, .string (⟨#[]⟩:ByteArray), .slice none 0 0, .slice none 0 0] 25 (0,0)) (qW BK492) hb);replace HB:=Aside0.mk (below_step qC hb);clear hb ho0;have hnb62:=NB492_485.out;have hnc62:=NB485_492.out;obtain ⟨hcz63_0,hcz63_1,hcz63_2,hcz63_3,hfz63_0,hfz63_1,hfz63_2,hfz63_3⟩:=cf4 BK492.out;obtain ⟨Ao64,co64,eo64⟩:=Kd.R_slice HO501.out;subst eo64)|((with_reducible refine gate_callee (f:=56) rfl ?_);refine goesL_ (some 76) rfl rfl Tryz.func56 qK rfl #[.slice none 0 0] rfl qG ?_;(refine (ebbtideref07_names.calls kj24 _ _ ([]:List ByteArray) t507 _ ?side1 ?side2 A59.out).mono ?_);(case side1=>exact Kd.C_nil _ _);(case side2=>exact Nat.le_refl _);rintro e w' ⟨rfl,⟨nd,rfl⟩⟩;refine ⟨_,rfl,?_⟩;obtain ⟨hcz65_0,hcz65_1,hcz65_2,hcz65_3,hfz65_0,hfz65_1,hfz65_2,hfz65_3⟩:=cf4 BK485.out))
      refine bodyPost_ret (results_ct rfl _ _ gb485 25 #[.int .i64 t491, .string t494, .slice Ao64 t498.length co64, .slice none 0 0] (0,0) _ rfl (by (with_reducible repeat (first|refine blk_drewN ?_ _|refine blk_drew ?_|refine blk_alloc ?_ _));refine blk_put (cs:=#[.int .i64 t491, .string t494, .slice Ao64 t498.length co64, .slice none 0 0]) ?_ 3 _ rfl;(with_reducible repeat (first|refine blk_drewN ?_ _|refine blk_drew ?_|refine blk_alloc ?_ _));refine blk_put (cs:=#[.int .i64 t491, .string t494, .slice none 0 0, .slice none 0 0]) ?_ 2 _ rfl;(with_reducible repeat (first|refine blk_drewN ?_ _|refine blk_drew ?_|refine blk_alloc ?_ _));refine blk_put (cs:=#[.int .i64 t491, .string (⟨#[]⟩:ByteArray), .slice none 0 0, .slice none 0 0]) ?_ 1 _ rfl;(with_reducible repeat (first|refine blk_drewN ?_ _|refine blk_drew ?_|refine blk_alloc ?_ _));refine blk_put (cs:=#[.int .i64 0, .string (⟨#[]⟩:ByteArray), .slice none 0 0, .slice none 0 0]) ?_ 0 _ rfl;(with_reducible repeat (first|refine blk_drewN ?_ _|refine blk_drew ?_|refine blk_alloc ?_ _));refine blk_far ?_ NB485_492.out _;(with_reducible repeat (first|refine blk_drewN ?_ _|refine blk_drew ?_|refine blk_alloc ?_ _));refine blk_far ?_ NB485_492.out _;(with_reducible repeat (first|refine blk_drewN ?_ _|refine blk_drew ?_|refine blk_alloc ?_ _));exact BK485.out) Tryz.underlying25 rfl qK) rfl ?_
      exact ⟨_,_,qE,by (with_reducible repeat (first|apply Kd.R_alloc|apply Kd.R_drewN|apply Kd.R_drew));exact Kd.R_mono (Kd.R_far (p:=⟨gb485,3,none⟩) (Kd.R_far (p:=⟨gb485,2,none⟩) (Kd.R_far (p:=⟨gb485,1,none⟩) (Kd.R_far (p:=⟨gb485,0,none⟩) (Kd.R_far (p:=⟨gb492,2,none⟩) (Kd.R_far (p:=⟨gb492,1,none⟩) (Kd.R_types (Kd.R_types HO501.out BK492.out (by decide)) BK485.out (by decide)) (fun _ hk=>hk.1.2) (.string t494)) (fun _ hk=>hk.1.2) (.slice Ao64 t498.length co64)) (fun _ hk=>hk.2) (.int .i64 t491)) (fun _ hk=>hk.2) (.string t494)) (fun _ hk=>hk.2) (.slice Ao64 t498.length co64)) (fun _ hk=>hk.2) (.slice none 0 0)) (fun _ hk=>trivial),qN,qC⟩
     rw [if_pos c38] at H
     have c38b0:((t486.length:Int) ==4)=true:=beq_iff_eq.mpr c38
     have c38b1:((t486.length:Int) != 4)=false:=bne_eq_false_iff_eq.mpr c38
     clear c38
     by_cases c39:3<(t486.length:Int)
     rotate_left
     ·rw [if_neg c39] at H
      exact absurd H (by simp)
     rw [if_pos c39] at H
     have c39b0:decide (3<(t486.length:Int))=true:=decide_eq_true c39
     have c39b1:decide (3<t486.length)=true:=decide_eq_true (by omega)
     clear c39
     replace H:=Option.bind_eq_some_iff.mp H
     obtain ⟨t503,A400,H⟩:=H
     replace H:((ebbtideref07_names.f kj24 t503).bind fun t506=>(if t506=0 then (some (t491,t494,t498,t503,0)) else (some (0,(⟨#[]⟩:ByteArray),([]:List (S127)),([]:List ByteArray),t506))))=some (r1,r2,r3,r4,r5):=H
     have A40:=Aside0.mk A400
     clear A400
     replace H:=Option.bind_eq_some_iff.mp H
     obtain ⟨t506,A410,H⟩:=H
     replace H:(if t506=0 then (some (t491,t494,t498,t503,0)) else (some (0,(⟨#[]⟩:ByteArray),([]:List (S127)),([]:List ByteArray),t506)))=some (r1,r2,r3,r4,r5):=H
     have A41:=Aside0.mk A410
     clear A410
     by_cases c42:t506=0
     rotate_left
     ·rw [if_neg c42] at H
      have c42b0:(t506 ==0)=false:=beq_eq_false_iff_ne.mpr c42
      have c42b1:(t506 != 0)=true:=bne_iff_ne.mpr c42
      simp only [Option.some.injEq,Prod.mk.injEq] at H
      obtain ⟨rfl,rfl,rfl,rfl,rfl⟩:=H
      go_wp2_with (first|((with_reducible refine gate_callee (f:=71) rfl ?_);refine goesL_ (some 55) rfl rfl Tryz.func71 qK rfl #[.string t495] rfl qG ?_;(with_reducible refine (ebbtideref05_Parse.calls kj24 t495 t498 t499 _ A36.out).mono ?_);rintro e w51 ⟨v500,rfl,ho0,hb⟩;refine ⟨_,rfl,?_⟩;replace HO_4:=Aside0.mk (Kd.R_below (qR HO_4) hb);have HO501:=Aside0.mk (Kd.R_lower ho0 (below_size qC));replace BK485:=Aside0.mk (blk_below (g:=gb485) (o := .cells #[.int .i64 0, .string (⟨#[]⟩:ByteArray), .slice none 0 0, .slice none 0 0] 25 (0,0)) (qW BK485) hb);replace BK492:=Aside0.mk (blk_below (g:=gb492) (o := .cells #[.int .i64 t491, .string (⟨#[]⟩:ByteArray), .slice none 0 0, .slice none 0 0] 25 (0,0)) (qW BK492) hb);replace HB:=Aside0.mk (below_step qC hb);clear hb ho0;have hnb52:=NB492_485.out;have hnc52:=NB485_492.out;obtain ⟨hcz53_0,hcz53_1,hcz53_2,hcz53_3,hfz53_0,hfz53_1,hfz53_2,hfz53_3⟩:=cf4 BK492.out;obtain ⟨Ao54,co54,eo54⟩:=Kd.R_slice HO501.out;subst eo54;have p502:0≤(3:Int):=(by omega);have q502:3<(t486.length:Int):=of_decide_eq_true qA;obtain ⟨ad502,e502,hx502_0⟩:=Kd.at_string (Kd.R_reads' HO_4.out).2.2 3 p502 q502;obtain rfl:ad490=ad502:=(by injection e502);(try simp only [show (3:Int).toNat=3 from rfl,Nat.reduceMul,Nat.reduceEqDiff,Go.Addr.add,↓reduceIte] at hx502_0);have qi502:(3<t486.length)=True:=eq_true (by omega);(try rw [show ((3:Int)).toNat=3 from rfl] at hx502_0);have hn502_0:ad490.block≠gb492:=Kd.own_blk (Kd.R_ne HO_4.out BK492.out (by decide));have hn502_1:ad490.block≠gb492:=Kd.own_blk (Kd.R_ne HO_4.out BK492.out (by decide));replace hx502_0:=(cell_far (p:=⟨gb492,1,none⟩) (by first|(rw [add_block];exact hn502_0)|(show (Addr.add _ _).block≠_;rw [add_block];exact hn502_0)|exact hn502_0) (.string t494)).trans hx502_0;replace hx502_0:=(cell_far (p:=⟨gb492,2,none⟩) (by first|(rw [add_block];exact hn502_1)|(show (Addr.add _ _).block≠_;rw [add_block];exact hn502_1)|exact hn502_1) (.slice Ao54 t498.length co54)).trans hx502_0;clear hn502_0;clear hn502_1;replace p502:=eq_true p502;replace q502:=eq_true q502)|((with_reducible refine gate_callee (f:=72) rfl ?_);refine goesL_ (some 72) rfl rfl Tryz.func72 qK rfl #[.string (rdOf ByteArray.empty t486 3), .int .u8 44] rfl qG ?_;(with_reducible refine (ebbtideref02_Split.calls kj24 (rdOf ByteArray.empty t486 3) 44 t503 _ A40.out).mono ?_);rintro e w55 ⟨v504,rfl,ho0,hb⟩;refine ⟨_,rfl,?_⟩;replace HO501:=Aside0.mk (Kd.R_below (by (with_reducible repeat (first|apply Kd.R_alloc|apply Kd.R_drewN|apply Kd.R_drew));exact (Kd.R_mono (Kd.R_far (p:=⟨gb492,2,none⟩) (Kd.R_far (p:=⟨gb492,1,none⟩) (Kd.R_types HO501.out BK492.out (by decide)) (fun _ hk=>hk.2) (.string t494)) (fun _ hk=>hk.2) (.slice Ao54 t498.length co54)) (fun _ h_=>h_.1))) hb);have HO505:=Aside0.mk (Kd.R_lower (Kd.R_new' ho0 (Kd.R_lt (by (with_reducible repeat (first|apply Kd.R_alloc|apply Kd.R_drewN|apply Kd.R_drew));exact (Kd.R_mono (Kd.R_far (p:=⟨gb492,2,none⟩) (Kd.R_far (p:=⟨gb492,1,none⟩) (Kd.R_types HO_4.out BK492.out (by decide)) (fun _ hk=>hk.2) (.string t494)) (fun _ hk=>hk.2) (.slice Ao54 t498.length co54)) (fun _ h_=>h_.1))))) (below_size qC));replace HO_4:=Aside0.mk (Kd.R_elder' (by (with_reducible repeat (first|apply Kd.R_alloc|apply Kd.R_drewN|apply Kd.R_drew));exact (Kd.R_mono (Kd.R_far (p:=⟨gb492,2,none⟩) (Kd.R_far (p:=⟨gb492,1,none⟩) (Kd.R_types HO_4.out BK492.out (by decide)) (fun _ hk=>hk.2) (.string t494)) (fun _ hk=>hk.2) (.slice Ao54 t498.length co54)) (fun _ h_=>h_.1))) (Kd.R_base ho0) hb);replace BK485:=Aside0.mk (blk_below (g:=gb485) (o := .cells #[.int .i64 0, .string (⟨#[]⟩:ByteArray), .slice none 0 0, .slice none 0 0] 25 (0,0)) (by (with_reducible repeat (first|refine blk_drewN ?_ _|refine blk_drew ?_|refine blk_alloc ?_ _));refine blk_far ?_ NB485_492.out _;(with_reducible repeat (first|refine blk_drewN ?_ _|refine blk_drew ?_|refine blk_alloc ?_ _));refine blk_far ?_ NB485_492.out _;(with_reducible repeat (first|refine blk_drewN ?_ _|refine blk_drew ?_|refine blk_alloc ?_ _));exact BK485.out) hb);replace BK492:=Aside0.mk (blk_below (g:=gb492) (o := .cells #[.int .i64 t491, .string t494, .slice Ao54 t498.length co54, .slice none 0 0] 25 (0,0)) (by (with_reducible repeat (first|refine blk_drewN ?_ _|refine blk_drew ?_|refine blk_alloc ?_ _));refine blk_put (cs:=#[.int .i64 t491, .string t494, .slice none 0 0, .slice none 0 0]) ?_ 2 _ rfl;(with_reducible repeat (first|refine blk_drewN ?_ _|refine blk_drew ?_|refine blk_alloc ?_ _));refine blk_put (cs:=#[.int .i64 t491, .string (⟨#[]⟩:ByteArray), .slice none 0 0, .slice none 0 0]) ?_ 1 _ rfl;(with_reducible repeat (first|refine blk_drewN ?_ _|refine blk_drew ?_|refine blk_alloc ?_ _));exact BK492.out) hb);replace HB:=Aside0.mk (below_step qC hb);clear hb ho0;obtain ⟨Ao56,co56,eo56⟩:=Kd.R_slice HO505.out;subst eo56;obtain ⟨hcz57_0,hcz57_1,hcz57_2,hcz57_3,hfz57_0,hfz57_1,hfz57_2,hfz57_3⟩:=cf4 BK492.out)|((with_reducible refine gate_callee (f:=56) rfl ?_);refine goesL_ (some 76) rfl rfl Tryz.func56 qK rfl #[.slice Ao56 t503.length co56] rfl qG ?_;(with_reducible refine (ebbtideref07_names.calls kj24 _ _ t503 t506 _ ?side1 ?side2 A41.out).mono ?_);(case side1=>refine (Kd.R_reads' (e:=9) (base:=w.heap.size) (ok:=fun k_=>(True∧some k_≠(.slice (some ad490) t486.length co26:Value).ownBlock)) (n:=t503.length) (c:=co56) ?_).2.2;exact (by (with_reducible repeat (first|apply Kd.R_alloc|apply Kd.R_drewN|apply Kd.R_drew));exact (Kd.R_mono (Kd.R_far (p:=⟨gb492,3,none⟩) (Kd.R_types HO505.out BK492.out (by decide)) (fun _ hk=>hk.2) (.slice Ao56 t503.length co56)) (fun _ h_=>h_.1))));(case side2=>exact (Kd.R_reads' HO505.out).2.1);rintro e w' ⟨rfl,⟨nd,rfl⟩⟩;refine ⟨_,rfl,?_⟩;obtain ⟨hcz58_0,hcz58_1,hcz58_2,hcz58_3,hfz58_0,hfz58_1,hfz58_2,hfz58_3⟩:=cf4 BK485.out))
      refine bodyPost_ret (results_ct rfl _ _ gb485 25 #[.int .i64 0, .string (⟨#[]⟩:ByteArray), .slice none 0 0, .slice none 0 0] (0,0) _ rfl (by (with_reducible repeat (first|refine blk_drewN ?_ _|refine blk_drew ?_|refine blk_alloc ?_ _));refine blk_put (cs:=#[.int .i64 0, .string (⟨#[]⟩:ByteArray), .slice none 0 0, .slice none 0 0]) ?_ 3 _ rfl;(with_reducible repeat (first|refine blk_drewN ?_ _|refine blk_drew ?_|refine blk_alloc ?_ _));refine blk_put (cs:=#[.int .i64 0, .string (⟨#[]⟩:ByteArray), .slice none 0 0, .slice none 0 0]) ?_ 2 _ rfl;(with_reducible repeat (first|refine blk_drewN ?_ _|refine blk_drew ?_|refine blk_alloc ?_ _));refine blk_put (cs:=#[.int .i64 0, .string (⟨#[]⟩:ByteArray), .slice none 0 0, .slice none 0 0]) ?_ 1 _ rfl;(with_reducible repeat (first|refine blk_drewN ?_ _|refine blk_drew ?_|refine blk_alloc ?_ _));refine blk_put (cs:=#[.int .i64 0, .string (⟨#[]⟩:ByteArray), .slice none 0 0, .slice none 0 0]) ?_ 0 _ rfl;(with_reducible repeat (first|refine blk_drewN ?_ _|refine blk_drew ?_|refine blk_alloc ?_ _));refine blk_far ?_ NB485_492.out _;(with_reducible repeat (first|refine blk_drewN ?_ _|refine blk_drew ?_|refine blk_alloc ?_ _));exact BK485.out) Tryz.underlying25 rfl qK) rfl ?_
      exact ⟨_,_,qE,qN,qN,qC⟩
     rw [if_pos c42] at H
     have c42b0:(t506 ==0)=true:=beq_iff_eq.mpr c42
     have c42b1:(t506 != 0)=false:=bne_eq_false_iff_eq.mpr c42
     clear c42
     simp only [Option.some.injEq,Prod.mk.injEq] at H
     obtain ⟨rfl,rfl,rfl,rfl,rfl⟩:=H
     go_wp2_with (first|((with_reducible refine gate_callee (f:=71) rfl ?_);refine goesL_ (some 55) rfl rfl Tryz.func71 qK rfl #[.string t495] rfl qG ?_;(with_reducible refine (ebbtideref05_Parse.calls kj24 t495 t498 t499 _ A36.out).mono ?_);rintro e w43 ⟨v500,rfl,ho0,hb⟩;refine ⟨_,rfl,?_⟩;replace HO_4:=Aside0.mk (Kd.R_below (qR HO_4) hb);have HO501:=Aside0.mk (Kd.R_lower ho0 (below_size qC));replace BK485:=Aside0.mk (blk_below (g:=gb485) (o := .cells #[.int .i64 0, .string (⟨#[]⟩:ByteArray), .slice none 0 0, .slice none 0 0] 25 (0,0)) (qW BK485) hb);replace BK492:=Aside0.mk (blk_below (g:=gb492) (o := .cells #[.int .i64 t491, .string (⟨#[]⟩:ByteArray), .slice none 0 0, .slice none 0 0] 25 (0,0)) (qW BK492) hb);replace HB:=Aside0.mk (below_step qC hb);clear hb ho0;have hnb44:=NB492_485.out;have hnc44:=NB485_492.out;obtain ⟨hcz45_0,hcz45_1,hcz45_2,hcz45_3,hfz45_0,hfz45_1,hfz45_2,hfz45_3⟩:=cf4 BK492.out;obtain ⟨Ao46,co46,eo46⟩:=Kd.R_slice HO501.out;subst eo46;have p502:0≤(3:Int):=(by omega);have q502:3<(t486.length:Int):=of_decide_eq_true qA;obtain ⟨ad502,e502,hx502_0⟩:=Kd.at_string (Kd.R_reads' HO_4.out).2.2 3 p502 q502;obtain rfl:ad490=ad502:=(by injection e502);(try simp only [show (3:Int).toNat=3 from rfl,Nat.reduceMul,Nat.reduceEqDiff,Go.Addr.add,↓reduceIte] at hx502_0);have qi502:(3<t486.length)=True:=eq_true (by omega);(try rw [show ((3:Int)).toNat=3 from rfl] at hx502_0);have hn502_0:ad490.block≠gb492:=Kd.own_blk (Kd.R_ne HO_4.out BK492.out (by decide));have hn502_1:ad490.block≠gb492:=Kd.own_blk (Kd.R_ne HO_4.out BK492.out (by decide));replace hx502_0:=(cell_far (p:=⟨gb492,1,none⟩) (by first|(rw [add_block];exact hn502_0)|(show (Addr.add _ _).block≠_;rw [add_block];exact hn502_0)|exact hn502_0) (.string t494)).trans hx502_0;replace hx502_0:=(cell_far (p:=⟨gb492,2,none⟩) (by first|(rw [add_block];exact hn502_1)|(show (Addr.add _ _).block≠_;rw [add_block];exact hn502_1)|exact hn502_1) (.slice Ao46 t498.length co46)).trans hx502_0;clear hn502_0;clear hn502_1;replace p502:=eq_true p502;replace q502:=eq_true q502)|((with_reducible refine gate_callee (f:=72) rfl ?_);refine goesL_ (some 72) rfl rfl Tryz.func72 qK rfl #[.string (rdOf ByteArray.empty t486 3), .int .u8 44] rfl qG ?_;(with_reducible refine (ebbtideref02_Split.calls kj24 (rdOf ByteArray.empty t486 3) 44 t503 _ A40.out).mono ?_);rintro e w47 ⟨v504,rfl,ho0,hb⟩;refine ⟨_,rfl,?_⟩;replace HO501:=Aside0.mk (Kd.R_below (by (with_reducible repeat (first|apply Kd.R_alloc|apply Kd.R_drewN|apply Kd.R_drew));exact (Kd.R_mono (Kd.R_far (p:=⟨gb492,2,none⟩) (Kd.R_far (p:=⟨gb492,1,none⟩) (Kd.R_types HO501.out BK492.out (by decide)) (fun _ hk=>hk.2) (.string t494)) (fun _ hk=>hk.2) (.slice Ao46 t498.length co46)) (fun _ h_=>h_.1))) hb);have HO505:=Aside0.mk (Kd.R_lower (Kd.R_new' ho0 (Kd.R_lt (by (with_reducible repeat (first|apply Kd.R_alloc|apply Kd.R_drewN|apply Kd.R_drew));exact (Kd.R_mono (Kd.R_far (p:=⟨gb492,2,none⟩) (Kd.R_far (p:=⟨gb492,1,none⟩) (Kd.R_types HO_4.out BK492.out (by decide)) (fun _ hk=>hk.2) (.string t494)) (fun _ hk=>hk.2) (.slice Ao46 t498.length co46)) (fun _ h_=>h_.1))))) (below_size qC));replace HO_4:=Aside0.mk (Kd.R_elder' (by (with_reducible repeat (first|apply Kd.R_alloc|apply Kd.R_drewN|apply Kd.R_drew));exact (Kd.R_mono (Kd.R_far (p:=⟨gb492,2,none⟩) (Kd.R_far (p:=⟨gb492,1,none⟩) (Kd.R_types HO_4.out BK492.out (by decide)) (fun _ hk=>hk.2) (.string t494)) (fun _ hk=>hk.2) (.slice Ao46 t498.length co46)) (fun _ h_=>h_.1))) (Kd.R_base ho0) hb);replace BK485:=Aside0.mk (blk_below (g:=gb485) (o := .cells #[.int .i64 0, .string (⟨#[]⟩:ByteArray), .slice none 0 0, .slice none 0 0] 25 (0,0)) (by (with_reducible repeat (first|refine blk_drewN ?_ _|refine blk_drew ?_|refine blk_alloc ?_ _));refine blk_far ?_ NB485_492.out _;(with_reducible repeat (first|refine blk_drewN ?_ _|refine blk_drew ?_|refine blk_alloc ?_ _));refine blk_far ?_ NB485_492.out _;(with_reducible repeat (first|refine blk_drewN ?_ _|refine blk_drew ?_|refine blk_alloc ?_ _));exact BK485.out) hb);replace BK492:=Aside0.mk (blk_below (g:=gb492) (o := .cells #[.int .i64 t491, .string t494, .slice Ao46 t498.length co46, .slice none 0 0] 25 (0,0)) (by (with_reducible repeat (first|refine blk_drewN ?_ _|refine blk_drew ?_|refine blk_alloc ?_ _));refine blk_put (cs:=#[.int .i64 t491, .string t494, .slice none 0 0, .slice none 0 0]) ?_ 2 _ rfl;(with_reducible repeat (first|refine blk_drewN ?_ _|refine blk_drew ?_|refine blk_alloc ?_ _));refine blk_put (cs:=#[.int .i64 t491, .string (⟨#[]⟩:ByteArray), .slice none 0 0, .slice none 0 0]) ?_ 1 _ rfl;(with_reducible repeat (first|refine blk_drewN ?_ _|refine blk_drew ?_|refine blk_alloc ?_ _));exact BK492.out) hb);replace HB:=Aside0.mk (below_step qC hb);clear hb ho0;obtain ⟨Ao48,co48,eo48⟩:=Kd.R_slice HO505.out;subst eo48;obtain ⟨hcz49_0,hcz49_1,hcz49_2,hcz49_3,hfz49_0,hfz49_1,hfz49_2,hfz49_3⟩:=cf4 BK492.out)|((with_reducible refine gate_callee (f:=56) rfl ?_);refine goesL_ (some 76) rfl rfl Tryz.func56 qK rfl #[.slice Ao48 t503.length co48] rfl qG ?_;(with_reducible refine (ebbtideref07_names.calls kj24 _ _ t503 t506 _ ?side1 ?side2 A41.out).mono ?_);(case side1=>refine (Kd.R_reads' (e:=9) (base:=w.heap.size) (ok:=fun k_=>(True∧some k_≠(.slice (some ad490) t486.length co26:Value).ownBlock)) (n:=t503.length) (c:=co48) ?_).2.2;exact (by (with_reducible repeat (first|apply Kd.R_alloc|apply Kd.R_drewN|apply Kd.R_drew));exact (Kd.R_mono (Kd.R_far (p:=⟨gb492,3,none⟩) (Kd.R_types HO505.out BK492.out (by decide)) (fun _ hk=>hk.2) (.slice Ao48 t503.length co48)) (fun _ h_=>h_.1))));(case side2=>exact (Kd.R_reads' HO505.out).2.1);rintro e w' ⟨rfl,⟨nd,rfl⟩⟩;refine ⟨_,rfl,?_⟩;obtain ⟨hcz50_0,hcz50_1,hcz50_2,hcz50_3,hfz50_0,hfz50_1,hfz50_2,hfz50_3⟩:=cf4 BK485.out))
     refine bodyPost_ret (results_ct rfl _ _ gb485 25 #[.int .i64 t491, .string t494, .slice Ao46 t498.length co46, .slice Ao48 t503.length co48] (0,0) _ rfl (by (with_reducible repeat (first|refine blk_drewN ?_ _|refine blk_drew ?_|refine blk_alloc ?_ _));refine blk_put (cs:=#[.int .i64 t491, .string t494, .slice Ao46 t498.length co46, .slice none 0 0]) ?_ 3 _ rfl;(with_reducible repeat (first|refine blk_drewN ?_ _|refine blk_drew ?_|refine blk_alloc ?_ _));refine blk_put (cs:=#[.int .i64 t491, .string t494, .slice none 0 0, .slice none 0 0]) ?_ 2 _ rfl;(with_reducible repeat (first|refine blk_drewN ?_ _|refine blk_drew ?_|refine blk_alloc ?_ _));refine blk_put (cs:=#[.int .i64 t491, .string (⟨#[]⟩:ByteArray), .slice none 0 0, .slice none 0 0]) ?_ 1 _ rfl;(with_reducible repeat (first|refine blk_drewN ?_ _|refine blk_drew ?_|refine blk_alloc ?_ _));refine blk_put (cs:=#[.int .i64 0, .string (⟨#[]⟩:ByteArray), .slice none 0 0, .slice none 0 0]) ?_ 0 _ rfl;(with_reducible repeat (first|refine blk_drewN ?_ _|refine blk_drew ?_|refine blk_alloc ?_ _));refine blk_far ?_ NB485_492.out _;(with_reducible repeat (first|refine blk_drewN ?_ _|refine blk_drew ?_|refine blk_alloc ?_ _));exact BK485.out) Tryz.underlying25 rfl qK) rfl ?_
     exact ⟨_,_,qE,by (with_reducible repeat (first|apply Kd.R_alloc|apply Kd.R_drewN|apply Kd.R_drew));exact Kd.R_mono (Kd.R_far (p:=⟨gb485,3,none⟩) (Kd.R_far (p:=⟨gb485,2,none⟩) (Kd.R_far (p:=⟨gb485,1,none⟩) (Kd.R_far (p:=⟨gb485,0,none⟩) (Kd.R_far (p:=⟨gb492,3,none⟩) (Kd.R_types (Kd.R_types HO501.out BK492.out (by decide)) BK485.out (by decide)) (fun _ hk=>hk.1.2) (.slice Ao48 t503.length co48)) (fun _ hk=>hk.2) (.int .i64 t491)) (fun _ hk=>hk.2) (.string t494)) (fun _ hk=>hk.2) (.slice Ao46 t498.length co46)) (fun _ hk=>hk.2) (.slice Ao48 t503.length co48)) (fun _ hk=>trivial),by (with_reducible repeat (first|apply Kd.R_alloc|apply Kd.R_drewN|apply Kd.R_drew));exact Kd.R_mono (Kd.R_far (p:=⟨gb485,3,none⟩) (Kd.R_far (p:=⟨gb485,2,none⟩) (Kd.R_far (p:=⟨gb485,1,none⟩) (Kd.R_far (p:=⟨gb485,0,none⟩) (Kd.R_far (p:=⟨gb492,3,none⟩) (Kd.R_types (Kd.R_types HO505.out BK492.out (by decide)) BK485.out (by decide)) (fun _ hk=>hk.1.2) (.slice Ao48 t503.length co48)) (fun _ hk=>hk.2) (.int .i64 t491)) (fun _ hk=>hk.2) (.string t494)) (fun _ hk=>hk.2) (.slice Ao46 t498.length co46)) (fun _ hk=>hk.2) (.slice Ao48 t503.length co48)) (fun _ hk=>trivial),qC⟩
def ebbtidelaw07_QueryParses.f (k:Nat) (a0:ByteArray):Option (Bool):=(ebbtidelaw07_alive.f k).bind fun t508=>(if t508=true then (if (a0.size:Int)>500 then (some true) else ((query_Parse.f k a0).bind fun bt509=>((ebbtideref07_Parse.f k a0).bind fun bt519=>((ebbtideref07_Same.f k bt509.1 bt509.2.1 bt509.2.2.1 bt509.2.2.2.1 bt519.1 bt519.2.1 bt519.2.2.1 bt519.2.2.2.1).bind fun t529=>(if t529=true then (some (bt509.2.2.2.2 ==bt519.2.2.2.2)) else (none)))))) else (none))
theorem ebbtidelaw07_QueryParses.mono:∀ a0 k,LeO (ebbtidelaw07_QueryParses.f k a0) (ebbtidelaw07_QueryParses.f (k+1) a0):=by
 intro a0 k
 unfold ebbtidelaw07_QueryParses.f
 repeat' first
   | (with_reducible exact ebbtidelaw07_alive.mono _)
   | (with_reducible exact ebbtideref07_Parse.mono _ _)
   | (with_reducible exact ebbtideref07_Same.mono _ _ _ _ _ _ _ _ _)
   | (with_reducible exact query_Parse.mono _ _)
   | (with_reducible exact LeO.refl _)
   | (with_reducible exact LeO.none _)
   | (with_reducible refine LeO.ite ?_ ?_)
   | (with_reducible refine LeO.bind ?_ (fun _=>?_))
   | exact ebbtidelaw07_alive.mono _
   | exact ebbtideref07_Parse.mono _ _
   | exact ebbtideref07_Same.mono _ _ _ _ _ _ _ _ _
   | exact query_Parse.mono _ _
   | exact LeO.none _
   | refine LeO.ite ?_ ?_
   | refine LeO.bind ?_ (fun _=>?_)
theorem ebbtidelaw07_QueryParses.calls (k:Nat) (a0:ByteArray) (r:Bool) (w:World) (hG:GInt w) (h:ebbtidelaw07_QueryParses.f k a0=some r) :
  Calls Tryz.prog 4 #[.string a0] w fun e w'=>e = .returned (.bool r)∧Below w.heap.size w w':=by
 have HG:=Aside0.mk hG
 clear hG
 have hu25:=Tryz.underlying25
 have HB:=Aside0.mk (Below.refl w.heap.size w)
 have H:((ebbtidelaw07_alive.f k).bind fun t508=>(if t508=true then (if (a0.size:Int)>500 then (some true) else ((query_Parse.f k a0).bind fun bt509=>((ebbtideref07_Parse.f k a0).bind fun bt519=>((ebbtideref07_Same.f k bt509.1 bt509.2.1 bt509.2.2.1 bt509.2.2.2.1 bt519.1 bt519.2.1 bt519.2.2.1 bt519.2.2.2.1).bind fun t529=>(if t529=true then (some (bt509.2.2.2.2 ==bt519.2.2.2.2)) else (none)))))) else (none)))=some r:=h
 clear h
 replace H:=Option.bind_eq_some_iff.mp H
 obtain ⟨t508,A20,H⟩:=H
 replace H:(if t508=true then (if (a0.size:Int)>500 then (some true) else ((query_Parse.f k a0).bind fun bt509=>((ebbtideref07_Parse.f k a0).bind fun bt519=>((ebbtideref07_Same.f k bt509.1 bt509.2.1 bt509.2.2.1 bt509.2.2.2.1 bt519.1 bt519.2.1 bt519.2.2.1 bt519.2.2.2.1).bind fun t529=>(if t529=true then (some (bt509.2.2.2.2 ==bt519.2.2.2.2)) else (none)))))) else (none))=some r:=H
 have A2:=Aside0.mk A20
 clear A20
 by_cases c3:t508=true
 rotate_left
 ·replace c3:=Bool.eq_false_iff.mpr c3
  subst c3
  have H1:(none)=some r:=by rw [if_neg (show ¬ (false=true) by decide)] at H;exact H
  clear H
  have H:=H1
  clear H1
  exact absurd H (by simp)
 subst c3
 have H1:(if (a0.size:Int)>500 then (some true) else ((query_Parse.f k a0).bind fun bt509=>((ebbtideref07_Parse.f k a0).bind fun bt519=>((ebbtideref07_Same.f k bt509.1 bt509.2.1 bt509.2.2.1 bt509.2.2.2.1 bt519.1 bt519.2.1 bt519.2.2.1 bt519.2.2.2.1).bind fun t529=>(if t529=true then (some (bt509.2.2.2.2 ==bt519.2.2.2.2)) else (none))))))=some r:=by rw [if_pos rfl] at H;exact H
 clear H
 have H:=H1
 clear H1
 by_cases c4:(a0.size:Int)>500
 ·rw [if_pos c4] at H
  have c4b0:decide (500<(a0.size:Int))=true:=decide_eq_true c4
  have c4b1:decide (500<a0.size)=true:=decide_eq_true (by omega)
  clear c4
  obtain rfl:=Option.some.inj H
  go_enter Tryz.func4,Tryz.ntmps4
  go_wp2_with (first|((with_reducible refine gate_callee (f:=12) rfl ?_);refine goesL_ (some 7) rfl rfl Tryz.func12 qK rfl #[] rfl qG ?_;(with_reducible refine (ebbtidelaw07_alive.calls k  true _ qM A2.out).mono ?_);rintro e w5 ⟨rfl,hb⟩;refine ⟨_,rfl,?_⟩;replace HB:=Aside0.mk (below_step qB hb);clear hb))
  go_ret
  exact ⟨qE,qB⟩
 rw [if_neg c4] at H
 have c4b0:decide (500<(a0.size:Int))=false:=decide_eq_false c4
 have c4b1:decide (500<a0.size)=false:=decide_eq_false (by omega)
 clear c4
 replace H:=Option.bind_eq_some_iff.mp H
 obtain ⟨⟨t509,t510,t511,t514,t517⟩,A60,H⟩:=H
 replace H:((ebbtideref07_Parse.f k a0).bind fun bt519=>((ebbtideref07_Same.f k t509 t510 t511 t514 bt519.1 bt519.2.1 bt519.2.2.1 bt519.2.2.2.1).bind fun t529=>(if t529=true then (some (t517 ==bt519.2.2.2.2)) else (none))))=some r:=H
 have A6:=Aside0.mk A60
 clear A60
 replace H:=Option.bind_eq_some_iff.mp H
 obtain ⟨⟨t519,t520,t521,t524,t527⟩,A70,H⟩:=H
 replace H:((ebbtideref07_Same.f k t509 t510 t511 t514 t519 t520 t521 t524).bind fun t529=>(if t529=true then (some (t517 ==t527)) else (none)))=some r:=H
 have A7:=Aside0.mk A70
 clear A70
 replace H:=Option.bind_eq_some_iff.mp H
 obtain ⟨t529,A80,H⟩:=H
 replace H:(if t529=true then (some (t517 ==t527)) else (none))=some r:=H
 have A8:=Aside0.mk A80
 clear A80
 by_cases c9:t529=true
 rotate_left
 ·replace c9:=Bool.eq_false_iff.mpr c9
  subst c9
  have H1:(none)=some r:=by rw [if_neg (show ¬ (false=true) by decide)] at H;exact H
  clear H
  have H:=H1
  clear H1
  exact absurd H (by simp)
 subst c9
 have H1:(some (t517 ==t527))=some r:=by rw [if_pos rfl] at H;exact H
 clear H
 have H:=H1
 clear H1
 obtain rfl:=Option.some.inj H
 go_enter Tryz.func4,Tryz.ntmps4
 go_wp2_with (first|((with_reducible refine gate_callee (f:=12) rfl ?_);refine goesL_ (some 7) rfl rfl Tryz.func12 qK rfl #[] rfl qG ?_;(with_reducible refine (ebbtidelaw07_alive.calls k  true _ qM A2.out).mono ?_);rintro e w10 ⟨rfl,hb⟩;refine ⟨_,rfl,?_⟩;replace HB:=Aside0.mk (below_step qB hb);clear hb)|((with_reducible refine gate_callee (f:=20) rfl ?_);refine goesL_ (some 14) rfl rfl Tryz.func20 qK rfl #[.string a0] rfl qG ?_;(with_reducible refine (query_Parse.calls k a0 t509 t510 t511 t514 t517 _ qM A6.out).mono ?_);rintro e w11 ⟨v512,v515,rfl,ho0,ho1,hb⟩;refine ⟨_,rfl,?_⟩;have HO513:=Aside0.mk (Kd.R_lower ho0 (below_size qB));have HO516:=Aside0.mk (Kd.R_lower ho1 (below_size qB));replace HB:=Aside0.mk (below_step qB hb);clear hb ho0 ho1)|((with_reducible refine gate_dst (N:=3) rfl ?_);refine box_event ?hg (N:=3) ?hd (cs:=#[.int .i64 0, .string (⟨#[]⟩:ByteArray), .slice none 0 0, .slice none 0 0]) (t:=25) ?hr ?_;(case hd=>rfl);(case hg=>rfl);(case hr=>first|(go_simp;done)|(go_simp;rfl));intro gb518 hg w12 hbox hb;replace HO513:=Aside0.mk (Kd.R_below (qR HO513) hb);replace HO516:=Aside0.mk (Kd.R_below (qR HO516) hb);have BK518:=Aside0.mk hbox;have GW518:Aside0 (w.heap.size≤gb518):=⟨qH⟩;have GE518:=GW518;replace HB:=Aside0.mk (below_step qB hb);clear hb hbox hg;obtain ⟨hcz13_0,hcz13_1,hcz13_2,hcz13_3,hfz13_0,hfz13_1,hfz13_2,hfz13_3⟩:=cf4 BK518.out;obtain ⟨Ao14,co14,eo14⟩:=Kd.R_slice HO513.out;subst eo14;obtain ⟨Ao15,co15,eo15⟩:=Kd.R_slice HO516.out;subst eo15)|((with_reducible refine gate_callee (f:=21) rfl ?_);refine goesL_ (some 19) rfl rfl Tryz.func21 qK rfl #[.string a0] rfl qG ?_;(with_reducible refine (ebbtideref07_Parse.calls k a0 t519 t520 t521 t524 t527 _ A7.out).mono ?_);rintro e w16 ⟨v522,v525,rfl,ho0,ho1,hb⟩;refine ⟨_,rfl,?_⟩;have HO523:=Aside0.mk (Kd.R_lower (Kd.R_new' ho0 (Kd.R_lt (by (with_reducible repeat (first|apply Kd.R_alloc|apply Kd.R_drewN|apply Kd.R_drew));exact (Kd.R_mono (Kd.R_far (p:=⟨gb518,3,none⟩) (Kd.R_far (p:=⟨gb518,2,none⟩) (Kd.R_far (p:=⟨gb518,1,none⟩) (Kd.R_far (p:=⟨gb518,0,none⟩) (Kd.R_types HO513.out BK518.out (by decide)) (fun _ hk=>hk.2) (.int .i64 t509)) (fun _ hk=>hk.2) (.string t510)) (fun _ hk=>hk.2) (.slice Ao14 t511.length co14)) (fun _ hk=>hk.2) (.slice Ao15 t514.length co15)) (fun _ h_=>h_.1))))) (below_size qC));replace HO513:=Aside0.mk (Kd.R_elder' (by (with_reducible repeat (first|apply Kd.R_alloc|apply Kd.R_drewN|apply Kd.R_drew));exact (Kd.R_mono (Kd.R_far (p:=⟨gb518,3,none⟩) (Kd.R_far (p:=⟨gb518,2,none⟩) (Kd.R_far (p:=⟨gb518,1,none⟩) (Kd.R_far (p:=⟨gb518,0,none⟩) (Kd.R_types HO513.out BK518.out (by decide)) (fun _ hk=>hk.2) (.int .i64 t509)) (fun _ hk=>hk.2) (.string t510)) (fun _ hk=>hk.2) (.slice Ao14 t511.length co14)) (fun _ hk=>hk.2) (.slice Ao15 t514.length co15)) (fun _ h_=>h_.1))) (Kd.R_base ho0) hb);have HO526:=Aside0.mk (Kd.R_lower (Kd.R_new' ho1 (Kd.R_lt (by (with_reducible repeat (first|apply Kd.R_alloc|apply Kd.R_drewN|apply Kd.R_drew));exact (Kd.R_mono (Kd.R_far (p:=⟨gb518,3,none⟩) (Kd.R_far (p:=⟨gb518,2,none⟩) (Kd.R_far (p:=⟨gb518,1,none⟩) (Kd.R_far (p:=⟨gb518,0,none⟩) (Kd.R_types HO516.out BK518.out (by decide)) (fun _ hk=>hk.2) (.int .i64 t509)) (fun _ hk=>hk.2) (.string t510)) (fun _ hk=>hk.2) (.slice Ao14 t511.length co14)) (fun _ hk=>hk.2) (.slice Ao15 t514.length co15)) (fun _ h_=>h_.1))))) (below_size qC));replace HO516:=Aside0.mk (Kd.R_elder' (by (with_reducible repeat (first|apply Kd.R_alloc|apply Kd.R_drewN|apply Kd.R_drew));exact (Kd.R_mono (Kd.R_far (p:=⟨gb518,3,none⟩) (Kd.R_far (p:=⟨gb518,2,none⟩) (Kd.R_far (p:=⟨gb518,1,none⟩) (Kd.R_far (p:=⟨gb518,0,none⟩) (Kd.R_types HO516.out BK518.out (by decide)) (fun _ hk=>hk.2) (.int .i64 t509)) (fun _ hk=>hk.2) (.string t510)) (fun _ hk=>hk.2) (.slice Ao14 t511.length co14)) (fun _ hk=>hk.2) (.slice Ao15 t514.length co15)) (fun _ h_=>h_.1))) (Kd.R_base ho1) hb);replace BK518:=Aside0.mk (blk_below (g:=gb518) (o := .cells #[.int .i64 t509, .string t510, .slice Ao14 t511.length co14, .slice Ao15 t514.length co15] 25 (0,0)) (by (with_reducible repeat (first|refine blk_drewN ?_ _|refine blk_drew ?_|refine blk_alloc ?_ _));refine blk_put (cs:=#[.int .i64 t509, .string t510, .slice Ao14 t511.length co14, .slice none 0 0]) ?_ 3 _ rfl;(with_reducible repeat (first|refine blk_drewN ?_ _|refine blk_drew ?_|refine blk_alloc ?_ _));refine blk_put (cs:=#[.int .i64 t509, .string t510, .slice none 0 0, .slice none 0 0]) ?_ 2 _ rfl;(with_reducible repeat (first|refine blk_drewN ?_ _|refine blk_drew ?_|refine blk_alloc ?_ _));refine blk_put (cs:=#[.int .i64 t509, .string (⟨#[]⟩:ByteArray), .slice none 0 0, .slice none 0 0]) ?_ 1 _ rfl;(with_reducible repeat (first|refine blk_drewN ?_ _|refine blk_drew ?_|refine blk_alloc ?_ _));refine blk_put (cs:=#[.int .i64 0, .string (⟨#[]⟩:ByteArray), .slice none 0 0, .slice none 0 0]) ?_ 0 _ rfl;(with_reducible repeat (first|refine blk_drewN ?_ _|refine blk_drew ?_|refine blk_alloc ?_ _));exact BK518.out) hb);replace HB:=Aside0.mk (below_step qC hb);clear hb ho0 ho1)|((with_reducible refine gate_dst (N:=5) rfl ?_);refine box_event ?hg (N:=5) ?hd (cs:=#[.int .i64 0, .string (⟨#[]⟩:ByteArray), .slice none 0 0, .slice none 0 0]) (t:=25) ?hr ?_;(case hd=>rfl);(case hg=>rfl);(case hr=>first|(go_simp;done)|(go_simp;rfl));intro gb528 hg w17 hbox hb;replace HO513:=Aside0.mk (Kd.R_below (qR HO513) hb);replace HO516:=Aside0.mk (Kd.R_below (qR HO516) hb);replace HO523:=Aside0.mk (Kd.R_below (qR HO523) hb);replace HO526:=Aside0.mk (Kd.R_below (qR HO526) hb);have BK528:=Aside0.mk hbox;have GW528:Aside0 (w.heap.size≤gb528):=⟨qI⟩;have GE528:=GW528;replace HB:=Aside0.mk (below_step qC hb);have NB518_528:=Aside0.mk ((by rw [hg];exact Nat.ne_of_lt (blk_lt (g:=gb518) (o := .cells #[.int .i64 t509, .string t510, .slice Ao14 t511.length co14, .slice Ao15 t514.length co15] 25 (0,0)) (qW BK518)):gb518≠gb528));have NB528_518:=Aside0.mk ((by rw [hg];exact Nat.ne_of_gt (blk_lt (g:=gb518) (o := .cells #[.int .i64 t509, .string t510, .slice Ao14 t511.length co14, .slice Ao15 t514.length co15] 25 (0,0)) (qW BK518)):gb528≠gb518));replace BK518:=Aside0.mk (blk_below (g:=gb518) (o := .cells #[.int .i64 t509, .string t510, .slice Ao14 t511.length co14, .slice Ao15 t514.length co15] 25 (0,0)) (qW BK518) hb);clear hb hbox hg;have hnb18:=NB528_518.out;have hnc18:=NB518_528.out;obtain ⟨hcz19_0,hcz19_1,hcz19_2,hcz19_3,hfz19_0,hfz19_1,hfz19_2,hfz19_3⟩:=cf4 BK528.out;obtain ⟨Ao20,co20,eo20⟩:=Kd.R_slice HO523.out;subst eo20;obtain ⟨Ao21,co21,eo21⟩:=Kd.R_slice HO526.out;subst eo21;obtain ⟨hcz22_0,hcz22_1,hcz22_2,hcz22_3,hfz22_0,hfz22_1,hfz22_2,hfz22_3⟩:=cf4 BK518.out)|((with_reducible refine gate_callee (f:=19) rfl ?_);refine goesL_ (some 24) rfl rfl Tryz.func19 qK rfl #[.agg #[.int .i64 t509, .string t510, .slice Ao14 t511.length co14, .slice Ao15 t514.length co15], .agg #[.int .i64 t519, .string t520, .slice Ao20 t521.length co20, .slice Ao21 t524.length co21]] rfl qG ?_;(with_reducible refine (ebbtideref07_Same.calls k t509 t510 _ _ t511 _ _ t514 t519 t520 _ _ t521 _ _ t524 true _ ?side1 ?side2 ?side3 ?side4 ?side5 ?side6 ?side7 ?side8 A8.out).mono ?_);(case side1=>refine (Kd.R_reads' (e:=127) (base:=w.heap.size) (ok:=fun k_=>(True∧some k_≠(.slice Ao20 t521.length co20:Value).ownBlock)) (n:=t511.length) (c:=co14) ?_).2.2;exact (by (with_reducible repeat (first|apply Kd.R_alloc|apply Kd.R_drewN|apply Kd.R_drew));exact (Kd.R_mono (Kd.R_far (p:=⟨gb528,3,none⟩) (Kd.R_far (p:=⟨gb528,2,none⟩) (Kd.R_far (p:=⟨gb528,1,none⟩) (Kd.R_far (p:=⟨gb528,0,none⟩) (Kd.R_types HO513.out BK528.out (by decide)) (fun _ hk=>hk.2) (.int .i64 t519)) (fun _ hk=>hk.2) (.string t520)) (fun _ hk=>hk.2) (.slice Ao20 t521.length co20)) (fun _ hk=>hk.2) (.slice Ao21 t524.length co21)) (fun _ h_=>h_.1))));(case side2=>exact (Kd.R_reads' HO513.out).2.1);(case side3=>refine (Kd.R_reads' (e:=9) (base:=w.heap.size) (ok:=fun k_=>(True∧some k_≠(.slice Ao21 t524.length co21:Value).ownBlock)) (n:=t514.length) (c:=co15) ?_).2.2;exact (by (with_reducible repeat (first|apply Kd.R_alloc|apply Kd.R_drewN|apply Kd.R_drew));exact (Kd.R_mono (Kd.R_far (p:=⟨gb528,3,none⟩) (Kd.R_far (p:=⟨gb528,2,none⟩) (Kd.R_far (p:=⟨gb528,1,none⟩) (Kd.R_far (p:=⟨gb528,0,none⟩) (Kd.R_types HO516.out BK528.out (by decide)) (fun _ hk=>hk.2) (.int .i64 t519)) (fun _ hk=>hk.2) (.string t520)) (fun _ hk=>hk.2) (.slice Ao20 t521.length co20)) (fun _ hk=>hk.2) (.slice Ao21 t524.length co21)) (fun _ h_=>h_.1))));(case side4=>exact (Kd.R_reads' HO516.out).2.1);(case side5=>refine (Kd.R_reads' (e:=127) (base:=w.heap.size) (ok:=fun k_=>(True∧some k_≠(.slice Ao14 t511.length co14:Value).ownBlock)) (n:=t521.length) (c:=co20) ?_).2.2;exact (by (with_reducible repeat (first|apply Kd.R_alloc|apply Kd.R_drewN|apply Kd.R_drew));exact (Kd.R_mono (Kd.R_far (p:=⟨gb528,3,none⟩) (Kd.R_far (p:=⟨gb528,2,none⟩) (Kd.R_far (p:=⟨gb528,1,none⟩) (Kd.R_far (p:=⟨gb528,0,none⟩) (Kd.R_types HO523.out BK528.out (by decide)) (fun _ hk=>hk.2) (.int .i64 t519)) (fun _ hk=>hk.2) (.string t520)) (fun _ hk=>hk.2) (.slice Ao20 t521.length co20)) (fun _ hk=>hk.2) (.slice Ao21 t524.length co21)) (fun _ h_=>h_.1))));(case side6=>exact (Kd.R_reads' HO523.out).2.1);(case side7=>refine (Kd.R_reads' (e:=9) (base:=w.heap.size) (ok:=fun k_=>(True∧some k_≠(.slice Ao15 t514.length co15:Value).ownBlock)) (n:=t524.length) (c:=co21) ?_).2.2;exact (by (with_reducible repeat (first|apply Kd.R_alloc|apply Kd.R_drewN|apply Kd.R_drew));exact (Kd.R_mono (Kd.R_far (p:=⟨gb528,3,none⟩) (Kd.R_far (p:=⟨gb528,2,none⟩) (Kd.R_far (p:=⟨gb528,1,none⟩) (Kd.R_far (p:=⟨gb528,0,none⟩) (Kd.R_types HO526.out BK528.out (by decide)) (fun _ hk=>hk.2) (.int .i64 t519)) (fun _ hk=>hk.2) (.string t520)) (fun _ hk=>hk.2) (.slice Ao20 t521.length co20)) (fun _ hk=>hk.2) (.slice Ao21 t524.length co21)) (fun _ h_=>h_.1))));(case side8=>exact (Kd.R_reads' HO526.out).2.1);rintro e w23 ⟨rfl,hb⟩;refine ⟨_,rfl,?_⟩;replace HO513:=Aside0.mk (Kd.R_below (by (with_reducible repeat (first|apply Kd.R_alloc|apply Kd.R_drewN|apply Kd.R_drew));exact (Kd.R_mono (Kd.R_far (p:=⟨gb528,3,none⟩) (Kd.R_far (p:=⟨gb528,2,none⟩) (Kd.R_far (p:=⟨gb528,1,none⟩) (Kd.R_far (p:=⟨gb528,0,none⟩) (Kd.R_types HO513.out BK528.out (by decide)) (fun _ hk=>hk.2) (.int .i64 t519)) (fun _ hk=>hk.2) (.string t520)) (fun _ hk=>hk.2) (.slice Ao20 t521.length co20)) (fun _ hk=>hk.2) (.slice Ao21 t524.length co21)) (fun _ h_=>h_.1))) hb);replace HO516:=Aside0.mk (Kd.R_below (by (with_reducible repeat (first|apply Kd.R_alloc|apply Kd.R_drewN|apply Kd.R_drew));exact (Kd.R_mono (Kd.R_far (p:=⟨gb528,3,none⟩) (Kd.R_far (p:=⟨gb528,2,none⟩) (Kd.R_far (p:=⟨gb528,1,none⟩) (Kd.R_far (p:=⟨gb528,0,none⟩) (Kd.R_types HO516.out BK528.out (by decide)) (fun _ hk=>hk.2) (.int .i64 t519)) (fun _ hk=>hk.2) (.string t520)) (fun _ hk=>hk.2) (.slice Ao20 t521.length co20)) (fun _ hk=>hk.2) (.slice Ao21 t524.length co21)) (fun _ h_=>h_.1))) hb);replace HO523:=Aside0.mk (Kd.R_below (by (with_reducible repeat (first|apply Kd.R_alloc|apply Kd.R_drewN|apply Kd.R_drew));exact (Kd.R_mono (Kd.R_far (p:=⟨gb528,3,none⟩) (Kd.R_far (p:=⟨gb528,2,none⟩) (Kd.R_far (p:=⟨gb528,1,none⟩) (Kd.R_far (p:=⟨gb528,0,none⟩) (Kd.R_types HO523.out BK528.out (by decide)) (fun _ hk=>hk.2) (.int .i64 t519)) (fun _ hk=>hk.2) (.string t520)) (fun _ hk=>hk.2) (.slice Ao20 t521.length co20)) (fun _ hk=>hk.2) (.slice Ao21 t524.length co21)) (fun _ h_=>h_.1))) hb);replace HO526:=Aside0.mk (Kd.R_below (by (with_reducible repeat (first|apply Kd.R_alloc|apply Kd.R_drewN|apply Kd.R_drew));exact (Kd.R_mono (Kd.R_far (p:=⟨gb528,3,none⟩) (Kd.R_far (p:=⟨gb528,2,none⟩) (Kd.R_far (p:=⟨gb528,1,none⟩) (Kd.R_far (p:=⟨gb528,0,none⟩) (Kd.R_types HO526.out BK528.out (by decide)) (fun _ hk=>hk.2) (.int .i64 t519)) (fun _ hk=>hk.2) (.string t520)) (fun _ hk=>hk.2) (.slice Ao20 t521.length co20)) (fun _ hk=>hk.2) (.slice Ao21 t524.length co21)) (fun _ h_=>h_.1))) hb);replace BK518:=Aside0.mk (blk_below (g:=gb518) (o := .cells #[.int .i64 t509, .string t510, .slice Ao14 t511.length co14, .slice Ao15 t514.length co15] 25 (0,0)) (by (with_reducible repeat (first|refine blk_drewN ?_ _|refine blk_drew ?_|refine blk_alloc ?_ _));refine blk_far ?_ NB518_528.out _;(with_reducible repeat (first|refine blk_drewN ?_ _|refine blk_drew ?_|refine blk_alloc ?_ _));refine blk_far ?_ NB518_528.out _;(with_reducible repeat (first|refine blk_drewN ?_ _|refine blk_drew ?_|refine blk_alloc ?_ _));refine blk_far ?_ NB518_528.out _;(with_reducible repeat (first|refine blk_drewN ?_ _|refine blk_drew ?_|refine blk_alloc ?_ _));refine blk_far ?_ NB518_528.out _;(with_reducible repeat (first|refine blk_drewN ?_ _|refine blk_drew ?_|refine blk_alloc ?_ _));exact BK518.out) hb);replace BK528:=Aside0.mk (blk_below (g:=gb528) (o := .cells #[.int .i64 t519, .string t520, .slice Ao20 t521.length co20, .slice Ao21 t524.length co21] 25 (0,0)) (by (with_reducible repeat (first|refine blk_drewN ?_ _|refine blk_drew ?_|refine blk_alloc ?_ _));refine blk_put (cs:=#[.int .i64 t519, .string t520, .slice Ao20 t521.length co20, .slice none 0 0]) ?_ 3 _ rfl;(with_reducible repeat (first|refine blk_drewN ?_ _|refine blk_drew ?_|refine blk_alloc ?_ _));refine blk_put (cs:=#[.int .i64 t519, .string t520, .slice none 0 0, .slice none 0 0]) ?_ 2 _ rfl;(with_reducible repeat (first|refine blk_drewN ?_ _|refine blk_drew ?_|refine blk_alloc ?_ _));refine blk_put (cs:=#[.int .i64 t519, .string (⟨#[]⟩:ByteArray), .slice none 0 0, .slice none 0 0]) ?_ 1 _ rfl;(with_reducible repeat (first|refine blk_drewN ?_ _|refine blk_drew ?_|refine blk_alloc ?_ _));refine blk_put (cs:=#[.int .i64 0, .string (⟨#[]⟩:ByteArray), .slice none 0 0, .slice none 0 0]) ?_ 0 _ rfl;(with_reducible repeat (first|refine blk_drewN ?_ _|refine blk_drew ?_|refine blk_alloc ?_ _));exact BK528.out) hb);replace HB:=Aside0.mk (below_step qC hb);clear hb))
 go_ret
 exact ⟨qE,qC⟩
end Go.Proofs.YteaadaaghhojfaaGreatDoor.PQu
