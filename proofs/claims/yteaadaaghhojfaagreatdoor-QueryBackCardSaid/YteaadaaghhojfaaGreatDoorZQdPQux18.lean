import Derived.Test.YteaadaaghhojfaaGreatDoorZQdPQux0
import Derived.Test.YteaadaaghhojfaaGreatDoorZQdPQux4
import Derived.Test.YteaadaaghhojfaaGreatDoorZQdPQux5
import Derived.Test.YteaadaaghhojfaaGreatDoorZQdPQux11
import Derived.Test.YteaadaaghhojfaaGreatDoorZQdPQux12
import Derived.Test.YteaadaaghhojfaaGreatDoorZQdPQux13
import Derived.Test.YteaadaaghhojfaaGreatDoorZQdPQux15
import Derived.Test.YteaadaaghhojfaaGreatDoorZQdPQux16
import Derived.Test.YteaadaaghhojfaaGreatDoorZQdPQux17
namespace Go.Proofs.YteaadaaghhojfaaGreatDoor.PQu
open Go.RowKit Go.Proofs.YteaadaaghhojfaaGreatDoorW.PrintWords Go.Proofs.YteaadaaghhojfaaGreatDoorW.PrintLast Go.Proofs.YteaadaaghhojfaaGreatDoorW.PrintMore
attribute [local go_sem] max2_int min2_int max_two min_two max_three min_three max_four min_four
set_option linter.unusedVariables false
set_option linter.unusedSimpArgs false
set_option maxHeartbeats 8000000
set_option maxRecDepth 100000
def ebbtideref05_Parse.l0:Nat→List (S127)→List ByteArray→Int→Option ((List (S127))×Int)
 | 0,_,_,_=>none
 | k+1,x4,x5,x6=>if x6<(x5.length:Int) then (if 0≤x6 then ((ebbtideref05_part.f k (rdOf ByteArray.empty x5 x6)).bind fun bt477=>((ebbtideref05_may.f k bt477.1 bt477.2.1 bt477.2.2).bind fun t481=>(if t481=true then (if x4.length<3518437208883 then (ebbtideref05_Parse.l0 k (x4++[(⟨bt477.1,bt477.2.1,bt477.2.2⟩:S127)]) x5 (wrap64 (x6+1))) else (none)) else (some (([]:List (S127)),2))))) else (none)) else (if (x4.length:Int)>4 then (some (([]:List (S127)),4)) else (some (x4,0)))
def ebbtideref05_Parse.f (k:Nat) (a0:ByteArray):Option ((List (S127))×Int):=if a0.toList=([]:List UInt8) then (some (([]:List (S127)),0)) else ((ebbtideref02_Split.f k a0 44).bind fun t473=>(ebbtideref05_Parse.l0 k ([]:List (S127)) t473 0))
theorem ebbtideref05_Parse.mono_l:∀ k,(∀ y0 y1 y2,LeO (ebbtideref05_Parse.l0 k y0 y1 y2) (ebbtideref05_Parse.l0 (k+1) y0 y1 y2))
 | 0=>fun _ _ _ r h=>by simp [ebbtideref05_Parse.l0] at h
 | k+1=>by
  have ih0:=ebbtideref05_Parse.mono_l k
  ·intro y0 y1 y2
   unfold ebbtideref05_Parse.l0
   repeat' first
   | (with_reducible exact ih0 _ _ _)
   | (with_reducible exact ebbtideref02_Split.mono _ _ _)
   | (with_reducible exact ebbtideref05_may.mono _ _ _ _)
   | (with_reducible exact ebbtideref05_part.mono _ _)
   | (with_reducible exact LeO.refl _)
   | (with_reducible exact LeO.none _)
   | (with_reducible refine LeO.ite ?_ ?_)
   | (with_reducible refine LeO.bind ?_ (fun _=>?_))
   | exact ih0 _ _ _
   | exact ebbtideref02_Split.mono _ _ _
   | exact ebbtideref05_may.mono _ _ _ _
   | exact ebbtideref05_part.mono _ _
   | exact LeO.none _
   | refine LeO.ite ?_ ?_
   | refine LeO.bind ?_ (fun _=>?_)
theorem ebbtideref05_Parse.mono:∀ a0 k,LeO (ebbtideref05_Parse.f k a0) (ebbtideref05_Parse.f (k+1) a0):=by
 intro a0 k
 have ih0:=ebbtideref05_Parse.mono_l k
 unfold ebbtideref05_Parse.f
 repeat' first
   | (with_reducible exact ih0 _ _ _)
   | (with_reducible exact ebbtideref02_Split.mono _ _ _)
   | (with_reducible exact ebbtideref05_may.mono _ _ _ _)
   | (with_reducible exact ebbtideref05_part.mono _ _)
   | (with_reducible exact LeO.refl _)
   | (with_reducible exact LeO.none _)
   | (with_reducible refine LeO.ite ?_ ?_)
   | (with_reducible refine LeO.bind ?_ (fun _=>?_))
   | exact ih0 _ _ _
   | exact ebbtideref02_Split.mono _ _ _
   | exact ebbtideref05_may.mono _ _ _ _
   | exact ebbtideref05_part.mono _ _
   | exact LeO.none _
   | refine LeO.ite ?_ ?_
   | refine LeO.bind ?_ (fun _=>?_)
theorem ebbtideref05_Parse.calls (k:Nat) (a0:ByteArray) (r1:List (S127)) (r2:Int) (w:World) (h:ebbtideref05_Parse.f k a0=some (r1,r2)) :
  Calls Tryz.prog 71 #[.string a0] w fun e w'=>∃ v0_:Value,e = .returned (.tuple #[v0_, .int .i64 r2])∧Kd.R k127 127 w' w.heap.size (fun _=>True) v0_ r1∧Below w.heap.size w w':=by
 have hu127:=Tryz.underlying127
 have HB:=Aside0.mk (Below.refl w.heap.size w)
 have H:(if a0.toList=([]:List UInt8) then (some (([]:List (S127)),0)) else ((ebbtideref02_Split.f k a0 44).bind fun t473=>(ebbtideref05_Parse.l0 k ([]:List (S127)) t473 0)))=some (r1,r2):=h
 clear h
 by_cases c2:a0.toList=([]:List UInt8)
 ·rw [if_pos c2] at H
  have c2b0:(a0.toList ==([]:List UInt8))=true:=beq_iff_eq.mpr c2
  have c2b1:(a0.toList != ([]:List UInt8))=false:=bne_eq_false_iff_eq.mpr c2
  clear c2
  simp only [Option.some.injEq,Prod.mk.injEq] at H
  obtain ⟨rfl,rfl⟩:=H
  go_enter Tryz.func71,Tryz.ntmps71
  go_wp2
  go_ret2
  exact ⟨_,qE,qN,qB⟩
 rw [if_neg c2] at H
 have c2b0:(a0.toList ==([]:List UInt8))=false:=beq_eq_false_iff_ne.mpr c2
 have c2b1:(a0.toList != ([]:List UInt8))=true:=bne_iff_ne.mpr c2
 replace H:=Option.bind_eq_some_iff.mp H
 obtain ⟨t473,A30,H⟩:=H
 replace H:(ebbtideref05_Parse.l0 k ([]:List (S127)) t473 0)=some (r1,r2):=H
 have A3:=Aside0.mk A30
 clear A30
 have H':=Aside0.mk H
 clear H
 go_enter Tryz.func71,Tryz.ntmps71
 go_wp2_with (first|((with_reducible refine gate_callee (f:=72) rfl ?_);refine goesL_ (some 11) rfl rfl Tryz.func72 qK rfl #[.string a0, .int .u8 44] rfl qG ?_;(with_reducible refine (ebbtideref02_Split.calls k a0 44 t473 _ A3.out).mono ?_);rintro e w4 ⟨v474,rfl,ho0,hb⟩;refine ⟨_,rfl,?_⟩;have HO475:=Aside0.mk (Kd.R_lower ho0 (below_size qB));replace HB:=Aside0.mk (below_step qB hb);clear hb ho0))
 go_loopg [4,6] k (fun kq v4 v6 w'=>∃ (x4_1:List (S127)) (x6_1:Int),v6 = .int .i64 x6_1∧Aside0 (ebbtideref05_Parse.l0 kq x4_1 t473 x6_1=some (r1,r2))∧Aside0 (kq≤k)∧Aside0 (Kd.R k127 127 w' w.heap.size (fun _=>True) v4 x4_1)∧Aside0 (Kd.R Kd.string 9 w' w.heap.size (fun _=>True) v474 t473)∧Aside0 (Below w.heap.size w w'))
 case atStart=>exact ⟨(([]:List (S127))),(0),qS,H',⟨Nat.le_refl _⟩,⟨qN⟩,⟨qR HO475⟩,⟨qB⟩⟩
 case round =>
  clear H'
  try clear c2;try clear c2b0;try clear c2b1
  obtain ⟨x4_1,x6_1,rfl,HA,HK1,HO_4,HO_5,HB⟩:=hrel
  cases gk with
  | zero=>exact absurd HA.out (by simp [ebbtideref05_Parse.l0])
  | succ k1 =>
   have H:=HA.out
   clear HA
   simp only [ebbtideref05_Parse.l0] at H
   by_cases c5:x6_1<(t473.length:Int)
   rotate_left
   ·rw [if_neg c5] at H
    have c5b0:decide (x6_1<(t473.length:Int))=false:=decide_eq_false c5
    clear c5
    by_cases c23:(x4_1.length:Int)>4
    ·rw [if_pos c23] at H
     have c23b0:decide (4<(x4_1.length:Int))=true:=decide_eq_true c23
     have c23b1:decide (4<x4_1.length)=true:=decide_eq_true (by omega)
     clear c23
     simp only [Option.some.injEq,Prod.mk.injEq] at H
     obtain ⟨rfl,rfl⟩:=H
     obtain ⟨Ao24,co24,eo24⟩:=Kd.R_slice HO_5.out
     subst eo24
     obtain ⟨Ao25,co25,eo25⟩:=Kd.R_slice HO_4.out
     subst eo25
     go_wp2
     go_ret2
     exact ⟨_,qE,qN,qB⟩
    rw [if_neg c23] at H
    have c23b0:decide (4<(x4_1.length:Int))=false:=decide_eq_false c23
    have c23b1:decide (4<x4_1.length)=false:=decide_eq_false (by omega)
    clear c23
    simp only [Option.some.injEq,Prod.mk.injEq] at H
    obtain ⟨rfl,rfl⟩:=H
    obtain ⟨Ao26,co26,eo26⟩:=Kd.R_slice HO_5.out
    subst eo26
    obtain ⟨Ao27,co27,eo27⟩:=Kd.R_slice HO_4.out
    subst eo27
    go_wp2
    go_ret2
    exact ⟨_,qE,qR HO_4,qB⟩
   rw [if_pos c5] at H
   have c5b0:decide (x6_1<(t473.length:Int))=true:=decide_eq_true c5
   clear c5
   by_cases c6:0≤x6_1
   rotate_left
   ·rw [if_neg c6] at H
    exact absurd H (by simp)
   rw [if_pos c6] at H
   have c6b0:decide (0≤x6_1)=true:=decide_eq_true c6
   clear c6
   replace H:=Option.bind_eq_some_iff.mp H
   obtain ⟨⟨t477,t478,t479⟩,A70,H⟩:=H
   replace H:((ebbtideref05_may.f k1 t477 t478 t479).bind fun t481=>(if t481=true then (if x4_1.length<3518437208883 then (ebbtideref05_Parse.l0 k1 (x4_1++[(⟨t477,t478,t479⟩:S127)]) t473 (wrap64 (x6_1+1))) else (none)) else (some (([]:List (S127)),2))))=some (r1,r2):=H
   have A7:=Aside0.mk A70
   clear A70
   replace H:=Option.bind_eq_some_iff.mp H
   obtain ⟨t481,A80,H⟩:=H
   replace H:(if t481=true then (if x4_1.length<3518437208883 then (ebbtideref05_Parse.l0 k1 (x4_1++[(⟨t477,t478,t479⟩:S127)]) t473 (wrap64 (x6_1+1))) else (none)) else (some (([]:List (S127)),2)))=some (r1,r2):=H
   have A8:=Aside0.mk A80
   clear A80
   by_cases c9:t481=true
   rotate_left
   ·replace c9:=Bool.eq_false_iff.mpr c9
    subst c9
    have H1:(some (([]:List (S127)),2))=some (r1,r2):=by rw [if_neg (show ¬ (false=true) by decide)] at H;exact H
    clear H
    have H:=H1
    clear H1
    simp only [Option.some.injEq,Prod.mk.injEq] at H
    obtain ⟨rfl,rfl⟩:=H
    obtain ⟨Ao18,co18,eo18⟩:=Kd.R_slice HO_5.out
    subst eo18
    have p476:0≤(x6_1:Int):=of_decide_eq_true qA
    have q476:x6_1<(t473.length:Int):=of_decide_eq_true qA
    obtain ⟨ad476,e476,hx476_0⟩:=Kd.at_string (Kd.R_reads' HO_5.out).2.2 x6_1 p476 q476
    cases e476
    replace p476:=eq_true p476
    replace q476:=eq_true q476
    go_wp2_with (first|((with_reducible refine gate_callee (f:=117) rfl ?_);refine goesL_ (some 22) rfl rfl Tryz.func117 qK rfl #[.string (rdOf ByteArray.empty t473 x6_1)] rfl qG ?_;(with_reducible refine (ebbtideref05_part.calls k1 (rdOf ByteArray.empty t473 x6_1) t477 t478 t479 _ A7.out).mono ?_);rintro e w19 ⟨rfl,hb⟩;refine ⟨_,rfl,?_⟩;replace HO_4:=Aside0.mk (Kd.R_below (qR HO_4) hb);replace HO_5:=Aside0.mk (Kd.R_below (qR HO_5) hb);replace HB:=Aside0.mk (below_step qB hb);clear hb)|((with_reducible refine gate_dst (N:=7) rfl ?_);refine box_event ?hg (N:=7) ?hd (cs:=#[.int .i64 0, .string (⟨#[]⟩:ByteArray), .string (⟨#[]⟩:ByteArray)]) (t:=127) ?hr ?_;(case hd=>rfl);(case hg=>rfl);(case hr=>first|(go_simp;done)|(go_simp;rfl));intro gb480 hg w20 hbox hb;replace HO_4:=Aside0.mk (Kd.R_below (Kd.R_elderB (qR HO_4) gb480 (Nat.le_of_eq hg.symm)) hb);replace HO_5:=Aside0.mk (Kd.R_below (qR HO_5) hb);have BK480:=Aside0.mk hbox;have GW480:Aside0 (w.heap.size≤gb480):=⟨qH⟩;have GE480:=GW480;replace HB:=Aside0.mk (below_step qB hb);clear hb hbox hg;obtain ⟨hcz21_0,hcz21_1,hcz21_2,hfz21_0,hfz21_1,hfz21_2⟩:=cf3 BK480.out)|((with_reducible refine gate_callee (f:=111) rfl ?_);refine goesL_ (some 24) rfl rfl Tryz.func111 qK rfl #[.agg #[.int .i64 t477, .string t478, .string t479]] rfl qG ?_;(with_reducible refine (ebbtideref05_may.calls k1 t477 t478 t479 false _ A8.out).mono ?_);rintro e w22 ⟨rfl,hb⟩;refine ⟨_,rfl,?_⟩;replace HO_4:=Aside0.mk (Kd.R_below (by (with_reducible repeat (first|apply Kd.R_alloc|apply Kd.R_drewN|apply Kd.R_drew));exact (Kd.R_mono (Kd.R_far (p:=⟨gb480,2,none⟩) (Kd.R_far (p:=⟨gb480,1,none⟩) (Kd.R_far (p:=⟨gb480,0,none⟩) (Kd.R_mono HO_4.out (fun k_ hk=>(⟨hk,hk.2⟩:_∧k_≠gb480))) (fun _ hk=>hk.2) (.int .i64 t477)) (fun _ hk=>hk.2) (.string t478)) (fun _ hk=>hk.2) (.string t479)) (fun _ h_=>h_.1))) hb);replace HO_5:=Aside0.mk (Kd.R_below (by (with_reducible repeat (first|apply Kd.R_alloc|apply Kd.R_drewN|apply Kd.R_drew));exact (Kd.R_mono (Kd.R_far (p:=⟨gb480,2,none⟩) (Kd.R_far (p:=⟨gb480,1,none⟩) (Kd.R_far (p:=⟨gb480,0,none⟩) (Kd.R_types HO_5.out BK480.out (by decide)) (fun _ hk=>hk.2) (.int .i64 t477)) (fun _ hk=>hk.2) (.string t478)) (fun _ hk=>hk.2) (.string t479)) (fun _ h_=>h_.1))) hb);replace BK480:=Aside0.mk (blk_below (g:=gb480) (o := .cells #[.int .i64 t477, .string t478, .string t479] 127 (0,0)) (by (with_reducible repeat (first|refine blk_drewN ?_ _|refine blk_drew ?_|refine blk_alloc ?_ _));refine blk_put (cs:=#[.int .i64 t477, .string t478, .string (⟨#[]⟩:ByteArray)]) ?_ 2 _ rfl;(with_reducible repeat (first|refine blk_drewN ?_ _|refine blk_drew ?_|refine blk_alloc ?_ _));refine blk_put (cs:=#[.int .i64 t477, .string (⟨#[]⟩:ByteArray), .string (⟨#[]⟩:ByteArray)]) ?_ 1 _ rfl;(with_reducible repeat (first|refine blk_drewN ?_ _|refine blk_drew ?_|refine blk_alloc ?_ _));refine blk_put (cs:=#[.int .i64 0, .string (⟨#[]⟩:ByteArray), .string (⟨#[]⟩:ByteArray)]) ?_ 0 _ rfl;(with_reducible repeat (first|refine blk_drewN ?_ _|refine blk_drew ?_|refine blk_alloc ?_ _));exact BK480.out) hb);replace HB:=Aside0.mk (below_step qC hb);clear hb))
    go_ret2
    exact ⟨_,qE,qN,qC⟩
   subst c9
   have H1:(if x4_1.length<3518437208883 then (ebbtideref05_Parse.l0 k1 (x4_1++[(⟨t477,t478,t479⟩:S127)]) t473 (wrap64 (x6_1+1))) else (none))=some (r1,r2):=by rw [if_pos rfl] at H;exact H
   clear H
   have H:=H1
   clear H1
   by_cases c10:x4_1.length<3518437208883
   rotate_left
   ·rw [if_neg c10] at H
    exact absurd H (by simp)
   rw [if_pos c10] at H
   have LMc10:=Aside0.mk c10
   clear c10
   obtain ⟨y482,hy482⟩:∃ y_:List (S127),y_=(x4_1++[(⟨t477,t478,t479⟩:S127)]):=⟨_,rfl⟩
   replace H:(ebbtideref05_Parse.l0 k1 y482 t473 (wrap64 (x6_1+1)))=some (r1,r2):=by first|(rw [hy482];with_reducible exact H)|(have H2_:=(Option.bind_some _ _).symm.trans H;rw [hy482];with_reducible exact H2_)|(have H2_:=(Option.bind_some _ _).symm.trans H;with_reducible exact H2_)|with_reducible exact H|(rw [hy482];exact H)|exact H
   have Ny482:=Aside0.mk hy482
   clear hy482
   have H':=Aside0.mk H
   clear H
   obtain ⟨Ao11,co11,eo11⟩:=Kd.R_slice HO_5.out
   subst eo11
   have p476:0≤(x6_1:Int):=of_decide_eq_true qA
   have q476:x6_1<(t473.length:Int):=of_decide_eq_true qA
   obtain ⟨ad476,e476,hx476_0⟩:=Kd.at_string (Kd.R_reads' HO_5.out).2.2 x6_1 p476 q476
   cases e476
   replace p476:=eq_true p476
   replace q476:=eq_true q476
   go_wp2_with (first|((with_reducible refine gate_callee (f:=117) rfl ?_);refine goesL_ (some 22) rfl rfl Tryz.func117 qK rfl #[.string (rdOf ByteArray.empty t473 x6_1)] rfl qG ?_;(with_reducible refine (ebbtideref05_part.calls k1 (rdOf ByteArray.empty t473 x6_1) t477 t478 t479 _ A7.out).mono ?_);rintro e w12 ⟨rfl,hb⟩;refine ⟨_,rfl,?_⟩;replace HO_4:=Aside0.mk (Kd.R_below (qR HO_4) hb);replace HO_5:=Aside0.mk (Kd.R_below (qR HO_5) hb);replace HB:=Aside0.mk (below_step qB hb);clear hb)|((with_reducible refine gate_dst (N:=7) rfl ?_);refine box_event ?hg (N:=7) ?hd (cs:=#[.int .i64 0, .string (⟨#[]⟩:ByteArray), .string (⟨#[]⟩:ByteArray)]) (t:=127) ?hr ?_;(case hd=>rfl);(case hg=>rfl);(case hr=>first|(go_simp;done)|(go_simp;rfl));intro gb480 hg w13 hbox hb;replace HO_4:=Aside0.mk (Kd.R_below (Kd.R_elderB (qR HO_4) gb480 (Nat.le_of_eq hg.symm)) hb);replace HO_5:=Aside0.mk (Kd.R_below (qR HO_5) hb);have BK480:=Aside0.mk hbox;have GW480:Aside0 (w.heap.size≤gb480):=⟨qH⟩;have GE480:=GW480;replace HB:=Aside0.mk (below_step qB hb);clear hb hbox hg;obtain ⟨hcz14_0,hcz14_1,hcz14_2,hfz14_0,hfz14_1,hfz14_2⟩:=cf3 BK480.out)|((with_reducible refine gate_callee (f:=111) rfl ?_);refine goesL_ (some 24) rfl rfl Tryz.func111 qK rfl #[.agg #[.int .i64 t477, .string t478, .string t479]] rfl qG ?_;(with_reducible refine (ebbtideref05_may.calls k1 t477 t478 t479 true _ A8.out).mono ?_);rintro e w15 ⟨rfl,hb⟩;refine ⟨_,rfl,?_⟩;replace HO_4:=Aside0.mk (Kd.R_below (by (with_reducible repeat (first|apply Kd.R_alloc|apply Kd.R_drewN|apply Kd.R_drew));exact (Kd.R_mono (Kd.R_far (p:=⟨gb480,2,none⟩) (Kd.R_far (p:=⟨gb480,1,none⟩) (Kd.R_far (p:=⟨gb480,0,none⟩) (Kd.R_mono HO_4.out (fun k_ hk=>(⟨hk,hk.2⟩:_∧k_≠gb480))) (fun _ hk=>hk.2) (.int .i64 t477)) (fun _ hk=>hk.2) (.string t478)) (fun _ hk=>hk.2) (.string t479)) (fun _ h_=>h_.1))) hb);replace HO_5:=Aside0.mk (Kd.R_below (by (with_reducible repeat (first|apply Kd.R_alloc|apply Kd.R_drewN|apply Kd.R_drew));exact (Kd.R_mono (Kd.R_far (p:=⟨gb480,2,none⟩) (Kd.R_far (p:=⟨gb480,1,none⟩) (Kd.R_far (p:=⟨gb480,0,none⟩) (Kd.R_types HO_5.out BK480.out (by decide)) (fun _ hk=>hk.2) (.int .i64 t477)) (fun _ hk=>hk.2) (.string t478)) (fun _ hk=>hk.2) (.string t479)) (fun _ h_=>h_.1))) hb);replace BK480:=Aside0.mk (blk_below (g:=gb480) (o := .cells #[.int .i64 t477, .string t478, .string t479] 127 (0,0)) (by (with_reducible repeat (first|refine blk_drewN ?_ _|refine blk_drew ?_|refine blk_alloc ?_ _));refine blk_put (cs:=#[.int .i64 t477, .string t478, .string (⟨#[]⟩:ByteArray)]) ?_ 2 _ rfl;(with_reducible repeat (first|refine blk_drewN ?_ _|refine blk_drew ?_|refine blk_alloc ?_ _));refine blk_put (cs:=#[.int .i64 t477, .string (⟨#[]⟩:ByteArray), .string (⟨#[]⟩:ByteArray)]) ?_ 1 _ rfl;(with_reducible repeat (first|refine blk_drewN ?_ _|refine blk_drew ?_|refine blk_alloc ?_ _));refine blk_put (cs:=#[.int .i64 0, .string (⟨#[]⟩:ByteArray), .string (⟨#[]⟩:ByteArray)]) ?_ 0 _ rfl;(with_reducible repeat (first|refine blk_drewN ?_ _|refine blk_drew ?_|refine blk_alloc ?_ _));exact BK480.out) hb);replace HB:=Aside0.mk (below_step qC hb);clear hb;obtain ⟨hcz16_0,hcz16_1,hcz16_2,hfz16_0,hfz16_1,hfz16_2⟩:=cf3 BK480.out)|((with_reducible refine gate_builtin (b := .append) (xs:=#[.tmp 26, .tmp 28]) rfl ?_);at_builtin;refine Kd.R_append k127 (w0:=w) w.heap.size rfl (.tmp 26) (.tmp 28) 22 127 (.agg #[(.int .i64 0),(.string ⟨#[]⟩),(.string ⟨#[]⟩)]) 40 rfl Tryz.underlying22 info127 rfl (by decide) (by omega) u4 x4_1 (⟨t477,t478,t479⟩:S127) [.int .i64 t477, .string t478, .string t479] (fun k_=>k_≠gb480) (fun _=>False) rfl rfl ?aP (fun _ hk=>hk.elim) ?aF ?aO ?aB ?aS ?aL ?_;(case aP=>exact k127_mkM _ _ _ (⟨t477,t478,t479⟩:S127));(case aB=>exact qC);(case aF=>exact (fun k_ hk=>Kd.freshB (g:=gb480) (o := .cells #[.int .i64 t477, .string t478, .string t479] 127 (0,0)) (qW BK480) k_ hk));(case aO=>exact (by (with_reducible repeat (first|apply Kd.R_alloc|apply Kd.R_drewN|apply Kd.R_drew));exact Kd.R_mono HO_4.out (fun _ hk=>hk.2)));(case aS=>exact (below_size qC));(case aL=>have:=LMc10.out;omega);intro v483 w17 ho hb hg hat;rw [← Ny482.out] at ho;replace HO_5:=Aside0.mk (Kd.R_over' (qR HO_5) (Kd.R_typed (qR HO_4)) (by decide) hg);replace BK480:=Aside0.mk (blk_grown (g:=gb480) (o := .cells #[.int .i64 t477, .string t478, .string t479] 127 (0,0)) (qW BK480) hg (Kd.R_away HO_4.out (fun _ hk=>hk.2)));replace HB:=Aside0.mk hb;have HO484:=Aside0.mk ho;clear HO_4;clear ho hb hg hat))
   go_roundg k1
   case measure=>have:=HK1.out;omega
   case rel=>exact ⟨(y482),(wrap64 (x6_1+1)),qS,H',⟨by have:=HK1.out;omega⟩,⟨by (with_reducible repeat (first|apply Kd.R_alloc|apply Kd.R_drewN|apply Kd.R_drew));exact Kd.R_mono HO484.out (fun _ hk=>trivial)⟩,⟨qR HO_5⟩,⟨qC⟩⟩
end Go.Proofs.YteaadaaghhojfaaGreatDoor.PQu
