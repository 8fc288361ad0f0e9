import Derived.Test.YteaadaaghhojfaaGreatDoorZQbPQux0
import Derived.Test.YteaadaaghhojfaaGreatDoorZQbPQux5
import Derived.Test.YteaadaaghhojfaaGreatDoorZQbPQux9
import Derived.Test.YteaadaaghhojfaaGreatDoorZQbPQux11
import Derived.Test.YteaadaaghhojfaaGreatDoorZQbPQux12
import Derived.Test.YteaadaaghhojfaaGreatDoorZQbPQux13
import Derived.Test.YteaadaaghhojfaaGreatDoorZQbPQux14
import Derived.Test.YteaadaaghhojfaaGreatDoorZQbPQux15
namespace Go.Proofs.YteaadaaghhojfaaGreatDoor.PQu
open Go.RowKit Go.Proofs.YteaadaaghhojfaaGreatDoorW.PrintWords Go.Proofs.YteaadaaghhojfaaGreatDoorW.PrintLast Go.Proofs.YteaadaaghhojfaaGreatDoorW.PrintMore
attribute [local go_sem] max2_int min2_int max_two min_two max_three min_three max_four min_four
set_option linter.unusedVariables false
set_option linter.unusedSimpArgs false
set_option maxHeartbeats 8000000
set_option maxRecDepth 100000
def ebbtideref02_Fields.l0:Nat→List ByteArray→List ByteArray→Int→Option (List ByteArray)
 | 0,_,_,_=>none
 | k+1,x3,x4,x5=>if x5<(x4.length:Int) then (if 0≤x5 then (if (rdOf ByteArray.empty x4 x5).toList=([]:List UInt8) then (ebbtideref02_Fields.l0 k x3 x4 (wrap64 (x5+1))) else (if x3.length<8796093022208 then (ebbtideref02_Fields.l0 k (x3++[rdOf ByteArray.empty x4 x5]) x4 (wrap64 (x5+1))) else (none))) else (none)) else (some x3)
def ebbtideref02_Fields.f (k:Nat) (a0:ByteArray):Option (List ByteArray):=(ebbtideref02_Split.f k a0 32).bind fun t458=>(ebbtideref02_Fields.l0 k ([]:List ByteArray) t458 0)
theorem ebbtideref02_Fields.mono_l:∀ k,(∀ y0 y1 y2,LeO (ebbtideref02_Fields.l0 k y0 y1 y2) (ebbtideref02_Fields.l0 (k+1) y0 y1 y2))
 | 0=>fun _ _ _ r h=>by simp [ebbtideref02_Fields.l0] at h
 | k+1=>by
  have ih0:=ebbtideref02_Fields.mono_l k
  ·intro y0 y1 y2
   unfold ebbtideref02_Fields.l0
   repeat' first
   | (with_reducible exact ih0 _ _ _)
   | (with_reducible exact ebbtideref02_Split.mono _ _ _)
   | (with_reducible exact LeO.refl _)
   | (with_reducible exact LeO.none _)
   | (with_reducible refine LeO.ite ?_ ?_)
   | (with_reducible refine LeO.bind ?_ (fun _=>?_))
   | exact ih0 _ _ _
   | exact ebbtideref02_Split.mono _ _ _
   | exact LeO.none _
   | refine LeO.ite ?_ ?_
   | refine LeO.bind ?_ (fun _=>?_)
theorem ebbtideref02_Fields.mono:∀ a0 k,LeO (ebbtideref02_Fields.f k a0) (ebbtideref02_Fields.f (k+1) a0):=by
 intro a0 k
 have ih0:=ebbtideref02_Fields.mono_l k
 unfold ebbtideref02_Fields.f
 repeat' first
   | (with_reducible exact ih0 _ _ _)
   | (with_reducible exact ebbtideref02_Split.mono _ _ _)
   | (with_reducible exact LeO.refl _)
   | (with_reducible exact LeO.none _)
   | (with_reducible refine LeO.ite ?_ ?_)
   | (with_reducible refine LeO.bind ?_ (fun _=>?_))
   | exact ih0 _ _ _
   | exact ebbtideref02_Split.mono _ _ _
   | exact LeO.none _
   | refine LeO.ite ?_ ?_
   | refine LeO.bind ?_ (fun _=>?_)
theorem ebbtideref02_Fields.calls (k:Nat) (a0:ByteArray) (r:List ByteArray) (w:World) (h:ebbtideref02_Fields.f k a0=some r) :
  Calls Tryz.prog 68 #[.string a0] w fun e w'=>∃ v0_:Value,e = .returned (v0_)∧Kd.R Kd.string 9 w' w.heap.size (fun _=>True) v0_ r∧Below w.heap.size w w':=by
 have HB:=Aside0.mk (Below.refl w.heap.size w)
 have H:((ebbtideref02_Split.f k a0 32).bind fun t458=>(ebbtideref02_Fields.l0 k ([]:List ByteArray) t458 0))=some r:=h
 clear h
 replace H:=Option.bind_eq_some_iff.mp H
 obtain ⟨t458,A20,H⟩:=H
 replace H:(ebbtideref02_Fields.l0 k ([]:List ByteArray) t458 0)=some r:=H
 have A2:=Aside0.mk A20
 clear A20
 have H':=Aside0.mk H
 clear H
 go_enter Tryz.func68,Tryz.ntmps68
 go_wp2_with (first|((with_reducible refine gate_callee (f:=72) rfl ?_);refine goesL_ (some 7) rfl rfl Tryz.func72 qK rfl #[.string a0, .int .u8 32] rfl qG ?_;(with_reducible refine (ebbtideref02_Split.calls k a0 32 t458 _ A2.out).mono ?_);rintro e w3 ⟨v459,rfl,ho0,hb⟩;refine ⟨_,rfl,?_⟩;have HO460:=Aside0.mk (Kd.R_lower ho0 (below_size qB));replace HB:=Aside0.mk (below_step qB hb);clear hb ho0))
 go_loopg [3,5] k (fun kq v3 v5 w'=>∃ (x3_1:List ByteArray) (x5_1:Int),v5 = .int .i64 x5_1∧Aside0 (ebbtideref02_Fields.l0 kq x3_1 t458 x5_1=some r)∧Aside0 (kq≤k)∧Aside0 (Kd.R Kd.string 9 w' w.heap.size (fun k_=>some k_≠(v459:Value).ownBlock) v3 x3_1)∧Aside0 (Kd.R Kd.string 9 w' w.heap.size (fun k_=>some k_≠(v3:Value).ownBlock) v459 t458)∧Aside0 (Below w.heap.size w w'))
 case atStart=>exact ⟨(([]:List ByteArray)),(0),qS,H',⟨Nat.le_refl _⟩,⟨qN⟩,⟨by (with_reducible repeat (first|apply Kd.R_alloc|apply Kd.R_drewN|apply Kd.R_drew));exact Kd.R_mono HO460.out (fun _ hk=>(by simp [Value.ownBlock]))⟩,⟨qB⟩⟩
 case round =>
  clear H'
  obtain ⟨x3_1,x5_1,rfl,HA,HK1,HO_3,HO_4,HB⟩:=hrel
  cases gk with
  | zero=>exact absurd HA.out (by simp [ebbtideref02_Fields.l0])
  | succ k1 =>
   have H:=HA.out
   clear HA
   simp only [ebbtideref02_Fields.l0] at H
   by_cases c4:x5_1<(t458.length:Int)
   rotate_left
   ·rw [if_neg c4] at H
    have c4b0:decide (x5_1<(t458.length:Int))=false:=decide_eq_false c4
    clear c4
    obtain rfl:=Option.some.inj H
    obtain ⟨Ao11,co11,eo11⟩:=Kd.R_slice HO_4.out
    subst eo11
    go_wp2
    go_ret
    exact ⟨_,qE,by (with_reducible repeat (first|apply Kd.R_alloc|apply Kd.R_drewN|apply Kd.R_drew));exact Kd.R_mono HO_3.out (fun _ hk=>trivial),qB⟩
   rw [if_pos c4] at H
   have c4b0:decide (x5_1<(t458.length:Int))=true:=decide_eq_true c4
   clear c4
   by_cases c5:0≤x5_1
   rotate_left
   ·rw [if_neg c5] at H
    exact absurd H (by simp)
   rw [if_pos c5] at H
   have c5b0:decide (0≤x5_1)=true:=decide_eq_true c5
   clear c5
   by_cases c6:(rdOf ByteArray.empty t458 x5_1).toList=([]:List UInt8)
   ·rw [if_pos c6] at H
    have c6b0:((rdOf ByteArray.empty t458 x5_1).toList ==([]:List UInt8))=true:=beq_iff_eq.mpr c6
    have c6b1:((rdOf ByteArray.empty t458 x5_1).toList != ([]:List UInt8))=false:=bne_eq_false_iff_eq.mpr c6
    clear c6
    have H':=Aside0.mk H
    clear H
    obtain ⟨Ao7,co7,eo7⟩:=Kd.R_slice HO_4.out
    subst eo7
    have p461:0≤(x5_1:Int):=of_decide_eq_true qA
    have q461:x5_1<(t458.length:Int):=of_decide_eq_true qA
    obtain ⟨ad461,e461,hx461_0⟩:=Kd.at_string (Kd.R_reads' HO_4.out).2.2 x5_1 p461 q461
    cases e461
    replace p461:=eq_true p461
    replace q461:=eq_true q461
    go_wp2
    go_roundg k1
    case measure=>have:=HK1.out;omega
    case rel=>exact ⟨(x3_1),(wrap64 (x5_1+1)),qS,H',⟨by have:=HK1.out;omega⟩,⟨qR HO_3⟩,⟨qR HO_4⟩,⟨qB⟩⟩
   rw [if_neg c6] at H
   have c6b0:((rdOf ByteArray.empty t458 x5_1).toList ==([]:List UInt8))=false:=beq_eq_false_iff_ne.mpr c6
   have c6b1:((rdOf ByteArray.empty t458 x5_1).toList != ([]:List UInt8))=true:=bne_iff_ne.mpr c6
   by_cases c8:x3_1.length<8796093022208
   rotate_left
   ·rw [if_neg c8] at H
    exact absurd H (by simp)
   rw [if_pos c8] at H
   have LMc8:=Aside0.mk c8
   clear c8
   obtain ⟨y463,hy463⟩:∃ y_:List ByteArray,y_=(x3_1++[rdOf ByteArray.empty t458 x5_1]):=⟨_,rfl⟩
   replace H:(ebbtideref02_Fields.l0 k1 y463 t458 (wrap64 (x5_1+1)))=some r:=by first|(rw [hy463];with_reducible exact H)|(have H2_:=(Option.bind_some _ _).symm.trans H;rw [hy463];with_reducible exact H2_)|(have H2_:=(Option.bind_some _ _).symm.trans H;with_reducible exact H2_)|with_reducible exact H|(rw [hy463];exact H)|exact H
   have Ny463:=Aside0.mk hy463
   clear hy463
   have H':=Aside0.mk H
   clear H
   obtain ⟨Ao9,co9,eo9⟩:=Kd.R_slice HO_4.out
   subst eo9
   have p461:0≤(x5_1:Int):=of_decide_eq_true qA
   have q461:x5_1<(t458.length:Int):=of_decide_eq_true qA
   obtain ⟨ad461,e461,hx461_0⟩:=Kd.at_string (Kd.R_reads' HO_4.out).2.2 x5_1 p461 q461
   cases e461
   replace p461:=eq_true p461
   replace q461:=eq_true q461
   have p462:0≤(x5_1:Int):=of_decide_eq_true qA
   have q462:x5_1<(t458.length:Int):=of_decide_eq_true qA
   obtain ⟨ad462,e462,hx462_0⟩:=Kd.at_string (Kd.R_reads' HO_4.out).2.2 x5_1 p462 q462
   obtain rfl:ad461=ad462:=(by injection e462)
   replace p462:=eq_true p462
   replace q462:=eq_true q462
   go_wp2_with (first|((with_reducible refine gate_builtin (b := .append) (xs:=#[.tmp 19, .tmp 24]) rfl ?_);at_builtin;refine Kd.R_append Kd.string (w0:=w) w.heap.size rfl (.tmp 19) (.tmp 24) 23 9 (.string ⟨#[]⟩) 16 rfl Tryz.underlying23 info9 rfl (by decide) (by omega) u3 x3_1 (rdOf ByteArray.empty t458 x5_1) [.string (rdOf ByteArray.empty t458 x5_1)] (fun k_=>some k_≠(.slice (some ad461) t458.length co9:Value).ownBlock) (fun _=>False) rfl rfl ?aP (fun _ hk=>hk.elim) ?aF ?aO ?aB ?aS ?aL ?_;(case aP=>exact rfl);(case aB=>exact qB);(case aF=>exact (fun k_ hk=>Kd.fresh' (Kd.R_lt (qR HO_4)) k_ hk));(case aO=>exact (qR HO_3));(case aS=>exact (below_size qB));(case aL=>have:=LMc8.out;omega);intro v464 w10 ho hb hg hat;rw [← Ny463.out] at ho;replace HO_4:=Aside0.mk (Kd.R_after (ok:=(fun _=>True)) (by (with_reducible repeat (first|apply Kd.R_alloc|apply Kd.R_drewN|apply Kd.R_drew));exact Kd.R_mono HO_4.out (fun _ hk=>⟨trivial,by first|exact hk|exact fun e_=>hk (e_.trans (Go.Proofs.YteaadaaghhojfaaGreatDoorW.XW.ob_len _ _ _ _ _))⟩)) hg hat);replace HB:=Aside0.mk hb;have HO465:=Aside0.mk ho;clear HO_3;clear ho hb hg hat))
   go_roundg k1
   case measure=>have:=HK1.out;omega
   case rel=>exact ⟨(y463),(wrap64 (x5_1+1)),qS,H',⟨by have:=HK1.out;omega⟩,⟨qR HO465⟩,⟨by (with_reducible repeat (first|apply Kd.R_alloc|apply Kd.R_drewN|apply Kd.R_drew));exact Kd.R_mono HO_4.out (fun _ hk=>hk.2)⟩,⟨qB⟩⟩
end Go.Proofs.YteaadaaghhojfaaGreatDoor.PQu
