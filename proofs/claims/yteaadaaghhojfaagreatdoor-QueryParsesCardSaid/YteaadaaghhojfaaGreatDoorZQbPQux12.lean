import Derived.Test.YteaadaaghhojfaaGreatDoorZQbPQux0
import Derived.Test.YteaadaaghhojfaaGreatDoorZQbPQux5
import Derived.Test.YteaadaaghhojfaaGreatDoorZQbPQux6
namespace Go.Proofs.YteaadaaghhojfaaGreatDoor.PQu
open Go.RowKit Go.Proofs.YteaadaaghhojfaaGreatDoorW.PrintWords Go.Proofs.YteaadaaghhojfaaGreatDoorW.PrintLast Go.Proofs.YteaadaaghhojfaaGreatDoorW.PrintMore
attribute [local go_sem] max2_int min2_int max_two min_two max_three min_three max_four min_four
set_option linter.unusedVariables false
set_option linter.unusedSimpArgs false
set_option maxHeartbeats 8000000
set_option maxRecDepth 100000
def ebbtideref05_may.j0:Nat→Int→Bool→Int→ByteArray→ByteArray→Option (Bool)
 | 0,_,_,_,_,_=>none
 | k+1,x8,x9,x395000,x395001,x395002=>if x9=true then ((ebbtideref02_Value.f k x395002).bind fun t396=>(some t396)) else (if x8=3 then (if x395002.toList=([]:List UInt8) then (some true) else ((ebbtideref02_Value.f k x395002).bind fun t397=>(some t397))) else (if x8=4 then (some (x395002.toList ==([]:List UInt8))) else (some false)))
def ebbtideref05_may.f (k:Nat) (a0_0:Int) (a0_1:ByteArray) (a0_2:ByteArray):Option (Bool):=(ebbtideref02_Name.f k a0_1).bind fun t395=>(if t395=true then (if a0_0=1 then (ebbtideref05_may.j0 k a0_0 (a0_0 ==1) a0_0 a0_1 a0_2) else (ebbtideref05_may.j0 k a0_0 (a0_0 ==2) a0_0 a0_1 a0_2)) else (some false))
theorem ebbtideref05_may.mono_l:∀ k,(∀ y0 y1 y2 y3 y4,LeO (ebbtideref05_may.j0 k y0 y1 y2 y3 y4) (ebbtideref05_may.j0 (k+1) y0 y1 y2 y3 y4))
 | 0=>fun _ _ _ _ _ r h=>by simp [ebbtideref05_may.j0] at h
 | k+1=>by
  have ih0:=ebbtideref05_may.mono_l k
  ·intro y0 y1 y2 y3 y4
   unfold ebbtideref05_may.j0
   repeat' first
   | (with_reducible exact ih0 _ _ _ _ _)
   | (with_reducible exact ebbtideref02_Name.mono _ _)
   | (with_reducible exact ebbtideref02_Value.mono _ _)
   | (with_reducible exact LeO.refl _)
   | (with_reducible exact LeO.none _)
   | (with_reducible refine LeO.ite ?_ ?_)
   | (with_reducible refine LeO.bind ?_ (fun _=>?_))
   | exact ih0 _ _ _ _ _
   | exact ebbtideref02_Name.mono _ _
   | exact ebbtideref02_Value.mono _ _
   | exact LeO.none _
   | refine LeO.ite ?_ ?_
   | refine LeO.bind ?_ (fun _=>?_)
theorem ebbtideref05_may.mono:∀ a0 a1 a2 k,LeO (ebbtideref05_may.f k a0 a1 a2) (ebbtideref05_may.f (k+1) a0 a1 a2):=by
 intro a0 a1 a2 k
 have ih0:=ebbtideref05_may.mono_l k
 unfold ebbtideref05_may.f
 repeat' first
   | (with_reducible exact ih0 _ _ _ _ _)
   | (with_reducible exact ebbtideref02_Name.mono _ _)
   | (with_reducible exact ebbtideref02_Value.mono _ _)
   | (with_reducible exact LeO.refl _)
   | (with_reducible exact LeO.none _)
   | (with_reducible refine LeO.ite ?_ ?_)
   | (with_reducible refine LeO.bind ?_ (fun _=>?_))
   | exact ih0 _ _ _ _ _
   | exact ebbtideref02_Name.mono _ _
   | exact ebbtideref02_Value.mono _ _
   | exact LeO.none _
   | refine LeO.ite ?_ ?_
   | refine LeO.bind ?_ (fun _=>?_)
theorem ebbtideref05_may.calls (k:Nat) (a0_0:Int) (a0_1:ByteArray) (a0_2:ByteArray) (r:Bool) (w:World) (h:ebbtideref05_may.f k a0_0 a0_1 a0_2=some r) :
  Calls Tryz.prog 111 #[.agg #[.int .i64 a0_0, .string a0_1, .string a0_2]] w fun e w'=>e = .returned (.bool r)∧Below w.heap.size w w':=by
 have hu127:=Tryz.underlying127
 have HB:=Aside0.mk (Below.refl w.heap.size w)
 have H:((ebbtideref02_Name.f k a0_1).bind fun t395=>(if t395=true then (if a0_0=1 then (ebbtideref05_may.j0 k a0_0 (a0_0 ==1) a0_0 a0_1 a0_2) else (ebbtideref05_may.j0 k a0_0 (a0_0 ==2) a0_0 a0_1 a0_2)) else (some false)))=some r:=h
 clear h
 replace H:=Option.bind_eq_some_iff.mp H
 obtain ⟨t395,A20,H⟩:=H
 replace H:(if t395=true then (if a0_0=1 then (ebbtideref05_may.j0 k a0_0 (a0_0 ==1) a0_0 a0_1 a0_2) else (ebbtideref05_may.j0 k a0_0 (a0_0 ==2) a0_0 a0_1 a0_2)) else (some false))=some r:=H
 have A2:=Aside0.mk A20
 clear A20
 by_cases c3:t395=true
 rotate_left
 ·replace c3:=Bool.eq_false_iff.mpr c3
  subst c3
  have H1:(some false)=some r:=by rw [if_neg (show ¬ (false=true) by decide)] at H;exact H
  clear H
  have H:=H1
  clear H1
  obtain rfl:=Option.some.inj H
  go_enter Tryz.func111,Tryz.ntmps111
  go_wp2_with (first|((with_reducible refine gate_dst (N:=1) rfl ?_);refine box_event ?hg (N:=1) ?hd (cs:=#[.int .i64 a0_0, .string a0_1, .string a0_2]) (t:=127) ?hr ?_;(case hd=>rfl);(case hg=>rfl);(case hr=>first|(go_simp;done)|(go_simp;rfl));intro gb394 hg w18 hbox hb;have BK394:=Aside0.mk hbox;have GW394:Aside0 (w.heap.size≤gb394):=⟨qH⟩;have GE394:=GW394;replace HB:=Aside0.mk (below_step qB hb);clear hb hbox hg;obtain ⟨hcz19_0,hcz19_1,hcz19_2,hfz19_0,hfz19_1,hfz19_2⟩:=cf3 BK394.out)|((with_reducible refine gate_callee (f:=54) rfl ?_);refine goesL_ (some 5) rfl rfl Tryz.func54 qK rfl #[.string a0_1] rfl qG ?_;(with_reducible refine (ebbtideref02_Name.calls k a0_1 false _ A2.out).mono ?_);rintro e w' ⟨rfl,⟨nd,rfl⟩⟩;refine ⟨_,rfl,?_⟩))
  go_ret
  exact ⟨qE,qC⟩
 subst c3
 have H1:(if a0_0=1 then (ebbtideref05_may.j0 k a0_0 (a0_0 ==1) a0_0 a0_1 a0_2) else (ebbtideref05_may.j0 k a0_0 (a0_0 ==2) a0_0 a0_1 a0_2))=some r:=by rw [if_pos rfl] at H;exact H
 clear H
 have H:=H1
 clear H1
 have HC4:=Aside0.mk H
 clear H
 go_enter Tryz.func111,Tryz.ntmps111
 go_upto_if 9 with (first|((with_reducible refine gate_dst (N:=1) rfl ?_);refine box_event ?hg (N:=1) ?hd (cs:=#[.int .i64 a0_0, .string a0_1, .string a0_2]) (t:=127) ?hr ?_;(case hd=>rfl);(case hg=>rfl);(case hr=>first|(go_simp;done)|(go_simp;rfl));intro gb394 hg w5 hbox hb;have BK394:=Aside0.mk hbox;have GW394:Aside0 (w.heap.size≤gb394):=⟨qH⟩;have GE394:=GW394;replace HB:=Aside0.mk (below_step qB hb);clear hb hbox hg;obtain ⟨hcz6_0,hcz6_1,hcz6_2,hfz6_0,hfz6_1,hfz6_2⟩:=cf3 BK394.out)|((with_reducible refine gate_callee (f:=54) rfl ?_);refine goesL_ (some 5) rfl rfl Tryz.func54 qK rfl #[.string a0_1] rfl qG ?_;(with_reducible refine (ebbtideref02_Name.calls k a0_1 true _ A2.out).mono ?_);rintro e w' ⟨rfl,⟨nd,rfl⟩⟩;refine ⟨_,rfl,?_⟩))
 (try simp only [Act.put,List.setIfInBounds_toArray,List.set_cons_zero,List.set_cons_succ])
 go_cut [9] (fun v9 wc=>∃ (kq:Nat) (x9_3:Bool),v9 = .bool x9_3∧Aside0 (ebbtideref05_may.j0 kq a0_0 x9_3 a0_0 a0_1 a0_2=some r)∧Aside0 (kq≤k)∧Aside0 (wc.heap[gb394]?=some (.cells #[.int .i64 a0_0, .string a0_1, .string a0_2] 127 (0,0)))∧Aside0 (Below w.heap.size w wc))
 case first =>
  have H:=HC4.out
  clear HC4
  by_cases c7:a0_0=1
  rotate_left
  ·rw [if_neg c7] at H
   have c7b0:(a0_0 ==1)=false:=beq_eq_false_iff_ne.mpr c7
   have c7b1:(a0_0 != 1)=true:=bne_iff_ne.mpr c7
   (first|rw [c7b0]|(simp only [i64_w,i32_w];rw [c7b0])|rw [c7b1]|skip)
   have H':=Aside0.mk H
   clear H
   go_wp2
   go_meet
   case rel=>exact ⟨_,((a0_0 ==2)),qS,H',⟨by first|omega|exact Nat.le_refl _⟩,⟨qW BK394⟩,⟨qC⟩⟩
  rw [if_pos c7] at H
  have c7b0:(a0_0 ==1)=true:=beq_iff_eq.mpr c7
  have c7b1:(a0_0 != 1)=false:=bne_eq_false_iff_eq.mpr c7
  clear c7
  (first|rw [c7b0]|(simp only [i64_w,i32_w];rw [c7b0])|rw [c7b1]|skip)
  have H':=Aside0.mk H
  clear H
  go_wp2
  go_meet
  case rel=>exact ⟨_,((a0_0 ==1)),qS,H',⟨by first|omega|exact Nat.le_refl _⟩,⟨qW BK394⟩,⟨qC⟩⟩
 case rest =>
  clear HC4
  try clear c3;try clear hcz6_0;try clear hcz6_1;try clear hcz6_2;try clear hfz6_0;try clear hfz6_1;try clear hfz6_2
  obtain ⟨kq,x9_3,rfl,HA,HJ3,BK394,HB⟩:=hcut
  cases kq with
  | zero=>exact absurd HA.out (by simp [ebbtideref05_may.j0])
  | succ kj3 =>
   have H:=HA.out
   clear HA
   simp only [ebbtideref05_may.j0] at H
   by_cases c8:x9_3=true
   ·subst c8
    have H1:((ebbtideref02_Value.f kj3 a0_2).bind fun t396=>(some t396))=some r:=by rw [if_pos rfl] at H;exact H
    clear H
    have H:=H1
    clear H1
    replace H:=Option.bind_eq_some_iff.mp H
    obtain ⟨t396,A90,H⟩:=H
    replace H:(some t396)=some r:=H
    have A9:=Aside0.mk A90
    clear A90
    obtain rfl:=Option.some.inj H
    obtain ⟨hcz10_0,hcz10_1,hcz10_2,hfz10_0,hfz10_1,hfz10_2⟩:=cf3 BK394.out
    go_wp2_with (first|((with_reducible refine gate_callee (f:=142) rfl ?_);refine goesL_ (some 14) rfl rfl Tryz.func142 qK rfl #[.string a0_2] rfl qG ?_;(with_reducible refine (ebbtideref02_Value.calls kj3 a0_2 t396 _ A9.out).mono ?_);rintro e w' ⟨rfl,⟨nd,rfl⟩⟩;refine ⟨_,rfl,?_⟩))
    go_ret
    exact ⟨qE,qC⟩
   replace c8:=Bool.eq_false_iff.mpr c8
   subst c8
   have H1:(if a0_0=3 then (if a0_2.toList=([]:List UInt8) then (some true) else ((ebbtideref02_Value.f kj3 a0_2).bind fun t397=>(some t397))) else (if a0_0=4 then (some (a0_2.toList ==([]:List UInt8))) else (some false)))=some r:=by rw [if_neg (show ¬ (false=true) by decide)] at H;exact H
   clear H
   have H:=H1
   clear H1
   by_cases c11:a0_0=3
   rotate_left
   ·rw [if_neg c11] at H
    have c11b0:(a0_0 ==3)=false:=beq_eq_false_iff_ne.mpr c11
    have c11b1:(a0_0 != 3)=true:=bne_iff_ne.mpr c11
    by_cases c16:a0_0=4
    rotate_left
    ·rw [if_neg c16] at H
     have c16b0:(a0_0 ==4)=false:=beq_eq_false_iff_ne.mpr c16
     have c16b1:(a0_0 != 4)=true:=bne_iff_ne.mpr c16
     obtain rfl:=Option.some.inj H
     go_wp2
     go_ret
     exact ⟨qE,qC⟩
    rw [if_pos c16] at H
    have c16b0:(a0_0 ==4)=true:=beq_iff_eq.mpr c16
    have c16b1:(a0_0 != 4)=false:=bne_eq_false_iff_eq.mpr c16
    clear c16
    obtain rfl:=Option.some.inj H
    obtain ⟨hcz17_0,hcz17_1,hcz17_2,hfz17_0,hfz17_1,hfz17_2⟩:=cf3 BK394.out
    go_wp2
    go_ret
    exact ⟨qE,qC⟩
   rw [if_pos c11] at H
   have c11b0:(a0_0 ==3)=true:=beq_iff_eq.mpr c11
   have c11b1:(a0_0 != 3)=false:=bne_eq_false_iff_eq.mpr c11
   clear c11
   by_cases c12:a0_2.toList=([]:List UInt8)
   ·rw [if_pos c12] at H
    have c12b0:(a0_2.toList ==([]:List UInt8))=true:=beq_iff_eq.mpr c12
    have c12b1:(a0_2.toList != ([]:List UInt8))=false:=bne_eq_false_iff_eq.mpr c12
    clear c12
    obtain rfl:=Option.some.inj H
    obtain ⟨hcz13_0,hcz13_1,hcz13_2,hfz13_0,hfz13_1,hfz13_2⟩:=cf3 BK394.out
    go_wp2
    go_ret
    exact ⟨qE,qC⟩
   rw [if_neg c12] at H
   have c12b0:(a0_2.toList ==([]:List UInt8))=false:=beq_eq_false_iff_ne.mpr c12
   have c12b1:(a0_2.toList != ([]:List UInt8))=true:=bne_iff_ne.mpr c12
   replace H:=Option.bind_eq_some_iff.mp H
   obtain ⟨t397,A140,H⟩:=H
   replace H:(some t397)=some r:=H
   have A14:=Aside0.mk A140
   clear A140
   obtain rfl:=Option.some.inj H
   obtain ⟨hcz15_0,hcz15_1,hcz15_2,hfz15_0,hfz15_1,hfz15_2⟩:=cf3 BK394.out
   go_wp2_with (first|(go_at_call 142;(with_reducible refine (ebbtideref02_Value.calls kj3 a0_2 t397 _ A14.out).mono ?_);rintro e w' ⟨rfl,⟨nd,rfl⟩⟩))
   go_ret
   exact ⟨qE,qC⟩
end Go.Proofs.YteaadaaghhojfaaGreatDoor.PQu
