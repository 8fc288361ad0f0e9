import Derived.Test.YteaadaaghhojfaaGreatDoorZQbPQux0
import Derived.Test.YteaadaaghhojfaaGreatDoorZQbPQux2
namespace Go.Proofs.YteaadaaghhojfaaGreatDoor.PQu
open Go.RowKit Go.Proofs.YteaadaaghhojfaaGreatDoorW.PrintWords Go.Proofs.YteaadaaghhojfaaGreatDoorW.PrintLast Go.Proofs.YteaadaaghhojfaaGreatDoorW.PrintMore
attribute [local go_sem] max2_int min2_int max_two min_two max_three min_three max_four min_four
set_option linter.unusedVariables false
set_option linter.unusedSimpArgs false
set_option maxHeartbeats 8000000
set_option maxRecDepth 100000
def pick_match_may.j0:Nat→Int→Bool→Int→ByteArray→ByteArray→Option (Bool)
 | 0,_,_,_,_,_=>none
 | k+1,x10,x11,x129000,x129001,x129002=>if x11=true then ((word_Value.f x129002).bind fun t130=>(some t130)) else (if x10=3 then (if x129002.toList=([]:List UInt8) then (some true) else ((word_Value.f x129002).bind fun t131=>(some t131))) else (if x129000=4 then (some (x129002.toList ==([]:List UInt8))) else (some false)))
def pick_match_may.f (k:Nat) (a0_0:Int) (a0_1:ByteArray) (a0_2:ByteArray):Option (Bool):=(word_Name.f a0_1).bind fun t129=>(if t129=true then (if a0_0=1 then (pick_match_may.j0 k a0_0 (a0_0 ==1) a0_0 a0_1 a0_2) else (pick_match_may.j0 k a0_0 (a0_0 ==2) a0_0 a0_1 a0_2)) else (some false))
theorem pick_match_may.mono_l:∀ k,(∀ y0 y1 y2 y3 y4,LeO (pick_match_may.j0 k y0 y1 y2 y3 y4) (pick_match_may.j0 (k+1) y0 y1 y2 y3 y4))
 | 0=>fun _ _ _ _ _ r h=>by simp [pick_match_may.j0] at h
 | k+1=>by
  have ih0:=pick_match_may.mono_l k
  ·intro y0 y1 y2 y3 y4
   unfold pick_match_may.j0
   repeat' first
   | (with_reducible exact ih0 _ _ _ _ _)
   | (with_reducible exact LeO.refl _)
   | (with_reducible exact LeO.none _)
   | (with_reducible refine LeO.ite ?_ ?_)
   | (with_reducible refine LeO.bind ?_ (fun _=>?_))
   | exact ih0 _ _ _ _ _
   | exact LeO.none _
   | refine LeO.ite ?_ ?_
   | refine LeO.bind ?_ (fun _=>?_)
theorem pick_match_may.mono:∀ a0 a1 a2 k,LeO (pick_match_may.f k a0 a1 a2) (pick_match_may.f (k+1) a0 a1 a2):=by
 intro a0 a1 a2 k
 have ih0:=pick_match_may.mono_l k
 unfold pick_match_may.f
 repeat' first
   | (with_reducible exact ih0 _ _ _ _ _)
   | (with_reducible exact LeO.refl _)
   | (with_reducible exact LeO.none _)
   | (with_reducible refine LeO.ite ?_ ?_)
   | (with_reducible refine LeO.bind ?_ (fun _=>?_))
   | exact ih0 _ _ _ _ _
   | exact LeO.none _
   | refine LeO.ite ?_ ?_
   | refine LeO.bind ?_ (fun _=>?_)
theorem pick_match_may.calls (k:Nat) (a0_0:Int) (a0_1:ByteArray) (a0_2:ByteArray) (r:Bool) (w:World) (h:pick_match_may.f k a0_0 a0_1 a0_2=some r) :
  Calls Tryz.prog 103 #[.agg #[.int .i64 a0_0, .string a0_1, .string a0_2]] w fun e w'=>e = .returned (.bool r)∧Below w.heap.size w w':=by
 have hu132:=Tryz.underlying132
 have HB:=Aside0.mk (Below.refl w.heap.size w)
 have H:((word_Name.f a0_1).bind fun t129=>(if t129=true then (if a0_0=1 then (pick_match_may.j0 k a0_0 (a0_0 ==1) a0_0 a0_1 a0_2) else (pick_match_may.j0 k a0_0 (a0_0 ==2) a0_0 a0_1 a0_2)) else (some false)))=some r:=h
 clear h
 replace H:=Option.bind_eq_some_iff.mp H
 obtain ⟨t129,A20,H⟩:=H
 replace H:(if t129=true then (if a0_0=1 then (pick_match_may.j0 k a0_0 (a0_0 ==1) a0_0 a0_1 a0_2) else (pick_match_may.j0 k a0_0 (a0_0 ==2) a0_0 a0_1 a0_2)) else (some false))=some r:=H
 have A2:=Aside0.mk A20
 clear A20
 by_cases c3:t129=true
 rotate_left
 ·replace c3:=Bool.eq_false_iff.mpr c3
  subst c3
  have H1:(some false)=some r:=by rw [if_neg (show ¬ (false=true) by decide)] at H;exact H
  clear H
  have H:=H1
  clear H1
  obtain rfl:=Option.some.inj H
  go_enter Tryz.func103,Tryz.ntmps103
  go_wp2_with (first|((with_reducible refine gate_dst (N:=1) rfl ?_);refine box_event ?hg (N:=1) ?hd (cs:=#[.int .i64 a0_0, .string a0_1, .string a0_2]) (t:=132) ?hr ?_;(case hd=>rfl);(case hg=>rfl);(case hr=>first|(go_simp;done)|(go_simp;rfl));intro gb128 hg w23 hbox hb;have BK128:=Aside0.mk hbox;have GW128:Aside0 (w.heap.size≤gb128):=⟨qH⟩;have GE128:=GW128;replace HB:=Aside0.mk (below_step qB hb);clear hb hbox hg;obtain ⟨hcz24_0,hcz24_1,hcz24_2,hfz24_0,hfz24_1,hfz24_2⟩:=cf3 BK128.out)|((with_reducible refine gate_callee (f:=51) rfl ?_);refine goesL_ (some 6) rfl rfl Tryz.func51 qK rfl #[.string a0_1] rfl qG ?_;(with_reducible refine (word_Name.calls a0_1 false _ A2.out).mono ?_);rintro e w25 ⟨rfl,hb⟩;refine ⟨_,rfl,?_⟩;replace BK128:=Aside0.mk (blk_below (g:=gb128) (o := .cells #[.int .i64 a0_0, .string a0_1, .string a0_2] 132 (0,0)) (qW BK128) hb);replace HB:=Aside0.mk (below_step qC hb);clear hb))
  go_ret
  exact ⟨qE,qC⟩
 subst c3
 have H1:(if a0_0=1 then (pick_match_may.j0 k a0_0 (a0_0 ==1) a0_0 a0_1 a0_2) else (pick_match_may.j0 k a0_0 (a0_0 ==2) a0_0 a0_1 a0_2))=some r:=by rw [if_pos rfl] at H;exact H
 clear H
 have H:=H1
 clear H1
 have HC4:=Aside0.mk H
 clear H
 go_enter Tryz.func103,Tryz.ntmps103
 go_upto_if 11 with (first|((with_reducible refine gate_dst (N:=1) rfl ?_);refine box_event ?hg (N:=1) ?hd (cs:=#[.int .i64 a0_0, .string a0_1, .string a0_2]) (t:=132) ?hr ?_;(case hd=>rfl);(case hg=>rfl);(case hr=>first|(go_simp;done)|(go_simp;rfl));intro gb128 hg w5 hbox hb;have BK128:=Aside0.mk hbox;have GW128:Aside0 (w.heap.size≤gb128):=⟨qH⟩;have GE128:=GW128;replace HB:=Aside0.mk (below_step qB hb);clear hb hbox hg;obtain ⟨hcz6_0,hcz6_1,hcz6_2,hfz6_0,hfz6_1,hfz6_2⟩:=cf3 BK128.out)|((with_reducible refine gate_callee (f:=51) rfl ?_);refine goesL_ (some 6) rfl rfl Tryz.func51 qK rfl #[.string a0_1] rfl qG ?_;(with_reducible refine (word_Name.calls a0_1 true _ A2.out).mono ?_);rintro e w7 ⟨rfl,hb⟩;refine ⟨_,rfl,?_⟩;replace BK128:=Aside0.mk (blk_below (g:=gb128) (o := .cells #[.int .i64 a0_0, .string a0_1, .string a0_2] 132 (0,0)) (qW BK128) hb);replace HB:=Aside0.mk (below_step qC hb);clear hb;obtain ⟨hcz8_0,hcz8_1,hcz8_2,hfz8_0,hfz8_1,hfz8_2⟩:=cf3 BK128.out))
 (try simp only [Act.put,List.setIfInBounds_toArray,List.set_cons_zero,List.set_cons_succ])
 go_cut [11] (fun v11 wc=>∃ (kq:Nat) (x11_3:Bool),v11 = .bool x11_3∧Aside0 (pick_match_may.j0 kq a0_0 x11_3 a0_0 a0_1 a0_2=some r)∧Aside0 (kq≤k)∧Aside0 (wc.heap[gb128]?=some (.cells #[.int .i64 a0_0, .string a0_1, .string a0_2] 132 (0,0)))∧Aside0 (Below w.heap.size w wc))
 case first =>
  have H:=HC4.out
  clear HC4
  by_cases c9:a0_0=1
  rotate_left
  ·rw [if_neg c9] at H
   have c9b0:(a0_0 ==1)=false:=beq_eq_false_iff_ne.mpr c9
   have c9b1:(a0_0 != 1)=true:=bne_iff_ne.mpr c9
   (first|rw [c9b0]|(simp only [i64_w,i32_w];rw [c9b0])|rw [c9b1]|skip)
   have H':=Aside0.mk H
   clear H
   go_wp2
   go_meet
   case rel=>exact ⟨_,((a0_0 ==2)),qS,H',⟨by first|omega|exact Nat.le_refl _⟩,⟨qW BK128⟩,⟨qC⟩⟩
  rw [if_pos c9] at H
  have c9b0:(a0_0 ==1)=true:=beq_iff_eq.mpr c9
  have c9b1:(a0_0 != 1)=false:=bne_eq_false_iff_eq.mpr c9
  clear c9
  (first|rw [c9b0]|(simp only [i64_w,i32_w];rw [c9b0])|rw [c9b1]|skip)
  have H':=Aside0.mk H
  clear H
  go_wp2
  go_meet
  case rel=>exact ⟨_,((a0_0 ==1)),qS,H',⟨by first|omega|exact Nat.le_refl _⟩,⟨qW BK128⟩,⟨qC⟩⟩
 case rest =>
  clear HC4
  try clear c3;try clear hcz6_0;try clear hcz6_1;try clear hcz6_2;try clear hcz8_0;try clear hcz8_1;try clear hcz8_2;try clear hfz6_0;try clear hfz6_1;try clear hfz6_2;try clear hfz8_0;try clear hfz8_1;try clear hfz8_2
  obtain ⟨kq,x11_3,rfl,HA,HJ3,BK128,HB⟩:=hcut
  cases kq with
  | zero=>exact absurd HA.out (by simp [pick_match_may.j0])
  | succ kj3 =>
   have H:=HA.out
   clear HA
   simp only [pick_match_may.j0] at H
   by_cases c10:x11_3=true
   ·subst c10
    have H1:((word_Value.f a0_2).bind fun t130=>(some t130))=some r:=by rw [if_pos rfl] at H;exact H
    clear H
    have H:=H1
    clear H1
    replace H:=Option.bind_eq_some_iff.mp H
    obtain ⟨t130,A110,H⟩:=H
    replace H:(some t130)=some r:=H
    have A11:=Aside0.mk A110
    clear A110
    obtain rfl:=Option.some.inj H
    obtain ⟨hcz12_0,hcz12_1,hcz12_2,hfz12_0,hfz12_1,hfz12_2⟩:=cf3 BK128.out
    go_wp2_with (first|((with_reducible refine gate_callee (f:=137) rfl ?_);refine goesL_ (some 17) rfl rfl Tryz.func137 qK rfl #[.string a0_2] rfl qG ?_;(with_reducible refine (word_Value.calls a0_2 t130 _ A11.out).mono ?_);rintro e w13 ⟨rfl,hb⟩;refine ⟨_,rfl,?_⟩;replace BK128:=Aside0.mk (blk_below (g:=gb128) (o := .cells #[.int .i64 a0_0, .string a0_1, .string a0_2] 132 (0,0)) (qW BK128) hb);replace HB:=Aside0.mk (below_step qC hb);clear hb))
    go_ret
    exact ⟨qE,qC⟩
   replace c10:=Bool.eq_false_iff.mpr c10
   subst c10
   have H1:(if a0_0=3 then (if a0_2.toList=([]:List UInt8) then (some true) else ((word_Value.f a0_2).bind fun t131=>(some t131))) else (if a0_0=4 then (some (a0_2.toList ==([]:List UInt8))) else (some false)))=some r:=by rw [if_neg (show ¬ (false=true) by decide)] at H;exact H
   clear H
   have H:=H1
   clear H1
   by_cases c14:a0_0=3
   rotate_left
   ·rw [if_neg c14] at H
    have c14b0:(a0_0 ==3)=false:=beq_eq_false_iff_ne.mpr c14
    have c14b1:(a0_0 != 3)=true:=bne_iff_ne.mpr c14
    by_cases c20:a0_0=4
    rotate_left
    ·rw [if_neg c20] at H
     have c20b0:(a0_0 ==4)=false:=beq_eq_false_iff_ne.mpr c20
     have c20b1:(a0_0 != 4)=true:=bne_iff_ne.mpr c20
     obtain rfl:=Option.some.inj H
     obtain ⟨hcz22_0,hcz22_1,hcz22_2,hfz22_0,hfz22_1,hfz22_2⟩:=cf3 BK128.out
     go_wp2
     go_ret
     exact ⟨qE,qC⟩
    rw [if_pos c20] at H
    have c20b0:(a0_0 ==4)=true:=beq_iff_eq.mpr c20
    have c20b1:(a0_0 != 4)=false:=bne_eq_false_iff_eq.mpr c20
    clear c20
    obtain rfl:=Option.some.inj H
    obtain ⟨hcz21_0,hcz21_1,hcz21_2,hfz21_0,hfz21_1,hfz21_2⟩:=cf3 BK128.out
    go_wp2
    go_ret
    exact ⟨qE,qC⟩
   rw [if_pos c14] at H
   have c14b0:(a0_0 ==3)=true:=beq_iff_eq.mpr c14
   have c14b1:(a0_0 != 3)=false:=bne_eq_false_iff_eq.mpr c14
   clear c14
   by_cases c15:a0_2.toList=([]:List UInt8)
   ·rw [if_pos c15] at H
    have c15b0:(a0_2.toList ==([]:List UInt8))=true:=beq_iff_eq.mpr c15
    have c15b1:(a0_2.toList != ([]:List UInt8))=false:=bne_eq_false_iff_eq.mpr c15
    clear c15
    obtain rfl:=Option.some.inj H
    obtain ⟨hcz16_0,hcz16_1,hcz16_2,hfz16_0,hfz16_1,hfz16_2⟩:=cf3 BK128.out
    go_wp2
    go_ret
    exact ⟨qE,qC⟩
   rw [if_neg c15] at H
   have c15b0:(a0_2.toList ==([]:List UInt8))=false:=beq_eq_false_iff_ne.mpr c15
   have c15b1:(a0_2.toList != ([]:List UInt8))=true:=bne_iff_ne.mpr c15
   replace H:=Option.bind_eq_some_iff.mp H
   obtain ⟨t131,A170,H⟩:=H
   replace H:(some t131)=some r:=H
   have A17:=Aside0.mk A170
   clear A170
   obtain rfl:=Option.some.inj H
   obtain ⟨hcz18_0,hcz18_1,hcz18_2,hfz18_0,hfz18_1,hfz18_2⟩:=cf3 BK128.out
   go_wp2_with (first|(go_at_call 137;(with_reducible refine (word_Value.calls a0_2 t131 _ A17.out).mono ?_);rintro e w19 ⟨rfl,hb⟩;replace BK128:=Aside0.mk (blk_below (g:=gb128) (o := .cells #[.int .i64 a0_0, .string a0_1, .string a0_2] 132 (0,0)) (qW BK128) hb);replace HB:=Aside0.mk (below_step qC hb);clear hb))
   go_ret
   exact ⟨qE,qC⟩
def pick_Parse.l0:Nat→List (S127)→List ByteArray→Int→Int→Option ((List (S127))×Int)
 | 0,_,_,_,_=>none
 | k+1,x2,x10,x11,x12=>if x12<x11 then (if 0≤x12 then (if x12<(x10.length:Int) then ((pick_read.f (rdOf ByteArray.empty x10 x12)).bind fun bt136=>((pick_match_may.f k bt136.1 bt136.2.1 bt136.2.2).bind fun t140=>(if t140=true then (if x2.length<3518437208883 then (pick_Parse.l0 k (x2++[(⟨bt136.1,bt136.2.1,bt136.2.2⟩:S127)]) x10 x11 (wrap64 (x12+1))) else (none)) else (some (([]:List (S127)),2))))) else (none)) else (none)) else (if (x2.length:Int)>4 then (some (([]:List (S127)),4)) else (some (x2,0)))
def pick_Parse.f (k:Nat) (a0:ByteArray):Option ((List (S127))×Int):=if a0.toList=([]:List UInt8) then (some (([]:List (S127)),0)) else ((word_Split.f k a0 44).bind fun t132=>(pick_Parse.l0 k ([]:List (S127)) t132 (t132.length:Int) 0))
theorem pick_Parse.mono_l:∀ k,(∀ y0 y1 y2 y3,LeO (pick_Parse.l0 k y0 y1 y2 y3) (pick_Parse.l0 (k+1) y0 y1 y2 y3))
 | 0=>fun _ _ _ _ r h=>by simp [pick_Parse.l0] at h
 | k+1=>by
  have ih0:=pick_Parse.mono_l k
  ·intro y0 y1 y2 y3
   unfold pick_Parse.l0
   repeat' first
   | (with_reducible exact ih0 _ _ _ _)
   | (with_reducible exact pick_match_may.mono _ _ _ _)
   | (with_reducible exact word_Split.mono _ _ _)
   | (with_reducible exact LeO.refl _)
   | (with_reducible exact LeO.none _)
   | (with_reducible refine LeO.ite ?_ ?_)
   | (with_reducible refine LeO.bind ?_ (fun _=>?_))
   | exact ih0 _ _ _ _
   | exact pick_match_may.mono _ _ _ _
   | exact word_Split.mono _ _ _
   | exact LeO.none _
   | refine LeO.ite ?_ ?_
   | refine LeO.bind ?_ (fun _=>?_)
theorem pick_Parse.mono:∀ a0 k,LeO (pick_Parse.f k a0) (pick_Parse.f (k+1) a0):=by
 intro a0 k
 have ih0:=pick_Parse.mono_l k
 unfold pick_Parse.f
 repeat' first
   | (with_reducible exact ih0 _ _ _ _)
   | (with_reducible exact pick_match_may.mono _ _ _ _)
   | (with_reducible exact word_Split.mono _ _ _)
   | (with_reducible exact LeO.refl _)
   | (with_reducible exact LeO.none _)
   | (with_reducible refine LeO.ite ?_ ?_)
   | (with_reducible refine LeO.bind ?_ (fun _=>?_))
   | exact ih0 _ _ _ _
   | exact pick_match_may.mono _ _ _ _
   | exact word_Split.mono _ _ _
   | exact LeO.none _
   | refine LeO.ite ?_ ?_
   | refine LeO.bind ?_ (fun _=>?_)
theorem pick_Parse.calls (k:Nat) (a0:ByteArray) (r1:List (S127)) (r2:Int) (w:World) (hG:GInt w) (h:pick_Parse.f k a0=some (r1,r2)) :
  Calls Tryz.prog 148 #[.string a0] w fun e w'=>∃ v0_:Value,e = .returned (.tuple #[v0_, .int .i64 r2])∧Kd.R k127 127 w' w.heap.size (fun _=>True) v0_ r1∧Below w.heap.size w w':=by
 have HG:=Aside0.mk hG
 clear hG
 have hu132:=Tryz.underlying132
 have hu127:=Tryz.underlying127
 have HB:=Aside0.mk (Below.refl w.heap.size w)
 have H:(if a0.toList=([]:List UInt8) then (some (([]:List (S127)),0)) else ((word_Split.f k a0 44).bind fun t132=>(pick_Parse.l0 k ([]:List (S127)) t132 (t132.length:Int) 0)))=some (r1,r2):=h
 clear h
 by_cases c2:a0.toList=([]:List UInt8)
 ·rw [if_pos c2] at H
  have c2b0:(a0.toList ==([]:List UInt8))=true:=beq_iff_eq.mpr c2
  have c2b1:(a0.toList != ([]:List UInt8))=false:=bne_eq_false_iff_eq.mpr c2
  clear c2
  simp only [Option.some.injEq,Prod.mk.injEq] at H
  obtain ⟨rfl,rfl⟩:=H
  go_enter Tryz.func148,Tryz.ntmps148
  go_wp2
  go_ret2
  exact ⟨_,qE,qN,qB⟩
 rw [if_neg c2] at H
 have c2b0:(a0.toList ==([]:List UInt8))=false:=beq_eq_false_iff_ne.mpr c2
 have c2b1:(a0.toList != ([]:List UInt8))=true:=bne_iff_ne.mpr c2
 replace H:=Option.bind_eq_some_iff.mp H
 obtain ⟨t132,A30,H⟩:=H
 replace H:(pick_Parse.l0 k ([]:List (S127)) t132 (t132.length:Int) 0)=some (r1,r2):=H
 have A3:=Aside0.mk A30
 clear A30
 have H':=Aside0.mk H
 clear H
 go_enter Tryz.func148,Tryz.ntmps148
 go_wp2_with (first|((with_reducible refine gate_callee (f:=116) rfl ?_);refine goesL_ (some 10) rfl rfl Tryz.func116 qK rfl #[.string a0, .int .u8 44] rfl qG ?_;(with_reducible refine (word_Split.calls k a0 44 t132 _ A3.out).mono ?_);rintro e w4 ⟨v133,rfl,ho0,hb⟩;refine ⟨_,rfl,?_⟩;have HO134:=Aside0.mk (Kd.R_lower ho0 (below_size qB));replace HB:=Aside0.mk (below_step qB hb);clear hb ho0;obtain ⟨Ao5,co5,eo5⟩:=Kd.R_slice HO134.out;subst eo5))
 go_loopg [2,12] k (fun kq v2 v12 w'=>∃ (x2_1:List (S127)) (x12_1:Int),v12 = .int .i64 x12_1∧Aside0 (pick_Parse.l0 kq x2_1 t132 (t132.length:Int) x12_1=some (r1,r2))∧Aside0 (kq≤k)∧Aside0 (Kd.R k127 127 w' w.heap.size (fun _=>True) v2 x2_1)∧Aside0 (Kd.R Kd.string 9 w' w.heap.size (fun _=>True) (.slice Ao5 t132.length co5) t132)∧Aside0 (Below w.heap.size w w'))
 case atStart=>exact ⟨(([]:List (S127))),(0),qS,H',⟨Nat.le_refl _⟩,⟨qN⟩,⟨qR HO134⟩,⟨qB⟩⟩
 case round =>
  clear H'
  try clear c2;try clear c2b0;try clear c2b1
  obtain ⟨x2_1,x12_1,rfl,HA,HK1,HO_2,HO_10,HB⟩:=hrel
  cases gk with
  | zero=>exact absurd HA.out (by simp [pick_Parse.l0])
  | succ k1 =>
   have H:=HA.out
   clear HA
   simp only [pick_Parse.l0] at H
   by_cases c6:x12_1<(t132.length:Int)
   rotate_left
   ·rw [if_neg c6] at H
    have c6b0:decide (x12_1<(t132.length:Int))=false:=decide_eq_false c6
    clear c6
    by_cases c23:(x2_1.length:Int)>4
    ·rw [if_pos c23] at H
     have c23b0:decide (4<(x2_1.length:Int))=true:=decide_eq_true c23
     have c23b1:decide (4<x2_1.length)=true:=decide_eq_true (by omega)
     clear c23
     simp only [Option.some.injEq,Prod.mk.injEq] at H
     obtain ⟨rfl,rfl⟩:=H
     obtain ⟨Ao24,co24,eo24⟩:=Kd.R_slice HO_2.out
     subst eo24
     go_wp2
     go_ret2
     exact ⟨_,qE,qN,qB⟩
    rw [if_neg c23] at H
    have c23b0:decide (4<(x2_1.length:Int))=false:=decide_eq_false c23
    have c23b1:decide (4<x2_1.length)=false:=decide_eq_false (by omega)
    clear c23
    simp only [Option.some.injEq,Prod.mk.injEq] at H
    obtain ⟨rfl,rfl⟩:=H
    obtain ⟨Ao25,co25,eo25⟩:=Kd.R_slice HO_2.out
    subst eo25
    go_wp2
    go_ret2
    exact ⟨_,qE,qR HO_2,qB⟩
   rw [if_pos c6] at H
   have c6b0:decide (x12_1<(t132.length:Int))=true:=decide_eq_true c6
   clear c6
   by_cases c7:0≤x12_1
   rotate_left
   ·rw [if_neg c7] at H
    exact absurd H (by simp)
   rw [if_pos c7] at H
   have c7b0:decide (0≤x12_1)=true:=decide_eq_true c7
   clear c7
   by_cases c8:x12_1<(t132.length:Int)
   rotate_left
   ·rw [if_neg c8] at H
    exact absurd H (by simp)
   rw [if_pos c8] at H
   have c8b0:decide (x12_1<(t132.length:Int))=true:=decide_eq_true c8
   clear c8
   replace H:=Option.bind_eq_some_iff.mp H
   obtain ⟨⟨t136,t137,t138⟩,A90,H⟩:=H
   replace H:((pick_match_may.f k1 t136 t137 t138).bind fun t140=>(if t140=true then (if x2_1.length<3518437208883 then (pick_Parse.l0 k1 (x2_1++[(⟨t136,t137,t138⟩:S127)]) t132 (t132.length:Int) (wrap64 (x12_1+1))) else (none)) else (some (([]:List (S127)),2))))=some (r1,r2):=H
   have A9:=Aside0.mk A90
   clear A90
   replace H:=Option.bind_eq_some_iff.mp H
   obtain ⟨t140,A100,H⟩:=H
   replace H:(if t140=true then (if x2_1.length<3518437208883 then (pick_Parse.l0 k1 (x2_1++[(⟨t136,t137,t138⟩:S127)]) t132 (t132.length:Int) (wrap64 (x12_1+1))) else (none)) else (some (([]:List (S127)),2)))=some (r1,r2):=H
   have A10:=Aside0.mk A100
   clear A100
   by_cases c11:t140=true
   rotate_left
   ·replace c11:=Bool.eq_false_iff.mpr c11
    subst c11
    have H1:(some (([]:List (S127)),2))=some (r1,r2):=by rw [if_neg (show ¬ (false=true) by decide)] at H;exact H
    clear H
    have H:=H1
    clear H1
    simp only [Option.some.injEq,Prod.mk.injEq] at H
    obtain ⟨rfl,rfl⟩:=H
    have p135:0≤(x12_1:Int):=of_decide_eq_true qA
    have q135:x12_1<(t132.length:Int):=of_decide_eq_true qA
    obtain ⟨ad135,e135,hx135_0⟩:=Kd.at_string (Kd.R_reads' HO_10.out).2.2 x12_1 p135 q135
    cases e135
    replace p135:=eq_true p135
    replace q135:=eq_true q135
    go_wp2_with (first|((with_reducible refine gate_callee (f:=180) rfl ?_);refine goesL_ (some 17) rfl rfl Tryz.func180 qK rfl #[.string (rdOf ByteArray.empty t132 x12_1)] rfl qG ?_;(with_reducible refine (pick_read.calls (rdOf ByteArray.empty t132 x12_1) t136 t137 t138 _ qM A9.out).mono ?_);rintro e w19 ⟨rfl,hb⟩;refine ⟨_,rfl,?_⟩;replace HO_2:=Aside0.mk (Kd.R_below (qR HO_2) hb);replace HO_10:=Aside0.mk (Kd.R_below (qR HO_10) hb);replace HB:=Aside0.mk (below_step qB hb);clear hb)|((with_reducible refine gate_dst (N:=6) rfl ?_);refine box_event ?hg (N:=6) ?hd (cs:=#[.int .i64 0, .string (⟨#[]⟩:ByteArray), .string (⟨#[]⟩:ByteArray)]) (t:=132) ?hr ?_;(case hd=>rfl);(case hg=>rfl);(case hr=>first|(go_simp;done)|(go_simp;rfl));intro gb139 hg w20 hbox hb;replace HO_2:=Aside0.mk (Kd.R_below (qR HO_2) hb);replace HO_10:=Aside0.mk (Kd.R_below (qR HO_10) hb);have BK139:=Aside0.mk hbox;have GW139:Aside0 (w.heap.size≤gb139):=⟨qH⟩;have GE139:=GW139;replace HB:=Aside0.mk (below_step qB hb);clear hb hbox hg;obtain ⟨hcz21_0,hcz21_1,hcz21_2,hfz21_0,hfz21_1,hfz21_2⟩:=cf3 BK139.out)|((with_reducible refine gate_callee (f:=103) rfl ?_);refine goesL_ (some 20) rfl rfl Tryz.func103 qK rfl #[.agg #[.int .i64 t136, .string t137, .string t138]] rfl qG ?_;(with_reducible refine (pick_match_may.calls k1 t136 t137 t138 false _ A10.out).mono ?_);rintro e w22 ⟨rfl,hb⟩;refine ⟨_,rfl,?_⟩;replace HO_2:=Aside0.mk (Kd.R_below (by (with_reducible repeat (first|apply Kd.R_alloc|apply Kd.R_drewN|apply Kd.R_drew));exact (Kd.R_mono (Kd.R_far (p:=⟨gb139,2,none⟩) (Kd.R_far (p:=⟨gb139,1,none⟩) (Kd.R_far (p:=⟨gb139,0,none⟩) (Kd.R_types HO_2.out BK139.out (by decide)) (fun _ hk=>hk.2) (.int .i64 t136)) (fun _ hk=>hk.2) (.string t137)) (fun _ hk=>hk.2) (.string t138)) (fun _ h_=>h_.1))) hb);replace HO_10:=Aside0.mk (Kd.R_below (by (with_reducible repeat (first|apply Kd.R_alloc|apply Kd.R_drewN|apply Kd.R_drew));exact (Kd.R_mono (Kd.R_far (p:=⟨gb139,2,none⟩) (Kd.R_far (p:=⟨gb139,1,none⟩) (Kd.R_far (p:=⟨gb139,0,none⟩) (Kd.R_types HO_10.out BK139.out (by decide)) (fun _ hk=>hk.2) (.int .i64 t136)) (fun _ hk=>hk.2) (.string t137)) (fun _ hk=>hk.2) (.string t138)) (fun _ h_=>h_.1))) hb);replace BK139:=Aside0.mk (blk_below (g:=gb139) (o := .cells #[.int .i64 t136, .string t137, .string t138] 132 (0,0)) (by (with_reducible repeat (first|refine blk_drewN ?_ _|refine blk_drew ?_|refine blk_alloc ?_ _));refine blk_put (cs:=#[.int .i64 t136, .string t137, .string (⟨#[]⟩:ByteArray)]) ?_ 2 _ rfl;(with_reducible repeat (first|refine blk_drewN ?_ _|refine blk_drew ?_|refine blk_alloc ?_ _));refine blk_put (cs:=#[.int .i64 t136, .string (⟨#[]⟩:ByteArray), .string (⟨#[]⟩:ByteArray)]) ?_ 1 _ rfl;(with_reducible repeat (first|refine blk_drewN ?_ _|refine blk_drew ?_|refine blk_alloc ?_ _));refine blk_put (cs:=#[.int .i64 0, .string (⟨#[]⟩:ByteArray), .string (⟨#[]⟩:ByteArray)]) ?_ 0 _ rfl;(with_reducible repeat (first|refine blk_drewN ?_ _|refine blk_drew ?_|refine blk_alloc ?_ _));exact BK139.out) hb);replace HB:=Aside0.mk (below_step qC hb);clear hb))
    go_ret2
    exact ⟨_,qE,qN,qC⟩
   subst c11
   have H1:(if x2_1.length<3518437208883 then (pick_Parse.l0 k1 (x2_1++[(⟨t136,t137,t138⟩:S127)]) t132 (t132.length:Int) (wrap64 (x12_1+1))) else (none))=some (r1,r2):=by rw [if_pos rfl] at H;exact H
   clear H
   have H:=H1
   clear H1
   by_cases c12:x2_1.length<3518437208883
   rotate_left
   ·rw [if_neg c12] at H
    exact absurd H (by simp)
   rw [if_pos c12] at H
   have LMc12:=Aside0.mk c12
   clear c12
   obtain ⟨y141,hy141⟩:∃ y_:List (S127),y_=(x2_1++[(⟨t136,t137,t138⟩:S127)]):=⟨_,rfl⟩
   replace H:(pick_Parse.l0 k1 y141 t132 (t132.length:Int) (wrap64 (x12_1+1)))=some (r1,r2):=by first|(rw [hy141];with_reducible exact H)|(have H2_:=(Option.bind_some _ _).symm.trans H;rw [hy141];with_reducible exact H2_)|(have H2_:=(Option.bind_some _ _).symm.trans H;with_reducible exact H2_)|with_reducible exact H|(rw [hy141];exact H)|exact H
   have Ny141:=Aside0.mk hy141
   clear hy141
   have H':=Aside0.mk H
   clear H
   have p135:0≤(x12_1:Int):=of_decide_eq_true qA
   have q135:x12_1<(t132.length:Int):=of_decide_eq_true qA
   obtain ⟨ad135,e135,hx135_0⟩:=Kd.at_string (Kd.R_reads' HO_10.out).2.2 x12_1 p135 q135
   cases e135
   replace p135:=eq_true p135
   replace q135:=eq_true q135
   go_wp2_with (first|((with_reducible refine gate_callee (f:=180) rfl ?_);refine goesL_ (some 17) rfl rfl Tryz.func180 qK rfl #[.string (rdOf ByteArray.empty t132 x12_1)] rfl qG ?_;(with_reducible refine (pick_read.calls (rdOf ByteArray.empty t132 x12_1) t136 t137 t138 _ qM A9.out).mono ?_);rintro e w13 ⟨rfl,hb⟩;refine ⟨_,rfl,?_⟩;replace HO_2:=Aside0.mk (Kd.R_below (qR HO_2) hb);replace HO_10:=Aside0.mk (Kd.R_below (qR HO_10) hb);replace HB:=Aside0.mk (below_step qB hb);clear hb)|((with_reducible refine gate_dst (N:=6) rfl ?_);refine box_event ?hg (N:=6) ?hd (cs:=#[.int .i64 0, .string (⟨#[]⟩:ByteArray), .string (⟨#[]⟩:ByteArray)]) (t:=132) ?hr ?_;(case hd=>rfl);(case hg=>rfl);(case hr=>first|(go_simp;done)|(go_simp;rfl));intro gb139 hg w14 hbox hb;replace HO_2:=Aside0.mk (Kd.R_below (qR HO_2) hb);replace HO_10:=Aside0.mk (Kd.R_below (qR HO_10) hb);have BK139:=Aside0.mk hbox;have GW139:Aside0 (w.heap.size≤gb139):=⟨qH⟩;have GE139:=GW139;replace HB:=Aside0.mk (below_step qB hb);clear hb hbox hg;obtain ⟨hcz15_0,hcz15_1,hcz15_2,hfz15_0,hfz15_1,hfz15_2⟩:=cf3 BK139.out)|((with_reducible refine gate_callee (f:=103) rfl ?_);refine goesL_ (some 20) rfl rfl Tryz.func103 qK rfl #[.agg #[.int .i64 t136, .string t137, .string t138]] rfl qG ?_;(with_reducible refine (pick_match_may.calls k1 t136 t137 t138 true _ A10.out).mono ?_);rintro e w16 ⟨rfl,hb⟩;refine ⟨_,rfl,?_⟩;replace HO_2:=Aside0.mk (Kd.R_below (by (with_reducible repeat (first|apply Kd.R_alloc|apply Kd.R_drewN|apply Kd.R_drew));exact (Kd.R_mono (Kd.R_far (p:=⟨gb139,2,none⟩) (Kd.R_far (p:=⟨gb139,1,none⟩) (Kd.R_far (p:=⟨gb139,0,none⟩) (Kd.R_types HO_2.out BK139.out (by decide)) (fun _ hk=>hk.2) (.int .i64 t136)) (fun _ hk=>hk.2) (.string t137)) (fun _ hk=>hk.2) (.string t138)) (fun _ h_=>h_.1))) hb);replace HO_10:=Aside0.mk (Kd.R_below (by (with_reducible repeat (first|apply Kd.R_alloc|apply Kd.R_drewN|apply Kd.R_drew));exact (Kd.R_mono (Kd.R_far (p:=⟨gb139,2,none⟩) (Kd.R_far (p:=⟨gb139,1,none⟩) (Kd.R_far (p:=⟨gb139,0,none⟩) (Kd.R_types HO_10.out BK139.out (by decide)) (fun _ hk=>hk.2) (.int .i64 t136)) (fun _ hk=>hk.2) (.string t137)) (fun _ hk=>hk.2) (.string t138)) (fun _ h_=>h_.1))) hb);replace BK139:=Aside0.mk (blk_below (g:=gb139) (o := .cells #[.int .i64 t136, .string t137, .string t138] 132 (0,0)) (by (with_reducible repeat (first|refine blk_drewN ?_ _|refine blk_drew ?_|refine blk_alloc ?_ _));refine blk_put (cs:=#[.int .i64 t136, .string t137, .string (⟨#[]⟩:ByteArray)]) ?_ 2 _ rfl;(with_reducible repeat (first|refine blk_drewN ?_ _|refine blk_drew ?_|refine blk_alloc ?_ _));refine blk_put (cs:=#[.int .i64 t136, .string (⟨#[]⟩:ByteArray), .string (⟨#[]⟩:ByteArray)]) ?_ 1 _ rfl;(with_reducible repeat (first|refine blk_drewN ?_ _|refine blk_drew ?_|refine blk_alloc ?_ _));refine blk_put (cs:=#[.int .i64 0, .string (⟨#[]⟩:ByteArray), .string (⟨#[]⟩:ByteArray)]) ?_ 0 _ rfl;(with_reducible repeat (first|refine blk_drewN ?_ _|refine blk_drew ?_|refine blk_alloc ?_ _));exact BK139.out) hb);replace HB:=Aside0.mk (below_step qC hb);clear hb;obtain ⟨hcz17_0,hcz17_1,hcz17_2,hfz17_0,hfz17_1,hfz17_2⟩:=cf3 BK139.out)|((with_reducible refine gate_builtin (b := .append) (xs:=#[.tmp 22, .tmp 25]) rfl ?_);at_builtin;refine Kd.R_append k127 (w0:=w) w.heap.size rfl (.tmp 22) (.tmp 25) 22 127 (.agg #[(.int .i64 0),(.string ⟨#[]⟩),(.string ⟨#[]⟩)]) 40 rfl Tryz.underlying22 info127 rfl (by decide) (by omega) u2 x2_1 (⟨t136,t137,t138⟩:S127) [.int .i64 t136, .string t137, .string t138] (fun _=>True) (fun _=>False) rfl rfl ?aP (fun _ hk=>hk.elim) ?aF ?aO ?aB ?aS ?aL ?_;(case aP=>exact k127_mkM _ _ _ (⟨t136,t137,t138⟩:S127));(case aB=>exact qC);(case aF=>exact (fun _ _=>trivial));(case aO=>exact (qR HO_2));(case aS=>exact (below_size qC));(case aL=>have:=LMc12.out;omega);intro v142 w18 ho hb hg hat;rw [← Ny141.out] at ho;replace HO_10:=Aside0.mk (Kd.R_over' (qR HO_10) (Kd.R_typed (qR HO_2)) (by decide) hg);replace BK139:=Aside0.mk (blk_grown (g:=gb139) (o := .cells #[.int .i64 t136, .string t137, .string t138] 132 (0,0)) (qW BK139) hg (Kd.R_ne HO_2.out BK139.out (by decide)));replace HB:=Aside0.mk hb;have HO143:=Aside0.mk ho;clear HO_2;clear ho hb hg hat))
   go_roundg k1
   case measure=>have:=HK1.out;omega
   case rel=>exact ⟨(y141),(wrap64 (x12_1+1)),qS,H',⟨by have:=HK1.out;omega⟩,⟨qR HO143⟩,⟨qR HO_10⟩,⟨qC⟩⟩
def query_agg.f (a0:ByteArray):Option (Int):=if a0.toList=([99,111,117,110,116]:List UInt8) then (some 1) else (if a0.toList=([115,117,109]:List UInt8) then (some 2) else (if a0.toList=([109,105,110]:List UInt8) then (some 3) else (if a0.toList=([109,97,120]:List UInt8) then (some 4) else (some 0))))
theorem query_agg.calls (a0:ByteArray) (r:Int) (w:World) (h:query_agg.f a0=some r) :
  Calls Tryz.prog 98 #[.string a0] w fun e w'=>e = .returned (.int .i64 r)∧Drawn0 w w':=by
 have H:(if a0.toList=([99,111,117,110,116]:List UInt8) then (some 1) else (if a0.toList=([115,117,109]:List UInt8) then (some 2) else (if a0.toList=([109,105,110]:List UInt8) then (some 3) else (if a0.toList=([109,97,120]:List UInt8) then (some 4) else (some 0)))))=some r:=h
 clear h
 by_cases c2:a0.toList=([99,111,117,110,116]:List UInt8)
 ·rw [if_pos c2] at H
  have c2b0:(a0.toList ==([99,111,117,110,116]:List UInt8))=true:=beq_iff_eq.mpr c2
  have c2b1:(a0.toList != ([99,111,117,110,116]:List UInt8))=false:=bne_eq_false_iff_eq.mpr c2
  clear c2
  obtain rfl:=Option.some.inj H
  go_enter Tryz.func98,Tryz.ntmps98
  go_wp2
  go_ret
  exact ⟨qS,qD⟩
 rw [if_neg c2] at H
 have c2b0:(a0.toList ==([99,111,117,110,116]:List UInt8))=false:=beq_eq_false_iff_ne.mpr c2
 have c2b1:(a0.toList != ([99,111,117,110,116]:List UInt8))=true:=bne_iff_ne.mpr c2
 by_cases c3:a0.toList=([115,117,109]:List UInt8)
 ·rw [if_pos c3] at H
  have c3b0:(a0.toList ==([115,117,109]:List UInt8))=true:=beq_iff_eq.mpr c3
  have c3b1:(a0.toList != ([115,117,109]:List UInt8))=false:=bne_eq_false_iff_eq.mpr c3
  clear c3
  obtain rfl:=Option.some.inj H
  go_enter Tryz.func98,Tryz.ntmps98
  go_wp2
  go_ret
  exact ⟨qS,qD⟩
 rw [if_neg c3] at H
 have c3b0:(a0.toList ==([115,117,109]:List UInt8))=false:=beq_eq_false_iff_ne.mpr c3
 have c3b1:(a0.toList != ([115,117,109]:List UInt8))=true:=bne_iff_ne.mpr c3
 by_cases c4:a0.toList=([109,105,110]:List UInt8)
 ·rw [if_pos c4] at H
  have c4b0:(a0.toList ==([109,105,110]:List UInt8))=true:=beq_iff_eq.mpr c4
  have c4b1:(a0.toList != ([109,105,110]:List UInt8))=false:=bne_eq_false_iff_eq.mpr c4
  clear c4
  obtain rfl:=Option.some.inj H
  go_enter Tryz.func98,Tryz.ntmps98
  go_wp2
  go_ret
  exact ⟨qS,qD⟩
 rw [if_neg c4] at H
 have c4b0:(a0.toList ==([109,105,110]:List UInt8))=false:=beq_eq_false_iff_ne.mpr c4
 have c4b1:(a0.toList != ([109,105,110]:List UInt8))=true:=bne_iff_ne.mpr c4
 by_cases c5:a0.toList=([109,97,120]:List UInt8)
 rotate_left
 ·rw [if_neg c5] at H
  have c5b0:(a0.toList ==([109,97,120]:List UInt8))=false:=beq_eq_false_iff_ne.mpr c5
  have c5b1:(a0.toList != ([109,97,120]:List UInt8))=true:=bne_iff_ne.mpr c5
  obtain rfl:=Option.some.inj H
  go_enter Tryz.func98,Tryz.ntmps98
  go_wp2
  go_ret
  exact ⟨qS,qD⟩
 rw [if_pos c5] at H
 have c5b0:(a0.toList ==([109,97,120]:List UInt8))=true:=beq_iff_eq.mpr c5
 have c5b1:(a0.toList != ([109,97,120]:List UInt8))=false:=bne_eq_false_iff_eq.mpr c5
 clear c5
 obtain rfl:=Option.some.inj H
 go_enter Tryz.func98,Tryz.ntmps98
 go_wp2
 go_ret
 exact ⟨qS,qD⟩
def word_Fields.l0:Nat→List ByteArray→List ByteArray→Int→Int→Option (List ByteArray)
 | 0,_,_,_,_=>none
 | k+1,x2,x6,x7,x8=>if x8<x7 then (if 0≤x8 then (if x8<(x6.length:Int) then (if (rdOf ByteArray.empty x6 x8).toList=([]:List UInt8) then (word_Fields.l0 k x2 x6 x7 (wrap64 (x8+1))) else (if x2.length<8796093022208 then (word_Fields.l0 k (x2++[rdOf ByteArray.empty x6 x8]) x6 x7 (wrap64 (x8+1))) else (none))) else (none)) else (none)) else (some x2)
def word_Fields.f (k:Nat) (a0:ByteArray):Option (List ByteArray):=(word_Split.f k a0 32).bind fun t144=>(word_Fields.l0 k ([]:List ByteArray) t144 (t144.length:Int) 0)
theorem word_Fields.mono_l:∀ k,(∀ y0 y1 y2 y3,LeO (word_Fields.l0 k y0 y1 y2 y3) (word_Fields.l0 (k+1) y0 y1 y2 y3))
 | 0=>fun _ _ _ _ r h=>by simp [word_Fields.l0] at h
 | k+1=>by
  have ih0:=word_Fields.mono_l k
  ·intro y0 y1 y2 y3
   unfold word_Fields.l0
   repeat' first
   | (with_reducible exact ih0 _ _ _ _)
   | (with_reducible exact word_Split.mono _ _ _)
   | (with_reducible exact LeO.refl _)
   | (with_reducible exact LeO.none _)
   | (with_reducible refine LeO.ite ?_ ?_)
   | (with_reducible refine LeO.bind ?_ (fun _=>?_))
   | exact ih0 _ _ _ _
   | exact word_Split.mono _ _ _
   | exact LeO.none _
   | refine LeO.ite ?_ ?_
   | refine LeO.bind ?_ (fun _=>?_)
theorem word_Fields.mono:∀ a0 k,LeO (word_Fields.f k a0) (word_Fields.f (k+1) a0):=by
 intro a0 k
 have ih0:=word_Fields.mono_l k
 unfold word_Fields.f
 repeat' first
   | (with_reducible exact ih0 _ _ _ _)
   | (with_reducible exact word_Split.mono _ _ _)
   | (with_reducible exact LeO.refl _)
   | (with_reducible exact LeO.none _)
   | (with_reducible refine LeO.ite ?_ ?_)
   | (with_reducible refine LeO.bind ?_ (fun _=>?_))
   | exact ih0 _ _ _ _
   | exact word_Split.mono _ _ _
   | exact LeO.none _
   | refine LeO.ite ?_ ?_
   | refine LeO.bind ?_ (fun _=>?_)
theorem word_Fields.calls (k:Nat) (a0:ByteArray) (r:List ByteArray) (w:World) (h:word_Fields.f k a0=some r) :
  Calls Tryz.prog 67 #[.string a0] w fun e w'=>∃ v0_:Value,e = .returned (v0_)∧Kd.R Kd.string 9 w' w.heap.size (fun _=>True) v0_ r∧Below w.heap.size w w':=by
 have HB:=Aside0.mk (Below.refl w.heap.size w)
 have H:((word_Split.f k a0 32).bind fun t144=>(word_Fields.l0 k ([]:List ByteArray) t144 (t144.length:Int) 0))=some r:=h
 clear h
 replace H:=Option.bind_eq_some_iff.mp H
 obtain ⟨t144,A20,H⟩:=H
 replace H:(word_Fields.l0 k ([]:List ByteArray) t144 (t144.length:Int) 0)=some r:=H
 have A2:=Aside0.mk A20
 clear A20
 have H':=Aside0.mk H
 clear H
 go_enter Tryz.func67,Tryz.ntmps67
 go_wp2_with (first|((with_reducible refine gate_callee (f:=116) rfl ?_);refine goesL_ (some 6) rfl rfl Tryz.func116 qK rfl #[.string a0, .int .u8 32] rfl qG ?_;(with_reducible refine (word_Split.calls k a0 32 t144 _ A2.out).mono ?_);rintro e w3 ⟨v145,rfl,ho0,hb⟩;refine ⟨_,rfl,?_⟩;have HO146:=Aside0.mk (Kd.R_lower ho0 (below_size qB));replace HB:=Aside0.mk (below_step qB hb);clear hb ho0;obtain ⟨Ao4,co4,eo4⟩:=Kd.R_slice HO146.out;subst eo4))
 go_loopg [2,8] k (fun kq v2 v8 w'=>∃ (x2_1:List ByteArray) (x8_1:Int),v8 = .int .i64 x8_1∧Aside0 (word_Fields.l0 kq x2_1 t144 (t144.length:Int) x8_1=some r)∧Aside0 (kq≤k)∧Aside0 (Kd.R Kd.string 9 w' w.heap.size (fun k_=>some k_≠((.slice Ao4 t144.length co4):Value).ownBlock) v2 x2_1)∧Aside0 (Kd.R Kd.string 9 w' w.heap.size (fun k_=>some k_≠(v2:Value).ownBlock) (.slice Ao4 t144.length co4) t144)∧Aside0 (Below w.heap.size w w'))
 case atStart=>exact ⟨(([]:List ByteArray)),(0),qS,H',⟨Nat.le_refl _⟩,⟨qN⟩,⟨by (with_reducible repeat (first|apply Kd.R_alloc|apply Kd.R_drewN|apply Kd.R_drew));exact Kd.R_mono HO146.out (fun _ hk=>(by simp [Value.ownBlock]))⟩,⟨qB⟩⟩
 case round =>
  clear H'
  obtain ⟨x2_1,x8_1,rfl,HA,HK1,HO_2,HO_6,HB⟩:=hrel
  cases gk with
  | zero=>exact absurd HA.out (by simp [word_Fields.l0])
  | succ k1 =>
   have H:=HA.out
   clear HA
   simp only [word_Fields.l0] at H
   by_cases c5:x8_1<(t144.length:Int)
   rotate_left
   ·rw [if_neg c5] at H
    have c5b0:decide (x8_1<(t144.length:Int))=false:=decide_eq_false c5
    clear c5
    obtain rfl:=Option.some.inj H
    go_wp2
    go_ret
    exact ⟨_,qE,by (with_reducible repeat (first|apply Kd.R_alloc|apply Kd.R_drewN|apply Kd.R_drew));exact Kd.R_mono HO_2.out (fun _ hk=>trivial),qB⟩
   rw [if_pos c5] at H
   have c5b0:decide (x8_1<(t144.length:Int))=true:=decide_eq_true c5
   clear c5
   by_cases c6:0≤x8_1
   rotate_left
   ·rw [if_neg c6] at H
    exact absurd H (by simp)
   rw [if_pos c6] at H
   have c6b0:decide (0≤x8_1)=true:=decide_eq_true c6
   clear c6
   by_cases c7:x8_1<(t144.length:Int)
   rotate_left
   ·rw [if_neg c7] at H
    exact absurd H (by simp)
   rw [if_pos c7] at H
   have c7b0:decide (x8_1<(t144.length:Int))=true:=decide_eq_true c7
   clear c7
   by_cases c8:(rdOf ByteArray.empty t144 x8_1).toList=([]:List UInt8)
   ·rw [if_pos c8] at H
    have c8b0:((rdOf ByteArray.empty t144 x8_1).toList ==([]:List UInt8))=true:=beq_iff_eq.mpr c8
    have c8b1:((rdOf ByteArray.empty t144 x8_1).toList != ([]:List UInt8))=false:=bne_eq_false_iff_eq.mpr c8
    clear c8
    have H':=Aside0.mk H
    clear H
    have p147:0≤(x8_1:Int):=of_decide_eq_true qA
    have q147:x8_1<(t144.length:Int):=of_decide_eq_true qA
    obtain ⟨ad147,e147,hx147_0⟩:=Kd.at_string (Kd.R_reads' HO_6.out).2.2 x8_1 p147 q147
    cases e147
    replace p147:=eq_true p147
    replace q147:=eq_true q147
    go_wp2
    go_roundg k1
    case measure=>have:=HK1.out;omega
    case rel=>exact ⟨(x2_1),(wrap64 (x8_1+1)),qS,H',⟨by have:=HK1.out;omega⟩,⟨qR HO_2⟩,⟨qR HO_6⟩,⟨qB⟩⟩
   rw [if_neg c8] at H
   have c8b0:((rdOf ByteArray.empty t144 x8_1).toList ==([]:List UInt8))=false:=beq_eq_false_iff_ne.mpr c8
   have c8b1:((rdOf ByteArray.empty t144 x8_1).toList != ([]:List UInt8))=true:=bne_iff_ne.mpr c8
   by_cases c9:x2_1.length<8796093022208
   rotate_left
   ·rw [if_neg c9] at H
    exact absurd H (by simp)
   rw [if_pos c9] at H
   have LMc9:=Aside0.mk c9
   clear c9
   obtain ⟨y148,hy148⟩:∃ y_:List ByteArray,y_=(x2_1++[rdOf ByteArray.empty t144 x8_1]):=⟨_,rfl⟩
   replace H:(word_Fields.l0 k1 y148 t144 (t144.length:Int) (wrap64 (x8_1+1)))=some r:=by first|(rw [hy148];with_reducible exact H)|(have H2_:=(Option.bind_some _ _).symm.trans H;rw [hy148];with_reducible exact H2_)|(have H2_:=(Option.bind_some _ _).symm.trans H;with_reducible exact H2_)|with_reducible exact H|(rw [hy148];exact H)|exact H
   have Ny148:=Aside0.mk hy148
   clear hy148
   have H':=Aside0.mk H
   clear H
   have p147:0≤(x8_1:Int):=of_decide_eq_true qA
   have q147:x8_1<(t144.length:Int):=of_decide_eq_true qA
   obtain ⟨ad147,e147,hx147_0⟩:=Kd.at_string (Kd.R_reads' HO_6.out).2.2 x8_1 p147 q147
   cases e147
   replace p147:=eq_true p147
   replace q147:=eq_true q147
   go_wp2_with (first|((with_reducible refine gate_builtin (b := .append) (xs:=#[.tmp 14, .tmp 16]) rfl ?_);at_builtin;refine Kd.R_append Kd.string (w0:=w) w.heap.size rfl (.tmp 14) (.tmp 16) 23 9 (.string ⟨#[]⟩) 16 rfl Tryz.underlying23 info9 rfl (by decide) (by omega) u2 x2_1 (rdOf ByteArray.empty t144 x8_1) [.string (rdOf ByteArray.empty t144 x8_1)] (fun k_=>some k_≠(.slice (some ad147) t144.length co4:Value).ownBlock) (fun _=>False) rfl rfl ?aP (fun _ hk=>hk.elim) ?aF ?aO ?aB ?aS ?aL ?_;(case aP=>exact rfl);(case aB=>exact qB);(case aF=>exact (fun k_ hk=>Kd.fresh' (Kd.R_lt (qR HO_6)) k_ hk));(case aO=>exact (qR HO_2));(case aS=>exact (below_size qB));(case aL=>have:=LMc9.out;omega);intro v149 w10 ho hb hg hat;rw [← Ny148.out] at ho;replace HO_6:=Aside0.mk (Kd.R_after (ok:=(fun _=>True)) (by (with_reducible repeat (first|apply Kd.R_alloc|apply Kd.R_drewN|apply Kd.R_drew));exact Kd.R_mono HO_6.out (fun _ hk=>⟨trivial,by first|exact hk|exact fun e_=>hk (e_.trans (Go.Proofs.YteaadaaghhojfaaGreatDoorW.XW.ob_len _ _ _ _ _))⟩)) hg hat);replace HB:=Aside0.mk hb;have HO150:=Aside0.mk ho;clear HO_2;clear ho hb hg hat))
   go_roundg k1
   case measure=>have:=HK1.out;omega
   case rel=>exact ⟨(y148),(wrap64 (x8_1+1)),qS,H',⟨by have:=HK1.out;omega⟩,⟨qR HO150⟩,⟨by (with_reducible repeat (first|apply Kd.R_alloc|apply Kd.R_drewN|apply Kd.R_drew));exact Kd.R_mono HO_6.out (fun _ hk=>hk.2)⟩,⟨qB⟩⟩
def query_names_1.f (a0:ByteArray):Option (Bool):=(word_Name.f a0).bind fun t151=>(some (!t151))
theorem query_names_1.calls (a0:ByteArray) (r:Bool) (w:World) (h:query_names_1.f a0=some r) :
  Calls Tryz.prog 107 #[.string a0] w fun e w'=>e = .returned (.bool r)∧Below w.heap.size w w':=by
 have HB:=Aside0.mk (Below.refl w.heap.size w)
 have H:((word_Name.f a0).bind fun t151=>(some (!t151)))=some r:=h
 clear h
 replace H:=Option.bind_eq_some_iff.mp H
 obtain ⟨t151,A20,H⟩:=H
 replace H:(some (!t151))=some r:=H
 have A2:=Aside0.mk A20
 clear A20
 obtain rfl:=Option.some.inj H
 go_enter Tryz.func107,Tryz.ntmps107
 go_wp2_with (first|((with_reducible refine gate_callee (f:=51) rfl ?_);refine goesL_ (some 4) rfl rfl Tryz.func51 qK rfl #[.string a0] rfl qG ?_;(with_reducible refine (word_Name.calls a0 t151 _ A2.out).mono ?_);rintro e w3 ⟨rfl,hb⟩;refine ⟨_,rfl,?_⟩;replace HB:=Aside0.mk (below_step qB hb);clear hb))
 go_ret
 exact ⟨qE,qB⟩
def slices_IndexFunc_string_by_query_names_1.l0:Nat→List ByteArray→Int→Int→Option (Int)
 | 0,_,_,_=>none
 | k+1,x0,x7,x8=>if x8<x7 then (if 0≤x8 then (if x8<(x0.length:Int) then ((query_names_1.f (rdOf ByteArray.empty x0 x8)).bind fun t153=>(if t153=true then (some x8) else (slices_IndexFunc_string_by_query_names_1.l0 k x0 x7 (wrap64 (x8+1))))) else (none)) else (none)) else (some (-1))
def slices_IndexFunc_string_by_query_names_1.f (k:Nat) (l0:List ByteArray)  : Option (Int):=slices_IndexFunc_string_by_query_names_1.l0 k l0 (l0.length:Int) 0
theorem slices_IndexFunc_string_by_query_names_1.mono_l:∀ k,(∀ y0 y1 y2,LeO (slices_IndexFunc_string_by_query_names_1.l0 k y0 y1 y2) (slices_IndexFunc_string_by_query_names_1.l0 (k+1) y0 y1 y2))
 | 0=>fun _ _ _ r h=>by simp [slices_IndexFunc_string_by_query_names_1.l0] at h
 | k+1=>by
  have ih0:=slices_IndexFunc_string_by_query_names_1.mono_l k
  ·intro y0 y1 y2
   unfold slices_IndexFunc_string_by_query_names_1.l0
   repeat' first
   | (with_reducible exact ih0 _ _ _)
   | (with_reducible exact LeO.refl _)
   | (with_reducible exact LeO.none _)
   | (with_reducible refine LeO.ite ?_ ?_)
   | (with_reducible refine LeO.bind ?_ (fun _=>?_))
   | exact ih0 _ _ _
   | exact LeO.none _
   | refine LeO.ite ?_ ?_
   | refine LeO.bind ?_ (fun _=>?_)
theorem slices_IndexFunc_string_by_query_names_1.mono:∀ a0 k,LeO (slices_IndexFunc_string_by_query_names_1.f k a0) (slices_IndexFunc_string_by_query_names_1.f (k+1) a0):=by
 intro a0 k
 have ih0:=slices_IndexFunc_string_by_query_names_1.mono_l k
 unfold slices_IndexFunc_string_by_query_names_1.f
 repeat' first
   | (with_reducible exact ih0 _ _ _)
   | (with_reducible exact LeO.refl _)
   | (with_reducible exact LeO.none _)
   | (with_reducible refine LeO.ite ?_ ?_)
   | (with_reducible refine LeO.bind ?_ (fun _=>?_))
   | exact ih0 _ _ _
   | exact LeO.none _
   | refine LeO.ite ?_ ?_
   | refine LeO.bind ?_ (fun _=>?_)
theorem slices_IndexFunc_string_by_query_names_1.calls (k:Nat) (A0:Option Addr) (c0:Nat) (l0:List ByteArray)  (r:Int) (w:World) (hr0:Kd.C Kd.string w A0 l0.length l0) (hc0:l0.length≤c0) (h:slices_IndexFunc_string_by_query_names_1.f k l0=some r) :
  Calls Tryz.prog 141 #[.slice A0 l0.length c0, .func (.func 107) #[] #[]] w fun e w'=>e = .returned (.int .i64 r)∧Below w.heap.size w w':=by
 have HR0:=Aside0.mk hr0
 have HC0:=Aside0.mk hc0
 clear hr0 hc0
 have HB:=Aside0.mk (Below.refl w.heap.size w)
 have H:(slices_IndexFunc_string_by_query_names_1.l0 k l0 (l0.length:Int) 0)=some r:=h
 clear h
 have H':=Aside0.mk H
 clear H
 go_enter Tryz.func141,Tryz.ntmps141
 go_wp2
 go_loopg [8] k (fun kq v8 w'=>∃ (x8_1:Int),v8 = .int .i64 x8_1∧Aside0 (slices_IndexFunc_string_by_query_names_1.l0 kq l0 (l0.length:Int) x8_1=some r)∧Aside0 (kq≤k)∧Aside0 (Below w.heap.size w w'))
 case atStart=>exact ⟨(0),qS,H',⟨Nat.le_refl _⟩,⟨qB⟩⟩
 case round =>
  clear H'
  obtain ⟨x8_1,rfl,HA,HK1,HB⟩:=hrel
  cases gk with
  | zero=>exact absurd HA.out (by simp [slices_IndexFunc_string_by_query_names_1.l0])
  | succ k1 =>
   have H:=HA.out
   clear HA
   simp only [slices_IndexFunc_string_by_query_names_1.l0] at H
   by_cases c3:x8_1<(l0.length:Int)
   rotate_left
   ·rw [if_neg c3] at H
    have c3b0:decide (x8_1<(l0.length:Int))=false:=decide_eq_false c3
    clear c3
    obtain rfl:=Option.some.inj H
    go_wp2
    go_ret
    exact ⟨qE,qB⟩
   rw [if_pos c3] at H
   have c3b0:decide (x8_1<(l0.length:Int))=true:=decide_eq_true c3
   clear c3
   by_cases c4:0≤x8_1
   rotate_left
   ·rw [if_neg c4] at H
    exact absurd H (by simp)
   rw [if_pos c4] at H
   have c4b0:decide (0≤x8_1)=true:=decide_eq_true c4
   clear c4
   by_cases c5:x8_1<(l0.length:Int)
   rotate_left
   ·rw [if_neg c5] at H
    exact absurd H (by simp)
   rw [if_pos c5] at H
   have c5b0:decide (x8_1<(l0.length:Int))=true:=decide_eq_true c5
   clear c5
   replace H:=Option.bind_eq_some_iff.mp H
   obtain ⟨t153,A60,H⟩:=H
   replace H:(if t153=true then (some x8_1) else (slices_IndexFunc_string_by_query_names_1.l0 k1 l0 (l0.length:Int) (wrap64 (x8_1+1))))=some r:=H
   have A6:=Aside0.mk A60
   clear A60
   by_cases c7:t153=true
   ·subst c7
    have H1:(some x8_1)=some r:=by rw [if_pos rfl] at H;exact H
    clear H
    have H:=H1
    clear H1
    obtain rfl:=Option.some.inj H
    have p152:0≤(x8_1:Int):=of_decide_eq_true qA
    have q152:x8_1<(l0.length:Int):=of_decide_eq_true qA
    obtain ⟨ad152,e152,hx152_0⟩:=Kd.at_string HR0.out x8_1 p152 q152
    cases e152
    replace hx152_0:=(HB.out.cell (World.block_lt_of_cell? w _ hx152_0)).trans hx152_0
    replace p152:=eq_true p152
    replace q152:=eq_true q152
    go_wp2_with (first|(go_at_call 107;(with_reducible refine (query_names_1.calls (rdOf ByteArray.empty l0 x8_1) true _ A6.out).mono ?_);rintro e w8 ⟨rfl,hb⟩;replace HB:=Aside0.mk (below_step qB hb);clear hb))
    go_ret
    exact ⟨qE,qB⟩
   replace c7:=Bool.eq_false_iff.mpr c7
   subst c7
   have H1:(slices_IndexFunc_string_by_query_names_1.l0 k1 l0 (l0.length:Int) (wrap64 (x8_1+1)))=some r:=by rw [if_neg (show ¬ (false=true) by decide)] at H;exact H
   clear H
   have H:=H1
   clear H1
   have H':=Aside0.mk H
   clear H
   have p152:0≤(x8_1:Int):=of_decide_eq_true qA
   have q152:x8_1<(l0.length:Int):=of_decide_eq_true qA
   obtain ⟨ad152,e152,hx152_0⟩:=Kd.at_string HR0.out x8_1 p152 q152
   cases e152
   replace hx152_0:=(HB.out.cell (World.block_lt_of_cell? w _ hx152_0)).trans hx152_0
   replace p152:=eq_true p152
   replace q152:=eq_true q152
   go_wp2_with (first|(go_at_call 107;(with_reducible refine (query_names_1.calls (rdOf ByteArray.empty l0 x8_1) false _ A6.out).mono ?_);rintro e w9 ⟨rfl,hb⟩;replace HB:=Aside0.mk (below_step qB hb);clear hb))
   go_roundg k1
   case measure=>have:=HK1.out;omega
   case rel=>exact ⟨(wrap64 (x8_1+1)),qS,H',⟨by have:=HK1.out;omega⟩,⟨qB⟩⟩
def slices_ContainsFunc_string_by_query_names_1.f (k:Nat) (l0:List ByteArray)  : Option (Bool):=(slices_IndexFunc_string_by_query_names_1.f k l0).bind fun t154=>(some (decide (t154≥0)))
theorem slices_ContainsFunc_string_by_query_names_1.mono:∀ a0 k,LeO (slices_ContainsFunc_string_by_query_names_1.f k a0) (slices_ContainsFunc_string_by_query_names_1.f (k+1) a0):=by
 intro a0 k
 unfold slices_ContainsFunc_string_by_query_names_1.f
 repeat' first
   | (with_reducible exact slices_IndexFunc_string_by_query_names_1.mono _ _)
   | (with_reducible exact LeO.refl _)
   | (with_reducible exact LeO.none _)
   | (with_reducible refine LeO.ite ?_ ?_)
   | (with_reducible refine LeO.bind ?_ (fun _=>?_))
   | exact slices_IndexFunc_string_by_query_names_1.mono _ _
   | exact LeO.none _
   | refine LeO.ite ?_ ?_
   | refine LeO.bind ?_ (fun _=>?_)
theorem slices_ContainsFunc_string_by_query_names_1.calls (k:Nat) (A0:Option Addr) (c0:Nat) (l0:List ByteArray)  (r:Bool) (w:World) (hr0:Kd.C Kd.string w A0 l0.length l0) (hc0:l0.length≤c0) (h:slices_ContainsFunc_string_by_query_names_1.f k l0=some r) :
  Calls Tryz.prog 106 #[.slice A0 l0.length c0, .func (.func 107) #[] #[]] w fun e w'=>e = .returned (.bool r)∧Below w.heap.size w w':=by
 have HR0:=Aside0.mk hr0
 have HC0:=Aside0.mk hc0
 clear hr0 hc0
 have HB:=Aside0.mk (Below.refl w.heap.size w)
 have H:((slices_IndexFunc_string_by_query_names_1.f k l0).bind fun t154=>(some (decide (t154≥0))))=some r:=h
 clear h
 replace H:=Option.bind_eq_some_iff.mp H
 obtain ⟨t154,A30,H⟩:=H
 replace H:(some (decide (t154≥0)))=some r:=H
 have A3:=Aside0.mk A30
 clear A30
 obtain rfl:=Option.some.inj H
 go_enter Tryz.func106,Tryz.ntmps106
 go_wp2_with (first|((with_reducible refine gate_callee (f:=141) rfl ?_);refine goesL_ (some 7) rfl rfl Tryz.func141 qK rfl #[.slice A0 l0.length c0, .func (.func 107) #[] #[]] rfl qG ?_;(with_reducible refine (slices_IndexFunc_string_by_query_names_1.calls k _ _ l0  t154 _ ?side1 ?side2 A3.out).mono ?_);(case side1=>repeat (first|exact HR0.out|(with_reducible refine Kd.C_alloc ?_ _)|(with_reducible refine Kd.C_drewN ?_ _)|(with_reducible refine Kd.C_drew ?_)));(case side2=>exact HC0.out);rintro e w4 ⟨rfl,hb⟩;refine ⟨_,rfl,?_⟩;replace HB:=Aside0.mk (below_step qB hb);clear hb))
 go_ret
 exact ⟨qE,qB⟩
end Go.Proofs.YteaadaaghhojfaaGreatDoor.PQu
