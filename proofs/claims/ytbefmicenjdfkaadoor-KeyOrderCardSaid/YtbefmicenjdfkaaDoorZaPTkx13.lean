import Derived.Test.YtbefmicenjdfkaaDoorZaPTkx0
import Derived.Test.YtbefmicenjdfkaaDoorZaPTkx2
import Derived.Test.YtbefmicenjdfkaaDoorZaPTkx3
import Derived.Test.YtbefmicenjdfkaaDoorZaPTkx4
import Derived.Test.YtbefmicenjdfkaaDoorZaPTkx5
import Derived.Test.YtbefmicenjdfkaaDoorZaPTkx6
import Derived.Test.YtbefmicenjdfkaaDoorZaPTkx7
import Derived.Test.YtbefmicenjdfkaaDoorZaPTkx12
namespace Go.Proofs.YtbefmicenjdfkaaDoor.PTk
open Go.RowKit Go.Proofs.YtbefmicenjdfkaaDoorW.PrintWords Go.Proofs.YtbefmicenjdfkaaDoorW.PrintLast Go.Proofs.YtbefmicenjdfkaaDoorW.PrintMore
attribute [local go_sem] max2_int min2_int max_two min_two max_three min_three max_four min_four
set_option linter.unusedVariables false
set_option linter.unusedSimpArgs false
def key_Parse.j0:Nat→ByteArray→ByteArray→Option (ByteArray×(List (S52))×Int)
 | 0,_,_=>none
 | k+1,x4,x5=>(word_Name.f x4).bind fun t417=>(if t417=true then ((tag_Parse.f k x5).bind fun bt418=>(if bt418.2=0 then (some (x4,bt418.1,0)) else (some ((⟨#[]⟩:ByteArray),([]:List (S52)),bt418.2)))) else (some ((⟨#[]⟩:ByteArray),([]:List (S52)),2)))
def key_Parse.f (k:Nat) (a0:ByteArray):Option (ByteArray×(List (S52))×Int):=(strings_Cut.f a0 (⟨#[123]⟩:ByteArray)).bind fun bt412=>(if bt412.2.2=true then ((strings_CutSuffix.f bt412.2.1 (⟨#[125]⟩:ByteArray)).bind fun bt415=>(if bt415.2=true then (if bt415.1.toList=([]:List UInt8) then (some ((⟨#[]⟩:ByteArray),([]:List (S52)),2)) else (key_Parse.j0 k bt412.1 bt415.1)) else (some ((⟨#[]⟩:ByteArray),([]:List (S52)),2)))) else (key_Parse.j0 k bt412.1 bt412.2.1))
theorem key_Parse.mono_l:∀ k,(∀ y0 y1,LeO (key_Parse.j0 k y0 y1) (key_Parse.j0 (k+1) y0 y1))
 | 0=>fun _ _ r h=>by simp [key_Parse.j0] at h
 | k+1=>by
  have ih0:=key_Parse.mono_l k
  ·intro y0 y1
   unfold key_Parse.j0
   repeat' first
   | (with_reducible exact ih0 _ _)
   | (with_reducible exact tag_Parse.mono _ _)
   | (with_reducible exact LeO.refl _)
   | (with_reducible exact LeO.none _)
   | (with_reducible refine LeO.ite ?_ ?_)
   | (with_reducible refine LeO.bind ?_ (fun _=>?_))
   | exact ih0 _ _
   | exact tag_Parse.mono _ _
   | exact LeO.none _
   | refine LeO.ite ?_ ?_
   | refine LeO.bind ?_ (fun _=>?_)
theorem key_Parse.mono:∀ a0 k,LeO (key_Parse.f k a0) (key_Parse.f (k+1) a0):=by
 intro a0 k
 have ih0:=key_Parse.mono_l k
 unfold key_Parse.f
 repeat' first
   | (with_reducible exact ih0 _ _)
   | (with_reducible exact tag_Parse.mono _ _)
   | (with_reducible exact LeO.refl _)
   | (with_reducible exact LeO.none _)
   | (with_reducible refine LeO.ite ?_ ?_)
   | (with_reducible refine LeO.bind ?_ (fun _=>?_))
   | exact ih0 _ _
   | exact tag_Parse.mono _ _
   | exact LeO.none _
   | refine LeO.ite ?_ ?_
   | refine LeO.bind ?_ (fun _=>?_)
set_option maxHeartbeats 8000000 in
set_option maxRecDepth 100000 in
theorem key_Parse.calls (k:Nat) (a0:ByteArray) (r1:ByteArray) (r2:List (S52)) (r3:Int) (w:World) (h:key_Parse.f k a0=some (r1,r2,r3)) :
  Calls Tryd.prog 36 #[.string a0] w fun e w'=>∃ v1_:Value,e = .returned (.tuple #[.agg #[.string r1,v1_], .int .i64 r3])∧Kd.R k52 52 w' w.heap.size (fun _=>True) v1_ r2∧Below w.heap.size w w':=by
 have hu41:=Tryd.underlying41
 have HB:=Aside0.mk (Below.refl w.heap.size w)
 have H:((strings_Cut.f a0 (⟨#[123]⟩:ByteArray)).bind fun bt412=>(if bt412.2.2=true then ((strings_CutSuffix.f bt412.2.1 (⟨#[125]⟩:ByteArray)).bind fun bt415=>(if bt415.2=true then (if bt415.1.toList=([]:List UInt8) then (some ((⟨#[]⟩:ByteArray),([]:List (S52)),2)) else (key_Parse.j0 k bt412.1 bt415.1)) else (some ((⟨#[]⟩:ByteArray),([]:List (S52)),2)))) else (key_Parse.j0 k bt412.1 bt412.2.1)))=some (r1,r2,r3):=h
 clear h
 replace H:=Option.bind_eq_some_iff.mp H
 obtain ⟨⟨t412,t413,t414⟩,A20,H⟩:=H
 replace H:(if t414=true then ((strings_CutSuffix.f t413 (⟨#[125]⟩:ByteArray)).bind fun bt415=>(if bt415.2=true then (if bt415.1.toList=([]:List UInt8) then (some ((⟨#[]⟩:ByteArray),([]:List (S52)),2)) else (key_Parse.j0 k t412 bt415.1)) else (some ((⟨#[]⟩:ByteArray),([]:List (S52)),2)))) else (key_Parse.j0 k t412 t413))=some (r1,r2,r3):=H
 have A2:=Aside0.mk A20
 clear A20
 have HC3:=Aside0.mk H
 clear H
 go_enter Tryd.func36,Tryd.ntmps36
 go_upto_if 17 with (first|((with_reducible refine gate_dst (N:=2) rfl ?_);refine box_event ?hg (N:=2) ?hd (cs:=#[.string (⟨#[]⟩:ByteArray), .slice none 0 0]) (t:=41) ?hr ?_;(case hd=>rfl);(case hg=>rfl);(case hr=>first|(go_simp;done)|(go_simp;rfl));intro gb411 hg w4 hbox hb;have n0_:=Aside0.mk (below_step (by repeat (first|(with_reducible first|exact HB.out|apply below_alloc|apply pw_below_drewN|apply below_drew1)|exact HB.out)) hb);have n1_:=Aside0.mk (hbox);have n2_:=Aside0.mk ((by rw [hg];exact (below_size (by repeat (first|(with_reducible first|exact HB.out|apply below_alloc|apply pw_below_drewN|apply below_drew1)|exact HB.out))):w.heap.size≤gb411));have n3_:=Aside0.mk ((by rw [hg];exact (below_size (by repeat (first|(with_reducible first|exact HB.out|apply below_alloc|apply pw_below_drewN|apply below_drew1)|exact HB.out))):w.heap.size≤gb411));clear HB;have HB:=n0_;have BK411:=n1_;have GW411:=n2_;have GE411:=n3_;clear n0_ n1_ n2_ n3_;clear hb hbox hg)|((with_reducible refine gate_callee (f:=51) rfl ?_);refine goesL_ (some 13) rfl rfl Tryd.func51 (by kernel_rfl) rfl #[.string a0, .string (⟨#[123]⟩:ByteArray)] rfl (by (try simp only [List.map_toArray,List.map_cons,List.map_nil]);first|done|rfl|(simp only [List.length_drop,List.length_take];rfl)) ?_;(with_reducible refine (strings_Cut.calls a0 (⟨#[123]⟩:ByteArray) t412 t413 t414 _ A2.out).mono ?_);rintro e w' ⟨rfl,⟨nd,rfl⟩⟩;refine ⟨_,rfl,?_⟩))
 (try simp only [Act.put,List.setIfInBounds_toArray,List.set_cons_zero,List.set_cons_succ])
 go_cut [5] (fun v5 wc=>∃ (kq:Nat) (x5_2:ByteArray) (x412000_2:ByteArray),v5 = .string x5_2∧Aside0 (key_Parse.j0 kq t412 x5_2=some (r1,r2,r3))∧Aside0 (kq≤k)∧Aside0 (wc.heap[gb411]?=some (.cells #[.string x412000_2,(.slice none 0 0)] 41 (0,0)))∧Aside0 (Below w.heap.size w wc))
 case first =>
  have H:=HC3.out
  clear HC3
  by_cases c5:t414=true
  ·subst c5
   have H1:((strings_CutSuffix.f t413 (⟨#[125]⟩:ByteArray)).bind fun bt415=>(if bt415.2=true then (if bt415.1.toList=([]:List UInt8) then (some ((⟨#[]⟩:ByteArray),([]:List (S52)),2)) else (key_Parse.j0 k t412 bt415.1)) else (some ((⟨#[]⟩:ByteArray),([]:List (S52)),2))))=some (r1,r2,r3):=by rw [if_pos rfl] at H;exact H
   clear H
   have H:=H1
   clear H1
   replace H:=Option.bind_eq_some_iff.mp H
   obtain ⟨⟨t415,t416⟩,A60,H⟩:=H
   replace H:(if t416=true then (if t415.toList=([]:List UInt8) then (some ((⟨#[]⟩:ByteArray),([]:List (S52)),2)) else (key_Parse.j0 k t412 t415)) else (some ((⟨#[]⟩:ByteArray),([]:List (S52)),2)))=some (r1,r2,r3):=H
   have A6:=Aside0.mk A60
   clear A60
   by_cases c7:t416=true
   ·subst c7
    have H1:(if t415.toList=([]:List UInt8) then (some ((⟨#[]⟩:ByteArray),([]:List (S52)),2)) else (key_Parse.j0 k t412 t415))=some (r1,r2,r3):=by rw [if_pos rfl] at H;exact H
    clear H
    have H:=H1
    clear H1
    by_cases c8:t415.toList=([]:List UInt8)
    ·rw [if_pos c8] at H
     have c8b0:(t415.toList ==([]:List UInt8))=true:=beq_iff_eq.mpr c8
     have c8b1:(t415.toList != ([]:List UInt8))=false:=bne_eq_false_iff_eq.mpr c8
     clear c8
     (first|rw [c8b0]|(simp only [i64_w,i32_w];rw [c8b0])|skip)
     simp only [Option.some.injEq,Prod.mk.injEq] at H
     obtain ⟨rfl,rfl,rfl⟩:=H
     go_wp2_with (first|((with_reducible refine gate_callee (f:=55) rfl ?_);refine goesL_ (some 20) rfl rfl Tryd.func55 (by kernel_rfl) rfl #[.string t413, .string (⟨#[125]⟩:ByteArray)] rfl (by (try simp only [List.map_toArray,List.map_cons,List.map_nil]);first|done|rfl|(simp only [List.length_drop,List.length_take];rfl)) ?_;(with_reducible refine (strings_CutSuffix.calls t413 (⟨#[125]⟩:ByteArray) t415 true _ A6.out).mono ?_);rintro e w' ⟨rfl,⟨nd,rfl⟩⟩;refine ⟨_,rfl,?_⟩;(try (rw [drewN_self w4];generalize hq_:World.drewN w4 _=w4;have n0_:Aside0 (w4.heap[gb411]?=some (.cells #[.string (⟨#[]⟩:ByteArray), .slice none 0 0] 41 (0,0))):=⟨by rw [← hq_];exact (by (with_reducible repeat (first|refine blk_drewN ?_ _|refine blk_drew ?_|refine blk_alloc ?_ _));exact BK411.out)⟩;have n1_:Aside0 (Below w.heap.size w w4):=⟨by rw [← hq_];exact (by repeat (first|(with_reducible first|exact HB.out|apply below_alloc|apply pw_below_drewN|apply below_drew1|refine below_set ?_ GE411.out)|exact HB.out))⟩;clear BK411 HB hq_;have BK411:=n0_;have HB:=n1_;clear n0_ n1_));have hcz9_0:w4.cell? ⟨gb411,0,none⟩=some (.string (⟨#[]⟩:ByteArray)):=(blk_cell BK411.out 0).trans rfl;have hcz9_1:w4.cell? ⟨gb411,1,none⟩=some (.slice none 0 0):=(blk_cell BK411.out 1).trans rfl;have hfz9_0:=blk_frozen BK411.out 0;have hfz9_1:=blk_frozen BK411.out 1))
     refine bodyPost_ret (results_ct rfl _ _ gb411 41 #[.string (⟨#[]⟩:ByteArray), .slice none 0 0] (0,0) _ rfl (by (with_reducible repeat (first|refine blk_drewN ?_ _|refine blk_drew ?_|refine blk_alloc ?_ _));refine blk_put (cs:=#[.string (⟨#[]⟩:ByteArray), .slice none 0 0]) ?_ 1 _ rfl;(with_reducible repeat (first|refine blk_drewN ?_ _|refine blk_drew ?_|refine blk_alloc ?_ _));refine blk_put (cs:=#[.string (⟨#[]⟩:ByteArray), .slice none 0 0]) ?_ 0 _ rfl;(with_reducible repeat (first|refine blk_drewN ?_ _|refine blk_drew ?_|refine blk_alloc ?_ _));exact BK411.out) Tryd.underlying41 rfl (by kernel_rfl)) rfl ?_
     exact ⟨_,by first|rfl|(simp [errW_none,errW_some]<;>rfl)|(simp [*,errW_none,errW_some]<;>rfl),by first|exact Kd.R_nil _ _ _ _ _|exact Kd.N_nil _ _ _ _ _|exact Kd.V_nil _ _ _ _ _|exact Kd.Q_nil _ _ _ _ _|exact Kd.S_nil _ _ _ _ _,by repeat (first|(with_reducible first|exact HB.out|apply below_alloc|apply pw_below_drewN|apply below_drew1|refine below_set ?_ GE411.out)|exact HB.out)⟩
    ·rw [if_neg c8] at H
     have c8b0:(t415.toList ==([]:List UInt8))=false:=beq_eq_false_iff_ne.mpr c8
     have c8b1:(t415.toList != ([]:List UInt8))=true:=bne_iff_ne.mpr c8
     (first|rw [c8b0]|(simp only [i64_w,i32_w];rw [c8b0])|skip)
     have H':=Aside0.mk H
     clear H
     go_wp2_with (first|((with_reducible refine gate_callee (f:=55) rfl ?_);refine goesL_ (some 20) rfl rfl Tryd.func55 (by kernel_rfl) rfl #[.string t413, .string (⟨#[125]⟩:ByteArray)] rfl (by (try simp only [List.map_toArray,List.map_cons,List.map_nil]);first|done|rfl|(simp only [List.length_drop,List.length_take];rfl)) ?_;(with_reducible refine (strings_CutSuffix.calls t413 (⟨#[125]⟩:ByteArray) t415 true _ A6.out).mono ?_);rintro e w' ⟨rfl,⟨nd,rfl⟩⟩;refine ⟨_,rfl,?_⟩))
     go_meet
     case rel=>exact ⟨_,(t415),((⟨#[]⟩:ByteArray)),(by first|rfl|(simp;done)|(simp [*];done)),H',⟨by first|omega|exact Nat.le_refl _⟩,⟨by (with_reducible repeat (first|refine blk_drewN ?_ _|refine blk_drew ?_|refine blk_alloc ?_ _));exact BK411.out⟩,⟨by repeat (first|(with_reducible first|exact HB.out|apply below_alloc|apply pw_below_drewN|apply below_drew1|refine below_set ?_ GE411.out)|exact HB.out)⟩⟩
   ·replace c7:=Bool.eq_false_iff.mpr c7
    subst c7
    have H1:(some ((⟨#[]⟩:ByteArray),([]:List (S52)),2))=some (r1,r2,r3):=by rw [if_neg (show ¬ (false=true) by decide)] at H;exact H
    clear H
    have H:=H1
    clear H1
    simp only [Option.some.injEq,Prod.mk.injEq] at H
    obtain ⟨rfl,rfl,rfl⟩:=H
    go_wp2_with (first|((with_reducible refine gate_callee (f:=55) rfl ?_);refine goesL_ (some 20) rfl rfl Tryd.func55 (by kernel_rfl) rfl #[.string t413, .string (⟨#[125]⟩:ByteArray)] rfl (by (try simp only [List.map_toArray,List.map_cons,List.map_nil]);first|done|rfl|(simp only [List.length_drop,List.length_take];rfl)) ?_;(with_reducible refine (strings_CutSuffix.calls t413 (⟨#[125]⟩:ByteArray) t415 false _ A6.out).mono ?_);rintro e w' ⟨rfl,⟨nd,rfl⟩⟩;refine ⟨_,rfl,?_⟩;(try (rw [drewN_self w4];generalize hq_:World.drewN w4 _=w4;have n0_:Aside0 (w4.heap[gb411]?=some (.cells #[.string (⟨#[]⟩:ByteArray), .slice none 0 0] 41 (0,0))):=⟨by rw [← hq_];exact (by (with_reducible repeat (first|refine blk_drewN ?_ _|refine blk_drew ?_|refine blk_alloc ?_ _));exact BK411.out)⟩;have n1_:Aside0 (Below w.heap.size w w4):=⟨by rw [← hq_];exact (by repeat (first|(with_reducible first|exact HB.out|apply below_alloc|apply pw_below_drewN|apply below_drew1|refine below_set ?_ GE411.out)|exact HB.out))⟩;clear BK411 HB hq_;have BK411:=n0_;have HB:=n1_;clear n0_ n1_));have hcz10_0:w4.cell? ⟨gb411,0,none⟩=some (.string (⟨#[]⟩:ByteArray)):=(blk_cell BK411.out 0).trans rfl;have hcz10_1:w4.cell? ⟨gb411,1,none⟩=some (.slice none 0 0):=(blk_cell BK411.out 1).trans rfl;have hfz10_0:=blk_frozen BK411.out 0;have hfz10_1:=blk_frozen BK411.out 1))
    refine bodyPost_ret (results_ct rfl _ _ gb411 41 #[.string (⟨#[]⟩:ByteArray), .slice none 0 0] (0,0) _ rfl (by (with_reducible repeat (first|refine blk_drewN ?_ _|refine blk_drew ?_|refine blk_alloc ?_ _));refine blk_put (cs:=#[.string (⟨#[]⟩:ByteArray), .slice none 0 0]) ?_ 1 _ rfl;(with_reducible repeat (first|refine blk_drewN ?_ _|refine blk_drew ?_|refine blk_alloc ?_ _));refine blk_put (cs:=#[.string (⟨#[]⟩:ByteArray), .slice none 0 0]) ?_ 0 _ rfl;(with_reducible repeat (first|refine blk_drewN ?_ _|refine blk_drew ?_|refine blk_alloc ?_ _));exact BK411.out) Tryd.underlying41 rfl (by kernel_rfl)) rfl ?_
    exact ⟨_,by first|rfl|(simp [errW_none,errW_some]<;>rfl)|(simp [*,errW_none,errW_some]<;>rfl),by first|exact Kd.R_nil _ _ _ _ _|exact Kd.N_nil _ _ _ _ _|exact Kd.V_nil _ _ _ _ _|exact Kd.Q_nil _ _ _ _ _|exact Kd.S_nil _ _ _ _ _,by repeat (first|(with_reducible first|exact HB.out|apply below_alloc|apply pw_below_drewN|apply below_drew1|refine below_set ?_ GE411.out)|exact HB.out)⟩
  ·replace c5:=Bool.eq_false_iff.mpr c5
   subst c5
   have H1:(key_Parse.j0 k t412 t413)=some (r1,r2,r3):=by rw [if_neg (show ¬ (false=true) by decide)] at H;exact H
   clear H
   have H:=H1
   clear H1
   have H':=Aside0.mk H
   clear H
   go_wp2
   go_meet
   case rel=>exact ⟨_,(t413),((⟨#[]⟩:ByteArray)),(by first|rfl|(simp;done)|(simp [*];done)),H',⟨by first|omega|exact Nat.le_refl _⟩,⟨by (with_reducible repeat (first|refine blk_drewN ?_ _|refine blk_drew ?_|refine blk_alloc ?_ _));exact BK411.out⟩,⟨by repeat (first|(with_reducible first|exact HB.out|apply below_alloc|apply pw_below_drewN|apply below_drew1|refine below_set ?_ GE411.out)|exact HB.out)⟩⟩
 case rest =>
  clear HC3
  try clear p2
  try clear c3
  try clear c5
  try clear c7
  try clear c8
  try clear c8b0
  try clear c8b1
  try clear hcz10_0
  try clear hcz10_1
  try clear hcz9_0
  try clear hcz9_1
  try clear hfz10_0
  try clear hfz10_1
  try clear hfz9_0
  try clear hfz9_1
  obtain ⟨kq,x5_2,x412000_2,rfl,HA,HJ2,BK411,HB⟩:=hcut
  cases kq with
  | zero=>exact absurd HA.out (by simp [key_Parse.j0])
  | succ kj2 =>
   have H:=HA.out
   clear HA
   simp only [key_Parse.j0] at H
   replace H:=Option.bind_eq_some_iff.mp H
   obtain ⟨t417,A110,H⟩:=H
   replace H:(if t417=true then ((tag_Parse.f kj2 x5_2).bind fun bt418=>(if bt418.2=0 then (some (t412,bt418.1,0)) else (some ((⟨#[]⟩:ByteArray),([]:List (S52)),bt418.2)))) else (some ((⟨#[]⟩:ByteArray),([]:List (S52)),2)))=some (r1,r2,r3):=H
   have A11:=Aside0.mk A110
   clear A110
   by_cases c12:t417=true
   ·subst c12
    have H1:((tag_Parse.f kj2 x5_2).bind fun bt418=>(if bt418.2=0 then (some (t412,bt418.1,0)) else (some ((⟨#[]⟩:ByteArray),([]:List (S52)),bt418.2))))=some (r1,r2,r3):=by rw [if_pos rfl] at H;exact H
    clear H
    have H:=H1
    clear H1
    replace H:=Option.bind_eq_some_iff.mp H
    obtain ⟨⟨t418,t419⟩,A130,H⟩:=H
    replace H:(if t419=0 then (some (t412,t418,0)) else (some ((⟨#[]⟩:ByteArray),([]:List (S52)),t419)))=some (r1,r2,r3):=H
    have A13:=Aside0.mk A130
    clear A130
    by_cases c14:t419=0
    ·rw [if_pos c14] at H
     have c14b0:(t419 ==0)=true:=beq_iff_eq.mpr c14
     have c14b1:(t419 != 0)=false:=bne_eq_false_iff_eq.mpr c14
     clear c14
     simp only [Option.some.injEq,Prod.mk.injEq] at H
     obtain ⟨rfl,rfl,rfl⟩:=H
     go_wp2_with (first|((with_reducible refine gate_callee (f:=53) rfl ?_);refine goesL_ (some 32) rfl rfl Tryd.func53 (by kernel_rfl) rfl #[.string t412] rfl (by (try simp only [List.map_toArray,List.map_cons,List.map_nil]);first|done|rfl|(simp only [List.length_drop,List.length_take];rfl)) ?_;(with_reducible refine (word_Name.calls t412 true _ A11.out).mono ?_);rintro e w15 ⟨rfl,hb⟩;refine ⟨_,rfl,?_⟩;have n0_:=Aside0.mk (blk_below (g:=gb411) (o := .cells #[.string x412000_2, .slice none 0 0] 41 (0,0)) (by (with_reducible repeat (first|refine blk_drewN ?_ _|refine blk_drew ?_|refine blk_alloc ?_ _));exact BK411.out) hb);have n1_:=Aside0.mk (below_step (by repeat (first|(with_reducible first|exact HB.out|apply below_alloc|apply pw_below_drewN|apply below_drew1|refine below_set ?_ GE411.out)|exact HB.out)) hb);clear BK411;clear HB;have BK411:=n0_;have HB:=n1_;clear n0_ n1_;(try clear hb);(try clear hb2);(try clear hk);(try clear hi))|((with_reducible refine gate_callee (f:=25) rfl ?_);refine goesL_ (some 37) rfl rfl Tryd.func25 (by kernel_rfl) rfl #[.string x5_2] rfl (by (try simp only [List.map_toArray,List.map_cons,List.map_nil]);first|done|rfl|(simp only [List.length_drop,List.length_take];rfl)) ?_;(with_reducible refine (tag_Parse.calls kj2 x5_2 t418 t419 _ A13.out).mono ?_);rintro e w16 ⟨v420,rfl,ho0,hb⟩;refine ⟨_,rfl,?_⟩;have n0_:=Aside0.mk (Kd.R_lower ho0 (below_size (by repeat (first|(with_reducible first|exact HB.out|apply below_alloc|apply pw_below_drewN|apply below_drew1|refine below_set ?_ GE411.out)|exact HB.out))));have n1_:=Aside0.mk (blk_below (g:=gb411) (o := .cells #[.string x412000_2, .slice none 0 0] 41 (0,0)) (by (with_reducible repeat (first|refine blk_drewN ?_ _|refine blk_drew ?_|refine blk_alloc ?_ _));exact BK411.out) hb);have n2_:=Aside0.mk (below_step (by repeat (first|(with_reducible first|exact HB.out|apply below_alloc|apply pw_below_drewN|apply below_drew1|refine below_set ?_ GE411.out)|exact HB.out)) hb);clear BK411;clear HB;have HO421:=n0_;have BK411:=n1_;have HB:=n2_;clear n0_ n1_ n2_;(try clear hb);(try clear hb2);(try clear hk);(try clear hi);(try clear ho0);obtain ⟨Ao17,co17,eo17⟩:=Kd.R_slice HO421.out;subst eo17;have hcz18_0:w16.cell? ⟨gb411,0,none⟩=some (.string x412000_2):=(blk_cell BK411.out 0).trans rfl;have hcz18_1:w16.cell? ⟨gb411,1,none⟩=some (.slice none 0 0):=(blk_cell BK411.out 1).trans rfl;have hfz18_0:=blk_frozen BK411.out 0;have hfz18_1:=blk_frozen BK411.out 1))
     refine bodyPost_ret (results_ct rfl _ _ gb411 41 #[.string t412, .slice Ao17 t418.length co17] (0,0) _ rfl (by (with_reducible repeat (first|refine blk_drewN ?_ _|refine blk_drew ?_|refine blk_alloc ?_ _));refine blk_put (cs:=#[.string t412, .slice none 0 0]) ?_ 1 _ rfl;(with_reducible repeat (first|refine blk_drewN ?_ _|refine blk_drew ?_|refine blk_alloc ?_ _));refine blk_put (cs:=#[.string x412000_2, .slice none 0 0]) ?_ 0 _ rfl;(with_reducible repeat (first|refine blk_drewN ?_ _|refine blk_drew ?_|refine blk_alloc ?_ _));exact BK411.out) Tryd.underlying41 rfl (by kernel_rfl)) rfl ?_
     exact ⟨_,by first|rfl|(simp [errW_none,errW_some]<;>rfl)|(simp [*,errW_none,errW_some]<;>rfl),by (with_reducible repeat (first|apply Kd.R_alloc|apply Kd.R_drewN|apply Kd.R_drew));exact Kd.R_mono (Kd.R_far (p:=⟨gb411,1,none⟩) (Kd.R_far (p:=⟨gb411,0,none⟩) (Kd.R_types HO421.out BK411.out (by decide)) (fun _ hk=>hk.2) (.string t412)) (fun _ hk=>hk.2) (.slice Ao17 t418.length co17)) (fun _ hk=>trivial),by repeat (first|(with_reducible first|exact HB.out|apply below_alloc|apply pw_below_drewN|apply below_drew1|refine below_set ?_ GE411.out)|exact HB.out)⟩
    ·rw [if_neg c14] at H
     have c14b0:(t419 ==0)=false:=beq_eq_false_iff_ne.mpr c14
     have c14b1:(t419 != 0)=true:=bne_iff_ne.mpr c14
     simp only [Option.some.injEq,Prod.mk.injEq] at H
     obtain ⟨rfl,rfl,rfl⟩:=H
     go_wp2_with (first|((with_reducible refine gate_callee (f:=53) rfl ?_);refine goesL_ (some 32) rfl rfl Tryd.func53 (by kernel_rfl) rfl #[.string t412] rfl (by (try simp only [List.map_toArray,List.map_cons,List.map_nil]);first|done|rfl|(simp only [List.length_drop,List.length_take];rfl)) ?_;(with_reducible refine (word_Name.calls t412 true _ A11.out).mono ?_);rintro e w19 ⟨rfl,hb⟩;refine ⟨_,rfl,?_⟩;have n0_:=Aside0.mk (blk_below (g:=gb411) (o := .cells #[.string x412000_2, .slice none 0 0] 41 (0,0)) (by (with_reducible repeat (first|refine blk_drewN ?_ _|refine blk_drew ?_|refine blk_alloc ?_ _));exact BK411.out) hb);have n1_:=Aside0.mk (below_step (by repeat (first|(with_reducible first|exact HB.out|apply below_alloc|apply pw_below_drewN|apply below_drew1|refine below_set ?_ GE411.out)|exact HB.out)) hb);clear BK411;clear HB;have BK411:=n0_;have HB:=n1_;clear n0_ n1_;(try clear hb);(try clear hb2);(try clear hk);(try clear hi))|((with_reducible refine gate_callee (f:=25) rfl ?_);refine goesL_ (some 37) rfl rfl Tryd.func25 (by kernel_rfl) rfl #[.string x5_2] rfl (by (try simp only [List.map_toArray,List.map_cons,List.map_nil]);first|done|rfl|(simp only [List.length_drop,List.length_take];rfl)) ?_;(with_reducible refine (tag_Parse.calls kj2 x5_2 t418 t419 _ A13.out).mono ?_);rintro e w20 ⟨v420,rfl,ho0,hb⟩;refine ⟨_,rfl,?_⟩;have n0_:=Aside0.mk (Kd.R_lower ho0 (below_size (by repeat (first|(with_reducible first|exact HB.out|apply below_alloc|apply pw_below_drewN|apply below_drew1|refine below_set ?_ GE411.out)|exact HB.out))));have n1_:=Aside0.mk (blk_below (g:=gb411) (o := .cells #[.string x412000_2, .slice none 0 0] 41 (0,0)) (by (with_reducible repeat (first|refine blk_drewN ?_ _|refine blk_drew ?_|refine blk_alloc ?_ _));exact BK411.out) hb);have n2_:=Aside0.mk (below_step (by repeat (first|(with_reducible first|exact HB.out|apply below_alloc|apply pw_below_drewN|apply below_drew1|refine below_set ?_ GE411.out)|exact HB.out)) hb);clear BK411;clear HB;have HO421:=n0_;have BK411:=n1_;have HB:=n2_;clear n0_ n1_ n2_;(try clear hb);(try clear hb2);(try clear hk);(try clear hi);(try clear ho0);have hcz21_0:w20.cell? ⟨gb411,0,none⟩=some (.string x412000_2):=(blk_cell BK411.out 0).trans rfl;have hcz21_1:w20.cell? ⟨gb411,1,none⟩=some (.slice none 0 0):=(blk_cell BK411.out 1).trans rfl;have hfz21_0:=blk_frozen BK411.out 0;have hfz21_1:=blk_frozen BK411.out 1))
     refine bodyPost_ret (results_ct rfl _ _ gb411 41 #[.string (⟨#[]⟩:ByteArray), .slice none 0 0] (0,0) _ rfl (by (with_reducible repeat (first|refine blk_drewN ?_ _|refine blk_drew ?_|refine blk_alloc ?_ _));refine blk_put (cs:=#[.string (⟨#[]⟩:ByteArray), .slice none 0 0]) ?_ 1 _ rfl;(with_reducible repeat (first|refine blk_drewN ?_ _|refine blk_drew ?_|refine blk_alloc ?_ _));refine blk_put (cs:=#[.string x412000_2, .slice none 0 0]) ?_ 0 _ rfl;(with_reducible repeat (first|refine blk_drewN ?_ _|refine blk_drew ?_|refine blk_alloc ?_ _));exact BK411.out) Tryd.underlying41 rfl (by kernel_rfl)) rfl ?_
     exact ⟨_,by first|rfl|(simp [errW_none,errW_some]<;>rfl)|(simp [*,errW_none,errW_some]<;>rfl),by first|exact Kd.R_nil _ _ _ _ _|exact Kd.N_nil _ _ _ _ _|exact Kd.V_nil _ _ _ _ _|exact Kd.Q_nil _ _ _ _ _|exact Kd.S_nil _ _ _ _ _,by repeat (first|(with_reducible first|exact HB.out|apply below_alloc|apply pw_below_drewN|apply below_drew1|refine below_set ?_ GE411.out)|exact HB.out)⟩
   ·replace c12:=Bool.eq_false_iff.mpr c12
    subst c12
    have H1:(some ((⟨#[]⟩:ByteArray),([]:List (S52)),2))=some (r1,r2,r3):=by rw [if_neg (show ¬ (false=true) by decide)] at H;exact H
    clear H
    have H:=H1
    clear H1
    simp only [Option.some.injEq,Prod.mk.injEq] at H
    obtain ⟨rfl,rfl,rfl⟩:=H
    go_wp2_with (first|((with_reducible refine gate_callee (f:=53) rfl ?_);refine goesL_ (some 32) rfl rfl Tryd.func53 (by kernel_rfl) rfl #[.string t412] rfl (by (try simp only [List.map_toArray,List.map_cons,List.map_nil]);first|done|rfl|(simp only [List.length_drop,List.length_take];rfl)) ?_;(with_reducible refine (word_Name.calls t412 false _ A11.out).mono ?_);rintro e w22 ⟨rfl,hb⟩;refine ⟨_,rfl,?_⟩;have n0_:=Aside0.mk (blk_below (g:=gb411) (o := .cells #[.string x412000_2, .slice none 0 0] 41 (0,0)) (by (with_reducible repeat (first|refine blk_drewN ?_ _|refine blk_drew ?_|refine blk_alloc ?_ _));exact BK411.out) hb);have n1_:=Aside0.mk (below_step (by repeat (first|(with_reducible first|exact HB.out|apply below_alloc|apply pw_below_drewN|apply below_drew1|refine below_set ?_ GE411.out)|exact HB.out)) hb);clear BK411;clear HB;have BK411:=n0_;have HB:=n1_;clear n0_ n1_;(try clear hb);(try clear hb2);(try clear hk);(try clear hi);have hcz23_0:w22.cell? ⟨gb411,0,none⟩=some (.string x412000_2):=(blk_cell BK411.out 0).trans rfl;have hcz23_1:w22.cell? ⟨gb411,1,none⟩=some (.slice none 0 0):=(blk_cell BK411.out 1).trans rfl;have hfz23_0:=blk_frozen BK411.out 0;have hfz23_1:=blk_frozen BK411.out 1))
    refine bodyPost_ret (results_ct rfl _ _ gb411 41 #[.string (⟨#[]⟩:ByteArray), .slice none 0 0] (0,0) _ rfl (by (with_reducible repeat (first|refine blk_drewN ?_ _|refine blk_drew ?_|refine blk_alloc ?_ _));refine blk_put (cs:=#[.string (⟨#[]⟩:ByteArray), .slice none 0 0]) ?_ 1 _ rfl;(with_reducible repeat (first|refine blk_drewN ?_ _|refine blk_drew ?_|refine blk_alloc ?_ _));refine blk_put (cs:=#[.string x412000_2, .slice none 0 0]) ?_ 0 _ rfl;(with_reducible repeat (first|refine blk_drewN ?_ _|refine blk_drew ?_|refine blk_alloc ?_ _));exact BK411.out) Tryd.underlying41 rfl (by kernel_rfl)) rfl ?_
    exact ⟨_,by first|rfl|(simp [errW_none,errW_some]<;>rfl)|(simp [*,errW_none,errW_some]<;>rfl),by first|exact Kd.R_nil _ _ _ _ _|exact Kd.N_nil _ _ _ _ _|exact Kd.V_nil _ _ _ _ _|exact Kd.Q_nil _ _ _ _ _|exact Kd.S_nil _ _ _ _ _,by repeat (first|(with_reducible first|exact HB.out|apply below_alloc|apply pw_below_drewN|apply below_drew1|refine below_set ?_ GE411.out)|exact HB.out)⟩
def key_Make.f (k:Nat) (a0:ByteArray) (l1:List (S52)):Option (ByteArray×(List (S52))×Int):=(word_Name.f a0).bind fun t423=>(if t423=true then ((tag_Canon.f k l1).bind fun bt424=>(if bt424.2=0 then (some (a0,bt424.1,0)) else (some ((⟨#[]⟩:ByteArray),([]:List (S52)),bt424.2)))) else (some ((⟨#[]⟩:ByteArray),([]:List (S52)),2)))
theorem key_Make.mono:∀ a0 a1 k,LeO (key_Make.f k a0 a1) (key_Make.f (k+1) a0 a1):=by
 intro a0 a1 k
 unfold key_Make.f
 repeat' first
   | (with_reducible exact tag_Canon.mono _ _)
   | (with_reducible exact LeO.refl _)
   | (with_reducible exact LeO.none _)
   | (with_reducible refine LeO.ite ?_ ?_)
   | (with_reducible refine LeO.bind ?_ (fun _=>?_))
   | exact tag_Canon.mono _ _
   | exact LeO.none _
   | refine LeO.ite ?_ ?_
   | refine LeO.bind ?_ (fun _=>?_)
set_option maxHeartbeats 8000000 in
set_option maxRecDepth 100000 in
theorem key_Make.calls (k:Nat) (a0:ByteArray) (A1:Option Addr) (c1:Nat) (l1:List (S52)) (r1:ByteArray) (r2:List (S52)) (r3:Int) (w:World) (hr1:Kd.C k52 w A1 l1.length l1) (hc1:l1.length≤c1) (h:key_Make.f k a0 l1=some (r1,r2,r3)) :
  Calls Tryd.prog 28 #[.string a0, .slice A1 l1.length c1] w fun e w'=>∃ v1_:Value,e = .returned (.tuple #[.agg #[.string r1,v1_], .int .i64 r3])∧Kd.R k52 52 w' w.heap.size (fun _=>True) v1_ r2∧Below w.heap.size w w':=by
 have hu41:=Tryd.underlying41
 have HR1:=Aside0.mk hr1
 have HC1:=Aside0.mk hc1
 clear hr1 hc1
 have HB:=Aside0.mk (Below.refl w.heap.size w)
 have H:((word_Name.f a0).bind fun t423=>(if t423=true then ((tag_Canon.f k l1).bind fun bt424=>(if bt424.2=0 then (some (a0,bt424.1,0)) else (some ((⟨#[]⟩:ByteArray),([]:List (S52)),bt424.2)))) else (some ((⟨#[]⟩:ByteArray),([]:List (S52)),2))))=some (r1,r2,r3):=h
 clear h
 replace H:=Option.bind_eq_some_iff.mp H
 obtain ⟨t423,A30,H⟩:=H
 replace H:(if t423=true then ((tag_Canon.f k l1).bind fun bt424=>(if bt424.2=0 then (some (a0,bt424.1,0)) else (some ((⟨#[]⟩:ByteArray),([]:List (S52)),bt424.2)))) else (some ((⟨#[]⟩:ByteArray),([]:List (S52)),2)))=some (r1,r2,r3):=H
 have A3:=Aside0.mk A30
 clear A30
 by_cases c4:t423=true
 ·subst c4
  have H1:((tag_Canon.f k l1).bind fun bt424=>(if bt424.2=0 then (some (a0,bt424.1,0)) else (some ((⟨#[]⟩:ByteArray),([]:List (S52)),bt424.2))))=some (r1,r2,r3):=by rw [if_pos rfl] at H;exact H
  clear H
  have H:=H1
  clear H1
  replace H:=Option.bind_eq_some_iff.mp H
  obtain ⟨⟨t424,t425⟩,A50,H⟩:=H
  replace H:(if t425=0 then (some (a0,t424,0)) else (some ((⟨#[]⟩:ByteArray),([]:List (S52)),t425)))=some (r1,r2,r3):=H
  have A5:=Aside0.mk A50
  clear A50
  by_cases c6:t425=0
  ·rw [if_pos c6] at H
   have c6b0:(t425 ==0)=true:=beq_iff_eq.mpr c6
   have c6b1:(t425 != 0)=false:=bne_eq_false_iff_eq.mpr c6
   clear c6
   simp only [Option.some.injEq,Prod.mk.injEq] at H
   obtain ⟨rfl,rfl,rfl⟩:=H
   go_enter Tryd.func28,Tryd.ntmps28
   go_wp2_with (first|((with_reducible refine gate_dst (N:=4) rfl ?_);refine box_event ?hg (N:=4) ?hd (cs:=#[.string (⟨#[]⟩:ByteArray), .slice none 0 0]) (t:=41) ?hr ?_;(case hd=>rfl);(case hg=>rfl);(case hr=>first|(go_simp;done)|(go_simp;rfl));intro gb422 hg w7 hbox hb;have n0_:=Aside0.mk (below_step (by repeat (first|(with_reducible first|exact HB.out|apply below_alloc|apply pw_below_drewN|apply below_drew1)|exact HB.out)) hb);have n1_:=Aside0.mk (hbox);have n2_:=Aside0.mk ((by rw [hg];exact (below_size (by repeat (first|(with_reducible first|exact HB.out|apply below_alloc|apply pw_below_drewN|apply below_drew1)|exact HB.out))):w.heap.size≤gb422));have n3_:=Aside0.mk ((by rw [hg];exact (below_size (by repeat (first|(with_reducible first|exact HB.out|apply below_alloc|apply pw_below_drewN|apply below_drew1)|exact HB.out))):w.heap.size≤gb422));clear HB;have HB:=n0_;have BK422:=n1_;have GW422:=n2_;have GE422:=n3_;clear n0_ n1_ n2_ n3_;clear hb hbox hg)|((with_reducible refine gate_callee (f:=53) rfl ?_);refine goesL_ (some 9) rfl rfl Tryd.func53 (by kernel_rfl) rfl #[.string a0] rfl (by (try simp only [List.map_toArray,List.map_cons,List.map_nil]);first|done|rfl|(simp only [List.length_drop,List.length_take];rfl)) ?_;(with_reducible refine (word_Name.calls a0 true _ A3.out).mono ?_);rintro e w8 ⟨rfl,hb⟩;refine ⟨_,rfl,?_⟩;have n0_:=Aside0.mk (blk_below (g:=gb422) (o := .cells #[.string (⟨#[]⟩:ByteArray), .slice none 0 0] 41 (0,0)) (by (with_reducible repeat (first|refine blk_drewN ?_ _|refine blk_drew ?_|refine blk_alloc ?_ _));exact BK422.out) hb);have n1_:=Aside0.mk (below_step (by repeat (first|(with_reducible first|exact HB.out|apply below_alloc|apply pw_below_drewN|apply below_drew1|refine below_set ?_ GE422.out)|exact HB.out)) hb);clear BK422;clear HB;have BK422:=n0_;have HB:=n1_;clear n0_ n1_;(try clear hb);(try clear hb2);(try clear hk);(try clear hi))|((with_reducible refine gate_callee (f:=14) rfl ?_);refine goesL_ (some 14) rfl rfl Tryd.func14 (by kernel_rfl) rfl #[.slice A1 l1.length c1] rfl (by (try simp only [List.map_toArray,List.map_cons,List.map_nil]);first|done|rfl|(simp only [List.length_drop,List.length_take];rfl)) ?_;(with_reducible refine (tag_Canon.calls k _ _ l1 t424 t425 _ ?side1 ?side2 A5.out).mono ?_);(case side1=>repeat (first|exact (Kd.C_below HR1.out HB.out)|(with_reducible refine Kd.C_alloc ?_ _)|(with_reducible refine Kd.C_drewN ?_ _)|(with_reducible refine Kd.C_drew ?_)));(case side2=>exact HC1.out);rintro e w9 ⟨v426,rfl,ho0,hb⟩;refine ⟨_,rfl,?_⟩;have n0_:=Aside0.mk (Kd.R_lower ho0 (below_size (by repeat (first|(with_reducible first|exact HB.out|apply below_alloc|apply pw_below_drewN|apply below_drew1|refine below_set ?_ GE422.out)|exact HB.out))));have n1_:=Aside0.mk (blk_below (g:=gb422) (o := .cells #[.string (⟨#[]⟩:ByteArray), .slice none 0 0] 41 (0,0)) (by (with_reducible repeat (first|refine blk_drewN ?_ _|refine blk_drew ?_|refine blk_alloc ?_ _));exact BK422.out) hb);have n2_:=Aside0.mk (below_step (by repeat (first|(with_reducible first|exact HB.out|apply below_alloc|apply pw_below_drewN|apply below_drew1|refine below_set ?_ GE422.out)|exact HB.out)) hb);clear BK422;clear HB;have HO427:=n0_;have BK422:=n1_;have HB:=n2_;clear n0_ n1_ n2_;(try clear hb);(try clear hb2);(try clear hk);(try clear hi);(try clear ho0);obtain ⟨Ao10,co10,eo10⟩:=Kd.R_slice HO427.out;subst eo10;have hcz11_0:w9.cell? ⟨gb422,0,none⟩=some (.string (⟨#[]⟩:ByteArray)):=(blk_cell BK422.out 0).trans rfl;have hcz11_1:w9.cell? ⟨gb422,1,none⟩=some (.slice none 0 0):=(blk_cell BK422.out 1).trans rfl;have hfz11_0:=blk_frozen BK422.out 0;have hfz11_1:=blk_frozen BK422.out 1))
   refine bodyPost_ret (results_ct rfl _ _ gb422 41 #[.string a0, .slice Ao10 t424.length co10] (0,0) _ rfl (by (with_reducible repeat (first|refine blk_drewN ?_ _|refine blk_drew ?_|refine blk_alloc ?_ _));refine blk_put (cs:=#[.string a0, .slice none 0 0]) ?_ 1 _ rfl;(with_reducible repeat (first|refine blk_drewN ?_ _|refine blk_drew ?_|refine blk_alloc ?_ _));refine blk_put (cs:=#[.string (⟨#[]⟩:ByteArray), .slice none 0 0]) ?_ 0 _ rfl;(with_reducible repeat (first|refine blk_drewN ?_ _|refine blk_drew ?_|refine blk_alloc ?_ _));exact BK422.out) Tryd.underlying41 rfl (by kernel_rfl)) rfl ?_
   exact ⟨_,by first|rfl|(simp [errW_none,errW_some]<;>rfl)|(simp [*,errW_none,errW_some]<;>rfl),by (with_reducible repeat (first|apply Kd.R_alloc|apply Kd.R_drewN|apply Kd.R_drew));exact Kd.R_mono (Kd.R_far (p:=⟨gb422,1,none⟩) (Kd.R_far (p:=⟨gb422,0,none⟩) (Kd.R_types HO427.out BK422.out (by decide)) (fun _ hk=>hk.2) (.string a0)) (fun _ hk=>hk.2) (.slice Ao10 t424.length co10)) (fun _ hk=>trivial),by repeat (first|(with_reducible first|exact HB.out|apply below_alloc|apply pw_below_drewN|apply below_drew1|refine below_set ?_ GE422.out)|exact HB.out)⟩
  ·rw [if_neg c6] at H
   have c6b0:(t425 ==0)=false:=beq_eq_false_iff_ne.mpr c6
   have c6b1:(t425 != 0)=true:=bne_iff_ne.mpr c6
   simp only [Option.some.injEq,Prod.mk.injEq] at H
   obtain ⟨rfl,rfl,rfl⟩:=H
   go_enter Tryd.func28,Tryd.ntmps28
   go_wp2_with (first|((with_reducible refine gate_dst (N:=4) rfl ?_);refine box_event ?hg (N:=4) ?hd (cs:=#[.string (⟨#[]⟩:ByteArray), .slice none 0 0]) (t:=41) ?hr ?_;(case hd=>rfl);(case hg=>rfl);(case hr=>first|(go_simp;done)|(go_simp;rfl));intro gb422 hg w12 hbox hb;have n0_:=Aside0.mk (below_step (by repeat (first|(with_reducible first|exact HB.out|apply below_alloc|apply pw_below_drewN|apply below_drew1)|exact HB.out)) hb);have n1_:=Aside0.mk (hbox);have n2_:=Aside0.mk ((by rw [hg];exact (below_size (by repeat (first|(with_reducible first|exact HB.out|apply below_alloc|apply pw_below_drewN|apply below_drew1)|exact HB.out))):w.heap.size≤gb422));have n3_:=Aside0.mk ((by rw [hg];exact (below_size (by repeat (first|(with_reducible first|exact HB.out|apply below_alloc|apply pw_below_drewN|apply below_drew1)|exact HB.out))):w.heap.size≤gb422));clear HB;have HB:=n0_;have BK422:=n1_;have GW422:=n2_;have GE422:=n3_;clear n0_ n1_ n2_ n3_;clear hb hbox hg)|((with_reducible refine gate_callee (f:=53) rfl ?_);refine goesL_ (some 9) rfl rfl Tryd.func53 (by kernel_rfl) rfl #[.string a0] rfl (by (try simp only [List.map_toArray,List.map_cons,List.map_nil]);first|done|rfl|(simp only [List.length_drop,List.length_take];rfl)) ?_;(with_reducible refine (word_Name.calls a0 true _ A3.out).mono ?_);rintro e w13 ⟨rfl,hb⟩;refine ⟨_,rfl,?_⟩;have n0_:=Aside0.mk (blk_below (g:=gb422) (o := .cells #[.string (⟨#[]⟩:ByteArray), .slice none 0 0] 41 (0,0)) (by (with_reducible repeat (first|refine blk_drewN ?_ _|refine blk_drew ?_|refine blk_alloc ?_ _));exact BK422.out) hb);have n1_:=Aside0.mk (below_step (by repeat (first|(with_reducible first|exact HB.out|apply below_alloc|apply pw_below_drewN|apply below_drew1|refine below_set ?_ GE422.out)|exact HB.out)) hb);clear BK422;clear HB;have BK422:=n0_;have HB:=n1_;clear n0_ n1_;(try clear hb);(try clear hb2);(try clear hk);(try clear hi))|((with_reducible refine gate_callee (f:=14) rfl ?_);refine goesL_ (some 14) rfl rfl Tryd.func14 (by kernel_rfl) rfl #[.slice A1 l1.length c1] rfl (by (try simp only [List.map_toArray,List.map_cons,List.map_nil]);first|done|rfl|(simp only [List.length_drop,List.length_take];rfl)) ?_;(with_reducible refine (tag_Canon.calls k _ _ l1 t424 t425 _ ?side1 ?side2 A5.out).mono ?_);(case side1=>repeat (first|exact (Kd.C_below HR1.out HB.out)|(with_reducible refine Kd.C_alloc ?_ _)|(with_reducible refine Kd.C_drewN ?_ _)|(with_reducible refine Kd.C_drew ?_)));(case side2=>exact HC1.out);rintro e w14 ⟨v426,rfl,ho0,hb⟩;refine ⟨_,rfl,?_⟩;have n0_:=Aside0.mk (Kd.R_lower ho0 (below_size (by repeat (first|(with_reducible first|exact HB.out|apply below_alloc|apply pw_below_drewN|apply below_drew1|refine below_set ?_ GE422.out)|exact HB.out))));have n1_:=Aside0.mk (blk_below (g:=gb422) (o := .cells #[.string (⟨#[]⟩:ByteArray), .slice none 0 0] 41 (0,0)) (by (with_reducible repeat (first|refine blk_drewN ?_ _|refine blk_drew ?_|refine blk_alloc ?_ _));exact BK422.out) hb);have n2_:=Aside0.mk (below_step (by repeat (first|(with_reducible first|exact HB.out|apply below_alloc|apply pw_below_drewN|apply below_drew1|refine below_set ?_ GE422.out)|exact HB.out)) hb);clear BK422;clear HB;have HO427:=n0_;have BK422:=n1_;have HB:=n2_;clear n0_ n1_ n2_;(try clear hb);(try clear hb2);(try clear hk);(try clear hi);(try clear ho0);have hcz15_0:w14.cell? ⟨gb422,0,none⟩=some (.string (⟨#[]⟩:ByteArray)):=(blk_cell BK422.out 0).trans rfl;have hcz15_1:w14.cell? ⟨gb422,1,none⟩=some (.slice none 0 0):=(blk_cell BK422.out 1).trans rfl;have hfz15_0:=blk_frozen BK422.out 0;have hfz15_1:=blk_frozen BK422.out 1))
   refine bodyPost_ret (results_ct rfl _ _ gb422 41 #[.string (⟨#[]⟩:ByteArray), .slice none 0 0] (0,0) _ rfl (by (with_reducible repeat (first|refine blk_drewN ?_ _|refine blk_drew ?_|refine blk_alloc ?_ _));refine blk_put (cs:=#[.string (⟨#[]⟩:ByteArray), .slice none 0 0]) ?_ 1 _ rfl;(with_reducible repeat (first|refine blk_drewN ?_ _|refine blk_drew ?_|refine blk_alloc ?_ _));refine blk_put (cs:=#[.string (⟨#[]⟩:ByteArray), .slice none 0 0]) ?_ 0 _ rfl;(with_reducible repeat (first|refine blk_drewN ?_ _|refine blk_drew ?_|refine blk_alloc ?_ _));exact BK422.out) Tryd.underlying41 rfl (by kernel_rfl)) rfl ?_
   exact ⟨_,by first|rfl|(simp [errW_none,errW_some]<;>rfl)|(simp [*,errW_none,errW_some]<;>rfl),by first|exact Kd.R_nil _ _ _ _ _|exact Kd.N_nil _ _ _ _ _|exact Kd.V_nil _ _ _ _ _|exact Kd.Q_nil _ _ _ _ _|exact Kd.S_nil _ _ _ _ _,by repeat (first|(with_reducible first|exact HB.out|apply below_alloc|apply pw_below_drewN|apply below_drew1|refine below_set ?_ GE422.out)|exact HB.out)⟩
 ·replace c4:=Bool.eq_false_iff.mpr c4
  subst c4
  have H1:(some ((⟨#[]⟩:ByteArray),([]:List (S52)),2))=some (r1,r2,r3):=by rw [if_neg (show ¬ (false=true) by decide)] at H;exact H
  clear H
  have H:=H1
  clear H1
  simp only [Option.some.injEq,Prod.mk.injEq] at H
  obtain ⟨rfl,rfl,rfl⟩:=H
  go_enter Tryd.func28,Tryd.ntmps28
  go_wp2_with (first|((with_reducible refine gate_dst (N:=4) rfl ?_);refine box_event ?hg (N:=4) ?hd (cs:=#[.string (⟨#[]⟩:ByteArray), .slice none 0 0]) (t:=41) ?hr ?_;(case hd=>rfl);(case hg=>rfl);(case hr=>first|(go_simp;done)|(go_simp;rfl));intro gb422 hg w16 hbox hb;have n0_:=Aside0.mk (below_step (by repeat (first|(with_reducible first|exact HB.out|apply below_alloc|apply pw_below_drewN|apply below_drew1)|exact HB.out)) hb);have n1_:=Aside0.mk (hbox);have n2_:=Aside0.mk ((by rw [hg];exact (below_size (by repeat (first|(with_reducible first|exact HB.out|apply below_alloc|apply pw_below_drewN|apply below_drew1)|exact HB.out))):w.heap.size≤gb422));have n3_:=Aside0.mk ((by rw [hg];exact (below_size (by repeat (first|(with_reducible first|exact HB.out|apply below_alloc|apply pw_below_drewN|apply below_drew1)|exact HB.out))):w.heap.size≤gb422));clear HB;have HB:=n0_;have BK422:=n1_;have GW422:=n2_;have GE422:=n3_;clear n0_ n1_ n2_ n3_;clear hb hbox hg)|((with_reducible refine gate_callee (f:=53) rfl ?_);refine goesL_ (some 9) rfl rfl Tryd.func53 (by kernel_rfl) rfl #[.string a0] rfl (by (try simp only [List.map_toArray,List.map_cons,List.map_nil]);first|done|rfl|(simp only [List.length_drop,List.length_take];rfl)) ?_;(with_reducible refine (word_Name.calls a0 false _ A3.out).mono ?_);rintro e w17 ⟨rfl,hb⟩;refine ⟨_,rfl,?_⟩;have n0_:=Aside0.mk (blk_below (g:=gb422) (o := .cells #[.string (⟨#[]⟩:ByteArray), .slice none 0 0] 41 (0,0)) (by (with_reducible repeat (first|refine blk_drewN ?_ _|refine blk_drew ?_|refine blk_alloc ?_ _));exact BK422.out) hb);have n1_:=Aside0.mk (below_step (by repeat (first|(with_reducible first|exact HB.out|apply below_alloc|apply pw_below_drewN|apply below_drew1|refine below_set ?_ GE422.out)|exact HB.out)) hb);clear BK422;clear HB;have BK422:=n0_;have HB:=n1_;clear n0_ n1_;(try clear hb);(try clear hb2);(try clear hk);(try clear hi);have hcz18_0:w17.cell? ⟨gb422,0,none⟩=some (.string (⟨#[]⟩:ByteArray)):=(blk_cell BK422.out 0).trans rfl;have hcz18_1:w17.cell? ⟨gb422,1,none⟩=some (.slice none 0 0):=(blk_cell BK422.out 1).trans rfl;have hfz18_0:=blk_frozen BK422.out 0;have hfz18_1:=blk_frozen BK422.out 1))
  refine bodyPost_ret (results_ct rfl _ _ gb422 41 #[.string (⟨#[]⟩:ByteArray), .slice none 0 0] (0,0) _ rfl (by (with_reducible repeat (first|refine blk_drewN ?_ _|refine blk_drew ?_|refine blk_alloc ?_ _));refine blk_put (cs:=#[.string (⟨#[]⟩:ByteArray), .slice none 0 0]) ?_ 1 _ rfl;(with_reducible repeat (first|refine blk_drewN ?_ _|refine blk_drew ?_|refine blk_alloc ?_ _));refine blk_put (cs:=#[.string (⟨#[]⟩:ByteArray), .slice none 0 0]) ?_ 0 _ rfl;(with_reducible repeat (first|refine blk_drewN ?_ _|refine blk_drew ?_|refine blk_alloc ?_ _));exact BK422.out) Tryd.underlying41 rfl (by kernel_rfl)) rfl ?_
  exact ⟨_,by first|rfl|(simp [errW_none,errW_some]<;>rfl)|(simp [*,errW_none,errW_some]<;>rfl),by first|exact Kd.R_nil _ _ _ _ _|exact Kd.N_nil _ _ _ _ _|exact Kd.V_nil _ _ _ _ _|exact Kd.Q_nil _ _ _ _ _|exact Kd.S_nil _ _ _ _ _,by repeat (first|(with_reducible first|exact HB.out|apply below_alloc|apply pw_below_drewN|apply below_drew1|refine below_set ?_ GE422.out)|exact HB.out)⟩
def key_Text.f (k:Nat) (a0_0:ByteArray) (l0_1:List (S52)):Option (ByteArray):=if (l0_1.length:Int)=0 then (some a0_0) else ((tag_Text.f k l0_1).bind fun t429=>((word_Join.f (⟨#[]⟩:ByteArray) (([a0_0,(⟨#[123]⟩:ByteArray),t429,(⟨#[125]⟩:ByteArray)]:List ByteArray))).bind fun t433=>(some t433)))
theorem key_Text.mono:∀ a0 a1 k,LeO (key_Text.f k a0 a1) (key_Text.f (k+1) a0 a1):=by
 intro a0 a1 k
 unfold key_Text.f
 repeat' first
   | (with_reducible exact tag_Text.mono _ _)
   | (with_reducible exact LeO.refl _)
   | (with_reducible exact LeO.none _)
   | (with_reducible refine LeO.ite ?_ ?_)
   | (with_reducible refine LeO.bind ?_ (fun _=>?_))
   | exact tag_Text.mono _ _
   | exact LeO.none _
   | refine LeO.ite ?_ ?_
   | refine LeO.bind ?_ (fun _=>?_)
def key_Text.T3:Bool×List (List Nat×List Nat):=(true,[([],[]),([0],[0]),([],[]),([2],[2]),([3],[3]),([1,4],[1,4]),([5,4],[5]),([6,6,0,1,2,3,4,5,6],[6])])
def key_Text.B3:List Nat:=[0,1,0,4,12,31,63,127]
theorem key_Text.tab3:rtab .any (opsOf Tryd.f33 3)=key_Text.T3:=by kernel_rfl
theorem key_Text.bits3:waitsOk key_Text.T3.2 key_Text.B3=true:=by kernel_rfl
set_option maxHeartbeats 8000000 in
set_option maxRecDepth 100000 in
theorem key_Text.calls (k:Nat) (a0_0:ByteArray) (A0_1:Option Addr) (c0_1:Nat) (l0_1:List (S52)) (r:ByteArray) (w:World) (hr0_1:Kd.C k52 w A0_1 l0_1.length l0_1) (hc0_1:l0_1.length≤c0_1) (h:key_Text.f k a0_0 l0_1=some r) :
  Calls Tryd.prog 33 #[.agg #[.string a0_0, .slice A0_1 l0_1.length c0_1]] w fun e w'=>e = .returned (.string r)∧Below w.heap.size w w':=by
 have hu41:=Tryd.underlying41
 have HR0_1:=Aside0.mk hr0_1
 have HC0_1:=Aside0.mk hc0_1
 clear hr0_1 hc0_1
 have HB:=Aside0.mk (Below.refl w.heap.size w)
 have H:(if (l0_1.length:Int)=0 then (some a0_0) else ((tag_Text.f k l0_1).bind fun t429=>((word_Join.f (⟨#[]⟩:ByteArray) (([a0_0,(⟨#[123]⟩:ByteArray),t429,(⟨#[125]⟩:ByteArray)]:List ByteArray))).bind fun t433=>(some t433))))=some r:=h
 clear h
 by_cases c2:(l0_1.length:Int)=0
 ·rw [if_pos c2] at H
  have c2b0:((l0_1.length:Int) ==0)=true:=beq_iff_eq.mpr c2
  have c2b1:((l0_1.length:Int) != 0)=false:=bne_eq_false_iff_eq.mpr c2
  clear c2
  obtain rfl:=Option.some.inj H
  go_enter Tryd.func33,Tryd.ntmps33
  go_wp2_with (first|((with_reducible refine gate_dst (N:=1) rfl ?_);refine box_event ?hg (N:=1) ?hd (cs:=#[.string a0_0, .slice A0_1 l0_1.length c0_1]) (t:=41) ?hr ?_;(case hd=>rfl);(case hg=>rfl);(case hr=>first|(go_simp;done)|(go_simp;rfl));intro gb428 hg w3 hbox hb;have n0_:=Aside0.mk (below_step (by repeat (first|(with_reducible first|exact HB.out|apply below_alloc|apply pw_below_drewN|apply below_drew1)|exact HB.out)) hb);have n1_:=Aside0.mk (hbox);have n2_:=Aside0.mk ((by rw [hg];exact (below_size (by repeat (first|(with_reducible first|exact HB.out|apply below_alloc|apply pw_below_drewN|apply below_drew1)|exact HB.out))):w.heap.size≤gb428));have n3_:=Aside0.mk ((by rw [hg];exact (below_size (by repeat (first|(with_reducible first|exact HB.out|apply below_alloc|apply pw_below_drewN|apply below_drew1)|exact HB.out))):w.heap.size≤gb428));clear HB;have HB:=n0_;have BK428:=n1_;have GW428:=n2_;have GE428:=n3_;clear n0_ n1_ n2_ n3_;clear hb hbox hg;have hcz4_0:w3.cell? ⟨gb428,0,none⟩=some (.string a0_0):=(blk_cell BK428.out 0).trans rfl;have hcz4_1:w3.cell? ⟨gb428,1,none⟩=some (.slice A0_1 l0_1.length c0_1):=(blk_cell BK428.out 1).trans rfl;have hfz4_0:=blk_frozen BK428.out 0;have hfz4_1:=blk_frozen BK428.out 1))
  go_ret
  exact ⟨by first|rfl|(simp [errW_none,errW_some]<;>rfl)|(simp [*,errW_none,errW_some]<;>rfl),by repeat (first|(with_reducible first|exact HB.out|apply below_alloc|apply pw_below_drewN|apply below_drew1|refine below_set ?_ GE428.out)|exact HB.out)⟩
 ·rw [if_neg c2] at H
  have c2b0:((l0_1.length:Int) ==0)=false:=beq_eq_false_iff_ne.mpr c2
  have c2b1:((l0_1.length:Int) != 0)=true:=bne_iff_ne.mpr c2
  have c2b2:¬ (l0_1=[]):=fun h_=>c2 (by rw [h_];rfl)
  replace H:=Option.bind_eq_some_iff.mp H
  obtain ⟨t429,A50,H⟩:=H
  replace H:((word_Join.f (⟨#[]⟩:ByteArray) (([a0_0,(⟨#[123]⟩:ByteArray),t429,(⟨#[125]⟩:ByteArray)]:List ByteArray))).bind fun t433=>(some t433))=some r:=H
  have A5:=Aside0.mk A50
  clear A50
  obtain ⟨y430,hy430⟩:∃ y_:List ByteArray,y_=(([a0_0,(⟨#[123]⟩:ByteArray),t429,(⟨#[125]⟩:ByteArray)]:List ByteArray)):=⟨_,rfl⟩
  replace H:((word_Join.f (⟨#[]⟩:ByteArray) y430).bind fun t433=>(some t433))=some r:=by first|(rw [hy430];with_reducible exact H)|(have H2_:=(Option.bind_some _ _).symm.trans H;rw [hy430];with_reducible exact H2_)|(have H2_:=(Option.bind_some _ _).symm.trans H;with_reducible exact H2_)|with_reducible exact H|(rw [hy430];exact H)|exact H
  have Ny430:=Aside0.mk hy430
  clear hy430
  replace H:=Option.bind_eq_some_iff.mp H
  obtain ⟨t433,A60,H⟩:=H
  replace H:(some t433)=some r:=H
  have A6:=Aside0.mk A60
  clear A60
  obtain rfl:=Option.some.inj H
  go_enter Tryd.func33,Tryd.ntmps33
  try go_wp2_with (first|((with_reducible refine gate_dst (N:=1) rfl ?_);refine box_event ?hg (N:=1) ?hd (cs:=#[.string a0_0, .slice A0_1 l0_1.length c0_1]) (t:=41) ?hr ?_;(case hd=>rfl);(case hg=>rfl);(case hr=>first|(go_simp;done)|(go_simp;rfl));intro gb428 hg w7 hbox hb;have n0_:=Aside0.mk (below_step (by repeat (first|(with_reducible first|exact HB.out|apply below_alloc|apply pw_below_drewN|apply below_drew1)|exact HB.out)) hb);have n1_:=Aside0.mk (hbox);have n2_:=Aside0.mk ((by rw [hg];exact (below_size (by repeat (first|(with_reducible first|exact HB.out|apply below_alloc|apply pw_below_drewN|apply below_drew1)|exact HB.out))):w.heap.size≤gb428));have n3_:=Aside0.mk ((by rw [hg];exact (below_size (by repeat (first|(with_reducible first|exact HB.out|apply below_alloc|apply pw_below_drewN|apply below_drew1)|exact HB.out))):w.heap.size≤gb428));clear HB;have HB:=n0_;have BK428:=n1_;have GW428:=n2_;have GE428:=n3_;clear n0_ n1_ n2_ n3_;clear hb hbox hg;have hcz8_0:w7.cell? ⟨gb428,0,none⟩=some (.string a0_0):=(blk_cell BK428.out 0).trans rfl;have hcz8_1:w7.cell? ⟨gb428,1,none⟩=some (.slice A0_1 l0_1.length c0_1):=(blk_cell BK428.out 1).trans rfl;have hfz8_0:=blk_frozen BK428.out 0;have hfz8_1:=blk_frozen BK428.out 1))
  have n0_:=Aside0.mk (blk_drew BK428.out)
  have n1_:=Aside0.mk (below_drew1 HB.out)
  clear BK428
  clear HB
  have BK428:=n0_
  have HB:=n1_
  clear n0_ n1_
  refine start_ (n:=8) (S:=fun w'=>w'.cell? ⟨gb428,0,none⟩=some (.string a0_0)∧w'.cell? ⟨gb428,1,none⟩=some (.slice A0_1 l0_1.length c0_1)) (ds:=[]) #[false,false,false,false,false,false,false,false] (by kernel_rfl) rfl rfl ⟨(blk_cell BK428.out 0).trans rfl,(blk_cell BK428.out 1).trans rfl⟩ (fun hHeld=>?_);refine with_tabW key_Text.tab3 key_Text.bits3 (fun HT_ HW_=>?_)
  generalize w7.drew=w9 at BK428 HB hHeld ⊢
  refine pure_ (i:=0) (N:=some 9) (v:=?_) (a':=?_) #[true,false,false,false,false,false,false,false] rfl rfl (any_of HT_.out (by kernel_rfl)) (fun _ _ _ h=>h) (Or.inl ⟨by rfl,?_⟩) ?_ ?_
  rotate_left
  ·intro w';go_simp;with_reducible rfl
  rotate_left
  ·simp only [Act.put,List.setIfInBounds_toArray,List.set_cons_zero,List.set_cons_succ,i64_w,i32_w];rfl
  refine pure_ (i:=2) (N:=some 11) (v:=?_) (a':=?_) #[true,false,true,false,false,false,false,false] rfl rfl (any_of HT_.out (by kernel_rfl)) (fun _ _ _ h=>h) (Or.inl ⟨by rfl,?_⟩) ?_ ?_
  rotate_left
  ·intro w';go_simp;with_reducible rfl
  rotate_left
  ·simp only [Act.put,List.setIfInBounds_toArray,List.set_cons_zero,List.set_cons_succ,i64_w,i32_w];rfl
  refine take_ (i:=1) (N:=some 10) (v:=?_) (a':=?_) #[true,true,true,false,false,false,false,false] rfl rfl (take_ofW HT_.out HW_.out (by kernel_rfl)) (fun _ _ _ h=>h) (Or.inl ⟨by rfl,?_⟩) hHeld ?_ ?_
  rotate_left
  ·rintro w' ⟨s0,s1⟩;go_simp;with_reducible rfl
  rotate_left
  ·simp only [Act.put,List.setIfInBounds_toArray,List.set_cons_zero,List.set_cons_succ,i64_w,i32_w];rfl
  refine take_ (i:=3) (N:=some 12) (v:=?_) (a':=?_) #[true,true,true,true,false,false,false,false] rfl rfl (take_ofW HT_.out HW_.out (by kernel_rfl)) (fun _ _ _ h=>h) (Or.inl ⟨by rfl,?_⟩) hHeld ?_ ?_
  rotate_left
  ·rintro w' ⟨s0,s1⟩;go_simp;with_reducible rfl
  rotate_left
  ·simp only [Act.put,List.setIfInBounds_toArray,List.set_cons_zero,List.set_cons_succ,i64_w,i32_w];rfl
  refine one_ (i:=4) (N:=some 13) #[true,true,true,true,true,false,false,false] rfl rfl (one_of HT_.out (by kernel_rfl)) (by decide) (fun K hK=>?_)
  refine goes_ Tryd.func21 (by kernel_rfl) rfl #[.slice A0_1 l0_1.length c0_1] (by rfl) rfl rfl (by (try simp only [List.map_toArray,List.map_cons,List.map_nil]);first|done|rfl|(simp only [List.length_drop,List.length_take];rfl)) ?_
  with_reducible refine (tag_Text.calls k _ _ l0_1 t429 _ ?side1 ?side2 A5.out).mono ?_
  (case side1=>repeat (first|exact (Kd.C_below HR0_1.out HB.out)|(with_reducible refine Kd.C_alloc ?_ _)|(with_reducible refine Kd.C_drewN ?_ _)|(with_reducible refine Kd.C_drew ?_)))
  (case side2=>exact HC0_1.out)
  rintro e w10 ⟨rfl,hb⟩
  refine ⟨_,rfl,?_⟩
  have n0_:=Aside0.mk (blk_below (g:=gb428) (o := .cells #[.string a0_0, .slice A0_1 l0_1.length c0_1] 41 (0,0)) (by (with_reducible repeat (first|refine blk_drewN ?_ _|refine blk_drew ?_|refine blk_alloc ?_ _));exact BK428.out) hb)
  have n1_:=Aside0.mk (below_step (by repeat (first|(with_reducible first|exact HB.out|apply below_alloc|apply pw_below_drewN|apply below_drew1|refine below_set ?_ GE428.out)|exact HB.out)) hb)
  clear BK428
  clear HB
  have BK428:=n0_
  have HB:=n1_
  clear n0_ n1_
  (try clear hb)
  (try clear hb2)
  (try clear hk)
  (try clear hi)
  refine hK.out _ _ ⟨(blk_cell BK428.out 0).trans rfl,(blk_cell BK428.out 1).trans rfl⟩ (fun hHeld=>?_)
  clear hK K
  refine norm_ (a':=?_) ?_ ?_
  rotate_left
  ·show Act.put _ (some 13) _=_
   simp only [Act.put,List.setIfInBounds_toArray,List.set_cons_zero,List.set_cons_succ,i64_w,i32_w]
   rfl
  refine one_ (i:=5) (N:=some 14) #[true,true,true,true,true,true,false,false] rfl rfl (one_of HT_.out (by kernel_rfl)) (by decide) (fun K hK=>?_)
  refine Kd.R_lit_step Kd.string _ 9 ?hg (N:=14) ?hd (xs:=([a0_0,(⟨#[123]⟩:ByteArray),t429,(⟨#[125]⟩:ByteArray)]:List ByteArray)) (inner:=[.string a0_0, .string (⟨#[123]⟩:ByteArray), .string t429, .string (⟨#[125]⟩:ByteArray)]) (ok:=fun _=>True) (okp:=fun _=>True) ?hr ?hp (fun _ hk=>hk) trivial (Below.refl _ _) (Nat.le_refl _) (by simp) ?_;(case hd=>rfl);(case hg=>rfl);(case hr=>first|(go_simp;done)|(go_simp;rfl));(case hp=>exact (Reps.one (show Kd.M Kd.string _ _ _ a0_0 [.string a0_0] from rfl) (Reps.one (show Kd.M Kd.string _ _ _ (⟨#[123]⟩:ByteArray) [.string (⟨#[123]⟩:ByteArray)] from rfl) (Reps.one (show Kd.M Kd.string _ _ _ t429 [.string t429] from rfl) (Reps.one (show Kd.M Kd.string _ _ _ (⟨#[125]⟩:ByteArray) [.string (⟨#[125]⟩:ByteArray)] from rfl) (Reps.none _ _))))))
  intro v431 w11 ho12 hb hg_ hnew_
  clear hg_ hnew_
  (first|rw [← Ny430.out] at ho12|(simp only [Int.reduceToNat] at ho12;rw [← Ny430.out] at ho12))
  have n0_:=Aside0.mk (Kd.R_lower ho12 (below_size (by repeat (first|(with_reducible first|exact HB.out|apply below_alloc|apply pw_below_drewN|apply below_drew1|refine below_set ?_ GE428.out)|exact HB.out))))
  have n1_:=Aside0.mk (blk_below (g:=gb428) (o := .cells #[.string a0_0, .slice A0_1 l0_1.length c0_1] 41 (0,0)) (by (with_reducible repeat (first|refine blk_drewN ?_ _|refine blk_drew ?_|refine blk_alloc ?_ _));exact BK428.out) hb)
  have n2_:=Aside0.mk (below_step (by repeat (first|(with_reducible first|exact HB.out|apply below_alloc|apply pw_below_drewN|apply below_drew1|refine below_set ?_ GE428.out)|exact HB.out)) hb)
  clear BK428
  clear HB
  have HO432:=n0_
  have BK428:=n1_
  have HB:=n2_
  clear n0_ n1_ n2_
  clear hb ho12
  obtain ⟨Ao13,co13,eo13⟩:=Kd.R_slice HO432.out
  (first|subst eo13|(injection eo13 with f1_ f2_ f3_;have f4_:=f1_.symm;have f5_:=f3_.symm;clear f1_ f2_ f3_;subst f4_;subst f5_))
  refine hK.out _ _ ⟨(blk_cell BK428.out 0).trans rfl,(blk_cell BK428.out 1).trans rfl⟩ (fun hHeld=>?_)
  clear hK K
  refine norm_ (a':=?_) ?_ ?_
  rotate_left
  ·show Act.put _ (some 14) _=_
   simp only [Act.put,List.setIfInBounds_toArray,List.set_cons_zero,List.set_cons_succ,i64_w,i32_w]
   rfl
  refine one_ (i:=6) (N:=some 15) #[true,true,true,true,true,true,true,false] rfl rfl (one_of HT_.out (by kernel_rfl)) (by decide) (fun K hK=>?_)
  refine goes_ Tryd.func46 (by kernel_rfl) rfl #[.string (⟨#[]⟩:ByteArray), .slice Ao13 y430.length co13] (by rfl) rfl rfl (by (try simp only [List.map_toArray,List.map_cons,List.map_nil]);first|done|rfl|(simp only [List.length_drop,List.length_take];rfl)) ?_
  with_reducible refine (word_Join.calls (⟨#[]⟩:ByteArray) _ _ y430 t433 _ ?side1 ?side2 A6.out).mono ?_
  (case side1=>repeat (first|exact (Kd.R_reads' HO432.out).2.2|(with_reducible refine Kd.C_alloc ?_ _)|(with_reducible refine Kd.C_drewN ?_ _)|(with_reducible refine Kd.C_drew ?_)))
  (case side2=>exact (Kd.R_reads' HO432.out).2.1)
  rintro e w14 ⟨rfl,hb⟩
  refine ⟨_,rfl,?_⟩
  have n0_:=Aside0.mk (Kd.R_below (by (with_reducible repeat (first|apply Kd.R_alloc|apply Kd.R_drewN|apply Kd.R_drew));exact HO432.out) hb)
  have n1_:=Aside0.mk (blk_below (g:=gb428) (o := .cells #[.string a0_0, .slice A0_1 l0_1.length c0_1] 41 (0,0)) (by (with_reducible repeat (first|refine blk_drewN ?_ _|refine blk_drew ?_|refine blk_alloc ?_ _));exact BK428.out) hb)
  have n2_:=Aside0.mk (below_step (by repeat (first|(with_reducible first|exact HB.out|apply below_alloc|apply pw_below_drewN|apply below_drew1|refine below_set ?_ GE428.out)|exact HB.out)) hb)
  clear HO432
  clear BK428
  clear HB
  have HO432:=n0_
  have BK428:=n1_
  have HB:=n2_
  clear n0_ n1_ n2_
  (try clear hb)
  (try clear hb2)
  (try clear hk)
  (try clear hi)
  refine hK.out _ _ ⟨(blk_cell BK428.out 0).trans rfl,(blk_cell BK428.out 1).trans rfl⟩ (fun hHeld=>?_)
  clear hK K
  refine norm_ (a':=?_) ?_ ?_
  rotate_left
  ·show Act.put _ (some 15) _=_
   simp only [Act.put,List.setIfInBounds_toArray,List.set_cons_zero,List.set_cons_succ,i64_w,i32_w]
   rfl
  refine pure_ (i:=7) (N:=some 2) (v:=?_) (a':=?_) #[true,true,true,true,true,true,true,true] rfl rfl (any_of HT_.out (by kernel_rfl)) (fun _ _ _ h=>h) (Or.inl ⟨by rfl,?_⟩) ?_ ?_
  rotate_left
  ·intro w';go_simp;with_reducible rfl
  rotate_left
  ·simp only [Act.put,List.setIfInBounds_toArray,List.set_cons_zero,List.set_cons_succ,i64_w,i32_w];rfl
  refine done_ (done_of HT_.out (by kernel_rfl)) ?_
  try go_wp2
  go_ret
  exact ⟨by first|rfl|(simp [errW_none,errW_some]<;>rfl)|(simp [*,errW_none,errW_some]<;>rfl),by repeat (first|(with_reducible first|exact HB.out|apply below_alloc|apply pw_below_drewN|apply below_drew1|refine below_set ?_ GE428.out)|exact HB.out)⟩
def key_Same.f (k:Nat) (a0_0:ByteArray) (l0_1:List (S52)) (a1_0:ByteArray) (l1_1:List (S52)):Option (Bool):=if a0_0.toList=a1_0.toList then ((slices_Equal_Tag.f k l0_1 l1_1).bind fun t436=>(some t436)) else (some false)
theorem key_Same.mono:∀ a0 a1 a2 a3 k,LeO (key_Same.f k a0 a1 a2 a3) (key_Same.f (k+1) a0 a1 a2 a3):=by
 intro a0 a1 a2 a3 k
 unfold key_Same.f
 repeat' first
   | (with_reducible exact slices_Equal_Tag.mono _ _ _)
   | (with_reducible exact LeO.refl _)
   | (with_reducible exact LeO.none _)
   | (with_reducible refine LeO.ite ?_ ?_)
   | (with_reducible refine LeO.bind ?_ (fun _=>?_))
   | exact slices_Equal_Tag.mono _ _ _
   | exact LeO.none _
   | refine LeO.ite ?_ ?_
   | refine LeO.bind ?_ (fun _=>?_)
set_option maxHeartbeats 8000000 in
set_option maxRecDepth 100000 in
theorem key_Same.calls (k:Nat) (a0_0:ByteArray) (A0_1:Option Addr) (c0_1:Nat) (l0_1:List (S52)) (a1_0:ByteArray) (A1_1:Option Addr) (c1_1:Nat) (l1_1:List (S52)) (r:Bool) (w:World) (hr0_1:Kd.C k52 w A0_1 l0_1.length l0_1) (hc0_1:l0_1.length≤c0_1) (hr1_1:Kd.C k52 w A1_1 l1_1.length l1_1) (hc1_1:l1_1.length≤c1_1) (h:key_Same.f k a0_0 l0_1 a1_0 l1_1=some r) :
  Calls Tryd.prog 35 #[.agg #[.string a0_0, .slice A0_1 l0_1.length c0_1], .agg #[.string a1_0, .slice A1_1 l1_1.length c1_1]] w fun e w'=>e = .returned (.bool r)∧Below w.heap.size w w':=by
 have hu41:=Tryd.underlying41
 have HR0_1:=Aside0.mk hr0_1
 have HC0_1:=Aside0.mk hc0_1
 clear hr0_1 hc0_1
 have HR1_1:=Aside0.mk hr1_1
 have HC1_1:=Aside0.mk hc1_1
 clear hr1_1 hc1_1
 have HB:=Aside0.mk (Below.refl w.heap.size w)
 have H:(if a0_0.toList=a1_0.toList then ((slices_Equal_Tag.f k l0_1 l1_1).bind fun t436=>(some t436)) else (some false))=some r:=h
 clear h
 by_cases c3:a0_0.toList=a1_0.toList
 ·rw [if_pos c3] at H
  have c3b0:(a0_0.toList ==a1_0.toList)=true:=beq_iff_eq.mpr c3
  have c3b1:(a0_0.toList != a1_0.toList)=false:=bne_eq_false_iff_eq.mpr c3
  clear c3
  replace H:=Option.bind_eq_some_iff.mp H
  obtain ⟨t436,A40,H⟩:=H
  replace H:(some t436)=some r:=H
  have A4:=Aside0.mk A40
  clear A40
  obtain rfl:=Option.some.inj H
  go_enter Tryd.func35,Tryd.ntmps35
  go_wp2_with (first|((with_reducible refine gate_dst (N:=2) rfl ?_);refine box_event ?hg (N:=2) ?hd (cs:=#[.string a0_0, .slice A0_1 l0_1.length c0_1]) (t:=41) ?hr ?_;(case hd=>rfl);(case hg=>rfl);(case hr=>first|(go_simp;done)|(go_simp;rfl));intro gb434 hg w5 hbox hb;have n0_:=Aside0.mk (below_step (by repeat (first|(with_reducible first|exact HB.out|apply below_alloc|apply pw_below_drewN|apply below_drew1)|exact HB.out)) hb);have n1_:=Aside0.mk (hbox);have n2_:=Aside0.mk ((by rw [hg];exact (below_size (by repeat (first|(with_reducible first|exact HB.out|apply below_alloc|apply pw_below_drewN|apply below_drew1)|exact HB.out))):w.heap.size≤gb434));have n3_:=Aside0.mk ((by rw [hg];exact (below_size (by repeat (first|(with_reducible first|exact HB.out|apply below_alloc|apply pw_below_drewN|apply below_drew1)|exact HB.out))):w.heap.size≤gb434));clear HB;have HB:=n0_;have BK434:=n1_;have GW434:=n2_;have GE434:=n3_;clear n0_ n1_ n2_ n3_;clear hb hbox hg)|((with_reducible refine gate_dst (N:=3) rfl ?_);refine box_event ?hg (N:=3) ?hd (cs:=#[.string a1_0, .slice A1_1 l1_1.length c1_1]) (t:=41) ?hr ?_;(case hd=>rfl);(case hg=>rfl);(case hr=>first|(go_simp;done)|(go_simp;rfl));intro gb435 hg w6 hbox hb;have n0_:=Aside0.mk (blk_below (g:=gb434) (o := .cells #[.string a0_0, .slice A0_1 l0_1.length c0_1] 41 (0,0)) (by (with_reducible repeat (first|refine blk_drewN ?_ _|refine blk_drew ?_|refine blk_alloc ?_ _));exact BK434.out) hb);have n1_:=Aside0.mk (below_step (by repeat (first|(with_reducible first|exact HB.out|apply below_alloc|apply pw_below_drewN|apply below_drew1|refine below_set ?_ GE434.out)|exact HB.out)) hb);have n2_:=Aside0.mk (hbox);have n3_:=Aside0.mk ((by rw [hg];exact (below_size (by repeat (first|(with_reducible first|exact HB.out|apply below_alloc|apply pw_below_drewN|apply below_drew1|refine below_set ?_ GE434.out)|exact HB.out))):w.heap.size≤gb435));have n4_:=Aside0.mk ((by rw [hg];exact (below_size (by repeat (first|(with_reducible first|exact HB.out|apply below_alloc|apply pw_below_drewN|apply below_drew1|refine below_set ?_ GE434.out)|exact HB.out))):w.heap.size≤gb435));have n5_:=Aside0.mk ((by rw [hg];exact Nat.ne_of_lt (blk_lt (g:=gb434) (o := .cells #[.string a0_0, .slice A0_1 l0_1.length c0_1] 41 (0,0)) (by (with_reducible repeat (first|refine blk_drewN ?_ _|refine blk_drew ?_|refine blk_alloc ?_ _));exact BK434.out)):gb434≠gb435));have n6_:=Aside0.mk ((by rw [hg];exact Nat.ne_of_gt (blk_lt (g:=gb434) (o := .cells #[.string a0_0, .slice A0_1 l0_1.length c0_1] 41 (0,0)) (by (with_reducible repeat (first|refine blk_drewN ?_ _|refine blk_drew ?_|refine blk_alloc ?_ _));exact BK434.out)):gb435≠gb434));clear BK434;clear HB;have BK434:=n0_;have HB:=n1_;have BK435:=n2_;have GW435:=n3_;have GE435:=n4_;have NB434_435:=n5_;have NB435_434:=n6_;clear n0_ n1_ n2_ n3_ n4_ n5_ n6_;clear hb hbox hg;have hnb7:=NB434_435.out;have hnc7:=NB435_434.out;have hcz8_0:w6.cell? ⟨gb434,0,none⟩=some (.string a0_0):=(blk_cell BK434.out 0).trans rfl;have hcz8_1:w6.cell? ⟨gb434,1,none⟩=some (.slice A0_1 l0_1.length c0_1):=(blk_cell BK434.out 1).trans rfl;have hfz8_0:=blk_frozen BK434.out 0;have hfz8_1:=blk_frozen BK434.out 1;have hcz9_0:w6.cell? ⟨gb435,0,none⟩=some (.string a1_0):=(blk_cell BK435.out 0).trans rfl;have hcz9_1:w6.cell? ⟨gb435,1,none⟩=some (.slice A1_1 l1_1.length c1_1):=(blk_cell BK435.out 1).trans rfl;have hfz9_0:=blk_frozen BK435.out 0;have hfz9_1:=blk_frozen BK435.out 1)|(go_at_call 45;(with_reducible refine (slices_Equal_Tag.calls k _ _ l0_1 _ _ l1_1 t436 _ ?side1 ?side2 ?side3 ?side4 A4.out).mono ?_);(case side1=>repeat (first|exact (Kd.C_below HR0_1.out HB.out)|(with_reducible refine Kd.C_alloc ?_ _)|(with_reducible refine Kd.C_drewN ?_ _)|(with_reducible refine Kd.C_drew ?_)));(case side2=>exact HC0_1.out);(case side3=>repeat (first|exact (Kd.C_below HR1_1.out HB.out)|(with_reducible refine Kd.C_alloc ?_ _)|(with_reducible refine Kd.C_drewN ?_ _)|(with_reducible refine Kd.C_drew ?_)));(case side4=>exact HC1_1.out);rintro e w' ⟨rfl,⟨nd,rfl⟩⟩))
  go_ret
  exact ⟨by first|rfl|(simp [errW_none,errW_some]<;>rfl)|(simp [*,errW_none,errW_some]<;>rfl),by repeat (first|(with_reducible first|exact HB.out|apply below_alloc|apply pw_below_drewN|apply below_drew1|refine below_set ?_ GE434.out|refine below_set ?_ GE435.out)|exact HB.out)⟩
 ·rw [if_neg c3] at H
  have c3b0:(a0_0.toList ==a1_0.toList)=false:=beq_eq_false_iff_ne.mpr c3
  have c3b1:(a0_0.toList != a1_0.toList)=true:=bne_iff_ne.mpr c3
  obtain rfl:=Option.some.inj H
  go_enter Tryd.func35,Tryd.ntmps35
  go_wp2_with (first|((with_reducible refine gate_dst (N:=2) rfl ?_);refine box_event ?hg (N:=2) ?hd (cs:=#[.string a0_0, .slice A0_1 l0_1.length c0_1]) (t:=41) ?hr ?_;(case hd=>rfl);(case hg=>rfl);(case hr=>first|(go_simp;done)|(go_simp;rfl));intro gb434 hg w10 hbox hb;have n0_:=Aside0.mk (below_step (by repeat (first|(with_reducible first|exact HB.out|apply below_alloc|apply pw_below_drewN|apply below_drew1)|exact HB.out)) hb);have n1_:=Aside0.mk (hbox);have n2_:=Aside0.mk ((by rw [hg];exact (below_size (by repeat (first|(with_reducible first|exact HB.out|apply below_alloc|apply pw_below_drewN|apply below_drew1)|exact HB.out))):w.heap.size≤gb434));have n3_:=Aside0.mk ((by rw [hg];exact (below_size (by repeat (first|(with_reducible first|exact HB.out|apply below_alloc|apply pw_below_drewN|apply below_drew1)|exact HB.out))):w.heap.size≤gb434));clear HB;have HB:=n0_;have BK434:=n1_;have GW434:=n2_;have GE434:=n3_;clear n0_ n1_ n2_ n3_;clear hb hbox hg)|((with_reducible refine gate_dst (N:=3) rfl ?_);refine box_event ?hg (N:=3) ?hd (cs:=#[.string a1_0, .slice A1_1 l1_1.length c1_1]) (t:=41) ?hr ?_;(case hd=>rfl);(case hg=>rfl);(case hr=>first|(go_simp;done)|(go_simp;rfl));intro gb435 hg w11 hbox hb;have n0_:=Aside0.mk (blk_below (g:=gb434) (o := .cells #[.string a0_0, .slice A0_1 l0_1.length c0_1] 41 (0,0)) (by (with_reducible repeat (first|refine blk_drewN ?_ _|refine blk_drew ?_|refine blk_alloc ?_ _));exact BK434.out) hb);have n1_:=Aside0.mk (below_step (by repeat (first|(with_reducible first|exact HB.out|apply below_alloc|apply pw_below_drewN|apply below_drew1|refine below_set ?_ GE434.out)|exact HB.out)) hb);have n2_:=Aside0.mk (hbox);have n3_:=Aside0.mk ((by rw [hg];exact (below_size (by repeat (first|(with_reducible first|exact HB.out|apply below_alloc|apply pw_below_drewN|apply below_drew1|refine below_set ?_ GE434.out)|exact HB.out))):w.heap.size≤gb435));have n4_:=Aside0.mk ((by rw [hg];exact (below_size (by repeat (first|(with_reducible first|exact HB.out|apply below_alloc|apply pw_below_drewN|apply below_drew1|refine below_set ?_ GE434.out)|exact HB.out))):w.heap.size≤gb435));have n5_:=Aside0.mk ((by rw [hg];exact Nat.ne_of_lt (blk_lt (g:=gb434) (o := .cells #[.string a0_0, .slice A0_1 l0_1.length c0_1] 41 (0,0)) (by (with_reducible repeat (first|refine blk_drewN ?_ _|refine blk_drew ?_|refine blk_alloc ?_ _));exact BK434.out)):gb434≠gb435));have n6_:=Aside0.mk ((by rw [hg];exact Nat.ne_of_gt (blk_lt (g:=gb434) (o := .cells #[.string a0_0, .slice A0_1 l0_1.length c0_1] 41 (0,0)) (by (with_reducible repeat (first|refine blk_drewN ?_ _|refine blk_drew ?_|refine blk_alloc ?_ _));exact BK434.out)):gb435≠gb434));clear BK434;clear HB;have BK434:=n0_;have HB:=n1_;have BK435:=n2_;have GW435:=n3_;have GE435:=n4_;have NB434_435:=n5_;have NB435_434:=n6_;clear n0_ n1_ n2_ n3_ n4_ n5_ n6_;clear hb hbox hg;have hnb12:=NB434_435.out;have hnc12:=NB435_434.out;have hcz13_0:w11.cell? ⟨gb434,0,none⟩=some (.string a0_0):=(blk_cell BK434.out 0).trans rfl;have hcz13_1:w11.cell? ⟨gb434,1,none⟩=some (.slice A0_1 l0_1.length c0_1):=(blk_cell BK434.out 1).trans rfl;have hfz13_0:=blk_frozen BK434.out 0;have hfz13_1:=blk_frozen BK434.out 1;have hcz14_0:w11.cell? ⟨gb435,0,none⟩=some (.string a1_0):=(blk_cell BK435.out 0).trans rfl;have hcz14_1:w11.cell? ⟨gb435,1,none⟩=some (.slice A1_1 l1_1.length c1_1):=(blk_cell BK435.out 1).trans rfl;have hfz14_0:=blk_frozen BK435.out 0;have hfz14_1:=blk_frozen BK435.out 1))
  go_ret
  exact ⟨by first|rfl|(simp [errW_none,errW_some]<;>rfl)|(simp [*,errW_none,errW_some]<;>rfl),by repeat (first|(with_reducible first|exact HB.out|apply below_alloc|apply pw_below_drewN|apply below_drew1|refine below_set ?_ GE434.out|refine below_set ?_ GE435.out)|exact HB.out)⟩
def key_Right.f (k:Nat) (a0_0:ByteArray) (l0_1:List (S52)):Option (Bool):=(word_Name.f a0_0).bind fun t438=>(if t438=true then ((tag_Right.f k l0_1).bind fun t439=>(some t439)) else (some false))
theorem key_Right.mono:∀ a0 a1 k,LeO (key_Right.f k a0 a1) (key_Right.f (k+1) a0 a1):=by
 intro a0 a1 k
 unfold key_Right.f
 repeat' first
   | (with_reducible exact tag_Right.mono _ _)
   | (with_reducible exact LeO.refl _)
   | (with_reducible exact LeO.none _)
   | (with_reducible refine LeO.ite ?_ ?_)
   | (with_reducible refine LeO.bind ?_ (fun _=>?_))
   | exact tag_Right.mono _ _
   | exact LeO.none _
   | refine LeO.ite ?_ ?_
   | refine LeO.bind ?_ (fun _=>?_)
set_option maxHeartbeats 8000000 in
set_option maxRecDepth 100000 in
theorem key_Right.calls (k:Nat) (a0_0:ByteArray) (A0_1:Option Addr) (c0_1:Nat) (l0_1:List (S52)) (r:Bool) (w:World) (hr0_1:Kd.C k52 w A0_1 l0_1.length l0_1) (hc0_1:l0_1.length≤c0_1) (h:key_Right.f k a0_0 l0_1=some r) :
  Calls Tryd.prog 31 #[.agg #[.string a0_0, .slice A0_1 l0_1.length c0_1]] w fun e w'=>e = .returned (.bool r)∧Below w.heap.size w w':=by
 have hu41:=Tryd.underlying41
 have HR0_1:=Aside0.mk hr0_1
 have HC0_1:=Aside0.mk hc0_1
 clear hr0_1 hc0_1
 have HB:=Aside0.mk (Below.refl w.heap.size w)
 have H:((word_Name.f a0_0).bind fun t438=>(if t438=true then ((tag_Right.f k l0_1).bind fun t439=>(some t439)) else (some false)))=some r:=h
 clear h
 replace H:=Option.bind_eq_some_iff.mp H
 obtain ⟨t438,A20,H⟩:=H
 replace H:(if t438=true then ((tag_Right.f k l0_1).bind fun t439=>(some t439)) else (some false))=some r:=H
 have A2:=Aside0.mk A20
 clear A20
 by_cases c3:t438=true
 ·subst c3
  have H1:((tag_Right.f k l0_1).bind fun t439=>(some t439))=some r:=by rw [if_pos rfl] at H;exact H
  clear H
  have H:=H1
  clear H1
  replace H:=Option.bind_eq_some_iff.mp H
  obtain ⟨t439,A40,H⟩:=H
  replace H:(some t439)=some r:=H
  have A4:=Aside0.mk A40
  clear A40
  obtain rfl:=Option.some.inj H
  go_enter Tryd.func31,Tryd.ntmps31
  go_wp2_with (first|((with_reducible refine gate_dst (N:=1) rfl ?_);refine box_event ?hg (N:=1) ?hd (cs:=#[.string a0_0, .slice A0_1 l0_1.length c0_1]) (t:=41) ?hr ?_;(case hd=>rfl);(case hg=>rfl);(case hr=>first|(go_simp;done)|(go_simp;rfl));intro gb437 hg w5 hbox hb;have n0_:=Aside0.mk (below_step (by repeat (first|(with_reducible first|exact HB.out|apply below_alloc|apply pw_below_drewN|apply below_drew1)|exact HB.out)) hb);have n1_:=Aside0.mk (hbox);have n2_:=Aside0.mk ((by rw [hg];exact (below_size (by repeat (first|(with_reducible first|exact HB.out|apply below_alloc|apply pw_below_drewN|apply below_drew1)|exact HB.out))):w.heap.size≤gb437));have n3_:=Aside0.mk ((by rw [hg];exact (below_size (by repeat (first|(with_reducible first|exact HB.out|apply below_alloc|apply pw_below_drewN|apply below_drew1)|exact HB.out))):w.heap.size≤gb437));clear HB;have HB:=n0_;have BK437:=n1_;have GW437:=n2_;have GE437:=n3_;clear n0_ n1_ n2_ n3_;clear hb hbox hg;have hcz6_0:w5.cell? ⟨gb437,0,none⟩=some (.string a0_0):=(blk_cell BK437.out 0).trans rfl;have hcz6_1:w5.cell? ⟨gb437,1,none⟩=some (.slice A0_1 l0_1.length c0_1):=(blk_cell BK437.out 1).trans rfl;have hfz6_0:=blk_frozen BK437.out 0;have hfz6_1:=blk_frozen BK437.out 1)|((with_reducible refine gate_callee (f:=53) rfl ?_);refine goesL_ (some 5) rfl rfl Tryd.func53 (by kernel_rfl) rfl #[.string a0_0] rfl (by (try simp only [List.map_toArray,List.map_cons,List.map_nil]);first|done|rfl|(simp only [List.length_drop,List.length_take];rfl)) ?_;(with_reducible refine (word_Name.calls a0_0 true _ A2.out).mono ?_);rintro e w7 ⟨rfl,hb⟩;refine ⟨_,rfl,?_⟩;have n0_:=Aside0.mk (blk_below (g:=gb437) (o := .cells #[.string a0_0, .slice A0_1 l0_1.length c0_1] 41 (0,0)) (by (with_reducible repeat (first|refine blk_drewN ?_ _|refine blk_drew ?_|refine blk_alloc ?_ _));exact BK437.out) hb);have n1_:=Aside0.mk (below_step (by repeat (first|(with_reducible first|exact HB.out|apply below_alloc|apply pw_below_drewN|apply below_drew1|refine below_set ?_ GE437.out)|exact HB.out)) hb);clear BK437;clear HB;have BK437:=n0_;have HB:=n1_;clear n0_ n1_;(try clear hb);(try clear hb2);(try clear hk);(try clear hi);have hcz8_0:w7.cell? ⟨gb437,0,none⟩=some (.string a0_0):=(blk_cell BK437.out 0).trans rfl;have hcz8_1:w7.cell? ⟨gb437,1,none⟩=some (.slice A0_1 l0_1.length c0_1):=(blk_cell BK437.out 1).trans rfl;have hfz8_0:=blk_frozen BK437.out 0;have hfz8_1:=blk_frozen BK437.out 1)|(go_at_call 19;(with_reducible refine (tag_Right.calls k _ _ l0_1 t439 _ ?side1 ?side2 A4.out).mono ?_);(case side1=>repeat (first|exact (Kd.C_below HR0_1.out HB.out)|(with_reducible refine Kd.C_alloc ?_ _)|(with_reducible refine Kd.C_drewN ?_ _)|(with_reducible refine Kd.C_drew ?_)));(case side2=>exact HC0_1.out);rintro e w9 ⟨rfl,hb⟩;have n0_:=Aside0.mk (blk_below (g:=gb437) (o := .cells #[.string a0_0, .slice A0_1 l0_1.length c0_1] 41 (0,0)) (by (with_reducible repeat (first|refine blk_drewN ?_ _|refine blk_drew ?_|refine blk_alloc ?_ _));exact BK437.out) hb);have n1_:=Aside0.mk (below_step (by repeat (first|(with_reducible first|exact HB.out|apply below_alloc|apply pw_below_drewN|apply below_drew1|refine below_set ?_ GE437.out)|exact HB.out)) hb);clear BK437;clear HB;have BK437:=n0_;have HB:=n1_;clear n0_ n1_;(try clear hb);(try clear hb2);(try clear hk);(try clear hi)))
  go_ret
  exact ⟨by first|rfl|(simp [errW_none,errW_some]<;>rfl)|(simp [*,errW_none,errW_some]<;>rfl),by repeat (first|(with_reducible first|exact HB.out|apply below_alloc|apply pw_below_drewN|apply below_drew1|refine below_set ?_ GE437.out)|exact HB.out)⟩
 ·replace c3:=Bool.eq_false_iff.mpr c3
  subst c3
  have H1:(some false)=some r:=by rw [if_neg (show ¬ (false=true) by decide)] at H;exact H
  clear H
  have H:=H1
  clear H1
  obtain rfl:=Option.some.inj H
  go_enter Tryd.func31,Tryd.ntmps31
  go_wp2_with (first|((with_reducible refine gate_dst (N:=1) rfl ?_);refine box_event ?hg (N:=1) ?hd (cs:=#[.string a0_0, .slice A0_1 l0_1.length c0_1]) (t:=41) ?hr ?_;(case hd=>rfl);(case hg=>rfl);(case hr=>first|(go_simp;done)|(go_simp;rfl));intro gb437 hg w10 hbox hb;have n0_:=Aside0.mk (below_step (by repeat (first|(with_reducible first|exact HB.out|apply below_alloc|apply pw_below_drewN|apply below_drew1)|exact HB.out)) hb);have n1_:=Aside0.mk (hbox);have n2_:=Aside0.mk ((by rw [hg];exact (below_size (by repeat (first|(with_reducible first|exact HB.out|apply below_alloc|apply pw_below_drewN|apply below_drew1)|exact HB.out))):w.heap.size≤gb437));have n3_:=Aside0.mk ((by rw [hg];exact (below_size (by repeat (first|(with_reducible first|exact HB.out|apply below_alloc|apply pw_below_drewN|apply below_drew1)|exact HB.out))):w.heap.size≤gb437));clear HB;have HB:=n0_;have BK437:=n1_;have GW437:=n2_;have GE437:=n3_;clear n0_ n1_ n2_ n3_;clear hb hbox hg;have hcz11_0:w10.cell? ⟨gb437,0,none⟩=some (.string a0_0):=(blk_cell BK437.out 0).trans rfl;have hcz11_1:w10.cell? ⟨gb437,1,none⟩=some (.slice A0_1 l0_1.length c0_1):=(blk_cell BK437.out 1).trans rfl;have hfz11_0:=blk_frozen BK437.out 0;have hfz11_1:=blk_frozen BK437.out 1)|((with_reducible refine gate_callee (f:=53) rfl ?_);refine goesL_ (some 5) rfl rfl Tryd.func53 (by kernel_rfl) rfl #[.string a0_0] rfl (by (try simp only [List.map_toArray,List.map_cons,List.map_nil]);first|done|rfl|(simp only [List.length_drop,List.length_take];rfl)) ?_;(with_reducible refine (word_Name.calls a0_0 false _ A2.out).mono ?_);rintro e w12 ⟨rfl,hb⟩;refine ⟨_,rfl,?_⟩;have n0_:=Aside0.mk (blk_below (g:=gb437) (o := .cells #[.string a0_0, .slice A0_1 l0_1.length c0_1] 41 (0,0)) (by (with_reducible repeat (first|refine blk_drewN ?_ _|refine blk_drew ?_|refine blk_alloc ?_ _));exact BK437.out) hb);have n1_:=Aside0.mk (below_step (by repeat (first|(with_reducible first|exact HB.out|apply below_alloc|apply pw_below_drewN|apply below_drew1|refine below_set ?_ GE437.out)|exact HB.out)) hb);clear BK437;clear HB;have BK437:=n0_;have HB:=n1_;clear n0_ n1_;(try clear hb);(try clear hb2);(try clear hk);(try clear hi)))
  go_ret
  exact ⟨by first|rfl|(simp [errW_none,errW_some]<;>rfl)|(simp [*,errW_none,errW_some]<;>rfl),by repeat (first|(with_reducible first|exact HB.out|apply below_alloc|apply pw_below_drewN|apply below_drew1|refine below_set ?_ GE437.out)|exact HB.out)⟩
def ebbtidelaw04_alive.f (k:Nat)  : Option (Bool):=(key_Parse.f k (⟨#[99,112,117,123,98,61,49,44,97,61,50,125]⟩:ByteArray)).bind fun bt440=>((key_Make.f k (⟨#[99,112,117]⟩:ByteArray) (([(⟨(⟨#[98]⟩:ByteArray),(⟨#[49]⟩:ByteArray)⟩:S52),(⟨(⟨#[97]⟩:ByteArray),(⟨#[50]⟩:ByteArray)⟩:S52)]:List (S52)))).bind fun bt449=>((key_Parse.f k (⟨#[99,112,117,123,125]⟩:ByteArray)).bind fun bt455=>((key_Parse.f k (⟨#[99,112,117]⟩:ByteArray)).bind fun bt461=>(if bt440.2.2=0 then (if bt449.2.2=0 then (if bt455.2.2=2 then (if bt461.2.2=0 then ((key_Text.f k bt440.1 bt440.2.1).bind fun t467=>(if t467.toList=([99,112,117,123,97,61,50,44,98,61,49,125]:List UInt8) then ((key_Same.f k bt440.1 bt440.2.1 bt449.1 bt449.2.1).bind fun t468=>(if t468=true then ((key_Same.f k bt440.1 bt440.2.1 bt461.1 bt461.2.1).bind fun t469=>(if t469=true then (none) else ((key_Text.f k bt461.1 bt461.2.1).bind fun t470=>(if t470.toList=([99,112,117]:List UInt8) then ((key_Right.f k bt461.1 bt461.2.1).bind fun t471=>(if t471=true then ((key_Right.f k (⟨#[]⟩:ByteArray) ([]:List (S52))).bind fun t472=>(some (!t472))) else (none))) else (none))))) else (none))) else (none))) else (none)) else (none)) else (none)) else (none)))))
theorem ebbtidelaw04_alive.mono:∀ k,LeO (ebbtidelaw04_alive.f k ) (ebbtidelaw04_alive.f (k+1) ):=by
 intro  k
 unfold ebbtidelaw04_alive.f
 repeat' first
   | (with_reducible exact key_Make.mono _ _ _)
   | (with_reducible exact key_Parse.mono _ _)
   | (with_reducible exact key_Right.mono _ _ _)
   | (with_reducible exact key_Same.mono _ _ _ _ _)
   | (with_reducible exact key_Text.mono _ _ _)
   | (with_reducible exact LeO.refl _)
   | (with_reducible exact LeO.none _)
   | (with_reducible refine LeO.ite ?_ ?_)
   | (with_reducible refine LeO.bind ?_ (fun _=>?_))
   | exact key_Make.mono _ _ _
   | exact key_Parse.mono _ _
   | exact key_Right.mono _ _ _
   | exact key_Same.mono _ _ _ _ _
   | exact key_Text.mono _ _ _
   | exact LeO.none _
   | refine LeO.ite ?_ ?_
   | refine LeO.bind ?_ (fun _=>?_)
set_option maxHeartbeats 8000000 in
set_option maxRecDepth 100000 in
theorem ebbtidelaw04_alive.calls (k:Nat)  (r:Bool) (w:World) (h:ebbtidelaw04_alive.f k  = some r) :
  Calls Tryd.prog 27 #[] w fun e w'=>e = .returned (.bool r)∧Below w.heap.size w w':=by
 have hu41:=Tryd.underlying41
 have hu52:=Tryd.underlying52
 have HB:=Aside0.mk (Below.refl w.heap.size w)
 have H:((key_Parse.f k (⟨#[99,112,117,123,98,61,49,44,97,61,50,125]⟩:ByteArray)).bind fun bt440=>((key_Make.f k (⟨#[99,112,117]⟩:ByteArray) (([(⟨(⟨#[98]⟩:ByteArray),(⟨#[49]⟩:ByteArray)⟩:S52),(⟨(⟨#[97]⟩:ByteArray),(⟨#[50]⟩:ByteArray)⟩:S52)]:List (S52)))).bind fun bt449=>((key_Parse.f k (⟨#[99,112,117,123,125]⟩:ByteArray)).bind fun bt455=>((key_Parse.f k (⟨#[99,112,117]⟩:ByteArray)).bind fun bt461=>(if bt440.2.2=0 then (if bt449.2.2=0 then (if bt455.2.2=2 then (if bt461.2.2=0 then ((key_Text.f k bt440.1 bt440.2.1).bind fun t467=>(if t467.toList=([99,112,117,123,97,61,50,44,98,61,49,125]:List UInt8) then ((key_Same.f k bt440.1 bt440.2.1 bt449.1 bt449.2.1).bind fun t468=>(if t468=true then ((key_Same.f k bt440.1 bt440.2.1 bt461.1 bt461.2.1).bind fun t469=>(if t469=true then (none) else ((key_Text.f k bt461.1 bt461.2.1).bind fun t470=>(if t470.toList=([99,112,117]:List UInt8) then ((key_Right.f k bt461.1 bt461.2.1).bind fun t471=>(if t471=true then ((key_Right.f k (⟨#[]⟩:ByteArray) ([]:List (S52))).bind fun t472=>(some (!t472))) else (none))) else (none))))) else (none))) else (none))) else (none)) else (none)) else (none)) else (none))))))=some r:=h
 clear h
 replace H:=Option.bind_eq_some_iff.mp H
 obtain ⟨⟨t440,t441,t444⟩,A10,H⟩:=H
 replace H:((key_Make.f k (⟨#[99,112,117]⟩:ByteArray) (([(⟨(⟨#[98]⟩:ByteArray),(⟨#[49]⟩:ByteArray)⟩:S52),(⟨(⟨#[97]⟩:ByteArray),(⟨#[50]⟩:ByteArray)⟩:S52)]:List (S52)))).bind fun bt449=>((key_Parse.f k (⟨#[99,112,117,123,125]⟩:ByteArray)).bind fun bt455=>((key_Parse.f k (⟨#[99,112,117]⟩:ByteArray)).bind fun bt461=>(if t444=0 then (if bt449.2.2=0 then (if bt455.2.2=2 then (if bt461.2.2=0 then ((key_Text.f k t440 t441).bind fun t467=>(if t467.toList=([99,112,117,123,97,61,50,44,98,61,49,125]:List UInt8) then ((key_Same.f k t440 t441 bt449.1 bt449.2.1).bind fun t468=>(if t468=true then ((key_Same.f k t440 t441 bt461.1 bt461.2.1).bind fun t469=>(if t469=true then (none) else ((key_Text.f k bt461.1 bt461.2.1).bind fun t470=>(if t470.toList=([99,112,117]:List UInt8) then ((key_Right.f k bt461.1 bt461.2.1).bind fun t471=>(if t471=true then ((key_Right.f k (⟨#[]⟩:ByteArray) ([]:List (S52))).bind fun t472=>(some (!t472))) else (none))) else (none))))) else (none))) else (none))) else (none)) else (none)) else (none)) else (none)))))=some r:=H
 have A1:=Aside0.mk A10
 clear A10
 obtain ⟨y446,hy446⟩:∃ y_:List (S52),y_=(([(⟨(⟨#[98]⟩:ByteArray),(⟨#[49]⟩:ByteArray)⟩:S52),(⟨(⟨#[97]⟩:ByteArray),(⟨#[50]⟩:ByteArray)⟩:S52)]:List (S52))):=⟨_,rfl⟩
 replace H:((key_Make.f k (⟨#[99,112,117]⟩:ByteArray) y446).bind fun bt449=>((key_Parse.f k (⟨#[99,112,117,123,125]⟩:ByteArray)).bind fun bt455=>((key_Parse.f k (⟨#[99,112,117]⟩:ByteArray)).bind fun bt461=>(if t444=0 then (if bt449.2.2=0 then (if bt455.2.2=2 then (if bt461.2.2=0 then ((key_Text.f k t440 t441).bind fun t467=>(if t467.toList=([99,112,117,123,97,61,50,44,98,61,49,125]:List UInt8) then ((key_Same.f k t440 t441 bt449.1 bt449.2.1).bind fun t468=>(if t468=true then ((key_Same.f k t440 t441 bt461.1 bt461.2.1).bind fun t469=>(if t469=true then (none) else ((key_Text.f k bt461.1 bt461.2.1).bind fun t470=>(if t470.toList=([99,112,117]:List UInt8) then ((key_Right.f k bt461.1 bt461.2.1).bind fun t471=>(if t471=true then ((key_Right.f k (⟨#[]⟩:ByteArray) ([]:List (S52))).bind fun t472=>(some (!t472))) else (none))) else (none))))) else (none))) else (none))) else (none)) else (none)) else (none)) else (none)))))=some r:=by first|(rw [hy446];with_reducible exact H)|(have H2_:=(Option.bind_some _ _).symm.trans H;rw [hy446];with_reducible exact H2_)|(have H2_:=(Option.bind_some _ _).symm.trans H;with_reducible exact H2_)|with_reducible exact H|(rw [hy446];exact H)|exact H
 have Ny446:=Aside0.mk hy446
 clear hy446
 replace H:=Option.bind_eq_some_iff.mp H
 obtain ⟨⟨t449,t450,t453⟩,A20,H⟩:=H
 replace H:((key_Parse.f k (⟨#[99,112,117,123,125]⟩:ByteArray)).bind fun bt455=>((key_Parse.f k (⟨#[99,112,117]⟩:ByteArray)).bind fun bt461=>(if t444=0 then (if t453=0 then (if bt455.2.2=2 then (if bt461.2.2=0 then ((key_Text.f k t440 t441).bind fun t467=>(if t467.toList=([99,112,117,123,97,61,50,44,98,61,49,125]:List UInt8) then ((key_Same.f k t440 t441 t449 t450).bind fun t468=>(if t468=true then ((key_Same.f k t440 t441 bt461.1 bt461.2.1).bind fun t469=>(if t469=true then (none) else ((key_Text.f k bt461.1 bt461.2.1).bind fun t470=>(if t470.toList=([99,112,117]:List UInt8) then ((key_Right.f k bt461.1 bt461.2.1).bind fun t471=>(if t471=true then ((key_Right.f k (⟨#[]⟩:ByteArray) ([]:List (S52))).bind fun t472=>(some (!t472))) else (none))) else (none))))) else (none))) else (none))) else (none)) else (none)) else (none)) else (none))))=some r:=H
 have A2:=Aside0.mk A20
 clear A20
 replace H:=Option.bind_eq_some_iff.mp H
 obtain ⟨⟨t455,t456,t459⟩,A30,H⟩:=H
 replace H:((key_Parse.f k (⟨#[99,112,117]⟩:ByteArray)).bind fun bt461=>(if t444=0 then (if t453=0 then (if t459=2 then (if bt461.2.2=0 then ((key_Text.f k t440 t441).bind fun t467=>(if t467.toList=([99,112,117,123,97,61,50,44,98,61,49,125]:List UInt8) then ((key_Same.f k t440 t441 t449 t450).bind fun t468=>(if t468=true then ((key_Same.f k t440 t441 bt461.1 bt461.2.1).bind fun t469=>(if t469=true then (none) else ((key_Text.f k bt461.1 bt461.2.1).bind fun t470=>(if t470.toList=([99,112,117]:List UInt8) then ((key_Right.f k bt461.1 bt461.2.1).bind fun t471=>(if t471=true then ((key_Right.f k (⟨#[]⟩:ByteArray) ([]:List (S52))).bind fun t472=>(some (!t472))) else (none))) else (none))))) else (none))) else (none))) else (none)) else (none)) else (none)) else (none)))=some r:=H
 have A3:=Aside0.mk A30
 clear A30
 replace H:=Option.bind_eq_some_iff.mp H
 obtain ⟨⟨t461,t462,t465⟩,A40,H⟩:=H
 replace H:(if t444=0 then (if t453=0 then (if t459=2 then (if t465=0 then ((key_Text.f k t440 t441).bind fun t467=>(if t467.toList=([99,112,117,123,97,61,50,44,98,61,49,125]:List UInt8) then ((key_Same.f k t440 t441 t449 t450).bind fun t468=>(if t468=true then ((key_Same.f k t440 t441 t461 t462).bind fun t469=>(if t469=true then (none) else ((key_Text.f k t461 t462).bind fun t470=>(if t470.toList=([99,112,117]:List UInt8) then ((key_Right.f k t461 t462).bind fun t471=>(if t471=true then ((key_Right.f k (⟨#[]⟩:ByteArray) ([]:List (S52))).bind fun t472=>(some (!t472))) else (none))) else (none))))) else (none))) else (none))) else (none)) else (none)) else (none)) else (none))=some r:=H
 have A4:=Aside0.mk A40
 clear A40
 by_cases c5:t444=0
 ·rw [if_pos c5] at H
  have c5b0:(t444 ==0)=true:=beq_iff_eq.mpr c5
  have c5b1:(t444 != 0)=false:=bne_eq_false_iff_eq.mpr c5
  clear c5
  by_cases c6:t453=0
  ·rw [if_pos c6] at H
   have c6b0:(t453 ==0)=true:=beq_iff_eq.mpr c6
   have c6b1:(t453 != 0)=false:=bne_eq_false_iff_eq.mpr c6
   clear c6
   by_cases c7:t459=2
   ·rw [if_pos c7] at H
    have c7b0:(t459 ==2)=true:=beq_iff_eq.mpr c7
    have c7b1:(t459 != 2)=false:=bne_eq_false_iff_eq.mpr c7
    clear c7
    by_cases c8:t465=0
    ·rw [if_pos c8] at H
     have c8b0:(t465 ==0)=true:=beq_iff_eq.mpr c8
     have c8b1:(t465 != 0)=false:=bne_eq_false_iff_eq.mpr c8
     clear c8
     replace H:=Option.bind_eq_some_iff.mp H
     obtain ⟨t467,A90,H⟩:=H
     replace H:(if t467.toList=([99,112,117,123,97,61,50,44,98,61,49,125]:List UInt8) then ((key_Same.f k t440 t441 t449 t450).bind fun t468=>(if t468=true then ((key_Same.f k t440 t441 t461 t462).bind fun t469=>(if t469=true then (none) else ((key_Text.f k t461 t462).bind fun t470=>(if t470.toList=([99,112,117]:List UInt8) then ((key_Right.f k t461 t462).bind fun t471=>(if t471=true then ((key_Right.f k (⟨#[]⟩:ByteArray) ([]:List (S52))).bind fun t472=>(some (!t472))) else (none))) else (none))))) else (none))) else (none))=some r:=H
     have A9:=Aside0.mk A90
     clear A90
     by_cases c10:t467.toList=([99,112,117,123,97,61,50,44,98,61,49,125]:List UInt8)
     ·rw [if_pos c10] at H
      have c10b0:(t467.toList ==([99,112,117,123,97,61,50,44,98,61,49,125]:List UInt8))=true:=beq_iff_eq.mpr c10
      have c10b1:(t467.toList != ([99,112,117,123,97,61,50,44,98,61,49,125]:List UInt8))=false:=bne_eq_false_iff_eq.mpr c10
      clear c10
      replace H:=Option.bind_eq_some_iff.mp H
      obtain ⟨t468,A110,H⟩:=H
      replace H:(if t468=true then ((key_Same.f k t440 t441 t461 t462).bind fun t469=>(if t469=true then (none) else ((key_Text.f k t461 t462).bind fun t470=>(if t470.toList=([99,112,117]:List UInt8) then ((key_Right.f k t461 t462).bind fun t471=>(if t471=true then ((key_Right.f k (⟨#[]⟩:ByteArray) ([]:List (S52))).bind fun t472=>(some (!t472))) else (none))) else (none))))) else (none))=some r:=H
      have A11:=Aside0.mk A110
      clear A110
      by_cases c12:t468=true
      ·subst c12
       have H1:((key_Same.f k t440 t441 t461 t462).bind fun t469=>(if t469=true then (none) else ((key_Text.f k t461 t462).bind fun t470=>(if t470.toList=([99,112,117]:List UInt8) then ((key_Right.f k t461 t462).bind fun t471=>(if t471=true then ((key_Right.f k (⟨#[]⟩:ByteArray) ([]:List (S52))).bind fun t472=>(some (!t472))) else (none))) else (none)))))=some r:=by rw [if_pos rfl] at H;exact H
       clear H
       have H:=H1
       clear H1
       replace H:=Option.bind_eq_some_iff.mp H
       obtain ⟨t469,A130,H⟩:=H
       replace H:(if t469=true then (none) else ((key_Text.f k t461 t462).bind fun t470=>(if t470.toList=([99,112,117]:List UInt8) then ((key_Right.f k t461 t462).bind fun t471=>(if t471=true then ((key_Right.f k (⟨#[]⟩:ByteArray) ([]:List (S52))).bind fun t472=>(some (!t472))) else (none))) else (none))))=some r:=H
       have A13:=Aside0.mk A130
       clear A130
       by_cases c14:t469=true
       ·subst c14
        have H1:(none)=some r:=by rw [if_pos rfl] at H;exact H
        clear H
        have H:=H1
        clear H1
        exact absurd H (by simp)
       ·replace c14:=Bool.eq_false_iff.mpr c14
        subst c14
        have H1:((key_Text.f k t461 t462).bind fun t470=>(if t470.toList=([99,112,117]:List UInt8) then ((key_Right.f k t461 t462).bind fun t471=>(if t471=true then ((key_Right.f k (⟨#[]⟩:ByteArray) ([]:List (S52))).bind fun t472=>(some (!t472))) else (none))) else (none)))=some r:=by rw [if_neg (show ¬ (false=true) by decide)] at H;exact H
        clear H
        have H:=H1
        clear H1
        replace H:=Option.bind_eq_some_iff.mp H
        obtain ⟨t470,A150,H⟩:=H
        replace H:(if t470.toList=([99,112,117]:List UInt8) then ((key_Right.f k t461 t462).bind fun t471=>(if t471=true then ((key_Right.f k (⟨#[]⟩:ByteArray) ([]:List (S52))).bind fun t472=>(some (!t472))) else (none))) else (none))=some r:=H
        have A15:=Aside0.mk A150
        clear A150
        by_cases c16:t470.toList=([99,112,117]:List UInt8)
        ·rw [if_pos c16] at H
         have c16b0:(t470.toList ==([99,112,117]:List UInt8))=true:=beq_iff_eq.mpr c16
         have c16b1:(t470.toList != ([99,112,117]:List UInt8))=false:=bne_eq_false_iff_eq.mpr c16
         clear c16
         replace H:=Option.bind_eq_some_iff.mp H
         obtain ⟨t471,A170,H⟩:=H
         replace H:(if t471=true then ((key_Right.f k (⟨#[]⟩:ByteArray) ([]:List (S52))).bind fun t472=>(some (!t472))) else (none))=some r:=H
         have A17:=Aside0.mk A170
         clear A170
         by_cases c18:t471=true
         ·subst c18
          have H1:((key_Right.f k (⟨#[]⟩:ByteArray) ([]:List (S52))).bind fun t472=>(some (!t472)))=some r:=by rw [if_pos rfl] at H;exact H
          clear H
          have H:=H1
          clear H1
          replace H:=Option.bind_eq_some_iff.mp H
          obtain ⟨t472,A190,H⟩:=H
          replace H:(some (!t472))=some r:=H
          have A19:=Aside0.mk A190
          clear A190
          obtain rfl:=Option.some.inj H
          go_enter Tryd.func27,Tryd.ntmps27
          go_wp2_with (first|((with_reducible refine gate_callee (f:=36) rfl ?_);refine goesL_ (some 10) rfl rfl Tryd.func36 (by kernel_rfl) rfl #[.string (⟨#[99,112,117,123,98,61,49,44,97,61,50,125]⟩:ByteArray)] rfl (by (try simp only [List.map_toArray,List.map_cons,List.map_nil]);first|done|rfl|(simp only [List.length_drop,List.length_take];rfl)) ?_;(with_reducible refine (key_Parse.calls k (⟨#[99,112,117,123,98,61,49,44,97,61,50,125]⟩:ByteArray) t440 t441 t444 _ A1.out).mono ?_);rintro e w20 ⟨v442,rfl,ho0,hb⟩;refine ⟨_,rfl,?_⟩;have n0_:=Aside0.mk (Kd.R_lower ho0 (below_size (by repeat (first|(with_reducible first|exact HB.out|apply below_alloc|apply pw_below_drewN|apply below_drew1)|exact HB.out))));have n1_:=Aside0.mk (below_step (by repeat (first|(with_reducible first|exact HB.out|apply below_alloc|apply pw_below_drewN|apply below_drew1)|exact HB.out)) hb);clear HB;have HO443:=n0_;have HB:=n1_;clear n0_ n1_;(try clear hb);(try clear hb2);(try clear hk);(try clear hi);(try clear ho0))|((with_reducible refine gate_dst (N:=1) rfl ?_);refine box_event ?hg (N:=1) ?hd (cs:=#[.string (⟨#[]⟩:ByteArray), .slice none 0 0]) (t:=41) ?hr ?_;(case hd=>rfl);(case hg=>rfl);(case hr=>first|(go_simp;done)|(go_simp;rfl));intro gb445 hg w21 hbox hb;have n0_:=Aside0.mk (Kd.R_below (by (with_reducible repeat (first|apply Kd.R_alloc|apply Kd.R_drewN|apply Kd.R_drew));exact HO443.out) hb);have n1_:=Aside0.mk (below_step (by repeat (first|(with_reducible first|exact HB.out|apply below_alloc|apply pw_below_drewN|apply below_drew1)|exact HB.out)) hb);have n2_:=Aside0.mk (hbox);have n3_:=Aside0.mk ((by rw [hg];exact (below_size (by repeat (first|(with_reducible first|exact HB.out|apply below_alloc|apply pw_below_drewN|apply below_drew1)|exact HB.out))):w.heap.size≤gb445));have n4_:=Aside0.mk ((by rw [hg];exact (below_size (by repeat (first|(with_reducible first|exact HB.out|apply below_alloc|apply pw_below_drewN|apply below_drew1)|exact HB.out))):w.heap.size≤gb445));clear HO443;clear HB;have HO443:=n0_;have HB:=n1_;have BK445:=n2_;have GW445:=n3_;have GE445:=n4_;clear n0_ n1_ n2_ n3_ n4_;clear hb hbox hg;have hcz22_0:w21.cell? ⟨gb445,0,none⟩=some (.string (⟨#[]⟩:ByteArray)):=(blk_cell BK445.out 0).trans rfl;have hcz22_1:w21.cell? ⟨gb445,1,none⟩=some (.slice none 0 0):=(blk_cell BK445.out 1).trans rfl;have hfz22_0:=blk_frozen BK445.out 0;have hfz22_1:=blk_frozen BK445.out 1;obtain ⟨Ao23,co23,eo23⟩:=Kd.R_slice HO443.out;subst eo23)|((with_reducible refine gate_dst (N:=16) rfl ?_);refine Kd.R_lit k52 _ 52 ?hg (N:=16) ?hd (xs:=([(⟨(⟨#[98]⟩:ByteArray),(⟨#[49]⟩:ByteArray)⟩:S52),(⟨(⟨#[97]⟩:ByteArray),(⟨#[50]⟩:ByteArray)⟩:S52)]:List (S52))) (inner:=[.string (⟨#[98]⟩:ByteArray), .string (⟨#[49]⟩:ByteArray), .string (⟨#[97]⟩:ByteArray), .string (⟨#[50]⟩:ByteArray)]) (ok:=fun _=>True) (okp:=fun _=>True) ?hr ?hp (fun _ hk=>hk) trivial (Below.refl _ _) (Nat.le_refl _) (by simp) ?_;(case hd=>rfl);(case hg=>rfl);(case hr=>first|(go_simp;done)|(go_simp;rfl));(case hp=>exact (Reps.c2 (show Kd.M k52 _ _ _ (⟨(⟨#[98]⟩:ByteArray),(⟨#[49]⟩:ByteArray)⟩:S52) [.string (⟨#[98]⟩:ByteArray), .string (⟨#[49]⟩:ByteArray)] from (k52_mkM _ _ _ (⟨(⟨#[98]⟩:ByteArray),(⟨#[49]⟩:ByteArray)⟩:S52) )) (Reps.c2 (show Kd.M k52 _ _ _ (⟨(⟨#[97]⟩:ByteArray),(⟨#[50]⟩:ByteArray)⟩:S52) [.string (⟨#[97]⟩:ByteArray), .string (⟨#[50]⟩:ByteArray)] from (k52_mkM _ _ _ (⟨(⟨#[97]⟩:ByteArray),(⟨#[50]⟩:ByteArray)⟩:S52) )) (Reps.none _ _))));intro v447 w24 ho25 hb hg_ hnew_;clear hg_ hnew_;(first|rw [← Ny446.out] at ho25|(simp only [Int.reduceToNat] at ho25;rw [← Ny446.out] at ho25));have n0_:=Aside0.mk (Kd.R_elder' (by (with_reducible repeat (first|apply Kd.R_alloc|apply Kd.R_drewN|apply Kd.R_drew));exact (Kd.R_mono (Kd.R_far (p:=⟨gb445,1,none⟩) (Kd.R_far (p:=⟨gb445,0,none⟩) (Kd.R_types HO443.out BK445.out (by decide)) (fun _ hk=>hk.2) (.string t440)) (fun _ hk=>hk.2) (.slice Ao23 t441.length co23)) (fun _ h_=>h_.1))) (Kd.R_base ho25) hb);have n1_:=Aside0.mk (Kd.R_lower (Kd.R_new' ho25 (Kd.R_lt (by (with_reducible repeat (first|apply Kd.R_alloc|apply Kd.R_drewN|apply Kd.R_drew));exact (Kd.R_mono (Kd.R_far (p:=⟨gb445,1,none⟩) (Kd.R_far (p:=⟨gb445,0,none⟩) (Kd.R_types HO443.out BK445.out (by decide)) (fun _ hk=>hk.2) (.string t440)) (fun _ hk=>hk.2) (.slice Ao23 t441.length co23)) (fun _ h_=>h_.1))))) (below_size (by repeat (first|(with_reducible first|exact HB.out|apply below_alloc|apply pw_below_drewN|apply below_drew1|refine below_set ?_ GE445.out)|exact HB.out))));have n2_:=Aside0.mk (blk_below (g:=gb445) (o := .cells #[.string t440, .slice Ao23 t441.length co23] 41 (0,0)) (by (with_reducible repeat (first|refine blk_drewN ?_ _|refine blk_drew ?_|refine blk_alloc ?_ _));refine blk_put (cs:=#[.string t440, .slice none 0 0]) ?_ 1 _ rfl;(with_reducible repeat (first|refine blk_drewN ?_ _|refine blk_drew ?_|refine blk_alloc ?_ _));refine blk_put (cs:=#[.string (⟨#[]⟩:ByteArray), .slice none 0 0]) ?_ 0 _ rfl;(with_reducible repeat (first|refine blk_drewN ?_ _|refine blk_drew ?_|refine blk_alloc ?_ _));exact BK445.out) hb);have n3_:=Aside0.mk (below_step (by repeat (first|(with_reducible first|exact HB.out|apply below_alloc|apply pw_below_drewN|apply below_drew1|refine below_set ?_ GE445.out)|exact HB.out)) hb);clear HO443;clear BK445;clear HB;have HO443:=n0_;have HO448:=n1_;have BK445:=n2_;have HB:=n3_;clear n0_ n1_ n2_ n3_;clear hb ho25;obtain ⟨Ao26,co26,eo26⟩:=Kd.R_slice HO448.out;subst eo26)|((with_reducible refine gate_callee (f:=28) rfl ?_);refine goesL_ (some 17) rfl rfl Tryd.func28 (by kernel_rfl) rfl #[.string (⟨#[99,112,117]⟩:ByteArray), .slice Ao26 y446.length co26] rfl (by (try simp only [List.map_toArray,List.map_cons,List.map_nil]);first|done|rfl|(simp only [List.length_drop,List.length_take];rfl)) ?_;(with_reducible refine (key_Make.calls k (⟨#[99,112,117]⟩:ByteArray) _ _ y446 t449 t450 t453 _ ?side1 ?side2 A2.out).mono ?_);(case side1=>repeat (first|exact (Kd.R_reads' HO448.out).2.2|(with_reducible refine Kd.C_alloc ?_ _)|(with_reducible refine Kd.C_drewN ?_ _)|(with_reducible refine Kd.C_drew ?_)));(case side2=>exact (Kd.R_reads' HO448.out).2.1);rintro e w27 ⟨v451,rfl,ho0,hb⟩;refine ⟨_,rfl,?_⟩;have n0_:=Aside0.mk (Kd.R_elder' (by (with_reducible repeat (first|apply Kd.R_alloc|apply Kd.R_drewN|apply Kd.R_drew));exact HO443.out) (Kd.R_base ho0) hb);have n1_:=Aside0.mk (Kd.R_elder' (by (with_reducible repeat (first|apply Kd.R_alloc|apply Kd.R_drewN|apply Kd.R_drew));exact HO448.out) (Kd.R_base ho0) hb);have n2_:=Aside0.mk (Kd.R_lower (Kd.R_new' (Kd.R_new' ho0 (Kd.R_lt (by (with_reducible repeat (first|apply Kd.R_alloc|apply Kd.R_drewN|apply Kd.R_drew));exact HO443.out))) (Kd.R_lt (by (with_reducible repeat (first|apply Kd.R_alloc|apply Kd.R_drewN|apply Kd.R_drew));exact HO448.out))) (below_size (by repeat (first|(with_reducible first|exact HB.out|apply below_alloc|apply pw_below_drewN|apply below_drew1|refine below_set ?_ GE445.out)|exact HB.out))));have n3_:=Aside0.mk (blk_below (g:=gb445) (o := .cells #[.string t440, .slice Ao23 t441.length co23] 41 (0,0)) (by (with_reducible repeat (first|refine blk_drewN ?_ _|refine blk_drew ?_|refine blk_alloc ?_ _));exact BK445.out) hb);have n4_:=Aside0.mk (below_step (by repeat (first|(with_reducible first|exact HB.out|apply below_alloc|apply pw_below_drewN|apply below_drew1|refine below_set ?_ GE445.out)|exact HB.out)) hb);clear HO443;clear HO448;clear BK445;clear HB;have HO443:=n0_;have HO448:=n1_;have HO452:=n2_;have BK445:=n3_;have HB:=n4_;clear n0_ n1_ n2_ n3_ n4_;(try clear hb);(try clear hb2);(try clear hk);(try clear hi);(try clear ho0))|((with_reducible refine gate_dst (N:=3) rfl ?_);refine box_event ?hg (N:=3) ?hd (cs:=#[.string (⟨#[]⟩:ByteArray), .slice none 0 0]) (t:=41) ?hr ?_;(case hd=>rfl);(case hg=>rfl);(case hr=>first|(go_simp;done)|(go_simp;rfl));intro gb454 hg w28 hbox hb;have n0_:=Aside0.mk (Kd.R_below (by (with_reducible repeat (first|apply Kd.R_alloc|apply Kd.R_drewN|apply Kd.R_drew));exact HO443.out) hb);have n1_:=Aside0.mk (Kd.R_below (by (with_reducible repeat (first|apply Kd.R_alloc|apply Kd.R_drewN|apply Kd.R_drew));exact HO448.out) hb);have n2_:=Aside0.mk (Kd.R_below (by (with_reducible repeat (first|apply Kd.R_alloc|apply Kd.R_drewN|apply Kd.R_drew));exact HO452.out) hb);have n3_:=Aside0.mk (blk_below (g:=gb445) (o := .cells #[.string t440, .slice Ao23 t441.length co23] 41 (0,0)) (by (with_reducible repeat (first|refine blk_drewN ?_ _|refine blk_drew ?_|refine blk_alloc ?_ _));exact BK445.out) hb);have n4_:=Aside0.mk (below_step (by repeat (first|(with_reducible first|exact HB.out|apply below_alloc|apply pw_below_drewN|apply below_drew1|refine below_set ?_ GE445.out)|exact HB.out)) hb);have n5_:=Aside0.mk (hbox);have n6_:=Aside0.mk ((by rw [hg];exact (below_size (by repeat (first|(with_reducible first|exact HB.out|apply below_alloc|apply pw_below_drewN|apply below_drew1|refine below_set ?_ GE445.out)|exact HB.out))):w.heap.size≤gb454));have n7_:=Aside0.mk ((by rw [hg];exact (below_size (by repeat (first|(with_reducible first|exact HB.out|apply below_alloc|apply pw_below_drewN|apply below_drew1|refine below_set ?_ GE445.out)|exact HB.out))):w.heap.size≤gb454));have n8_:=Aside0.mk ((by rw [hg];exact Nat.ne_of_lt (blk_lt (g:=gb445) (o := .cells #[.string t440, .slice Ao23 t441.length co23] 41 (0,0)) (by (with_reducible repeat (first|refine blk_drewN ?_ _|refine blk_drew ?_|refine blk_alloc ?_ _));exact BK445.out)):gb445≠gb454));have n9_:=Aside0.mk ((by rw [hg];exact Nat.ne_of_gt (blk_lt (g:=gb445) (o := .cells #[.string t440, .slice Ao23 t441.length co23] 41 (0,0)) (by (with_reducible repeat (first|refine blk_drewN ?_ _|refine blk_drew ?_|refine blk_alloc ?_ _));exact BK445.out)):gb454≠gb445));clear HO443;clear HO448;clear HO452;clear BK445;clear HB;have HO443:=n0_;have HO448:=n1_;have HO452:=n2_;have BK445:=n3_;have HB:=n4_;have BK454:=n5_;have GW454:=n6_;have GE454:=n7_;have NB445_454:=n8_;have NB454_445:=n9_;clear n0_ n1_ n2_ n3_ n4_ n5_ n6_ n7_ n8_ n9_;clear hb hbox hg;have hnb29:=NB454_445.out;have hnc29:=NB445_454.out;have hcz30_0:w28.cell? ⟨gb454,0,none⟩=some (.string (⟨#[]⟩:ByteArray)):=(blk_cell BK454.out 0).trans rfl;have hcz30_1:w28.cell? ⟨gb454,1,none⟩=some (.slice none 0 0):=(blk_cell BK454.out 1).trans rfl;have hfz30_0:=blk_frozen BK454.out 0;have hfz30_1:=blk_frozen BK454.out 1;obtain ⟨Ao31,co31,eo31⟩:=Kd.R_slice HO452.out;subst eo31)|((with_reducible refine gate_callee (f:=36) rfl ?_);refine goesL_ (some 21) rfl rfl Tryd.func36 (by kernel_rfl) rfl #[.string (⟨#[99,112,117,123,125]⟩:ByteArray)] rfl (by (try simp only [List.map_toArray,List.map_cons,List.map_nil]);first|done|rfl|(simp only [List.length_drop,List.length_take];rfl)) ?_;(with_reducible refine (key_Parse.calls k (⟨#[99,112,117,123,125]⟩:ByteArray) t455 t456 t459 _ A3.out).mono ?_);rintro e w32 ⟨v457,rfl,ho0,hb⟩;refine ⟨_,rfl,?_⟩;have n0_:=Aside0.mk (Kd.R_elder' (by (with_reducible repeat (first|apply Kd.R_alloc|apply Kd.R_drewN|apply Kd.R_drew));exact (Kd.R_mono (Kd.R_far (p:=⟨gb454,1,none⟩) (Kd.R_far (p:=⟨gb454,0,none⟩) (Kd.R_types HO443.out BK454.out (by decide)) (fun _ hk=>hk.2) (.string t449)) (fun _ hk=>hk.2) (.slice Ao31 t450.length co31)) (fun _ h_=>h_.1))) (Kd.R_base ho0) hb);have n1_:=Aside0.mk (Kd.R_elder' (by (with_reducible repeat (first|apply Kd.R_alloc|apply Kd.R_drewN|apply Kd.R_drew));exact (Kd.R_mono (Kd.R_far (p:=⟨gb454,1,none⟩) (Kd.R_far (p:=⟨gb454,0,none⟩) (Kd.R_types HO448.out BK454.out (by decide)) (fun _ hk=>hk.2) (.string t449)) (fun _ hk=>hk.2) (.slice Ao31 t450.length co31)) (fun _ h_=>h_.1))) (Kd.R_base ho0) hb);have n2_:=Aside0.mk (Kd.R_elder' (by (with_reducible repeat (first|apply Kd.R_alloc|apply Kd.R_drewN|apply Kd.R_drew));exact (Kd.R_mono (Kd.R_far (p:=⟨gb454,1,none⟩) (Kd.R_far (p:=⟨gb454,0,none⟩) (Kd.R_types HO452.out BK454.out (by decide)) (fun _ hk=>hk.2) (.string t449)) (fun _ hk=>hk.2) (.slice Ao31 t450.length co31)) (fun _ h_=>h_.1))) (Kd.R_base ho0) hb);have n3_:=Aside0.mk (Kd.R_lower (Kd.R_new' (Kd.R_new' (Kd.R_new' ho0 (Kd.R_lt (by (with_reducible repeat (first|apply Kd.R_alloc|apply Kd.R_drewN|apply Kd.R_drew));exact (Kd.R_mono (Kd.R_far (p:=⟨gb454,1,none⟩) (Kd.R_far (p:=⟨gb454,0,none⟩) (Kd.R_types HO443.out BK454.out (by decide)) (fun _ hk=>hk.2) (.string t449)) (fun _ hk=>hk.2) (.slice Ao31 t450.length co31)) (fun _ h_=>h_.1))))) (Kd.R_lt (by (with_reducible repeat (first|apply Kd.R_alloc|apply Kd.R_drewN|apply Kd.R_drew));exact (Kd.R_mono (Kd.R_far (p:=⟨gb454,1,none⟩) (Kd.R_far (p:=⟨gb454,0,none⟩) (Kd.R_types HO448.out BK454.out (by decide)) (fun _ hk=>hk.2) (.string t449)) (fun _ hk=>hk.2) (.slice Ao31 t450.length co31)) (fun _ h_=>h_.1))))) (Kd.R_lt (by (with_reducible repeat (first|apply Kd.R_alloc|apply Kd.R_drewN|apply Kd.R_drew));exact (Kd.R_mono (Kd.R_far (p:=⟨gb454,1,none⟩) (Kd.R_far (p:=⟨gb454,0,none⟩) (Kd.R_types HO452.out BK454.out (by decide)) (fun _ hk=>hk.2) (.string t449)) (fun _ hk=>hk.2) (.slice Ao31 t450.length co31)) (fun _ h_=>h_.1))))) (below_size (by repeat (first|(with_reducible first|exact HB.out|apply below_alloc|apply pw_below_drewN|apply below_drew1|refine below_set ?_ GE445.out|refine below_set ?_ GE454.out)|exact HB.out))));have n4_:=Aside0.mk (blk_below (g:=gb445) (o := .cells #[.string t440, .slice Ao23 t441.length co23] 41 (0,0)) (by (with_reducible repeat (first|refine blk_drewN ?_ _|refine blk_drew ?_|refine blk_alloc ?_ _));refine blk_far ?_ NB445_454.out _;(with_reducible repeat (first|refine blk_drewN ?_ _|refine blk_drew ?_|refine blk_alloc ?_ _));refine blk_far ?_ NB445_454.out _;(with_reducible repeat (first|refine blk_drewN ?_ _|refine blk_drew ?_|refine blk_alloc ?_ _));exact BK445.out) hb);have n5_:=Aside0.mk (blk_below (g:=gb454) (o := .cells #[.string t449, .slice Ao31 t450.length co31] 41 (0,0)) (by (with_reducible repeat (first|refine blk_drewN ?_ _|refine blk_drew ?_|refine blk_alloc ?_ _));refine blk_put (cs:=#[.string t449, .slice none 0 0]) ?_ 1 _ rfl;(with_reducible repeat (first|refine blk_drewN ?_ _|refine blk_drew ?_|refine blk_alloc ?_ _));refine blk_put (cs:=#[.string (⟨#[]⟩:ByteArray), .slice none 0 0]) ?_ 0 _ rfl;(with_reducible repeat (first|refine blk_drewN ?_ _|refine blk_drew ?_|refine blk_alloc ?_ _));exact BK454.out) hb);have n6_:=Aside0.mk (below_step (by repeat (first|(with_reducible first|exact HB.out|apply below_alloc|apply pw_below_drewN|apply below_drew1|refine below_set ?_ GE445.out|refine below_set ?_ GE454.out)|exact HB.out)) hb);clear HO443;clear HO448;clear HO452;clear BK445;clear BK454;clear HB;have HO443:=n0_;have HO448:=n1_;have HO452:=n2_;have HO458:=n3_;have BK445:=n4_;have BK454:=n5_;have HB:=n6_;clear n0_ n1_ n2_ n3_ n4_ n5_ n6_;(try clear hb);(try clear hb2);(try clear hk);(try clear hi);(try clear ho0))|((with_reducible refine gate_dst (N:=5) rfl ?_);refine box_event ?hg (N:=5) ?hd (cs:=#[.string (⟨#[]⟩:ByteArray), .slice none 0 0]) (t:=41) ?hr ?_;(case hd=>rfl);(case hg=>rfl);(case hr=>first|(go_simp;done)|(go_simp;rfl));intro gb460 hg w33 hbox hb;have n0_:=Aside0.mk (Kd.R_below (by (with_reducible repeat (first|apply Kd.R_alloc|apply Kd.R_drewN|apply Kd.R_drew));exact HO443.out) hb);have n1_:=Aside0.mk (Kd.R_below (by (with_reducible repeat (first|apply Kd.R_alloc|apply Kd.R_drewN|apply Kd.R_drew));exact HO448.out) hb);have n2_:=Aside0.mk (Kd.R_below (by (with_reducible repeat (first|apply Kd.R_alloc|apply Kd.R_drewN|apply Kd.R_drew));exact HO452.out) hb);have n3_:=Aside0.mk (Kd.R_below (by (with_reducible repeat (first|apply Kd.R_alloc|apply Kd.R_drewN|apply Kd.R_drew));exact HO458.out) hb);have n4_:=Aside0.mk (blk_below (g:=gb445) (o := .cells #[.string t440, .slice Ao23 t441.length co23] 41 (0,0)) (by (with_reducible repeat (first|refine blk_drewN ?_ _|refine blk_drew ?_|refine blk_alloc ?_ _));exact BK445.out) hb);have n5_:=Aside0.mk (blk_below (g:=gb454) (o := .cells #[.string t449, .slice Ao31 t450.length co31] 41 (0,0)) (by (with_reducible repeat (first|refine blk_drewN ?_ _|refine blk_drew ?_|refine blk_alloc ?_ _));exact BK454.out) hb);have n6_:=Aside0.mk (below_step (by repeat (first|(with_reducible first|exact HB.out|apply below_alloc|apply pw_below_drewN|apply below_drew1|refine below_set ?_ GE445.out|refine below_set ?_ GE454.out)|exact HB.out)) hb);have n7_:=Aside0.mk (hbox);have n8_:=Aside0.mk ((by rw [hg];exact (below_size (by repeat (first|(with_reducible first|exact HB.out|apply below_alloc|apply pw_below_drewN|apply below_drew1|refine below_set ?_ GE445.out|refine below_set ?_ GE454.out)|exact HB.out))):w.heap.size≤gb460));have n9_:=Aside0.mk ((by rw [hg];exact (below_size (by repeat (first|(with_reducible first|exact HB.out|apply below_alloc|apply pw_below_drewN|apply below_drew1|refine below_set ?_ GE445.out|refine below_set ?_ GE454.out)|exact HB.out))):w.heap.size≤gb460));have n10_:=Aside0.mk ((by rw [hg];exact Nat.ne_of_lt (blk_lt (g:=gb445) (o := .cells #[.string t440, .slice Ao23 t441.length co23] 41 (0,0)) (by (with_reducible repeat (first|refine blk_drewN ?_ _|refine blk_drew ?_|refine blk_alloc ?_ _));exact BK445.out)):gb445≠gb460));have n11_:=Aside0.mk ((by rw [hg];exact Nat.ne_of_gt (blk_lt (g:=gb445) (o := .cells #[.string t440, .slice Ao23 t441.length co23] 41 (0,0)) (by (with_reducible repeat (first|refine blk_drewN ?_ _|refine blk_drew ?_|refine blk_alloc ?_ _));exact BK445.out)):gb460≠gb445));have n12_:=Aside0.mk ((by rw [hg];exact Nat.ne_of_lt (blk_lt (g:=gb454) (o := .cells #[.string t449, .slice Ao31 t450.length co31] 41 (0,0)) (by (with_reducible repeat (first|refine blk_drewN ?_ _|refine blk_drew ?_|refine blk_alloc ?_ _));exact BK454.out)):gb454≠gb460));have n13_:=Aside0.mk ((by rw [hg];exact Nat.ne_of_gt (blk_lt (g:=gb454) (o := .cells #[.string t449, .slice Ao31 t450.length co31] 41 (0,0)) (by (with_reducible repeat (first|refine blk_drewN ?_ _|refine blk_drew ?_|refine blk_alloc ?_ _));exact BK454.out)):gb460≠gb454));clear HO443;clear HO448;clear HO452;clear HO458;clear BK445;clear BK454;clear HB;have HO443:=n0_;have HO448:=n1_;have HO452:=n2_;have HO458:=n3_;have BK445:=n4_;have BK454:=n5_;have HB:=n6_;have BK460:=n7_;have GW460:=n8_;have GE460:=n9_;have NB445_460:=n10_;have NB460_445:=n11_;have NB454_460:=n12_;have NB460_454:=n13_;clear n0_ n1_ n2_ n3_ n4_ n5_ n6_ n7_ n8_ n9_ n10_ n11_ n12_ n13_;clear hb hbox hg;have hnb34:=NB460_445.out;have hnc34:=NB445_460.out;have hnb35:=NB460_454.out;have hnc35:=NB454_460.out;have hcz36_0:w33.cell? ⟨gb460,0,none⟩=some (.string (⟨#[]⟩:ByteArray)):=(blk_cell BK460.out 0).trans rfl;have hcz36_1:w33.cell? ⟨gb460,1,none⟩=some (.slice none 0 0):=(blk_cell BK460.out 1).trans rfl;have hfz36_0:=blk_frozen BK460.out 0;have hfz36_1:=blk_frozen BK460.out 1;obtain ⟨Ao37,co37,eo37⟩:=Kd.R_slice HO458.out;subst eo37)|((with_reducible refine gate_callee (f:=36) rfl ?_);refine goesL_ (some 25) rfl rfl Tryd.func36 (by kernel_rfl) rfl #[.string (⟨#[99,112,117]⟩:ByteArray)] rfl (by (try simp only [List.map_toArray,List.map_cons,List.map_nil]);first|done|rfl|(simp only [List.length_drop,List.length_take];rfl)) ?_;(with_reducible refine (key_Parse.calls k (⟨#[99,112,117]⟩:ByteArray) t461 t462 t465 _ A4.out).mono ?_);rintro e w38 ⟨v463,rfl,ho0,hb⟩;refine ⟨_,rfl,?_⟩;have n0_:=Aside0.mk (Kd.R_elder' (by (with_reducible repeat (first|apply Kd.R_alloc|apply Kd.R_drewN|apply Kd.R_drew));exact (Kd.R_mono (Kd.R_far (p:=⟨gb460,1,none⟩) (Kd.R_far (p:=⟨gb460,0,none⟩) (Kd.R_types HO443.out BK460.out (by decide)) (fun _ hk=>hk.2) (.string t455)) (fun _ hk=>hk.2) (.slice Ao37 t456.length co37)) (fun _ h_=>h_.1))) (Kd.R_base ho0) hb);have n1_:=Aside0.mk (Kd.R_elder' (by (with_reducible repeat (first|apply Kd.R_alloc|apply Kd.R_drewN|apply Kd.R_drew));exact (Kd.R_mono (Kd.R_far (p:=⟨gb460,1,none⟩) (Kd.R_far (p:=⟨gb460,0,none⟩) (Kd.R_types HO448.out BK460.out (by decide)) (fun _ hk=>hk.2) (.string t455)) (fun _ hk=>hk.2) (.slice Ao37 t456.length co37)) (fun _ h_=>h_.1))) (Kd.R_base ho0) hb);have n2_:=Aside0.mk (Kd.R_elder' (by (with_reducible repeat (first|apply Kd.R_alloc|apply Kd.R_drewN|apply Kd.R_drew));exact (Kd.R_mono (Kd.R_far (p:=⟨gb460,1,none⟩) (Kd.R_far (p:=⟨gb460,0,none⟩) (Kd.R_types HO452.out BK460.out (by decide)) (fun _ hk=>hk.2) (.string t455)) (fun _ hk=>hk.2) (.slice Ao37 t456.length co37)) (fun _ h_=>h_.1))) (Kd.R_base ho0) hb);have n3_:=Aside0.mk (Kd.R_elder' (by (with_reducible repeat (first|apply Kd.R_alloc|apply Kd.R_drewN|apply Kd.R_drew));exact (Kd.R_mono (Kd.R_far (p:=⟨gb460,1,none⟩) (Kd.R_far (p:=⟨gb460,0,none⟩) (Kd.R_types HO458.out BK460.out (by decide)) (fun _ hk=>hk.2) (.string t455)) (fun _ hk=>hk.2) (.slice Ao37 t456.length co37)) (fun _ h_=>h_.1))) (Kd.R_base ho0) hb);have n4_:=Aside0.mk (Kd.R_lower (Kd.R_new' (Kd.R_new' (Kd.R_new' (Kd.R_new' ho0 (Kd.R_lt (by (with_reducible repeat (first|apply Kd.R_alloc|apply Kd.R_drewN|apply Kd.R_drew));exact (Kd.R_mono (Kd.R_far (p:=⟨gb460,1,none⟩) (Kd.R_far (p:=⟨gb460,0,none⟩) (Kd.R_types HO443.out BK460.out (by decide)) (fun _ hk=>hk.2) (.string t455)) (fun _ hk=>hk.2) (.slice Ao37 t456.length co37)) (fun _ h_=>h_.1))))) (Kd.R_lt (by (with_reducible repeat (first|apply Kd.R_alloc|apply Kd.R_drewN|apply Kd.R_drew));exact (Kd.R_mono (Kd.R_far (p:=⟨gb460,1,none⟩) (Kd.R_far (p:=⟨gb460,0,none⟩) (Kd.R_types HO448.out BK460.out (by decide)) (fun _ hk=>hk.2) (.string t455)) (fun _ hk=>hk.2) (.slice Ao37 t456.length co37)) (fun _ h_=>h_.1))))) (Kd.R_lt (by (with_reducible repeat (first|apply Kd.R_alloc|apply Kd.R_drewN|apply Kd.R_drew));exact (Kd.R_mono (Kd.R_far (p:=⟨gb460,1,none⟩) (Kd.R_far (p:=⟨gb460,0,none⟩) (Kd.R_types HO452.out BK460.out (by decide)) (fun _ hk=>hk.2) (.string t455)) (fun _ hk=>hk.2) (.slice Ao37 t456.length co37)) (fun _ h_=>h_.1))))) (Kd.R_lt (by (with_reducible repeat (first|apply Kd.R_alloc|apply Kd.R_drewN|apply Kd.R_drew));exact (Kd.R_mono (Kd.R_far (p:=⟨gb460,1,none⟩) (Kd.R_far (p:=⟨gb460,0,none⟩) (Kd.R_types HO458.out BK460.out (by decide)) (fun _ hk=>hk.2) (.string t455)) (fun _ hk=>hk.2) (.slice Ao37 t456.length co37)) (fun _ h_=>h_.1))))) (below_size (by repeat (first|(with_reducible first|exact HB.out|apply below_alloc|apply pw_below_drewN|apply below_drew1|refine below_set ?_ GE445.out|refine below_set ?_ GE454.out|refine below_set ?_ GE460.out)|exact HB.out))));have n5_:=Aside0.mk (blk_below (g:=gb445) (o := .cells #[.string t440, .slice Ao23 t441.length co23] 41 (0,0)) (by (with_reducible repeat (first|refine blk_drewN ?_ _|refine blk_drew ?_|refine blk_alloc ?_ _));refine blk_far ?_ NB445_460.out _;(with_reducible repeat (first|refine blk_drewN ?_ _|refine blk_drew ?_|refine blk_alloc ?_ _));refine blk_far ?_ NB445_460.out _;(with_reducible repeat (first|refine blk_drewN ?_ _|refine blk_drew ?_|refine blk_alloc ?_ _));exact BK445.out) hb);have n6_:=Aside0.mk (blk_below (g:=gb454) (o := .cells #[.string t449, .slice Ao31 t450.length co31] 41 (0,0)) (by (with_reducible repeat (first|refine blk_drewN ?_ _|refine blk_drew ?_|refine blk_alloc ?_ _));refine blk_far ?_ NB454_460.out _;(with_reducible repeat (first|refine blk_drewN ?_ _|refine blk_drew ?_|refine blk_alloc ?_ _));refine blk_far ?_ NB454_460.out _;(with_reducible repeat (first|refine blk_drewN ?_ _|refine blk_drew ?_|refine blk_alloc ?_ _));exact BK454.out) hb);have n7_:=Aside0.mk (blk_below (g:=gb460) (o := .cells #[.string t455, .slice Ao37 t456.length co37] 41 (0,0)) (by (with_reducible repeat (first|refine blk_drewN ?_ _|refine blk_drew ?_|refine blk_alloc ?_ _));refine blk_put (cs:=#[.string t455, .slice none 0 0]) ?_ 1 _ rfl;(with_reducible repeat (first|refine blk_drewN ?_ _|refine blk_drew ?_|refine blk_alloc ?_ _));refine blk_put (cs:=#[.string (⟨#[]⟩:ByteArray), .slice none 0 0]) ?_ 0 _ rfl;(with_reducible repeat (first|refine blk_drewN ?_ _|refine blk_drew ?_|refine blk_alloc ?_ _));exact BK460.out) hb);have n8_:=Aside0.mk (below_step (by repeat (first|(with_reducible first|exact HB.out|apply below_alloc|apply pw_below_drewN|apply below_drew1|refine below_set ?_ GE445.out|refine below_set ?_ GE454.out|refine below_set ?_ GE460.out)|exact HB.out)) hb);clear HO443;clear HO448;clear HO452;clear HO458;clear BK445;clear BK454;clear BK460;clear HB;have HO443:=n0_;have HO448:=n1_;have HO452:=n2_;have HO458:=n3_;have HO464:=n4_;have BK445:=n5_;have BK454:=n6_;have BK460:=n7_;have HB:=n8_;clear n0_ n1_ n2_ n3_ n4_ n5_ n6_ n7_ n8_;(try clear hb);(try clear hb2);(try clear hk);(try clear hi);(try clear ho0))|((with_reducible refine gate_dst (N:=7) rfl ?_);refine box_event ?hg (N:=7) ?hd (cs:=#[.string (⟨#[]⟩:ByteArray), .slice none 0 0]) (t:=41) ?hr ?_;(case hd=>rfl);(case hg=>rfl);(case hr=>first|(go_simp;done)|(go_simp;rfl));intro gb466 hg w39 hbox hb;have n0_:=Aside0.mk (Kd.R_below (by (with_reducible repeat (first|apply Kd.R_alloc|apply Kd.R_drewN|apply Kd.R_drew));exact HO443.out) hb);have n1_:=Aside0.mk (Kd.R_below (by (with_reducible repeat (first|apply Kd.R_alloc|apply Kd.R_drewN|apply Kd.R_drew));exact HO448.out) hb);have n2_:=Aside0.mk (Kd.R_below (by (with_reducible repeat (first|apply Kd.R_alloc|apply Kd.R_drewN|apply Kd.R_drew));exact HO452.out) hb);have n3_:=Aside0.mk (Kd.R_below (by (with_reducible repeat (first|apply Kd.R_alloc|apply Kd.R_drewN|apply Kd.R_drew));exact HO458.out) hb);have n4_:=Aside0.mk (Kd.R_below (by (with_reducible repeat (first|apply Kd.R_alloc|apply Kd.R_drewN|apply Kd.R_drew));exact HO464.out) hb);have n5_:=Aside0.mk (blk_below (g:=gb445) (o := .cells #[.string t440, .slice Ao23 t441.length co23] 41 (0,0)) (by (with_reducible repeat (first|refine blk_drewN ?_ _|refine blk_drew ?_|refine blk_alloc ?_ _));exact BK445.out) hb);have n6_:=Aside0.mk (blk_below (g:=gb454) (o := .cells #[.string t449, .slice Ao31 t450.length co31] 41 (0,0)) (by (with_reducible repeat (first|refine blk_drewN ?_ _|refine blk_drew ?_|refine blk_alloc ?_ _));exact BK454.out) hb);have n7_:=Aside0.mk (blk_below (g:=gb460) (o := .cells #[.string t455, .slice Ao37 t456.length co37] 41 (0,0)) (by (with_reducible repeat (first|refine blk_drewN ?_ _|refine blk_drew ?_|refine blk_alloc ?_ _));exact BK460.out) hb);have n8_:=Aside0.mk (below_step (by repeat (first|(with_reducible first|exact HB.out|apply below_alloc|apply pw_below_drewN|apply below_drew1|refine below_set ?_ GE445.out|refine below_set ?_ GE454.out|refine below_set ?_ GE460.out)|exact HB.out)) hb);have n9_:=Aside0.mk (hbox);have n10_:=Aside0.mk ((by rw [hg];exact (below_size (by repeat (first|(with_reducible first|exact HB.out|apply below_alloc|apply pw_below_drewN|apply below_drew1|refine below_set ?_ GE445.out|refine below_set ?_ GE454.out|refine below_set ?_ GE460.out)|exact HB.out))):w.heap.size≤gb466));have n11_:=Aside0.mk ((by rw [hg];exact (below_size (by repeat (first|(with_reducible first|exact HB.out|apply below_alloc|apply pw_below_drewN|apply below_drew1|refine below_set ?_ GE445.out|refine below_set ?_ GE454.out|refine below_set ?_ GE460.out)|exact HB.out))):w.heap.size≤gb466));have n12_:=Aside0.mk ((by rw [hg];exact Nat.ne_of_lt (blk_lt (g:=gb445) (o := .cells #[.string t440, .slice Ao23 t441.length co23] 41 (0,0)) (by (with_reducible repeat (first|refine blk_drewN ?_ _|refine blk_drew ?_|refine blk_alloc ?_ _));exact BK445.out)):gb445≠gb466));have n13_:=Aside0.mk ((by rw [hg];exact Nat.ne_of_gt (blk_lt (g:=gb445) (o := .cells #[.string t440, .slice Ao23 t441.length co23] 41 (0,0)) (by (with_reducible repeat (first|refine blk_drewN ?_ _|refine blk_drew ?_|refine blk_alloc ?_ _));exact BK445.out)):gb466≠gb445));have n14_:=Aside0.mk ((by rw [hg];exact Nat.ne_of_lt (blk_lt (g:=gb454) (o := .cells #[.string t449, .slice Ao31 t450.length co31] 41 (0,0)) (by (with_reducible repeat (first|refine blk_drewN ?_ _|refine blk_drew ?_|refine blk_alloc ?_ _));exact BK454.out)):gb454≠gb466));have n15_:=Aside0.mk ((by rw [hg];exact Nat.ne_of_gt (blk_lt (g:=gb454) (o := .cells #[.string t449, .slice Ao31 t450.length co31] 41 (0,0)) (by (with_reducible repeat (first|refine blk_drewN ?_ _|refine blk_drew ?_|refine blk_alloc ?_ _));exact BK454.out)):gb466≠gb454));have n16_:=Aside0.mk ((by rw [hg];exact Nat.ne_of_lt (blk_lt (g:=gb460) (o := .cells #[.string t455, .slice Ao37 t456.length co37] 41 (0,0)) (by (with_reducible repeat (first|refine blk_drewN ?_ _|refine blk_drew ?_|refine blk_alloc ?_ _));exact BK460.out)):gb460≠gb466));have n17_:=Aside0.mk ((by rw [hg];exact Nat.ne_of_gt (blk_lt (g:=gb460) (o := .cells #[.string t455, .slice Ao37 t456.length co37] 41 (0,0)) (by (with_reducible repeat (first|refine blk_drewN ?_ _|refine blk_drew ?_|refine blk_alloc ?_ _));exact BK460.out)):gb466≠gb460));clear HO443;clear HO448;clear HO452;clear HO458;clear HO464;clear BK445;clear BK454;clear BK460;clear HB;have HO443:=n0_;have HO448:=n1_;have HO452:=n2_;have HO458:=n3_;have HO464:=n4_;have BK445:=n5_;have BK454:=n6_;have BK460:=n7_;have HB:=n8_;have BK466:=n9_;have GW466:=n10_;have GE466:=n11_;have NB445_466:=n12_;have NB466_445:=n13_;have NB454_466:=n14_;have NB466_454:=n15_;have NB460_466:=n16_;have NB466_460:=n17_;clear n0_ n1_ n2_ n3_ n4_ n5_ n6_ n7_ n8_ n9_ n10_ n11_ n12_ n13_ n14_ n15_ n16_ n17_;clear hb hbox hg;have hnb40:=NB466_445.out;have hnc40:=NB445_466.out;have hnb41:=NB466_454.out;have hnc41:=NB454_466.out;have hnb42:=NB466_460.out;have hnc42:=NB460_466.out;have hcz43_0:w39.cell? ⟨gb466,0,none⟩=some (.string (⟨#[]⟩:ByteArray)):=(blk_cell BK466.out 0).trans rfl;have hcz43_1:w39.cell? ⟨gb466,1,none⟩=some (.slice none 0 0):=(blk_cell BK466.out 1).trans rfl;have hfz43_0:=blk_frozen BK466.out 0;have hfz43_1:=blk_frozen BK466.out 1;obtain ⟨Ao44,co44,eo44⟩:=Kd.R_slice HO464.out;subst eo44;have hcz45_0:w39.cell? ⟨gb445,0,none⟩=some (.string t440):=(blk_cell BK445.out 0).trans rfl;have hcz45_1:w39.cell? ⟨gb445,1,none⟩=some (.slice Ao23 t441.length co23):=(blk_cell BK445.out 1).trans rfl;have hfz45_0:=blk_frozen BK445.out 0;have hfz45_1:=blk_frozen BK445.out 1)|(go_at_call 33;(with_reducible refine (key_Text.calls k t440 _ _ t441 t467 _ ?side1 ?side2 A9.out).mono ?_);(case side1=>refine (Kd.R_reads' (e:=52) (base:=w.heap.size) (ok:=fun k_=>((((True∧some k_≠(.slice Ao26 y446.length co26:Value).ownBlock)∧some k_≠(.slice Ao31 t450.length co31:Value).ownBlock)∧some k_≠(.slice Ao37 t456.length co37:Value).ownBlock)∧some k_≠(.slice Ao44 t462.length co44:Value).ownBlock)) (n:=t441.length) (c:=co23) ?_).2.2;exact (by (with_reducible repeat (first|apply Kd.R_alloc|apply Kd.R_drewN|apply Kd.R_drew));exact (Kd.R_mono (Kd.R_far (p:=⟨gb466,1,none⟩) (Kd.R_far (p:=⟨gb466,0,none⟩) (Kd.R_types HO443.out BK466.out (by decide)) (fun _ hk=>hk.2) (.string t461)) (fun _ hk=>hk.2) (.slice Ao44 t462.length co44)) (fun _ h_=>h_.1))));(case side2=>exact (Kd.R_reads' HO443.out).2.1);rintro e w46 ⟨rfl,hb⟩;have n0_:=Aside0.mk (Kd.R_below (by (with_reducible repeat (first|apply Kd.R_alloc|apply Kd.R_drewN|apply Kd.R_drew));exact (Kd.R_mono (Kd.R_far (p:=⟨gb466,1,none⟩) (Kd.R_far (p:=⟨gb466,0,none⟩) (Kd.R_types HO443.out BK466.out (by decide)) (fun _ hk=>hk.2) (.string t461)) (fun _ hk=>hk.2) (.slice Ao44 t462.length co44)) (fun _ h_=>h_.1))) hb);have n1_:=Aside0.mk (Kd.R_below (by (with_reducible repeat (first|apply Kd.R_alloc|apply Kd.R_drewN|apply Kd.R_drew));exact (Kd.R_mono (Kd.R_far (p:=⟨gb466,1,none⟩) (Kd.R_far (p:=⟨gb466,0,none⟩) (Kd.R_types HO448.out BK466.out (by decide)) (fun _ hk=>hk.2) (.string t461)) (fun _ hk=>hk.2) (.slice Ao44 t462.length co44)) (fun _ h_=>h_.1))) hb);have n2_:=Aside0.mk (Kd.R_below (by (with_reducible repeat (first|apply Kd.R_alloc|apply Kd.R_drewN|apply Kd.R_drew));exact (Kd.R_mono (Kd.R_far (p:=⟨gb466,1,none⟩) (Kd.R_far (p:=⟨gb466,0,none⟩) (Kd.R_types HO452.out BK466.out (by decide)) (fun _ hk=>hk.2) (.string t461)) (fun _ hk=>hk.2) (.slice Ao44 t462.length co44)) (fun _ h_=>h_.1))) hb);have n3_:=Aside0.mk (Kd.R_below (by (with_reducible repeat (first|apply Kd.R_alloc|apply Kd.R_drewN|apply Kd.R_drew));exact (Kd.R_mono (Kd.R_far (p:=⟨gb466,1,none⟩) (Kd.R_far (p:=⟨gb466,0,none⟩) (Kd.R_types HO458.out BK466.out (by decide)) (fun _ hk=>hk.2) (.string t461)) (fun _ hk=>hk.2) (.slice Ao44 t462.length co44)) (fun _ h_=>h_.1))) hb);have n4_:=Aside0.mk (Kd.R_below (by (with_reducible repeat (first|apply Kd.R_alloc|apply Kd.R_drewN|apply Kd.R_drew));exact (Kd.R_mono (Kd.R_far (p:=⟨gb466,1,none⟩) (Kd.R_far (p:=⟨gb466,0,none⟩) (Kd.R_types HO464.out BK466.out (by decide)) (fun _ hk=>hk.2) (.string t461)) (fun _ hk=>hk.2) (.slice Ao44 t462.length co44)) (fun _ h_=>h_.1))) hb);have n5_:=Aside0.mk (blk_below (g:=gb445) (o := .cells #[.string t440, .slice Ao23 t441.length co23] 41 (0,0)) (by (with_reducible repeat (first|refine blk_drewN ?_ _|refine blk_drew ?_|refine blk_alloc ?_ _));refine blk_far ?_ NB445_466.out _;(with_reducible repeat (first|refine blk_drewN ?_ _|refine blk_drew ?_|refine blk_alloc ?_ _));refine blk_far ?_ NB445_466.out _;(with_reducible repeat (first|refine blk_drewN ?_ _|refine blk_drew ?_|refine blk_alloc ?_ _));exact BK445.out) hb);have n6_:=Aside0.mk (blk_below (g:=gb454) (o := .cells #[.string t449, .slice Ao31 t450.length co31] 41 (0,0)) (by (with_reducible repeat (first|refine blk_drewN ?_ _|refine blk_drew ?_|refine blk_alloc ?_ _));refine blk_far ?_ NB454_466.out _;(with_reducible repeat (first|refine blk_drewN ?_ _|refine blk_drew ?_|refine blk_alloc ?_ _));refine blk_far ?_ NB454_466.out _;(with_reducible repeat (first|refine blk_drewN ?_ _|refine blk_drew ?_|refine blk_alloc ?_ _));exact BK454.out) hb);have n7_:=Aside0.mk (blk_below (g:=gb460) (o := .cells #[.string t455, .slice Ao37 t456.length co37] 41 (0,0)) (by (with_reducible repeat (first|refine blk_drewN ?_ _|refine blk_drew ?_|refine blk_alloc ?_ _));refine blk_far ?_ NB460_466.out _;(with_reducible repeat (first|refine blk_drewN ?_ _|refine blk_drew ?_|refine blk_alloc ?_ _));refine blk_far ?_ NB460_466.out _;(with_reducible repeat (first|refine blk_drewN ?_ _|refine blk_drew ?_|refine blk_alloc ?_ _));exact BK460.out) hb);have n8_:=Aside0.mk (blk_below (g:=gb466) (o := .cells #[.string t461, .slice Ao44 t462.length co44] 41 (0,0)) (by (with_reducible repeat (first|refine blk_drewN ?_ _|refine blk_drew ?_|refine blk_alloc ?_ _));refine blk_put (cs:=#[.string t461, .slice none 0 0]) ?_ 1 _ rfl;(with_reducible repeat (first|refine blk_drewN ?_ _|refine blk_drew ?_|refine blk_alloc ?_ _));refine blk_put (cs:=#[.string (⟨#[]⟩:ByteArray), .slice none 0 0]) ?_ 0 _ rfl;(with_reducible repeat (first|refine blk_drewN ?_ _|refine blk_drew ?_|refine blk_alloc ?_ _));exact BK466.out) hb);have n9_:=Aside0.mk (below_step (by repeat (first|(with_reducible first|exact HB.out|apply below_alloc|apply pw_below_drewN|apply below_drew1|refine below_set ?_ GE445.out|refine below_set ?_ GE454.out|refine below_set ?_ GE460.out|refine below_set ?_ GE466.out)|exact HB.out)) hb);clear HO443;clear HO448;clear HO452;clear HO458;clear HO464;clear BK445;clear BK454;clear BK460;clear BK466;clear HB;have HO443:=n0_;have HO448:=n1_;have HO452:=n2_;have HO458:=n3_;have HO464:=n4_;have BK445:=n5_;have BK454:=n6_;have BK460:=n7_;have BK466:=n8_;have HB:=n9_;clear n0_ n1_ n2_ n3_ n4_ n5_ n6_ n7_ n8_ n9_;(try clear hb);(try clear hb2);(try clear hk);(try clear hi);have hcz47_0:w46.cell? ⟨gb445,0,none⟩=some (.string t440):=(blk_cell BK445.out 0).trans rfl;have hcz47_1:w46.cell? ⟨gb445,1,none⟩=some (.slice Ao23 t441.length co23):=(blk_cell BK445.out 1).trans rfl;have hfz47_0:=blk_frozen BK445.out 0;have hfz47_1:=blk_frozen BK445.out 1;have hcz48_0:w46.cell? ⟨gb454,0,none⟩=some (.string t449):=(blk_cell BK454.out 0).trans rfl;have hcz48_1:w46.cell? ⟨gb454,1,none⟩=some (.slice Ao31 t450.length co31):=(blk_cell BK454.out 1).trans rfl;have hfz48_0:=blk_frozen BK454.out 0;have hfz48_1:=blk_frozen BK454.out 1)|(go_at_call 35;(with_reducible refine (key_Same.calls k t440 _ _ t441 t449 _ _ t450 true _ ?side1 ?side2 ?side3 ?side4 A11.out).mono ?_);(case side1=>repeat (first|exact (Kd.R_reads' HO443.out).2.2|(with_reducible refine Kd.C_alloc ?_ _)|(with_reducible refine Kd.C_drewN ?_ _)|(with_reducible refine Kd.C_drew ?_)));(case side2=>exact (Kd.R_reads' HO443.out).2.1);(case side3=>repeat (first|exact (Kd.R_reads' HO452.out).2.2|(with_reducible refine Kd.C_alloc ?_ _)|(with_reducible refine Kd.C_drewN ?_ _)|(with_reducible refine Kd.C_drew ?_)));(case side4=>exact (Kd.R_reads' HO452.out).2.1);rintro e w49 ⟨rfl,hb⟩;have n0_:=Aside0.mk (Kd.R_below (by (with_reducible repeat (first|apply Kd.R_alloc|apply Kd.R_drewN|apply Kd.R_drew));exact HO443.out) hb);have n1_:=Aside0.mk (Kd.R_below (by (with_reducible repeat (first|apply Kd.R_alloc|apply Kd.R_drewN|apply Kd.R_drew));exact HO448.out) hb);have n2_:=Aside0.mk (Kd.R_below (by (with_reducible repeat (first|apply Kd.R_alloc|apply Kd.R_drewN|apply Kd.R_drew));exact HO452.out) hb);have n3_:=Aside0.mk (Kd.R_below (by (with_reducible repeat (first|apply Kd.R_alloc|apply Kd.R_drewN|apply Kd.R_drew));exact HO458.out) hb);have n4_:=Aside0.mk (Kd.R_below (by (with_reducible repeat (first|apply Kd.R_alloc|apply Kd.R_drewN|apply Kd.R_drew));exact HO464.out) hb);have n5_:=Aside0.mk (blk_below (g:=gb445) (o := .cells #[.string t440, .slice Ao23 t441.length co23] 41 (0,0)) (by (with_reducible repeat (first|refine blk_drewN ?_ _|refine blk_drew ?_|refine blk_alloc ?_ _));exact BK445.out) hb);have n6_:=Aside0.mk (blk_below (g:=gb454) (o := .cells #[.string t449, .slice Ao31 t450.length co31] 41 (0,0)) (by (with_reducible repeat (first|refine blk_drewN ?_ _|refine blk_drew ?_|refine blk_alloc ?_ _));exact BK454.out) hb);have n7_:=Aside0.mk (blk_below (g:=gb460) (o := .cells #[.string t455, .slice Ao37 t456.length co37] 41 (0,0)) (by (with_reducible repeat (first|refine blk_drewN ?_ _|refine blk_drew ?_|refine blk_alloc ?_ _));exact BK460.out) hb);have n8_:=Aside0.mk (blk_below (g:=gb466) (o := .cells #[.string t461, .slice Ao44 t462.length co44] 41 (0,0)) (by (with_reducible repeat (first|refine blk_drewN ?_ _|refine blk_drew ?_|refine blk_alloc ?_ _));exact BK466.out) hb);have n9_:=Aside0.mk (below_step (by repeat (first|(with_reducible first|exact HB.out|apply below_alloc|apply pw_below_drewN|apply below_drew1|refine below_set ?_ GE445.out|refine below_set ?_ GE454.out|refine below_set ?_ GE460.out|refine below_set ?_ GE466.out)|exact HB.out)) hb);clear HO443;clear HO448;clear HO452;clear HO458;clear HO464;clear BK445;clear BK454;clear BK460;clear BK466;clear HB;have HO443:=n0_;have HO448:=n1_;have HO452:=n2_;have HO458:=n3_;have HO464:=n4_;have BK445:=n5_;have BK454:=n6_;have BK460:=n7_;have BK466:=n8_;have HB:=n9_;clear n0_ n1_ n2_ n3_ n4_ n5_ n6_ n7_ n8_ n9_;(try clear hb);(try clear hb2);(try clear hk);(try clear hi);have hcz50_0:w49.cell? ⟨gb445,0,none⟩=some (.string t440):=(blk_cell BK445.out 0).trans rfl;have hcz50_1:w49.cell? ⟨gb445,1,none⟩=some (.slice Ao23 t441.length co23):=(blk_cell BK445.out 1).trans rfl;have hfz50_0:=blk_frozen BK445.out 0;have hfz50_1:=blk_frozen BK445.out 1;have hcz51_0:w49.cell? ⟨gb466,0,none⟩=some (.string t461):=(blk_cell BK466.out 0).trans rfl;have hcz51_1:w49.cell? ⟨gb466,1,none⟩=some (.slice Ao44 t462.length co44):=(blk_cell BK466.out 1).trans rfl;have hfz51_0:=blk_frozen BK466.out 0;have hfz51_1:=blk_frozen BK466.out 1)|(go_at_call 35;(with_reducible refine (key_Same.calls k t440 _ _ t441 t461 _ _ t462 false _ ?side1 ?side2 ?side3 ?side4 A13.out).mono ?_);(case side1=>repeat (first|exact (Kd.R_reads' HO443.out).2.2|(with_reducible refine Kd.C_alloc ?_ _)|(with_reducible refine Kd.C_drewN ?_ _)|(with_reducible refine Kd.C_drew ?_)));(case side2=>exact (Kd.R_reads' HO443.out).2.1);(case side3=>repeat (first|exact (Kd.R_reads' HO464.out).2.2|(with_reducible refine Kd.C_alloc ?_ _)|(with_reducible refine Kd.C_drewN ?_ _)|(with_reducible refine Kd.C_drew ?_)));(case side4=>exact (Kd.R_reads' HO464.out).2.1);rintro e w52 ⟨rfl,hb⟩;have n0_:=Aside0.mk (Kd.R_below (by (with_reducible repeat (first|apply Kd.R_alloc|apply Kd.R_drewN|apply Kd.R_drew));exact HO443.out) hb);have n1_:=Aside0.mk (Kd.R_below (by (with_reducible repeat (first|apply Kd.R_alloc|apply Kd.R_drewN|apply Kd.R_drew));exact HO448.out) hb);have n2_:=Aside0.mk (Kd.R_below (by (with_reducible repeat (first|apply Kd.R_alloc|apply Kd.R_drewN|apply Kd.R_drew));exact HO452.out) hb);have n3_:=Aside0.mk (Kd.R_below (by (with_reducible repeat (first|apply Kd.R_alloc|apply Kd.R_drewN|apply Kd.R_drew));exact HO458.out) hb);have n4_:=Aside0.mk (Kd.R_below (by (with_reducible repeat (first|apply Kd.R_alloc|apply Kd.R_drewN|apply Kd.R_drew));exact HO464.out) hb);have n5_:=Aside0.mk (blk_below (g:=gb445) (o := .cells #[.string t440, .slice Ao23 t441.length co23] 41 (0,0)) (by (with_reducible repeat (first|refine blk_drewN ?_ _|refine blk_drew ?_|refine blk_alloc ?_ _));exact BK445.out) hb);have n6_:=Aside0.mk (blk_below (g:=gb454) (o := .cells #[.string t449, .slice Ao31 t450.length co31] 41 (0,0)) (by (with_reducible repeat (first|refine blk_drewN ?_ _|refine blk_drew ?_|refine blk_alloc ?_ _));exact BK454.out) hb);have n7_:=Aside0.mk (blk_below (g:=gb460) (o := .cells #[.string t455, .slice Ao37 t456.length co37] 41 (0,0)) (by (with_reducible repeat (first|refine blk_drewN ?_ _|refine blk_drew ?_|refine blk_alloc ?_ _));exact BK460.out) hb);have n8_:=Aside0.mk (blk_below (g:=gb466) (o := .cells #[.string t461, .slice Ao44 t462.length co44] 41 (0,0)) (by (with_reducible repeat (first|refine blk_drewN ?_ _|refine blk_drew ?_|refine blk_alloc ?_ _));exact BK466.out) hb);have n9_:=Aside0.mk (below_step (by repeat (first|(with_reducible first|exact HB.out|apply below_alloc|apply pw_below_drewN|apply below_drew1|refine below_set ?_ GE445.out|refine below_set ?_ GE454.out|refine below_set ?_ GE460.out|refine below_set ?_ GE466.out)|exact HB.out)) hb);clear HO443;clear HO448;clear HO452;clear HO458;clear HO464;clear BK445;clear BK454;clear BK460;clear BK466;clear HB;have HO443:=n0_;have HO448:=n1_;have HO452:=n2_;have HO458:=n3_;have HO464:=n4_;have BK445:=n5_;have BK454:=n6_;have BK460:=n7_;have BK466:=n8_;have HB:=n9_;clear n0_ n1_ n2_ n3_ n4_ n5_ n6_ n7_ n8_ n9_;(try clear hb);(try clear hb2);(try clear hk);(try clear hi);have hcz53_0:w52.cell? ⟨gb466,0,none⟩=some (.string t461):=(blk_cell BK466.out 0).trans rfl;have hcz53_1:w52.cell? ⟨gb466,1,none⟩=some (.slice Ao44 t462.length co44):=(blk_cell BK466.out 1).trans rfl;have hfz53_0:=blk_frozen BK466.out 0;have hfz53_1:=blk_frozen BK466.out 1)|(go_at_call 33;(with_reducible refine (key_Text.calls k t461 _ _ t462 t470 _ ?side1 ?side2 A15.out).mono ?_);(case side1=>repeat (first|exact (Kd.R_reads' HO464.out).2.2|(with_reducible refine Kd.C_alloc ?_ _)|(with_reducible refine Kd.C_drewN ?_ _)|(with_reducible refine Kd.C_drew ?_)));(case side2=>exact (Kd.R_reads' HO464.out).2.1);rintro e w54 ⟨rfl,hb⟩;have n0_:=Aside0.mk (Kd.R_below (by (with_reducible repeat (first|apply Kd.R_alloc|apply Kd.R_drewN|apply Kd.R_drew));exact HO443.out) hb);have n1_:=Aside0.mk (Kd.R_below (by (with_reducible repeat (first|apply Kd.R_alloc|apply Kd.R_drewN|apply Kd.R_drew));exact HO448.out) hb);have n2_:=Aside0.mk (Kd.R_below (by (with_reducible repeat (first|apply Kd.R_alloc|apply Kd.R_drewN|apply Kd.R_drew));exact HO452.out) hb);have n3_:=Aside0.mk (Kd.R_below (by (with_reducible repeat (first|apply Kd.R_alloc|apply Kd.R_drewN|apply Kd.R_drew));exact HO458.out) hb);have n4_:=Aside0.mk (Kd.R_below (by (with_reducible repeat (first|apply Kd.R_alloc|apply Kd.R_drewN|apply Kd.R_drew));exact HO464.out) hb);have n5_:=Aside0.mk (blk_below (g:=gb445) (o := .cells #[.string t440, .slice Ao23 t441.length co23] 41 (0,0)) (by (with_reducible repeat (first|refine blk_drewN ?_ _|refine blk_drew ?_|refine blk_alloc ?_ _));exact BK445.out) hb);have n6_:=Aside0.mk (blk_below (g:=gb454) (o := .cells #[.string t449, .slice Ao31 t450.length co31] 41 (0,0)) (by (with_reducible repeat (first|refine blk_drewN ?_ _|refine blk_drew ?_|refine blk_alloc ?_ _));exact BK454.out) hb);have n7_:=Aside0.mk (blk_below (g:=gb460) (o := .cells #[.string t455, .slice Ao37 t456.length co37] 41 (0,0)) (by (with_reducible repeat (first|refine blk_drewN ?_ _|refine blk_drew ?_|refine blk_alloc ?_ _));exact BK460.out) hb);have n8_:=Aside0.mk (blk_below (g:=gb466) (o := .cells #[.string t461, .slice Ao44 t462.length co44] 41 (0,0)) (by (with_reducible repeat (first|refine blk_drewN ?_ _|refine blk_drew ?_|refine blk_alloc ?_ _));exact BK466.out) hb);have n9_:=Aside0.mk (below_step (by repeat (first|(with_reducible first|exact HB.out|apply below_alloc|apply pw_below_drewN|apply below_drew1|refine below_set ?_ GE445.out|refine below_set ?_ GE454.out|refine below_set ?_ GE460.out|refine below_set ?_ GE466.out)|exact HB.out)) hb);clear HO443;clear HO448;clear HO452;clear HO458;clear HO464;clear BK445;clear BK454;clear BK460;clear BK466;clear HB;have HO443:=n0_;have HO448:=n1_;have HO452:=n2_;have HO458:=n3_;have HO464:=n4_;have BK445:=n5_;have BK454:=n6_;have BK460:=n7_;have BK466:=n8_;have HB:=n9_;clear n0_ n1_ n2_ n3_ n4_ n5_ n6_ n7_ n8_ n9_;(try clear hb);(try clear hb2);(try clear hk);(try clear hi);have hcz55_0:w54.cell? ⟨gb466,0,none⟩=some (.string t461):=(blk_cell BK466.out 0).trans rfl;have hcz55_1:w54.cell? ⟨gb466,1,none⟩=some (.slice Ao44 t462.length co44):=(blk_cell BK466.out 1).trans rfl;have hfz55_0:=blk_frozen BK466.out 0;have hfz55_1:=blk_frozen BK466.out 1)|(go_at_call 31;(with_reducible refine (key_Right.calls k t461 _ _ t462 true _ ?side1 ?side2 A17.out).mono ?_);(case side1=>repeat (first|exact (Kd.R_reads' HO464.out).2.2|(with_reducible refine Kd.C_alloc ?_ _)|(with_reducible refine Kd.C_drewN ?_ _)|(with_reducible refine Kd.C_drew ?_)));(case side2=>exact (Kd.R_reads' HO464.out).2.1);rintro e w56 ⟨rfl,hb⟩;have n0_:=Aside0.mk (Kd.R_below (by (with_reducible repeat (first|apply Kd.R_alloc|apply Kd.R_drewN|apply Kd.R_drew));exact HO443.out) hb);have n1_:=Aside0.mk (Kd.R_below (by (with_reducible repeat (first|apply Kd.R_alloc|apply Kd.R_drewN|apply Kd.R_drew));exact HO448.out) hb);have n2_:=Aside0.mk (Kd.R_below (by (with_reducible repeat (first|apply Kd.R_alloc|apply Kd.R_drewN|apply Kd.R_drew));exact HO452.out) hb);have n3_:=Aside0.mk (Kd.R_below (by (with_reducible repeat (first|apply Kd.R_alloc|apply Kd.R_drewN|apply Kd.R_drew));exact HO458.out) hb);have n4_:=Aside0.mk (Kd.R_below (by (with_reducible repeat (first|apply Kd.R_alloc|apply Kd.R_drewN|apply Kd.R_drew));exact HO464.out) hb);have n5_:=Aside0.mk (blk_below (g:=gb445) (o := .cells #[.string t440, .slice Ao23 t441.length co23] 41 (0,0)) (by (with_reducible repeat (first|refine blk_drewN ?_ _|refine blk_drew ?_|refine blk_alloc ?_ _));exact BK445.out) hb);have n6_:=Aside0.mk (blk_below (g:=gb454) (o := .cells #[.string t449, .slice Ao31 t450.length co31] 41 (0,0)) (by (with_reducible repeat (first|refine blk_drewN ?_ _|refine blk_drew ?_|refine blk_alloc ?_ _));exact BK454.out) hb);have n7_:=Aside0.mk (blk_below (g:=gb460) (o := .cells #[.string t455, .slice Ao37 t456.length co37] 41 (0,0)) (by (with_reducible repeat (first|refine blk_drewN ?_ _|refine blk_drew ?_|refine blk_alloc ?_ _));exact BK460.out) hb);have n8_:=Aside0.mk (blk_below (g:=gb466) (o := .cells #[.string t461, .slice Ao44 t462.length co44] 41 (0,0)) (by (with_reducible repeat (first|refine blk_drewN ?_ _|refine blk_drew ?_|refine blk_alloc ?_ _));exact BK466.out) hb);have n9_:=Aside0.mk (below_step (by repeat (first|(with_reducible first|exact HB.out|apply below_alloc|apply pw_below_drewN|apply below_drew1|refine below_set ?_ GE445.out|refine below_set ?_ GE454.out|refine below_set ?_ GE460.out|refine below_set ?_ GE466.out)|exact HB.out)) hb);clear HO443;clear HO448;clear HO452;clear HO458;clear HO464;clear BK445;clear BK454;clear BK460;clear BK466;clear HB;have HO443:=n0_;have HO448:=n1_;have HO452:=n2_;have HO458:=n3_;have HO464:=n4_;have BK445:=n5_;have BK454:=n6_;have BK460:=n7_;have BK466:=n8_;have HB:=n9_;clear n0_ n1_ n2_ n3_ n4_ n5_ n6_ n7_ n8_ n9_;(try clear hb);(try clear hb2);(try clear hk);(try clear hi))|(go_at_call 31;(refine (key_Right.calls k (⟨#[]⟩:ByteArray) _ _ ([]:List (S52)) t472 _ ?side1 ?side2 A19.out).mono ?_);(case side1=>exact Kd.C_nil _ _);(case side2=>exact Nat.le_refl _);rintro e w57 ⟨rfl,hb⟩;have n0_:=Aside0.mk (Kd.R_below (by (with_reducible repeat (first|apply Kd.R_alloc|apply Kd.R_drewN|apply Kd.R_drew));exact HO443.out) hb);have n1_:=Aside0.mk (Kd.R_below (by (with_reducible repeat (first|apply Kd.R_alloc|apply Kd.R_drewN|apply Kd.R_drew));exact HO448.out) hb);have n2_:=Aside0.mk (Kd.R_below (by (with_reducible repeat (first|apply Kd.R_alloc|apply Kd.R_drewN|apply Kd.R_drew));exact HO452.out) hb);have n3_:=Aside0.mk (Kd.R_below (by (with_reducible repeat (first|apply Kd.R_alloc|apply Kd.R_drewN|apply Kd.R_drew));exact HO458.out) hb);have n4_:=Aside0.mk (Kd.R_below (by (with_reducible repeat (first|apply Kd.R_alloc|apply Kd.R_drewN|apply Kd.R_drew));exact HO464.out) hb);have n5_:=Aside0.mk (blk_below (g:=gb445) (o := .cells #[.string t440, .slice Ao23 t441.length co23] 41 (0,0)) (by (with_reducible repeat (first|refine blk_drewN ?_ _|refine blk_drew ?_|refine blk_alloc ?_ _));exact BK445.out) hb);have n6_:=Aside0.mk (blk_below (g:=gb454) (o := .cells #[.string t449, .slice Ao31 t450.length co31] 41 (0,0)) (by (with_reducible repeat (first|refine blk_drewN ?_ _|refine blk_drew ?_|refine blk_alloc ?_ _));exact BK454.out) hb);have n7_:=Aside0.mk (blk_below (g:=gb460) (o := .cells #[.string t455, .slice Ao37 t456.length co37] 41 (0,0)) (by (with_reducible repeat (first|refine blk_drewN ?_ _|refine blk_drew ?_|refine blk_alloc ?_ _));exact BK460.out) hb);have n8_:=Aside0.mk (blk_below (g:=gb466) (o := .cells #[.string t461, .slice Ao44 t462.length co44] 41 (0,0)) (by (with_reducible repeat (first|refine blk_drewN ?_ _|refine blk_drew ?_|refine blk_alloc ?_ _));exact BK466.out) hb);have n9_:=Aside0.mk (below_step (by repeat (first|(with_reducible first|exact HB.out|apply below_alloc|apply pw_below_drewN|apply below_drew1|refine below_set ?_ GE445.out|refine below_set ?_ GE454.out|refine below_set ?_ GE460.out|refine below_set ?_ GE466.out)|exact HB.out)) hb);clear HO443;clear HO448;clear HO452;clear HO458;clear HO464;clear BK445;clear BK454;clear BK460;clear BK466;clear HB;have HO443:=n0_;have HO448:=n1_;have HO452:=n2_;have HO458:=n3_;have HO464:=n4_;have BK445:=n5_;have BK454:=n6_;have BK460:=n7_;have BK466:=n8_;have HB:=n9_;clear n0_ n1_ n2_ n3_ n4_ n5_ n6_ n7_ n8_ n9_;(try clear hb);(try clear hb2);(try clear hk);(try clear hi)))
          go_ret
          exact ⟨by first|rfl|(simp [errW_none,errW_some]<;>rfl)|(simp [*,errW_none,errW_some]<;>rfl),by repeat (first|(with_reducible first|exact HB.out|apply below_alloc|apply pw_below_drewN|apply below_drew1|refine below_set ?_ GE445.out|refine below_set ?_ GE454.out|refine below_set ?_ GE460.out|refine below_set ?_ GE466.out)|exact HB.out)⟩
         ·replace c18:=Bool.eq_false_iff.mpr c18
          subst c18
          have H1:(none)=some r:=by rw [if_neg (show ¬ (false=true) by decide)] at H;exact H
          clear H
          have H:=H1
          clear H1
          exact absurd H (by simp)
        ·rw [if_neg c16] at H
         exact absurd H (by simp)
      ·replace c12:=Bool.eq_false_iff.mpr c12
       subst c12
       have H1:(none)=some r:=by rw [if_neg (show ¬ (false=true) by decide)] at H;exact H
       clear H
       have H:=H1
       clear H1
       exact absurd H (by simp)
     ·rw [if_neg c10] at H
      exact absurd H (by simp)
    ·rw [if_neg c8] at H
     exact absurd H (by simp)
   ·rw [if_neg c7] at H
    exact absurd H (by simp)
  ·rw [if_neg c6] at H
   exact absurd H (by simp)
 ·rw [if_neg c5] at H
  exact absurd H (by simp)
def ebbtideref04_Make.f (k:Nat) (a0:ByteArray) (l1:List (S52)):Option (ByteArray×(List (S52))×Int):=(ebbtideref02_Name.f k a0).bind fun t474=>(if t474=true then ((ebbtideref03_Canon.f k l1).bind fun bt475=>(if bt475.2=0 then (some (a0,bt475.1,0)) else (some ((⟨#[]⟩:ByteArray),([]:List (S52)),bt475.2)))) else (some ((⟨#[]⟩:ByteArray),([]:List (S52)),2)))
theorem ebbtideref04_Make.mono:∀ a0 a1 k,LeO (ebbtideref04_Make.f k a0 a1) (ebbtideref04_Make.f (k+1) a0 a1):=by
 intro a0 a1 k
 unfold ebbtideref04_Make.f
 repeat' first
   | (with_reducible exact ebbtideref02_Name.mono _ _)
   | (with_reducible exact ebbtideref03_Canon.mono _ _)
   | (with_reducible exact LeO.refl _)
   | (with_reducible exact LeO.none _)
   | (with_reducible refine LeO.ite ?_ ?_)
   | (with_reducible refine LeO.bind ?_ (fun _=>?_))
   | exact ebbtideref02_Name.mono _ _
   | exact ebbtideref03_Canon.mono _ _
   | exact LeO.none _
   | refine LeO.ite ?_ ?_
   | refine LeO.bind ?_ (fun _=>?_)
set_option maxHeartbeats 8000000 in
set_option maxRecDepth 100000 in
theorem ebbtideref04_Make.calls (k:Nat) (a0:ByteArray) (A1:Option Addr) (c1:Nat) (l1:List (S52)) (r1:ByteArray) (r2:List (S52)) (r3:Int) (w:World) (hr1:Kd.C k52 w A1 l1.length l1) (hc1:l1.length≤c1) (h:ebbtideref04_Make.f k a0 l1=some (r1,r2,r3)) :
  Calls Tryd.prog 29 #[.string a0, .slice A1 l1.length c1] w fun e w'=>∃ v1_:Value,e = .returned (.tuple #[.agg #[.string r1,v1_], .int .i64 r3])∧Kd.R k52 52 w' w.heap.size (fun _=>True) v1_ r2∧Below w.heap.size w w':=by
 have hu41:=Tryd.underlying41
 have HR1:=Aside0.mk hr1
 have HC1:=Aside0.mk hc1
 clear hr1 hc1
 have HB:=Aside0.mk (Below.refl w.heap.size w)
 have H:((ebbtideref02_Name.f k a0).bind fun t474=>(if t474=true then ((ebbtideref03_Canon.f k l1).bind fun bt475=>(if bt475.2=0 then (some (a0,bt475.1,0)) else (some ((⟨#[]⟩:ByteArray),([]:List (S52)),bt475.2)))) else (some ((⟨#[]⟩:ByteArray),([]:List (S52)),2))))=some (r1,r2,r3):=h
 clear h
 replace H:=Option.bind_eq_some_iff.mp H
 obtain ⟨t474,A30,H⟩:=H
 replace H:(if t474=true then ((ebbtideref03_Canon.f k l1).bind fun bt475=>(if bt475.2=0 then (some (a0,bt475.1,0)) else (some ((⟨#[]⟩:ByteArray),([]:List (S52)),bt475.2)))) else (some ((⟨#[]⟩:ByteArray),([]:List (S52)),2)))=some (r1,r2,r3):=H
 have A3:=Aside0.mk A30
 clear A30
 by_cases c4:t474=true
 ·subst c4
  have H1:((ebbtideref03_Canon.f k l1).bind fun bt475=>(if bt475.2=0 then (some (a0,bt475.1,0)) else (some ((⟨#[]⟩:ByteArray),([]:List (S52)),bt475.2))))=some (r1,r2,r3):=by rw [if_pos rfl] at H;exact H
  clear H
  have H:=H1
  clear H1
  replace H:=Option.bind_eq_some_iff.mp H
  obtain ⟨⟨t475,t476⟩,A50,H⟩:=H
  replace H:(if t476=0 then (some (a0,t475,0)) else (some ((⟨#[]⟩:ByteArray),([]:List (S52)),t476)))=some (r1,r2,r3):=H
  have A5:=Aside0.mk A50
  clear A50
  by_cases c6:t476=0
  ·rw [if_pos c6] at H
   have c6b0:(t476 ==0)=true:=beq_iff_eq.mpr c6
   have c6b1:(t476 != 0)=false:=bne_eq_false_iff_eq.mpr c6
   clear c6
   simp only [Option.some.injEq,Prod.mk.injEq] at H
   obtain ⟨rfl,rfl,rfl⟩:=H
   go_enter Tryd.func29,Tryd.ntmps29
   go_wp2_with (first|((with_reducible refine gate_dst (N:=4) rfl ?_);refine box_event ?hg (N:=4) ?hd (cs:=#[.string (⟨#[]⟩:ByteArray), .slice none 0 0]) (t:=41) ?hr ?_;(case hd=>rfl);(case hg=>rfl);(case hr=>first|(go_simp;done)|(go_simp;rfl));intro gb473 hg w7 hbox hb;have n0_:=Aside0.mk (below_step (by repeat (first|(with_reducible first|exact HB.out|apply below_alloc|apply pw_below_drewN|apply below_drew1)|exact HB.out)) hb);have n1_:=Aside0.mk (hbox);have n2_:=Aside0.mk ((by rw [hg];exact (below_size (by repeat (first|(with_reducible first|exact HB.out|apply below_alloc|apply pw_below_drewN|apply below_drew1)|exact HB.out))):w.heap.size≤gb473));have n3_:=Aside0.mk ((by rw [hg];exact (below_size (by repeat (first|(with_reducible first|exact HB.out|apply below_alloc|apply pw_below_drewN|apply below_drew1)|exact HB.out))):w.heap.size≤gb473));clear HB;have HB:=n0_;have BK473:=n1_;have GW473:=n2_;have GE473:=n3_;clear n0_ n1_ n2_ n3_;clear hb hbox hg)|((with_reducible refine gate_callee (f:=54) rfl ?_);refine goesL_ (some 9) rfl rfl Tryd.func54 (by kernel_rfl) rfl #[.string a0] rfl (by (try simp only [List.map_toArray,List.map_cons,List.map_nil]);first|done|rfl|(simp only [List.length_drop,List.length_take];rfl)) ?_;(with_reducible refine (ebbtideref02_Name.calls k a0 true _ A3.out).mono ?_);rintro e w' ⟨rfl,⟨nd,rfl⟩⟩;refine ⟨_,rfl,?_⟩;(try (rw [drewN_self w7];generalize hq_:World.drewN w7 _=w7;have n0_:Aside0 (w7.heap[gb473]?=some (.cells #[.string (⟨#[]⟩:ByteArray), .slice none 0 0] 41 (0,0))):=⟨by rw [← hq_];exact (by (with_reducible repeat (first|refine blk_drewN ?_ _|refine blk_drew ?_|refine blk_alloc ?_ _));exact BK473.out)⟩;have n1_:Aside0 (Below w.heap.size w w7):=⟨by rw [← hq_];exact (by repeat (first|(with_reducible first|exact HB.out|apply below_alloc|apply pw_below_drewN|apply below_drew1|refine below_set ?_ GE473.out)|exact HB.out))⟩;clear BK473 HB hq_;have BK473:=n0_;have HB:=n1_;clear n0_ n1_)))|((with_reducible refine gate_callee (f:=15) rfl ?_);refine goesL_ (some 14) rfl rfl Tryd.func15 (by kernel_rfl) rfl #[.slice A1 l1.length c1] rfl (by (try simp only [List.map_toArray,List.map_cons,List.map_nil]);first|done|rfl|(simp only [List.length_drop,List.length_take];rfl)) ?_;(with_reducible refine (ebbtideref03_Canon.calls k _ _ l1 t475 t476 _ ?side1 ?side2 A5.out).mono ?_);(case side1=>repeat (first|exact (Kd.C_below HR1.out HB.out)|(with_reducible refine Kd.C_alloc ?_ _)|(with_reducible refine Kd.C_drewN ?_ _)|(with_reducible refine Kd.C_drew ?_)));(case side2=>exact HC1.out);rintro e w8 ⟨v477,rfl,ho0,hb⟩;refine ⟨_,rfl,?_⟩;have n0_:=Aside0.mk (Kd.R_lower ho0 (below_size (by repeat (first|(with_reducible first|exact HB.out|apply below_alloc|apply pw_below_drewN|apply below_drew1|refine below_set ?_ GE473.out)|exact HB.out))));have n1_:=Aside0.mk (blk_below (g:=gb473) (o := .cells #[.string (⟨#[]⟩:ByteArray), .slice none 0 0] 41 (0,0)) (by (with_reducible repeat (first|refine blk_drewN ?_ _|refine blk_drew ?_|refine blk_alloc ?_ _));exact BK473.out) hb);have n2_:=Aside0.mk (below_step (by repeat (first|(with_reducible first|exact HB.out|apply below_alloc|apply pw_below_drewN|apply below_drew1|refine below_set ?_ GE473.out)|exact HB.out)) hb);clear BK473;clear HB;have HO478:=n0_;have BK473:=n1_;have HB:=n2_;clear n0_ n1_ n2_;(try clear hb);(try clear hb2);(try clear hk);(try clear hi);(try clear ho0);obtain ⟨Ao9,co9,eo9⟩:=Kd.R_slice HO478.out;subst eo9;have hcz10_0:w8.cell? ⟨gb473,0,none⟩=some (.string (⟨#[]⟩:ByteArray)):=(blk_cell BK473.out 0).trans rfl;have hcz10_1:w8.cell? ⟨gb473,1,none⟩=some (.slice none 0 0):=(blk_cell BK473.out 1).trans rfl;have hfz10_0:=blk_frozen BK473.out 0;have hfz10_1:=blk_frozen BK473.out 1))
   refine bodyPost_ret (results_ct rfl _ _ gb473 41 #[.string a0, .slice Ao9 t475.length co9] (0,0) _ rfl (by (with_reducible repeat (first|refine blk_drewN ?_ _|refine blk_drew ?_|refine blk_alloc ?_ _));refine blk_put (cs:=#[.string a0, .slice none 0 0]) ?_ 1 _ rfl;(with_reducible repeat (first|refine blk_drewN ?_ _|refine blk_drew ?_|refine blk_alloc ?_ _));refine blk_put (cs:=#[.string (⟨#[]⟩:ByteArray), .slice none 0 0]) ?_ 0 _ rfl;(with_reducible repeat (first|refine blk_drewN ?_ _|refine blk_drew ?_|refine blk_alloc ?_ _));exact BK473.out) Tryd.underlying41 rfl (by kernel_rfl)) rfl ?_
   exact ⟨_,by first|rfl|(simp [errW_none,errW_some]<;>rfl)|(simp [*,errW_none,errW_some]<;>rfl),by (with_reducible repeat (first|apply Kd.R_alloc|apply Kd.R_drewN|apply Kd.R_drew));exact Kd.R_mono (Kd.R_far (p:=⟨gb473,1,none⟩) (Kd.R_far (p:=⟨gb473,0,none⟩) (Kd.R_types HO478.out BK473.out (by decide)) (fun _ hk=>hk.2) (.string a0)) (fun _ hk=>hk.2) (.slice Ao9 t475.length co9)) (fun _ hk=>trivial),by repeat (first|(with_reducible first|exact HB.out|apply below_alloc|apply pw_below_drewN|apply below_drew1|refine below_set ?_ GE473.out)|exact HB.out)⟩
  ·rw [if_neg c6] at H
   have c6b0:(t476 ==0)=false:=beq_eq_false_iff_ne.mpr c6
   have c6b1:(t476 != 0)=true:=bne_iff_ne.mpr c6
   simp only [Option.some.injEq,Prod.mk.injEq] at H
   obtain ⟨rfl,rfl,rfl⟩:=H
   go_enter Tryd.func29,Tryd.ntmps29
   go_wp2_with (first|((with_reducible refine gate_dst (N:=4) rfl ?_);refine box_event ?hg (N:=4) ?hd (cs:=#[.string (⟨#[]⟩:ByteArray), .slice none 0 0]) (t:=41) ?hr ?_;(case hd=>rfl);(case hg=>rfl);(case hr=>first|(go_simp;done)|(go_simp;rfl));intro gb473 hg w11 hbox hb;have n0_:=Aside0.mk (below_step (by repeat (first|(with_reducible first|exact HB.out|apply below_alloc|apply pw_below_drewN|apply below_drew1)|exact HB.out)) hb);have n1_:=Aside0.mk (hbox);have n2_:=Aside0.mk ((by rw [hg];exact (below_size (by repeat (first|(with_reducible first|exact HB.out|apply below_alloc|apply pw_below_drewN|apply below_drew1)|exact HB.out))):w.heap.size≤gb473));have n3_:=Aside0.mk ((by rw [hg];exact (below_size (by repeat (first|(with_reducible first|exact HB.out|apply below_alloc|apply pw_below_drewN|apply below_drew1)|exact HB.out))):w.heap.size≤gb473));clear HB;have HB:=n0_;have BK473:=n1_;have GW473:=n2_;have GE473:=n3_;clear n0_ n1_ n2_ n3_;clear hb hbox hg)|((with_reducible refine gate_callee (f:=54) rfl ?_);refine goesL_ (some 9) rfl rfl Tryd.func54 (by kernel_rfl) rfl #[.string a0] rfl (by (try simp only [List.map_toArray,List.map_cons,List.map_nil]);first|done|rfl|(simp only [List.length_drop,List.length_take];rfl)) ?_;(with_reducible refine (ebbtideref02_Name.calls k a0 true _ A3.out).mono ?_);rintro e w' ⟨rfl,⟨nd,rfl⟩⟩;refine ⟨_,rfl,?_⟩;(try (rw [drewN_self w11];generalize hq_:World.drewN w11 _=w11;have n0_:Aside0 (w11.heap[gb473]?=some (.cells #[.string (⟨#[]⟩:ByteArray), .slice none 0 0] 41 (0,0))):=⟨by rw [← hq_];exact (by (with_reducible repeat (first|refine blk_drewN ?_ _|refine blk_drew ?_|refine blk_alloc ?_ _));exact BK473.out)⟩;have n1_:Aside0 (Below w.heap.size w w11):=⟨by rw [← hq_];exact (by repeat (first|(with_reducible first|exact HB.out|apply below_alloc|apply pw_below_drewN|apply below_drew1|refine below_set ?_ GE473.out)|exact HB.out))⟩;clear BK473 HB hq_;have BK473:=n0_;have HB:=n1_;clear n0_ n1_)))|((with_reducible refine gate_callee (f:=15) rfl ?_);refine goesL_ (some 14) rfl rfl Tryd.func15 (by kernel_rfl) rfl #[.slice A1 l1.length c1] rfl (by (try simp only [List.map_toArray,List.map_cons,List.map_nil]);first|done|rfl|(simp only [List.length_drop,List.length_take];rfl)) ?_;(with_reducible refine (ebbtideref03_Canon.calls k _ _ l1 t475 t476 _ ?side1 ?side2 A5.out).mono ?_);(case side1=>repeat (first|exact (Kd.C_below HR1.out HB.out)|(with_reducible refine Kd.C_alloc ?_ _)|(with_reducible refine Kd.C_drewN ?_ _)|(with_reducible refine Kd.C_drew ?_)));(case side2=>exact HC1.out);rintro e w12 ⟨v477,rfl,ho0,hb⟩;refine ⟨_,rfl,?_⟩;have n0_:=Aside0.mk (Kd.R_lower ho0 (below_size (by repeat (first|(with_reducible first|exact HB.out|apply below_alloc|apply pw_below_drewN|apply below_drew1|refine below_set ?_ GE473.out)|exact HB.out))));have n1_:=Aside0.mk (blk_below (g:=gb473) (o := .cells #[.string (⟨#[]⟩:ByteArray), .slice none 0 0] 41 (0,0)) (by (with_reducible repeat (first|refine blk_drewN ?_ _|refine blk_drew ?_|refine blk_alloc ?_ _));exact BK473.out) hb);have n2_:=Aside0.mk (below_step (by repeat (first|(with_reducible first|exact HB.out|apply below_alloc|apply pw_below_drewN|apply below_drew1|refine below_set ?_ GE473.out)|exact HB.out)) hb);clear BK473;clear HB;have HO478:=n0_;have BK473:=n1_;have HB:=n2_;clear n0_ n1_ n2_;(try clear hb);(try clear hb2);(try clear hk);(try clear hi);(try clear ho0);have hcz13_0:w12.cell? ⟨gb473,0,none⟩=some (.string (⟨#[]⟩:ByteArray)):=(blk_cell BK473.out 0).trans rfl;have hcz13_1:w12.cell? ⟨gb473,1,none⟩=some (.slice none 0 0):=(blk_cell BK473.out 1).trans rfl;have hfz13_0:=blk_frozen BK473.out 0;have hfz13_1:=blk_frozen BK473.out 1))
   refine bodyPost_ret (results_ct rfl _ _ gb473 41 #[.string (⟨#[]⟩:ByteArray), .slice none 0 0] (0,0) _ rfl (by (with_reducible repeat (first|refine blk_drewN ?_ _|refine blk_drew ?_|refine blk_alloc ?_ _));refine blk_put (cs:=#[.string (⟨#[]⟩:ByteArray), .slice none 0 0]) ?_ 1 _ rfl;(with_reducible repeat (first|refine blk_drewN ?_ _|refine blk_drew ?_|refine blk_alloc ?_ _));refine blk_put (cs:=#[.string (⟨#[]⟩:ByteArray), .slice none 0 0]) ?_ 0 _ rfl;(with_reducible repeat (first|refine blk_drewN ?_ _|refine blk_drew ?_|refine blk_alloc ?_ _));exact BK473.out) Tryd.underlying41 rfl (by kernel_rfl)) rfl ?_
   exact ⟨_,by first|rfl|(simp [errW_none,errW_some]<;>rfl)|(simp [*,errW_none,errW_some]<;>rfl),by first|exact Kd.R_nil _ _ _ _ _|exact Kd.N_nil _ _ _ _ _|exact Kd.V_nil _ _ _ _ _|exact Kd.Q_nil _ _ _ _ _|exact Kd.S_nil _ _ _ _ _,by repeat (first|(with_reducible first|exact HB.out|apply below_alloc|apply pw_below_drewN|apply below_drew1|refine below_set ?_ GE473.out)|exact HB.out)⟩
 ·replace c4:=Bool.eq_false_iff.mpr c4
  subst c4
  have H1:(some ((⟨#[]⟩:ByteArray),([]:List (S52)),2))=some (r1,r2,r3):=by rw [if_neg (show ¬ (false=true) by decide)] at H;exact H
  clear H
  have H:=H1
  clear H1
  simp only [Option.some.injEq,Prod.mk.injEq] at H
  obtain ⟨rfl,rfl,rfl⟩:=H
  go_enter Tryd.func29,Tryd.ntmps29
  go_wp2_with (first|((with_reducible refine gate_dst (N:=4) rfl ?_);refine box_event ?hg (N:=4) ?hd (cs:=#[.string (⟨#[]⟩:ByteArray), .slice none 0 0]) (t:=41) ?hr ?_;(case hd=>rfl);(case hg=>rfl);(case hr=>first|(go_simp;done)|(go_simp;rfl));intro gb473 hg w14 hbox hb;have n0_:=Aside0.mk (below_step (by repeat (first|(with_reducible first|exact HB.out|apply below_alloc|apply pw_below_drewN|apply below_drew1)|exact HB.out)) hb);have n1_:=Aside0.mk (hbox);have n2_:=Aside0.mk ((by rw [hg];exact (below_size (by repeat (first|(with_reducible first|exact HB.out|apply below_alloc|apply pw_below_drewN|apply below_drew1)|exact HB.out))):w.heap.size≤gb473));have n3_:=Aside0.mk ((by rw [hg];exact (below_size (by repeat (first|(with_reducible first|exact HB.out|apply below_alloc|apply pw_below_drewN|apply below_drew1)|exact HB.out))):w.heap.size≤gb473));clear HB;have HB:=n0_;have BK473:=n1_;have GW473:=n2_;have GE473:=n3_;clear n0_ n1_ n2_ n3_;clear hb hbox hg)|((with_reducible refine gate_callee (f:=54) rfl ?_);refine goesL_ (some 9) rfl rfl Tryd.func54 (by kernel_rfl) rfl #[.string a0] rfl (by (try simp only [List.map_toArray,List.map_cons,List.map_nil]);first|done|rfl|(simp only [List.length_drop,List.length_take];rfl)) ?_;(with_reducible refine (ebbtideref02_Name.calls k a0 false _ A3.out).mono ?_);rintro e w' ⟨rfl,⟨nd,rfl⟩⟩;refine ⟨_,rfl,?_⟩;(try (rw [drewN_self w14];generalize hq_:World.drewN w14 _=w14;have n0_:Aside0 (w14.heap[gb473]?=some (.cells #[.string (⟨#[]⟩:ByteArray), .slice none 0 0] 41 (0,0))):=⟨by rw [← hq_];exact (by (with_reducible repeat (first|refine blk_drewN ?_ _|refine blk_drew ?_|refine blk_alloc ?_ _));exact BK473.out)⟩;have n1_:Aside0 (Below w.heap.size w w14):=⟨by rw [← hq_];exact (by repeat (first|(with_reducible first|exact HB.out|apply below_alloc|apply pw_below_drewN|apply below_drew1|refine below_set ?_ GE473.out)|exact HB.out))⟩;clear BK473 HB hq_;have BK473:=n0_;have HB:=n1_;clear n0_ n1_));have hcz15_0:w14.cell? ⟨gb473,0,none⟩=some (.string (⟨#[]⟩:ByteArray)):=(blk_cell BK473.out 0).trans rfl;have hcz15_1:w14.cell? ⟨gb473,1,none⟩=some (.slice none 0 0):=(blk_cell BK473.out 1).trans rfl;have hfz15_0:=blk_frozen BK473.out 0;have hfz15_1:=blk_frozen BK473.out 1))
  refine bodyPost_ret (results_ct rfl _ _ gb473 41 #[.string (⟨#[]⟩:ByteArray), .slice none 0 0] (0,0) _ rfl (by (with_reducible repeat (first|refine blk_drewN ?_ _|refine blk_drew ?_|refine blk_alloc ?_ _));refine blk_put (cs:=#[.string (⟨#[]⟩:ByteArray), .slice none 0 0]) ?_ 1 _ rfl;(with_reducible repeat (first|refine blk_drewN ?_ _|refine blk_drew ?_|refine blk_alloc ?_ _));refine blk_put (cs:=#[.string (⟨#[]⟩:ByteArray), .slice none 0 0]) ?_ 0 _ rfl;(with_reducible repeat (first|refine blk_drewN ?_ _|refine blk_drew ?_|refine blk_alloc ?_ _));exact BK473.out) Tryd.underlying41 rfl (by kernel_rfl)) rfl ?_
  exact ⟨_,by first|rfl|(simp [errW_none,errW_some]<;>rfl)|(simp [*,errW_none,errW_some]<;>rfl),by first|exact Kd.R_nil _ _ _ _ _|exact Kd.N_nil _ _ _ _ _|exact Kd.V_nil _ _ _ _ _|exact Kd.Q_nil _ _ _ _ _|exact Kd.S_nil _ _ _ _ _,by repeat (first|(with_reducible first|exact HB.out|apply below_alloc|apply pw_below_drewN|apply below_drew1|refine below_set ?_ GE473.out)|exact HB.out)⟩
def ebbtideref04_Same.f (k:Nat) (a0_0:ByteArray) (l0_1:List (S52)) (a1_0:ByteArray) (l1_1:List (S52)):Option (Bool):=if a0_0.toList=a1_0.toList then ((ebbtideref03_Same.f k l0_1 l1_1).bind fun t481=>(some t481)) else (some false)
theorem ebbtideref04_Same.mono:∀ a0 a1 a2 a3 k,LeO (ebbtideref04_Same.f k a0 a1 a2 a3) (ebbtideref04_Same.f (k+1) a0 a1 a2 a3):=by
 intro a0 a1 a2 a3 k
 unfold ebbtideref04_Same.f
 repeat' first
   | (with_reducible exact ebbtideref03_Same.mono _ _ _)
   | (with_reducible exact LeO.refl _)
   | (with_reducible exact LeO.none _)
   | (with_reducible refine LeO.ite ?_ ?_)
   | (with_reducible refine LeO.bind ?_ (fun _=>?_))
   | exact ebbtideref03_Same.mono _ _ _
   | exact LeO.none _
   | refine LeO.ite ?_ ?_
   | refine LeO.bind ?_ (fun _=>?_)
set_option maxHeartbeats 8000000 in
set_option maxRecDepth 100000 in
theorem ebbtideref04_Same.calls (k:Nat) (a0_0:ByteArray) (A0_1:Option Addr) (c0_1:Nat) (l0_1:List (S52)) (a1_0:ByteArray) (A1_1:Option Addr) (c1_1:Nat) (l1_1:List (S52)) (r:Bool) (w:World) (hr0_1:Kd.C k52 w A0_1 l0_1.length l0_1) (hc0_1:l0_1.length≤c0_1) (hr1_1:Kd.C k52 w A1_1 l1_1.length l1_1) (hc1_1:l1_1.length≤c1_1) (h:ebbtideref04_Same.f k a0_0 l0_1 a1_0 l1_1=some r) :
  Calls Tryd.prog 30 #[.agg #[.string a0_0, .slice A0_1 l0_1.length c0_1], .agg #[.string a1_0, .slice A1_1 l1_1.length c1_1]] w fun e w'=>e = .returned (.bool r)∧Below w.heap.size w w':=by
 have hu41:=Tryd.underlying41
 have HR0_1:=Aside0.mk hr0_1
 have HC0_1:=Aside0.mk hc0_1
 clear hr0_1 hc0_1
 have HR1_1:=Aside0.mk hr1_1
 have HC1_1:=Aside0.mk hc1_1
 clear hr1_1 hc1_1
 have HB:=Aside0.mk (Below.refl w.heap.size w)
 have H:(if a0_0.toList=a1_0.toList then ((ebbtideref03_Same.f k l0_1 l1_1).bind fun t481=>(some t481)) else (some false))=some r:=h
 clear h
 by_cases c3:a0_0.toList=a1_0.toList
 ·rw [if_pos c3] at H
  have c3b0:(a0_0.toList ==a1_0.toList)=true:=beq_iff_eq.mpr c3
  have c3b1:(a0_0.toList != a1_0.toList)=false:=bne_eq_false_iff_eq.mpr c3
  clear c3
  replace H:=Option.bind_eq_some_iff.mp H
  obtain ⟨t481,A40,H⟩:=H
  replace H:(some t481)=some r:=H
  have A4:=Aside0.mk A40
  clear A40
  obtain rfl:=Option.some.inj H
  go_enter Tryd.func30,Tryd.ntmps30
  go_wp2_with (first|((with_reducible refine gate_dst (N:=2) rfl ?_);refine box_event ?hg (N:=2) ?hd (cs:=#[.string a0_0, .slice A0_1 l0_1.length c0_1]) (t:=41) ?hr ?_;(case hd=>rfl);(case hg=>rfl);(case hr=>first|(go_simp;done)|(go_simp;rfl));intro gb479 hg w5 hbox hb;have n0_:=Aside0.mk (below_step (by repeat (first|(with_reducible first|exact HB.out|apply below_alloc|apply pw_below_drewN|apply below_drew1)|exact HB.out)) hb);have n1_:=Aside0.mk (hbox);have n2_:=Aside0.mk ((by rw [hg];exact (below_size (by repeat (first|(with_reducible first|exact HB.out|apply below_alloc|apply pw_below_drewN|apply below_drew1)|exact HB.out))):w.heap.size≤gb479));have n3_:=Aside0.mk ((by rw [hg];exact (below_size (by repeat (first|(with_reducible first|exact HB.out|apply below_alloc|apply pw_below_drewN|apply below_drew1)|exact HB.out))):w.heap.size≤gb479));clear HB;have HB:=n0_;have BK479:=n1_;have GW479:=n2_;have GE479:=n3_;clear n0_ n1_ n2_ n3_;clear hb hbox hg)|((with_reducible refine gate_dst (N:=3) rfl ?_);refine box_event ?hg (N:=3) ?hd (cs:=#[.string a1_0, .slice A1_1 l1_1.length c1_1]) (t:=41) ?hr ?_;(case hd=>rfl);(case hg=>rfl);(case hr=>first|(go_simp;done)|(go_simp;rfl));intro gb480 hg w6 hbox hb;have n0_:=Aside0.mk (blk_below (g:=gb479) (o := .cells #[.string a0_0, .slice A0_1 l0_1.length c0_1] 41 (0,0)) (by (with_reducible repeat (first|refine blk_drewN ?_ _|refine blk_drew ?_|refine blk_alloc ?_ _));exact BK479.out) hb);have n1_:=Aside0.mk (below_step (by repeat (first|(with_reducible first|exact HB.out|apply below_alloc|apply pw_below_drewN|apply below_drew1|refine below_set ?_ GE479.out)|exact HB.out)) hb);have n2_:=Aside0.mk (hbox);have n3_:=Aside0.mk ((by rw [hg];exact (below_size (by repeat (first|(with_reducible first|exact HB.out|apply below_alloc|apply pw_below_drewN|apply below_drew1|refine below_set ?_ GE479.out)|exact HB.out))):w.heap.size≤gb480));have n4_:=Aside0.mk ((by rw [hg];exact (below_size (by repeat (first|(with_reducible first|exact HB.out|apply below_alloc|apply pw_below_drewN|apply below_drew1|refine below_set ?_ GE479.out)|exact HB.out))):w.heap.size≤gb480));have n5_:=Aside0.mk ((by rw [hg];exact Nat.ne_of_lt (blk_lt (g:=gb479) (o := .cells #[.string a0_0, .slice A0_1 l0_1.length c0_1] 41 (0,0)) (by (with_reducible repeat (first|refine blk_drewN ?_ _|refine blk_drew ?_|refine blk_alloc ?_ _));exact BK479.out)):gb479≠gb480));have n6_:=Aside0.mk ((by rw [hg];exact Nat.ne_of_gt (blk_lt (g:=gb479) (o := .cells #[.string a0_0, .slice A0_1 l0_1.length c0_1] 41 (0,0)) (by (with_reducible repeat (first|refine blk_drewN ?_ _|refine blk_drew ?_|refine blk_alloc ?_ _));exact BK479.out)):gb480≠gb479));clear BK479;clear HB;have BK479:=n0_;have HB:=n1_;have BK480:=n2_;have GW480:=n3_;have GE480:=n4_;have NB479_480:=n5_;have NB480_479:=n6_;clear n0_ n1_ n2_ n3_ n4_ n5_ n6_;clear hb hbox hg;have hnb7:=NB479_480.out;have hnc7:=NB480_479.out;have hcz8_0:w6.cell? ⟨gb479,0,none⟩=some (.string a0_0):=(blk_cell BK479.out 0).trans rfl;have hcz8_1:w6.cell? ⟨gb479,1,none⟩=some (.slice A0_1 l0_1.length c0_1):=(blk_cell BK479.out 1).trans rfl;have hfz8_0:=blk_frozen BK479.out 0;have hfz8_1:=blk_frozen BK479.out 1;have hcz9_0:w6.cell? ⟨gb480,0,none⟩=some (.string a1_0):=(blk_cell BK480.out 0).trans rfl;have hcz9_1:w6.cell? ⟨gb480,1,none⟩=some (.slice A1_1 l1_1.length c1_1):=(blk_cell BK480.out 1).trans rfl;have hfz9_0:=blk_frozen BK480.out 0;have hfz9_1:=blk_frozen BK480.out 1)|(go_at_call 18;(with_reducible refine (ebbtideref03_Same.calls k _ _ l0_1 _ _ l1_1 t481 _ ?side1 ?side2 ?side3 ?side4 A4.out).mono ?_);(case side1=>repeat (first|exact (Kd.C_below HR0_1.out HB.out)|(with_reducible refine Kd.C_alloc ?_ _)|(with_reducible refine Kd.C_drewN ?_ _)|(with_reducible refine Kd.C_drew ?_)));(case side2=>exact HC0_1.out);(case side3=>repeat (first|exact (Kd.C_below HR1_1.out HB.out)|(with_reducible refine Kd.C_alloc ?_ _)|(with_reducible refine Kd.C_drewN ?_ _)|(with_reducible refine Kd.C_drew ?_)));(case side4=>exact HC1_1.out);rintro e w' ⟨rfl,⟨nd,rfl⟩⟩))
  go_ret
  exact ⟨by first|rfl|(simp [errW_none,errW_some]<;>rfl)|(simp [*,errW_none,errW_some]<;>rfl),by repeat (first|(with_reducible first|exact HB.out|apply below_alloc|apply pw_below_drewN|apply below_drew1|refine below_set ?_ GE479.out|refine below_set ?_ GE480.out)|exact HB.out)⟩
 ·rw [if_neg c3] at H
  have c3b0:(a0_0.toList ==a1_0.toList)=false:=beq_eq_false_iff_ne.mpr c3
  have c3b1:(a0_0.toList != a1_0.toList)=true:=bne_iff_ne.mpr c3
  obtain rfl:=Option.some.inj H
  go_enter Tryd.func30,Tryd.ntmps30
  go_wp2_with (first|((with_reducible refine gate_dst (N:=2) rfl ?_);refine box_event ?hg (N:=2) ?hd (cs:=#[.string a0_0, .slice A0_1 l0_1.length c0_1]) (t:=41) ?hr ?_;(case hd=>rfl);(case hg=>rfl);(case hr=>first|(go_simp;done)|(go_simp;rfl));intro gb479 hg w10 hbox hb;have n0_:=Aside0.mk (below_step (by repeat (first|(with_reducible first|exact HB.out|apply below_alloc|apply pw_below_drewN|apply below_drew1)|exact HB.out)) hb);have n1_:=Aside0.mk (hbox);have n2_:=Aside0.mk ((by rw [hg];exact (below_size (by repeat (first|(with_reducible first|exact HB.out|apply below_alloc|apply pw_below_drewN|apply below_drew1)|exact HB.out))):w.heap.size≤gb479));have n3_:=Aside0.mk ((by rw [hg];exact (below_size (by repeat (first|(with_reducible first|exact HB.out|apply below_alloc|apply pw_below_drewN|apply below_drew1)|exact HB.out))):w.heap.size≤gb479));clear HB;have HB:=n0_;have BK479:=n1_;have GW479:=n2_;have GE479:=n3_;clear n0_ n1_ n2_ n3_;clear hb hbox hg)|((with_reducible refine gate_dst (N:=3) rfl ?_);refine box_event ?hg (N:=3) ?hd (cs:=#[.string a1_0, .slice A1_1 l1_1.length c1_1]) (t:=41) ?hr ?_;(case hd=>rfl);(case hg=>rfl);(case hr=>first|(go_simp;done)|(go_simp;rfl));intro gb480 hg w11 hbox hb;have n0_:=Aside0.mk (blk_below (g:=gb479) (o := .cells #[.string a0_0, .slice A0_1 l0_1.length c0_1] 41 (0,0)) (by (with_reducible repeat (first|refine blk_drewN ?_ _|refine blk_drew ?_|refine blk_alloc ?_ _));exact BK479.out) hb);have n1_:=Aside0.mk (below_step (by repeat (first|(with_reducible first|exact HB.out|apply below_alloc|apply pw_below_drewN|apply below_drew1|refine below_set ?_ GE479.out)|exact HB.out)) hb);have n2_:=Aside0.mk (hbox);have n3_:=Aside0.mk ((by rw [hg];exact (below_size (by repeat (first|(with_reducible first|exact HB.out|apply below_alloc|apply pw_below_drewN|apply below_drew1|refine below_set ?_ GE479.out)|exact HB.out))):w.heap.size≤gb480));have n4_:=Aside0.mk ((by rw [hg];exact (below_size (by repeat (first|(with_reducible first|exact HB.out|apply below_alloc|apply pw_below_drewN|apply below_drew1|refine below_set ?_ GE479.out)|exact HB.out))):w.heap.size≤gb480));have n5_:=Aside0.mk ((by rw [hg];exact Nat.ne_of_lt (blk_lt (g:=gb479) (o := .cells #[.string a0_0, .slice A0_1 l0_1.length c0_1] 41 (0,0)) (by (with_reducible repeat (first|refine blk_drewN ?_ _|refine blk_drew ?_|refine blk_alloc ?_ _));exact BK479.out)):gb479≠gb480));have n6_:=Aside0.mk ((by rw [hg];exact Nat.ne_of_gt (blk_lt (g:=gb479) (o := .cells #[.string a0_0, .slice A0_1 l0_1.length c0_1] 41 (0,0)) (by (with_reducible repeat (first|refine blk_drewN ?_ _|refine blk_drew ?_|refine blk_alloc ?_ _));exact BK479.out)):gb480≠gb479));clear BK479;clear HB;have BK479:=n0_;have HB:=n1_;have BK480:=n2_;have GW480:=n3_;have GE480:=n4_;have NB479_480:=n5_;have NB480_479:=n6_;clear n0_ n1_ n2_ n3_ n4_ n5_ n6_;clear hb hbox hg;have hnb12:=NB479_480.out;have hnc12:=NB480_479.out;have hcz13_0:w11.cell? ⟨gb479,0,none⟩=some (.string a0_0):=(blk_cell BK479.out 0).trans rfl;have hcz13_1:w11.cell? ⟨gb479,1,none⟩=some (.slice A0_1 l0_1.length c0_1):=(blk_cell BK479.out 1).trans rfl;have hfz13_0:=blk_frozen BK479.out 0;have hfz13_1:=blk_frozen BK479.out 1;have hcz14_0:w11.cell? ⟨gb480,0,none⟩=some (.string a1_0):=(blk_cell BK480.out 0).trans rfl;have hcz14_1:w11.cell? ⟨gb480,1,none⟩=some (.slice A1_1 l1_1.length c1_1):=(blk_cell BK480.out 1).trans rfl;have hfz14_0:=blk_frozen BK480.out 0;have hfz14_1:=blk_frozen BK480.out 1))
  go_ret
  exact ⟨by first|rfl|(simp [errW_none,errW_some]<;>rfl)|(simp [*,errW_none,errW_some]<;>rfl),by repeat (first|(with_reducible first|exact HB.out|apply below_alloc|apply pw_below_drewN|apply below_drew1|refine below_set ?_ GE479.out|refine below_set ?_ GE480.out)|exact HB.out)⟩
end Go.Proofs.YtbefmicenjdfkaaDoor.PTk
