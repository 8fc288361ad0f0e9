import Derived.Test.YtbefmicenjdfkaaDoorZaPTkx0
import Derived.Test.YtbefmicenjdfkaaDoorZaPTkx1
import Derived.Test.YtbefmicenjdfkaaDoorZaPTkx3
namespace Go.Proofs.YtbefmicenjdfkaaDoor.PTk
open Go.RowKit Go.Proofs.YtbefmicenjdfkaaDoorW.PrintWords Go.Proofs.YtbefmicenjdfkaaDoorW.PrintLast Go.Proofs.YtbefmicenjdfkaaDoorW.PrintMore
attribute [local go_sem] max2_int min2_int max_two min_two max_three min_three max_four min_four
set_option linter.unusedVariables false
set_option linter.unusedSimpArgs false
attribute [local go_sem high] eqA52
def slices_Equal_Tag.l0:Nat→List (S52)→List (S52)→Int→Int→Option (Bool)
 | 0,_,_,_,_=>none
 | k+1,x0,x1,x12,x13=>if x13<x12 then (if 0≤x13 then (if x13<(x0.length:Int) then (if x13<(x1.length:Int) then (if (!((((rd_T52 x0 x13).f0).toList) ==(((rd_T52 x1 x13).f0).toList)) || (!((((rd_T52 x0 x13).f1).toList) ==(((rd_T52 x1 x13).f1).toList))))=true then (some false) else (slices_Equal_Tag.l0 k x0 x1 x12 (wrap64 (x13+1)))) else (none)) else (none)) else (none)) else (some true)
def slices_Equal_Tag.f (k:Nat) (l0:List (S52)) (l1:List (S52)):Option (Bool):=if (l0.length:Int)=(l1.length:Int) then (slices_Equal_Tag.l0 k l0 l1 (l0.length:Int) 0) else (some false)
theorem slices_Equal_Tag.mono_l:∀ k,(∀ y0 y1 y2 y3,LeO (slices_Equal_Tag.l0 k y0 y1 y2 y3) (slices_Equal_Tag.l0 (k+1) y0 y1 y2 y3))
 | 0=>fun _ _ _ _ r h=>by simp [slices_Equal_Tag.l0] at h
 | k+1=>by
  have ih0:=slices_Equal_Tag.mono_l k
  ·intro y0 y1 y2 y3
   unfold slices_Equal_Tag.l0
   repeat' first
   | (with_reducible exact ih0 _ _ _ _)
   | (with_reducible exact LeO.refl _)
   | (with_reducible exact LeO.none _)
   | (with_reducible refine LeO.ite ?_ ?_)
   | (with_reducible refine LeO.bind ?_ (fun _=>?_))
   | exact ih0 _ _ _ _
   | exact LeO.none _
   | refine LeO.ite ?_ ?_
   | refine LeO.bind ?_ (fun _=>?_)
theorem slices_Equal_Tag.mono:∀ a0 a1 k,LeO (slices_Equal_Tag.f k a0 a1) (slices_Equal_Tag.f (k+1) a0 a1):=by
 intro a0 a1 k
 have ih0:=slices_Equal_Tag.mono_l k
 unfold slices_Equal_Tag.f
 repeat' first
   | (with_reducible exact ih0 _ _ _ _)
   | (with_reducible exact LeO.refl _)
   | (with_reducible exact LeO.none _)
   | (with_reducible refine LeO.ite ?_ ?_)
   | (with_reducible refine LeO.bind ?_ (fun _=>?_))
   | exact ih0 _ _ _ _
   | exact LeO.none _
   | refine LeO.ite ?_ ?_
   | refine LeO.bind ?_ (fun _=>?_)
set_option maxHeartbeats 8000000 in
set_option maxRecDepth 100000 in
theorem slices_Equal_Tag.calls (k:Nat) (A0:Option Addr) (c0:Nat) (l0:List (S52)) (A1:Option Addr) (c1:Nat) (l1:List (S52)) (r:Bool) (w:World) (hr0:Kd.C k52 w A0 l0.length l0) (hc0:l0.length≤c0) (hr1:Kd.C k52 w A1 l1.length l1) (hc1:l1.length≤c1) (h:slices_Equal_Tag.f k l0 l1=some r) :
  Calls Tryd.prog 45 #[.slice A0 l0.length c0, .slice A1 l1.length c1] w fun e w'=>e = .returned (.bool r)∧Drawn0 w w':=by
 have hu52:=Tryd.underlying52
 have HR0:=Aside0.mk hr0
 have HC0:=Aside0.mk hc0
 clear hr0 hc0
 have HR1:=Aside0.mk hr1
 have HC1:=Aside0.mk hc1
 clear hr1 hc1
 have H:(if (l0.length:Int)=(l1.length:Int) then (slices_Equal_Tag.l0 k l0 l1 (l0.length:Int) 0) else (some false))=some r:=h
 clear h
 by_cases c3:(l0.length:Int)=(l1.length:Int)
 ·rw [if_pos c3] at H
  have c3b0:((l0.length:Int) ==(l1.length:Int))=true:=beq_iff_eq.mpr c3
  have c3b1:((l0.length:Int) != (l1.length:Int))=false:=bne_eq_false_iff_eq.mpr c3
  have c3b2:(l0.length ==l1.length)=true:=by first|simpa using c3|(simp at c3 ⊢;omega)
  clear c3
  have H':=Aside0.mk H
  clear H
  go_enter Tryd.func45,Tryd.ntmps45
  go_wp2
  repeat (go_quiet (fail);try go_wp2)
  go_loopg [13] k (fun kq v13 w'=>∃ (x13_1:Int),v13 = .int .i64 x13_1∧Aside0 (slices_Equal_Tag.l0 kq l0 l1 (l0.length:Int) x13_1=some r)∧Aside0 (kq≤k)∧Drawn0 w w')
  case atStart=>exact ⟨(0),(by first|rfl|(simp;done)|(simp [*];done)),H',⟨Nat.le_refl _⟩,by repeat (first|exact Drawn0.refl _|apply Drawn0.step)⟩
  case round =>
   clear H'
   try clear c1
   try clear p2
   try clear c3
   try clear c3b0
   try clear c3b1
   try clear c3b2
   obtain ⟨x13_1,rfl,HA,HK1,⟨m1,rfl⟩⟩:=hrel
   cases gk with
   | zero=>exact absurd HA.out (by simp [slices_Equal_Tag.l0])
   | succ k1 =>
    have H:=HA.out
    clear HA
    simp only [slices_Equal_Tag.l0] at H
    by_cases c4:x13_1<(l0.length:Int)
    ·rw [if_pos c4] at H
     have c4b0:decide (x13_1<(l0.length:Int))=true:=decide_eq_true c4
     clear c4
     by_cases c5:0≤x13_1
     ·rw [if_pos c5] at H
      have c5b0:decide (0≤x13_1)=true:=decide_eq_true c5
      clear c5
      by_cases c6:x13_1<(l0.length:Int)
      ·rw [if_pos c6] at H
       have c6b0:decide (x13_1<(l0.length:Int))=true:=decide_eq_true c6
       clear c6
       by_cases c7:x13_1<(l1.length:Int)
       ·rw [if_pos c7] at H
        have c7b0:decide (x13_1<(l1.length:Int))=true:=decide_eq_true c7
        clear c7
        by_cases c8:(!((((rd_T52 l0 x13_1).f0).toList) ==(((rd_T52 l1 x13_1).f0).toList)) || (!((((rd_T52 l0 x13_1).f1).toList) ==(((rd_T52 l1 x13_1).f1).toList))))=true
        ·rw [if_pos c8] at H
         have c8b0:(!((((rd_T52 l0 x13_1).f0).toList) ==(((rd_T52 l1 x13_1).f0).toList)) || (!((((rd_T52 l0 x13_1).f1).toList) ==(((rd_T52 l1 x13_1).f1).toList))))=true:=c8
         clear c8
         obtain rfl:=Option.some.inj H
         have p168:0≤(x13_1:Int):=of_decide_eq_true (by first|(with_reducible assumption)|assumption)
         have q168:x13_1<(l0.length:Int):=of_decide_eq_true (by first|(with_reducible assumption)|assumption)
         obtain ⟨ad168,e168,hx168_0,hx168_1⟩:=at_T52 HR0.out x13_1 p168 q168
         cases e168
         replace p168:=eq_true p168
         replace q168:=eq_true q168
         have p169:0≤(x13_1:Int):=of_decide_eq_true (by first|(with_reducible assumption)|assumption)
         have q169:x13_1<(l1.length:Int):=of_decide_eq_true (by first|(with_reducible assumption)|assumption)
         obtain ⟨ad169,e169,hx169_0,hx169_1⟩:=at_T52 HR1.out x13_1 p169 q169
         cases e169
         replace p169:=eq_true p169
         replace q169:=eq_true q169
         go_wp2
         repeat (go_quiet (fail);try go_wp2)
         go_ret
         exact ⟨by first|rfl|(simp;done)|(simp [*];done),by repeat (first|exact Drawn0.refl _|apply Drawn0.step)⟩
        ·rw [if_neg c8] at H
         have c8b0:(!((((rd_T52 l0 x13_1).f0).toList) ==(((rd_T52 l1 x13_1).f0).toList)) || (!((((rd_T52 l0 x13_1).f1).toList) ==(((rd_T52 l1 x13_1).f1).toList))))=false:=by simpa using c8
         clear c8
         have H':=Aside0.mk H
         clear H
         have p168:0≤(x13_1:Int):=of_decide_eq_true (by first|(with_reducible assumption)|assumption)
         have q168:x13_1<(l0.length:Int):=of_decide_eq_true (by first|(with_reducible assumption)|assumption)
         obtain ⟨ad168,e168,hx168_0,hx168_1⟩:=at_T52 HR0.out x13_1 p168 q168
         cases e168
         replace p168:=eq_true p168
         replace q168:=eq_true q168
         have p169:0≤(x13_1:Int):=of_decide_eq_true (by first|(with_reducible assumption)|assumption)
         have q169:x13_1<(l1.length:Int):=of_decide_eq_true (by first|(with_reducible assumption)|assumption)
         obtain ⟨ad169,e169,hx169_0,hx169_1⟩:=at_T52 HR1.out x13_1 p169 q169
         cases e169
         replace p169:=eq_true p169
         replace q169:=eq_true q169
         go_wp2
         repeat (go_quiet (fail);try go_wp2)
         go_roundg k1
         case measure=>have:=HK1.out;omega
         case rel=>exact ⟨(wrap64 (x13_1+1)),(by first|rfl|(simp;done)|(simp [*];done)),H',⟨by have:=HK1.out;omega⟩,by repeat (first|exact Drawn0.refl _|apply Drawn0.step)⟩
       ·rw [if_neg c7] at H
        exact absurd H (by simp)
      ·rw [if_neg c6] at H
       exact absurd H (by simp)
     ·rw [if_neg c5] at H
      exact absurd H (by simp)
    ·rw [if_neg c4] at H
     have c4b0:decide (x13_1<(l0.length:Int))=false:=decide_eq_false c4
     clear c4
     obtain rfl:=Option.some.inj H
     go_wp2
     repeat (go_quiet (fail);try go_wp2)
     go_ret
     exact ⟨by first|rfl|(simp;done)|(simp [*];done),by repeat (first|exact Drawn0.refl _|apply Drawn0.step)⟩
 ·rw [if_neg c3] at H
  have c3b0:((l0.length:Int) ==(l1.length:Int))=false:=beq_eq_false_iff_ne.mpr c3
  have c3b1:((l0.length:Int) != (l1.length:Int))=true:=bne_iff_ne.mpr c3
  have c3b2:(l0.length ==l1.length)=false:=by first|simpa using c3|(simp at c3 ⊢;omega)
  obtain rfl:=Option.some.inj H
  go_enter Tryd.func45,Tryd.ntmps45
  go_wp2
  repeat (go_quiet (fail);try go_wp2)
  go_ret
  exact ⟨by first|rfl|(simp;done)|(simp [*];done),by repeat (first|exact Drawn0.refl _|apply Drawn0.step)⟩
def tag_Right.f (k:Nat) (l0:List (S52)):Option (Bool):=(tag_Canon.f k l0).bind fun bt170=>(if bt170.2=0 then ((slices_Equal_Tag.f k bt170.1 l0).bind fun t174=>(some t174)) else (some false))
theorem tag_Right.mono:∀ a0 k,LeO (tag_Right.f k a0) (tag_Right.f (k+1) a0):=by
 intro a0 k
 unfold tag_Right.f
 repeat' first
   | (with_reducible exact slices_Equal_Tag.mono _ _ _)
   | (with_reducible exact tag_Canon.mono _ _)
   | (with_reducible exact LeO.refl _)
   | (with_reducible exact LeO.none _)
   | (with_reducible refine LeO.ite ?_ ?_)
   | (with_reducible refine LeO.bind ?_ (fun _=>?_))
   | exact slices_Equal_Tag.mono _ _ _
   | exact tag_Canon.mono _ _
   | exact LeO.none _
   | refine LeO.ite ?_ ?_
   | refine LeO.bind ?_ (fun _=>?_)
set_option maxHeartbeats 8000000 in
set_option maxRecDepth 100000 in
theorem tag_Right.calls (k:Nat) (A0:Option Addr) (c0:Nat) (l0:List (S52)) (r:Bool) (w:World) (hr0:Kd.C k52 w A0 l0.length l0) (hc0:l0.length≤c0) (h:tag_Right.f k l0=some r) :
  Calls Tryd.prog 19 #[.slice A0 l0.length c0] w fun e w'=>e = .returned (.bool r)∧Below w.heap.size w w':=by
 have HR0:=Aside0.mk hr0
 have HC0:=Aside0.mk hc0
 clear hr0 hc0
 have HB:=Aside0.mk (Below.refl w.heap.size w)
 have H:((tag_Canon.f k l0).bind fun bt170=>(if bt170.2=0 then ((slices_Equal_Tag.f k bt170.1 l0).bind fun t174=>(some t174)) else (some false)))=some r:=h
 clear h
 replace H:=Option.bind_eq_some_iff.mp H
 obtain ⟨⟨t170,t171⟩,A20,H⟩:=H
 replace H:(if t171=0 then ((slices_Equal_Tag.f k t170 l0).bind fun t174=>(some t174)) else (some false))=some r:=H
 have A2:=Aside0.mk A20
 clear A20
 by_cases c3:t171=0
 ·rw [if_pos c3] at H
  have c3b0:(t171 ==0)=true:=beq_iff_eq.mpr c3
  have c3b1:(t171 != 0)=false:=bne_eq_false_iff_eq.mpr c3
  clear c3
  replace H:=Option.bind_eq_some_iff.mp H
  obtain ⟨t174,A40,H⟩:=H
  replace H:(some t174)=some r:=H
  have A4:=Aside0.mk A40
  clear A40
  obtain rfl:=Option.some.inj H
  go_enter Tryd.func19,Tryd.ntmps19
  go_wp2_with (first|((with_reducible refine gate_callee (f:=14) rfl ?_);refine goesL_ (some 7) rfl rfl Tryd.func14 (by kernel_rfl) rfl #[.slice A0 l0.length c0] rfl (by (try simp only [List.map_toArray,List.map_cons,List.map_nil]);first|done|rfl|(simp only [List.length_drop,List.length_take];rfl)) ?_;(with_reducible refine (tag_Canon.calls k _ _ l0 t170 t171 _ ?side1 ?side2 A2.out).mono ?_);(case side1=>repeat (first|exact HR0.out|(with_reducible refine Kd.C_alloc ?_ _)|(with_reducible refine Kd.C_drewN ?_ _)|(with_reducible refine Kd.C_drew ?_)));(case side2=>exact HC0.out);rintro e w5 ⟨v172,rfl,ho0,hb⟩;refine ⟨_,rfl,?_⟩;have n0_:=Aside0.mk (Kd.R_lower ho0 (below_size (by repeat (first|(with_reducible first|exact HB.out|apply below_alloc|apply pw_below_drewN|apply below_drew1)|exact HB.out))));have n1_:=Aside0.mk (below_step (by repeat (first|(with_reducible first|exact HB.out|apply below_alloc|apply pw_below_drewN|apply below_drew1)|exact HB.out)) hb);clear HB;have HO173:=n0_;have HB:=n1_;clear n0_ n1_;(try clear hb);(try clear hb2);(try clear hk);(try clear hi);(try clear ho0);obtain ⟨Ao6,co6,eo6⟩:=Kd.R_slice HO173.out;subst eo6)|(go_at_call 45;(with_reducible refine (slices_Equal_Tag.calls k _ _ t170 _ _ l0 t174 _ ?side1 ?side2 ?side3 ?side4 A4.out).mono ?_);(case side1=>repeat (first|exact (Kd.R_reads' HO173.out).2.2|(with_reducible refine Kd.C_alloc ?_ _)|(with_reducible refine Kd.C_drewN ?_ _)|(with_reducible refine Kd.C_drew ?_)));(case side2=>exact (Kd.R_reads' HO173.out).2.1);(case side3=>repeat (first|exact (Kd.C_below HR0.out HB.out)|(with_reducible refine Kd.C_alloc ?_ _)|(with_reducible refine Kd.C_drewN ?_ _)|(with_reducible refine Kd.C_drew ?_)));(case side4=>exact HC0.out);rintro e w' ⟨rfl,⟨nd,rfl⟩⟩))
  go_ret
  exact ⟨by first|rfl|(simp [errW_none,errW_some]<;>rfl)|(simp [*,errW_none,errW_some]<;>rfl),by repeat (first|(with_reducible first|exact HB.out|apply below_alloc|apply pw_below_drewN|apply below_drew1)|exact HB.out)⟩
 ·rw [if_neg c3] at H
  have c3b0:(t171 ==0)=false:=beq_eq_false_iff_ne.mpr c3
  have c3b1:(t171 != 0)=true:=bne_iff_ne.mpr c3
  obtain rfl:=Option.some.inj H
  go_enter Tryd.func19,Tryd.ntmps19
  go_wp2_with (first|((with_reducible refine gate_callee (f:=14) rfl ?_);refine goesL_ (some 7) rfl rfl Tryd.func14 (by kernel_rfl) rfl #[.slice A0 l0.length c0] rfl (by (try simp only [List.map_toArray,List.map_cons,List.map_nil]);first|done|rfl|(simp only [List.length_drop,List.length_take];rfl)) ?_;(with_reducible refine (tag_Canon.calls k _ _ l0 t170 t171 _ ?side1 ?side2 A2.out).mono ?_);(case side1=>repeat (first|exact HR0.out|(with_reducible refine Kd.C_alloc ?_ _)|(with_reducible refine Kd.C_drewN ?_ _)|(with_reducible refine Kd.C_drew ?_)));(case side2=>exact HC0.out);rintro e w7 ⟨v172,rfl,ho0,hb⟩;refine ⟨_,rfl,?_⟩;have n0_:=Aside0.mk (Kd.R_lower ho0 (below_size (by repeat (first|(with_reducible first|exact HB.out|apply below_alloc|apply pw_below_drewN|apply below_drew1)|exact HB.out))));have n1_:=Aside0.mk (below_step (by repeat (first|(with_reducible first|exact HB.out|apply below_alloc|apply pw_below_drewN|apply below_drew1)|exact HB.out)) hb);clear HB;have HO173:=n0_;have HB:=n1_;clear n0_ n1_;(try clear hb);(try clear hb2);(try clear hk);(try clear hi);(try clear ho0)))
  go_ret
  exact ⟨by first|rfl|(simp [errW_none,errW_some]<;>rfl)|(simp [*,errW_none,errW_some]<;>rfl),by repeat (first|(with_reducible first|exact HB.out|apply below_alloc|apply pw_below_drewN|apply below_drew1)|exact HB.out)⟩
def slices_Index_string.l0:Nat→List ByteArray→ByteArray→Int→Int→Option (Int)
 | 0,_,_,_,_=>none
 | k+1,x0,x1,x7,x8=>if x8<x7 then (if 0≤x8 then (if x8<(x0.length:Int) then (if x1.toList=(rdOf ByteArray.empty x0 x8).toList then (some x8) else (slices_Index_string.l0 k x0 x1 x7 (wrap64 (x8+1)))) else (none)) else (none)) else (some (-1))
def slices_Index_string.f (k:Nat) (l0:List ByteArray) (a1:ByteArray):Option (Int):=slices_Index_string.l0 k l0 a1 (l0.length:Int) 0
theorem slices_Index_string.mono_l:∀ k,(∀ y0 y1 y2 y3,LeO (slices_Index_string.l0 k y0 y1 y2 y3) (slices_Index_string.l0 (k+1) y0 y1 y2 y3))
 | 0=>fun _ _ _ _ r h=>by simp [slices_Index_string.l0] at h
 | k+1=>by
  have ih0:=slices_Index_string.mono_l k
  ·intro y0 y1 y2 y3
   unfold slices_Index_string.l0
   repeat' first
   | (with_reducible exact ih0 _ _ _ _)
   | (with_reducible exact LeO.refl _)
   | (with_reducible exact LeO.none _)
   | (with_reducible refine LeO.ite ?_ ?_)
   | (with_reducible refine LeO.bind ?_ (fun _=>?_))
   | exact ih0 _ _ _ _
   | exact LeO.none _
   | refine LeO.ite ?_ ?_
   | refine LeO.bind ?_ (fun _=>?_)
theorem slices_Index_string.mono:∀ a0 a1 k,LeO (slices_Index_string.f k a0 a1) (slices_Index_string.f (k+1) a0 a1):=by
 intro a0 a1 k
 have ih0:=slices_Index_string.mono_l k
 unfold slices_Index_string.f
 repeat' first
   | (with_reducible exact ih0 _ _ _ _)
   | (with_reducible exact LeO.refl _)
   | (with_reducible exact LeO.none _)
   | (with_reducible refine LeO.ite ?_ ?_)
   | (with_reducible refine LeO.bind ?_ (fun _=>?_))
   | exact ih0 _ _ _ _
   | exact LeO.none _
   | refine LeO.ite ?_ ?_
   | refine LeO.bind ?_ (fun _=>?_)
set_option maxHeartbeats 8000000 in
set_option maxRecDepth 100000 in
theorem slices_Index_string.calls (k:Nat) (A0:Option Addr) (c0:Nat) (l0:List ByteArray) (a1:ByteArray) (r:Int) (w:World) (hr0:Kd.C Kd.string w A0 l0.length l0) (hc0:l0.length≤c0) (h:slices_Index_string.f k l0 a1=some r) :
  Calls Tryd.prog 64 #[.slice A0 l0.length c0, .string a1] w fun e w'=>e = .returned (.int .i64 r)∧Drawn0 w w':=by
 have HR0:=Aside0.mk hr0
 have HC0:=Aside0.mk hc0
 clear hr0 hc0
 have H:(slices_Index_string.l0 k l0 a1 (l0.length:Int) 0)=some r:=h
 clear h
 have H':=Aside0.mk H
 clear H
 go_enter Tryd.func64,Tryd.ntmps64
 go_wp2
 go_loopg [8] k (fun kq v8 w'=>∃ (x8_1:Int),v8 = .int .i64 x8_1∧Aside0 (slices_Index_string.l0 kq l0 a1 (l0.length:Int) x8_1=some r)∧Aside0 (kq≤k)∧Drawn0 w w')
 case atStart=>exact ⟨(0),(by first|rfl|(simp;done)|(simp [*];done)),H',⟨Nat.le_refl _⟩,by repeat (first|exact Drawn0.refl _|apply Drawn0.step)⟩
 case round =>
  clear H'
  try clear p2
  obtain ⟨x8_1,rfl,HA,HK1,⟨m1,rfl⟩⟩:=hrel
  cases gk with
  | zero=>exact absurd HA.out (by simp [slices_Index_string.l0])
  | succ k1 =>
   have H:=HA.out
   clear HA
   simp only [slices_Index_string.l0] at H
   by_cases c3:x8_1<(l0.length:Int)
   ·rw [if_pos c3] at H
    have c3b0:decide (x8_1<(l0.length:Int))=true:=decide_eq_true c3
    clear c3
    by_cases c4:0≤x8_1
    ·rw [if_pos c4] at H
     have c4b0:decide (0≤x8_1)=true:=decide_eq_true c4
     clear c4
     by_cases c5:x8_1<(l0.length:Int)
     ·rw [if_pos c5] at H
      have c5b0:decide (x8_1<(l0.length:Int))=true:=decide_eq_true c5
      clear c5
      by_cases c6:a1.toList=(rdOf ByteArray.empty l0 x8_1).toList
      ·rw [if_pos c6] at H
       have c6b0:(a1.toList ==(rdOf ByteArray.empty l0 x8_1).toList)=true:=beq_iff_eq.mpr c6
       have c6b1:(a1.toList != (rdOf ByteArray.empty l0 x8_1).toList)=false:=bne_eq_false_iff_eq.mpr c6
       clear c6
       obtain rfl:=Option.some.inj H
       have p175:0≤(x8_1:Int):=of_decide_eq_true (by first|(with_reducible assumption)|assumption)
       have q175:x8_1<(l0.length:Int):=of_decide_eq_true (by first|(with_reducible assumption)|assumption)
       obtain ⟨ad175,e175,hx175_0⟩:=Kd.at_string HR0.out x8_1 p175 q175
       cases e175
       replace p175:=eq_true p175
       replace q175:=eq_true q175
       go_wp2
       go_ret
       exact ⟨by first|rfl|(simp;done)|(simp [*];done),by repeat (first|exact Drawn0.refl _|apply Drawn0.step)⟩
      ·rw [if_neg c6] at H
       have c6b0:(a1.toList ==(rdOf ByteArray.empty l0 x8_1).toList)=false:=beq_eq_false_iff_ne.mpr c6
       have c6b1:(a1.toList != (rdOf ByteArray.empty l0 x8_1).toList)=true:=bne_iff_ne.mpr c6
       have H':=Aside0.mk H
       clear H
       have p175:0≤(x8_1:Int):=of_decide_eq_true (by first|(with_reducible assumption)|assumption)
       have q175:x8_1<(l0.length:Int):=of_decide_eq_true (by first|(with_reducible assumption)|assumption)
       obtain ⟨ad175,e175,hx175_0⟩:=Kd.at_string HR0.out x8_1 p175 q175
       cases e175
       replace p175:=eq_true p175
       replace q175:=eq_true q175
       go_wp2
       go_roundg k1
       case measure=>have:=HK1.out;omega
       case rel=>exact ⟨(wrap64 (x8_1+1)),(by first|rfl|(simp;done)|(simp [*];done)),H',⟨by have:=HK1.out;omega⟩,by repeat (first|exact Drawn0.refl _|apply Drawn0.step)⟩
     ·rw [if_neg c5] at H
      exact absurd H (by simp)
    ·rw [if_neg c4] at H
     exact absurd H (by simp)
   ·rw [if_neg c3] at H
    have c3b0:decide (x8_1<(l0.length:Int))=false:=decide_eq_false c3
    clear c3
    obtain rfl:=Option.some.inj H
    go_wp2
    go_ret
    exact ⟨by first|rfl|(simp;done)|(simp [*];done),by repeat (first|exact Drawn0.refl _|apply Drawn0.step)⟩
def slices_Contains_string.f (k:Nat) (l0:List ByteArray) (a1:ByteArray):Option (Bool):=(slices_Index_string.f k l0 a1).bind fun t176=>(some (decide (t176≥0)))
theorem slices_Contains_string.mono:∀ a0 a1 k,LeO (slices_Contains_string.f k a0 a1) (slices_Contains_string.f (k+1) a0 a1):=by
 intro a0 a1 k
 unfold slices_Contains_string.f
 repeat' first
   | (with_reducible exact slices_Index_string.mono _ _ _)
   | (with_reducible exact LeO.refl _)
   | (with_reducible exact LeO.none _)
   | (with_reducible refine LeO.ite ?_ ?_)
   | (with_reducible refine LeO.bind ?_ (fun _=>?_))
   | exact slices_Index_string.mono _ _ _
   | exact LeO.none _
   | refine LeO.ite ?_ ?_
   | refine LeO.bind ?_ (fun _=>?_)
set_option maxHeartbeats 8000000 in
set_option maxRecDepth 100000 in
theorem slices_Contains_string.calls (k:Nat) (A0:Option Addr) (c0:Nat) (l0:List ByteArray) (a1:ByteArray) (r:Bool) (w:World) (hr0:Kd.C Kd.string w A0 l0.length l0) (hc0:l0.length≤c0) (h:slices_Contains_string.f k l0 a1=some r) :
  Calls Tryd.prog 48 #[.slice A0 l0.length c0, .string a1] w fun e w'=>e = .returned (.bool r)∧Drawn0 w w':=by
 have HR0:=Aside0.mk hr0
 have HC0:=Aside0.mk hc0
 clear hr0 hc0
 have H:((slices_Index_string.f k l0 a1).bind fun t176=>(some (decide (t176≥0))))=some r:=h
 clear h
 replace H:=Option.bind_eq_some_iff.mp H
 obtain ⟨t176,A30,H⟩:=H
 replace H:(some (decide (t176≥0)))=some r:=H
 have A3:=Aside0.mk A30
 clear A30
 obtain rfl:=Option.some.inj H
 go_enter Tryd.func48,Tryd.ntmps48
 go_wp2_with (first|((with_reducible refine gate_callee (f:=64) rfl ?_);refine goesL_ (some 7) rfl rfl Tryd.func64 (by kernel_rfl) rfl #[.slice A0 l0.length c0, .string a1] rfl (by (try simp only [List.map_toArray,List.map_cons,List.map_nil]);first|done|rfl|(simp only [List.length_drop,List.length_take];rfl)) ?_;(with_reducible refine (slices_Index_string.calls k _ _ l0 a1 t176 _ ?side1 ?side2 A3.out).mono ?_);(case side1=>repeat (first|exact HR0.out|(with_reducible refine Kd.C_alloc ?_ _)|(with_reducible refine Kd.C_drewN ?_ _)|(with_reducible refine Kd.C_drew ?_)));(case side2=>exact HC0.out);rintro e w' ⟨rfl,⟨nd,rfl⟩⟩;refine ⟨_,rfl,?_⟩))
 go_ret
 exact ⟨by first|rfl|(simp;done)|(simp [*];done),by repeat (first|exact Drawn0.refl _|apply Drawn0.step)⟩
def tag_Only.l0:Nat→List ByteArray→List (S52)→List (S52)→Int→Int→Option ((List (S52)))
 | 0,_,_,_,_,_=>none
 | k+1,x1,x4,x7,x8,x9=>if x9<x8 then (if 0≤x9 then (if x9<(x7.length:Int) then ((slices_Contains_string.f k x1 ((rd_T52 x7 x9).f0)).bind fun t179=>(if t179=true then (if x4.length<4398046511104 then (tag_Only.l0 k x1 (x4++[(⟨(rd_T52 x7 x9).f0,(rd_T52 x7 x9).f1⟩:S52)]) x7 x8 (wrap64 (x9+1))) else (none)) else (tag_Only.l0 k x1 x4 x7 x8 (wrap64 (x9+1))))) else (none)) else (none)) else (some x4)
def tag_Only.f (k:Nat) (l0:List (S52)) (l1:List ByteArray):Option ((List (S52))):=tag_Only.l0 k l1 ([]:List (S52)) l0 (l0.length:Int) 0
theorem tag_Only.mono_l:∀ k,(∀ y0 y1 y2 y3 y4,LeO (tag_Only.l0 k y0 y1 y2 y3 y4) (tag_Only.l0 (k+1) y0 y1 y2 y3 y4))
 | 0=>fun _ _ _ _ _ r h=>by simp [tag_Only.l0] at h
 | k+1=>by
  have ih0:=tag_Only.mono_l k
  ·intro y0 y1 y2 y3 y4
   unfold tag_Only.l0
   repeat' first
   | (with_reducible exact ih0 _ _ _ _ _)
   | (with_reducible exact slices_Contains_string.mono _ _ _)
   | (with_reducible exact LeO.refl _)
   | (with_reducible exact LeO.none _)
   | (with_reducible refine LeO.ite ?_ ?_)
   | (with_reducible refine LeO.bind ?_ (fun _=>?_))
   | exact ih0 _ _ _ _ _
   | exact slices_Contains_string.mono _ _ _
   | exact LeO.none _
   | refine LeO.ite ?_ ?_
   | refine LeO.bind ?_ (fun _=>?_)
theorem tag_Only.mono:∀ a0 a1 k,LeO (tag_Only.f k a0 a1) (tag_Only.f (k+1) a0 a1):=by
 intro a0 a1 k
 have ih0:=tag_Only.mono_l k
 unfold tag_Only.f
 repeat' first
   | (with_reducible exact ih0 _ _ _ _ _)
   | (with_reducible exact slices_Contains_string.mono _ _ _)
   | (with_reducible exact LeO.refl _)
   | (with_reducible exact LeO.none _)
   | (with_reducible refine LeO.ite ?_ ?_)
   | (with_reducible refine LeO.bind ?_ (fun _=>?_))
   | exact ih0 _ _ _ _ _
   | exact slices_Contains_string.mono _ _ _
   | exact LeO.none _
   | refine LeO.ite ?_ ?_
   | refine LeO.bind ?_ (fun _=>?_)
set_option maxHeartbeats 8000000 in
set_option maxRecDepth 100000 in
theorem tag_Only.calls (k:Nat) (A0:Option Addr) (c0:Nat) (l0:List (S52)) (A1:Option Addr) (c1:Nat) (l1:List ByteArray) (r:List (S52)) (w:World) (hr0:Kd.C k52 w A0 l0.length l0) (hc0:l0.length≤c0) (hr1:Kd.C Kd.string w A1 l1.length l1) (hc1:l1.length≤c1) (h:tag_Only.f k l0 l1=some r) :
  Calls Tryd.prog 23 #[.slice A0 l0.length c0, .slice A1 l1.length c1] w fun e w'=>∃ v0_:Value,e = .returned (v0_)∧Kd.R k52 52 w' w.heap.size (fun _=>True) v0_ r∧Below w.heap.size w w':=by
 have hu52:=Tryd.underlying52
 have HR0:=Aside0.mk hr0
 have HC0:=Aside0.mk hc0
 clear hr0 hc0
 have HR1:=Aside0.mk hr1
 have HC1:=Aside0.mk hc1
 clear hr1 hc1
 have HB:=Aside0.mk (Below.refl w.heap.size w)
 have H:(tag_Only.l0 k l1 ([]:List (S52)) l0 (l0.length:Int) 0)=some r:=h
 clear h
 have H':=Aside0.mk H
 clear H
 go_enter Tryd.func23,Tryd.ntmps23
 go_wp2
 go_loopg [4,9] k (fun kq v4 v9 w'=>∃ (x4_1:List (S52)) (x9_1:Int),v9 = .int .i64 x9_1∧Aside0 (tag_Only.l0 kq l1 x4_1 l0 (l0.length:Int) x9_1=some r)∧Aside0 (kq≤k)∧Aside0 (Kd.R k52 52 w' w.heap.size (fun _=>True) v4 x4_1)∧Aside0 (Below w.heap.size w w'))
 case atStart=>exact ⟨(([]:List (S52))),(0),(by first|rfl|(simp;done)|(simp [*];done)),H',⟨Nat.le_refl _⟩,⟨by first|exact Kd.R_nil _ _ _ _ _|exact Kd.N_nil _ _ _ _ _|exact Kd.V_nil _ _ _ _ _|exact Kd.Q_nil _ _ _ _ _|exact Kd.S_nil _ _ _ _ _⟩,⟨by repeat (first|(with_reducible first|exact HB.out|apply below_alloc|apply pw_below_drewN|apply below_drew1)|exact HB.out)⟩⟩
 case round =>
  clear H'
  try clear c1
  try clear c2
  try clear p2
  obtain ⟨x4_1,x9_1,rfl,HA,HK1,HO_4,HB⟩:=hrel
  cases gk with
  | zero=>exact absurd HA.out (by simp [tag_Only.l0])
  | succ k1 =>
   have H:=HA.out
   clear HA
   simp only [tag_Only.l0] at H
   by_cases c3:x9_1<(l0.length:Int)
   ·rw [if_pos c3] at H
    have c3b0:decide (x9_1<(l0.length:Int))=true:=decide_eq_true c3
    clear c3
    by_cases c4:0≤x9_1
    ·rw [if_pos c4] at H
     have c4b0:decide (0≤x9_1)=true:=decide_eq_true c4
     clear c4
     by_cases c5:x9_1<(l0.length:Int)
     ·rw [if_pos c5] at H
      have c5b0:decide (x9_1<(l0.length:Int))=true:=decide_eq_true c5
      clear c5
      replace H:=Option.bind_eq_some_iff.mp H
      obtain ⟨t179,A60,H⟩:=H
      replace H:(if t179=true then (if x4_1.length<4398046511104 then (tag_Only.l0 k1 l1 (x4_1++[(⟨(rd_T52 l0 x9_1).f0,(rd_T52 l0 x9_1).f1⟩:S52)]) l0 (l0.length:Int) (wrap64 (x9_1+1))) else (none)) else (tag_Only.l0 k1 l1 x4_1 l0 (l0.length:Int) (wrap64 (x9_1+1))))=some r:=H
      have A6:=Aside0.mk A60
      clear A60
      by_cases c7:t179=true
      ·subst c7
       have H1:(if x4_1.length<4398046511104 then (tag_Only.l0 k1 l1 (x4_1++[(⟨(rd_T52 l0 x9_1).f0,(rd_T52 l0 x9_1).f1⟩:S52)]) l0 (l0.length:Int) (wrap64 (x9_1+1))) else (none))=some r:=by rw [if_pos rfl] at H;exact H
       clear H
       have H:=H1
       clear H1
       by_cases c8:x4_1.length<4398046511104
       ·rw [if_pos c8] at H
        have LMc8:=Aside0.mk c8
        clear c8
        obtain ⟨y180,hy180⟩:∃ y_:List (S52),y_=(x4_1++[(⟨(rd_T52 l0 x9_1).f0,(rd_T52 l0 x9_1).f1⟩:S52)]):=⟨_,rfl⟩
        replace H:(tag_Only.l0 k1 l1 y180 l0 (l0.length:Int) (wrap64 (x9_1+1)))=some r:=by first|(rw [hy180];with_reducible exact H)|(have H2_:=(Option.bind_some _ _).symm.trans H;rw [hy180];with_reducible exact H2_)|(have H2_:=(Option.bind_some _ _).symm.trans H;with_reducible exact H2_)|with_reducible exact H|(rw [hy180];exact H)|exact H
        have Ny180:=Aside0.mk hy180
        clear hy180
        have H':=Aside0.mk H
        clear H
        have p177:0≤(x9_1:Int):=of_decide_eq_true (by first|(with_reducible assumption)|assumption)
        have q177:x9_1<(l0.length:Int):=of_decide_eq_true (by first|(with_reducible assumption)|assumption)
        obtain ⟨ad177,e177,hx177_0,hx177_1⟩:=at_T52 HR0.out x9_1 p177 q177
        cases e177
        replace hx177_0:=(HB.out.cell (World.block_lt_of_cell? w _ hx177_0)).trans hx177_0
        replace hx177_1:=(HB.out.cell (World.block_lt_of_cell? w _ hx177_1)).trans hx177_1
        replace p177:=eq_true p177
        replace q177:=eq_true q177
        go_wp2_with (first|((with_reducible refine gate_dst (N:=6) rfl ?_);refine box_event ?hg (N:=6) ?hd (cs:=#[.string (⟨#[]⟩:ByteArray), .string (⟨#[]⟩:ByteArray)]) (t:=52) ?hr ?_;(case hd=>rfl);(case hg=>rfl);(case hr=>first|(go_simp;done)|(go_simp;rfl));intro gb178 hg w9 hbox hb;have n0_:=Aside0.mk (Kd.R_below (Kd.R_elderB (by (with_reducible repeat (first|apply Kd.R_alloc|apply Kd.R_drewN|apply Kd.R_drew));exact HO_4.out) gb178 (Nat.le_of_eq hg.symm)) hb);have n1_:=Aside0.mk (below_step (by repeat (first|(with_reducible first|exact HB.out|apply below_alloc|apply pw_below_drewN|apply below_drew1)|exact HB.out)) hb);have n2_:=Aside0.mk (hbox);have n3_:=Aside0.mk ((by rw [hg];exact (below_size (by repeat (first|(with_reducible first|exact HB.out|apply below_alloc|apply pw_below_drewN|apply below_drew1)|exact HB.out))):w.heap.size≤gb178));have n4_:=Aside0.mk ((by rw [hg];exact (below_size (by repeat (first|(with_reducible first|exact HB.out|apply below_alloc|apply pw_below_drewN|apply below_drew1)|exact HB.out))):w.heap.size≤gb178));clear HO_4;clear HB;have HO_4:=n0_;have HB:=n1_;have BK178:=n2_;have GW178:=n3_;have GE178:=n4_;clear n0_ n1_ n2_ n3_ n4_;clear hb hbox hg;have hcz10_0:w9.cell? ⟨gb178,0,none⟩=some (.string (⟨#[]⟩:ByteArray)):=(blk_cell BK178.out 0).trans rfl;have hcz10_1:w9.cell? ⟨gb178,1,none⟩=some (.string (⟨#[]⟩:ByteArray)):=(blk_cell BK178.out 1).trans rfl;have hfz10_0:=blk_frozen BK178.out 0;have hfz10_1:=blk_frozen BK178.out 1)|((with_reducible refine gate_callee (f:=48) rfl ?_);refine goesL_ (some 16) rfl rfl Tryd.func48 (by kernel_rfl) rfl #[.slice A1 l1.length c1, .string ((rd_T52 l0 x9_1).f0)] rfl (by (try simp only [List.map_toArray,List.map_cons,List.map_nil]);first|done|rfl|(simp only [List.length_drop,List.length_take];rfl)) ?_;(with_reducible refine (slices_Contains_string.calls k1 _ _ l1 ((rd_T52 l0 x9_1).f0) true _ ?side1 ?side2 A6.out).mono ?_);(case side1=>exact Kd.C_below HR1.out (by repeat (first|(with_reducible first|exact HB.out|apply below_alloc|apply pw_below_drewN|apply below_drew1|refine below_set ?_ GE178.out)|exact HB.out)));(case side2=>exact HC1.out);rintro e w' ⟨rfl,⟨nd,rfl⟩⟩;refine ⟨_,rfl,?_⟩)|((with_reducible refine gate_builtin (b := .append) (xs:=#[.tmp 17, .tmp 19]) rfl ?_);at_builtin;refine Kd.R_append k52 (w0:=w) w.heap.size rfl (.tmp 17) (.tmp 19) 22 52 (.agg #[(.string ⟨#[]⟩),(.string ⟨#[]⟩)]) 32 rfl Tryd.underlying22 info52 rfl (by decide) (by omega) u4 x4_1 (⟨(rd_T52 l0 x9_1).f0,(rd_T52 l0 x9_1).f1⟩:S52) [.string ((rd_T52 l0 x9_1).f0), .string ((rd_T52 l0 x9_1).f1)] (fun k_=>k_≠gb178) (fun _=>False) rfl (by first|(go_simp;done)|(go_simp;rfl)) ?aP (fun _ hk=>hk.elim) ?aF ?aO ?aB ?aS ?aL ?_;(case aP=>exact k52_mkM _ _ _ (⟨(rd_T52 l0 x9_1).f0,(rd_T52 l0 x9_1).f1⟩:S52));(case aB=>exact (by repeat (first|(with_reducible first|exact HB.out|apply below_alloc|apply pw_below_drewN|apply below_drew1|refine below_set ?_ GE178.out)|exact HB.out)));(case aF=>exact (fun k_ hk=>Kd.freshB (g:=gb178) (o := .cells #[.string ((rd_T52 l0 x9_1).f0), .string ((rd_T52 l0 x9_1).f1)] 52 (0,0)) (by (with_reducible repeat (first|refine blk_drewN ?_ _|refine blk_drew ?_|refine blk_alloc ?_ _));refine blk_put (cs:=#[.string ((rd_T52 l0 x9_1).f0), .string (⟨#[]⟩:ByteArray)]) ?_ 1 _ rfl;(with_reducible repeat (first|refine blk_drewN ?_ _|refine blk_drew ?_|refine blk_alloc ?_ _));refine blk_put (cs:=#[.string (⟨#[]⟩:ByteArray), .string (⟨#[]⟩:ByteArray)]) ?_ 0 _ rfl;(with_reducible repeat (first|refine blk_drewN ?_ _|refine blk_drew ?_|refine blk_alloc ?_ _));exact BK178.out) k_ hk));(case aO=>exact (by (with_reducible repeat (first|apply Kd.R_alloc|apply Kd.R_drewN|apply Kd.R_drew));exact Kd.R_mono (Kd.R_far (p:=⟨gb178,1,none⟩) (Kd.R_far (p:=⟨gb178,0,none⟩) (Kd.R_mono HO_4.out (fun k_ hk=>(⟨hk,hk.2⟩:_∧k_≠gb178))) (fun _ hk=>hk.2) (.string ((rd_T52 l0 x9_1).f0))) (fun _ hk=>hk.2) (.string ((rd_T52 l0 x9_1).f1))) (fun _ hk=>hk.1.2)));(case aS=>exact (below_size (by repeat (first|(with_reducible first|exact HB.out|apply below_alloc|apply pw_below_drewN|apply below_drew1|refine below_set ?_ GE178.out)|exact HB.out))));(case aL=>have:=LMc8.out;omega);intro v181 w11 ho hb hg hat;rw [← Ny180.out] at ho;have n0_:=Aside0.mk (blk_grown (g:=gb178) (o := .cells #[.string ((rd_T52 l0 x9_1).f0), .string ((rd_T52 l0 x9_1).f1)] 52 (0,0)) (by (with_reducible repeat (first|refine blk_drewN ?_ _|refine blk_drew ?_|refine blk_alloc ?_ _));refine blk_put (cs:=#[.string ((rd_T52 l0 x9_1).f0), .string (⟨#[]⟩:ByteArray)]) ?_ 1 _ rfl;(with_reducible repeat (first|refine blk_drewN ?_ _|refine blk_drew ?_|refine blk_alloc ?_ _));refine blk_put (cs:=#[.string (⟨#[]⟩:ByteArray), .string (⟨#[]⟩:ByteArray)]) ?_ 0 _ rfl;(with_reducible repeat (first|refine blk_drewN ?_ _|refine blk_drew ?_|refine blk_alloc ?_ _));exact BK178.out) hg (Kd.R_away HO_4.out (fun _ hk=>hk.2)));have n1_:=Aside0.mk (hb);have n2_:=Aside0.mk (ho);clear BK178;clear HB;clear HO_4;have BK178:=n0_;have HB:=n1_;have HO182:=n2_;clear n0_ n1_ n2_;clear ho hb hg hat))
        go_roundg k1
        case measure=>have:=HK1.out;omega
        case rel=>exact ⟨(y180),(wrap64 (x9_1+1)),(by first|rfl|(simp;done)|(simp [*];done)),H',⟨by have:=HK1.out;omega⟩,⟨by (with_reducible repeat (first|apply Kd.R_alloc|apply Kd.R_drewN|apply Kd.R_drew));exact Kd.R_mono HO182.out (fun _ hk=>trivial)⟩,⟨by repeat (first|(with_reducible first|exact HB.out|apply below_alloc|apply pw_below_drewN|apply below_drew1|refine below_set ?_ GE178.out)|exact HB.out)⟩⟩
       ·rw [if_neg c8] at H
        exact absurd H (by simp)
      ·replace c7:=Bool.eq_false_iff.mpr c7
       subst c7
       have H1:(tag_Only.l0 k1 l1 x4_1 l0 (l0.length:Int) (wrap64 (x9_1+1)))=some r:=by rw [if_neg (show ¬ (false=true) by decide)] at H;exact H
       clear H
       have H:=H1
       clear H1
       have H':=Aside0.mk H
       clear H
       have p177:0≤(x9_1:Int):=of_decide_eq_true (by first|(with_reducible assumption)|assumption)
       have q177:x9_1<(l0.length:Int):=of_decide_eq_true (by first|(with_reducible assumption)|assumption)
       obtain ⟨ad177,e177,hx177_0,hx177_1⟩:=at_T52 HR0.out x9_1 p177 q177
       cases e177
       replace hx177_0:=(HB.out.cell (World.block_lt_of_cell? w _ hx177_0)).trans hx177_0
       replace hx177_1:=(HB.out.cell (World.block_lt_of_cell? w _ hx177_1)).trans hx177_1
       replace p177:=eq_true p177
       replace q177:=eq_true q177
       go_wp2_with (first|((with_reducible refine gate_dst (N:=6) rfl ?_);refine box_event ?hg (N:=6) ?hd (cs:=#[.string (⟨#[]⟩:ByteArray), .string (⟨#[]⟩:ByteArray)]) (t:=52) ?hr ?_;(case hd=>rfl);(case hg=>rfl);(case hr=>first|(go_simp;done)|(go_simp;rfl));intro gb178 hg w12 hbox hb;have n0_:=Aside0.mk (Kd.R_below (Kd.R_elderB (by (with_reducible repeat (first|apply Kd.R_alloc|apply Kd.R_drewN|apply Kd.R_drew));exact HO_4.out) gb178 (Nat.le_of_eq hg.symm)) hb);have n1_:=Aside0.mk (below_step (by repeat (first|(with_reducible first|exact HB.out|apply below_alloc|apply pw_below_drewN|apply below_drew1)|exact HB.out)) hb);have n2_:=Aside0.mk (hbox);have n3_:=Aside0.mk ((by rw [hg];exact (below_size (by repeat (first|(with_reducible first|exact HB.out|apply below_alloc|apply pw_below_drewN|apply below_drew1)|exact HB.out))):w.heap.size≤gb178));have n4_:=Aside0.mk ((by rw [hg];exact (below_size (by repeat (first|(with_reducible first|exact HB.out|apply below_alloc|apply pw_below_drewN|apply below_drew1)|exact HB.out))):w.heap.size≤gb178));clear HO_4;clear HB;have HO_4:=n0_;have HB:=n1_;have BK178:=n2_;have GW178:=n3_;have GE178:=n4_;clear n0_ n1_ n2_ n3_ n4_;clear hb hbox hg;have hcz13_0:w12.cell? ⟨gb178,0,none⟩=some (.string (⟨#[]⟩:ByteArray)):=(blk_cell BK178.out 0).trans rfl;have hcz13_1:w12.cell? ⟨gb178,1,none⟩=some (.string (⟨#[]⟩:ByteArray)):=(blk_cell BK178.out 1).trans rfl;have hfz13_0:=blk_frozen BK178.out 0;have hfz13_1:=blk_frozen BK178.out 1)|((with_reducible refine gate_callee (f:=48) rfl ?_);refine goesL_ (some 16) rfl rfl Tryd.func48 (by kernel_rfl) rfl #[.slice A1 l1.length c1, .string ((rd_T52 l0 x9_1).f0)] rfl (by (try simp only [List.map_toArray,List.map_cons,List.map_nil]);first|done|rfl|(simp only [List.length_drop,List.length_take];rfl)) ?_;(with_reducible refine (slices_Contains_string.calls k1 _ _ l1 ((rd_T52 l0 x9_1).f0) false _ ?side1 ?side2 A6.out).mono ?_);(case side1=>exact Kd.C_below HR1.out (by repeat (first|(with_reducible first|exact HB.out|apply below_alloc|apply pw_below_drewN|apply below_drew1|refine below_set ?_ GE178.out)|exact HB.out)));(case side2=>exact HC1.out);rintro e w' ⟨rfl,⟨nd,rfl⟩⟩;refine ⟨_,rfl,?_⟩))
       go_roundg k1
       case measure=>have:=HK1.out;omega
       case rel=>exact ⟨(x4_1),(wrap64 (x9_1+1)),(by first|rfl|(simp;done)|(simp [*];done)),H',⟨by have:=HK1.out;omega⟩,⟨by (with_reducible repeat (first|apply Kd.R_alloc|apply Kd.R_drewN|apply Kd.R_drew));exact Kd.R_mono (Kd.R_far (p:=⟨gb178,1,none⟩) (Kd.R_far (p:=⟨gb178,0,none⟩) (Kd.R_mono HO_4.out (fun k_ hk=>(⟨hk,hk.2⟩:_∧k_≠gb178))) (fun _ hk=>hk.2) (.string ((rd_T52 l0 x9_1).f0))) (fun _ hk=>hk.2) (.string ((rd_T52 l0 x9_1).f1))) (fun _ hk=>trivial)⟩,⟨by repeat (first|(with_reducible first|exact HB.out|apply below_alloc|apply pw_below_drewN|apply below_drew1|refine below_set ?_ GE178.out)|exact HB.out)⟩⟩
     ·rw [if_neg c5] at H
      exact absurd H (by simp)
    ·rw [if_neg c4] at H
     exact absurd H (by simp)
   ·rw [if_neg c3] at H
    have c3b0:decide (x9_1<(l0.length:Int))=false:=decide_eq_false c3
    clear c3
    obtain rfl:=Option.some.inj H
    go_wp2
    go_ret
    exact ⟨_,by first|rfl|(simp [errW_none,errW_some]<;>rfl)|(simp [*,errW_none,errW_some]<;>rfl),by (with_reducible repeat (first|apply Kd.R_alloc|apply Kd.R_drewN|apply Kd.R_drew));exact HO_4.out,by repeat (first|(with_reducible first|exact HB.out|apply below_alloc|apply pw_below_drewN|apply below_drew1)|exact HB.out)⟩
def ebbtidelaw03_alive.f (k:Nat)  : Option (Bool):=(tag_Parse.f k (⟨#[98,61,49,44,97,61,50]⟩:ByteArray)).bind fun bt183=>((tag_Parse.f k (⟨#[97,61,49,44,97,61,50]⟩:ByteArray)).bind fun bt187=>((tag_Parse.f k (⟨#[97]⟩:ByteArray)).bind fun bt191=>((tag_Find.f k bt183.1 (⟨#[98]⟩:ByteArray)).bind fun bt195=>(if bt183.2=0 then (if bt187.2=5 then (if bt191.2=2 then ((tag_Text.f k bt183.1).bind fun t197=>(if t197.toList=([97,61,50,44,98,61,49]:List UInt8) then (if bt195.2=true then (if bt195.1.toList=([49]:List UInt8) then ((tag_Right.f k bt183.1).bind fun t198=>(if t198=true then ((tag_Only.f k bt183.1 (([(⟨#[98]⟩:ByteArray),(⟨#[99]⟩:ByteArray)]:List ByteArray))).bind fun t202=>(if (t202.length:Int)=1 then ((tag_Right.f k (([(⟨(⟨#[]⟩:ByteArray),(⟨#[]⟩:ByteArray)⟩:S52)]:List (S52)))).bind fun t208=>(some (!t208))) else (none))) else (none))) else (none)) else (none)) else (none))) else (none)) else (none)) else (none)))))
theorem ebbtidelaw03_alive.mono:∀ k,LeO (ebbtidelaw03_alive.f k ) (ebbtidelaw03_alive.f (k+1) ):=by
 intro  k
 unfold ebbtidelaw03_alive.f
 repeat' first
   | (with_reducible exact tag_Find.mono _ _ _)
   | (with_reducible exact tag_Only.mono _ _ _)
   | (with_reducible exact tag_Parse.mono _ _)
   | (with_reducible exact tag_Right.mono _ _)
   | (with_reducible exact tag_Text.mono _ _)
   | (with_reducible exact LeO.refl _)
   | (with_reducible exact LeO.none _)
   | (with_reducible refine LeO.ite ?_ ?_)
   | (with_reducible refine LeO.bind ?_ (fun _=>?_))
   | exact tag_Find.mono _ _ _
   | exact tag_Only.mono _ _ _
   | exact tag_Parse.mono _ _
   | exact tag_Right.mono _ _
   | exact tag_Text.mono _ _
   | exact LeO.none _
   | refine LeO.ite ?_ ?_
   | refine LeO.bind ?_ (fun _=>?_)
set_option maxHeartbeats 8000000 in
set_option maxRecDepth 100000 in
theorem ebbtidelaw03_alive.calls (k:Nat)  (r:Bool) (w:World) (h:ebbtidelaw03_alive.f k  = some r) :
  Calls Tryd.prog 12 #[] w fun e w'=>e = .returned (.bool r)∧Below w.heap.size w w':=by
 have hu52:=Tryd.underlying52
 have HB:=Aside0.mk (Below.refl w.heap.size w)
 have H:((tag_Parse.f k (⟨#[98,61,49,44,97,61,50]⟩:ByteArray)).bind fun bt183=>((tag_Parse.f k (⟨#[97,61,49,44,97,61,50]⟩:ByteArray)).bind fun bt187=>((tag_Parse.f k (⟨#[97]⟩:ByteArray)).bind fun bt191=>((tag_Find.f k bt183.1 (⟨#[98]⟩:ByteArray)).bind fun bt195=>(if bt183.2=0 then (if bt187.2=5 then (if bt191.2=2 then ((tag_Text.f k bt183.1).bind fun t197=>(if t197.toList=([97,61,50,44,98,61,49]:List UInt8) then (if bt195.2=true then (if bt195.1.toList=([49]:List UInt8) then ((tag_Right.f k bt183.1).bind fun t198=>(if t198=true then ((tag_Only.f k bt183.1 (([(⟨#[98]⟩:ByteArray),(⟨#[99]⟩:ByteArray)]:List ByteArray))).bind fun t202=>(if (t202.length:Int)=1 then ((tag_Right.f k (([(⟨(⟨#[]⟩:ByteArray),(⟨#[]⟩:ByteArray)⟩:S52)]:List (S52)))).bind fun t208=>(some (!t208))) else (none))) else (none))) else (none)) else (none)) else (none))) else (none)) else (none)) else (none))))))=some r:=h
 clear h
 replace H:=Option.bind_eq_some_iff.mp H
 obtain ⟨⟨t183,t184⟩,A10,H⟩:=H
 replace H:((tag_Parse.f k (⟨#[97,61,49,44,97,61,50]⟩:ByteArray)).bind fun bt187=>((tag_Parse.f k (⟨#[97]⟩:ByteArray)).bind fun bt191=>((tag_Find.f k t183 (⟨#[98]⟩:ByteArray)).bind fun bt195=>(if t184=0 then (if bt187.2=5 then (if bt191.2=2 then ((tag_Text.f k t183).bind fun t197=>(if t197.toList=([97,61,50,44,98,61,49]:List UInt8) then (if bt195.2=true then (if bt195.1.toList=([49]:List UInt8) then ((tag_Right.f k t183).bind fun t198=>(if t198=true then ((tag_Only.f k t183 (([(⟨#[98]⟩:ByteArray),(⟨#[99]⟩:ByteArray)]:List ByteArray))).bind fun t202=>(if (t202.length:Int)=1 then ((tag_Right.f k (([(⟨(⟨#[]⟩:ByteArray),(⟨#[]⟩:ByteArray)⟩:S52)]:List (S52)))).bind fun t208=>(some (!t208))) else (none))) else (none))) else (none)) else (none)) else (none))) else (none)) else (none)) else (none)))))=some r:=H
 have A1:=Aside0.mk A10
 clear A10
 replace H:=Option.bind_eq_some_iff.mp H
 obtain ⟨⟨t187,t188⟩,A20,H⟩:=H
 replace H:((tag_Parse.f k (⟨#[97]⟩:ByteArray)).bind fun bt191=>((tag_Find.f k t183 (⟨#[98]⟩:ByteArray)).bind fun bt195=>(if t184=0 then (if t188=5 then (if bt191.2=2 then ((tag_Text.f k t183).bind fun t197=>(if t197.toList=([97,61,50,44,98,61,49]:List UInt8) then (if bt195.2=true then (if bt195.1.toList=([49]:List UInt8) then ((tag_Right.f k t183).bind fun t198=>(if t198=true then ((tag_Only.f k t183 (([(⟨#[98]⟩:ByteArray),(⟨#[99]⟩:ByteArray)]:List ByteArray))).bind fun t202=>(if (t202.length:Int)=1 then ((tag_Right.f k (([(⟨(⟨#[]⟩:ByteArray),(⟨#[]⟩:ByteArray)⟩:S52)]:List (S52)))).bind fun t208=>(some (!t208))) else (none))) else (none))) else (none)) else (none)) else (none))) else (none)) else (none)) else (none))))=some r:=H
 have A2:=Aside0.mk A20
 clear A20
 replace H:=Option.bind_eq_some_iff.mp H
 obtain ⟨⟨t191,t192⟩,A30,H⟩:=H
 replace H:((tag_Find.f k t183 (⟨#[98]⟩:ByteArray)).bind fun bt195=>(if t184=0 then (if t188=5 then (if t192=2 then ((tag_Text.f k t183).bind fun t197=>(if t197.toList=([97,61,50,44,98,61,49]:List UInt8) then (if bt195.2=true then (if bt195.1.toList=([49]:List UInt8) then ((tag_Right.f k t183).bind fun t198=>(if t198=true then ((tag_Only.f k t183 (([(⟨#[98]⟩:ByteArray),(⟨#[99]⟩:ByteArray)]:List ByteArray))).bind fun t202=>(if (t202.length:Int)=1 then ((tag_Right.f k (([(⟨(⟨#[]⟩:ByteArray),(⟨#[]⟩:ByteArray)⟩:S52)]:List (S52)))).bind fun t208=>(some (!t208))) else (none))) else (none))) else (none)) else (none)) else (none))) else (none)) else (none)) else (none)))=some r:=H
 have A3:=Aside0.mk A30
 clear A30
 replace H:=Option.bind_eq_some_iff.mp H
 obtain ⟨⟨t195,t196⟩,A40,H⟩:=H
 replace H:(if t184=0 then (if t188=5 then (if t192=2 then ((tag_Text.f k t183).bind fun t197=>(if t197.toList=([97,61,50,44,98,61,49]:List UInt8) then (if t196=true then (if t195.toList=([49]:List UInt8) then ((tag_Right.f k t183).bind fun t198=>(if t198=true then ((tag_Only.f k t183 (([(⟨#[98]⟩:ByteArray),(⟨#[99]⟩:ByteArray)]:List ByteArray))).bind fun t202=>(if (t202.length:Int)=1 then ((tag_Right.f k (([(⟨(⟨#[]⟩:ByteArray),(⟨#[]⟩:ByteArray)⟩:S52)]:List (S52)))).bind fun t208=>(some (!t208))) else (none))) else (none))) else (none)) else (none)) else (none))) else (none)) else (none)) else (none))=some r:=H
 have A4:=Aside0.mk A40
 clear A40
 by_cases c5:t184=0
 ·rw [if_pos c5] at H
  have c5b0:(t184 ==0)=true:=beq_iff_eq.mpr c5
  have c5b1:(t184 != 0)=false:=bne_eq_false_iff_eq.mpr c5
  clear c5
  by_cases c6:t188=5
  ·rw [if_pos c6] at H
   have c6b0:(t188 ==5)=true:=beq_iff_eq.mpr c6
   have c6b1:(t188 != 5)=false:=bne_eq_false_iff_eq.mpr c6
   clear c6
   by_cases c7:t192=2
   ·rw [if_pos c7] at H
    have c7b0:(t192 ==2)=true:=beq_iff_eq.mpr c7
    have c7b1:(t192 != 2)=false:=bne_eq_false_iff_eq.mpr c7
    clear c7
    replace H:=Option.bind_eq_some_iff.mp H
    obtain ⟨t197,A80,H⟩:=H
    replace H:(if t197.toList=([97,61,50,44,98,61,49]:List UInt8) then (if t196=true then (if t195.toList=([49]:List UInt8) then ((tag_Right.f k t183).bind fun t198=>(if t198=true then ((tag_Only.f k t183 (([(⟨#[98]⟩:ByteArray),(⟨#[99]⟩:ByteArray)]:List ByteArray))).bind fun t202=>(if (t202.length:Int)=1 then ((tag_Right.f k (([(⟨(⟨#[]⟩:ByteArray),(⟨#[]⟩:ByteArray)⟩:S52)]:List (S52)))).bind fun t208=>(some (!t208))) else (none))) else (none))) else (none)) else (none)) else (none))=some r:=H
    have A8:=Aside0.mk A80
    clear A80
    by_cases c9:t197.toList=([97,61,50,44,98,61,49]:List UInt8)
    ·rw [if_pos c9] at H
     have c9b0:(t197.toList ==([97,61,50,44,98,61,49]:List UInt8))=true:=beq_iff_eq.mpr c9
     have c9b1:(t197.toList != ([97,61,50,44,98,61,49]:List UInt8))=false:=bne_eq_false_iff_eq.mpr c9
     clear c9
     by_cases c10:t196=true
     ·subst c10
      have H1:(if t195.toList=([49]:List UInt8) then ((tag_Right.f k t183).bind fun t198=>(if t198=true then ((tag_Only.f k t183 (([(⟨#[98]⟩:ByteArray),(⟨#[99]⟩:ByteArray)]:List ByteArray))).bind fun t202=>(if (t202.length:Int)=1 then ((tag_Right.f k (([(⟨(⟨#[]⟩:ByteArray),(⟨#[]⟩:ByteArray)⟩:S52)]:List (S52)))).bind fun t208=>(some (!t208))) else (none))) else (none))) else (none))=some r:=by rw [if_pos rfl] at H;exact H
      clear H
      have H:=H1
      clear H1
      by_cases c11:t195.toList=([49]:List UInt8)
      ·rw [if_pos c11] at H
       have c11b0:(t195.toList ==([49]:List UInt8))=true:=beq_iff_eq.mpr c11
       have c11b1:(t195.toList != ([49]:List UInt8))=false:=bne_eq_false_iff_eq.mpr c11
       clear c11
       replace H:=Option.bind_eq_some_iff.mp H
       obtain ⟨t198,A120,H⟩:=H
       replace H:(if t198=true then ((tag_Only.f k t183 (([(⟨#[98]⟩:ByteArray),(⟨#[99]⟩:ByteArray)]:List ByteArray))).bind fun t202=>(if (t202.length:Int)=1 then ((tag_Right.f k (([(⟨(⟨#[]⟩:ByteArray),(⟨#[]⟩:ByteArray)⟩:S52)]:List (S52)))).bind fun t208=>(some (!t208))) else (none))) else (none))=some r:=H
       have A12:=Aside0.mk A120
       clear A120
       by_cases c13:t198=true
       ·subst c13
        have H1:((tag_Only.f k t183 (([(⟨#[98]⟩:ByteArray),(⟨#[99]⟩:ByteArray)]:List ByteArray))).bind fun t202=>(if (t202.length:Int)=1 then ((tag_Right.f k (([(⟨(⟨#[]⟩:ByteArray),(⟨#[]⟩:ByteArray)⟩:S52)]:List (S52)))).bind fun t208=>(some (!t208))) else (none)))=some r:=by rw [if_pos rfl] at H;exact H
        clear H
        have H:=H1
        clear H1
        obtain ⟨y199,hy199⟩:∃ y_:List ByteArray,y_=(([(⟨#[98]⟩:ByteArray),(⟨#[99]⟩:ByteArray)]:List ByteArray)):=⟨_,rfl⟩
        replace H:((tag_Only.f k t183 y199).bind fun t202=>(if (t202.length:Int)=1 then ((tag_Right.f k (([(⟨(⟨#[]⟩:ByteArray),(⟨#[]⟩:ByteArray)⟩:S52)]:List (S52)))).bind fun t208=>(some (!t208))) else (none)))=some r:=by first|(rw [hy199];with_reducible exact H)|(have H2_:=(Option.bind_some _ _).symm.trans H;rw [hy199];with_reducible exact H2_)|(have H2_:=(Option.bind_some _ _).symm.trans H;with_reducible exact H2_)|with_reducible exact H|(rw [hy199];exact H)|exact H
        have Ny199:=Aside0.mk hy199
        clear hy199
        replace H:=Option.bind_eq_some_iff.mp H
        obtain ⟨t202,A140,H⟩:=H
        replace H:(if (t202.length:Int)=1 then ((tag_Right.f k (([(⟨(⟨#[]⟩:ByteArray),(⟨#[]⟩:ByteArray)⟩:S52)]:List (S52)))).bind fun t208=>(some (!t208))) else (none))=some r:=H
        have A14:=Aside0.mk A140
        clear A140
        by_cases c15:(t202.length:Int)=1
        ·rw [if_pos c15] at H
         have c15b0:((t202.length:Int) ==1)=true:=beq_iff_eq.mpr c15
         have c15b1:((t202.length:Int) != 1)=false:=bne_eq_false_iff_eq.mpr c15
         clear c15
         obtain ⟨y205,hy205⟩:∃ y_:List (S52),y_=(([(⟨(⟨#[]⟩:ByteArray),(⟨#[]⟩:ByteArray)⟩:S52)]:List (S52))):=⟨_,rfl⟩
         replace H:((tag_Right.f k y205).bind fun t208=>(some (!t208)))=some r:=by first|(rw [hy205];with_reducible exact H)|(have H2_:=(Option.bind_some _ _).symm.trans H;rw [hy205];with_reducible exact H2_)|(have H2_:=(Option.bind_some _ _).symm.trans H;with_reducible exact H2_)|with_reducible exact H|(rw [hy205];exact H)|exact H
         have Ny205:=Aside0.mk hy205
         clear hy205
         replace H:=Option.bind_eq_some_iff.mp H
         obtain ⟨t208,A160,H⟩:=H
         replace H:(some (!t208))=some r:=H
         have A16:=Aside0.mk A160
         clear A160
         obtain rfl:=Option.some.inj H
         go_enter Tryd.func12,Tryd.ntmps12
         go_wp2_with (first|((with_reducible refine gate_callee (f:=25) rfl ?_);refine goesL_ (some 10) rfl rfl Tryd.func25 (by kernel_rfl) rfl #[.string (⟨#[98,61,49,44,97,61,50]⟩:ByteArray)] rfl (by (try simp only [List.map_toArray,List.map_cons,List.map_nil]);first|done|rfl|(simp only [List.length_drop,List.length_take];rfl)) ?_;(with_reducible refine (tag_Parse.calls k (⟨#[98,61,49,44,97,61,50]⟩:ByteArray) t183 t184 _ A1.out).mono ?_);rintro e w17 ⟨v185,rfl,ho0,hb⟩;refine ⟨_,rfl,?_⟩;have n0_:=Aside0.mk (Kd.R_lower ho0 (below_size (by repeat (first|(with_reducible first|exact HB.out|apply below_alloc|apply pw_below_drewN|apply below_drew1)|exact HB.out))));have n1_:=Aside0.mk (below_step (by repeat (first|(with_reducible first|exact HB.out|apply below_alloc|apply pw_below_drewN|apply below_drew1)|exact HB.out)) hb);clear HB;have HO186:=n0_;have HB:=n1_;clear n0_ n1_;(try clear hb);(try clear hb2);(try clear hk);(try clear hi);(try clear ho0))|((with_reducible refine gate_callee (f:=25) rfl ?_);refine goesL_ (some 14) rfl rfl Tryd.func25 (by kernel_rfl) rfl #[.string (⟨#[97,61,49,44,97,61,50]⟩:ByteArray)] rfl (by (try simp only [List.map_toArray,List.map_cons,List.map_nil]);first|done|rfl|(simp only [List.length_drop,List.length_take];rfl)) ?_;(with_reducible refine (tag_Parse.calls k (⟨#[97,61,49,44,97,61,50]⟩:ByteArray) t187 t188 _ A2.out).mono ?_);rintro e w18 ⟨v189,rfl,ho0,hb⟩;refine ⟨_,rfl,?_⟩;have n0_:=Aside0.mk (Kd.R_elder' (by (with_reducible repeat (first|apply Kd.R_alloc|apply Kd.R_drewN|apply Kd.R_drew));exact HO186.out) (Kd.R_base ho0) hb);have n1_:=Aside0.mk (Kd.R_lower (Kd.R_new' ho0 (Kd.R_lt (by (with_reducible repeat (first|apply Kd.R_alloc|apply Kd.R_drewN|apply Kd.R_drew));exact HO186.out))) (below_size (by repeat (first|(with_reducible first|exact HB.out|apply below_alloc|apply pw_below_drewN|apply below_drew1)|exact HB.out))));have n2_:=Aside0.mk (below_step (by repeat (first|(with_reducible first|exact HB.out|apply below_alloc|apply pw_below_drewN|apply below_drew1)|exact HB.out)) hb);clear HO186;clear HB;have HO186:=n0_;have HO190:=n1_;have HB:=n2_;clear n0_ n1_ n2_;(try clear hb);(try clear hb2);(try clear hk);(try clear hi);(try clear ho0))|((with_reducible refine gate_callee (f:=25) rfl ?_);refine goesL_ (some 18) rfl rfl Tryd.func25 (by kernel_rfl) rfl #[.string (⟨#[97]⟩:ByteArray)] rfl (by (try simp only [List.map_toArray,List.map_cons,List.map_nil]);first|done|rfl|(simp only [List.length_drop,List.length_take];rfl)) ?_;(with_reducible refine (tag_Parse.calls k (⟨#[97]⟩:ByteArray) t191 t192 _ A3.out).mono ?_);rintro e w19 ⟨v193,rfl,ho0,hb⟩;refine ⟨_,rfl,?_⟩;have n0_:=Aside0.mk (Kd.R_elder' (by (with_reducible repeat (first|apply Kd.R_alloc|apply Kd.R_drewN|apply Kd.R_drew));exact HO186.out) (Kd.R_base ho0) hb);have n1_:=Aside0.mk (Kd.R_elder' (by (with_reducible repeat (first|apply Kd.R_alloc|apply Kd.R_drewN|apply Kd.R_drew));exact HO190.out) (Kd.R_base ho0) hb);have n2_:=Aside0.mk (Kd.R_lower (Kd.R_new' (Kd.R_new' ho0 (Kd.R_lt (by (with_reducible repeat (first|apply Kd.R_alloc|apply Kd.R_drewN|apply Kd.R_drew));exact HO186.out))) (Kd.R_lt (by (with_reducible repeat (first|apply Kd.R_alloc|apply Kd.R_drewN|apply Kd.R_drew));exact HO190.out))) (below_size (by repeat (first|(with_reducible first|exact HB.out|apply below_alloc|apply pw_below_drewN|apply below_drew1)|exact HB.out))));have n3_:=Aside0.mk (below_step (by repeat (first|(with_reducible first|exact HB.out|apply below_alloc|apply pw_below_drewN|apply below_drew1)|exact HB.out)) hb);clear HO186;clear HO190;clear HB;have HO186:=n0_;have HO190:=n1_;have HO194:=n2_;have HB:=n3_;clear n0_ n1_ n2_ n3_;(try clear hb);(try clear hb2);(try clear hk);(try clear hi);(try clear ho0);obtain ⟨Ao20,co20,eo20⟩:=Kd.R_slice HO186.out;subst eo20)|((with_reducible refine gate_callee (f:=16) rfl ?_);refine goesL_ (some 23) rfl rfl Tryd.func16 (by kernel_rfl) rfl #[.slice Ao20 t183.length co20, .string (⟨#[98]⟩:ByteArray)] rfl (by (try simp only [List.map_toArray,List.map_cons,List.map_nil]);first|done|rfl|(simp only [List.length_drop,List.length_take];rfl)) ?_;(with_reducible refine (tag_Find.calls k _ _ t183 (⟨#[98]⟩:ByteArray) t195 true _ ?side1 ?side2 A4.out).mono ?_);(case side1=>repeat (first|exact (Kd.R_reads' HO186.out).2.2|(with_reducible refine Kd.C_alloc ?_ _)|(with_reducible refine Kd.C_drewN ?_ _)|(with_reducible refine Kd.C_drew ?_)));(case side2=>exact (Kd.R_reads' HO186.out).2.1);rintro e w21 ⟨rfl,hb⟩;refine ⟨_,rfl,?_⟩;have n0_:=Aside0.mk (Kd.R_below (by (with_reducible repeat (first|apply Kd.R_alloc|apply Kd.R_drewN|apply Kd.R_drew));exact HO186.out) hb);have n1_:=Aside0.mk (Kd.R_below (by (with_reducible repeat (first|apply Kd.R_alloc|apply Kd.R_drewN|apply Kd.R_drew));exact HO190.out) hb);have n2_:=Aside0.mk (Kd.R_below (by (with_reducible repeat (first|apply Kd.R_alloc|apply Kd.R_drewN|apply Kd.R_drew));exact HO194.out) hb);have n3_:=Aside0.mk (below_step (by repeat (first|(with_reducible first|exact HB.out|apply below_alloc|apply pw_below_drewN|apply below_drew1)|exact HB.out)) hb);clear HO186;clear HO190;clear HO194;clear HB;have HO186:=n0_;have HO190:=n1_;have HO194:=n2_;have HB:=n3_;clear n0_ n1_ n2_ n3_;(try clear hb);(try clear hb2);(try clear hk);(try clear hi))|(go_at_call 21;(with_reducible refine (tag_Text.calls k _ _ t183 t197 _ ?side1 ?side2 A8.out).mono ?_);(case side1=>repeat (first|exact (Kd.R_reads' HO186.out).2.2|(with_reducible refine Kd.C_alloc ?_ _)|(with_reducible refine Kd.C_drewN ?_ _)|(with_reducible refine Kd.C_drew ?_)));(case side2=>exact (Kd.R_reads' HO186.out).2.1);rintro e w22 ⟨rfl,hb⟩;have n0_:=Aside0.mk (Kd.R_below (by (with_reducible repeat (first|apply Kd.R_alloc|apply Kd.R_drewN|apply Kd.R_drew));exact HO186.out) hb);have n1_:=Aside0.mk (Kd.R_below (by (with_reducible repeat (first|apply Kd.R_alloc|apply Kd.R_drewN|apply Kd.R_drew));exact HO190.out) hb);have n2_:=Aside0.mk (Kd.R_below (by (with_reducible repeat (first|apply Kd.R_alloc|apply Kd.R_drewN|apply Kd.R_drew));exact HO194.out) hb);have n3_:=Aside0.mk (below_step (by repeat (first|(with_reducible first|exact HB.out|apply below_alloc|apply pw_below_drewN|apply below_drew1)|exact HB.out)) hb);clear HO186;clear HO190;clear HO194;clear HB;have HO186:=n0_;have HO190:=n1_;have HO194:=n2_;have HB:=n3_;clear n0_ n1_ n2_ n3_;(try clear hb);(try clear hb2);(try clear hk);(try clear hi))|(go_at_call 19;(with_reducible refine (tag_Right.calls k _ _ t183 true _ ?side1 ?side2 A12.out).mono ?_);(case side1=>repeat (first|exact (Kd.R_reads' HO186.out).2.2|(with_reducible refine Kd.C_alloc ?_ _)|(with_reducible refine Kd.C_drewN ?_ _)|(with_reducible refine Kd.C_drew ?_)));(case side2=>exact (Kd.R_reads' HO186.out).2.1);rintro e w23 ⟨rfl,hb⟩;have n0_:=Aside0.mk (Kd.R_below (by (with_reducible repeat (first|apply Kd.R_alloc|apply Kd.R_drewN|apply Kd.R_drew));exact HO186.out) hb);have n1_:=Aside0.mk (Kd.R_below (by (with_reducible repeat (first|apply Kd.R_alloc|apply Kd.R_drewN|apply Kd.R_drew));exact HO190.out) hb);have n2_:=Aside0.mk (Kd.R_below (by (with_reducible repeat (first|apply Kd.R_alloc|apply Kd.R_drewN|apply Kd.R_drew));exact HO194.out) hb);have n3_:=Aside0.mk (below_step (by repeat (first|(with_reducible first|exact HB.out|apply below_alloc|apply pw_below_drewN|apply below_drew1)|exact HB.out)) hb);clear HO186;clear HO190;clear HO194;clear HB;have HO186:=n0_;have HO190:=n1_;have HO194:=n2_;have HB:=n3_;clear n0_ n1_ n2_ n3_;(try clear hb);(try clear hb2);(try clear hk);(try clear hi))|((with_reducible refine gate_dst (N:=54) rfl ?_);(try (refine gate_guard (by rfl) ?_;dsimp only));refine Kd.R_lit Kd.string _ 9 ?hg (N:=54) ?hd (xs:=([(⟨#[98]⟩:ByteArray),(⟨#[99]⟩:ByteArray)]:List ByteArray)) (inner:=[.string (⟨#[98]⟩:ByteArray), .string (⟨#[99]⟩:ByteArray)]) (ok:=fun _=>True) (okp:=fun _=>True) ?hr ?hp (fun _ hk=>hk) trivial (Below.refl _ _) (Nat.le_refl _) (by simp) ?_;(case hd=>rfl);(case hg=>rfl);(case hr=>first|(go_simp;done)|(go_simp;rfl));(case hp=>exact (Reps.one (show Kd.M Kd.string _ _ _ (⟨#[98]⟩:ByteArray) [.string (⟨#[98]⟩:ByteArray)] from rfl) (Reps.one (show Kd.M Kd.string _ _ _ (⟨#[99]⟩:ByteArray) [.string (⟨#[99]⟩:ByteArray)] from rfl) (Reps.none _ _))));intro v200 w24 ho25 hb hg_ hnew_;clear hg_ hnew_;(first|rw [← Ny199.out] at ho25|(simp only [Int.reduceToNat] at ho25;rw [← Ny199.out] at ho25));have n0_:=Aside0.mk (Kd.R_below (by (with_reducible repeat (first|apply Kd.R_alloc|apply Kd.R_drewN|apply Kd.R_drew));exact HO186.out) hb);have n1_:=Aside0.mk (Kd.R_below (by (with_reducible repeat (first|apply Kd.R_alloc|apply Kd.R_drewN|apply Kd.R_drew));exact HO190.out) hb);have n2_:=Aside0.mk (Kd.R_below (by (with_reducible repeat (first|apply Kd.R_alloc|apply Kd.R_drewN|apply Kd.R_drew));exact HO194.out) hb);have n3_:=Aside0.mk (Kd.R_lower ho25 (below_size (by repeat (first|(with_reducible first|exact HB.out|apply below_alloc|apply pw_below_drewN|apply below_drew1)|exact HB.out))));have n4_:=Aside0.mk (below_step (by repeat (first|(with_reducible first|exact HB.out|apply below_alloc|apply pw_below_drewN|apply below_drew1)|exact HB.out)) hb);clear HO186;clear HO190;clear HO194;clear HB;have HO186:=n0_;have HO190:=n1_;have HO194:=n2_;have HO201:=n3_;have HB:=n4_;clear n0_ n1_ n2_ n3_ n4_;clear hb ho25;obtain ⟨Ao26,co26,eo26⟩:=Kd.R_slice HO201.out;subst eo26)|(go_at_call 23;(with_reducible refine (tag_Only.calls k _ _ t183 _ _ y199 t202 _ ?side1 ?side2 ?side3 ?side4 A14.out).mono ?_);(case side1=>repeat (first|exact (Kd.R_reads' HO186.out).2.2|(with_reducible refine Kd.C_alloc ?_ _)|(with_reducible refine Kd.C_drewN ?_ _)|(with_reducible refine Kd.C_drew ?_)));(case side2=>exact (Kd.R_reads' HO186.out).2.1);(case side3=>repeat (first|exact (Kd.R_reads' HO201.out).2.2|(with_reducible refine Kd.C_alloc ?_ _)|(with_reducible refine Kd.C_drewN ?_ _)|(with_reducible refine Kd.C_drew ?_)));(case side4=>exact (Kd.R_reads' HO201.out).2.1);rintro e w27 ⟨v203,rfl,ho0,hb⟩;have n0_:=Aside0.mk (Kd.R_elder' (by (with_reducible repeat (first|apply Kd.R_alloc|apply Kd.R_drewN|apply Kd.R_drew));exact HO186.out) (Kd.R_base ho0) hb);have n1_:=Aside0.mk (Kd.R_elder' (by (with_reducible repeat (first|apply Kd.R_alloc|apply Kd.R_drewN|apply Kd.R_drew));exact HO190.out) (Kd.R_base ho0) hb);have n2_:=Aside0.mk (Kd.R_elder' (by (with_reducible repeat (first|apply Kd.R_alloc|apply Kd.R_drewN|apply Kd.R_drew));exact HO194.out) (Kd.R_base ho0) hb);have n3_:=Aside0.mk (Kd.R_below (by (with_reducible repeat (first|apply Kd.R_alloc|apply Kd.R_drewN|apply Kd.R_drew));exact HO201.out) hb);have n4_:=Aside0.mk (Kd.R_lower (Kd.R_new' (Kd.R_new' (Kd.R_new' ho0 (Kd.R_lt (by (with_reducible repeat (first|apply Kd.R_alloc|apply Kd.R_drewN|apply Kd.R_drew));exact HO186.out))) (Kd.R_lt (by (with_reducible repeat (first|apply Kd.R_alloc|apply Kd.R_drewN|apply Kd.R_drew));exact HO190.out))) (Kd.R_lt (by (with_reducible repeat (first|apply Kd.R_alloc|apply Kd.R_drewN|apply Kd.R_drew));exact HO194.out))) (below_size (by repeat (first|(with_reducible first|exact HB.out|apply below_alloc|apply pw_below_drewN|apply below_drew1)|exact HB.out))));have n5_:=Aside0.mk (below_step (by repeat (first|(with_reducible first|exact HB.out|apply below_alloc|apply pw_below_drewN|apply below_drew1)|exact HB.out)) hb);clear HO186;clear HO190;clear HO194;clear HO201;clear HB;have HO186:=n0_;have HO190:=n1_;have HO194:=n2_;have HO201:=n3_;have HO204:=n4_;have HB:=n5_;clear n0_ n1_ n2_ n3_ n4_ n5_;(try clear hb);(try clear hb2);(try clear hk);(try clear hi);(try clear ho0);obtain ⟨Ao28,co28,eo28⟩:=Kd.R_slice HO204.out;subst eo28)|((with_reducible refine gate_dst (N:=61) rfl ?_);(try (refine gate_guard (by rfl) ?_;dsimp only));refine Kd.R_lit k52 _ 52 ?hg (N:=61) ?hd (xs:=([(⟨(⟨#[]⟩:ByteArray),(⟨#[]⟩:ByteArray)⟩:S52)]:List (S52))) (inner:=[.string (⟨#[]⟩:ByteArray), .string (⟨#[]⟩:ByteArray)]) (ok:=fun _=>True) (okp:=fun _=>True) ?hr ?hp (fun _ hk=>hk) trivial (Below.refl _ _) (Nat.le_refl _) (by simp) ?_;(case hd=>rfl);(case hg=>rfl);(case hr=>first|(go_simp;done)|(go_simp;rfl));(case hp=>exact (Reps.c2 (show Kd.M k52 _ _ _ (⟨(⟨#[]⟩:ByteArray),(⟨#[]⟩:ByteArray)⟩:S52) [.string (⟨#[]⟩:ByteArray), .string (⟨#[]⟩:ByteArray)] from (k52_mkM _ _ _ (⟨(⟨#[]⟩:ByteArray),(⟨#[]⟩:ByteArray)⟩:S52) )) (Reps.none _ _)));intro v206 w29 ho30 hb hg_ hnew_;clear hg_ hnew_;(first|rw [← Ny205.out] at ho30|(simp only [Int.reduceToNat] at ho30;rw [← Ny205.out] at ho30));have n0_:=Aside0.mk (Kd.R_elder' (by (with_reducible repeat (first|apply Kd.R_alloc|apply Kd.R_drewN|apply Kd.R_drew));exact HO186.out) (Kd.R_base ho30) hb);have n1_:=Aside0.mk (Kd.R_elder' (by (with_reducible repeat (first|apply Kd.R_alloc|apply Kd.R_drewN|apply Kd.R_drew));exact HO190.out) (Kd.R_base ho30) hb);have n2_:=Aside0.mk (Kd.R_elder' (by (with_reducible repeat (first|apply Kd.R_alloc|apply Kd.R_drewN|apply Kd.R_drew));exact HO194.out) (Kd.R_base ho30) hb);have n3_:=Aside0.mk (Kd.R_below (by (with_reducible repeat (first|apply Kd.R_alloc|apply Kd.R_drewN|apply Kd.R_drew));exact HO201.out) hb);have n4_:=Aside0.mk (Kd.R_elder' (by (with_reducible repeat (first|apply Kd.R_alloc|apply Kd.R_drewN|apply Kd.R_drew));exact HO204.out) (Kd.R_base ho30) hb);have n5_:=Aside0.mk (Kd.R_lower (Kd.R_new' (Kd.R_new' (Kd.R_new' (Kd.R_new' ho30 (Kd.R_lt (by (with_reducible repeat (first|apply Kd.R_alloc|apply Kd.R_drewN|apply Kd.R_drew));exact HO186.out))) (Kd.R_lt (by (with_reducible repeat (first|apply Kd.R_alloc|apply Kd.R_drewN|apply Kd.R_drew));exact HO190.out))) (Kd.R_lt (by (with_reducible repeat (first|apply Kd.R_alloc|apply Kd.R_drewN|apply Kd.R_drew));exact HO194.out))) (Kd.R_lt (by (with_reducible repeat (first|apply Kd.R_alloc|apply Kd.R_drewN|apply Kd.R_drew));exact HO204.out))) (below_size (by repeat (first|(with_reducible first|exact HB.out|apply below_alloc|apply pw_below_drewN|apply below_drew1)|exact HB.out))));have n6_:=Aside0.mk (below_step (by repeat (first|(with_reducible first|exact HB.out|apply below_alloc|apply pw_below_drewN|apply below_drew1)|exact HB.out)) hb);clear HO186;clear HO190;clear HO194;clear HO201;clear HO204;clear HB;have HO186:=n0_;have HO190:=n1_;have HO194:=n2_;have HO201:=n3_;have HO204:=n4_;have HO207:=n5_;have HB:=n6_;clear n0_ n1_ n2_ n3_ n4_ n5_ n6_;clear hb ho30;obtain ⟨Ao31,co31,eo31⟩:=Kd.R_slice HO207.out;subst eo31)|(go_at_call 19;(with_reducible refine (tag_Right.calls k _ _ y205 t208 _ ?side1 ?side2 A16.out).mono ?_);(case side1=>repeat (first|exact (Kd.R_reads' HO207.out).2.2|(with_reducible refine Kd.C_alloc ?_ _)|(with_reducible refine Kd.C_drewN ?_ _)|(with_reducible refine Kd.C_drew ?_)));(case side2=>exact (Kd.R_reads' HO207.out).2.1);rintro e w32 ⟨rfl,hb⟩;have n0_:=Aside0.mk (Kd.R_below (by (with_reducible repeat (first|apply Kd.R_alloc|apply Kd.R_drewN|apply Kd.R_drew));exact HO186.out) hb);have n1_:=Aside0.mk (Kd.R_below (by (with_reducible repeat (first|apply Kd.R_alloc|apply Kd.R_drewN|apply Kd.R_drew));exact HO190.out) hb);have n2_:=Aside0.mk (Kd.R_below (by (with_reducible repeat (first|apply Kd.R_alloc|apply Kd.R_drewN|apply Kd.R_drew));exact HO194.out) hb);have n3_:=Aside0.mk (Kd.R_below (by (with_reducible repeat (first|apply Kd.R_alloc|apply Kd.R_drewN|apply Kd.R_drew));exact HO201.out) hb);have n4_:=Aside0.mk (Kd.R_below (by (with_reducible repeat (first|apply Kd.R_alloc|apply Kd.R_drewN|apply Kd.R_drew));exact HO204.out) hb);have n5_:=Aside0.mk (Kd.R_below (by (with_reducible repeat (first|apply Kd.R_alloc|apply Kd.R_drewN|apply Kd.R_drew));exact HO207.out) hb);have n6_:=Aside0.mk (below_step (by repeat (first|(with_reducible first|exact HB.out|apply below_alloc|apply pw_below_drewN|apply below_drew1)|exact HB.out)) hb);clear HO186;clear HO190;clear HO194;clear HO201;clear HO204;clear HO207;clear HB;have HO186:=n0_;have HO190:=n1_;have HO194:=n2_;have HO201:=n3_;have HO204:=n4_;have HO207:=n5_;have HB:=n6_;clear n0_ n1_ n2_ n3_ n4_ n5_ n6_;(try clear hb);(try clear hb2);(try clear hk);(try clear hi)))
         go_ret
         exact ⟨by first|rfl|(simp [errW_none,errW_some]<;>rfl)|(simp [*,errW_none,errW_some]<;>rfl),by repeat (first|(with_reducible first|exact HB.out|apply below_alloc|apply pw_below_drewN|apply below_drew1)|exact HB.out)⟩
        ·rw [if_neg c15] at H
         exact absurd H (by simp)
       ·replace c13:=Bool.eq_false_iff.mpr c13
        subst c13
        have H1:(none)=some r:=by rw [if_neg (show ¬ (false=true) by decide)] at H;exact H
        clear H
        have H:=H1
        clear H1
        exact absurd H (by simp)
      ·rw [if_neg c11] at H
       exact absurd H (by simp)
     ·replace c10:=Bool.eq_false_iff.mpr c10
      subst c10
      have H1:(none)=some r:=by rw [if_neg (show ¬ (false=true) by decide)] at H;exact H
      clear H
      have H:=H1
      clear H1
      exact absurd H (by simp)
    ·rw [if_neg c9] at H
     exact absurd H (by simp)
   ·rw [if_neg c7] at H
    exact absurd H (by simp)
  ·rw [if_neg c6] at H
   exact absurd H (by simp)
 ·rw [if_neg c5] at H
  exact absurd H (by simp)
def ebbtideref03_Great.l0:Nat→List (S52)→Int→Option (Bool)
 | 0,_,_=>none
 | k+1,x0,x3=>if x3<(x0.length:Int) then (if 0≤x3 then (if (((rd_T52 x0 x3).f0).size:Int)>100 then (some true) else (if (((rd_T52 x0 x3).f1).size:Int)>100 then (some true) else (ebbtideref03_Great.l0 k x0 (wrap64 (x3+1))))) else (none)) else (some false)
def ebbtideref03_Great.f (k:Nat) (l0:List (S52)):Option (Bool):=if (l0.length:Int)>20 then (some true) else (ebbtideref03_Great.l0 k l0 0)
theorem ebbtideref03_Great.mono_l:∀ k,(∀ y0 y1,LeO (ebbtideref03_Great.l0 k y0 y1) (ebbtideref03_Great.l0 (k+1) y0 y1))
 | 0=>fun _ _ r h=>by simp [ebbtideref03_Great.l0] at h
 | k+1=>by
  have ih0:=ebbtideref03_Great.mono_l k
  ·intro y0 y1
   unfold ebbtideref03_Great.l0
   repeat' first
   | (with_reducible exact ih0 _ _)
   | (with_reducible exact LeO.refl _)
   | (with_reducible exact LeO.none _)
   | (with_reducible refine LeO.ite ?_ ?_)
   | (with_reducible refine LeO.bind ?_ (fun _=>?_))
   | exact ih0 _ _
   | exact LeO.none _
   | refine LeO.ite ?_ ?_
   | refine LeO.bind ?_ (fun _=>?_)
theorem ebbtideref03_Great.mono:∀ a0 k,LeO (ebbtideref03_Great.f k a0) (ebbtideref03_Great.f (k+1) a0):=by
 intro a0 k
 have ih0:=ebbtideref03_Great.mono_l k
 unfold ebbtideref03_Great.f
 repeat' first
   | (with_reducible exact ih0 _ _)
   | (with_reducible exact LeO.refl _)
   | (with_reducible exact LeO.none _)
   | (with_reducible refine LeO.ite ?_ ?_)
   | (with_reducible refine LeO.bind ?_ (fun _=>?_))
   | exact ih0 _ _
   | exact LeO.none _
   | refine LeO.ite ?_ ?_
   | refine LeO.bind ?_ (fun _=>?_)
set_option maxHeartbeats 8000000 in
set_option maxRecDepth 100000 in
theorem ebbtideref03_Great.calls (k:Nat) (A0:Option Addr) (c0:Nat) (l0:List (S52)) (r:Bool) (w:World) (hr0:Kd.C k52 w A0 l0.length l0) (hc0:l0.length≤c0) (h:ebbtideref03_Great.f k l0=some r) :
  Calls Tryd.prog 13 #[.slice A0 l0.length c0] w fun e w'=>e = .returned (.bool r)∧Drawn0 w w':=by
 have HR0:=Aside0.mk hr0
 have HC0:=Aside0.mk hc0
 clear hr0 hc0
 have H:(if (l0.length:Int)>20 then (some true) else (ebbtideref03_Great.l0 k l0 0))=some r:=h
 clear h
 by_cases c2:(l0.length:Int)>20
 ·rw [if_pos c2] at H
  have c2b0:decide (20<(l0.length:Int))=true:=decide_eq_true c2
  have c2b1:decide (20<l0.length)=true:=decide_eq_true (by omega)
  clear c2
  obtain rfl:=Option.some.inj H
  go_enter Tryd.func13,Tryd.ntmps13
  go_wp2
  go_ret
  exact ⟨by first|rfl|(simp;done)|(simp [*];done),by repeat (first|exact Drawn0.refl _|apply Drawn0.step)⟩
 ·rw [if_neg c2] at H
  have c2b0:decide (20<(l0.length:Int))=false:=decide_eq_false c2
  have c2b1:decide (20<l0.length)=false:=decide_eq_false (by omega)
  clear c2
  have H':=Aside0.mk H
  clear H
  go_enter Tryd.func13,Tryd.ntmps13
  go_wp2
  go_loopg [3] k (fun kq v3 w'=>∃ (x3_1:Int),v3 = .int .i64 x3_1∧Aside0 (ebbtideref03_Great.l0 kq l0 x3_1=some r)∧Aside0 (kq≤k)∧Drawn0 w w')
  case atStart=>exact ⟨(0),(by first|rfl|(simp;done)|(simp [*];done)),H',⟨Nat.le_refl _⟩,by repeat (first|exact Drawn0.refl _|apply Drawn0.step)⟩
  case round =>
   clear H'
   try clear c1
   try clear c2
   try clear c2b0
   try clear c2b1
   try clear p2
   obtain ⟨x3_1,rfl,HA,HK1,⟨m1,rfl⟩⟩:=hrel
   cases gk with
   | zero=>exact absurd HA.out (by simp [ebbtideref03_Great.l0])
   | succ k1 =>
    have H:=HA.out
    clear HA
    simp only [ebbtideref03_Great.l0] at H
    by_cases c3:x3_1<(l0.length:Int)
    ·rw [if_pos c3] at H
     have c3b0:decide (x3_1<(l0.length:Int))=true:=decide_eq_true c3
     clear c3
     by_cases c4:0≤x3_1
     ·rw [if_pos c4] at H
      have c4b0:decide (0≤x3_1)=true:=decide_eq_true c4
      clear c4
      by_cases c5:(((rd_T52 l0 x3_1).f0).size:Int)>100
      ·rw [if_pos c5] at H
       have c5b0:decide (100<(((rd_T52 l0 x3_1).f0).size:Int))=true:=decide_eq_true c5
       have c5b1:decide (100<((rd_T52 l0 x3_1).f0).size)=true:=decide_eq_true (by omega)
       clear c5
       obtain rfl:=Option.some.inj H
       have p209:0≤(x3_1:Int):=of_decide_eq_true (by first|(with_reducible assumption)|assumption)
       have q209:x3_1<(l0.length:Int):=of_decide_eq_true (by first|(with_reducible assumption)|assumption)
       obtain ⟨ad209,e209,hx209_0,hx209_1⟩:=at_T52 HR0.out x3_1 p209 q209
       cases e209
       replace p209:=eq_true p209
       replace q209:=eq_true q209
       go_wp2
       go_ret
       exact ⟨by first|rfl|(simp;done)|(simp [*];done),by repeat (first|exact Drawn0.refl _|apply Drawn0.step)⟩
      ·rw [if_neg c5] at H
       have c5b0:decide (100<(((rd_T52 l0 x3_1).f0).size:Int))=false:=decide_eq_false c5
       have c5b1:decide (100<((rd_T52 l0 x3_1).f0).size)=false:=decide_eq_false (by omega)
       clear c5
       by_cases c6:(((rd_T52 l0 x3_1).f1).size:Int)>100
       ·rw [if_pos c6] at H
        have c6b0:decide (100<(((rd_T52 l0 x3_1).f1).size:Int))=true:=decide_eq_true c6
        have c6b1:decide (100<((rd_T52 l0 x3_1).f1).size)=true:=decide_eq_true (by omega)
        clear c6
        obtain rfl:=Option.some.inj H
        have p209:0≤(x3_1:Int):=of_decide_eq_true (by first|(with_reducible assumption)|assumption)
        have q209:x3_1<(l0.length:Int):=of_decide_eq_true (by first|(with_reducible assumption)|assumption)
        obtain ⟨ad209,e209,hx209_0,hx209_1⟩:=at_T52 HR0.out x3_1 p209 q209
        cases e209
        replace p209:=eq_true p209
        replace q209:=eq_true q209
        have p210:0≤(x3_1:Int):=of_decide_eq_true (by first|(with_reducible assumption)|assumption)
        have q210:x3_1<(l0.length:Int):=of_decide_eq_true (by first|(with_reducible assumption)|assumption)
        obtain ⟨ad210,e210,hx210_0,hx210_1⟩:=at_T52 HR0.out x3_1 p210 q210
        obtain rfl:ad209=ad210:=(by injection e210)
        replace p210:=eq_true p210
        replace q210:=eq_true q210
        go_wp2
        go_ret
        exact ⟨by first|rfl|(simp;done)|(simp [*];done),by repeat (first|exact Drawn0.refl _|apply Drawn0.step)⟩
       ·rw [if_neg c6] at H
        have c6b0:decide (100<(((rd_T52 l0 x3_1).f1).size:Int))=false:=decide_eq_false c6
        have c6b1:decide (100<((rd_T52 l0 x3_1).f1).size)=false:=decide_eq_false (by omega)
        clear c6
        have H':=Aside0.mk H
        clear H
        have p209:0≤(x3_1:Int):=of_decide_eq_true (by first|(with_reducible assumption)|assumption)
        have q209:x3_1<(l0.length:Int):=of_decide_eq_true (by first|(with_reducible assumption)|assumption)
        obtain ⟨ad209,e209,hx209_0,hx209_1⟩:=at_T52 HR0.out x3_1 p209 q209
        cases e209
        replace p209:=eq_true p209
        replace q209:=eq_true q209
        have p210:0≤(x3_1:Int):=of_decide_eq_true (by first|(with_reducible assumption)|assumption)
        have q210:x3_1<(l0.length:Int):=of_decide_eq_true (by first|(with_reducible assumption)|assumption)
        obtain ⟨ad210,e210,hx210_0,hx210_1⟩:=at_T52 HR0.out x3_1 p210 q210
        obtain rfl:ad209=ad210:=(by injection e210)
        replace p210:=eq_true p210
        replace q210:=eq_true q210
        go_wp2
        go_roundg k1
        case measure=>have:=HK1.out;omega
        case rel=>exact ⟨(wrap64 (x3_1+1)),(by first|rfl|(simp;done)|(simp [*];done)),H',⟨by have:=HK1.out;omega⟩,by repeat (first|exact Drawn0.refl _|apply Drawn0.step)⟩
     ·rw [if_neg c4] at H
      exact absurd H (by simp)
    ·rw [if_neg c3] at H
     have c3b0:decide (x3_1<(l0.length:Int))=false:=decide_eq_false c3
     clear c3
     obtain rfl:=Option.some.inj H
     go_wp2
     go_ret
     exact ⟨by first|rfl|(simp;done)|(simp [*];done),by repeat (first|exact Drawn0.refl _|apply Drawn0.step)⟩
def ebbtideref02_small.f (a0:Int):Option (Bool):=if a0≥97 then (some (decide (a0≤122))) else (some false)
set_option maxHeartbeats 8000000 in
set_option maxRecDepth 100000 in
theorem ebbtideref02_small.calls (a0:Int) (r:Bool) (w:World) (h:ebbtideref02_small.f a0=some r) :
  Calls Tryd.prog 68 #[.int .u8 a0] w fun e w'=>e = .returned (.bool r)∧Drawn0 w w':=by
 have H:(if a0≥97 then (some (decide (a0≤122))) else (some false))=some r:=h
 clear h
 by_cases c2:a0≥97
 ·rw [if_pos c2] at H
  have c2b0:decide (97≤a0)=true:=decide_eq_true c2
  clear c2
  obtain rfl:=Option.some.inj H
  go_enter Tryd.func68,Tryd.ntmps68
  go_wp2
  go_ret
  exact ⟨by first|rfl|(simp;done)|(simp [*];done),by repeat (first|exact Drawn0.refl _|apply Drawn0.step)⟩
 ·rw [if_neg c2] at H
  have c2b0:decide (97≤a0)=false:=decide_eq_false c2
  clear c2
  obtain rfl:=Option.some.inj H
  go_enter Tryd.func68,Tryd.ntmps68
  go_wp2
  go_ret
  exact ⟨by first|rfl|(simp;done)|(simp [*];done),by repeat (first|exact Drawn0.refl _|apply Drawn0.step)⟩
def ebbtideref02_digit.f (a0:Int):Option (Bool):=if a0≥48 then (some (decide (a0≤57))) else (some false)
set_option maxHeartbeats 8000000 in
set_option maxRecDepth 100000 in
theorem ebbtideref02_digit.calls (a0:Int) (r:Bool) (w:World) (h:ebbtideref02_digit.f a0=some r) :
  Calls Tryd.prog 69 #[.int .u8 a0] w fun e w'=>e = .returned (.bool r)∧Drawn0 w w':=by
 have H:(if a0≥48 then (some (decide (a0≤57))) else (some false))=some r:=h
 clear h
 by_cases c2:a0≥48
 ·rw [if_pos c2] at H
  have c2b0:decide (48≤a0)=true:=decide_eq_true c2
  clear c2
  obtain rfl:=Option.some.inj H
  go_enter Tryd.func69,Tryd.ntmps69
  go_wp2
  go_ret
  exact ⟨by first|rfl|(simp;done)|(simp [*];done),by repeat (first|exact Drawn0.refl _|apply Drawn0.step)⟩
 ·rw [if_neg c2] at H
  have c2b0:decide (48≤a0)=false:=decide_eq_false c2
  clear c2
  obtain rfl:=Option.some.inj H
  go_enter Tryd.func69,Tryd.ntmps69
  go_wp2
  go_ret
  exact ⟨by first|rfl|(simp;done)|(simp [*];done),by repeat (first|exact Drawn0.refl _|apply Drawn0.step)⟩
end Go.Proofs.YtbefmicenjdfkaaDoor.PTk
