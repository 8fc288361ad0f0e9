import Derived.Test.YtbefmicenjdfkaaDoorZaPTkx0
import Derived.Test.YtbefmicenjdfkaaDoorZaPTkx5
import Derived.Test.YtbefmicenjdfkaaDoorZaPTkx11
import Derived.Test.YtbefmicenjdfkaaDoorZaPTkx13
namespace Go.Proofs.YtbefmicenjdfkaaDoor.PTk
open Go.RowKit Go.Proofs.YtbefmicenjdfkaaDoorW.PrintWords Go.Proofs.YtbefmicenjdfkaaDoorW.PrintLast Go.Proofs.YtbefmicenjdfkaaDoorW.PrintMore
attribute [local go_sem] max2_int min2_int max_two min_two max_three min_three max_four min_four
set_option linter.unusedVariables false
set_option linter.unusedSimpArgs false
mutual
def ebbtideref04_Cut.j1:Nat→ByteArray→Int→Option (ByteArray×ByteArray×Bool)
 | 0,_,_=>none
 | k+1,x0,x5=>if x5=(x0.size:Int) then (some (x0,(⟨#[]⟩:ByteArray),true)) else (if 0≤(wrap64 ((x0.size:Int) - 1)) then (if (wrap64 ((x0.size:Int) - 1))<(x0.size:Int) then (if (bt x0 (wrap64 ((x0.size:Int) - 1)))=125 then (if (wrap64 (x5+1))=(wrap64 ((x0.size:Int) - 1)) then (some ((⟨#[]⟩:ByteArray),(⟨#[]⟩:ByteArray),false)) else (if 0≤x5 then (if x5≤(x0.size:Int) then (if 0≤(wrap64 (x5+1)) then (if (wrap64 (x5+1))≤(wrap64 ((x0.size:Int) - 1)) then (if (wrap64 ((x0.size:Int) - 1))≤(x0.size:Int) then (some (x0.extract 0 (x5:Int).toNat,x0.extract ((wrap64 (x5+1)):Int).toNat ((wrap64 ((x0.size:Int) - 1)):Int).toNat,true)) else (none)) else (none)) else (none)) else (none)) else (none))) else (some ((⟨#[]⟩:ByteArray),(⟨#[]⟩:ByteArray),false))) else (none)) else (none))
def ebbtideref04_Cut.l0:Nat→ByteArray→Int→Option (ByteArray×ByteArray×Bool)
 | 0,_,_=>none
 | k+1,x0,x5=>if x5<(x0.size:Int) then (if 0≤x5 then (if (bt x0 x5)=123 then (ebbtideref04_Cut.j1 k x0 x5) else (ebbtideref04_Cut.l0 k x0 (wrap64 (x5+1)))) else (none)) else (ebbtideref04_Cut.j1 k x0 x5)
end
def ebbtideref04_Cut.f (k:Nat) (a0:ByteArray):Option (ByteArray×ByteArray×Bool):=ebbtideref04_Cut.l0 k a0 0
theorem ebbtideref04_Cut.mono_l:∀ k,(∀ y0 y1,LeO (ebbtideref04_Cut.j1 k y0 y1) (ebbtideref04_Cut.j1 (k+1) y0 y1))∧(∀ y0 y1,LeO (ebbtideref04_Cut.l0 k y0 y1) (ebbtideref04_Cut.l0 (k+1) y0 y1))
 | 0=>⟨fun _ _ r h=>by simp [ebbtideref04_Cut.j1] at h,fun _ _ r h=>by simp [ebbtideref04_Cut.l0] at h⟩
 | k+1=>by
  obtain ⟨ih0,ih1⟩:=ebbtideref04_Cut.mono_l k
  refine ⟨?_,?_⟩
  ·intro y0 y1
   unfold ebbtideref04_Cut.j1
   repeat' first
   | (with_reducible exact ih0 _ _)
   | (with_reducible exact ih1 _ _)
   | (with_reducible exact LeO.refl _)
   | (with_reducible exact LeO.none _)
   | (with_reducible refine LeO.ite ?_ ?_)
   | (with_reducible refine LeO.bind ?_ (fun _=>?_))
   | exact ih0 _ _
   | exact ih1 _ _
   | exact LeO.none _
   | refine LeO.ite ?_ ?_
   | refine LeO.bind ?_ (fun _=>?_)
  ·intro y0 y1
   unfold ebbtideref04_Cut.l0
   repeat' first
   | (with_reducible exact ih0 _ _)
   | (with_reducible exact ih1 _ _)
   | (with_reducible exact LeO.refl _)
   | (with_reducible exact LeO.none _)
   | (with_reducible refine LeO.ite ?_ ?_)
   | (with_reducible refine LeO.bind ?_ (fun _=>?_))
   | exact ih0 _ _
   | exact ih1 _ _
   | exact LeO.none _
   | refine LeO.ite ?_ ?_
   | refine LeO.bind ?_ (fun _=>?_)
theorem ebbtideref04_Cut.mono:∀ a0 k,LeO (ebbtideref04_Cut.f k a0) (ebbtideref04_Cut.f (k+1) a0):=by
 intro a0 k
 obtain ⟨ih0,ih1⟩:=ebbtideref04_Cut.mono_l k
 unfold ebbtideref04_Cut.f
 repeat' first
   | (with_reducible exact ih0 _ _)
   | (with_reducible exact ih1 _ _)
   | (with_reducible exact LeO.refl _)
   | (with_reducible exact LeO.none _)
   | (with_reducible refine LeO.ite ?_ ?_)
   | (with_reducible refine LeO.bind ?_ (fun _=>?_))
   | exact ih0 _ _
   | exact ih1 _ _
   | exact LeO.none _
   | refine LeO.ite ?_ ?_
   | refine LeO.bind ?_ (fun _=>?_)
set_option maxHeartbeats 8000000 in
set_option maxRecDepth 100000 in
theorem ebbtideref04_Cut.calls (k:Nat) (a0:ByteArray) (r1:ByteArray) (r2:ByteArray) (r3:Bool) (w:World) (h:ebbtideref04_Cut.f k a0=some (r1,r2,r3)) :
  Calls Tryd.prog 56 #[.string a0] w fun e w'=>e = .returned (.tuple #[.string r1, .string r2, .bool r3])∧Drawn0 w w':=by
 have H:(ebbtideref04_Cut.l0 k a0 0)=some (r1,r2,r3):=h
 clear h
 have HC2:=Aside0.mk H
 clear H
 go_enter Tryd.func56,Tryd.ntmps56
 go_upto_block 0 with (fail)
 repeat (go_quiet (fail);go_upto_block 0 with (fail))
 go_cut [5] (fun v5 wc=>∃ (kq:Nat) (x5_1:Int),v5 = .int .i64 x5_1∧Aside0 (ebbtideref04_Cut.j1 kq a0 x5_1=some (r1,r2,r3))∧Aside0 (kq≤k)∧Drawn0 w wc)
 case first =>
  have H:=HC2.out
  clear HC2
  have H':=Aside0.mk H
  clear H
  go_wp2
  repeat (go_quiet (fail);try go_wp2)
  go_loopg [5] k (fun kq v5 w'=>∃ (x5_1:Int),v5 = .int .i64 x5_1∧Aside0 (ebbtideref04_Cut.l0 kq a0 x5_1=some (r1,r2,r3))∧Aside0 (kq≤k)∧Drawn0 w w')
  case atStart=>exact ⟨(0),(by first|rfl|(simp;done)|(simp [*];done)),H',⟨Nat.le_refl _⟩,by repeat (first|exact Drawn0.refl _|apply Drawn0.step)⟩
  case round =>
   clear H'
   try clear p2
   obtain ⟨x5_1,rfl,HA,HK1,⟨m1,rfl⟩⟩:=hrel
   cases gk with
   | zero=>exact absurd HA.out (by simp [ebbtideref04_Cut.l0])
   | succ k1 =>
    have H:=HA.out
    clear HA
    simp only [ebbtideref04_Cut.l0] at H
    by_cases c3:x5_1<(a0.size:Int)
    ·rw [if_pos c3] at H
     have c3b0:decide (x5_1<(a0.size:Int))=true:=decide_eq_true c3
     clear c3
     (first|rw [c3b0]|(simp only [i64_w,i32_w];rw [c3b0])|skip)
     by_cases c4:0≤x5_1
     ·rw [if_pos c4] at H
      have c4b0:decide (0≤x5_1)=true:=decide_eq_true c4
      clear c4
      by_cases c6:(bt a0 x5_1)=123
      ·rw [if_pos c6] at H
       have c6b0:((bt a0 x5_1) ==123)=true:=beq_iff_eq.mpr c6
       have c6b1:((bt a0 x5_1) != 123)=false:=bne_eq_false_iff_eq.mpr c6
       clear c6
       have H':=Aside0.mk H
       clear H
       have p5:0≤(x5_1:Int):=of_decide_eq_true (by first|(with_reducible assumption)|assumption)
       have q5:x5_1<(a0.size:Int):=of_decide_eq_true (by first|(with_reducible assumption)|assumption)
       have hx5:=bt_at a0 x5_1
       replace p5:=eq_true p5
       replace q5:=eq_true q5
       go_wp2
       repeat (go_quiet (fail);try go_wp2)
       go_meet
       case rel=>exact ⟨_,(x5_1),(by first|rfl|(simp;done)|(simp [*];done)),H',⟨by have:=HK1.out;first|omega|exact Nat.le_refl _⟩,by repeat (first|exact Drawn0.refl _|apply Drawn0.step)⟩
      ·rw [if_neg c6] at H
       have c6b0:((bt a0 x5_1) ==123)=false:=beq_eq_false_iff_ne.mpr c6
       have c6b1:((bt a0 x5_1) != 123)=true:=bne_iff_ne.mpr c6
       have H':=Aside0.mk H
       clear H
       have p5:0≤(x5_1:Int):=of_decide_eq_true (by first|(with_reducible assumption)|assumption)
       have q5:x5_1<(a0.size:Int):=of_decide_eq_true (by first|(with_reducible assumption)|assumption)
       have hx5:=bt_at a0 x5_1
       replace p5:=eq_true p5
       replace q5:=eq_true q5
       go_wp2
       repeat (go_quiet (fail);try go_wp2)
       go_roundg k1
       case measure=>have:=HK1.out;omega
       case rel=>exact ⟨(wrap64 (x5_1+1)),(by first|rfl|(simp;done)|(simp [*];done)),H',⟨by have:=HK1.out;omega⟩,by repeat (first|exact Drawn0.refl _|apply Drawn0.step)⟩
     ·rw [if_neg c4] at H
      exact absurd H (by simp)
    ·rw [if_neg c3] at H
     have c3b0:decide (x5_1<(a0.size:Int))=false:=decide_eq_false c3
     clear c3
     (first|rw [c3b0]|(simp only [i64_w,i32_w];rw [c3b0])|skip)
     have H':=Aside0.mk H
     clear H
     go_wp2
     repeat (go_quiet (fail);try go_wp2)
     go_meet
     case rel=>exact ⟨_,(x5_1),(by first|rfl|(simp;done)|(simp [*];done)),H',⟨by have:=HK1.out;first|omega|exact Nat.le_refl _⟩,by repeat (first|exact Drawn0.refl _|apply Drawn0.step)⟩
 case rest =>
  clear HC2
  try clear p2
  try clear c3
  try clear c3b0
  try clear c4
  try clear c4b0
  try clear c5
  try clear p5
  try clear q5
  try clear hx5
  try clear c6
  try clear c6b0
  try clear c6b1
  try clear p6
  try clear p2
  try clear p5
  try clear q5
  obtain ⟨kq,x5_1,rfl,HA,HJ1,⟨mc1,rfl⟩⟩:=hcut
  cases kq with
  | zero=>exact absurd HA.out (by simp [ebbtideref04_Cut.j1])
  | succ kj1 =>
   have H:=HA.out
   clear HA
   simp only [ebbtideref04_Cut.j1] at H
   by_cases c7:x5_1=(a0.size:Int)
   ·rw [if_pos c7] at H
    have c7b0:(x5_1 ==(a0.size:Int))=true:=beq_iff_eq.mpr c7
    have c7b1:(x5_1 != (a0.size:Int))=false:=bne_eq_false_iff_eq.mpr c7
    clear c7
    simp only [Option.some.injEq,Prod.mk.injEq] at H
    obtain ⟨rfl,rfl,rfl⟩:=H
    go_wp2
    repeat (go_quiet (fail);try go_wp2)
    go_ret3
    exact ⟨by first|rfl|(simp;done)|(simp [*];done),by repeat (first|exact Drawn0.refl _|apply Drawn0.step)⟩
   ·rw [if_neg c7] at H
    have c7b0:(x5_1 ==(a0.size:Int))=false:=beq_eq_false_iff_ne.mpr c7
    have c7b1:(x5_1 != (a0.size:Int))=true:=bne_iff_ne.mpr c7
    obtain ⟨ji8,hji8⟩:∃ j_:Int,(wrap64 ((a0.size:Int) - 1))=j_:=⟨_,rfl⟩
    replace H:(if 0≤(ji8) then (if (ji8)<(a0.size:Int) then (if (bt a0 (ji8))=125 then (if (wrap64 (x5_1+1))=(ji8) then (some ((⟨#[]⟩:ByteArray),(⟨#[]⟩:ByteArray),false)) else (if 0≤x5_1 then (if x5_1≤(a0.size:Int) then (if 0≤(wrap64 (x5_1+1)) then (if (wrap64 (x5_1+1))≤(ji8) then (if (ji8)≤(a0.size:Int) then (some (a0.extract 0 (x5_1:Int).toNat,a0.extract ((wrap64 (x5_1+1)):Int).toNat ((ji8):Int).toNat,true)) else (none)) else (none)) else (none)) else (none)) else (none))) else (some ((⟨#[]⟩:ByteArray),(⟨#[]⟩:ByteArray),false))) else (none)) else (none))=some (r1,r2,r3):=by first|(rw [hji8] at H;exact H)|(simp only [hji8] at H ⊢;exact H)
    have hji8w:(IntKind.i64.wrap ((a0.size:Int) - 1))=ji8:=(i64_w _).trans hji8
    by_cases c9:0≤(ji8)
    ·rw [if_pos c9] at H
     have c9b0:decide (0≤(ji8))=true:=decide_eq_true c9
     clear c9
     by_cases c10:(ji8)<(a0.size:Int)
     ·rw [if_pos c10] at H
      have c10b0:decide ((ji8)<(a0.size:Int))=true:=decide_eq_true c10
      clear c10
      by_cases c12:(bt a0 (ji8))=125
      ·rw [if_pos c12] at H
       have c12b0:((bt a0 (ji8)) ==125)=true:=beq_iff_eq.mpr c12
       have c12b1:((bt a0 (ji8)) != 125)=false:=bne_eq_false_iff_eq.mpr c12
       clear c12
       by_cases c13:(wrap64 (x5_1+1))=(ji8)
       ·rw [if_pos c13] at H
        have c13b0:((wrap64 (x5_1+1)) ==(ji8))=true:=beq_iff_eq.mpr c13
        have c13b1:((wrap64 (x5_1+1)) != (ji8))=false:=bne_eq_false_iff_eq.mpr c13
        clear c13
        simp only [Option.some.injEq,Prod.mk.injEq] at H
        obtain ⟨rfl,rfl,rfl⟩:=H
        have p11:0≤((ji8):Int):=of_decide_eq_true (by first|(with_reducible assumption)|assumption)
        have q11:(ji8)<(a0.size:Int):=of_decide_eq_true (by first|(with_reducible assumption)|assumption)
        have hx11:=bt_at a0 (ji8)
        replace p11:=eq_true p11
        replace q11:=eq_true q11
        go_wp2
        repeat (go_quiet (fail);try go_wp2)
        go_ret3
        exact ⟨by first|rfl|(simp;done)|(simp only [← hji8]<;>(first|rfl|simp))|(simp [*];done),by repeat (first|exact Drawn0.refl _|apply Drawn0.step)⟩
       ·rw [if_neg c13] at H
        have c13b0:((wrap64 (x5_1+1)) ==(ji8))=false:=beq_eq_false_iff_ne.mpr c13
        have c13b1:((wrap64 (x5_1+1)) != (ji8))=true:=bne_iff_ne.mpr c13
        by_cases c14:0≤x5_1
        ·rw [if_pos c14] at H
         have c14b0:=eq_true c14
         have c14b1:decide (0≤x5_1)=true:=decide_eq_true c14
         clear c14
         by_cases c15:x5_1≤(a0.size:Int)
         ·rw [if_pos c15] at H
          have c15b0:=eq_true c15
          have c15b1:decide (x5_1≤(a0.size:Int))=true:=decide_eq_true c15
          clear c15
          obtain ⟨ji16,hji16⟩:∃ j_:Int,(wrap64 (x5_1+1))=j_:=⟨_,rfl⟩
          replace H:(if 0≤(ji16) then (if (ji16)≤(ji8) then (if (ji8)≤(a0.size:Int) then (some (a0.extract 0 (x5_1:Int).toNat,a0.extract ((ji16):Int).toNat ((ji8):Int).toNat,true)) else (none)) else (none)) else (none))=some (r1,r2,r3):=by first|(rw [hji16] at H;exact H)|(simp only [hji16] at H ⊢;exact H)
          (try rw [hji16] at c13b0)
          (try rw [hji16] at c13b1)
          have hji16w:(IntKind.i64.wrap (x5_1+1))=ji16:=(i64_w _).trans hji16
          by_cases c17:0≤(ji16)
          ·rw [if_pos c17] at H
           have c17b0:=eq_true c17
           have c17b1:decide (0≤(ji16))=true:=decide_eq_true c17
           clear c17
           by_cases c18:(ji16)≤(ji8)
           ·rw [if_pos c18] at H
            have c18b0:=eq_true c18
            have c18b1:decide ((ji16)≤(ji8))=true:=decide_eq_true c18
            clear c18
            by_cases c19:(ji8)≤(a0.size:Int)
            ·rw [if_pos c19] at H
             have c19b0:=eq_true c19
             have c19b1:decide ((ji8)≤(a0.size:Int))=true:=decide_eq_true c19
             clear c19
             simp only [Option.some.injEq,Prod.mk.injEq] at H
             obtain ⟨rfl,rfl,rfl⟩:=H
             have p11:0≤((ji8):Int):=of_decide_eq_true (by first|(with_reducible assumption)|assumption)
             have q11:(ji8)<(a0.size:Int):=of_decide_eq_true (by first|(with_reducible assumption)|assumption)
             have hx11:=bt_at a0 (ji8)
             replace p11:=eq_true p11
             replace q11:=eq_true q11
             go_wp2
             repeat (go_quiet (fail);try go_wp2)
             go_ret3
             exact ⟨by first|rfl|(simp;done)|(simp only [← hji8,← hji16]<;>(first|rfl|simp))|(simp [*];done),by repeat (first|exact Drawn0.refl _|apply Drawn0.step)⟩
            ·rw [if_neg c19] at H
             exact absurd H (by simp)
           ·rw [if_neg c18] at H
            exact absurd H (by simp)
          ·rw [if_neg c17] at H
           exact absurd H (by simp)
         ·rw [if_neg c15] at H
          exact absurd H (by simp)
        ·rw [if_neg c14] at H
         exact absurd H (by simp)
      ·rw [if_neg c12] at H
       have c12b0:((bt a0 (ji8)) ==125)=false:=beq_eq_false_iff_ne.mpr c12
       have c12b1:((bt a0 (ji8)) != 125)=true:=bne_iff_ne.mpr c12
       simp only [Option.some.injEq,Prod.mk.injEq] at H
       obtain ⟨rfl,rfl,rfl⟩:=H
       have p11:0≤((ji8):Int):=of_decide_eq_true (by first|(with_reducible assumption)|assumption)
       have q11:(ji8)<(a0.size:Int):=of_decide_eq_true (by first|(with_reducible assumption)|assumption)
       have hx11:=bt_at a0 (ji8)
       replace p11:=eq_true p11
       replace q11:=eq_true q11
       go_wp2
       repeat (go_quiet (fail);try go_wp2)
       go_ret3
       exact ⟨by first|rfl|(simp;done)|(simp only [← hji8]<;>(first|rfl|simp))|(simp [*];done),by repeat (first|exact Drawn0.refl _|apply Drawn0.step)⟩
     ·rw [if_neg c10] at H
      exact absurd H (by simp)
    ·rw [if_neg c9] at H
     exact absurd H (by simp)
def ebbtideref04_Parse.j0:Nat→ByteArray→ByteArray→Bool→Option (ByteArray×(List (S52))×Int)
 | 0,_,_,_=>none
 | k+1,x4,x5,x21=>if x21=true then (some ((⟨#[]⟩:ByteArray),([]:List (S52)),2)) else ((ebbtideref03_Parse.f k x5).bind fun bt524=>(if bt524.2=0 then (some (x4,bt524.1,0)) else (some ((⟨#[]⟩:ByteArray),([]:List (S52)),bt524.2))))
def ebbtideref04_Parse.f (k:Nat) (a0:ByteArray):Option (ByteArray×(List (S52))×Int):=(ebbtideref04_Cut.f k a0).bind fun bt520=>(if bt520.2.2=true then ((ebbtideref02_Name.f k bt520.1).bind fun t523=>(ebbtideref04_Parse.j0 k bt520.1 bt520.2.1 (!t523))) else (ebbtideref04_Parse.j0 k bt520.1 bt520.2.1 true))
theorem ebbtideref04_Parse.mono_l:∀ k,(∀ y0 y1 y2,LeO (ebbtideref04_Parse.j0 k y0 y1 y2) (ebbtideref04_Parse.j0 (k+1) y0 y1 y2))
 | 0=>fun _ _ _ r h=>by simp [ebbtideref04_Parse.j0] at h
 | k+1=>by
  have ih0:=ebbtideref04_Parse.mono_l k
  ·intro y0 y1 y2
   unfold ebbtideref04_Parse.j0
   repeat' first
   | (with_reducible exact ih0 _ _ _)
   | (with_reducible exact ebbtideref02_Name.mono _ _)
   | (with_reducible exact ebbtideref03_Parse.mono _ _)
   | (with_reducible exact ebbtideref04_Cut.mono _ _)
   | (with_reducible exact LeO.refl _)
   | (with_reducible exact LeO.none _)
   | (with_reducible refine LeO.ite ?_ ?_)
   | (with_reducible refine LeO.bind ?_ (fun _=>?_))
   | exact ih0 _ _ _
   | exact ebbtideref02_Name.mono _ _
   | exact ebbtideref03_Parse.mono _ _
   | exact ebbtideref04_Cut.mono _ _
   | exact LeO.none _
   | refine LeO.ite ?_ ?_
   | refine LeO.bind ?_ (fun _=>?_)
theorem ebbtideref04_Parse.mono:∀ a0 k,LeO (ebbtideref04_Parse.f k a0) (ebbtideref04_Parse.f (k+1) a0):=by
 intro a0 k
 have ih0:=ebbtideref04_Parse.mono_l k
 unfold ebbtideref04_Parse.f
 repeat' first
   | (with_reducible exact ih0 _ _ _)
   | (with_reducible exact ebbtideref02_Name.mono _ _)
   | (with_reducible exact ebbtideref03_Parse.mono _ _)
   | (with_reducible exact ebbtideref04_Cut.mono _ _)
   | (with_reducible exact LeO.refl _)
   | (with_reducible exact LeO.none _)
   | (with_reducible refine LeO.ite ?_ ?_)
   | (with_reducible refine LeO.bind ?_ (fun _=>?_))
   | exact ih0 _ _ _
   | exact ebbtideref02_Name.mono _ _
   | exact ebbtideref03_Parse.mono _ _
   | exact ebbtideref04_Cut.mono _ _
   | exact LeO.none _
   | refine LeO.ite ?_ ?_
   | refine LeO.bind ?_ (fun _=>?_)
set_option maxHeartbeats 8000000 in
set_option maxRecDepth 100000 in
theorem ebbtideref04_Parse.calls (k:Nat) (a0:ByteArray) (r1:ByteArray) (r2:List (S52)) (r3:Int) (w:World) (h:ebbtideref04_Parse.f k a0=some (r1,r2,r3)) :
  Calls Tryd.prog 37 #[.string a0] w fun e w'=>∃ v1_:Value,e = .returned (.tuple #[.agg #[.string r1,v1_], .int .i64 r3])∧Kd.R k52 52 w' w.heap.size (fun _=>True) v1_ r2∧Below w.heap.size w w':=by
 have hu41:=Tryd.underlying41
 have HB:=Aside0.mk (Below.refl w.heap.size w)
 have H:((ebbtideref04_Cut.f k a0).bind fun bt520=>(if bt520.2.2=true then ((ebbtideref02_Name.f k bt520.1).bind fun t523=>(ebbtideref04_Parse.j0 k bt520.1 bt520.2.1 (!t523))) else (ebbtideref04_Parse.j0 k bt520.1 bt520.2.1 true)))=some (r1,r2,r3):=h
 clear h
 replace H:=Option.bind_eq_some_iff.mp H
 obtain ⟨⟨t520,t521,t522⟩,A20,H⟩:=H
 replace H:(if t522=true then ((ebbtideref02_Name.f k t520).bind fun t523=>(ebbtideref04_Parse.j0 k t520 t521 (!t523))) else (ebbtideref04_Parse.j0 k t520 t521 true))=some (r1,r2,r3):=H
 have A2:=Aside0.mk A20
 clear A20
 have HC3:=Aside0.mk H
 clear H
 go_enter Tryd.func37,Tryd.ntmps37
 go_upto_region 2 with (first|((with_reducible refine gate_dst (N:=2) rfl ?_);refine box_event ?hg (N:=2) ?hd (cs:=#[.string (⟨#[]⟩:ByteArray), .slice none 0 0]) (t:=41) ?hr ?_;(case hd=>rfl);(case hg=>rfl);(case hr=>first|(go_simp;done)|(go_simp;rfl));intro gb519 hg w4 hbox hb;have n0_:=Aside0.mk (below_step (by repeat (first|(with_reducible first|exact HB.out|apply below_alloc|apply pw_below_drewN|apply below_drew1)|exact HB.out)) hb);have n1_:=Aside0.mk (hbox);have n2_:=Aside0.mk ((by rw [hg];exact (below_size (by repeat (first|(with_reducible first|exact HB.out|apply below_alloc|apply pw_below_drewN|apply below_drew1)|exact HB.out))):w.heap.size≤gb519));have n3_:=Aside0.mk ((by rw [hg];exact (below_size (by repeat (first|(with_reducible first|exact HB.out|apply below_alloc|apply pw_below_drewN|apply below_drew1)|exact HB.out))):w.heap.size≤gb519));clear HB;have HB:=n0_;have BK519:=n1_;have GW519:=n2_;have GE519:=n3_;clear n0_ n1_ n2_ n3_;clear hb hbox hg)|((with_reducible refine gate_callee (f:=56) rfl ?_);refine goesL_ (some 11) rfl rfl Tryd.func56 (by kernel_rfl) rfl #[.string a0] rfl (by (try simp only [List.map_toArray,List.map_cons,List.map_nil]);first|done|rfl|(simp only [List.length_drop,List.length_take];rfl)) ?_;(with_reducible refine (ebbtideref04_Cut.calls k a0 t520 t521 t522 _ A2.out).mono ?_);rintro e w' ⟨rfl,⟨nd,rfl⟩⟩;refine ⟨_,rfl,?_⟩))
 (try simp only [Act.put,List.setIfInBounds_toArray,List.set_cons_zero,List.set_cons_succ])
 go_cut [21] (fun v21 wc=>∃ (kq:Nat) (x21_2:Bool),v21 = .bool x21_2∧Aside0 (ebbtideref04_Parse.j0 kq t520 t521 x21_2=some (r1,r2,r3))∧Aside0 (kq≤k)∧Aside0 (wc.heap[gb519]?=some (.cells #[.string (⟨#[]⟩:ByteArray),(.slice none 0 0)] 41 (0,0)))∧Aside0 (Below w.heap.size w wc))
 case first =>
  have H:=HC3.out
  clear HC3
  by_cases c5:t522=true
  ·subst c5
   have H1:((ebbtideref02_Name.f k t520).bind fun t523=>(ebbtideref04_Parse.j0 k t520 t521 (!t523)))=some (r1,r2,r3):=by rw [if_pos rfl] at H;exact H
   clear H
   have H:=H1
   clear H1
   replace H:=Option.bind_eq_some_iff.mp H
   obtain ⟨t523,A60,H⟩:=H
   replace H:(ebbtideref04_Parse.j0 k t520 t521 (!t523))=some (r1,r2,r3):=H
   have A6:=Aside0.mk A60
   clear A60
   have H':=Aside0.mk H
   clear H
   go_wp2_with (first|(go_at_call 54;(with_reducible refine (ebbtideref02_Name.calls k t520 t523 _ A6.out).mono ?_);rintro e w' ⟨rfl,⟨nd,rfl⟩⟩))
   go_meet
   case rel=>exact ⟨_,(!t523),(by first|rfl|(simp;done)|(simp [*];done)),H',⟨by first|omega|exact Nat.le_refl _⟩,⟨by (with_reducible repeat (first|refine blk_drewN ?_ _|refine blk_drew ?_|refine blk_alloc ?_ _));exact BK519.out⟩,⟨by repeat (first|(with_reducible first|exact HB.out|apply below_alloc|apply pw_below_drewN|apply below_drew1|refine below_set ?_ GE519.out)|exact HB.out)⟩⟩
  ·replace c5:=Bool.eq_false_iff.mpr c5
   subst c5
   have H1:(ebbtideref04_Parse.j0 k t520 t521 true)=some (r1,r2,r3):=by rw [if_neg (show ¬ (false=true) by decide)] at H;exact H
   clear H
   have H:=H1
   clear H1
   have H':=Aside0.mk H
   clear H
   go_wp2
   go_meet
   case rel=>exact ⟨_,(true),(by first|rfl|(simp;done)|(simp [*];done)),H',⟨by first|omega|exact Nat.le_refl _⟩,⟨by (with_reducible repeat (first|refine blk_drewN ?_ _|refine blk_drew ?_|refine blk_alloc ?_ _));exact BK519.out⟩,⟨by repeat (first|(with_reducible first|exact HB.out|apply below_alloc|apply pw_below_drewN|apply below_drew1|refine below_set ?_ GE519.out)|exact HB.out)⟩⟩
 case rest =>
  clear HC3
  try clear p2
  try clear c3
  try clear c5
  obtain ⟨kq,x21_2,rfl,HA,HJ2,BK519,HB⟩:=hcut
  cases kq with
  | zero=>exact absurd HA.out (by simp [ebbtideref04_Parse.j0])
  | succ kj2 =>
   have H:=HA.out
   clear HA
   simp only [ebbtideref04_Parse.j0] at H
   by_cases c7:x21_2=true
   ·subst c7
    have H1:(some ((⟨#[]⟩:ByteArray),([]:List (S52)),2))=some (r1,r2,r3):=by rw [if_pos rfl] at H;exact H
    clear H
    have H:=H1
    clear H1
    simp only [Option.some.injEq,Prod.mk.injEq] at H
    obtain ⟨rfl,rfl,rfl⟩:=H
    have hcz8_0:wc.cell? ⟨gb519,0,none⟩=some (.string (⟨#[]⟩:ByteArray)):=(blk_cell BK519.out 0).trans rfl
    have hcz8_1:wc.cell? ⟨gb519,1,none⟩=some (.slice none 0 0):=(blk_cell BK519.out 1).trans rfl
    have hfz8_0:=blk_frozen BK519.out 0
    have hfz8_1:=blk_frozen BK519.out 1
    go_wp2
    refine bodyPost_ret (results_ct rfl _ _ gb519 41 #[.string (⟨#[]⟩:ByteArray), .slice none 0 0] (0,0) _ rfl (by (with_reducible repeat (first|refine blk_drewN ?_ _|refine blk_drew ?_|refine blk_alloc ?_ _));refine blk_put (cs:=#[.string (⟨#[]⟩:ByteArray), .slice none 0 0]) ?_ 1 _ rfl;(with_reducible repeat (first|refine blk_drewN ?_ _|refine blk_drew ?_|refine blk_alloc ?_ _));refine blk_put (cs:=#[.string (⟨#[]⟩:ByteArray), .slice none 0 0]) ?_ 0 _ rfl;(with_reducible repeat (first|refine blk_drewN ?_ _|refine blk_drew ?_|refine blk_alloc ?_ _));exact BK519.out) Tryd.underlying41 rfl (by kernel_rfl)) rfl ?_
    exact ⟨_,by first|rfl|(simp [errW_none,errW_some]<;>rfl)|(simp [*,errW_none,errW_some]<;>rfl),by first|exact Kd.R_nil _ _ _ _ _|exact Kd.N_nil _ _ _ _ _|exact Kd.V_nil _ _ _ _ _|exact Kd.Q_nil _ _ _ _ _|exact Kd.S_nil _ _ _ _ _,by repeat (first|(with_reducible first|exact HB.out|apply below_alloc|apply pw_below_drewN|apply below_drew1|refine below_set ?_ GE519.out)|exact HB.out)⟩
   ·replace c7:=Bool.eq_false_iff.mpr c7
    subst c7
    have H1:((ebbtideref03_Parse.f kj2 t521).bind fun bt524=>(if bt524.2=0 then (some (t520,bt524.1,0)) else (some ((⟨#[]⟩:ByteArray),([]:List (S52)),bt524.2))))=some (r1,r2,r3):=by rw [if_neg (show ¬ (false=true) by decide)] at H;exact H
    clear H
    have H:=H1
    clear H1
    replace H:=Option.bind_eq_some_iff.mp H
    obtain ⟨⟨t524,t525⟩,A90,H⟩:=H
    replace H:(if t525=0 then (some (t520,t524,0)) else (some ((⟨#[]⟩:ByteArray),([]:List (S52)),t525)))=some (r1,r2,r3):=H
    have A9:=Aside0.mk A90
    clear A90
    by_cases c10:t525=0
    ·rw [if_pos c10] at H
     have c10b0:(t525 ==0)=true:=beq_iff_eq.mpr c10
     have c10b1:(t525 != 0)=false:=bne_eq_false_iff_eq.mpr c10
     clear c10
     simp only [Option.some.injEq,Prod.mk.injEq] at H
     obtain ⟨rfl,rfl,rfl⟩:=H
     go_wp2_with (first|((with_reducible refine gate_callee (f:=26) rfl ?_);refine goesL_ (some 25) rfl rfl Tryd.func26 (by kernel_rfl) rfl #[.string t521] rfl (by (try simp only [List.map_toArray,List.map_cons,List.map_nil]);first|done|rfl|(simp only [List.length_drop,List.length_take];rfl)) ?_;(with_reducible refine (ebbtideref03_Parse.calls kj2 t521 t524 t525 _ A9.out).mono ?_);rintro e w11 ⟨v526,rfl,ho0,hb⟩;refine ⟨_,rfl,?_⟩;have n0_:=Aside0.mk (Kd.R_lower ho0 (below_size (by repeat (first|(with_reducible first|exact HB.out|apply below_alloc|apply pw_below_drewN|apply below_drew1|refine below_set ?_ GE519.out)|exact HB.out))));have n1_:=Aside0.mk (blk_below (g:=gb519) (o := .cells #[.string (⟨#[]⟩:ByteArray), .slice none 0 0] 41 (0,0)) (by (with_reducible repeat (first|refine blk_drewN ?_ _|refine blk_drew ?_|refine blk_alloc ?_ _));exact BK519.out) hb);have n2_:=Aside0.mk (below_step (by repeat (first|(with_reducible first|exact HB.out|apply below_alloc|apply pw_below_drewN|apply below_drew1|refine below_set ?_ GE519.out)|exact HB.out)) hb);clear BK519;clear HB;have HO527:=n0_;have BK519:=n1_;have HB:=n2_;clear n0_ n1_ n2_;(try clear hb);(try clear hb2);(try clear hk);(try clear hi);(try clear ho0);obtain ⟨Ao12,co12,eo12⟩:=Kd.R_slice HO527.out;subst eo12;have hcz13_0:w11.cell? ⟨gb519,0,none⟩=some (.string (⟨#[]⟩:ByteArray)):=(blk_cell BK519.out 0).trans rfl;have hcz13_1:w11.cell? ⟨gb519,1,none⟩=some (.slice none 0 0):=(blk_cell BK519.out 1).trans rfl;have hfz13_0:=blk_frozen BK519.out 0;have hfz13_1:=blk_frozen BK519.out 1))
     refine bodyPost_ret (results_ct rfl _ _ gb519 41 #[.string t520, .slice Ao12 t524.length co12] (0,0) _ rfl (by (with_reducible repeat (first|refine blk_drewN ?_ _|refine blk_drew ?_|refine blk_alloc ?_ _));refine blk_put (cs:=#[.string t520, .slice none 0 0]) ?_ 1 _ rfl;(with_reducible repeat (first|refine blk_drewN ?_ _|refine blk_drew ?_|refine blk_alloc ?_ _));refine blk_put (cs:=#[.string (⟨#[]⟩:ByteArray), .slice none 0 0]) ?_ 0 _ rfl;(with_reducible repeat (first|refine blk_drewN ?_ _|refine blk_drew ?_|refine blk_alloc ?_ _));exact BK519.out) Tryd.underlying41 rfl (by kernel_rfl)) rfl ?_
     exact ⟨_,by first|rfl|(simp [errW_none,errW_some]<;>rfl)|(simp [*,errW_none,errW_some]<;>rfl),by (with_reducible repeat (first|apply Kd.R_alloc|apply Kd.R_drewN|apply Kd.R_drew));exact Kd.R_mono (Kd.R_far (p:=⟨gb519,1,none⟩) (Kd.R_far (p:=⟨gb519,0,none⟩) (Kd.R_types HO527.out BK519.out (by decide)) (fun _ hk=>hk.2) (.string t520)) (fun _ hk=>hk.2) (.slice Ao12 t524.length co12)) (fun _ hk=>trivial),by repeat (first|(with_reducible first|exact HB.out|apply below_alloc|apply pw_below_drewN|apply below_drew1|refine below_set ?_ GE519.out)|exact HB.out)⟩
    ·rw [if_neg c10] at H
     have c10b0:(t525 ==0)=false:=beq_eq_false_iff_ne.mpr c10
     have c10b1:(t525 != 0)=true:=bne_iff_ne.mpr c10
     simp only [Option.some.injEq,Prod.mk.injEq] at H
     obtain ⟨rfl,rfl,rfl⟩:=H
     go_wp2_with (first|((with_reducible refine gate_callee (f:=26) rfl ?_);refine goesL_ (some 25) rfl rfl Tryd.func26 (by kernel_rfl) rfl #[.string t521] rfl (by (try simp only [List.map_toArray,List.map_cons,List.map_nil]);first|done|rfl|(simp only [List.length_drop,List.length_take];rfl)) ?_;(with_reducible refine (ebbtideref03_Parse.calls kj2 t521 t524 t525 _ A9.out).mono ?_);rintro e w14 ⟨v526,rfl,ho0,hb⟩;refine ⟨_,rfl,?_⟩;have n0_:=Aside0.mk (Kd.R_lower ho0 (below_size (by repeat (first|(with_reducible first|exact HB.out|apply below_alloc|apply pw_below_drewN|apply below_drew1|refine below_set ?_ GE519.out)|exact HB.out))));have n1_:=Aside0.mk (blk_below (g:=gb519) (o := .cells #[.string (⟨#[]⟩:ByteArray), .slice none 0 0] 41 (0,0)) (by (with_reducible repeat (first|refine blk_drewN ?_ _|refine blk_drew ?_|refine blk_alloc ?_ _));exact BK519.out) hb);have n2_:=Aside0.mk (below_step (by repeat (first|(with_reducible first|exact HB.out|apply below_alloc|apply pw_below_drewN|apply below_drew1|refine below_set ?_ GE519.out)|exact HB.out)) hb);clear BK519;clear HB;have HO527:=n0_;have BK519:=n1_;have HB:=n2_;clear n0_ n1_ n2_;(try clear hb);(try clear hb2);(try clear hk);(try clear hi);(try clear ho0);have hcz15_0:w14.cell? ⟨gb519,0,none⟩=some (.string (⟨#[]⟩:ByteArray)):=(blk_cell BK519.out 0).trans rfl;have hcz15_1:w14.cell? ⟨gb519,1,none⟩=some (.slice none 0 0):=(blk_cell BK519.out 1).trans rfl;have hfz15_0:=blk_frozen BK519.out 0;have hfz15_1:=blk_frozen BK519.out 1))
     refine bodyPost_ret (results_ct rfl _ _ gb519 41 #[.string (⟨#[]⟩:ByteArray), .slice none 0 0] (0,0) _ rfl (by (with_reducible repeat (first|refine blk_drewN ?_ _|refine blk_drew ?_|refine blk_alloc ?_ _));refine blk_put (cs:=#[.string (⟨#[]⟩:ByteArray), .slice none 0 0]) ?_ 1 _ rfl;(with_reducible repeat (first|refine blk_drewN ?_ _|refine blk_drew ?_|refine blk_alloc ?_ _));refine blk_put (cs:=#[.string (⟨#[]⟩:ByteArray), .slice none 0 0]) ?_ 0 _ rfl;(with_reducible repeat (first|refine blk_drewN ?_ _|refine blk_drew ?_|refine blk_alloc ?_ _));exact BK519.out) Tryd.underlying41 rfl (by kernel_rfl)) rfl ?_
     exact ⟨_,by first|rfl|(simp [errW_none,errW_some]<;>rfl)|(simp [*,errW_none,errW_some]<;>rfl),by first|exact Kd.R_nil _ _ _ _ _|exact Kd.N_nil _ _ _ _ _|exact Kd.V_nil _ _ _ _ _|exact Kd.Q_nil _ _ _ _ _|exact Kd.S_nil _ _ _ _ _,by repeat (first|(with_reducible first|exact HB.out|apply below_alloc|apply pw_below_drewN|apply below_drew1|refine below_set ?_ GE519.out)|exact HB.out)⟩
def ebbtidelaw04_KeyParses.f (k:Nat) (a0:ByteArray):Option (Bool):=(ebbtidelaw04_alive.f k).bind fun t528=>(if t528=true then (if (a0.size:Int)>500 then (some true) else ((key_Parse.f k a0).bind fun bt529=>((ebbtideref04_Parse.f k a0).bind fun bt535=>((ebbtideref04_Same.f k bt529.1 bt529.2.1 bt535.1 bt535.2.1).bind fun t541=>(if t541=true then (some (bt529.2.2 ==bt535.2.2)) else (none)))))) else (none))
theorem ebbtidelaw04_KeyParses.mono:∀ a0 k,LeO (ebbtidelaw04_KeyParses.f k a0) (ebbtidelaw04_KeyParses.f (k+1) a0):=by
 intro a0 k
 unfold ebbtidelaw04_KeyParses.f
 repeat' first
   | (with_reducible exact ebbtidelaw04_alive.mono _)
   | (with_reducible exact ebbtideref04_Parse.mono _ _)
   | (with_reducible exact ebbtideref04_Same.mono _ _ _ _ _)
   | (with_reducible exact key_Parse.mono _ _)
   | (with_reducible exact LeO.refl _)
   | (with_reducible exact LeO.none _)
   | (with_reducible refine LeO.ite ?_ ?_)
   | (with_reducible refine LeO.bind ?_ (fun _=>?_))
   | exact ebbtidelaw04_alive.mono _
   | exact ebbtideref04_Parse.mono _ _
   | exact ebbtideref04_Same.mono _ _ _ _ _
   | exact key_Parse.mono _ _
   | exact LeO.none _
   | refine LeO.ite ?_ ?_
   | refine LeO.bind ?_ (fun _=>?_)
set_option maxHeartbeats 8000000 in
set_option maxRecDepth 100000 in
theorem ebbtidelaw04_KeyParses.calls (k:Nat) (a0:ByteArray) (r:Bool) (w:World) (h:ebbtidelaw04_KeyParses.f k a0=some r) :
  Calls Tryd.prog 8 #[.string a0] w fun e w'=>e = .returned (.bool r)∧Below w.heap.size w w':=by
 have hu41:=Tryd.underlying41
 have HB:=Aside0.mk (Below.refl w.heap.size w)
 have H:((ebbtidelaw04_alive.f k).bind fun t528=>(if t528=true then (if (a0.size:Int)>500 then (some true) else ((key_Parse.f k a0).bind fun bt529=>((ebbtideref04_Parse.f k a0).bind fun bt535=>((ebbtideref04_Same.f k bt529.1 bt529.2.1 bt535.1 bt535.2.1).bind fun t541=>(if t541=true then (some (bt529.2.2 ==bt535.2.2)) else (none)))))) else (none)))=some r:=h
 clear h
 replace H:=Option.bind_eq_some_iff.mp H
 obtain ⟨t528,A20,H⟩:=H
 replace H:(if t528=true then (if (a0.size:Int)>500 then (some true) else ((key_Parse.f k a0).bind fun bt529=>((ebbtideref04_Parse.f k a0).bind fun bt535=>((ebbtideref04_Same.f k bt529.1 bt529.2.1 bt535.1 bt535.2.1).bind fun t541=>(if t541=true then (some (bt529.2.2 ==bt535.2.2)) else (none)))))) else (none))=some r:=H
 have A2:=Aside0.mk A20
 clear A20
 by_cases c3:t528=true
 ·subst c3
  have H1:(if (a0.size:Int)>500 then (some true) else ((key_Parse.f k a0).bind fun bt529=>((ebbtideref04_Parse.f k a0).bind fun bt535=>((ebbtideref04_Same.f k bt529.1 bt529.2.1 bt535.1 bt535.2.1).bind fun t541=>(if t541=true then (some (bt529.2.2 ==bt535.2.2)) else (none))))))=some r:=by rw [if_pos rfl] at H;exact H
  clear H
  have H:=H1
  clear H1
  by_cases c4:(a0.size:Int)>500
  ·rw [if_pos c4] at H
   have c4b0:decide (500<(a0.size:Int))=true:=decide_eq_true c4
   have c4b1:decide (500<a0.size)=true:=decide_eq_true (by omega)
   clear c4
   obtain rfl:=Option.some.inj H
   go_enter Tryd.func8,Tryd.ntmps8
   go_wp2_with (first|((with_reducible refine gate_callee (f:=27) rfl ?_);refine goesL_ (some 7) rfl rfl Tryd.func27 (by kernel_rfl) rfl #[] rfl (by (try simp only [List.map_toArray,List.map_cons,List.map_nil]);first|done|rfl|(simp only [List.length_drop,List.length_take];rfl)) ?_;(with_reducible refine (ebbtidelaw04_alive.calls k  true _ A2.out).mono ?_);rintro e w5 ⟨rfl,hb⟩;refine ⟨_,rfl,?_⟩;have n0_:=Aside0.mk (below_step (by repeat (first|(with_reducible first|exact HB.out|apply below_alloc|apply pw_below_drewN|apply below_drew1)|exact HB.out)) hb);clear HB;have HB:=n0_;clear n0_;(try clear hb);(try clear hb2);(try clear hk);(try clear hi)))
   go_ret
   exact ⟨by first|rfl|(simp [errW_none,errW_some]<;>rfl)|(simp [*,errW_none,errW_some]<;>rfl),by repeat (first|(with_reducible first|exact HB.out|apply below_alloc|apply pw_below_drewN|apply below_drew1)|exact HB.out)⟩
  ·rw [if_neg c4] at H
   have c4b0:decide (500<(a0.size:Int))=false:=decide_eq_false c4
   have c4b1:decide (500<a0.size)=false:=decide_eq_false (by omega)
   clear c4
   replace H:=Option.bind_eq_some_iff.mp H
   obtain ⟨⟨t529,t530,t533⟩,A60,H⟩:=H
   replace H:((ebbtideref04_Parse.f k a0).bind fun bt535=>((ebbtideref04_Same.f k t529 t530 bt535.1 bt535.2.1).bind fun t541=>(if t541=true then (some (t533 ==bt535.2.2)) else (none))))=some r:=H
   have A6:=Aside0.mk A60
   clear A60
   replace H:=Option.bind_eq_some_iff.mp H
   obtain ⟨⟨t535,t536,t539⟩,A70,H⟩:=H
   replace H:((ebbtideref04_Same.f k t529 t530 t535 t536).bind fun t541=>(if t541=true then (some (t533 ==t539)) else (none)))=some r:=H
   have A7:=Aside0.mk A70
   clear A70
   replace H:=Option.bind_eq_some_iff.mp H
   obtain ⟨t541,A80,H⟩:=H
   replace H:(if t541=true then (some (t533 ==t539)) else (none))=some r:=H
   have A8:=Aside0.mk A80
   clear A80
   by_cases c9:t541=true
   ·subst c9
    have H1:(some (t533 ==t539))=some r:=by rw [if_pos rfl] at H;exact H
    clear H
    have H:=H1
    clear H1
    obtain rfl:=Option.some.inj H
    go_enter Tryd.func8,Tryd.ntmps8
    go_wp2_with (first|((with_reducible refine gate_callee (f:=27) rfl ?_);refine goesL_ (some 7) rfl rfl Tryd.func27 (by kernel_rfl) rfl #[] rfl (by (try simp only [List.map_toArray,List.map_cons,List.map_nil]);first|done|rfl|(simp only [List.length_drop,List.length_take];rfl)) ?_;(with_reducible refine (ebbtidelaw04_alive.calls k  true _ A2.out).mono ?_);rintro e w10 ⟨rfl,hb⟩;refine ⟨_,rfl,?_⟩;have n0_:=Aside0.mk (below_step (by repeat (first|(with_reducible first|exact HB.out|apply below_alloc|apply pw_below_drewN|apply below_drew1)|exact HB.out)) hb);clear HB;have HB:=n0_;clear n0_;(try clear hb);(try clear hb2);(try clear hk);(try clear hi))|((with_reducible refine gate_callee (f:=36) rfl ?_);refine goesL_ (some 14) rfl rfl Tryd.func36 (by kernel_rfl) rfl #[.string a0] rfl (by (try simp only [List.map_toArray,List.map_cons,List.map_nil]);first|done|rfl|(simp only [List.length_drop,List.length_take];rfl)) ?_;(with_reducible refine (key_Parse.calls k a0 t529 t530 t533 _ A6.out).mono ?_);rintro e w11 ⟨v531,rfl,ho0,hb⟩;refine ⟨_,rfl,?_⟩;have n0_:=Aside0.mk (Kd.R_lower ho0 (below_size (by repeat (first|(with_reducible first|exact HB.out|apply below_alloc|apply pw_below_drewN|apply below_drew1)|exact HB.out))));have n1_:=Aside0.mk (below_step (by repeat (first|(with_reducible first|exact HB.out|apply below_alloc|apply pw_below_drewN|apply below_drew1)|exact HB.out)) hb);clear HB;have HO532:=n0_;have HB:=n1_;clear n0_ n1_;(try clear hb);(try clear hb2);(try clear hk);(try clear hi);(try clear ho0))|((with_reducible refine gate_dst (N:=3) rfl ?_);refine box_event ?hg (N:=3) ?hd (cs:=#[.string (⟨#[]⟩:ByteArray), .slice none 0 0]) (t:=41) ?hr ?_;(case hd=>rfl);(case hg=>rfl);(case hr=>first|(go_simp;done)|(go_simp;rfl));intro gb534 hg w12 hbox hb;have n0_:=Aside0.mk (Kd.R_below (by (with_reducible repeat (first|apply Kd.R_alloc|apply Kd.R_drewN|apply Kd.R_drew));exact HO532.out) hb);have n1_:=Aside0.mk (below_step (by repeat (first|(with_reducible first|exact HB.out|apply below_alloc|apply pw_below_drewN|apply below_drew1)|exact HB.out)) hb);have n2_:=Aside0.mk (hbox);have n3_:=Aside0.mk ((by rw [hg];exact (below_size (by repeat (first|(with_reducible first|exact HB.out|apply below_alloc|apply pw_below_drewN|apply below_drew1)|exact HB.out))):w.heap.size≤gb534));have n4_:=Aside0.mk ((by rw [hg];exact (below_size (by repeat (first|(with_reducible first|exact HB.out|apply below_alloc|apply pw_below_drewN|apply below_drew1)|exact HB.out))):w.heap.size≤gb534));clear HO532;clear HB;have HO532:=n0_;have HB:=n1_;have BK534:=n2_;have GW534:=n3_;have GE534:=n4_;clear n0_ n1_ n2_ n3_ n4_;clear hb hbox hg;have hcz13_0:w12.cell? ⟨gb534,0,none⟩=some (.string (⟨#[]⟩:ByteArray)):=(blk_cell BK534.out 0).trans rfl;have hcz13_1:w12.cell? ⟨gb534,1,none⟩=some (.slice none 0 0):=(blk_cell BK534.out 1).trans rfl;have hfz13_0:=blk_frozen BK534.out 0;have hfz13_1:=blk_frozen BK534.out 1;obtain ⟨Ao14,co14,eo14⟩:=Kd.R_slice HO532.out;subst eo14)|((with_reducible refine gate_callee (f:=37) rfl ?_);refine goesL_ (some 19) rfl rfl Tryd.func37 (by kernel_rfl) rfl #[.string a0] rfl (by (try simp only [List.map_toArray,List.map_cons,List.map_nil]);first|done|rfl|(simp only [List.length_drop,List.length_take];rfl)) ?_;(with_reducible refine (ebbtideref04_Parse.calls k a0 t535 t536 t539 _ A7.out).mono ?_);rintro e w15 ⟨v537,rfl,ho0,hb⟩;refine ⟨_,rfl,?_⟩;have n0_:=Aside0.mk (Kd.R_elder' (by (with_reducible repeat (first|apply Kd.R_alloc|apply Kd.R_drewN|apply Kd.R_drew));exact (Kd.R_mono (Kd.R_far (p:=⟨gb534,1,none⟩) (Kd.R_far (p:=⟨gb534,0,none⟩) (Kd.R_types HO532.out BK534.out (by decide)) (fun _ hk=>hk.2) (.string t529)) (fun _ hk=>hk.2) (.slice Ao14 t530.length co14)) (fun _ h_=>h_.1))) (Kd.R_base ho0) hb);have n1_:=Aside0.mk (Kd.R_lower (Kd.R_new' ho0 (Kd.R_lt (by (with_reducible repeat (first|apply Kd.R_alloc|apply Kd.R_drewN|apply Kd.R_drew));exact (Kd.R_mono (Kd.R_far (p:=⟨gb534,1,none⟩) (Kd.R_far (p:=⟨gb534,0,none⟩) (Kd.R_types HO532.out BK534.out (by decide)) (fun _ hk=>hk.2) (.string t529)) (fun _ hk=>hk.2) (.slice Ao14 t530.length co14)) (fun _ h_=>h_.1))))) (below_size (by repeat (first|(with_reducible first|exact HB.out|apply below_alloc|apply pw_below_drewN|apply below_drew1|refine below_set ?_ GE534.out)|exact HB.out))));have n2_:=Aside0.mk (blk_below (g:=gb534) (o := .cells #[.string t529, .slice Ao14 t530.length co14] 41 (0,0)) (by (with_reducible repeat (first|refine blk_drewN ?_ _|refine blk_drew ?_|refine blk_alloc ?_ _));refine blk_put (cs:=#[.string t529, .slice none 0 0]) ?_ 1 _ rfl;(with_reducible repeat (first|refine blk_drewN ?_ _|refine blk_drew ?_|refine blk_alloc ?_ _));refine blk_put (cs:=#[.string (⟨#[]⟩:ByteArray), .slice none 0 0]) ?_ 0 _ rfl;(with_reducible repeat (first|refine blk_drewN ?_ _|refine blk_drew ?_|refine blk_alloc ?_ _));exact BK534.out) hb);have n3_:=Aside0.mk (below_step (by repeat (first|(with_reducible first|exact HB.out|apply below_alloc|apply pw_below_drewN|apply below_drew1|refine below_set ?_ GE534.out)|exact HB.out)) hb);clear HO532;clear BK534;clear HB;have HO532:=n0_;have HO538:=n1_;have BK534:=n2_;have HB:=n3_;clear n0_ n1_ n2_ n3_;(try clear hb);(try clear hb2);(try clear hk);(try clear hi);(try clear ho0))|((with_reducible refine gate_dst (N:=5) rfl ?_);refine box_event ?hg (N:=5) ?hd (cs:=#[.string (⟨#[]⟩:ByteArray), .slice none 0 0]) (t:=41) ?hr ?_;(case hd=>rfl);(case hg=>rfl);(case hr=>first|(go_simp;done)|(go_simp;rfl));intro gb540 hg w16 hbox hb;have n0_:=Aside0.mk (Kd.R_below (by (with_reducible repeat (first|apply Kd.R_alloc|apply Kd.R_drewN|apply Kd.R_drew));exact HO532.out) hb);have n1_:=Aside0.mk (Kd.R_below (by (with_reducible repeat (first|apply Kd.R_alloc|apply Kd.R_drewN|apply Kd.R_drew));exact HO538.out) hb);have n2_:=Aside0.mk (blk_below (g:=gb534) (o := .cells #[.string t529, .slice Ao14 t530.length co14] 41 (0,0)) (by (with_reducible repeat (first|refine blk_drewN ?_ _|refine blk_drew ?_|refine blk_alloc ?_ _));exact BK534.out) hb);have n3_:=Aside0.mk (below_step (by repeat (first|(with_reducible first|exact HB.out|apply below_alloc|apply pw_below_drewN|apply below_drew1|refine below_set ?_ GE534.out)|exact HB.out)) hb);have n4_:=Aside0.mk (hbox);have n5_:=Aside0.mk ((by rw [hg];exact (below_size (by repeat (first|(with_reducible first|exact HB.out|apply below_alloc|apply pw_below_drewN|apply below_drew1|refine below_set ?_ GE534.out)|exact HB.out))):w.heap.size≤gb540));have n6_:=Aside0.mk ((by rw [hg];exact (below_size (by repeat (first|(with_reducible first|exact HB.out|apply below_alloc|apply pw_below_drewN|apply below_drew1|refine below_set ?_ GE534.out)|exact HB.out))):w.heap.size≤gb540));have n7_:=Aside0.mk ((by rw [hg];exact Nat.ne_of_lt (blk_lt (g:=gb534) (o := .cells #[.string t529, .slice Ao14 t530.length co14] 41 (0,0)) (by (with_reducible repeat (first|refine blk_drewN ?_ _|refine blk_drew ?_|refine blk_alloc ?_ _));exact BK534.out)):gb534≠gb540));have n8_:=Aside0.mk ((by rw [hg];exact Nat.ne_of_gt (blk_lt (g:=gb534) (o := .cells #[.string t529, .slice Ao14 t530.length co14] 41 (0,0)) (by (with_reducible repeat (first|refine blk_drewN ?_ _|refine blk_drew ?_|refine blk_alloc ?_ _));exact BK534.out)):gb540≠gb534));clear HO532;clear HO538;clear BK534;clear HB;have HO532:=n0_;have HO538:=n1_;have BK534:=n2_;have HB:=n3_;have BK540:=n4_;have GW540:=n5_;have GE540:=n6_;have NB534_540:=n7_;have NB540_534:=n8_;clear n0_ n1_ n2_ n3_ n4_ n5_ n6_ n7_ n8_;clear hb hbox hg;have hnb17:=NB540_534.out;have hnc17:=NB534_540.out;have hcz18_0:w16.cell? ⟨gb540,0,none⟩=some (.string (⟨#[]⟩:ByteArray)):=(blk_cell BK540.out 0).trans rfl;have hcz18_1:w16.cell? ⟨gb540,1,none⟩=some (.slice none 0 0):=(blk_cell BK540.out 1).trans rfl;have hfz18_0:=blk_frozen BK540.out 0;have hfz18_1:=blk_frozen BK540.out 1;obtain ⟨Ao19,co19,eo19⟩:=Kd.R_slice HO538.out;subst eo19;have hcz20_0:w16.cell? ⟨gb534,0,none⟩=some (.string t529):=(blk_cell BK534.out 0).trans rfl;have hcz20_1:w16.cell? ⟨gb534,1,none⟩=some (.slice Ao14 t530.length co14):=(blk_cell BK534.out 1).trans rfl;have hfz20_0:=blk_frozen BK534.out 0;have hfz20_1:=blk_frozen BK534.out 1)|((with_reducible refine gate_callee (f:=30) rfl ?_);refine goesL_ (some 24) rfl rfl Tryd.func30 (by kernel_rfl) rfl #[.agg #[.string t529, .slice Ao14 t530.length co14], .agg #[.string t535, .slice Ao19 t536.length co19]] rfl (by (try simp only [List.map_toArray,List.map_cons,List.map_nil]);first|done|rfl|(simp only [List.length_drop,List.length_take];rfl)) ?_;(with_reducible refine (ebbtideref04_Same.calls k t529 _ _ t530 t535 _ _ t536 true _ ?side1 ?side2 ?side3 ?side4 A8.out).mono ?_);(case side1=>refine (Kd.R_reads' (e:=52) (base:=w.heap.size) (ok:=fun k_=>(True∧some k_≠(.slice Ao19 t536.length co19:Value).ownBlock)) (n:=t530.length) (c:=co14) ?_).2.2;exact (by (with_reducible repeat (first|apply Kd.R_alloc|apply Kd.R_drewN|apply Kd.R_drew));exact (Kd.R_mono (Kd.R_far (p:=⟨gb540,1,none⟩) (Kd.R_far (p:=⟨gb540,0,none⟩) (Kd.R_types HO532.out BK540.out (by decide)) (fun _ hk=>hk.2) (.string t535)) (fun _ hk=>hk.2) (.slice Ao19 t536.length co19)) (fun _ h_=>h_.1))));(case side2=>exact (Kd.R_reads' HO532.out).2.1);(case side3=>refine (Kd.R_reads' (e:=52) (base:=w.heap.size) (ok:=fun k_=>(True∧some k_≠(.slice Ao14 t530.length co14:Value).ownBlock)) (n:=t536.length) (c:=co19) ?_).2.2;exact (by (with_reducible repeat (first|apply Kd.R_alloc|apply Kd.R_drewN|apply Kd.R_drew));exact (Kd.R_mono (Kd.R_far (p:=⟨gb540,1,none⟩) (Kd.R_far (p:=⟨gb540,0,none⟩) (Kd.R_types HO538.out BK540.out (by decide)) (fun _ hk=>hk.2) (.string t535)) (fun _ hk=>hk.2) (.slice Ao19 t536.length co19)) (fun _ h_=>h_.1))));(case side4=>exact (Kd.R_reads' HO538.out).2.1);rintro e w21 ⟨rfl,hb⟩;refine ⟨_,rfl,?_⟩;have n0_:=Aside0.mk (Kd.R_below (by (with_reducible repeat (first|apply Kd.R_alloc|apply Kd.R_drewN|apply Kd.R_drew));exact (Kd.R_mono (Kd.R_far (p:=⟨gb540,1,none⟩) (Kd.R_far (p:=⟨gb540,0,none⟩) (Kd.R_types HO532.out BK540.out (by decide)) (fun _ hk=>hk.2) (.string t535)) (fun _ hk=>hk.2) (.slice Ao19 t536.length co19)) (fun _ h_=>h_.1))) hb);have n1_:=Aside0.mk (Kd.R_below (by (with_reducible repeat (first|apply Kd.R_alloc|apply Kd.R_drewN|apply Kd.R_drew));exact (Kd.R_mono (Kd.R_far (p:=⟨gb540,1,none⟩) (Kd.R_far (p:=⟨gb540,0,none⟩) (Kd.R_types HO538.out BK540.out (by decide)) (fun _ hk=>hk.2) (.string t535)) (fun _ hk=>hk.2) (.slice Ao19 t536.length co19)) (fun _ h_=>h_.1))) hb);have n2_:=Aside0.mk (blk_below (g:=gb534) (o := .cells #[.string t529, .slice Ao14 t530.length co14] 41 (0,0)) (by (with_reducible repeat (first|refine blk_drewN ?_ _|refine blk_drew ?_|refine blk_alloc ?_ _));refine blk_far ?_ NB534_540.out _;(with_reducible repeat (first|refine blk_drewN ?_ _|refine blk_drew ?_|refine blk_alloc ?_ _));refine blk_far ?_ NB534_540.out _;(with_reducible repeat (first|refine blk_drewN ?_ _|refine blk_drew ?_|refine blk_alloc ?_ _));exact BK534.out) hb);have n3_:=Aside0.mk (blk_below (g:=gb540) (o := .cells #[.string t535, .slice Ao19 t536.length co19] 41 (0,0)) (by (with_reducible repeat (first|refine blk_drewN ?_ _|refine blk_drew ?_|refine blk_alloc ?_ _));refine blk_put (cs:=#[.string t535, .slice none 0 0]) ?_ 1 _ rfl;(with_reducible repeat (first|refine blk_drewN ?_ _|refine blk_drew ?_|refine blk_alloc ?_ _));refine blk_put (cs:=#[.string (⟨#[]⟩:ByteArray), .slice none 0 0]) ?_ 0 _ rfl;(with_reducible repeat (first|refine blk_drewN ?_ _|refine blk_drew ?_|refine blk_alloc ?_ _));exact BK540.out) hb);have n4_:=Aside0.mk (below_step (by repeat (first|(with_reducible first|exact HB.out|apply below_alloc|apply pw_below_drewN|apply below_drew1|refine below_set ?_ GE534.out|refine below_set ?_ GE540.out)|exact HB.out)) hb);clear HO532;clear HO538;clear BK534;clear BK540;clear HB;have HO532:=n0_;have HO538:=n1_;have BK534:=n2_;have BK540:=n3_;have HB:=n4_;clear n0_ n1_ n2_ n3_ n4_;(try clear hb);(try clear hb2);(try clear hk);(try clear hi)))
    go_ret
    exact ⟨by first|rfl|(simp [errW_none,errW_some]<;>rfl)|(simp [*,errW_none,errW_some]<;>rfl),by repeat (first|(with_reducible first|exact HB.out|apply below_alloc|apply pw_below_drewN|apply below_drew1|refine below_set ?_ GE534.out|refine below_set ?_ GE540.out)|exact HB.out)⟩
   ·replace c9:=Bool.eq_false_iff.mpr c9
    subst c9
    have H1:(none)=some r:=by rw [if_neg (show ¬ (false=true) by decide)] at H;exact H
    clear H
    have H:=H1
    clear H1
    exact absurd H (by simp)
 ·replace c3:=Bool.eq_false_iff.mpr c3
  subst c3
  have H1:(none)=some r:=by rw [if_neg (show ¬ (false=true) by decide)] at H;exact H
  clear H
  have H:=H1
  clear H1
  exact absurd H (by simp)
end Go.Proofs.YtbefmicenjdfkaaDoor.PTk
