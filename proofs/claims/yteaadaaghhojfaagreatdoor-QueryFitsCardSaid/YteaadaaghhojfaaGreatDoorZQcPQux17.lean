import Derived.Test.YteaadaaghhojfaaGreatDoorZQcPQux0
import Derived.Test.YteaadaaghhojfaaGreatDoorZQcPQux13
namespace Go.Proofs.YteaadaaghhojfaaGreatDoor.PQu
open Go.RowKit Go.Proofs.YteaadaaghhojfaaGreatDoorW.PrintWords Go.Proofs.YteaadaaghhojfaaGreatDoorW.PrintLast Go.Proofs.YteaadaaghhojfaaGreatDoorW.PrintMore
attribute [local go_sem] max2_int min2_int max_two min_two max_three min_three max_four min_four
set_option linter.unusedVariables false
set_option linter.unusedSimpArgs false
set_option maxHeartbeats 8000000
set_option maxRecDepth 100000
def ebbtideref05_find.l0:Nat→ByteArray→ByteArray→Int→Option (Int)
 | 0,_,_,_=>none
 | k+1,x0,x1,x5=>if (wrap64 (x5+(x1.size:Int)))≤(x0.size:Int) then (if 0≤x5 then (if x5≤(wrap64 (x5+(x1.size:Int))) then (if (x0.extract (x5:Int).toNat ((wrap64 (x5+(x1.size:Int))):Int).toNat).toList=x1.toList then (some x5) else (ebbtideref05_find.l0 k x0 x1 (wrap64 (x5+1)))) else (none)) else (none)) else (some (-1))
def ebbtideref05_find.f (k:Nat) (a0:ByteArray) (a1:ByteArray):Option (Int):=ebbtideref05_find.l0 k a0 a1 0
theorem ebbtideref05_find.mono_l:∀ k,(∀ y0 y1 y2,LeO (ebbtideref05_find.l0 k y0 y1 y2) (ebbtideref05_find.l0 (k+1) y0 y1 y2))
 | 0=>fun _ _ _ r h=>by simp [ebbtideref05_find.l0] at h
 | k+1=>by
  have ih0:=ebbtideref05_find.mono_l k
  ·intro y0 y1 y2
   unfold ebbtideref05_find.l0
   repeat' first
   | (with_reducible exact ih0 _ _ _)
   | (with_reducible exact LeO.refl _)
   | (with_reducible exact LeO.none _)
   | (with_reducible refine LeO.ite ?_ ?_)
   | (with_reducible refine LeO.bind ?_ (fun _=>?_))
   | exact ih0 _ _ _
   | exact LeO.none _
   | refine LeO.ite ?_ ?_
   | refine LeO.bind ?_ (fun _=>?_)
theorem ebbtideref05_find.mono:∀ a0 a1 k,LeO (ebbtideref05_find.f k a0 a1) (ebbtideref05_find.f (k+1) a0 a1):=by
 intro a0 a1 k
 have ih0:=ebbtideref05_find.mono_l k
 unfold ebbtideref05_find.f
 repeat' first
   | (with_reducible exact ih0 _ _ _)
   | (with_reducible exact LeO.refl _)
   | (with_reducible exact LeO.none _)
   | (with_reducible refine LeO.ite ?_ ?_)
   | (with_reducible refine LeO.bind ?_ (fun _=>?_))
   | exact ih0 _ _ _
   | exact LeO.none _
   | refine LeO.ite ?_ ?_
   | refine LeO.bind ?_ (fun _=>?_)
theorem ebbtideref05_find.calls (k:Nat) (a0:ByteArray) (a1:ByteArray) (r:Int) (w:World) (h:ebbtideref05_find.f k a0 a1=some r) :
  Calls Tryz.prog 149 #[.string a0, .string a1] w fun e w'=>e = .returned (.int .i64 r)∧Drawn0 w w':=by
 have H:(ebbtideref05_find.l0 k a0 a1 0)=some r:=h
 clear h
 have H':=Aside0.mk H
 clear H
 go_enter Tryz.func149,Tryz.ntmps149
 go_wp2
 go_loopg [5] k (fun kq v5 w'=>∃ (x5_1:Int),v5 = .int .i64 x5_1∧Aside0 (ebbtideref05_find.l0 kq a0 a1 x5_1=some r)∧Aside0 (kq≤k)∧Drawn0 w w')
 case atStart=>exact ⟨(0),qS,H',⟨Nat.le_refl _⟩,qD⟩
 case round =>
  clear H'
  obtain ⟨x5_1,rfl,HA,HK1,⟨m1,rfl⟩⟩:=hrel
  cases gk with
  | zero=>exact absurd HA.out (by simp [ebbtideref05_find.l0])
  | succ k1 =>
   have H:=HA.out
   clear HA
   simp only [ebbtideref05_find.l0] at H
   by_cases c3:(wrap64 (x5_1+(a1.size:Int)))≤(a0.size:Int)
   rotate_left
   ·rw [if_neg c3] at H
    have c3b0:decide ((wrap64 (x5_1+(a1.size:Int)))≤(a0.size:Int))=false:=decide_eq_false c3
    clear c3
    obtain rfl:=Option.some.inj H
    go_wp2
    go_ret
    exact ⟨qS,qD⟩
   rw [if_pos c3] at H
   have c3b0:decide ((wrap64 (x5_1+(a1.size:Int)))≤(a0.size:Int))=true:=decide_eq_true c3
   clear c3
   by_cases c4:0≤x5_1
   rotate_left
   ·rw [if_neg c4] at H
    exact absurd H (by simp)
   rw [if_pos c4] at H
   have c4b0:=eq_true c4
   have c4b1:decide (0≤x5_1)=true:=decide_eq_true c4
   clear c4
   by_cases c5:x5_1≤(wrap64 (x5_1+(a1.size:Int)))
   rotate_left
   ·rw [if_neg c5] at H
    exact absurd H (by simp)
   rw [if_pos c5] at H
   have c5b0:=eq_true c5
   have c5b1:decide (x5_1≤(wrap64 (x5_1+(a1.size:Int))))=true:=decide_eq_true c5
   have c6b0:=eq_true (of_decide_eq_true qA:(wrap64 (x5_1+(a1.size:Int)))≤(a0.size:Int))
   by_cases c7:(a0.extract (x5_1:Int).toNat ((wrap64 (x5_1+(a1.size:Int))):Int).toNat).toList=a1.toList
   ·rw [if_pos c7] at H
    have c7b0:((a0.extract (x5_1:Int).toNat ((wrap64 (x5_1+(a1.size:Int))):Int).toNat).toList ==a1.toList)=true:=beq_iff_eq.mpr c7
    have c7b1:((a0.extract (x5_1:Int).toNat ((wrap64 (x5_1+(a1.size:Int))):Int).toNat).toList != a1.toList)=false:=bne_eq_false_iff_eq.mpr c7
    clear c7
    obtain rfl:=Option.some.inj H
    go_wp2
    go_ret
    exact ⟨qS,qD⟩
   rw [if_neg c7] at H
   have c7b0:((a0.extract (x5_1:Int).toNat ((wrap64 (x5_1+(a1.size:Int))):Int).toNat).toList ==a1.toList)=false:=beq_eq_false_iff_ne.mpr c7
   have c7b1:((a0.extract (x5_1:Int).toNat ((wrap64 (x5_1+(a1.size:Int))):Int).toNat).toList != a1.toList)=true:=bne_iff_ne.mpr c7
   have H':=Aside0.mk H
   clear H
   go_wp2
   go_roundg k1
   case measure=>have:=HK1.out;omega
   case rel=>exact ⟨(wrap64 (x5_1+1)),qS,H',⟨by have:=HK1.out;omega⟩,qD⟩
def ebbtideref05_part.f (k:Nat) (a0:ByteArray):Option (Int×ByteArray×ByteArray):=(ebbtideref05_find.f k a0 (⟨#[33,61]⟩:ByteArray)).bind fun t471=>(if t471≥0 then (if 0≤t471 then (if t471≤(a0.size:Int) then (if 0≤(wrap64 (t471+2)) then (if (wrap64 (t471+2))≤(a0.size:Int) then (some (2,a0.extract 0 (t471:Int).toNat,a0.extract ((wrap64 (t471+2)):Int).toNat a0.size)) else (none)) else (none)) else (none)) else (none)) else ((ebbtideref05_find.f k a0 (⟨#[61]⟩:ByteArray)).bind fun t472=>(if t472<0 then (some (4,a0,(⟨#[]⟩:ByteArray))) else (if 0≤(wrap64 ((a0.size:Int) - 1)) then (if (wrap64 ((a0.size:Int) - 1))<(a0.size:Int) then (if (bt a0 (wrap64 ((a0.size:Int) - 1)))=42 then (if 0≤t472 then (if t472≤(a0.size:Int) then (if 0≤(wrap64 (t472+1)) then (if (wrap64 (t472+1))≤(wrap64 ((a0.size:Int) - 1)) then (if (wrap64 ((a0.size:Int) - 1))≤(a0.size:Int) then (some (3,a0.extract 0 (t472:Int).toNat,a0.extract ((wrap64 (t472+1)):Int).toNat ((wrap64 ((a0.size:Int) - 1)):Int).toNat)) else (none)) else (none)) else (none)) else (none)) else (none)) else (if 0≤t472 then (if t472≤(a0.size:Int) then (if 0≤(wrap64 (t472+1)) then (if (wrap64 (t472+1))≤(a0.size:Int) then (some (1,a0.extract 0 (t472:Int).toNat,a0.extract ((wrap64 (t472+1)):Int).toNat a0.size)) else (none)) else (none)) else (none)) else (none))) else (none)) else (none)))))
theorem ebbtideref05_part.mono:∀ a0 k,LeO (ebbtideref05_part.f k a0) (ebbtideref05_part.f (k+1) a0):=by
 intro a0 k
 unfold ebbtideref05_part.f
 repeat' first
   | (with_reducible exact ebbtideref05_find.mono _ _ _)
   | (with_reducible exact LeO.refl _)
   | (with_reducible exact LeO.none _)
   | (with_reducible refine LeO.ite ?_ ?_)
   | (with_reducible refine LeO.bind ?_ (fun _=>?_))
   | exact ebbtideref05_find.mono _ _ _
   | exact LeO.none _
   | refine LeO.ite ?_ ?_
   | refine LeO.bind ?_ (fun _=>?_)
def ebbtideref05_part.T3:Bool×List (List Nat×List Nat):=(true,[([],[]),([],[]),([0,1],[0,1]),([],[]),([],[]),([4],[4]),([3,5],[3,5]),([2,6],[2,6]),([7,0,1,2,3,4,5,6,7],[7])])
def ebbtideref05_part.B3:List Nat:=[0,0,3,0,0,16,56,127,255]
theorem ebbtideref05_part.tab3:rtab .any (opsOf Tryz.f117 3)=ebbtideref05_part.T3:=qK
theorem ebbtideref05_part.bits3:waitsOk ebbtideref05_part.T3.2 ebbtideref05_part.B3=true:=qK
def ebbtideref05_part.T8:Bool×List (List Nat×List Nat):=(true,[([],[]),([],[]),([0,1],[0,1]),([],[]),([],[]),([4],[4]),([],[]),([6],[6]),([7],[7]),([3,5,8],[3,5,8]),([2,9],[2,9]),([10,0,1,2,3,4,5,6,7,8,9,10],[10])])
def ebbtideref05_part.B8:List Nat:=[0,0,3,0,0,16,0,64,192,504,1023,2047]
theorem ebbtideref05_part.tab8:rtab .any (opsOf Tryz.f117 8)=ebbtideref05_part.T8:=qK
theorem ebbtideref05_part.bits8:waitsOk ebbtideref05_part.T8.2 ebbtideref05_part.B8=true:=qK
def ebbtideref05_part.T9:Bool×List (List Nat×List Nat):=(true,[([],[]),([],[]),([0,1],[0,1]),([],[]),([],[]),([4],[4]),([3,5],[3,5]),([2,6],[2,6]),([7,0,1,2,3,4,5,6,7],[7])])
def ebbtideref05_part.B9:List Nat:=[0,0,3,0,0,16,56,127,255]
theorem ebbtideref05_part.tab9:rtab .any (opsOf Tryz.f117 9)=ebbtideref05_part.T9:=qK
theorem ebbtideref05_part.bits9:waitsOk ebbtideref05_part.T9.2 ebbtideref05_part.B9=true:=qK
theorem ebbtideref05_part.calls (k:Nat) (a0:ByteArray) (r1:Int) (r2:ByteArray) (r3:ByteArray) (w:World) (h:ebbtideref05_part.f k a0=some (r1,r2,r3)) :
  Calls Tryz.prog 117 #[.string a0] w fun e w'=>e = .returned (.agg #[.int .i64 r1, .string r2, .string r3])∧Below w.heap.size w w':=by
 have hu127:=Tryz.underlying127
 have HB:=Aside0.mk (Below.refl w.heap.size w)
 have H:((ebbtideref05_find.f k a0 (⟨#[33,61]⟩:ByteArray)).bind fun t471=>(if t471≥0 then (if 0≤t471 then (if t471≤(a0.size:Int) then (if 0≤(wrap64 (t471+2)) then (if (wrap64 (t471+2))≤(a0.size:Int) then (some (2,a0.extract 0 (t471:Int).toNat,a0.extract ((wrap64 (t471+2)):Int).toNat a0.size)) else (none)) else (none)) else (none)) else (none)) else ((ebbtideref05_find.f k a0 (⟨#[61]⟩:ByteArray)).bind fun t472=>(if t472<0 then (some (4,a0,(⟨#[]⟩:ByteArray))) else (if 0≤(wrap64 ((a0.size:Int) - 1)) then (if (wrap64 ((a0.size:Int) - 1))<(a0.size:Int) then (if (bt a0 (wrap64 ((a0.size:Int) - 1)))=42 then (if 0≤t472 then (if t472≤(a0.size:Int) then (if 0≤(wrap64 (t472+1)) then (if (wrap64 (t472+1))≤(wrap64 ((a0.size:Int) - 1)) then (if (wrap64 ((a0.size:Int) - 1))≤(a0.size:Int) then (some (3,a0.extract 0 (t472:Int).toNat,a0.extract ((wrap64 (t472+1)):Int).toNat ((wrap64 ((a0.size:Int) - 1)):Int).toNat)) else (none)) else (none)) else (none)) else (none)) else (none)) else (if 0≤t472 then (if t472≤(a0.size:Int) then (if 0≤(wrap64 (t472+1)) then (if (wrap64 (t472+1))≤(a0.size:Int) then (some (1,a0.extract 0 (t472:Int).toNat,a0.extract ((wrap64 (t472+1)):Int).toNat a0.size)) else (none)) else (none)) else (none)) else (none))) else (none)) else (none))))))=some (r1,r2,r3):=h
 clear h
 replace H:=Option.bind_eq_some_iff.mp H
 obtain ⟨t471,A20,H⟩:=H
 replace H:(if t471≥0 then (if 0≤t471 then (if t471≤(a0.size:Int) then (if 0≤(wrap64 (t471+2)) then (if (wrap64 (t471+2))≤(a0.size:Int) then (some (2,a0.extract 0 (t471:Int).toNat,a0.extract ((wrap64 (t471+2)):Int).toNat a0.size)) else (none)) else (none)) else (none)) else (none)) else ((ebbtideref05_find.f k a0 (⟨#[61]⟩:ByteArray)).bind fun t472=>(if t472<0 then (some (4,a0,(⟨#[]⟩:ByteArray))) else (if 0≤(wrap64 ((a0.size:Int) - 1)) then (if (wrap64 ((a0.size:Int) - 1))<(a0.size:Int) then (if (bt a0 (wrap64 ((a0.size:Int) - 1)))=42 then (if 0≤t472 then (if t472≤(a0.size:Int) then (if 0≤(wrap64 (t472+1)) then (if (wrap64 (t472+1))≤(wrap64 ((a0.size:Int) - 1)) then (if (wrap64 ((a0.size:Int) - 1))≤(a0.size:Int) then (some (3,a0.extract 0 (t472:Int).toNat,a0.extract ((wrap64 (t472+1)):Int).toNat ((wrap64 ((a0.size:Int) - 1)):Int).toNat)) else (none)) else (none)) else (none)) else (none)) else (none)) else (if 0≤t472 then (if t472≤(a0.size:Int) then (if 0≤(wrap64 (t472+1)) then (if (wrap64 (t472+1))≤(a0.size:Int) then (some (1,a0.extract 0 (t472:Int).toNat,a0.extract ((wrap64 (t472+1)):Int).toNat a0.size)) else (none)) else (none)) else (none)) else (none))) else (none)) else (none)))))=some (r1,r2,r3):=H
 have A2:=Aside0.mk A20
 clear A20
 by_cases c3:t471≥0
 ·rw [if_pos c3] at H
  have c3b0:decide (0≤t471)=true:=decide_eq_true c3
  clear c3
  by_cases c4:0≤t471
  rotate_left
  ·rw [if_neg c4] at H
   exact absurd H (by simp)
  rw [if_pos c4] at H
  have c4b0:=eq_true c4
  have c4b1:decide (0≤t471)=true:=decide_eq_true c4
  clear c4
  by_cases c5:t471≤(a0.size:Int)
  rotate_left
  ·rw [if_neg c5] at H
   exact absurd H (by simp)
  rw [if_pos c5] at H
  have c5b0:=eq_true c5
  have c5b1:decide (t471≤(a0.size:Int))=true:=decide_eq_true c5
  clear c5
  obtain ⟨ji6,hji6⟩:∃ j_:Int,(wrap64 (t471+2))=j_:=⟨_,rfl⟩
  replace H:(if 0≤(ji6) then (if (ji6)≤(a0.size:Int) then (some (2,a0.extract 0 (t471:Int).toNat,a0.extract ((ji6):Int).toNat a0.size)) else (none)) else (none))=some (r1,r2,r3):=by first|(rw [hji6] at H;exact H)|(simp only [hji6] at H ⊢;exact H)
  (try rw [hji6] at A2)
  have hji6w:(IntKind.i64.wrap (t471+2))=ji6:=(i64_w _).trans hji6
  by_cases c7:0≤(ji6)
  rotate_left
  ·rw [if_neg c7] at H
   exact absurd H (by simp)
  rw [if_pos c7] at H
  have c7b0:=eq_true c7
  have c7b1:decide (0≤(ji6))=true:=decide_eq_true c7
  clear c7
  by_cases c8:(ji6)≤(a0.size:Int)
  rotate_left
  ·rw [if_neg c8] at H
   exact absurd H (by simp)
  rw [if_pos c8] at H
  have c8b0:=eq_true c8
  have c8b1:decide ((ji6)≤(a0.size:Int))=true:=decide_eq_true c8
  clear c8
  simp only [Option.some.injEq,Prod.mk.injEq] at H
  obtain ⟨rfl,rfl,rfl⟩:=H
  go_enter Tryz.func117,Tryz.ntmps117
  try go_wp2_with (first|((with_reducible refine gate_dst (N:=2) rfl ?_);refine box_event ?hg (N:=2) ?hd (cs:=#[.int .i64 0, .string (⟨#[]⟩:ByteArray), .string (⟨#[]⟩:ByteArray)]) (t:=127) ?hr ?_;(case hd=>rfl);(case hg=>rfl);(case hr=>first|(go_simp;done)|(go_simp;rfl));intro gb470 hg w9 hbox hb;have BK470:=Aside0.mk hbox;have GW470:Aside0 (w.heap.size≤gb470):=⟨qH⟩;have GE470:=GW470;replace HB:=Aside0.mk (below_step qB hb);clear hb hbox hg)|((with_reducible refine gate_callee (f:=149) rfl ?_);refine goesL_ (some 6) rfl rfl Tryz.func149 qK rfl #[.string a0, .string (⟨#[33,61]⟩:ByteArray)] rfl qG ?_;(with_reducible refine (ebbtideref05_find.calls k a0 (⟨#[33,61]⟩:ByteArray) t471 _ A2.out).mono ?_);rintro e w' ⟨rfl,⟨nd,rfl⟩⟩;refine ⟨_,rfl,?_⟩;(try (rw [drewN_self w9];generalize hq_:World.drewN w9 _=w9;have n0_:Aside0 (w9.heap[gb470]?=some (.cells #[.int .i64 0, .string (⟨#[]⟩:ByteArray), .string (⟨#[]⟩:ByteArray)] 127 (0,0))):=⟨by rw [← hq_];exact (qW BK470)⟩;have n1_:Aside0 (Below w.heap.size w w9):=⟨by rw [← hq_];exact qC⟩;clear BK470 HB hq_;have BK470:=n0_;have HB:=n1_;clear n0_ n1_))))
  replace BK470:=Aside0.mk (blk_drew BK470.out)
  replace HB:=Aside0.mk (below_drew1 HB.out)
  refine start_ (n:=9) (S:=fun w'=>True) (ds:=[]) #[false,false,false,false,false,false,false,false,false] qK rfl rfl trivial (fun hHeld=>?_);refine with_tabW ebbtideref05_part.tab3 ebbtideref05_part.bits3 (fun HT_ HW_=>?_)
  generalize w9.drew=w10 at BK470 HB hHeld ⊢
  refine pure_ (i:=0) (N:=some 9) (v:=?_) (a':=?_) #[true,false,false,false,false,false,false,false,false] rfl rfl (any_of HT_.out qK) (fun _ _ _ h=>h) (Or.inl ⟨by rfl,?_⟩) ?_ ?_
  rotate_left
  ·intro w';go_simp;with_reducible rfl
  rotate_left
  ·simp only [Act.put,List.setIfInBounds_toArray,List.set_cons_zero,List.set_cons_succ,i64_w,i32_w];rfl
  refine pure_ (i:=1) (N:=some 10) (v:=?_) (a':=?_) #[true,true,false,false,false,false,false,false,false] rfl rfl (any_of HT_.out qK) (fun _ _ _ h=>h) (Or.inl ⟨by rfl,?_⟩) ?_ ?_
  rotate_left
  ·intro w';go_simp;with_reducible rfl
  rotate_left
  ·simp only [Act.put,List.setIfInBounds_toArray,List.set_cons_zero,List.set_cons_succ,i64_w,i32_w];rfl
  refine pure_ (i:=2) (N:=some 11) (v:=?_) (a':=?_) #[true,true,true,false,false,false,false,false,false] rfl rfl (any_of HT_.out qK) (fun _ _ _ h=>h) (Or.inl ⟨by rfl,?_⟩) ?_ ?_
  rotate_left
  ·intro w';go_simp;with_reducible rfl
  rotate_left
  ·simp only [Act.put,List.setIfInBounds_toArray,List.set_cons_zero,List.set_cons_succ,i64_w,i32_w];rfl
  refine pure_ (i:=3) (N:=some 12) (v:=?_) (a':=?_) #[true,true,true,true,false,false,false,false,false] rfl rfl (any_of HT_.out qK) (fun _ _ _ h=>h) (Or.inl ⟨by rfl,?_⟩) ?_ ?_
  rotate_left
  ·intro w';go_simp;with_reducible rfl
  rotate_left
  ·simp only [Act.put,List.setIfInBounds_toArray,List.set_cons_zero,List.set_cons_succ,i64_w,i32_w];rfl
  refine pure_ (i:=4) (N:=some 13) (v:=?_) (a':=?_) #[true,true,true,true,true,false,false,false,false] rfl rfl (any_of HT_.out qK) (fun _ _ _ h=>h) (Or.inl ⟨by rfl,?_⟩) ?_ ?_
  rotate_left
  ·intro w';go_simp;with_reducible rfl
  rotate_left
  ·simp only [Act.put,List.setIfInBounds_toArray,List.set_cons_zero,List.set_cons_succ,i64_w,i32_w];rfl
  refine pure_ (i:=5) (N:=some 14) (v:=?_) (a':=?_) #[true,true,true,true,true,true,false,false,false] rfl rfl (any_of HT_.out qK) (fun _ _ _ h=>h) (Or.inl ⟨by rfl,?_⟩) ?_ ?_
  rotate_left
  ·intro w';go_simp;with_reducible rfl
  rotate_left
  ·simp only [Act.put,List.setIfInBounds_toArray,List.set_cons_zero,List.set_cons_succ,i64_w,i32_w];rfl
  refine pure_ (i:=6) (N:=some 15) (v:=?_) (a':=?_) #[true,true,true,true,true,true,true,false,false] rfl rfl (any_of HT_.out qK) (fun _ _ _ h=>h) (Or.inl ⟨by rfl,?_⟩) ?_ ?_
  rotate_left
  ·intro w';go_simp;with_reducible rfl
  rotate_left
  ·simp only [Act.put,List.setIfInBounds_toArray,List.set_cons_zero,List.set_cons_succ,i64_w,i32_w];rfl
  refine pure_ (i:=7) (N:=some 16) (v:=?_) (a':=?_) #[true,true,true,true,true,true,true,true,false] rfl rfl (any_of HT_.out qK) (fun _ _ _ h=>h) (Or.inl ⟨by rfl,?_⟩) ?_ ?_
  rotate_left
  ·intro w';go_simp;with_reducible rfl
  rotate_left
  ·simp only [Act.put,List.setIfInBounds_toArray,List.set_cons_zero,List.set_cons_succ,i64_w,i32_w];rfl
  refine one_ (i:=8) (N:=none) #[true,true,true,true,true,true,true,true,true] rfl rfl (one_of HT_.out qK) (by decide) (fun K hK=>?_)
  have hs11:w10.cell? ⟨gb470,0,none⟩=some (.int .i64 0):=(blk_cell BK470.out 0).trans rfl
  have hfs11:=blk_frozen BK470.out 0
  have hs12:w10.cell? ⟨gb470,1,none⟩=some (.string (⟨#[]⟩:ByteArray)):=(blk_cell BK470.out 1).trans rfl
  have hfs12:=blk_frozen BK470.out 1
  have hs13:w10.cell? ⟨gb470,2,none⟩=some (.string (⟨#[]⟩:ByteArray)):=(blk_cell BK470.out 2).trans rfl
  have hfs13:=blk_frozen BK470.out 2
  refine skip_ (w1:=?_) (by rfl) rfl ?_ ?_
  rotate_left
  ·go_simp
   rfl
  refine hK.out _ _ trivial (fun hHeld=>?_)
  clear hK K
  refine done_ (done_of HT_.out qK) ?_
  try go_wp2
  refine bodyPost_ret (results_cell_row rfl _ _ gb470 127 #[.int .i64 2, .string (a0.extract 0 (t471:Int).toNat), .string (a0.extract ((ji6):Int).toNat a0.size)] (0,0) _ rfl (by (with_reducible repeat (first|refine blk_drewN ?_ _|refine blk_drew ?_|refine blk_alloc ?_ _));refine blk_put (cs:=#[.int .i64 2, .string (a0.extract 0 (t471:Int).toNat), .string (⟨#[]⟩:ByteArray)]) ?_ 2 _ rfl;(with_reducible repeat (first|refine blk_drewN ?_ _|refine blk_drew ?_|refine blk_alloc ?_ _));refine blk_put (cs:=#[.int .i64 2, .string (⟨#[]⟩:ByteArray), .string (⟨#[]⟩:ByteArray)]) ?_ 1 _ rfl;(with_reducible repeat (first|refine blk_drewN ?_ _|refine blk_drew ?_|refine blk_alloc ?_ _));refine blk_put (cs:=#[.int .i64 0, .string (⟨#[]⟩:ByteArray), .string (⟨#[]⟩:ByteArray)]) ?_ 0 _ rfl;(with_reducible repeat (first|refine blk_drewN ?_ _|refine blk_drew ?_|refine blk_alloc ?_ _));exact BK470.out) Tryz.underlying127 rfl qK) rfl ?_
  exact ⟨by first|rfl|(simp [errW_none,errW_some]<;>rfl)|(simp only [← hji6];first|rfl|(simp [errW_none,errW_some]<;>rfl))|(simp [*,errW_none,errW_some]<;>rfl),qC⟩
 rw [if_neg c3] at H
 have c3b0:decide (0≤t471)=false:=decide_eq_false c3
 clear c3
 replace H:=Option.bind_eq_some_iff.mp H
 obtain ⟨t472,A140,H⟩:=H
 replace H:(if t472<0 then (some (4,a0,(⟨#[]⟩:ByteArray))) else (if 0≤(wrap64 ((a0.size:Int) - 1)) then (if (wrap64 ((a0.size:Int) - 1))<(a0.size:Int) then (if (bt a0 (wrap64 ((a0.size:Int) - 1)))=42 then (if 0≤t472 then (if t472≤(a0.size:Int) then (if 0≤(wrap64 (t472+1)) then (if (wrap64 (t472+1))≤(wrap64 ((a0.size:Int) - 1)) then (if (wrap64 ((a0.size:Int) - 1))≤(a0.size:Int) then (some (3,a0.extract 0 (t472:Int).toNat,a0.extract ((wrap64 (t472+1)):Int).toNat ((wrap64 ((a0.size:Int) - 1)):Int).toNat)) else (none)) else (none)) else (none)) else (none)) else (none)) else (if 0≤t472 then (if t472≤(a0.size:Int) then (if 0≤(wrap64 (t472+1)) then (if (wrap64 (t472+1))≤(a0.size:Int) then (some (1,a0.extract 0 (t472:Int).toNat,a0.extract ((wrap64 (t472+1)):Int).toNat a0.size)) else (none)) else (none)) else (none)) else (none))) else (none)) else (none)))=some (r1,r2,r3):=H
 have A14:=Aside0.mk A140
 clear A140
 by_cases c15:t472<0
 ·rw [if_pos c15] at H
  have c15b0:decide (t472<0)=true:=decide_eq_true c15
  clear c15
  simp only [Option.some.injEq,Prod.mk.injEq] at H
  obtain ⟨rfl,rfl,rfl⟩:=H
  go_enter Tryz.func117,Tryz.ntmps117
  go_wp2_with (first|((with_reducible refine gate_dst (N:=2) rfl ?_);refine box_event ?hg (N:=2) ?hd (cs:=#[.int .i64 0, .string (⟨#[]⟩:ByteArray), .string (⟨#[]⟩:ByteArray)]) (t:=127) ?hr ?_;(case hd=>rfl);(case hg=>rfl);(case hr=>first|(go_simp;done)|(go_simp;rfl));intro gb470 hg w16 hbox hb;have BK470:=Aside0.mk hbox;have GW470:Aside0 (w.heap.size≤gb470):=⟨qH⟩;have GE470:=GW470;replace HB:=Aside0.mk (below_step qB hb);clear hb hbox hg)|((with_reducible refine gate_callee (f:=149) rfl ?_);refine goesL_ (some 6) rfl rfl Tryz.func149 qK rfl #[.string a0, .string (⟨#[33,61]⟩:ByteArray)] rfl qG ?_;(with_reducible refine (ebbtideref05_find.calls k a0 (⟨#[33,61]⟩:ByteArray) t471 _ A2.out).mono ?_);rintro e w' ⟨rfl,⟨nd,rfl⟩⟩;refine ⟨_,rfl,?_⟩;(try (rw [drewN_self w16];generalize hq_:World.drewN w16 _=w16;have n0_:Aside0 (w16.heap[gb470]?=some (.cells #[.int .i64 0, .string (⟨#[]⟩:ByteArray), .string (⟨#[]⟩:ByteArray)] 127 (0,0))):=⟨by rw [← hq_];exact (qW BK470)⟩;have n1_:Aside0 (Below w.heap.size w w16):=⟨by rw [← hq_];exact qC⟩;clear BK470 HB hq_;have BK470:=n0_;have HB:=n1_;clear n0_ n1_)))|((with_reducible refine gate_callee (f:=149) rfl ?_);refine goesL_ (some 18) rfl rfl Tryz.func149 qK rfl #[.string a0, .string (⟨#[61]⟩:ByteArray)] rfl qG ?_;(with_reducible refine (ebbtideref05_find.calls k a0 (⟨#[61]⟩:ByteArray) t472 _ A14.out).mono ?_);rintro e w' ⟨rfl,⟨nd,rfl⟩⟩;refine ⟨_,rfl,?_⟩;(try (rw [drewN_self w16];generalize hq_:World.drewN w16 _=w16;have n0_:Aside0 (w16.heap[gb470]?=some (.cells #[.int .i64 0, .string (⟨#[]⟩:ByteArray), .string (⟨#[]⟩:ByteArray)] 127 (0,0))):=⟨by rw [← hq_];exact (qW BK470)⟩;have n1_:Aside0 (Below w.heap.size w w16):=⟨by rw [← hq_];exact qC⟩;clear BK470 HB hq_;have BK470:=n0_;have HB:=n1_;clear n0_ n1_));obtain ⟨hcz17_0,hcz17_1,hcz17_2,hfz17_0,hfz17_1,hfz17_2⟩:=cf3 BK470.out))
  refine bodyPost_ret (results_cell_row rfl _ _ gb470 127 #[.int .i64 4, .string a0, .string (⟨#[]⟩:ByteArray)] (0,0) _ rfl (by (with_reducible repeat (first|refine blk_drewN ?_ _|refine blk_drew ?_|refine blk_alloc ?_ _));refine blk_put (cs:=#[.int .i64 4, .string a0, .string (⟨#[]⟩:ByteArray)]) ?_ 2 _ rfl;(with_reducible repeat (first|refine blk_drewN ?_ _|refine blk_drew ?_|refine blk_alloc ?_ _));refine blk_put (cs:=#[.int .i64 4, .string (⟨#[]⟩:ByteArray), .string (⟨#[]⟩:ByteArray)]) ?_ 1 _ rfl;(with_reducible repeat (first|refine blk_drewN ?_ _|refine blk_drew ?_|refine blk_alloc ?_ _));refine blk_put (cs:=#[.int .i64 0, .string (⟨#[]⟩:ByteArray), .string (⟨#[]⟩:ByteArray)]) ?_ 0 _ rfl;(with_reducible repeat (first|refine blk_drewN ?_ _|refine blk_drew ?_|refine blk_alloc ?_ _));exact BK470.out) Tryz.underlying127 rfl qK) rfl ?_
  exact ⟨qE,qC⟩
 rw [if_neg c15] at H
 have c15b0:decide (t472<0)=false:=decide_eq_false c15
 clear c15
 obtain ⟨ji18,hji18⟩:∃ j_:Int,(wrap64 ((a0.size:Int) - 1))=j_:=⟨_,rfl⟩
 replace H:(if 0≤(ji18) then (if (ji18)<(a0.size:Int) then (if (bt a0 (ji18))=42 then (if 0≤t472 then (if t472≤(a0.size:Int) then (if 0≤(wrap64 (t472+1)) then (if (wrap64 (t472+1))≤(ji18) then (if (ji18)≤(a0.size:Int) then (some (3,a0.extract 0 (t472:Int).toNat,a0.extract ((wrap64 (t472+1)):Int).toNat ((ji18):Int).toNat)) else (none)) else (none)) else (none)) else (none)) else (none)) else (if 0≤t472 then (if t472≤(a0.size:Int) then (if 0≤(wrap64 (t472+1)) then (if (wrap64 (t472+1))≤(a0.size:Int) then (some (1,a0.extract 0 (t472:Int).toNat,a0.extract ((wrap64 (t472+1)):Int).toNat a0.size)) else (none)) else (none)) else (none)) else (none))) else (none)) else (none))=some (r1,r2,r3):=by first|(rw [hji18] at H;exact H)|(simp only [hji18] at H ⊢;exact H)
 (try rw [hji18] at A2)
 (try rw [hji18] at A14)
 have hji18w:(IntKind.i64.wrap ((a0.size:Int) - 1))=ji18:=(i64_w _).trans hji18
 by_cases c19:0≤(ji18)
 rotate_left
 ·rw [if_neg c19] at H
  exact absurd H (by simp)
 rw [if_pos c19] at H
 have c19b0:decide (0≤(ji18))=true:=decide_eq_true c19
 clear c19
 by_cases c20:(ji18)<(a0.size:Int)
 rotate_left
 ·rw [if_neg c20] at H
  exact absurd H (by simp)
 rw [if_pos c20] at H
 have c20b0:decide ((ji18)<(a0.size:Int))=true:=decide_eq_true c20
 clear c20
 by_cases c22:(bt a0 (ji18))=42
 rotate_left
 ·rw [if_neg c22] at H
  have c22b0:((bt a0 (ji18)) ==42)=false:=beq_eq_false_iff_ne.mpr c22
  have c22b1:((bt a0 (ji18)) != 42)=true:=bne_iff_ne.mpr c22
  by_cases c34:0≤t472
  rotate_left
  ·rw [if_neg c34] at H
   exact absurd H (by simp)
  rw [if_pos c34] at H
  have c34b0:=eq_true c34
  have c34b1:decide (0≤t472)=true:=decide_eq_true c34
  clear c34
  by_cases c35:t472≤(a0.size:Int)
  rotate_left
  ·rw [if_neg c35] at H
   exact absurd H (by simp)
  rw [if_pos c35] at H
  have c35b0:=eq_true c35
  have c35b1:decide (t472≤(a0.size:Int))=true:=decide_eq_true c35
  clear c35
  obtain ⟨ji36,hji36⟩:∃ j_:Int,(wrap64 (t472+1))=j_:=⟨_,rfl⟩
  replace H:(if 0≤(ji36) then (if (ji36)≤(a0.size:Int) then (some (1,a0.extract 0 (t472:Int).toNat,a0.extract ((ji36):Int).toNat a0.size)) else (none)) else (none))=some (r1,r2,r3):=by first|(rw [hji36] at H;exact H)|(simp only [hji36] at H ⊢;exact H)
  (try rw [hji36] at A2)
  (try rw [hji36] at A14)
  have hji36w:(IntKind.i64.wrap (t472+1))=ji36:=(i64_w _).trans hji36
  by_cases c37:0≤(ji36)
  rotate_left
  ·rw [if_neg c37] at H
   exact absurd H (by simp)
  rw [if_pos c37] at H
  have c37b0:=eq_true c37
  have c37b1:decide (0≤(ji36))=true:=decide_eq_true c37
  clear c37
  by_cases c38:(ji36)≤(a0.size:Int)
  rotate_left
  ·rw [if_neg c38] at H
   exact absurd H (by simp)
  rw [if_pos c38] at H
  have c38b0:=eq_true c38
  have c38b1:decide ((ji36)≤(a0.size:Int))=true:=decide_eq_true c38
  clear c38
  simp only [Option.some.injEq,Prod.mk.injEq] at H
  obtain ⟨rfl,rfl,rfl⟩:=H
  go_enter Tryz.func117,Tryz.ntmps117
  try go_wp2_with (first|((with_reducible refine gate_dst (N:=2) rfl ?_);refine box_event ?hg (N:=2) ?hd (cs:=#[.int .i64 0, .string (⟨#[]⟩:ByteArray), .string (⟨#[]⟩:ByteArray)]) (t:=127) ?hr ?_;(case hd=>rfl);(case hg=>rfl);(case hr=>first|(go_simp;done)|(go_simp;rfl));intro gb470 hg w39 hbox hb;have BK470:=Aside0.mk hbox;have GW470:Aside0 (w.heap.size≤gb470):=⟨qH⟩;have GE470:=GW470;replace HB:=Aside0.mk (below_step qB hb);clear hb hbox hg)|((with_reducible refine gate_callee (f:=149) rfl ?_);refine goesL_ (some 6) rfl rfl Tryz.func149 qK rfl #[.string a0, .string (⟨#[33,61]⟩:ByteArray)] rfl qG ?_;(with_reducible refine (ebbtideref05_find.calls k a0 (⟨#[33,61]⟩:ByteArray) t471 _ A2.out).mono ?_);rintro e w' ⟨rfl,⟨nd,rfl⟩⟩;refine ⟨_,rfl,?_⟩;(try (rw [drewN_self w39];generalize hq_:World.drewN w39 _=w39;have n0_:Aside0 (w39.heap[gb470]?=some (.cells #[.int .i64 0, .string (⟨#[]⟩:ByteArray), .string (⟨#[]⟩:ByteArray)] 127 (0,0))):=⟨by rw [← hq_];exact (qW BK470)⟩;have n1_:Aside0 (Below w.heap.size w w39):=⟨by rw [← hq_];exact qC⟩;clear BK470 HB hq_;have BK470:=n0_;have HB:=n1_;clear n0_ n1_)))|((with_reducible refine gate_callee (f:=149) rfl ?_);refine goesL_ (some 18) rfl rfl Tryz.func149 qK rfl #[.string a0, .string (⟨#[61]⟩:ByteArray)] rfl qG ?_;(with_reducible refine (ebbtideref05_find.calls k a0 (⟨#[61]⟩:ByteArray) t472 _ A14.out).mono ?_);rintro e w' ⟨rfl,⟨nd,rfl⟩⟩;refine ⟨_,rfl,?_⟩;(try (rw [drewN_self w39];generalize hq_:World.drewN w39 _=w39;have n0_:Aside0 (w39.heap[gb470]?=some (.cells #[.int .i64 0, .string (⟨#[]⟩:ByteArray), .string (⟨#[]⟩:ByteArray)] 127 (0,0))):=⟨by rw [← hq_];exact (qW BK470)⟩;have n1_:Aside0 (Below w.heap.size w w39):=⟨by rw [← hq_];exact qC⟩;clear BK470 HB hq_;have BK470:=n0_;have HB:=n1_;clear n0_ n1_));have p21:0≤((ji18):Int):=of_decide_eq_true qA;have q21:(ji18)<(a0.size:Int):=of_decide_eq_true qA;have hx21:=bt_at a0 (ji18);replace p21:=eq_true p21;replace q21:=eq_true q21))
  replace BK470:=Aside0.mk (blk_drew BK470.out)
  replace HB:=Aside0.mk (below_drew1 HB.out)
  refine start_ (n:=9) (S:=fun w'=>True) (ds:=[]) #[false,false,false,false,false,false,false,false,false] qK rfl rfl trivial (fun hHeld=>?_);refine with_tabW ebbtideref05_part.tab9 ebbtideref05_part.bits9 (fun HT_ HW_=>?_)
  generalize w39.drew=w40 at BK470 HB hHeld ⊢
  refine pure_ (i:=0) (N:=some 40) (v:=?_) (a':=?_) #[true,false,false,false,false,false,false,false,false] rfl rfl (any_of HT_.out qK) (fun _ _ _ h=>h) (Or.inl ⟨by rfl,?_⟩) ?_ ?_
  rotate_left
  ·intro w';go_simp;with_reducible rfl
  rotate_left
  ·simp only [Act.put,List.setIfInBounds_toArray,List.set_cons_zero,List.set_cons_succ,i64_w,i32_w];rfl
  refine pure_ (i:=1) (N:=some 41) (v:=?_) (a':=?_) #[true,true,false,false,false,false,false,false,false] rfl rfl (any_of HT_.out qK) (fun _ _ _ h=>h) (Or.inl ⟨by rfl,?_⟩) ?_ ?_
  rotate_left
  ·intro w';go_simp;with_reducible rfl
  rotate_left
  ·simp only [Act.put,List.setIfInBounds_toArray,List.set_cons_zero,List.set_cons_succ,i64_w,i32_w];rfl
  refine pure_ (i:=2) (N:=some 42) (v:=?_) (a':=?_) #[true,true,true,false,false,false,false,false,false] rfl rfl (any_of HT_.out qK) (fun _ _ _ h=>h) (Or.inl ⟨by rfl,?_⟩) ?_ ?_
  rotate_left
  ·intro w';go_simp;with_reducible rfl
  rotate_left
  ·simp only [Act.put,List.setIfInBounds_toArray,List.set_cons_zero,List.set_cons_succ,i64_w,i32_w];rfl
  refine pure_ (i:=3) (N:=some 43) (v:=?_) (a':=?_) #[true,true,true,true,false,false,false,false,false] rfl rfl (any_of HT_.out qK) (fun _ _ _ h=>h) (Or.inl ⟨by rfl,?_⟩) ?_ ?_
  rotate_left
  ·intro w';go_simp;with_reducible rfl
  rotate_left
  ·simp only [Act.put,List.setIfInBounds_toArray,List.set_cons_zero,List.set_cons_succ,i64_w,i32_w];rfl
  refine pure_ (i:=4) (N:=some 44) (v:=?_) (a':=?_) #[true,true,true,true,true,false,false,false,false] rfl rfl (any_of HT_.out qK) (fun _ _ _ h=>h) (Or.inl ⟨by rfl,?_⟩) ?_ ?_
  rotate_left
  ·intro w';go_simp;with_reducible rfl
  rotate_left
  ·simp only [Act.put,List.setIfInBounds_toArray,List.set_cons_zero,List.set_cons_succ,i64_w,i32_w];rfl
  refine pure_ (i:=5) (N:=some 45) (v:=?_) (a':=?_) #[true,true,true,true,true,true,false,false,false] rfl rfl (any_of HT_.out qK) (fun _ _ _ h=>h) (Or.inl ⟨by rfl,?_⟩) ?_ ?_
  rotate_left
  ·intro w';go_simp;with_reducible rfl
  rotate_left
  ·simp only [Act.put,List.setIfInBounds_toArray,List.set_cons_zero,List.set_cons_succ,i64_w,i32_w];rfl
  refine pure_ (i:=6) (N:=some 46) (v:=?_) (a':=?_) #[true,true,true,true,true,true,true,false,false] rfl rfl (any_of HT_.out qK) (fun _ _ _ h=>h) (Or.inl ⟨by rfl,?_⟩) ?_ ?_
  rotate_left
  ·intro w';go_simp;with_reducible rfl
  rotate_left
  ·simp only [Act.put,List.setIfInBounds_toArray,List.set_cons_zero,List.set_cons_succ,i64_w,i32_w];rfl
  refine pure_ (i:=7) (N:=some 47) (v:=?_) (a':=?_) #[true,true,true,true,true,true,true,true,false] rfl rfl (any_of HT_.out qK) (fun _ _ _ h=>h) (Or.inl ⟨by rfl,?_⟩) ?_ ?_
  rotate_left
  ·intro w';go_simp;with_reducible rfl
  rotate_left
  ·simp only [Act.put,List.setIfInBounds_toArray,List.set_cons_zero,List.set_cons_succ,i64_w,i32_w];rfl
  refine one_ (i:=8) (N:=none) #[true,true,true,true,true,true,true,true,true] rfl rfl (one_of HT_.out qK) (by decide) (fun K hK=>?_)
  have hs41:w40.cell? ⟨gb470,0,none⟩=some (.int .i64 0):=(blk_cell BK470.out 0).trans rfl
  have hfs41:=blk_frozen BK470.out 0
  have hs42:w40.cell? ⟨gb470,1,none⟩=some (.string (⟨#[]⟩:ByteArray)):=(blk_cell BK470.out 1).trans rfl
  have hfs42:=blk_frozen BK470.out 1
  have hs43:w40.cell? ⟨gb470,2,none⟩=some (.string (⟨#[]⟩:ByteArray)):=(blk_cell BK470.out 2).trans rfl
  have hfs43:=blk_frozen BK470.out 2
  refine skip_ (w1:=?_) (by rfl) rfl ?_ ?_
  rotate_left
  ·go_simp
   rfl
  refine hK.out _ _ trivial (fun hHeld=>?_)
  clear hK K
  refine done_ (done_of HT_.out qK) ?_
  try go_wp2
  refine bodyPost_ret (results_cell_row rfl _ _ gb470 127 #[.int .i64 1, .string (a0.extract 0 (t472:Int).toNat), .string (a0.extract ((ji36):Int).toNat a0.size)] (0,0) _ rfl (by (with_reducible repeat (first|refine blk_drewN ?_ _|refine blk_drew ?_|refine blk_alloc ?_ _));refine blk_put (cs:=#[.int .i64 1, .string (a0.extract 0 (t472:Int).toNat), .string (⟨#[]⟩:ByteArray)]) ?_ 2 _ rfl;(with_reducible repeat (first|refine blk_drewN ?_ _|refine blk_drew ?_|refine blk_alloc ?_ _));refine blk_put (cs:=#[.int .i64 1, .string (⟨#[]⟩:ByteArray), .string (⟨#[]⟩:ByteArray)]) ?_ 1 _ rfl;(with_reducible repeat (first|refine blk_drewN ?_ _|refine blk_drew ?_|refine blk_alloc ?_ _));refine blk_put (cs:=#[.int .i64 0, .string (⟨#[]⟩:ByteArray), .string (⟨#[]⟩:ByteArray)]) ?_ 0 _ rfl;(with_reducible repeat (first|refine blk_drewN ?_ _|refine blk_drew ?_|refine blk_alloc ?_ _));exact BK470.out) Tryz.underlying127 rfl qK) rfl ?_
  exact ⟨by first|rfl|(simp [errW_none,errW_some]<;>rfl)|(simp only [← hji18,← hji36];first|rfl|(simp [errW_none,errW_some]<;>rfl))|(simp [*,errW_none,errW_some]<;>rfl),qC⟩
 rw [if_pos c22] at H
 have c22b0:((bt a0 (ji18)) ==42)=true:=beq_iff_eq.mpr c22
 have c22b1:((bt a0 (ji18)) != 42)=false:=bne_eq_false_iff_eq.mpr c22
 clear c22
 by_cases c23:0≤t472
 rotate_left
 ·rw [if_neg c23] at H
  exact absurd H (by simp)
 rw [if_pos c23] at H
 have c23b0:=eq_true c23
 have c23b1:decide (0≤t472)=true:=decide_eq_true c23
 clear c23
 by_cases c24:t472≤(a0.size:Int)
 rotate_left
 ·rw [if_neg c24] at H
  exact absurd H (by simp)
 rw [if_pos c24] at H
 have c24b0:=eq_true c24
 have c24b1:decide (t472≤(a0.size:Int))=true:=decide_eq_true c24
 clear c24
 obtain ⟨ji25,hji25⟩:∃ j_:Int,(wrap64 (t472+1))=j_:=⟨_,rfl⟩
 replace H:(if 0≤(ji25) then (if (ji25)≤(ji18) then (if (ji18)≤(a0.size:Int) then (some (3,a0.extract 0 (t472:Int).toNat,a0.extract ((ji25):Int).toNat ((ji18):Int).toNat)) else (none)) else (none)) else (none))=some (r1,r2,r3):=by first|(rw [hji25] at H;exact H)|(simp only [hji25] at H ⊢;exact H)
 (try rw [hji25] at A2)
 (try rw [hji25] at A14)
 have hji25w:(IntKind.i64.wrap (t472+1))=ji25:=(i64_w _).trans hji25
 by_cases c26:0≤(ji25)
 rotate_left
 ·rw [if_neg c26] at H
  exact absurd H (by simp)
 rw [if_pos c26] at H
 have c26b0:=eq_true c26
 have c26b1:decide (0≤(ji25))=true:=decide_eq_true c26
 clear c26
 by_cases c27:(ji25)≤(ji18)
 rotate_left
 ·rw [if_neg c27] at H
  exact absurd H (by simp)
 rw [if_pos c27] at H
 have c27b0:=eq_true c27
 have c27b1:decide ((ji25)≤(ji18))=true:=decide_eq_true c27
 clear c27
 by_cases c28:(ji18)≤(a0.size:Int)
 rotate_left
 ·rw [if_neg c28] at H
  exact absurd H (by simp)
 rw [if_pos c28] at H
 have c28b0:=eq_true c28
 have c28b1:decide ((ji18)≤(a0.size:Int))=true:=decide_eq_true c28
 clear c28
 simp only [Option.some.injEq,Prod.mk.injEq] at H
 obtain ⟨rfl,rfl,rfl⟩:=H
 go_enter Tryz.func117,Tryz.ntmps117
 try go_wp2_with (first|((with_reducible refine gate_dst (N:=2) rfl ?_);refine box_event ?hg (N:=2) ?hd (cs:=#[.int .i64 0, .string (⟨#[]⟩:ByteArray), .string (⟨#[]⟩:ByteArray)]) (t:=127) ?hr ?_;(case hd=>rfl);(case hg=>rfl);(case hr=>first|(go_simp;done)|(go_simp;rfl));intro gb470 hg w29 hbox hb;have BK470:=Aside0.mk hbox;have GW470:Aside0 (w.heap.size≤gb470):=⟨qH⟩;have GE470:=GW470;replace HB:=Aside0.mk (below_step qB hb);clear hb hbox hg)|((with_reducible refine gate_callee (f:=149) rfl ?_);refine goesL_ (some 6) rfl rfl Tryz.func149 qK rfl #[.string a0, .string (⟨#[33,61]⟩:ByteArray)] rfl qG ?_;(with_reducible refine (ebbtideref05_find.calls k a0 (⟨#[33,61]⟩:ByteArray) t471 _ A2.out).mono ?_);rintro e w' ⟨rfl,⟨nd,rfl⟩⟩;refine ⟨_,rfl,?_⟩;(try (rw [drewN_self w29];generalize hq_:World.drewN w29 _=w29;have n0_:Aside0 (w29.heap[gb470]?=some (.cells #[.int .i64 0, .string (⟨#[]⟩:ByteArray), .string (⟨#[]⟩:ByteArray)] 127 (0,0))):=⟨by rw [← hq_];exact (qW BK470)⟩;have n1_:Aside0 (Below w.heap.size w w29):=⟨by rw [← hq_];exact qC⟩;clear BK470 HB hq_;have BK470:=n0_;have HB:=n1_;clear n0_ n1_)))|((with_reducible refine gate_callee (f:=149) rfl ?_);refine goesL_ (some 18) rfl rfl Tryz.func149 qK rfl #[.string a0, .string (⟨#[61]⟩:ByteArray)] rfl qG ?_;(with_reducible refine (ebbtideref05_find.calls k a0 (⟨#[61]⟩:ByteArray) t472 _ A14.out).mono ?_);rintro e w' ⟨rfl,⟨nd,rfl⟩⟩;refine ⟨_,rfl,?_⟩;(try (rw [drewN_self w29];generalize hq_:World.drewN w29 _=w29;have n0_:Aside0 (w29.heap[gb470]?=some (.cells #[.int .i64 0, .string (⟨#[]⟩:ByteArray), .string (⟨#[]⟩:ByteArray)] 127 (0,0))):=⟨by rw [← hq_];exact (qW BK470)⟩;have n1_:Aside0 (Below w.heap.size w w29):=⟨by rw [← hq_];exact qC⟩;clear BK470 HB hq_;have BK470:=n0_;have HB:=n1_;clear n0_ n1_));have p21:0≤((ji18):Int):=of_decide_eq_true qA;have q21:(ji18)<(a0.size:Int):=of_decide_eq_true qA;have hx21:=bt_at a0 (ji18);replace p21:=eq_true p21;replace q21:=eq_true q21))
 replace BK470:=Aside0.mk (blk_drew BK470.out)
 replace HB:=Aside0.mk (below_drew1 HB.out)
 refine start_ (n:=12) (S:=fun w'=>True) (ds:=[]) #[false,false,false,false,false,false,false,false,false,false,false,false] qK rfl rfl trivial (fun hHeld=>?_);refine with_tabW ebbtideref05_part.tab8 ebbtideref05_part.bits8 (fun HT_ HW_=>?_)
 generalize w29.drew=w30 at BK470 HB hHeld ⊢
 refine pure_ (i:=0) (N:=some 29) (v:=?_) (a':=?_) #[true,false,false,false,false,false,false,false,false,false,false,false] rfl rfl (any_of HT_.out qK) (fun _ _ _ h=>h) (Or.inl ⟨by rfl,?_⟩) ?_ ?_
 rotate_left
 ·intro w';go_simp;with_reducible rfl
 rotate_left
 ·simp only [Act.put,List.setIfInBounds_toArray,List.set_cons_zero,List.set_cons_succ,i64_w,i32_w];rfl
 refine pure_ (i:=1) (N:=some 30) (v:=?_) (a':=?_) #[true,true,false,false,false,false,false,false,false,false,false,false] rfl rfl (any_of HT_.out qK) (fun _ _ _ h=>h) (Or.inl ⟨by rfl,?_⟩) ?_ ?_
 rotate_left
 ·intro w';go_simp;with_reducible rfl
 rotate_left
 ·simp only [Act.put,List.setIfInBounds_toArray,List.set_cons_zero,List.set_cons_succ,i64_w,i32_w];rfl
 refine pure_ (i:=2) (N:=some 31) (v:=?_) (a':=?_) #[true,true,true,false,false,false,false,false,false,false,false,false] rfl rfl (any_of HT_.out qK) (fun _ _ _ h=>h) (Or.inl ⟨by rfl,?_⟩) ?_ ?_
 rotate_left
 ·intro w';go_simp;with_reducible rfl
 rotate_left
 ·simp only [Act.put,List.setIfInBounds_toArray,List.set_cons_zero,List.set_cons_succ,i64_w,i32_w];rfl
 refine pure_ (i:=3) (N:=some 32) (v:=?_) (a':=?_) #[true,true,true,true,false,false,false,false,false,false,false,false] rfl rfl (any_of HT_.out qK) (fun _ _ _ h=>h) (Or.inl ⟨by rfl,?_⟩) ?_ ?_
 rotate_left
 ·intro w';go_simp;with_reducible rfl
 rotate_left
 ·simp only [Act.put,List.setIfInBounds_toArray,List.set_cons_zero,List.set_cons_succ,i64_w,i32_w];rfl
 refine pure_ (i:=4) (N:=some 33) (v:=?_) (a':=?_) #[true,true,true,true,true,false,false,false,false,false,false,false] rfl rfl (any_of HT_.out qK) (fun _ _ _ h=>h) (Or.inl ⟨by rfl,?_⟩) ?_ ?_
 rotate_left
 ·intro w';go_simp;with_reducible rfl
 rotate_left
 ·simp only [Act.put,List.setIfInBounds_toArray,List.set_cons_zero,List.set_cons_succ,i64_w,i32_w];rfl
 refine pure_ (i:=5) (N:=some 34) (v:=?_) (a':=?_) #[true,true,true,true,true,true,false,false,false,false,false,false] rfl rfl (any_of HT_.out qK) (fun _ _ _ h=>h) (Or.inl ⟨by rfl,?_⟩) ?_ ?_
 rotate_left
 ·intro w';go_simp;with_reducible rfl
 rotate_left
 ·simp only [Act.put,List.setIfInBounds_toArray,List.set_cons_zero,List.set_cons_succ,i64_w,i32_w];rfl
 refine pure_ (i:=6) (N:=some 35) (v:=?_) (a':=?_) #[true,true,true,true,true,true,true,false,false,false,false,false] rfl rfl (any_of HT_.out qK) (fun _ _ _ h=>h) (Or.inl ⟨by rfl,?_⟩) ?_ ?_
 rotate_left
 ·intro w';go_simp;with_reducible rfl
 rotate_left
 ·simp only [Act.put,List.setIfInBounds_toArray,List.set_cons_zero,List.set_cons_succ,i64_w,i32_w];rfl
 refine pure_ (i:=7) (N:=some 36) (v:=?_) (a':=?_) #[true,true,true,true,true,true,true,true,false,false,false,false] rfl rfl (any_of HT_.out qK) (fun _ _ _ h=>h) (Or.inl ⟨by rfl,?_⟩) ?_ ?_
 rotate_left
 ·intro w';go_simp;with_reducible rfl
 rotate_left
 ·simp only [Act.put,List.setIfInBounds_toArray,List.set_cons_zero,List.set_cons_succ,i64_w,i32_w];rfl
 refine pure_ (i:=8) (N:=some 37) (v:=?_) (a':=?_) #[true,true,true,true,true,true,true,true,true,false,false,false] rfl rfl (any_of HT_.out qK) (fun _ _ _ h=>h) (Or.inl ⟨by rfl,?_⟩) ?_ ?_
 rotate_left
 ·intro w';go_simp;with_reducible rfl
 rotate_left
 ·simp only [Act.put,List.setIfInBounds_toArray,List.set_cons_zero,List.set_cons_succ,i64_w,i32_w];rfl
 refine pure_ (i:=9) (N:=some 38) (v:=?_) (a':=?_) #[true,true,true,true,true,true,true,true,true,true,false,false] rfl rfl (any_of HT_.out qK) (fun _ _ _ h=>h) (Or.inl ⟨by rfl,?_⟩) ?_ ?_
 rotate_left
 ·intro w';go_simp;with_reducible rfl
 rotate_left
 ·simp only [Act.put,List.setIfInBounds_toArray,List.set_cons_zero,List.set_cons_succ,i64_w,i32_w];rfl
 refine pure_ (i:=10) (N:=some 39) (v:=?_) (a':=?_) #[true,true,true,true,true,true,true,true,true,true,true,false] rfl rfl (any_of HT_.out qK) (fun _ _ _ h=>h) (Or.inl ⟨by rfl,?_⟩) ?_ ?_
 rotate_left
 ·intro w';go_simp;with_reducible rfl
 rotate_left
 ·simp only [Act.put,List.setIfInBounds_toArray,List.set_cons_zero,List.set_cons_succ,i64_w,i32_w];rfl
 refine one_ (i:=11) (N:=none) #[true,true,true,true,true,true,true,true,true,true,true,true] rfl rfl (one_of HT_.out qK) (by decide) (fun K hK=>?_)
 have hs31:w30.cell? ⟨gb470,0,none⟩=some (.int .i64 0):=(blk_cell BK470.out 0).trans rfl
 have hfs31:=blk_frozen BK470.out 0
 have hs32:w30.cell? ⟨gb470,1,none⟩=some (.string (⟨#[]⟩:ByteArray)):=(blk_cell BK470.out 1).trans rfl
 have hfs32:=blk_frozen BK470.out 1
 have hs33:w30.cell? ⟨gb470,2,none⟩=some (.string (⟨#[]⟩:ByteArray)):=(blk_cell BK470.out 2).trans rfl
 have hfs33:=blk_frozen BK470.out 2
 refine skip_ (w1:=?_) (by rfl) rfl ?_ ?_
 rotate_left
 ·go_simp
  rfl
 refine hK.out _ _ trivial (fun hHeld=>?_)
 clear hK K
 refine done_ (done_of HT_.out qK) ?_
 try go_wp2
 refine bodyPost_ret (results_cell_row rfl _ _ gb470 127 #[.int .i64 3, .string (a0.extract 0 (t472:Int).toNat), .string (a0.extract ((ji25):Int).toNat ((ji18):Int).toNat)] (0,0) _ rfl (by (with_reducible repeat (first|refine blk_drewN ?_ _|refine blk_drew ?_|refine blk_alloc ?_ _));refine blk_put (cs:=#[.int .i64 3, .string (a0.extract 0 (t472:Int).toNat), .string (⟨#[]⟩:ByteArray)]) ?_ 2 _ rfl;(with_reducible repeat (first|refine blk_drewN ?_ _|refine blk_drew ?_|refine blk_alloc ?_ _));refine blk_put (cs:=#[.int .i64 3, .string (⟨#[]⟩:ByteArray), .string (⟨#[]⟩:ByteArray)]) ?_ 1 _ rfl;(with_reducible repeat (first|refine blk_drewN ?_ _|refine blk_drew ?_|refine blk_alloc ?_ _));refine blk_put (cs:=#[.int .i64 0, .string (⟨#[]⟩:ByteArray), .string (⟨#[]⟩:ByteArray)]) ?_ 0 _ rfl;(with_reducible repeat (first|refine blk_drewN ?_ _|refine blk_drew ?_|refine blk_alloc ?_ _));exact BK470.out) Tryz.underlying127 rfl qK) rfl ?_
 exact ⟨by first|rfl|(simp [errW_none,errW_some]<;>rfl)|(simp only [← hji18,← hji25];first|rfl|(simp [errW_none,errW_some]<;>rfl))|(simp [*,errW_none,errW_some]<;>rfl),qC⟩
end Go.Proofs.YteaadaaghhojfaaGreatDoor.PQu
