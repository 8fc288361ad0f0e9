import Derived.Test.YteaadaaghhojfaaGreatDoorZQdPQux0
import Derived.Test.YteaadaaghhojfaaGreatDoorZQdPQux5
import Derived.Test.YteaadaaghhojfaaGreatDoorZQdPQux10
import Derived.Test.YteaadaaghhojfaaGreatDoorZQdPQux11
import Derived.Test.YteaadaaghhojfaaGreatDoorZQdPQux12
import Derived.Test.YteaadaaghhojfaaGreatDoorZQdPQux19
namespace Go.Proofs.YteaadaaghhojfaaGreatDoor.PQu
open Go.RowKit Go.Proofs.YteaadaaghhojfaaGreatDoorW.PrintWords Go.Proofs.YteaadaaghhojfaaGreatDoorW.PrintLast Go.Proofs.YteaadaaghhojfaaGreatDoorW.PrintMore
attribute [local go_sem] max2_int min2_int max_two min_two max_three min_three max_four min_four
set_option linter.unusedVariables false
set_option linter.unusedSimpArgs false
set_option maxHeartbeats 8000000
set_option maxRecDepth 100000
def ebbtideref03_Text.l0:Nat→List (S93)→List ByteArray→Int→Option (ByteArray)
 | 0,_,_,_=>none
 | k+1,x0,x3,x4=>if x4<(x0.length:Int) then (if 0≤x4 then (if ((rd_T93 x0 x4).f0).size+1≤9223372036854775807 then (if ((rd_T93 x0 x4).f0).size+1+((rd_T93 x0 x4).f1).size≤9223372036854775807 then (if x3.length<8796093022208 then (ebbtideref03_Text.l0 k x0 (x3++[(((rd_T93 x0 x4).f0)++(⟨#[61]⟩:ByteArray))++((rd_T93 x0 x4).f1)]) (wrap64 (x4+1))) else (none)) else (none)) else (none)) else (none)) else ((ebbtideref02_Join.f k (⟨#[44]⟩:ByteArray) x3).bind fun t554=>(some t554))
def ebbtideref03_Text.f (k:Nat) (l0:List (S93)):Option (ByteArray):=ebbtideref03_Text.l0 k l0 ([]:List ByteArray) 0
theorem ebbtideref03_Text.mono_l:∀ k,(∀ y0 y1 y2,LeO (ebbtideref03_Text.l0 k y0 y1 y2) (ebbtideref03_Text.l0 (k+1) y0 y1 y2))
 | 0=>fun _ _ _ r h=>by simp [ebbtideref03_Text.l0] at h
 | k+1=>by
  have ih0:=ebbtideref03_Text.mono_l k
  ·intro y0 y1 y2
   unfold ebbtideref03_Text.l0
   repeat' first
   | (with_reducible exact ih0 _ _ _)
   | (with_reducible exact ebbtideref02_Join.mono _ _ _)
   | (with_reducible exact LeO.refl _)
   | (with_reducible exact LeO.none _)
   | (with_reducible refine LeO.ite ?_ ?_)
   | (with_reducible refine LeO.bind ?_ (fun _=>?_))
   | exact ih0 _ _ _
   | exact ebbtideref02_Join.mono _ _ _
   | exact LeO.none _
   | refine LeO.ite ?_ ?_
   | refine LeO.bind ?_ (fun _=>?_)
theorem ebbtideref03_Text.mono:∀ a0 k,LeO (ebbtideref03_Text.f k a0) (ebbtideref03_Text.f (k+1) a0):=by
 intro a0 k
 have ih0:=ebbtideref03_Text.mono_l k
 unfold ebbtideref03_Text.f
 repeat' first
   | (with_reducible exact ih0 _ _ _)
   | (with_reducible exact ebbtideref02_Join.mono _ _ _)
   | (with_reducible exact LeO.refl _)
   | (with_reducible exact LeO.none _)
   | (with_reducible refine LeO.ite ?_ ?_)
   | (with_reducible refine LeO.bind ?_ (fun _=>?_))
   | exact ih0 _ _ _
   | exact ebbtideref02_Join.mono _ _ _
   | exact LeO.none _
   | refine LeO.ite ?_ ?_
   | refine LeO.bind ?_ (fun _=>?_)
def ebbtideref03_Text.T5:Bool×List (List Nat×List Nat):=(true,[([],[]),([],[]),([],[]),([1,2],[1,2]),([3],[3]),([4],[4]),([5],[5]),([],[]),([],[]),([7,8],[7,8]),([9],[9]),([10],[10]),([6,11],[6,11]),([12],[12]),([0,13],[0,13]),([14,14,0,1,2,3,4,5,6,7,8,9,10,11,12,13,14],[0,14])])
def ebbtideref03_Text.B5:List Nat:=[0,0,0,6,14,30,62,0,0,384,896,1920,4094,8190,16383,32767]
theorem ebbtideref03_Text.tab5:rtab .any (opsOf Tryz.f77 5)=ebbtideref03_Text.T5:=qK
theorem ebbtideref03_Text.bits5:waitsOk ebbtideref03_Text.T5.2 ebbtideref03_Text.B5=true:=qK
theorem ebbtideref03_Text.calls (k:Nat) (A0:Option Addr) (c0:Nat) (l0:List (S93)) (r:ByteArray) (w:World) (hr0:Kd.C k93 w A0 l0.length l0) (hc0:l0.length≤c0) (h:ebbtideref03_Text.f k l0=some r) :
  Calls Tryz.prog 77 #[.slice A0 l0.length c0] w fun e w'=>e = .returned (.string r)∧Below w.heap.size w w':=by
 have HR0:=Aside0.mk hr0
 have HC0:=Aside0.mk hc0
 clear hr0 hc0
 have HB:=Aside0.mk (Below.refl w.heap.size w)
 have H:(ebbtideref03_Text.l0 k l0 ([]:List ByteArray) 0)=some r:=h
 clear h
 have H':=Aside0.mk H
 clear H
 go_enter Tryz.func77,Tryz.ntmps77
 go_wp2
 go_loopg [3,4] k (fun kq v3 v4 w'=>∃ (x3_1:List ByteArray) (x4_1:Int),v4 = .int .i64 x4_1∧Aside0 (ebbtideref03_Text.l0 kq l0 x3_1 x4_1=some r)∧Aside0 (kq≤k)∧Aside0 (Kd.R Kd.string 9 w' w.heap.size (fun _=>True) v3 x3_1)∧Aside0 (Below w.heap.size w w'))
 case atStart=>exact ⟨(([]:List ByteArray)),(0),qS,H',⟨Nat.le_refl _⟩,⟨qN⟩,⟨qB⟩⟩
 case round =>
  clear H'
  obtain ⟨x3_1,x4_1,rfl,HA,HK1,HO_3,HB⟩:=hrel
  cases gk with
  | zero=>exact absurd HA.out (by simp [ebbtideref03_Text.l0])
  | succ k1 =>
   have H:=HA.out
   clear HA
   simp only [ebbtideref03_Text.l0] at H
   by_cases c2:x4_1<(l0.length:Int)
   rotate_left
   ·rw [if_neg c2] at H
    have c2b0:decide (x4_1<(l0.length:Int))=false:=decide_eq_false c2
    clear c2
    replace H:=Option.bind_eq_some_iff.mp H
    obtain ⟨t554,A90,H⟩:=H
    replace H:(some t554)=some r:=H
    have A9:=Aside0.mk A90
    clear A90
    obtain rfl:=Option.some.inj H
    obtain ⟨Ao10,co10,eo10⟩:=Kd.R_slice HO_3.out
    subst eo10
    go_wp2_with (first|((with_reducible refine gate_callee (f:=61) rfl ?_);refine goesL_ (some 27) rfl rfl Tryz.func61 qK rfl #[.string (⟨#[44]⟩:ByteArray), .slice Ao10 x3_1.length co10] rfl qG ?_;(with_reducible refine (ebbtideref02_Join.calls k1 (⟨#[44]⟩:ByteArray) _ _ x3_1 t554 _ ?side1 ?side2 A9.out).mono ?_);(case side1=>repeat (first|exact (Kd.R_reads' HO_3.out).2.2|(with_reducible refine Kd.C_alloc ?_ _)|(with_reducible refine Kd.C_drewN ?_ _)|(with_reducible refine Kd.C_drew ?_)));(case side2=>exact (Kd.R_reads' HO_3.out).2.1);rintro e w' ⟨rfl,⟨nd,rfl⟩⟩;refine ⟨_,rfl,?_⟩))
    go_ret
    exact ⟨qE,qB⟩
   rw [if_pos c2] at H
   have c2b0:decide (x4_1<(l0.length:Int))=true:=decide_eq_true c2
   clear c2
   by_cases c3:0≤x4_1
   rotate_left
   ·rw [if_neg c3] at H
    exact absurd H (by simp)
   rw [if_pos c3] at H
   have c3b0:decide (0≤x4_1)=true:=decide_eq_true c3
   clear c3
   by_cases c4:((rd_T93 l0 x4_1).f0).size+1≤9223372036854775807
   rotate_left
   ·rw [if_neg c4] at H
    exact absurd H (by simp)
   rw [if_pos c4] at H
   have c4b0:=eq_true c4
   have c4b1:decide (((rd_T93 l0 x4_1).f0).size+1≤9223372036854775807)=true:=decide_eq_true c4
   try have c4b2:(9223372036854775807<((rd_T93 l0 x4_1).f0).size+1)=False:=eq_false (Nat.not_lt.2 c4)
   by_cases c5:((rd_T93 l0 x4_1).f0).size+1+((rd_T93 l0 x4_1).f1).size≤9223372036854775807
   rotate_left
   ·rw [if_neg c5] at H
    exact absurd H (by simp)
   rw [if_pos c5] at H
   have c5b0:=eq_true c5
   have c5b1:decide (((rd_T93 l0 x4_1).f0).size+1+((rd_T93 l0 x4_1).f1).size≤9223372036854775807)=true:=decide_eq_true c5
   try have c5b2:(9223372036854775807<((rd_T93 l0 x4_1).f0).size+1+((rd_T93 l0 x4_1).f1).size)=False:=eq_false (Nat.not_lt.2 c5)
   by_cases c6:x3_1.length<8796093022208
   rotate_left
   ·rw [if_neg c6] at H
    exact absurd H (by simp)
   rw [if_pos c6] at H
   have LMc6:=Aside0.mk c6
   clear c6
   obtain ⟨y551,hy551⟩:∃ y_:List ByteArray,y_=(x3_1++[(((rd_T93 l0 x4_1).f0)++(⟨#[61]⟩:ByteArray))++((rd_T93 l0 x4_1).f1)]):=⟨_,rfl⟩
   replace H:(ebbtideref03_Text.l0 k1 l0 y551 (wrap64 (x4_1+1)))=some r:=by first|(rw [hy551];with_reducible exact H)|(have H2_:=(Option.bind_some _ _).symm.trans H;rw [hy551];with_reducible exact H2_)|(have H2_:=(Option.bind_some _ _).symm.trans H;with_reducible exact H2_)|with_reducible exact H|(rw [hy551];exact H)|exact H
   have Ny551:=Aside0.mk hy551
   clear hy551
   have H':=Aside0.mk H
   clear H
   try go_wp2
   replace HO_3:=Aside0.mk (Kd.R_drew HO_3.out)
   replace HB:=Aside0.mk (below_drew1 HB.out)
   have p549:0≤(x4_1:Int):=of_decide_eq_true qA
   have q549:x4_1<(l0.length:Int):=of_decide_eq_true qA
   obtain ⟨ad549,e549,hx549_0,hx549_1⟩:=at_T93 HR0.out x4_1 p549 q549
   have hw549_1:=hx549_1
   have hw549_0:=hx549_0
   cases e549
   replace hx549_0:=(HB.out.cell (World.block_lt_of_cell? w _ hx549_0)).trans hx549_0
   replace hx549_1:=(HB.out.cell (World.block_lt_of_cell? w _ hx549_1)).trans hx549_1
   replace p549:=eq_true p549
   replace q549:=eq_true q549
   have p550:0≤(x4_1:Int):=of_decide_eq_true qA
   have q550:x4_1<(l0.length:Int):=of_decide_eq_true qA
   obtain ⟨ad550,e550,hx550_0,hx550_1⟩:=at_T93 HR0.out x4_1 p550 q550
   have hw550_1:=hx550_1
   have hw550_0:=hx550_0
   obtain rfl:ad549=ad550:=(by injection e550)
   replace hx550_0:=(HB.out.cell (World.block_lt_of_cell? w _ hx550_0)).trans hx550_0
   replace hx550_1:=(HB.out.cell (World.block_lt_of_cell? w _ hx550_1)).trans hx550_1
   replace p550:=eq_true p550
   replace q550:=eq_true q550
   refine start_ (n:=16) (S:=fun w'=>w'.cell? (ad549.add ((x4_1).toNat * 2))=some (.string ((rd_T93 l0 x4_1).f0))∧w'.cell? ⟨(ad549.add ((x4_1).toNat * 2)).block,(ad549.add ((x4_1).toNat * 2)).off+1,none⟩=some (.string ((rd_T93 l0 x4_1).f1))∧w'.cell? (ad549.add ((x4_1).toNat * 2))=some (.string ((rd_T93 l0 x4_1).f0))∧w'.cell? ⟨(ad549.add ((x4_1).toNat * 2)).block,(ad549.add ((x4_1).toNat * 2)).off+1,none⟩=some (.string ((rd_T93 l0 x4_1).f1))) (ds:=[]) #[false,false,false,false,false,false,false,false,false,false,false,false,false,false,false,false] qK rfl rfl ⟨((HB.out.cell (World.block_lt_of_cell? w _ hw549_0)).trans hw549_0),((HB.out.cell (World.block_lt_of_cell? w _ hw549_1)).trans hw549_1),((HB.out.cell (World.block_lt_of_cell? w _ hw550_0)).trans hw550_0),((HB.out.cell (World.block_lt_of_cell? w _ hw550_1)).trans hw550_1)⟩ (fun hHeld=>?_);refine with_tabW ebbtideref03_Text.tab5 ebbtideref03_Text.bits5 (fun HT_ HW_=>?_)
   generalize wr.drew=w7 at HO_3 HB hx549_0 hx549_1 hx550_0 hx550_1 hHeld ⊢
   refine pure_ (i:=0) (N:=some 11) (v:=?_) (a':=?_) #[true,false,false,false,false,false,false,false,false,false,false,false,false,false,false,false] rfl rfl (any_of HT_.out qK) (fun _ _ _ h=>h) (Or.inl ⟨by rfl,?_⟩) ?_ ?_
   rotate_left
   ·intro w';go_simp;with_reducible rfl
   rotate_left
   ·simp only [Act.put,List.setIfInBounds_toArray,List.set_cons_zero,List.set_cons_succ,i64_w,i32_w];rfl
   refine pure_ (i:=1) (N:=some 12) (v:=?_) (a':=?_) #[true,true,false,false,false,false,false,false,false,false,false,false,false,false,false,false] rfl rfl (any_of HT_.out qK) (fun _ _ _ h=>h) (Or.inl ⟨by rfl,?_⟩) ?_ ?_
   rotate_left
   ·intro w';go_simp;with_reducible rfl
   rotate_left
   ·simp only [Act.put,List.setIfInBounds_toArray,List.set_cons_zero,List.set_cons_succ,i64_w,i32_w];rfl
   refine pure_ (i:=2) (N:=some 13) (v:=?_) (a':=?_) #[true,true,true,false,false,false,false,false,false,false,false,false,false,false,false,false] rfl rfl (any_of HT_.out qK) (fun _ _ _ h=>h) (Or.inl ⟨by rfl,?_⟩) ?_ ?_
   rotate_left
   ·intro w';go_simp;with_reducible rfl
   rotate_left
   ·simp only [Act.put,List.setIfInBounds_toArray,List.set_cons_zero,List.set_cons_succ,i64_w,i32_w];rfl
   refine pure_ (i:=3) (N:=some 14) (v:=?_) (a':=?_) #[true,true,true,true,false,false,false,false,false,false,false,false,false,false,false,false] rfl rfl (any_of HT_.out qK) (fun _ _ _ h=>h) (Or.inl ⟨by rfl,?_⟩) ?_ ?_
   rotate_left
   ·intro w';go_simp;with_reducible rfl
   rotate_left
   ·simp only [Act.put,List.setIfInBounds_toArray,List.set_cons_zero,List.set_cons_succ,i64_w,i32_w];rfl
   refine pure_ (i:=4) (N:=some 15) (v:=?_) (a':=?_) #[true,true,true,true,true,false,false,false,false,false,false,false,false,false,false,false] rfl rfl (any_of HT_.out qK) (fun _ _ _ h=>h) (Or.inl ⟨by rfl,?_⟩) ?_ ?_
   rotate_left
   ·intro w';go_simp;with_reducible rfl
   rotate_left
   ·simp only [Act.put,List.setIfInBounds_toArray,List.set_cons_zero,List.set_cons_succ,i64_w,i32_w];rfl
   refine pure_ (i:=7) (N:=some 18) (v:=?_) (a':=?_) #[true,true,true,true,true,false,false,true,false,false,false,false,false,false,false,false] rfl rfl (any_of HT_.out qK) (fun _ _ _ h=>h) (Or.inl ⟨by rfl,?_⟩) ?_ ?_
   rotate_left
   ·intro w';go_simp;with_reducible rfl
   rotate_left
   ·simp only [Act.put,List.setIfInBounds_toArray,List.set_cons_zero,List.set_cons_succ,i64_w,i32_w];rfl
   refine pure_ (i:=8) (N:=some 19) (v:=?_) (a':=?_) #[true,true,true,true,true,false,false,true,true,false,false,false,false,false,false,false] rfl rfl (any_of HT_.out qK) (fun _ _ _ h=>h) (Or.inl ⟨by rfl,?_⟩) ?_ ?_
   rotate_left
   ·intro w';go_simp;with_reducible rfl
   rotate_left
   ·simp only [Act.put,List.setIfInBounds_toArray,List.set_cons_zero,List.set_cons_succ,i64_w,i32_w];rfl
   refine pure_ (i:=9) (N:=some 20) (v:=?_) (a':=?_) #[true,true,true,true,true,false,false,true,true,true,false,false,false,false,false,false] rfl rfl (any_of HT_.out qK) (fun _ _ _ h=>h) (Or.inl ⟨by rfl,?_⟩) ?_ ?_
   rotate_left
   ·intro w';go_simp;with_reducible rfl
   rotate_left
   ·simp only [Act.put,List.setIfInBounds_toArray,List.set_cons_zero,List.set_cons_succ,i64_w,i32_w];rfl
   refine pure_ (i:=10) (N:=some 21) (v:=?_) (a':=?_) #[true,true,true,true,true,false,false,true,true,true,true,false,false,false,false,false] rfl rfl (any_of HT_.out qK) (fun _ _ _ h=>h) (Or.inl ⟨by rfl,?_⟩) ?_ ?_
   rotate_left
   ·intro w';go_simp;with_reducible rfl
   rotate_left
   ·simp only [Act.put,List.setIfInBounds_toArray,List.set_cons_zero,List.set_cons_succ,i64_w,i32_w];rfl
   refine take_ (i:=5) (N:=some 16) (v:=?_) (a':=?_) #[true,true,true,true,true,true,false,true,true,true,true,false,false,false,false,false] rfl rfl (take_ofW HT_.out HW_.out qK) (fun _ _ _ h=>h) (Or.inl ⟨by rfl,?_⟩) hHeld ?_ ?_
   rotate_left
   ·rintro w' ⟨s0,s1,s2,s3⟩;go_simp;with_reducible rfl
   rotate_left
   ·simp only [Act.put,List.setIfInBounds_toArray,List.set_cons_zero,List.set_cons_succ,i64_w,i32_w];rfl
   refine pure_ (i:=6) (N:=some 17) (v:=?_) (a':=?_) #[true,true,true,true,true,true,true,true,true,true,true,false,false,false,false,false] rfl rfl (any_of HT_.out qK) (fun _ _ _ h=>h) (Or.inl ⟨by rfl,?_⟩) ?_ ?_
   rotate_left
   ·intro w';go_simp;with_reducible rfl
   rotate_left
   ·simp only [Act.put,List.setIfInBounds_toArray,List.set_cons_zero,List.set_cons_succ,i64_w,i32_w];rfl
   refine take_ (i:=11) (N:=some 22) (v:=?_) (a':=?_) #[true,true,true,true,true,true,true,true,true,true,true,true,false,false,false,false] rfl rfl (take_ofW HT_.out HW_.out qK) (fun _ _ _ h=>h) (Or.inl ⟨by rfl,?_⟩) hHeld ?_ ?_
   rotate_left
   ·rintro w' ⟨s0,s1,s2,s3⟩;go_simp;with_reducible rfl
   rotate_left
   ·simp only [Act.put,List.setIfInBounds_toArray,List.set_cons_zero,List.set_cons_succ,i64_w,i32_w];rfl
   refine pure_ (i:=12) (N:=some 23) (v:=?_) (a':=?_) #[true,true,true,true,true,true,true,true,true,true,true,true,true,false,false,false] rfl rfl (any_of HT_.out qK) (fun _ _ _ h=>h) (Or.inl ⟨by rfl,?_⟩) ?_ ?_
   rotate_left
   ·intro w';go_simp;with_reducible rfl
   rotate_left
   ·simp only [Act.put,List.setIfInBounds_toArray,List.set_cons_zero,List.set_cons_succ,i64_w,i32_w];rfl
   refine one_ (i:=13) (N:=some 24) #[true,true,true,true,true,true,true,true,true,true,true,true,true,true,false,false] rfl rfl (one_of HT_.out qK) (by decide) (fun K hK=>?_)
   refine value_ (w1:=?_) (v:=?_) (by rfl) rfl ?_ ?_
   rotate_left 2
   ·go_simp
    constructor
    ·rfl
    ·rfl
   refine hK.out _ _ ⟨(World.cell?_alloc_lt _ _ _ (World.block_lt_of_cell? _ _ (((HB.out.cell (World.block_lt_of_cell? w _ hw549_0)).trans hw549_0)))).trans (((HB.out.cell (World.block_lt_of_cell? w _ hw549_0)).trans hw549_0)),(World.cell?_alloc_lt _ _ _ (World.block_lt_of_cell? _ _ (((HB.out.cell (World.block_lt_of_cell? w _ hw549_1)).trans hw549_1)))).trans (((HB.out.cell (World.block_lt_of_cell? w _ hw549_1)).trans hw549_1)),(World.cell?_alloc_lt _ _ _ (World.block_lt_of_cell? _ _ (((HB.out.cell (World.block_lt_of_cell? w _ hw550_0)).trans hw550_0)))).trans (((HB.out.cell (World.block_lt_of_cell? w _ hw550_0)).trans hw550_0)),(World.cell?_alloc_lt _ _ _ (World.block_lt_of_cell? _ _ (((HB.out.cell (World.block_lt_of_cell? w _ hw550_1)).trans hw550_1)))).trans (((HB.out.cell (World.block_lt_of_cell? w _ hw550_1)).trans hw550_1))⟩ (fun hHeld=>?_)
   clear hK K
   refine norm_ (a':=?_) ?_ ?_
   rotate_left
   ·show Act.put _ (some 24) _=_
    simp only [Act.put,List.setIfInBounds_toArray,List.set_cons_zero,List.set_cons_succ,i64_w,i32_w]
    rfl
   refine one_ (i:=14) (N:=some 25) #[true,true,true,true,true,true,true,true,true,true,true,true,true,true,true,false] rfl rfl (one_of HT_.out qK) (by decide) (fun K hK=>?_)
   refine Kd.R_append_step Kd.string (w0:=w) w.heap.size (by rfl) (.tmp 11) (.tmp 24) 23 9 (.string ⟨#[]⟩) 16 rfl Tryz.underlying23 info9 rfl (by decide) (by omega) u3 x3_1 ((((rd_T93 l0 x4_1).f0)++(⟨#[61]⟩:ByteArray))++((rd_T93 l0 x4_1).f1)) [.string ((((rd_T93 l0 x4_1).f0)++(⟨#[61]⟩:ByteArray))++((rd_T93 l0 x4_1).f1))] (fun _=>True) (fun _=>False) rfl rfl ?aP (fun _ hk=>hk.elim) ?aF ?aO ?aB ?aS ?aL ?_
   (case aP=>exact rfl)
   (case aB=>exact qB)
   (case aF=>exact (fun _ _=>trivial))
   (case aO=>exact (qR HO_3))
   (case aS=>exact (below_size qB))
   (case aL=>have:=LMc6.out;omega)
   intro v552 w8 ho hb hg hat
   rw [← Ny551.out] at ho
   replace HB:=Aside0.mk hb
   have HO553:=Aside0.mk ho
   clear HO_3
   clear ho hb hg hat
   refine hK.out _ _ ⟨((HB.out.cell (World.block_lt_of_cell? w _ hw549_0)).trans hw549_0),((HB.out.cell (World.block_lt_of_cell? w _ hw549_1)).trans hw549_1),((HB.out.cell (World.block_lt_of_cell? w _ hw550_0)).trans hw550_0),((HB.out.cell (World.block_lt_of_cell? w _ hw550_1)).trans hw550_1)⟩ (fun hHeld=>?_)
   clear hK K
   refine norm_ (a':=?_) ?_ ?_
   rotate_left
   ·show Act.put _ (some 25) _=_
    simp only [Act.put,List.setIfInBounds_toArray,List.set_cons_zero,List.set_cons_succ,i64_w,i32_w]
    rfl
   refine pure_ (i:=15) (N:=some 3) (v:=?_) (a':=?_) #[true,true,true,true,true,true,true,true,true,true,true,true,true,true,true,true] rfl rfl (any_of HT_.out qK) (fun _ _ _ h=>h) (Or.inl ⟨by rfl,?_⟩) ?_ ?_
   rotate_left
   ·intro w';go_simp;with_reducible rfl
   rotate_left
   ·simp only [Act.put,List.setIfInBounds_toArray,List.set_cons_zero,List.set_cons_succ,i64_w,i32_w];rfl
   refine done_ (done_of HT_.out qK) ?_
   try go_wp2
   go_roundg k1
   case measure=>have:=HK1.out;omega
   case rel=>exact ⟨(y551),(wrap64 (x4_1+1)),qS,H',⟨by have:=HK1.out;omega⟩,⟨qR HO553⟩,⟨qB⟩⟩
def ebbtideref07_Group.f (k:Nat) (a0_0:Int) (a0_1:ByteArray) (l0_2:List (S127)) (l0_3:List ByteArray) (a1_0:ByteArray) (l1_1:List (S93)):Option (ByteArray):=(ebbtideref03_Only.f k l1_1 l0_3).bind fun t557=>((ebbtideref03_Text.f k t557).bind fun t560=>(some t560))
theorem ebbtideref07_Group.mono:∀ a0 a1 a2 a3 a4 a5 k,LeO (ebbtideref07_Group.f k a0 a1 a2 a3 a4 a5) (ebbtideref07_Group.f (k+1) a0 a1 a2 a3 a4 a5):=by
 intro a0 a1 a2 a3 a4 a5 k
 unfold ebbtideref07_Group.f
 repeat' first
   | (with_reducible exact ebbtideref03_Only.mono _ _ _)
   | (with_reducible exact ebbtideref03_Text.mono _ _)
   | (with_reducible exact LeO.refl _)
   | (with_reducible exact LeO.none _)
   | (with_reducible refine LeO.ite ?_ ?_)
   | (with_reducible refine LeO.bind ?_ (fun _=>?_))
   | exact ebbtideref03_Only.mono _ _ _
   | exact ebbtideref03_Text.mono _ _
   | exact LeO.none _
   | refine LeO.ite ?_ ?_
   | refine LeO.bind ?_ (fun _=>?_)
theorem ebbtideref07_Group.calls (k:Nat) (a0_0:Int) (a0_1:ByteArray) (A0_2:Option Addr) (c0_2:Nat) (l0_2:List (S127)) (A0_3:Option Addr) (c0_3:Nat) (l0_3:List ByteArray) (a1_0:ByteArray) (A1_1:Option Addr) (c1_1:Nat) (l1_1:List (S93)) (r:ByteArray) (w:World) (hr0_2:Kd.C k127 w A0_2 l0_2.length l0_2) (hc0_2:l0_2.length≤c0_2) (hr0_3:Kd.C Kd.string w A0_3 l0_3.length l0_3) (hc0_3:l0_3.length≤c0_3) (hr1_1:Kd.C k93 w A1_1 l1_1.length l1_1) (hc1_1:l1_1.length≤c1_1) (h:ebbtideref07_Group.f k a0_0 a0_1 l0_2 l0_3 a1_0 l1_1=some r) :
  Calls Tryz.prog 26 #[.agg #[.int .i64 a0_0, .string a0_1, .slice A0_2 l0_2.length c0_2, .slice A0_3 l0_3.length c0_3], .agg #[.string a1_0, .slice A1_1 l1_1.length c1_1]] w fun e w'=>e = .returned (.string r)∧Below w.heap.size w w':=by
 have hu25:=Tryz.underlying25
 have hu36:=Tryz.underlying36
 have HR0_2:=Aside0.mk hr0_2
 have HC0_2:=Aside0.mk hc0_2
 clear hr0_2 hc0_2
 have HR0_3:=Aside0.mk hr0_3
 have HC0_3:=Aside0.mk hc0_3
 clear hr0_3 hc0_3
 have HR1_1:=Aside0.mk hr1_1
 have HC1_1:=Aside0.mk hc1_1
 clear hr1_1 hc1_1
 have HB:=Aside0.mk (Below.refl w.heap.size w)
 have H:((ebbtideref03_Only.f k l1_1 l0_3).bind fun t557=>((ebbtideref03_Text.f k t557).bind fun t560=>(some t560)))=some r:=h
 clear h
 replace H:=Option.bind_eq_some_iff.mp H
 obtain ⟨t557,A30,H⟩:=H
 replace H:((ebbtideref03_Text.f k t557).bind fun t560=>(some t560))=some r:=H
 have A3:=Aside0.mk A30
 clear A30
 replace H:=Option.bind_eq_some_iff.mp H
 obtain ⟨t560,A40,H⟩:=H
 replace H:(some t560)=some r:=H
 have A4:=Aside0.mk A40
 clear A40
 obtain rfl:=Option.some.inj H
 go_enter Tryz.func26,Tryz.ntmps26
 go_wp2_with (first|((with_reducible refine gate_dst (N:=2) rfl ?_);refine box_event ?hg (N:=2) ?hd (cs:=#[.int .i64 a0_0, .string a0_1, .slice A0_2 l0_2.length c0_2, .slice A0_3 l0_3.length c0_3]) (t:=25) ?hr ?_;(case hd=>rfl);(case hg=>rfl);(case hr=>first|(go_simp;done)|(go_simp;rfl));intro gb555 hg w5 hbox hb;have BK555:=Aside0.mk hbox;have GW555:Aside0 (w.heap.size≤gb555):=⟨qH⟩;have GE555:=GW555;replace HB:=Aside0.mk (below_step qB hb);clear hb hbox hg)|((with_reducible refine gate_dst (N:=3) rfl ?_);refine box_event ?hg (N:=3) ?hd (cs:=#[.string a1_0, .slice A1_1 l1_1.length c1_1]) (t:=36) ?hr ?_;(case hd=>rfl);(case hg=>rfl);(case hr=>first|(go_simp;done)|(go_simp;rfl));intro gb556 hg w6 hbox hb;have BK556:=Aside0.mk hbox;have GW556:Aside0 (w.heap.size≤gb556):=⟨qI⟩;have GE556:=GW556;replace HB:=Aside0.mk (below_step qC hb);have NB555_556:=Aside0.mk ((by rw [hg];exact Nat.ne_of_lt (blk_lt (g:=gb555) (o := .cells #[.int .i64 a0_0, .string a0_1, .slice A0_2 l0_2.length c0_2, .slice A0_3 l0_3.length c0_3] 25 (0,0)) (qW BK555)):gb555≠gb556));have NB556_555:=Aside0.mk ((by rw [hg];exact Nat.ne_of_gt (blk_lt (g:=gb555) (o := .cells #[.int .i64 a0_0, .string a0_1, .slice A0_2 l0_2.length c0_2, .slice A0_3 l0_3.length c0_3] 25 (0,0)) (qW BK555)):gb556≠gb555));replace BK555:=Aside0.mk (blk_below (g:=gb555) (o := .cells #[.int .i64 a0_0, .string a0_1, .slice A0_2 l0_2.length c0_2, .slice A0_3 l0_3.length c0_3] 25 (0,0)) (qW BK555) hb);clear hb hbox hg;have hnb7:=NB556_555.out;have hnc7:=NB555_556.out;obtain ⟨hcz8_0,hcz8_1,hfz8_0,hfz8_1⟩:=cf2 BK556.out;obtain ⟨hcz9_0,hcz9_1,hcz9_2,hcz9_3,hfz9_0,hfz9_1,hfz9_2,hfz9_3⟩:=cf4 BK555.out)|((with_reducible refine gate_callee (f:=78) rfl ?_);refine goesL_ (some 9) rfl rfl Tryz.func78 qK rfl #[.slice A1_1 l1_1.length c1_1, .slice A0_3 l0_3.length c0_3] rfl qG ?_;(with_reducible refine (ebbtideref03_Only.calls k _ _ l1_1 _ _ l0_3 t557 _ ?side1 ?side2 ?side3 ?side4 A3.out).mono ?_);(case side1=>repeat (first|exact (Kd.C_below HR1_1.out HB.out)|(with_reducible refine Kd.C_alloc ?_ _)|(with_reducible refine Kd.C_drewN ?_ _)|(with_reducible refine Kd.C_drew ?_)));(case side2=>exact HC1_1.out);(case side3=>repeat (first|exact (Kd.C_below HR0_3.out HB.out)|(with_reducible refine Kd.C_alloc ?_ _)|(with_reducible refine Kd.C_drewN ?_ _)|(with_reducible refine Kd.C_drew ?_)));(case side4=>exact HC0_3.out);rintro e w10 ⟨v558,rfl,ho0,hb⟩;refine ⟨_,rfl,?_⟩;have HO559:=Aside0.mk (Kd.R_lower ho0 (below_size qC));replace BK555:=Aside0.mk (blk_below (g:=gb555) (o := .cells #[.int .i64 a0_0, .string a0_1, .slice A0_2 l0_2.length c0_2, .slice A0_3 l0_3.length c0_3] 25 (0,0)) (qW BK555) hb);replace BK556:=Aside0.mk (blk_below (g:=gb556) (o := .cells #[.string a1_0, .slice A1_1 l1_1.length c1_1] 36 (0,0)) (qW BK556) hb);replace HB:=Aside0.mk (below_step qC hb);clear hb ho0;obtain ⟨Ao11,co11,eo11⟩:=Kd.R_slice HO559.out;subst eo11)|((with_reducible refine gate_callee (f:=77) rfl ?_);refine goesL_ (some 10) rfl rfl Tryz.func77 qK rfl #[.slice Ao11 t557.length co11] rfl qG ?_;(with_reducible refine (ebbtideref03_Text.calls k _ _ t557 t560 _ ?side1 ?side2 A4.out).mono ?_);(case side1=>repeat (first|exact (Kd.R_reads' HO559.out).2.2|(with_reducible refine Kd.C_alloc ?_ _)|(with_reducible refine Kd.C_drewN ?_ _)|(with_reducible refine Kd.C_drew ?_)));(case side2=>exact (Kd.R_reads' HO559.out).2.1);rintro e w12 ⟨rfl,hb⟩;refine ⟨_,rfl,?_⟩;replace HO559:=Aside0.mk (Kd.R_below (qR HO559) hb);replace BK555:=Aside0.mk (blk_below (g:=gb555) (o := .cells #[.int .i64 a0_0, .string a0_1, .slice A0_2 l0_2.length c0_2, .slice A0_3 l0_3.length c0_3] 25 (0,0)) (qW BK555) hb);replace BK556:=Aside0.mk (blk_below (g:=gb556) (o := .cells #[.string a1_0, .slice A1_1 l1_1.length c1_1] 36 (0,0)) (qW BK556) hb);replace HB:=Aside0.mk (below_step qC hb);clear hb))
 go_ret
 exact ⟨qE,qC⟩
end Go.Proofs.YteaadaaghhojfaaGreatDoor.PQu
