import Derived.Test.YteaadaaghhojfaaGreatDoorZQcPQux0
namespace Go.Proofs.YteaadaaghhojfaaGreatDoor.PQu
open Go.RowKit Go.Proofs.YteaadaaghhojfaaGreatDoorW.PrintWords Go.Proofs.YteaadaaghhojfaaGreatDoorW.PrintLast Go.Proofs.YteaadaaghhojfaaGreatDoorW.PrintMore
attribute [local go_sem] max2_int min2_int max_two min_two max_three min_three max_four min_four
set_option linter.unusedVariables false
set_option linter.unusedSimpArgs false
set_option maxHeartbeats 8000000
set_option maxRecDepth 100000
def tag_Find.l0:Nat→ByteArray→List (S93)→Int→Int→Option (ByteArray×Bool)
 | 0,_,_,_,_=>none
 | k+1,x1,x8,x9,x10=>if x10<x9 then (if 0≤x10 then (if x10<(x8.length:Int) then (if ((rd_T93 x8 x10).f0).toList=x1.toList then (some ((rd_T93 x8 x10).f1,true)) else (tag_Find.l0 k x1 x8 x9 (wrap64 (x10+1)))) else (none)) else (none)) else (some ((⟨#[]⟩:ByteArray),false))
def tag_Find.f (k:Nat) (l0:List (S93)) (a1:ByteArray):Option (ByteArray×Bool):=tag_Find.l0 k a1 l0 (l0.length:Int) 0
theorem tag_Find.mono_l:∀ k,(∀ y0 y1 y2 y3,LeO (tag_Find.l0 k y0 y1 y2 y3) (tag_Find.l0 (k+1) y0 y1 y2 y3))
 | 0=>fun _ _ _ _ r h=>by simp [tag_Find.l0] at h
 | k+1=>by
  have ih0:=tag_Find.mono_l k
  ·intro y0 y1 y2 y3
   unfold tag_Find.l0
   repeat' first
   | (with_reducible exact ih0 _ _ _ _)
   | (with_reducible exact LeO.refl _)
   | (with_reducible exact LeO.none _)
   | (with_reducible refine LeO.ite ?_ ?_)
   | (with_reducible refine LeO.bind ?_ (fun _=>?_))
   | exact ih0 _ _ _ _
   | exact LeO.none _
   | refine LeO.ite ?_ ?_
   | refine LeO.bind ?_ (fun _=>?_)
theorem tag_Find.mono:∀ a0 a1 k,LeO (tag_Find.f k a0 a1) (tag_Find.f (k+1) a0 a1):=by
 intro a0 a1 k
 have ih0:=tag_Find.mono_l k
 unfold tag_Find.f
 repeat' first
   | (with_reducible exact ih0 _ _ _ _)
   | (with_reducible exact LeO.refl _)
   | (with_reducible exact LeO.none _)
   | (with_reducible refine LeO.ite ?_ ?_)
   | (with_reducible refine LeO.bind ?_ (fun _=>?_))
   | exact ih0 _ _ _ _
   | exact LeO.none _
   | refine LeO.ite ?_ ?_
   | refine LeO.bind ?_ (fun _=>?_)
theorem tag_Find.calls (k:Nat) (A0:Option Addr) (c0:Nat) (l0:List (S93)) (a1:ByteArray) (r1:ByteArray) (r2:Bool) (w:World) (hr0:Kd.C k93 w A0 l0.length l0) (hc0:l0.length≤c0) (h:tag_Find.f k l0 a1=some (r1,r2)) :
  Calls Tryz.prog 150 #[.slice A0 l0.length c0, .string a1] w fun e w'=>e = .returned (.tuple #[.string r1, .bool r2])∧Below w.heap.size w w':=by
 have hu93:=Tryz.underlying93
 have HR0:=Aside0.mk hr0
 have HC0:=Aside0.mk hc0
 clear hr0 hc0
 have HB:=Aside0.mk (Below.refl w.heap.size w)
 have H:(tag_Find.l0 k a1 l0 (l0.length:Int) 0)=some (r1,r2):=h
 clear h
 have H':=Aside0.mk H
 clear H
 go_enter Tryz.func150,Tryz.ntmps150
 go_wp2
 go_loopg [10] k (fun kq v10 w'=>∃ (x10_1:Int),v10 = .int .i64 x10_1∧Aside0 (tag_Find.l0 kq a1 l0 (l0.length:Int) x10_1=some (r1,r2))∧Aside0 (kq≤k)∧Aside0 (Below w.heap.size w w'))
 case atStart=>exact ⟨(0),qS,H',⟨Nat.le_refl _⟩,⟨qB⟩⟩
 case round =>
  clear H'
  obtain ⟨x10_1,rfl,HA,HK1,HB⟩:=hrel
  cases gk with
  | zero=>exact absurd HA.out (by simp [tag_Find.l0])
  | succ k1 =>
   have H:=HA.out
   clear HA
   simp only [tag_Find.l0] at H
   by_cases c3:x10_1<(l0.length:Int)
   rotate_left
   ·rw [if_neg c3] at H
    have c3b0:decide (x10_1<(l0.length:Int))=false:=decide_eq_false c3
    clear c3
    simp only [Option.some.injEq,Prod.mk.injEq] at H
    obtain ⟨rfl,rfl⟩:=H
    go_wp2
    go_ret2
    exact ⟨qE,qB⟩
   rw [if_pos c3] at H
   have c3b0:decide (x10_1<(l0.length:Int))=true:=decide_eq_true c3
   clear c3
   by_cases c4:0≤x10_1
   rotate_left
   ·rw [if_neg c4] at H
    exact absurd H (by simp)
   rw [if_pos c4] at H
   have c4b0:decide (0≤x10_1)=true:=decide_eq_true c4
   clear c4
   by_cases c5:x10_1<(l0.length:Int)
   rotate_left
   ·rw [if_neg c5] at H
    exact absurd H (by simp)
   rw [if_pos c5] at H
   have c5b0:decide (x10_1<(l0.length:Int))=true:=decide_eq_true c5
   clear c5
   by_cases c6:((rd_T93 l0 x10_1).f0).toList=a1.toList
   ·rw [if_pos c6] at H
    have c6b0:(((rd_T93 l0 x10_1).f0).toList ==a1.toList)=true:=beq_iff_eq.mpr c6
    have c6b1:(((rd_T93 l0 x10_1).f0).toList != a1.toList)=false:=bne_eq_false_iff_eq.mpr c6
    clear c6
    simp only [Option.some.injEq,Prod.mk.injEq] at H
    obtain ⟨rfl,rfl⟩:=H
    have p304:0≤(x10_1:Int):=of_decide_eq_true qA
    have q304:x10_1<(l0.length:Int):=of_decide_eq_true qA
    obtain ⟨ad304,e304,hx304_0,hx304_1⟩:=at_T93 HR0.out x10_1 p304 q304
    cases e304
    replace hx304_0:=(HB.out.cell (World.block_lt_of_cell? w _ hx304_0)).trans hx304_0
    replace hx304_1:=(HB.out.cell (World.block_lt_of_cell? w _ hx304_1)).trans hx304_1
    replace p304:=eq_true p304
    replace q304:=eq_true q304
    go_wp2_with (first|((with_reducible refine gate_dst (N:=7) rfl ?_);refine box_event ?hg (N:=7) ?hd (cs:=#[.string (⟨#[]⟩:ByteArray), .string (⟨#[]⟩:ByteArray)]) (t:=93) ?hr ?_;(case hd=>rfl);(case hg=>rfl);(case hr=>first|(go_simp;done)|(go_simp;rfl));intro gb305 hg w7 hbox hb;have BK305:=Aside0.mk hbox;have GW305:Aside0 (w.heap.size≤gb305):=⟨qH⟩;have GE305:=GW305;replace HB:=Aside0.mk (below_step qB hb);clear hb hbox hg;obtain ⟨hcz8_0,hcz8_1,hfz8_0,hfz8_1⟩:=cf2 BK305.out))
    go_ret2
    exact ⟨qE,qC⟩
   rw [if_neg c6] at H
   have c6b0:(((rd_T93 l0 x10_1).f0).toList ==a1.toList)=false:=beq_eq_false_iff_ne.mpr c6
   have c6b1:(((rd_T93 l0 x10_1).f0).toList != a1.toList)=true:=bne_iff_ne.mpr c6
   have H':=Aside0.mk H
   clear H
   have p304:0≤(x10_1:Int):=of_decide_eq_true qA
   have q304:x10_1<(l0.length:Int):=of_decide_eq_true qA
   obtain ⟨ad304,e304,hx304_0,hx304_1⟩:=at_T93 HR0.out x10_1 p304 q304
   cases e304
   replace hx304_0:=(HB.out.cell (World.block_lt_of_cell? w _ hx304_0)).trans hx304_0
   replace hx304_1:=(HB.out.cell (World.block_lt_of_cell? w _ hx304_1)).trans hx304_1
   replace p304:=eq_true p304
   replace q304:=eq_true q304
   go_wp2_with (first|((with_reducible refine gate_dst (N:=7) rfl ?_);refine box_event ?hg (N:=7) ?hd (cs:=#[.string (⟨#[]⟩:ByteArray), .string (⟨#[]⟩:ByteArray)]) (t:=93) ?hr ?_;(case hd=>rfl);(case hg=>rfl);(case hr=>first|(go_simp;done)|(go_simp;rfl));intro gb305 hg w9 hbox hb;have BK305:=Aside0.mk hbox;have GW305:Aside0 (w.heap.size≤gb305):=⟨qH⟩;have GE305:=GW305;replace HB:=Aside0.mk (below_step qB hb);clear hb hbox hg;obtain ⟨hcz10_0,hcz10_1,hfz10_0,hfz10_1⟩:=cf2 BK305.out))
   go_roundg k1
   case measure=>have:=HK1.out;omega
   case rel=>exact ⟨(wrap64 (x10_1+1)),qS,H',⟨by have:=HK1.out;omega⟩,⟨qC⟩⟩
def stringslite_HasPrefix.f (a0:ByteArray) (a1:ByteArray):Option (Bool):=if (a0.size:Int)≥(a1.size:Int) then (if 0≤(a1.size:Int) then (if (a1.size:Int)≤(a0.size:Int) then (some ((a0.extract 0 ((a1.size:Int):Int).toNat).toList ==a1.toList)) else (none)) else (none)) else (some false)
theorem stringslite_HasPrefix.calls (a0:ByteArray) (a1:ByteArray) (r:Bool) (w:World) (h:stringslite_HasPrefix.f a0 a1=some r) :
  Calls Tryz.prog 181 #[.string a0, .string a1] w fun e w'=>e = .returned (.bool r)∧Drawn0 w w':=by
 have H:(if (a0.size:Int)≥(a1.size:Int) then (if 0≤(a1.size:Int) then (if (a1.size:Int)≤(a0.size:Int) then (some ((a0.extract 0 ((a1.size:Int):Int).toNat).toList ==a1.toList)) else (none)) else (none)) else (some false))=some r:=h
 clear h
 by_cases c3:(a0.size:Int)≥(a1.size:Int)
 rotate_left
 ·rw [if_neg c3] at H
  have c3b0:decide ((a1.size:Int)≤(a0.size:Int))=false:=decide_eq_false c3
  have c3b1:decide (a1.size≤a0.size)=false:=decide_eq_false (fun h=>c3 (Int.ofNat_le.mpr h))
  clear c3
  obtain rfl:=Option.some.inj H
  go_enter Tryz.func181,Tryz.ntmps181
  go_wp2
  go_ret
  exact ⟨qS,qD⟩
 rw [if_pos c3] at H
 have c3b0:decide ((a1.size:Int)≤(a0.size:Int))=true:=decide_eq_true c3
 have c3b1:decide (a1.size≤a0.size)=true:=decide_eq_true (Int.ofNat_le.mp c3)
 clear c3
 by_cases c4:0≤(a1.size:Int)
 rotate_left
 ·rw [if_neg c4] at H
  exact absurd H (by simp)
 rw [if_pos c4] at H
 have c4b0:=eq_true c4
 have c4b1:decide (0≤(a1.size:Int))=true:=decide_eq_true c4
 clear c4
 by_cases c5:(a1.size:Int)≤(a0.size:Int)
 rotate_left
 ·rw [if_neg c5] at H
  exact absurd H (by simp)
 rw [if_pos c5] at H
 have c5b0:=eq_true c5
 have c5b1:decide ((a1.size:Int)≤(a0.size:Int))=true:=decide_eq_true c5
 clear c5
 obtain rfl:=Option.some.inj H
 go_enter Tryz.func181,Tryz.ntmps181
 go_wp2
 go_ret
 exact ⟨qS,qD⟩
def strings_HasPrefix.f (a0:ByteArray) (a1:ByteArray):Option (Bool):=(stringslite_HasPrefix.f a0 a1).bind fun t306=>(some t306)
theorem strings_HasPrefix.calls (a0:ByteArray) (a1:ByteArray) (r:Bool) (w:World) (h:strings_HasPrefix.f a0 a1=some r) :
  Calls Tryz.prog 151 #[.string a0, .string a1] w fun e w'=>e = .returned (.bool r)∧Drawn0 w w':=by
 have H:((stringslite_HasPrefix.f a0 a1).bind fun t306=>(some t306))=some r:=h
 clear h
 replace H:=Option.bind_eq_some_iff.mp H
 obtain ⟨t306,A30,H⟩:=H
 replace H:(some t306)=some r:=H
 have A3:=Aside0.mk A30
 clear A30
 obtain rfl:=Option.some.inj H
 go_enter Tryz.func151,Tryz.ntmps151
 go_wp2_with (first|((with_reducible refine gate_callee (f:=181) rfl ?_);refine goesL_ (some 7) rfl rfl Tryz.func181 qK rfl #[.string a0, .string a1] rfl qG ?_;(with_reducible refine (stringslite_HasPrefix.calls a0 a1 t306 _ A3.out).mono ?_);rintro e w' ⟨rfl,⟨nd,rfl⟩⟩;refine ⟨_,rfl,?_⟩))
 go_ret
 exact ⟨qS,qD⟩
def pick_match_fits.f (k:Nat) (a0_0:Int) (a0_1:ByteArray) (a0_2:ByteArray) (l1:List (S93)):Option (Bool):=(tag_Find.f k l1 a0_1).bind fun bt308=>(if a0_0=1 then (if bt308.2=true then (some (bt308.1.toList ==a0_2.toList)) else (some false)) else (if a0_0=2 then (if bt308.2=true then (some (!(bt308.1.toList ==a0_2.toList))) else (some (!false))) else (if a0_0=3 then (if bt308.2=true then ((strings_HasPrefix.f bt308.1 a0_2).bind fun t310=>(some t310)) else (some false)) else (if a0_0=4 then (some bt308.2) else (some false)))))
theorem pick_match_fits.mono:∀ a0 a1 a2 a3 k,LeO (pick_match_fits.f k a0 a1 a2 a3) (pick_match_fits.f (k+1) a0 a1 a2 a3):=by
 intro a0 a1 a2 a3 k
 unfold pick_match_fits.f
 repeat' first
   | (with_reducible exact tag_Find.mono _ _ _)
   | (with_reducible exact LeO.refl _)
   | (with_reducible exact LeO.none _)
   | (with_reducible refine LeO.ite ?_ ?_)
   | (with_reducible refine LeO.bind ?_ (fun _=>?_))
   | exact tag_Find.mono _ _ _
   | exact LeO.none _
   | refine LeO.ite ?_ ?_
   | refine LeO.bind ?_ (fun _=>?_)
theorem pick_match_fits.calls (k:Nat) (a0_0:Int) (a0_1:ByteArray) (a0_2:ByteArray) (A1:Option Addr) (c1:Nat) (l1:List (S93)) (r:Bool) (w:World) (hr1:Kd.C k93 w A1 l1.length l1) (hc1:l1.length≤c1) (h:pick_match_fits.f k a0_0 a0_1 a0_2 l1=some r) :
  Calls Tryz.prog 119 #[.agg #[.int .i64 a0_0, .string a0_1, .string a0_2], .slice A1 l1.length c1] w fun e w'=>e = .returned (.bool r)∧Below w.heap.size w w':=by
 have hu132:=Tryz.underlying132
 have HR1:=Aside0.mk hr1
 have HC1:=Aside0.mk hc1
 clear hr1 hc1
 have HB:=Aside0.mk (Below.refl w.heap.size w)
 have H:((tag_Find.f k l1 a0_1).bind fun bt308=>(if a0_0=1 then (if bt308.2=true then (some (bt308.1.toList ==a0_2.toList)) else (some false)) else (if a0_0=2 then (if bt308.2=true then (some (!(bt308.1.toList ==a0_2.toList))) else (some (!false))) else (if a0_0=3 then (if bt308.2=true then ((strings_HasPrefix.f bt308.1 a0_2).bind fun t310=>(some t310)) else (some false)) else (if a0_0=4 then (some bt308.2) else (some false))))))=some r:=h
 clear h
 replace H:=Option.bind_eq_some_iff.mp H
 obtain ⟨⟨t308,t309⟩,A30,H⟩:=H
 replace H:(if a0_0=1 then (if t309=true then (some (t308.toList ==a0_2.toList)) else (some false)) else (if a0_0=2 then (if t309=true then (some (!(t308.toList ==a0_2.toList))) else (some (!false))) else (if a0_0=3 then (if t309=true then ((strings_HasPrefix.f t308 a0_2).bind fun t310=>(some t310)) else (some false)) else (if a0_0=4 then (some t309) else (some false)))))=some r:=H
 have A3:=Aside0.mk A30
 clear A30
 by_cases c4:a0_0=1
 ·rw [if_pos c4] at H
  have c4b0:(a0_0 ==1)=true:=beq_iff_eq.mpr c4
  have c4b1:(a0_0 != 1)=false:=bne_eq_false_iff_eq.mpr c4
  clear c4
  by_cases c5:t309=true
  ·subst c5
   have H1:(some (t308.toList ==a0_2.toList))=some r:=by rw [if_pos rfl] at H;exact H
   clear H
   have H:=H1
   clear H1
   obtain rfl:=Option.some.inj H
   go_enter Tryz.func119,Tryz.ntmps119
   go_wp2_with (first|((with_reducible refine gate_dst (N:=2) rfl ?_);refine box_event ?hg (N:=2) ?hd (cs:=#[.int .i64 a0_0, .string a0_1, .string a0_2]) (t:=132) ?hr ?_;(case hd=>rfl);(case hg=>rfl);(case hr=>first|(go_simp;done)|(go_simp;rfl));intro gb307 hg w6 hbox hb;have BK307:=Aside0.mk hbox;have GW307:Aside0 (w.heap.size≤gb307):=⟨qH⟩;have GE307:=GW307;replace HB:=Aside0.mk (below_step qB hb);clear hb hbox hg;obtain ⟨hcz7_0,hcz7_1,hcz7_2,hfz7_0,hfz7_1,hfz7_2⟩:=cf3 BK307.out)|((with_reducible refine gate_callee (f:=150) rfl ?_);refine goesL_ (some 12) rfl rfl Tryz.func150 qK rfl #[.slice A1 l1.length c1, .string a0_1] rfl qG ?_;(with_reducible refine (tag_Find.calls k _ _ l1 a0_1 t308 true _ ?side1 ?side2 A3.out).mono ?_);(case side1=>repeat (first|exact (Kd.C_below HR1.out HB.out)|(with_reducible refine Kd.C_alloc ?_ _)|(with_reducible refine Kd.C_drewN ?_ _)|(with_reducible refine Kd.C_drew ?_)));(case side2=>exact HC1.out);rintro e w8 ⟨rfl,hb⟩;refine ⟨_,rfl,?_⟩;replace BK307:=Aside0.mk (blk_below (g:=gb307) (o := .cells #[.int .i64 a0_0, .string a0_1, .string a0_2] 132 (0,0)) (qW BK307) hb);replace HB:=Aside0.mk (below_step qC hb);clear hb;obtain ⟨hcz9_0,hcz9_1,hcz9_2,hfz9_0,hfz9_1,hfz9_2⟩:=cf3 BK307.out))
   go_ret
   exact ⟨qE,qC⟩
  replace c5:=Bool.eq_false_iff.mpr c5
  subst c5
  have H1:(some false)=some r:=by rw [if_neg (show ¬ (false=true) by decide)] at H;exact H
  clear H
  have H:=H1
  clear H1
  obtain rfl:=Option.some.inj H
  go_enter Tryz.func119,Tryz.ntmps119
  go_wp2_with (first|((with_reducible refine gate_dst (N:=2) rfl ?_);refine box_event ?hg (N:=2) ?hd (cs:=#[.int .i64 a0_0, .string a0_1, .string a0_2]) (t:=132) ?hr ?_;(case hd=>rfl);(case hg=>rfl);(case hr=>first|(go_simp;done)|(go_simp;rfl));intro gb307 hg w10 hbox hb;have BK307:=Aside0.mk hbox;have GW307:Aside0 (w.heap.size≤gb307):=⟨qH⟩;have GE307:=GW307;replace HB:=Aside0.mk (below_step qB hb);clear hb hbox hg;obtain ⟨hcz11_0,hcz11_1,hcz11_2,hfz11_0,hfz11_1,hfz11_2⟩:=cf3 BK307.out)|((with_reducible refine gate_callee (f:=150) rfl ?_);refine goesL_ (some 12) rfl rfl Tryz.func150 qK rfl #[.slice A1 l1.length c1, .string a0_1] rfl qG ?_;(with_reducible refine (tag_Find.calls k _ _ l1 a0_1 t308 false _ ?side1 ?side2 A3.out).mono ?_);(case side1=>repeat (first|exact (Kd.C_below HR1.out HB.out)|(with_reducible refine Kd.C_alloc ?_ _)|(with_reducible refine Kd.C_drewN ?_ _)|(with_reducible refine Kd.C_drew ?_)));(case side2=>exact HC1.out);rintro e w12 ⟨rfl,hb⟩;refine ⟨_,rfl,?_⟩;replace BK307:=Aside0.mk (blk_below (g:=gb307) (o := .cells #[.int .i64 a0_0, .string a0_1, .string a0_2] 132 (0,0)) (qW BK307) hb);replace HB:=Aside0.mk (below_step qC hb);clear hb;obtain ⟨hcz13_0,hcz13_1,hcz13_2,hfz13_0,hfz13_1,hfz13_2⟩:=cf3 BK307.out))
  go_ret
  exact ⟨qE,qC⟩
 rw [if_neg c4] at H
 have c4b0:(a0_0 ==1)=false:=beq_eq_false_iff_ne.mpr c4
 have c4b1:(a0_0 != 1)=true:=bne_iff_ne.mpr c4
 by_cases c14:a0_0=2
 ·rw [if_pos c14] at H
  have c14b0:(a0_0 ==2)=true:=beq_iff_eq.mpr c14
  have c14b1:(a0_0 != 2)=false:=bne_eq_false_iff_eq.mpr c14
  clear c14
  by_cases c15:t309=true
  ·subst c15
   have H1:(some (!(t308.toList ==a0_2.toList)))=some r:=by rw [if_pos rfl] at H;exact H
   clear H
   have H:=H1
   clear H1
   obtain rfl:=Option.some.inj H
   go_enter Tryz.func119,Tryz.ntmps119
   go_wp2_with (first|((with_reducible refine gate_dst (N:=2) rfl ?_);refine box_event ?hg (N:=2) ?hd (cs:=#[.int .i64 a0_0, .string a0_1, .string a0_2]) (t:=132) ?hr ?_;(case hd=>rfl);(case hg=>rfl);(case hr=>first|(go_simp;done)|(go_simp;rfl));intro gb307 hg w16 hbox hb;have BK307:=Aside0.mk hbox;have GW307:Aside0 (w.heap.size≤gb307):=⟨qH⟩;have GE307:=GW307;replace HB:=Aside0.mk (below_step qB hb);clear hb hbox hg;obtain ⟨hcz17_0,hcz17_1,hcz17_2,hfz17_0,hfz17_1,hfz17_2⟩:=cf3 BK307.out)|((with_reducible refine gate_callee (f:=150) rfl ?_);refine goesL_ (some 12) rfl rfl Tryz.func150 qK rfl #[.slice A1 l1.length c1, .string a0_1] rfl qG ?_;(with_reducible refine (tag_Find.calls k _ _ l1 a0_1 t308 true _ ?side1 ?side2 A3.out).mono ?_);(case side1=>repeat (first|exact (Kd.C_below HR1.out HB.out)|(with_reducible refine Kd.C_alloc ?_ _)|(with_reducible refine Kd.C_drewN ?_ _)|(with_reducible refine Kd.C_drew ?_)));(case side2=>exact HC1.out);rintro e w18 ⟨rfl,hb⟩;refine ⟨_,rfl,?_⟩;replace BK307:=Aside0.mk (blk_below (g:=gb307) (o := .cells #[.int .i64 a0_0, .string a0_1, .string a0_2] 132 (0,0)) (qW BK307) hb);replace HB:=Aside0.mk (below_step qC hb);clear hb;obtain ⟨hcz19_0,hcz19_1,hcz19_2,hfz19_0,hfz19_1,hfz19_2⟩:=cf3 BK307.out))
   go_ret
   exact ⟨qE,qC⟩
  replace c15:=Bool.eq_false_iff.mpr c15
  subst c15
  have H1:(some (!false))=some r:=by rw [if_neg (show ¬ (false=true) by decide)] at H;exact H
  clear H
  have H:=H1
  clear H1
  obtain rfl:=Option.some.inj H
  go_enter Tryz.func119,Tryz.ntmps119
  go_wp2_with (first|((with_reducible refine gate_dst (N:=2) rfl ?_);refine box_event ?hg (N:=2) ?hd (cs:=#[.int .i64 a0_0, .string a0_1, .string a0_2]) (t:=132) ?hr ?_;(case hd=>rfl);(case hg=>rfl);(case hr=>first|(go_simp;done)|(go_simp;rfl));intro gb307 hg w20 hbox hb;have BK307:=Aside0.mk hbox;have GW307:Aside0 (w.heap.size≤gb307):=⟨qH⟩;have GE307:=GW307;replace HB:=Aside0.mk (below_step qB hb);clear hb hbox hg;obtain ⟨hcz21_0,hcz21_1,hcz21_2,hfz21_0,hfz21_1,hfz21_2⟩:=cf3 BK307.out)|((with_reducible refine gate_callee (f:=150) rfl ?_);refine goesL_ (some 12) rfl rfl Tryz.func150 qK rfl #[.slice A1 l1.length c1, .string a0_1] rfl qG ?_;(with_reducible refine (tag_Find.calls k _ _ l1 a0_1 t308 false _ ?side1 ?side2 A3.out).mono ?_);(case side1=>repeat (first|exact (Kd.C_below HR1.out HB.out)|(with_reducible refine Kd.C_alloc ?_ _)|(with_reducible refine Kd.C_drewN ?_ _)|(with_reducible refine Kd.C_drew ?_)));(case side2=>exact HC1.out);rintro e w22 ⟨rfl,hb⟩;refine ⟨_,rfl,?_⟩;replace BK307:=Aside0.mk (blk_below (g:=gb307) (o := .cells #[.int .i64 a0_0, .string a0_1, .string a0_2] 132 (0,0)) (qW BK307) hb);replace HB:=Aside0.mk (below_step qC hb);clear hb;obtain ⟨hcz23_0,hcz23_1,hcz23_2,hfz23_0,hfz23_1,hfz23_2⟩:=cf3 BK307.out))
  go_ret
  exact ⟨qE,qC⟩
 rw [if_neg c14] at H
 have c14b0:(a0_0 ==2)=false:=beq_eq_false_iff_ne.mpr c14
 have c14b1:(a0_0 != 2)=true:=bne_iff_ne.mpr c14
 by_cases c24:a0_0=3
 rotate_left
 ·rw [if_neg c24] at H
  have c24b0:(a0_0 ==3)=false:=beq_eq_false_iff_ne.mpr c24
  have c24b1:(a0_0 != 3)=true:=bne_iff_ne.mpr c24
  by_cases c35:a0_0=4
  rotate_left
  ·rw [if_neg c35] at H
   have c35b0:(a0_0 ==4)=false:=beq_eq_false_iff_ne.mpr c35
   have c35b1:(a0_0 != 4)=true:=bne_iff_ne.mpr c35
   obtain rfl:=Option.some.inj H
   go_enter Tryz.func119,Tryz.ntmps119
   go_wp2_with (first|((with_reducible refine gate_dst (N:=2) rfl ?_);refine box_event ?hg (N:=2) ?hd (cs:=#[.int .i64 a0_0, .string a0_1, .string a0_2]) (t:=132) ?hr ?_;(case hd=>rfl);(case hg=>rfl);(case hr=>first|(go_simp;done)|(go_simp;rfl));intro gb307 hg w40 hbox hb;have BK307:=Aside0.mk hbox;have GW307:Aside0 (w.heap.size≤gb307):=⟨qH⟩;have GE307:=GW307;replace HB:=Aside0.mk (below_step qB hb);clear hb hbox hg;obtain ⟨hcz41_0,hcz41_1,hcz41_2,hfz41_0,hfz41_1,hfz41_2⟩:=cf3 BK307.out)|((with_reducible refine gate_callee (f:=150) rfl ?_);refine goesL_ (some 12) rfl rfl Tryz.func150 qK rfl #[.slice A1 l1.length c1, .string a0_1] rfl qG ?_;(with_reducible refine (tag_Find.calls k _ _ l1 a0_1 t308 t309 _ ?side1 ?side2 A3.out).mono ?_);(case side1=>repeat (first|exact (Kd.C_below HR1.out HB.out)|(with_reducible refine Kd.C_alloc ?_ _)|(with_reducible refine Kd.C_drewN ?_ _)|(with_reducible refine Kd.C_drew ?_)));(case side2=>exact HC1.out);rintro e w42 ⟨rfl,hb⟩;refine ⟨_,rfl,?_⟩;replace BK307:=Aside0.mk (blk_below (g:=gb307) (o := .cells #[.int .i64 a0_0, .string a0_1, .string a0_2] 132 (0,0)) (qW BK307) hb);replace HB:=Aside0.mk (below_step qC hb);clear hb;obtain ⟨hcz43_0,hcz43_1,hcz43_2,hfz43_0,hfz43_1,hfz43_2⟩:=cf3 BK307.out))
   go_ret
   exact ⟨qE,qC⟩
  rw [if_pos c35] at H
  have c35b0:(a0_0 ==4)=true:=beq_iff_eq.mpr c35
  have c35b1:(a0_0 != 4)=false:=bne_eq_false_iff_eq.mpr c35
  clear c35
  obtain rfl:=Option.some.inj H
  go_enter Tryz.func119,Tryz.ntmps119
  go_wp2_with (first|((with_reducible refine gate_dst (N:=2) rfl ?_);refine box_event ?hg (N:=2) ?hd (cs:=#[.int .i64 a0_0, .string a0_1, .string a0_2]) (t:=132) ?hr ?_;(case hd=>rfl);(case hg=>rfl);(case hr=>first|(go_simp;done)|(go_simp;rfl));intro gb307 hg w36 hbox hb;have BK307:=Aside0.mk hbox;have GW307:Aside0 (w.heap.size≤gb307):=⟨qH⟩;have GE307:=GW307;replace HB:=Aside0.mk (below_step qB hb);clear hb hbox hg;obtain ⟨hcz37_0,hcz37_1,hcz37_2,hfz37_0,hfz37_1,hfz37_2⟩:=cf3 BK307.out)|((with_reducible refine gate_callee (f:=150) rfl ?_);refine goesL_ (some 12) rfl rfl Tryz.func150 qK rfl #[.slice A1 l1.length c1, .string a0_1] rfl qG ?_;(with_reducible refine (tag_Find.calls k _ _ l1 a0_1 t308 t309 _ ?side1 ?side2 A3.out).mono ?_);(case side1=>repeat (first|exact (Kd.C_below HR1.out HB.out)|(with_reducible refine Kd.C_alloc ?_ _)|(with_reducible refine Kd.C_drewN ?_ _)|(with_reducible refine Kd.C_drew ?_)));(case side2=>exact HC1.out);rintro e w38 ⟨rfl,hb⟩;refine ⟨_,rfl,?_⟩;replace BK307:=Aside0.mk (blk_below (g:=gb307) (o := .cells #[.int .i64 a0_0, .string a0_1, .string a0_2] 132 (0,0)) (qW BK307) hb);replace HB:=Aside0.mk (below_step qC hb);clear hb;obtain ⟨hcz39_0,hcz39_1,hcz39_2,hfz39_0,hfz39_1,hfz39_2⟩:=cf3 BK307.out))
  go_ret
  exact ⟨qE,qC⟩
 rw [if_pos c24] at H
 have c24b0:(a0_0 ==3)=true:=beq_iff_eq.mpr c24
 have c24b1:(a0_0 != 3)=false:=bne_eq_false_iff_eq.mpr c24
 clear c24
 by_cases c25:t309=true
 rotate_left
 ·replace c25:=Bool.eq_false_iff.mpr c25
  subst c25
  have H1:(some false)=some r:=by rw [if_neg (show ¬ (false=true) by decide)] at H;exact H
  clear H
  have H:=H1
  clear H1
  obtain rfl:=Option.some.inj H
  go_enter Tryz.func119,Tryz.ntmps119
  go_wp2_with (first|((with_reducible refine gate_dst (N:=2) rfl ?_);refine box_event ?hg (N:=2) ?hd (cs:=#[.int .i64 a0_0, .string a0_1, .string a0_2]) (t:=132) ?hr ?_;(case hd=>rfl);(case hg=>rfl);(case hr=>first|(go_simp;done)|(go_simp;rfl));intro gb307 hg w31 hbox hb;have BK307:=Aside0.mk hbox;have GW307:Aside0 (w.heap.size≤gb307):=⟨qH⟩;have GE307:=GW307;replace HB:=Aside0.mk (below_step qB hb);clear hb hbox hg;obtain ⟨hcz32_0,hcz32_1,hcz32_2,hfz32_0,hfz32_1,hfz32_2⟩:=cf3 BK307.out)|((with_reducible refine gate_callee (f:=150) rfl ?_);refine goesL_ (some 12) rfl rfl Tryz.func150 qK rfl #[.slice A1 l1.length c1, .string a0_1] rfl qG ?_;(with_reducible refine (tag_Find.calls k _ _ l1 a0_1 t308 false _ ?side1 ?side2 A3.out).mono ?_);(case side1=>repeat (first|exact (Kd.C_below HR1.out HB.out)|(with_reducible refine Kd.C_alloc ?_ _)|(with_reducible refine Kd.C_drewN ?_ _)|(with_reducible refine Kd.C_drew ?_)));(case side2=>exact HC1.out);rintro e w33 ⟨rfl,hb⟩;refine ⟨_,rfl,?_⟩;replace BK307:=Aside0.mk (blk_below (g:=gb307) (o := .cells #[.int .i64 a0_0, .string a0_1, .string a0_2] 132 (0,0)) (qW BK307) hb);replace HB:=Aside0.mk (below_step qC hb);clear hb;obtain ⟨hcz34_0,hcz34_1,hcz34_2,hfz34_0,hfz34_1,hfz34_2⟩:=cf3 BK307.out))
  go_ret
  exact ⟨qE,qC⟩
 subst c25
 have H1:((strings_HasPrefix.f t308 a0_2).bind fun t310=>(some t310))=some r:=by rw [if_pos rfl] at H;exact H
 clear H
 have H:=H1
 clear H1
 replace H:=Option.bind_eq_some_iff.mp H
 obtain ⟨t310,A260,H⟩:=H
 replace H:(some t310)=some r:=H
 have A26:=Aside0.mk A260
 clear A260
 obtain rfl:=Option.some.inj H
 go_enter Tryz.func119,Tryz.ntmps119
 go_wp2_with (first|((with_reducible refine gate_dst (N:=2) rfl ?_);refine box_event ?hg (N:=2) ?hd (cs:=#[.int .i64 a0_0, .string a0_1, .string a0_2]) (t:=132) ?hr ?_;(case hd=>rfl);(case hg=>rfl);(case hr=>first|(go_simp;done)|(go_simp;rfl));intro gb307 hg w27 hbox hb;have BK307:=Aside0.mk hbox;have GW307:Aside0 (w.heap.size≤gb307):=⟨qH⟩;have GE307:=GW307;replace HB:=Aside0.mk (below_step qB hb);clear hb hbox hg;obtain ⟨hcz28_0,hcz28_1,hcz28_2,hfz28_0,hfz28_1,hfz28_2⟩:=cf3 BK307.out)|((with_reducible refine gate_callee (f:=150) rfl ?_);refine goesL_ (some 12) rfl rfl Tryz.func150 qK rfl #[.slice A1 l1.length c1, .string a0_1] rfl qG ?_;(with_reducible refine (tag_Find.calls k _ _ l1 a0_1 t308 true _ ?side1 ?side2 A3.out).mono ?_);(case side1=>repeat (first|exact (Kd.C_below HR1.out HB.out)|(with_reducible refine Kd.C_alloc ?_ _)|(with_reducible refine Kd.C_drewN ?_ _)|(with_reducible refine Kd.C_drew ?_)));(case side2=>exact HC1.out);rintro e w29 ⟨rfl,hb⟩;refine ⟨_,rfl,?_⟩;replace BK307:=Aside0.mk (blk_below (g:=gb307) (o := .cells #[.int .i64 a0_0, .string a0_1, .string a0_2] 132 (0,0)) (qW BK307) hb);replace HB:=Aside0.mk (below_step qC hb);clear hb;obtain ⟨hcz30_0,hcz30_1,hcz30_2,hfz30_0,hfz30_1,hfz30_2⟩:=cf3 BK307.out)|(go_at_call 151;(with_reducible refine (strings_HasPrefix.calls t308 a0_2 t310 _ A26.out).mono ?_);rintro e w' ⟨rfl,⟨nd,rfl⟩⟩))
 go_ret
 exact ⟨qE,qC⟩
def pick_Fits.one (k:Nat) (m:S127) (l0:List S93):Option Bool:=(pick_match_fits.f k m.f0 m.f1 m.f2 l0).bind fun t=>some (!t)
def pick_Fits.l0:Nat→List S127→List S93→Int→Option Int
 | 0,_,_,_=>none
 | k+1,x0,x1,x8=>if x8<(x0.length:Int) then (if 0≤x8 then ((pick_Fits.one k (rd_T127 x0 x8) x1).bind fun t=>(if t=true then (some x8) else (pick_Fits.l0 k x0 x1 (wrap64 (x8+1))))) else none) else (some (-1))
def pick_Fits.f (k:Nat) (l0:List S93) (l1:List S127):Option Bool:=(pick_Fits.l0 k l1 l0 0).bind fun i=>some (!(decide (i≥0)))
theorem pick_Fits.one_mono:∀ m l0 k,LeO (pick_Fits.one k m l0) (pick_Fits.one (k+1) m l0):=fun m l0 k=>LeO.bind (pick_match_fits.mono m.f0 m.f1 m.f2 l0 k) (fun _=>LeO.refl _)
theorem pick_Fits.l_mono:∀ k x0 x1 x8,LeO (pick_Fits.l0 k x0 x1 x8) (pick_Fits.l0 (k+1) x0 x1 x8)
 | 0=>fun _ _ _ r h=>by simp [pick_Fits.l0] at h
 | k+1=>fun x0 x1 x8=>by
  have ih:=pick_Fits.l_mono k
  unfold pick_Fits.l0
  exact LeO.ite (LeO.ite (LeO.bind (pick_Fits.one_mono _ _ _) (fun _=>LeO.ite (LeO.refl _) (ih _ _ _))) (LeO.refl _)) (LeO.refl _)
theorem pick_Fits.mono:∀ a0 a1 k,LeO (pick_Fits.f k a0 a1) (pick_Fits.f (k+1) a0 a1):=fun a0 a1 k=>LeO.bind (pick_Fits.l_mono k a1 a0 0) (fun _=>LeO.refl _)
theorem pick_Fits.clos (k:Nat) (m:S127) (l0:List S93) (b:Bool) (w:World) (gB:Nat) (A0:Option Addr) (c0:Nat) (hcell:w.cell? ⟨gB,0,none⟩=some (.slice A0 l0.length c0)) (hr0:Kd.C k93 w A0 l0.length l0) (hc0:l0.length≤c0) (h:pick_Fits.one k m l0=some b) :
  Calls Tryz.prog 118 #[.agg #[.int .i64 m.f0, .string m.f1, .string m.f2], .pointer (some ⟨gB,0,none⟩)] w fun e w'=>e = .returned (.bool b)∧Below w.heap.size w w':=by
 obtain ⟨t,ht,h⟩:=Option.bind_eq_some_iff.mp h
 obtain rfl:=Option.some.inj h
 have HF:=Aside0.mk ht
 have HR0:=Aside0.mk hr0
 have HC0:=Aside0.mk hc0
 have HW:=Aside0.mk hcell
 have hlt:=World.block_lt_of_cell? w _ hcell
 have HLT:=Aside0.mk hlt
 have hu127:=Tryz.underlying127
 have hu132:=Tryz.underlying132
 clear ht hr0 hc0 hcell hlt h
 go_enter Tryz.func118,Tryz.ntmps118
 go_wp2_with (first|((with_reducible refine gate_dst (N:=2) rfl ?_);refine box_event ?hg (N:=2) ?hd (cs:=#[.int .i64 m.f0, .string m.f1, .string m.f2]) (t:=127) ?hr ?_;(case hd=>rfl);(case hg=>rfl);(case hr=>first|(go_simp;done)|(go_simp;rfl));intro gb hgb w2 hbox hb;have HB:=Aside0.mk hb;have hx0:w2.cell? ⟨gb,0,none⟩=some (.int .i64 m.f0):=(blk_cell hbox 0).trans rfl;have hx1:w2.cell? ⟨gb,1,none⟩=some (.string m.f1):=(blk_cell hbox 1).trans rfl;have hx2:w2.cell? ⟨gb,2,none⟩=some (.string m.f2):=(blk_cell hbox 2).trans rfl;have hxc:w2.cell? ⟨gB,0,none⟩=some (.slice A0 l0.length c0):=(hb.cell HLT.out).trans HW.out;clear hbox hb hgb)|(go_at_call 119;refine (pick_match_fits.calls k m.f0 m.f1 m.f2 A0 c0 l0 t _ (Kd.C_below HR0.out HB.out) HC0.out HF.out).mono ?_;rintro e w3 ⟨rfl,hb⟩;have HB3:=Aside0.mk (below_then HB.out HB.out.size hb);clear hb))
 go_ret
 exact ⟨rfl,HB3.out⟩
theorem pick_Fits.index (k:Nat) (A0:Option Addr) (c0:Nat) (l0:List S93) (A1:Option Addr) (c1:Nat) (l1:List S127) (r:Int) (w:World) (gB:Nat) (hcell:w.cell? ⟨gB,0,none⟩=some (.slice A0 l0.length c0)) (hr0:Kd.C k93 w A0 l0.length l0) (hc0:l0.length≤c0) (hr1:Kd.C k127 w A1 l1.length l1) (hc1:l1.length≤c1) (h:pick_Fits.l0 k l1 l0 0=some r) :
  Calls Tryz.prog 136 #[.slice A1 l1.length c1, .func (.func 118) #[] #[.pointer (some ⟨gB,0,none⟩)]] w fun e w'=>e = .returned (.int .i64 r)∧Below w.heap.size w w':=by
 have hu127:=Tryz.underlying127
 have HR0:=Aside0.mk hr0
 have HC0:=Aside0.mk hc0
 have HR1:=Aside0.mk hr1
 have HC1:=Aside0.mk hc1
 have HW:=Aside0.mk hcell
 have HLT:=Aside0.mk (World.block_lt_of_cell? w _ hcell)
 have HB:=Aside0.mk (Below.refl w.heap.size w)
 have H':=Aside0.mk h
 clear hr0 hc0 hr1 hc1 hcell h
 go_enter Tryz.func136,Tryz.ntmps136
 go_wp2
 go_loopg [8] k (fun kq v8 w'=>∃ (x8_1:Int),v8 = .int .i64 x8_1∧Aside0 (pick_Fits.l0 kq l1 l0 x8_1=some r)∧Aside0 (kq≤k)∧Aside0 (Below w.heap.size w w'))
 case atStart=>exact ⟨(0),qS,H',⟨Nat.le_refl _⟩,⟨qB⟩⟩
 case round =>
  clear H'
  obtain ⟨x8_1,rfl,HA,HK1,HB⟩:=hrel
  cases gk with
  | zero=>exact absurd HA.out (by simp [pick_Fits.l0])
  | succ k1 =>
   have H:=HA.out
   clear HA
   simp only [pick_Fits.l0] at H
   by_cases c3:x8_1<(l1.length:Int)
   rotate_left
   ·rw [if_neg c3] at H
    have c3b0:decide (x8_1<(l1.length:Int))=false:=decide_eq_false c3
    clear c3
    obtain rfl:=Option.some.inj H
    go_wp2
    go_ret
    exact ⟨qE,qB⟩
   rw [if_pos c3] at H
   have c3b0:decide (x8_1<(l1.length:Int))=true:=decide_eq_true c3
   clear c3
   by_cases c4:0≤x8_1
   rotate_left
   ·rw [if_neg c4] at H
    exact absurd H (by simp)
   rw [if_pos c4] at H
   have c4b0:decide (0≤x8_1)=true:=decide_eq_true c4
   clear c4
   obtain ⟨t,A60,H⟩:=Option.bind_eq_some_iff.mp H
   have A6:=Aside0.mk A60
   clear A60
   have p272:0≤(x8_1:Int):=of_decide_eq_true qA
   have q272:x8_1<(l1.length:Int):=of_decide_eq_true qA
   obtain ⟨ad272,e272,hx272_0,hx272_1,hx272_2⟩:=at_T127 HR1.out x8_1 p272 q272
   cases e272
   replace hx272_0:=(HB.out.cell (World.block_lt_of_cell? w _ hx272_0)).trans hx272_0
   replace hx272_1:=(HB.out.cell (World.block_lt_of_cell? w _ hx272_1)).trans hx272_1
   replace hx272_2:=(HB.out.cell (World.block_lt_of_cell? w _ hx272_2)).trans hx272_2
   replace p272:=eq_true p272
   replace q272:=eq_true q272
   cases t with
   | true =>
    rw [if_pos rfl] at H
    obtain rfl:=Option.some.inj H
    go_wp2_with (go_at_call 118;refine (pick_Fits.clos k1 (rd_T127 l1 x8_1) l0 true _ gB A0 c0 ((HB.out.cell HLT.out).trans HW.out) (Kd.C_below HR0.out HB.out) HC0.out A6.out).mono ?_;rintro e w8 ⟨rfl,hb⟩;have HB8:=Aside0.mk (below_then HB.out HB.out.size hb);clear hb)
    go_ret
    exact ⟨rfl,HB8.out⟩
   | false =>
    rw [if_neg (show ¬ (false=true) by decide)] at H
    have H':=Aside0.mk H
    clear H
    go_wp2_with (go_at_call 118;refine (pick_Fits.clos k1 (rd_T127 l1 x8_1) l0 false _ gB A0 c0 ((HB.out.cell HLT.out).trans HW.out) (Kd.C_below HR0.out HB.out) HC0.out A6.out).mono ?_;rintro e w8 ⟨rfl,hb⟩;have HB8:=Aside0.mk (below_then HB.out HB.out.size hb);clear hb)
    go_roundg k1
    case measure=>have:=HK1.out;omega
    case rel=>exact ⟨(wrap64 (x8_1+1)),qS,H',⟨by have:=HK1.out;omega⟩,HB8⟩
theorem pick_Fits.contains (k:Nat) (A0:Option Addr) (c0:Nat) (l0:List S93) (A1:Option Addr) (c1:Nat) (l1:List S127) (r:Int) (w:World) (gB:Nat) (hcell:w.cell? ⟨gB,0,none⟩=some (.slice A0 l0.length c0)) (hr0:Kd.C k93 w A0 l0.length l0) (hc0:l0.length≤c0) (hr1:Kd.C k127 w A1 l1.length l1) (hc1:l1.length≤c1) (h:pick_Fits.l0 k l1 l0 0=some r) :
  Calls Tryz.prog 101 #[.slice A1 l1.length c1, .func (.func 118) #[] #[.pointer (some ⟨gB,0,none⟩)]] w fun e w'=>e = .returned (.bool (decide (0≤r)))∧Below w.heap.size w w':=by
 have HI:=Aside0.mk (pick_Fits.index k A0 c0 l0 A1 c1 l1 r w gB hcell hr0 hc0 hr1 hc1 h)
 clear hr0 hc0 hr1 hc1 hcell h
 go_enter Tryz.func101,Tryz.ntmps101
 go_wp2_with (go_at_call 136;refine HI.out.mono ?_;rintro e w8 ⟨rfl,hb⟩;have HB8:=Aside0.mk hb;clear hb)
 go_ret
 exact ⟨rfl,HB8.out⟩
theorem pick_Fits.calls (k:Nat) (A0:Option Addr) (c0:Nat) (l0:List S93) (A1:Option Addr) (c1:Nat) (l1:List S127) (r:Bool) (w:World) (hr0:Kd.C k93 w A0 l0.length l0) (hc0:l0.length≤c0) (hr1:Kd.C k127 w A1 l1.length l1) (hc1:l1.length≤c1) (h:pick_Fits.f k l0 l1=some r) :
  Calls Tryz.prog 73 #[.slice A0 l0.length c0, .slice A1 l1.length c1] w fun e w'=>e = .returned (.bool r)∧Below w.heap.size w w':=by
 obtain ⟨i,hi,h⟩:=Option.bind_eq_some_iff.mp h
 obtain rfl:=Option.some.inj h
 have HR0:=Aside0.mk hr0
 have HC0:=Aside0.mk hc0
 have HR1:=Aside0.mk hr1
 have HC1:=Aside0.mk hc1
 have HF:=Aside0.mk hi
 clear hr0 hc0 hr1 hc1 h hi
 go_enter Tryz.func73,Tryz.ntmps73
 go_wp2_with (first|((with_reducible refine gate_dst (N:=2) rfl ?_);refine box_event ?hg (N:=2) ?hd (cs:=#[.slice A0 l0.length c0]) (t:=34) ?hr ?_;(case hd=>rfl);(case hg=>rfl);(case hr=>first|(go_simp;done)|(go_simp;rfl));intro gb hgb w2 hbox hb;have HB:=Aside0.mk hb;have HX:=Aside0.mk (show w2.cell? ⟨gb,0,none⟩=some (.slice A0 l0.length c0) from (blk_cell hbox 0).trans rfl);clear hbox hb hgb)|(go_at_call 101;refine (pick_Fits.contains k A0 c0 l0 A1 c1 l1 i _ gb HX.out (Kd.C_below HR0.out HB.out) HC0.out (Kd.C_below HR1.out HB.out) HC1.out HF.out).mono ?_;rintro e w3 ⟨rfl,hb⟩;have HB3:=Aside0.mk (below_then HB.out HB.out.size hb);clear hb))
 go_ret
 exact ⟨rfl,HB3.out⟩
def query_Fits.f (k:Nat) (a0_0:Int) (a0_1:ByteArray) (l0_2:List (S127)) (l0_3:List ByteArray) (a1_0:ByteArray) (l1_1:List (S93)):Option (Bool):=if a1_0.toList=a0_1.toList then ((pick_Fits.f k l1_1 l0_2).bind fun t313=>(some t313)) else (some false)
theorem query_Fits.mono:∀ a0 a1 a2 a3 a4 a5 k,LeO (query_Fits.f k a0 a1 a2 a3 a4 a5) (query_Fits.f (k+1) a0 a1 a2 a3 a4 a5):=by
 intro a0 a1 a2 a3 a4 a5 k
 unfold query_Fits.f
 repeat' first
   | (with_reducible exact pick_Fits.mono _ _ _)
   | (with_reducible exact LeO.refl _)
   | (with_reducible exact LeO.none _)
   | (with_reducible refine LeO.ite ?_ ?_)
   | (with_reducible refine LeO.bind ?_ (fun _=>?_))
   | exact pick_Fits.mono _ _ _
   | exact LeO.none _
   | refine LeO.ite ?_ ?_
   | refine LeO.bind ?_ (fun _=>?_)
theorem query_Fits.calls (k:Nat) (a0_0:Int) (a0_1:ByteArray) (A0_2:Option Addr) (c0_2:Nat) (l0_2:List (S127)) (A0_3:Option Addr) (c0_3:Nat) (l0_3:List ByteArray) (a1_0:ByteArray) (A1_1:Option Addr) (c1_1:Nat) (l1_1:List (S93)) (r:Bool) (w:World) (hr0_2:Kd.C k127 w A0_2 l0_2.length l0_2) (hc0_2:l0_2.length≤c0_2) (hr0_3:Kd.C Kd.string w A0_3 l0_3.length l0_3) (hc0_3:l0_3.length≤c0_3) (hr1_1:Kd.C k93 w A1_1 l1_1.length l1_1) (hc1_1:l1_1.length≤c1_1) (h:query_Fits.f k a0_0 a0_1 l0_2 l0_3 a1_0 l1_1=some r) :
  Calls Tryz.prog 23 #[.agg #[.int .i64 a0_0, .string a0_1, .slice A0_2 l0_2.length c0_2, .slice A0_3 l0_3.length c0_3], .agg #[.string a1_0, .slice A1_1 l1_1.length c1_1]] w fun e w'=>e = .returned (.bool r)∧Below w.heap.size w w':=by
 have hu25:=Tryz.underlying25
 have hu36:=Tryz.underlying36
 have HR0_2:=Aside0.mk hr0_2
 have HC0_2:=Aside0.mk hc0_2
 clear hr0_2 hc0_2
 have HR0_3:=Aside0.mk hr0_3
 have HC0_3:=Aside0.mk hc0_3
 clear hr0_3 hc0_3
 have HR1_1:=Aside0.mk hr1_1
 have HC1_1:=Aside0.mk hc1_1
 clear hr1_1 hc1_1
 have HB:=Aside0.mk (Below.refl w.heap.size w)
 have H:(if a1_0.toList=a0_1.toList then ((pick_Fits.f k l1_1 l0_2).bind fun t313=>(some t313)) else (some false))=some r:=h
 clear h
 by_cases c3:a1_0.toList=a0_1.toList
 rotate_left
 ·rw [if_neg c3] at H
  have c3b0:(a1_0.toList ==a0_1.toList)=false:=beq_eq_false_iff_ne.mpr c3
  have c3b1:(a1_0.toList != a0_1.toList)=true:=bne_iff_ne.mpr c3
  obtain rfl:=Option.some.inj H
  go_enter Tryz.func23,Tryz.ntmps23
  go_wp2_with (first|((with_reducible refine gate_dst (N:=2) rfl ?_);refine box_event ?hg (N:=2) ?hd (cs:=#[.int .i64 a0_0, .string a0_1, .slice A0_2 l0_2.length c0_2, .slice A0_3 l0_3.length c0_3]) (t:=25) ?hr ?_;(case hd=>rfl);(case hg=>rfl);(case hr=>first|(go_simp;done)|(go_simp;rfl));intro gb311 hg w11 hbox hb;have BK311:=Aside0.mk hbox;have GW311:Aside0 (w.heap.size≤gb311):=⟨qH⟩;have GE311:=GW311;replace HB:=Aside0.mk (below_step qB hb);clear hb hbox hg)|((with_reducible refine gate_dst (N:=3) rfl ?_);refine box_event ?hg (N:=3) ?hd (cs:=#[.string a1_0, .slice A1_1 l1_1.length c1_1]) (t:=36) ?hr ?_;(case hd=>rfl);(case hg=>rfl);(case hr=>first|(go_simp;done)|(go_simp;rfl));intro gb312 hg w12 hbox hb;have BK312:=Aside0.mk hbox;have GW312:Aside0 (w.heap.size≤gb312):=⟨qI⟩;have GE312:=GW312;replace HB:=Aside0.mk (below_step qC hb);have NB311_312:=Aside0.mk ((by rw [hg];exact Nat.ne_of_lt (blk_lt (g:=gb311) (o := .cells #[.int .i64 a0_0, .string a0_1, .slice A0_2 l0_2.length c0_2, .slice A0_3 l0_3.length c0_3] 25 (0,0)) (qW BK311)):gb311≠gb312));have NB312_311:=Aside0.mk ((by rw [hg];exact Nat.ne_of_gt (blk_lt (g:=gb311) (o := .cells #[.int .i64 a0_0, .string a0_1, .slice A0_2 l0_2.length c0_2, .slice A0_3 l0_3.length c0_3] 25 (0,0)) (qW BK311)):gb312≠gb311));replace BK311:=Aside0.mk (blk_below (g:=gb311) (o := .cells #[.int .i64 a0_0, .string a0_1, .slice A0_2 l0_2.length c0_2, .slice A0_3 l0_3.length c0_3] 25 (0,0)) (qW BK311) hb);clear hb hbox hg;have hnb13:=NB312_311.out;have hnc13:=NB311_312.out;obtain ⟨hcz14_0,hcz14_1,hfz14_0,hfz14_1⟩:=cf2 BK312.out;obtain ⟨hcz15_0,hcz15_1,hcz15_2,hcz15_3,hfz15_0,hfz15_1,hfz15_2,hfz15_3⟩:=cf4 BK311.out))
  go_ret
  exact ⟨qE,qC⟩
 rw [if_pos c3] at H
 have c3b0:(a1_0.toList ==a0_1.toList)=true:=beq_iff_eq.mpr c3
 have c3b1:(a1_0.toList != a0_1.toList)=false:=bne_eq_false_iff_eq.mpr c3
 clear c3
 replace H:=Option.bind_eq_some_iff.mp H
 obtain ⟨t313,A40,H⟩:=H
 replace H:(some t313)=some r:=H
 have A4:=Aside0.mk A40
 clear A40
 obtain rfl:=Option.some.inj H
 go_enter Tryz.func23,Tryz.ntmps23
 go_wp2_with (first|((with_reducible refine gate_dst (N:=2) rfl ?_);refine box_event ?hg (N:=2) ?hd (cs:=#[.int .i64 a0_0, .string a0_1, .slice A0_2 l0_2.length c0_2, .slice A0_3 l0_3.length c0_3]) (t:=25) ?hr ?_;(case hd=>rfl);(case hg=>rfl);(case hr=>first|(go_simp;done)|(go_simp;rfl));intro gb311 hg w5 hbox hb;have BK311:=Aside0.mk hbox;have GW311:Aside0 (w.heap.size≤gb311):=⟨qH⟩;have GE311:=GW311;replace HB:=Aside0.mk (below_step qB hb);clear hb hbox hg)|((with_reducible refine gate_dst (N:=3) rfl ?_);refine box_event ?hg (N:=3) ?hd (cs:=#[.string a1_0, .slice A1_1 l1_1.length c1_1]) (t:=36) ?hr ?_;(case hd=>rfl);(case hg=>rfl);(case hr=>first|(go_simp;done)|(go_simp;rfl));intro gb312 hg w6 hbox hb;have BK312:=Aside0.mk hbox;have GW312:Aside0 (w.heap.size≤gb312):=⟨qI⟩;have GE312:=GW312;replace HB:=Aside0.mk (below_step qC hb);have NB311_312:=Aside0.mk ((by rw [hg];exact Nat.ne_of_lt (blk_lt (g:=gb311) (o := .cells #[.int .i64 a0_0, .string a0_1, .slice A0_2 l0_2.length c0_2, .slice A0_3 l0_3.length c0_3] 25 (0,0)) (qW BK311)):gb311≠gb312));have NB312_311:=Aside0.mk ((by rw [hg];exact Nat.ne_of_gt (blk_lt (g:=gb311) (o := .cells #[.int .i64 a0_0, .string a0_1, .slice A0_2 l0_2.length c0_2, .slice A0_3 l0_3.length c0_3] 25 (0,0)) (qW BK311)):gb312≠gb311));replace BK311:=Aside0.mk (blk_below (g:=gb311) (o := .cells #[.int .i64 a0_0, .string a0_1, .slice A0_2 l0_2.length c0_2, .slice A0_3 l0_3.length c0_3] 25 (0,0)) (qW BK311) hb);clear hb hbox hg;have hnb7:=NB312_311.out;have hnc7:=NB311_312.out;obtain ⟨hcz8_0,hcz8_1,hfz8_0,hfz8_1⟩:=cf2 BK312.out;obtain ⟨hcz9_0,hcz9_1,hcz9_2,hcz9_3,hfz9_0,hfz9_1,hfz9_2,hfz9_3⟩:=cf4 BK311.out)|(go_at_call 73;(with_reducible refine (pick_Fits.calls k _ _ l1_1 _ _ l0_2 t313 _ ?side1 ?side2 ?side3 ?side4 A4.out).mono ?_);(case side1=>repeat (first|exact (Kd.C_below HR1_1.out HB.out)|(with_reducible refine Kd.C_alloc ?_ _)|(with_reducible refine Kd.C_drewN ?_ _)|(with_reducible refine Kd.C_drew ?_)));(case side2=>exact HC1_1.out);(case side3=>repeat (first|exact (Kd.C_below HR0_2.out HB.out)|(with_reducible refine Kd.C_alloc ?_ _)|(with_reducible refine Kd.C_drewN ?_ _)|(with_reducible refine Kd.C_drew ?_)));(case side4=>exact HC0_2.out);rintro e w10 ⟨rfl,hb⟩;replace BK311:=Aside0.mk (blk_below (g:=gb311) (o := .cells #[.int .i64 a0_0, .string a0_1, .slice A0_2 l0_2.length c0_2, .slice A0_3 l0_3.length c0_3] 25 (0,0)) (qW BK311) hb);replace BK312:=Aside0.mk (blk_below (g:=gb312) (o := .cells #[.string a1_0, .slice A1_1 l1_1.length c1_1] 36 (0,0)) (qW BK312) hb);replace HB:=Aside0.mk (below_step qC hb);clear hb))
 go_ret
 exact ⟨qE,qC⟩
def slices_Index_string.l0:Nat→List ByteArray→ByteArray→Int→Int→Option (Int)
 | 0,_,_,_,_=>none
 | k+1,x0,x1,x7,x8=>if x8<x7 then (if 0≤x8 then (if x8<(x0.length:Int) then (if x1.toList=(rdOf ByteArray.empty x0 x8).toList then (some x8) else (slices_Index_string.l0 k x0 x1 x7 (wrap64 (x8+1)))) else (none)) else (none)) else (some (-1))
def slices_Index_string.f (k:Nat) (l0:List ByteArray) (a1:ByteArray):Option (Int):=slices_Index_string.l0 k l0 a1 (l0.length:Int) 0
theorem slices_Index_string.mono_l:∀ k,(∀ y0 y1 y2 y3,LeO (slices_Index_string.l0 k y0 y1 y2 y3) (slices_Index_string.l0 (k+1) y0 y1 y2 y3))
 | 0=>fun _ _ _ _ r h=>by simp [slices_Index_string.l0] at h
 | k+1=>by
  have ih0:=slices_Index_string.mono_l k
  ·intro y0 y1 y2 y3
   unfold slices_Index_string.l0
   repeat' first
   | (with_reducible exact ih0 _ _ _ _)
   | (with_reducible exact LeO.refl _)
   | (with_reducible exact LeO.none _)
   | (with_reducible refine LeO.ite ?_ ?_)
   | (with_reducible refine LeO.bind ?_ (fun _=>?_))
   | exact ih0 _ _ _ _
   | exact LeO.none _
   | refine LeO.ite ?_ ?_
   | refine LeO.bind ?_ (fun _=>?_)
theorem slices_Index_string.mono:∀ a0 a1 k,LeO (slices_Index_string.f k a0 a1) (slices_Index_string.f (k+1) a0 a1):=by
 intro a0 a1 k
 have ih0:=slices_Index_string.mono_l k
 unfold slices_Index_string.f
 repeat' first
   | (with_reducible exact ih0 _ _ _ _)
   | (with_reducible exact LeO.refl _)
   | (with_reducible exact LeO.none _)
   | (with_reducible refine LeO.ite ?_ ?_)
   | (with_reducible refine LeO.bind ?_ (fun _=>?_))
   | exact ih0 _ _ _ _
   | exact LeO.none _
   | refine LeO.ite ?_ ?_
   | refine LeO.bind ?_ (fun _=>?_)
theorem slices_Index_string.calls (k:Nat) (A0:Option Addr) (c0:Nat) (l0:List ByteArray) (a1:ByteArray) (r:Int) (w:World) (hr0:Kd.C Kd.string w A0 l0.length l0) (hc0:l0.length≤c0) (h:slices_Index_string.f k l0 a1=some r) :
  Calls Tryz.prog 153 #[.slice A0 l0.length c0, .string a1] w fun e w'=>e = .returned (.int .i64 r)∧Drawn0 w w':=by
 have HR0:=Aside0.mk hr0
 have HC0:=Aside0.mk hc0
 clear hr0 hc0
 have H:(slices_Index_string.l0 k l0 a1 (l0.length:Int) 0)=some r:=h
 clear h
 have H':=Aside0.mk H
 clear H
 go_enter Tryz.func153,Tryz.ntmps153
 go_wp2
 go_loopg [8] k (fun kq v8 w'=>∃ (x8_1:Int),v8 = .int .i64 x8_1∧Aside0 (slices_Index_string.l0 kq l0 a1 (l0.length:Int) x8_1=some r)∧Aside0 (kq≤k)∧Drawn0 w w')
 case atStart=>exact ⟨(0),qS,H',⟨Nat.le_refl _⟩,qD⟩
 case round =>
  clear H'
  obtain ⟨x8_1,rfl,HA,HK1,⟨m1,rfl⟩⟩:=hrel
  cases gk with
  | zero=>exact absurd HA.out (by simp [slices_Index_string.l0])
  | succ k1 =>
   have H:=HA.out
   clear HA
   simp only [slices_Index_string.l0] at H
   by_cases c3:x8_1<(l0.length:Int)
   rotate_left
   ·rw [if_neg c3] at H
    have c3b0:decide (x8_1<(l0.length:Int))=false:=decide_eq_false c3
    clear c3
    obtain rfl:=Option.some.inj H
    go_wp2
    go_ret
    exact ⟨qS,qD⟩
   rw [if_pos c3] at H
   have c3b0:decide (x8_1<(l0.length:Int))=true:=decide_eq_true c3
   clear c3
   by_cases c4:0≤x8_1
   rotate_left
   ·rw [if_neg c4] at H
    exact absurd H (by simp)
   rw [if_pos c4] at H
   have c4b0:decide (0≤x8_1)=true:=decide_eq_true c4
   clear c4
   by_cases c5:x8_1<(l0.length:Int)
   rotate_left
   ·rw [if_neg c5] at H
    exact absurd H (by simp)
   rw [if_pos c5] at H
   have c5b0:decide (x8_1<(l0.length:Int))=true:=decide_eq_true c5
   clear c5
   by_cases c6:a1.toList=(rdOf ByteArray.empty l0 x8_1).toList
   ·rw [if_pos c6] at H
    have c6b0:(a1.toList ==(rdOf ByteArray.empty l0 x8_1).toList)=true:=beq_iff_eq.mpr c6
    have c6b1:(a1.toList != (rdOf ByteArray.empty l0 x8_1).toList)=false:=bne_eq_false_iff_eq.mpr c6
    clear c6
    obtain rfl:=Option.some.inj H
    have p314:0≤(x8_1:Int):=of_decide_eq_true qA
    have q314:x8_1<(l0.length:Int):=of_decide_eq_true qA
    obtain ⟨ad314,e314,hx314_0⟩:=Kd.at_string HR0.out x8_1 p314 q314
    cases e314
    replace p314:=eq_true p314
    replace q314:=eq_true q314
    go_wp2
    go_ret
    exact ⟨qS,qD⟩
   rw [if_neg c6] at H
   have c6b0:(a1.toList ==(rdOf ByteArray.empty l0 x8_1).toList)=false:=beq_eq_false_iff_ne.mpr c6
   have c6b1:(a1.toList != (rdOf ByteArray.empty l0 x8_1).toList)=true:=bne_iff_ne.mpr c6
   have H':=Aside0.mk H
   clear H
   have p314:0≤(x8_1:Int):=of_decide_eq_true qA
   have q314:x8_1<(l0.length:Int):=of_decide_eq_true qA
   obtain ⟨ad314,e314,hx314_0⟩:=Kd.at_string HR0.out x8_1 p314 q314
   cases e314
   replace p314:=eq_true p314
   replace q314:=eq_true q314
   go_wp2
   go_roundg k1
   case measure=>have:=HK1.out;omega
   case rel=>exact ⟨(wrap64 (x8_1+1)),qS,H',⟨by have:=HK1.out;omega⟩,qD⟩
def slices_Contains_string.f (k:Nat) (l0:List ByteArray) (a1:ByteArray):Option (Bool):=(slices_Index_string.f k l0 a1).bind fun t315=>(some (decide (t315≥0)))
theorem slices_Contains_string.mono:∀ a0 a1 k,LeO (slices_Contains_string.f k a0 a1) (slices_Contains_string.f (k+1) a0 a1):=by
 intro a0 a1 k
 unfold slices_Contains_string.f
 repeat' first
   | (with_reducible exact slices_Index_string.mono _ _ _)
   | (with_reducible exact LeO.refl _)
   | (with_reducible exact LeO.none _)
   | (with_reducible refine LeO.ite ?_ ?_)
   | (with_reducible refine LeO.bind ?_ (fun _=>?_))
   | exact slices_Index_string.mono _ _ _
   | exact LeO.none _
   | refine LeO.ite ?_ ?_
   | refine LeO.bind ?_ (fun _=>?_)
theorem slices_Contains_string.calls (k:Nat) (A0:Option Addr) (c0:Nat) (l0:List ByteArray) (a1:ByteArray) (r:Bool) (w:World) (hr0:Kd.C Kd.string w A0 l0.length l0) (hc0:l0.length≤c0) (h:slices_Contains_string.f k l0 a1=some r) :
  Calls Tryz.prog 121 #[.slice A0 l0.length c0, .string a1] w fun e w'=>e = .returned (.bool r)∧Drawn0 w w':=by
 have HR0:=Aside0.mk hr0
 have HC0:=Aside0.mk hc0
 clear hr0 hc0
 have H:((slices_Index_string.f k l0 a1).bind fun t315=>(some (decide (t315≥0))))=some r:=h
 clear h
 replace H:=Option.bind_eq_some_iff.mp H
 obtain ⟨t315,A30,H⟩:=H
 replace H:(some (decide (t315≥0)))=some r:=H
 have A3:=Aside0.mk A30
 clear A30
 obtain rfl:=Option.some.inj H
 go_enter Tryz.func121,Tryz.ntmps121
 go_wp2_with (first|((with_reducible refine gate_callee (f:=153) rfl ?_);refine goesL_ (some 7) rfl rfl Tryz.func153 qK rfl #[.slice A0 l0.length c0, .string a1] rfl qG ?_;(with_reducible refine (slices_Index_string.calls k _ _ l0 a1 t315 _ ?side1 ?side2 A3.out).mono ?_);(case side1=>repeat (first|exact HR0.out|(with_reducible refine Kd.C_alloc ?_ _)|(with_reducible refine Kd.C_drewN ?_ _)|(with_reducible refine Kd.C_drew ?_)));(case side2=>exact HC0.out);rintro e w' ⟨rfl,⟨nd,rfl⟩⟩;refine ⟨_,rfl,?_⟩))
 go_ret
 exact ⟨qS,qD⟩
def tag_Only.l0:Nat→List ByteArray→List (S93)→List (S93)→Int→Int→Option ((List (S93)))
 | 0,_,_,_,_,_=>none
 | k+1,x1,x4,x7,x8,x9=>if x9<x8 then (if 0≤x9 then (if x9<(x7.length:Int) then ((slices_Contains_string.f k x1 ((rd_T93 x7 x9).f0)).bind fun t318=>(if t318=true then (if x4.length<4398046511104 then (tag_Only.l0 k x1 (x4++[(⟨(rd_T93 x7 x9).f0,(rd_T93 x7 x9).f1⟩:S93)]) x7 x8 (wrap64 (x9+1))) else (none)) else (tag_Only.l0 k x1 x4 x7 x8 (wrap64 (x9+1))))) else (none)) else (none)) else (some x4)
def tag_Only.f (k:Nat) (l0:List (S93)) (l1:List ByteArray):Option ((List (S93))):=tag_Only.l0 k l1 ([]:List (S93)) l0 (l0.length:Int) 0
theorem tag_Only.mono_l:∀ k,(∀ y0 y1 y2 y3 y4,LeO (tag_Only.l0 k y0 y1 y2 y3 y4) (tag_Only.l0 (k+1) y0 y1 y2 y3 y4))
 | 0=>fun _ _ _ _ _ r h=>by simp [tag_Only.l0] at h
 | k+1=>by
  have ih0:=tag_Only.mono_l k
  ·intro y0 y1 y2 y3 y4
   unfold tag_Only.l0
   repeat' first
   | (with_reducible exact ih0 _ _ _ _ _)
   | (with_reducible exact slices_Contains_string.mono _ _ _)
   | (with_reducible exact LeO.refl _)
   | (with_reducible exact LeO.none _)
   | (with_reducible refine LeO.ite ?_ ?_)
   | (with_reducible refine LeO.bind ?_ (fun _=>?_))
   | exact ih0 _ _ _ _ _
   | exact slices_Contains_string.mono _ _ _
   | exact LeO.none _
   | refine LeO.ite ?_ ?_
   | refine LeO.bind ?_ (fun _=>?_)
theorem tag_Only.mono:∀ a0 a1 k,LeO (tag_Only.f k a0 a1) (tag_Only.f (k+1) a0 a1):=by
 intro a0 a1 k
 have ih0:=tag_Only.mono_l k
 unfold tag_Only.f
 repeat' first
   | (with_reducible exact ih0 _ _ _ _ _)
   | (with_reducible exact slices_Contains_string.mono _ _ _)
   | (with_reducible exact LeO.refl _)
   | (with_reducible exact LeO.none _)
   | (with_reducible refine LeO.ite ?_ ?_)
   | (with_reducible refine LeO.bind ?_ (fun _=>?_))
   | exact ih0 _ _ _ _ _
   | exact slices_Contains_string.mono _ _ _
   | exact LeO.none _
   | refine LeO.ite ?_ ?_
   | refine LeO.bind ?_ (fun _=>?_)
theorem tag_Only.calls (k:Nat) (A0:Option Addr) (c0:Nat) (l0:List (S93)) (A1:Option Addr) (c1:Nat) (l1:List ByteArray) (r:List (S93)) (w:World) (hr0:Kd.C k93 w A0 l0.length l0) (hc0:l0.length≤c0) (hr1:Kd.C Kd.string w A1 l1.length l1) (hc1:l1.length≤c1) (h:tag_Only.f k l0 l1=some r) :
  Calls Tryz.prog 76 #[.slice A0 l0.length c0, .slice A1 l1.length c1] w fun e w'=>∃ v0_:Value,e = .returned (v0_)∧Kd.R k93 93 w' w.heap.size (fun _=>True) v0_ r∧Below w.heap.size w w':=by
 have hu93:=Tryz.underlying93
 have HR0:=Aside0.mk hr0
 have HC0:=Aside0.mk hc0
 clear hr0 hc0
 have HR1:=Aside0.mk hr1
 have HC1:=Aside0.mk hc1
 clear hr1 hc1
 have HB:=Aside0.mk (Below.refl w.heap.size w)
 have H:(tag_Only.l0 k l1 ([]:List (S93)) l0 (l0.length:Int) 0)=some r:=h
 clear h
 have H':=Aside0.mk H
 clear H
 go_enter Tryz.func76,Tryz.ntmps76
 go_wp2
 go_loopg [4,9] k (fun kq v4 v9 w'=>∃ (x4_1:List (S93)) (x9_1:Int),v9 = .int .i64 x9_1∧Aside0 (tag_Only.l0 kq l1 x4_1 l0 (l0.length:Int) x9_1=some r)∧Aside0 (kq≤k)∧Aside0 (Kd.R k93 93 w' w.heap.size (fun _=>True) v4 x4_1)∧Aside0 (Below w.heap.size w w'))
 case atStart=>exact ⟨(([]:List (S93))),(0),qS,H',⟨Nat.le_refl _⟩,⟨qN⟩,⟨qB⟩⟩
 case round =>
  clear H'
  obtain ⟨x4_1,x9_1,rfl,HA,HK1,HO_4,HB⟩:=hrel
  cases gk with
  | zero=>exact absurd HA.out (by simp [tag_Only.l0])
  | succ k1 =>
   have H:=HA.out
   clear HA
   simp only [tag_Only.l0] at H
   by_cases c3:x9_1<(l0.length:Int)
   rotate_left
   ·rw [if_neg c3] at H
    have c3b0:decide (x9_1<(l0.length:Int))=false:=decide_eq_false c3
    clear c3
    obtain rfl:=Option.some.inj H
    go_wp2
    go_ret
    exact ⟨_,qE,qR HO_4,qB⟩
   rw [if_pos c3] at H
   have c3b0:decide (x9_1<(l0.length:Int))=true:=decide_eq_true c3
   clear c3
   by_cases c4:0≤x9_1
   rotate_left
   ·rw [if_neg c4] at H
    exact absurd H (by simp)
   rw [if_pos c4] at H
   have c4b0:decide (0≤x9_1)=true:=decide_eq_true c4
   clear c4
   by_cases c5:x9_1<(l0.length:Int)
   rotate_left
   ·rw [if_neg c5] at H
    exact absurd H (by simp)
   rw [if_pos c5] at H
   have c5b0:decide (x9_1<(l0.length:Int))=true:=decide_eq_true c5
   clear c5
   replace H:=Option.bind_eq_some_iff.mp H
   obtain ⟨t318,A60,H⟩:=H
   replace H:(if t318=true then (if x4_1.length<4398046511104 then (tag_Only.l0 k1 l1 (x4_1++[(⟨(rd_T93 l0 x9_1).f0,(rd_T93 l0 x9_1).f1⟩:S93)]) l0 (l0.length:Int) (wrap64 (x9_1+1))) else (none)) else (tag_Only.l0 k1 l1 x4_1 l0 (l0.length:Int) (wrap64 (x9_1+1))))=some r:=H
   have A6:=Aside0.mk A60
   clear A60
   by_cases c7:t318=true
   rotate_left
   ·replace c7:=Bool.eq_false_iff.mpr c7
    subst c7
    have H1:(tag_Only.l0 k1 l1 x4_1 l0 (l0.length:Int) (wrap64 (x9_1+1)))=some r:=by rw [if_neg (show ¬ (false=true) by decide)] at H;exact H
    clear H
    have H:=H1
    clear H1
    have H':=Aside0.mk H
    clear H
    have p316:0≤(x9_1:Int):=of_decide_eq_true qA
    have q316:x9_1<(l0.length:Int):=of_decide_eq_true qA
    obtain ⟨ad316,e316,hx316_0,hx316_1⟩:=at_T93 HR0.out x9_1 p316 q316
    cases e316
    replace hx316_0:=(HB.out.cell (World.block_lt_of_cell? w _ hx316_0)).trans hx316_0
    replace hx316_1:=(HB.out.cell (World.block_lt_of_cell? w _ hx316_1)).trans hx316_1
    replace p316:=eq_true p316
    replace q316:=eq_true q316
    go_wp2_with (first|((with_reducible refine gate_dst (N:=6) rfl ?_);refine box_event ?hg (N:=6) ?hd (cs:=#[.string (⟨#[]⟩:ByteArray), .string (⟨#[]⟩:ByteArray)]) (t:=93) ?hr ?_;(case hd=>rfl);(case hg=>rfl);(case hr=>first|(go_simp;done)|(go_simp;rfl));intro gb317 hg w12 hbox hb;replace HO_4:=Aside0.mk (Kd.R_below (Kd.R_elderB (qR HO_4) gb317 (Nat.le_of_eq hg.symm)) hb);have BK317:=Aside0.mk hbox;have GW317:Aside0 (w.heap.size≤gb317):=⟨qH⟩;have GE317:=GW317;replace HB:=Aside0.mk (below_step qB hb);clear hb hbox hg;obtain ⟨hcz13_0,hcz13_1,hfz13_0,hfz13_1⟩:=cf2 BK317.out)|((with_reducible refine gate_callee (f:=121) rfl ?_);refine goesL_ (some 16) rfl rfl Tryz.func121 qK rfl #[.slice A1 l1.length c1, .string ((rd_T93 l0 x9_1).f0)] rfl qG ?_;(with_reducible refine (slices_Contains_string.calls k1 _ _ l1 ((rd_T93 l0 x9_1).f0) false _ ?side1 ?side2 A6.out).mono ?_);(case side1=>exact Kd.C_below HR1.out qC);(case side2=>exact HC1.out);rintro e w' ⟨rfl,⟨nd,rfl⟩⟩;refine ⟨_,rfl,?_⟩))
    go_roundg k1
    case measure=>have:=HK1.out;omega
    case rel=>exact ⟨(x4_1),(wrap64 (x9_1+1)),qS,H',⟨by have:=HK1.out;omega⟩,⟨by (with_reducible repeat (first|apply Kd.R_alloc|apply Kd.R_drewN|apply Kd.R_drew));exact Kd.R_mono (Kd.R_far (p:=⟨gb317,1,none⟩) (Kd.R_far (p:=⟨gb317,0,none⟩) (Kd.R_mono HO_4.out (fun k_ hk=>(⟨hk,hk.2⟩:_∧k_≠gb317))) (fun _ hk=>hk.2) (.string ((rd_T93 l0 x9_1).f0))) (fun _ hk=>hk.2) (.string ((rd_T93 l0 x9_1).f1))) (fun _ hk=>trivial)⟩,⟨qC⟩⟩
   subst c7
   have H1:(if x4_1.length<4398046511104 then (tag_Only.l0 k1 l1 (x4_1++[(⟨(rd_T93 l0 x9_1).f0,(rd_T93 l0 x9_1).f1⟩:S93)]) l0 (l0.length:Int) (wrap64 (x9_1+1))) else (none))=some r:=by rw [if_pos rfl] at H;exact H
   clear H
   have H:=H1
   clear H1
   by_cases c8:x4_1.length<4398046511104
   rotate_left
   ·rw [if_neg c8] at H
    exact absurd H (by simp)
   rw [if_pos c8] at H
   have LMc8:=Aside0.mk c8
   clear c8
   obtain ⟨y319,hy319⟩:∃ y_:List (S93),y_=(x4_1++[(⟨(rd_T93 l0 x9_1).f0,(rd_T93 l0 x9_1).f1⟩:S93)]):=⟨_,rfl⟩
   replace H:(tag_Only.l0 k1 l1 y319 l0 (l0.length:Int) (wrap64 (x9_1+1)))=some r:=by first|(rw [hy319];with_reducible exact H)|(have H2_:=(Option.bind_some _ _).symm.trans H;rw [hy319];with_reducible exact H2_)|(have H2_:=(Option.bind_some _ _).symm.trans H;with_reducible exact H2_)|with_reducible exact H|(rw [hy319];exact H)|exact H
   have Ny319:=Aside0.mk hy319
   clear hy319
   have H':=Aside0.mk H
   clear H
   have p316:0≤(x9_1:Int):=of_decide_eq_true qA
   have q316:x9_1<(l0.length:Int):=of_decide_eq_true qA
   obtain ⟨ad316,e316,hx316_0,hx316_1⟩:=at_T93 HR0.out x9_1 p316 q316
   cases e316
   replace hx316_0:=(HB.out.cell (World.block_lt_of_cell? w _ hx316_0)).trans hx316_0
   replace hx316_1:=(HB.out.cell (World.block_lt_of_cell? w _ hx316_1)).trans hx316_1
   replace p316:=eq_true p316
   replace q316:=eq_true q316
   go_wp2_with (first|((with_reducible refine gate_dst (N:=6) rfl ?_);refine box_event ?hg (N:=6) ?hd (cs:=#[.string (⟨#[]⟩:ByteArray), .string (⟨#[]⟩:ByteArray)]) (t:=93) ?hr ?_;(case hd=>rfl);(case hg=>rfl);(case hr=>first|(go_simp;done)|(go_simp;rfl));intro gb317 hg w9 hbox hb;replace HO_4:=Aside0.mk (Kd.R_below (Kd.R_elderB (qR HO_4) gb317 (Nat.le_of_eq hg.symm)) hb);have BK317:=Aside0.mk hbox;have GW317:Aside0 (w.heap.size≤gb317):=⟨qH⟩;have GE317:=GW317;replace HB:=Aside0.mk (below_step qB hb);clear hb hbox hg;obtain ⟨hcz10_0,hcz10_1,hfz10_0,hfz10_1⟩:=cf2 BK317.out)|((with_reducible refine gate_callee (f:=121) rfl ?_);refine goesL_ (some 16) rfl rfl Tryz.func121 qK rfl #[.slice A1 l1.length c1, .string ((rd_T93 l0 x9_1).f0)] rfl qG ?_;(with_reducible refine (slices_Contains_string.calls k1 _ _ l1 ((rd_T93 l0 x9_1).f0) true _ ?side1 ?side2 A6.out).mono ?_);(case side1=>exact Kd.C_below HR1.out qC);(case side2=>exact HC1.out);rintro e w' ⟨rfl,⟨nd,rfl⟩⟩;refine ⟨_,rfl,?_⟩)|((with_reducible refine gate_builtin (b := .append) (xs:=#[.tmp 17, .tmp 19]) rfl ?_);at_builtin;refine Kd.R_append k93 (w0:=w) w.heap.size rfl (.tmp 17) (.tmp 19) 34 93 (.agg #[(.string ⟨#[]⟩),(.string ⟨#[]⟩)]) 32 rfl Tryz.underlying34 info93 rfl (by decide) (by omega) u4 x4_1 (⟨(rd_T93 l0 x9_1).f0,(rd_T93 l0 x9_1).f1⟩:S93) [.string ((rd_T93 l0 x9_1).f0), .string ((rd_T93 l0 x9_1).f1)] (fun k_=>k_≠gb317) (fun _=>False) rfl (by first|(go_simp;done)|(go_simp;rfl)) ?aP (fun _ hk=>hk.elim) ?aF ?aO ?aB ?aS ?aL ?_;(case aP=>exact k93_mkM _ _ _ (⟨(rd_T93 l0 x9_1).f0,(rd_T93 l0 x9_1).f1⟩:S93));(case aB=>exact qC);(case aF=>exact (fun k_ hk=>Kd.freshB (g:=gb317) (o := .cells #[.string ((rd_T93 l0 x9_1).f0), .string ((rd_T93 l0 x9_1).f1)] 93 (0,0)) (by (with_reducible repeat (first|refine blk_drewN ?_ _|refine blk_drew ?_|refine blk_alloc ?_ _));refine blk_put (cs:=#[.string ((rd_T93 l0 x9_1).f0), .string (⟨#[]⟩:ByteArray)]) ?_ 1 _ rfl;(with_reducible repeat (first|refine blk_drewN ?_ _|refine blk_drew ?_|refine blk_alloc ?_ _));refine blk_put (cs:=#[.string (⟨#[]⟩:ByteArray), .string (⟨#[]⟩:ByteArray)]) ?_ 0 _ rfl;(with_reducible repeat (first|refine blk_drewN ?_ _|refine blk_drew ?_|refine blk_alloc ?_ _));exact BK317.out) k_ hk));(case aO=>exact (by (with_reducible repeat (first|apply Kd.R_alloc|apply Kd.R_drewN|apply Kd.R_drew));exact Kd.R_mono (Kd.R_far (p:=⟨gb317,1,none⟩) (Kd.R_far (p:=⟨gb317,0,none⟩) (Kd.R_mono HO_4.out (fun k_ hk=>(⟨hk,hk.2⟩:_∧k_≠gb317))) (fun _ hk=>hk.2) (.string ((rd_T93 l0 x9_1).f0))) (fun _ hk=>hk.2) (.string ((rd_T93 l0 x9_1).f1))) (fun _ hk=>hk.1.2)));(case aS=>exact (below_size qC));(case aL=>have:=LMc8.out;omega);intro v320 w11 ho hb hg hat;rw [← Ny319.out] at ho;replace BK317:=Aside0.mk (blk_grown (g:=gb317) (o := .cells #[.string ((rd_T93 l0 x9_1).f0), .string ((rd_T93 l0 x9_1).f1)] 93 (0,0)) (by (with_reducible repeat (first|refine blk_drewN ?_ _|refine blk_drew ?_|refine blk_alloc ?_ _));refine blk_put (cs:=#[.string ((rd_T93 l0 x9_1).f0), .string (⟨#[]⟩:ByteArray)]) ?_ 1 _ rfl;(with_reducible repeat (first|refine blk_drewN ?_ _|refine blk_drew ?_|refine blk_alloc ?_ _));refine blk_put (cs:=#[.string (⟨#[]⟩:ByteArray), .string (⟨#[]⟩:ByteArray)]) ?_ 0 _ rfl;(with_reducible repeat (first|refine blk_drewN ?_ _|refine blk_drew ?_|refine blk_alloc ?_ _));exact BK317.out) hg (Kd.R_away HO_4.out (fun _ hk=>hk.2)));replace HB:=Aside0.mk hb;have HO321:=Aside0.mk ho;clear HO_4;clear ho hb hg hat))
   go_roundg k1
   case measure=>have:=HK1.out;omega
   case rel=>exact ⟨(y319),(wrap64 (x9_1+1)),qS,H',⟨by have:=HK1.out;omega⟩,⟨by (with_reducible repeat (first|apply Kd.R_alloc|apply Kd.R_drewN|apply Kd.R_drew));exact Kd.R_mono HO321.out (fun _ hk=>trivial)⟩,⟨qC⟩⟩
end Go.Proofs.YteaadaaghhojfaaGreatDoor.PQu
