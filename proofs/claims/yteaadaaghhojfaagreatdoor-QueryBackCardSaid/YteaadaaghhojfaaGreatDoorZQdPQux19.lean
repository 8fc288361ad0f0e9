import Derived.Test.YteaadaaghhojfaaGreatDoorZQdPQux0
namespace Go.Proofs.YteaadaaghhojfaaGreatDoor.PQu
open Go.RowKit Go.Proofs.YteaadaaghhojfaaGreatDoorW.PrintWords Go.Proofs.YteaadaaghhojfaaGreatDoorW.PrintLast Go.Proofs.YteaadaaghhojfaaGreatDoorW.PrintMore
attribute [local go_sem] max2_int min2_int max_two min_two max_three min_three max_four min_four
set_option linter.unusedVariables false
set_option linter.unusedSimpArgs false
set_option maxHeartbeats 8000000
set_option maxRecDepth 100000
def ebbtideref03_Find.l0:Nat→List (S93)→ByteArray→Int→Option (ByteArray×Bool)
 | 0,_,_,_=>none
 | k+1,x0,x1,x6=>if x6<(x0.length:Int) then (if 0≤x6 then (if ((rd_T93 x0 x6).f0).toList=x1.toList then (some ((rd_T93 x0 x6).f1,true)) else (ebbtideref03_Find.l0 k x0 x1 (wrap64 (x6+1)))) else (none)) else (some ((⟨#[]⟩:ByteArray),false))
def ebbtideref03_Find.f (k:Nat) (l0:List (S93)) (a1:ByteArray):Option (ByteArray×Bool):=ebbtideref03_Find.l0 k l0 a1 0
theorem ebbtideref03_Find.mono_l:∀ k,(∀ y0 y1 y2,LeO (ebbtideref03_Find.l0 k y0 y1 y2) (ebbtideref03_Find.l0 (k+1) y0 y1 y2))
 | 0=>fun _ _ _ r h=>by simp [ebbtideref03_Find.l0] at h
 | k+1=>by
  have ih0:=ebbtideref03_Find.mono_l k
  ·intro y0 y1 y2
   unfold ebbtideref03_Find.l0
   repeat' first
   | (with_reducible exact ih0 _ _ _)
   | (with_reducible exact LeO.refl _)
   | (with_reducible exact LeO.none _)
   | (with_reducible refine LeO.ite ?_ ?_)
   | (with_reducible refine LeO.bind ?_ (fun _=>?_))
   | exact ih0 _ _ _
   | exact LeO.none _
   | refine LeO.ite ?_ ?_
   | refine LeO.bind ?_ (fun _=>?_)
theorem ebbtideref03_Find.mono:∀ a0 a1 k,LeO (ebbtideref03_Find.f k a0 a1) (ebbtideref03_Find.f (k+1) a0 a1):=by
 intro a0 a1 k
 have ih0:=ebbtideref03_Find.mono_l k
 unfold ebbtideref03_Find.f
 repeat' first
   | (with_reducible exact ih0 _ _ _)
   | (with_reducible exact LeO.refl _)
   | (with_reducible exact LeO.none _)
   | (with_reducible refine LeO.ite ?_ ?_)
   | (with_reducible refine LeO.bind ?_ (fun _=>?_))
   | exact ih0 _ _ _
   | exact LeO.none _
   | refine LeO.ite ?_ ?_
   | refine LeO.bind ?_ (fun _=>?_)
theorem ebbtideref03_Find.calls (k:Nat) (A0:Option Addr) (c0:Nat) (l0:List (S93)) (a1:ByteArray) (r1:ByteArray) (r2:Bool) (w:World) (hr0:Kd.C k93 w A0 l0.length l0) (hc0:l0.length≤c0) (h:ebbtideref03_Find.f k l0 a1=some (r1,r2)) :
  Calls Tryz.prog 152 #[.slice A0 l0.length c0, .string a1] w fun e w'=>e = .returned (.tuple #[.string r1, .bool r2])∧Drawn0 w w':=by
 have HR0:=Aside0.mk hr0
 have HC0:=Aside0.mk hc0
 clear hr0 hc0
 have H:(ebbtideref03_Find.l0 k l0 a1 0)=some (r1,r2):=h
 clear h
 have H':=Aside0.mk H
 clear H
 go_enter Tryz.func152,Tryz.ntmps152
 go_wp2
 go_loopg [6] k (fun kq v6 w'=>∃ (x6_1:Int),v6 = .int .i64 x6_1∧Aside0 (ebbtideref03_Find.l0 kq l0 a1 x6_1=some (r1,r2))∧Aside0 (kq≤k)∧Drawn0 w w')
 case atStart=>exact ⟨(0),qS,H',⟨Nat.le_refl _⟩,qD⟩
 case round =>
  clear H'
  obtain ⟨x6_1,rfl,HA,HK1,⟨m1,rfl⟩⟩:=hrel
  cases gk with
  | zero=>exact absurd HA.out (by simp [ebbtideref03_Find.l0])
  | succ k1 =>
   have H:=HA.out
   clear HA
   simp only [ebbtideref03_Find.l0] at H
   by_cases c3:x6_1<(l0.length:Int)
   rotate_left
   ·rw [if_neg c3] at H
    have c3b0:decide (x6_1<(l0.length:Int))=false:=decide_eq_false c3
    clear c3
    simp only [Option.some.injEq,Prod.mk.injEq] at H
    obtain ⟨rfl,rfl⟩:=H
    go_wp2
    go_ret2
    exact ⟨qS,qD⟩
   rw [if_pos c3] at H
   have c3b0:decide (x6_1<(l0.length:Int))=true:=decide_eq_true c3
   clear c3
   by_cases c4:0≤x6_1
   rotate_left
   ·rw [if_neg c4] at H
    exact absurd H (by simp)
   rw [if_pos c4] at H
   have c4b0:decide (0≤x6_1)=true:=decide_eq_true c4
   clear c4
   by_cases c5:((rd_T93 l0 x6_1).f0).toList=a1.toList
   rotate_left
   ·rw [if_neg c5] at H
    have c5b0:(((rd_T93 l0 x6_1).f0).toList ==a1.toList)=false:=beq_eq_false_iff_ne.mpr c5
    have c5b1:(((rd_T93 l0 x6_1).f0).toList != a1.toList)=true:=bne_iff_ne.mpr c5
    have H':=Aside0.mk H
    clear H
    have p532:0≤(x6_1:Int):=of_decide_eq_true qA
    have q532:x6_1<(l0.length:Int):=of_decide_eq_true qA
    obtain ⟨ad532,e532,hx532_0,hx532_1⟩:=at_T93 HR0.out x6_1 p532 q532
    cases e532
    replace p532:=eq_true p532
    replace q532:=eq_true q532
    go_wp2
    go_roundg k1
    case measure=>have:=HK1.out;omega
    case rel=>exact ⟨(wrap64 (x6_1+1)),qS,H',⟨by have:=HK1.out;omega⟩,qD⟩
   rw [if_pos c5] at H
   have c5b0:(((rd_T93 l0 x6_1).f0).toList ==a1.toList)=true:=beq_iff_eq.mpr c5
   have c5b1:(((rd_T93 l0 x6_1).f0).toList != a1.toList)=false:=bne_eq_false_iff_eq.mpr c5
   clear c5
   simp only [Option.some.injEq,Prod.mk.injEq] at H
   obtain ⟨rfl,rfl⟩:=H
   have p532:0≤(x6_1:Int):=of_decide_eq_true qA
   have q532:x6_1<(l0.length:Int):=of_decide_eq_true qA
   obtain ⟨ad532,e532,hx532_0,hx532_1⟩:=at_T93 HR0.out x6_1 p532 q532
   cases e532
   replace p532:=eq_true p532
   replace q532:=eq_true q532
   have p533:0≤(x6_1:Int):=of_decide_eq_true qA
   have q533:x6_1<(l0.length:Int):=of_decide_eq_true qA
   obtain ⟨ad533,e533,hx533_0,hx533_1⟩:=at_T93 HR0.out x6_1 p533 q533
   obtain rfl:ad532=ad533:=(by injection e533)
   replace p533:=eq_true p533
   replace q533:=eq_true q533
   go_wp2
   go_ret2
   exact ⟨qS,qD⟩
def ebbtideref05_one.f (k:Nat) (l0:List (S93)) (a1_0:Int) (a1_1:ByteArray) (a1_2:ByteArray):Option (Bool):=(ebbtideref03_Find.f k l0 a1_1).bind fun bt535=>(if a1_0=1 then (if bt535.2=true then (some (bt535.1.toList ==a1_2.toList)) else (some false)) else (if a1_0=2 then (if bt535.2=true then (some (bt535.1.toList != a1_2.toList)) else (some true)) else (if a1_0=3 then (if bt535.2=true then (if (bt535.1.size:Int)≥(a1_2.size:Int) then (if 0≤(a1_2.size:Int) then (if (a1_2.size:Int)≤(bt535.1.size:Int) then (some ((bt535.1.extract 0 ((a1_2.size:Int):Int).toNat).toList ==a1_2.toList)) else (none)) else (none)) else (some false)) else (some false)) else (if a1_0=4 then (some bt535.2) else (some false)))))
theorem ebbtideref05_one.mono:∀ a0 a1 a2 a3 k,LeO (ebbtideref05_one.f k a0 a1 a2 a3) (ebbtideref05_one.f (k+1) a0 a1 a2 a3):=by
 intro a0 a1 a2 a3 k
 unfold ebbtideref05_one.f
 repeat' first
   | (with_reducible exact ebbtideref03_Find.mono _ _ _)
   | (with_reducible exact LeO.refl _)
   | (with_reducible exact LeO.none _)
   | (with_reducible refine LeO.ite ?_ ?_)
   | (with_reducible refine LeO.bind ?_ (fun _=>?_))
   | exact ebbtideref03_Find.mono _ _ _
   | exact LeO.none _
   | refine LeO.ite ?_ ?_
   | refine LeO.bind ?_ (fun _=>?_)
theorem ebbtideref05_one.calls (k:Nat) (A0:Option Addr) (c0:Nat) (l0:List (S93)) (a1_0:Int) (a1_1:ByteArray) (a1_2:ByteArray) (r:Bool) (w:World) (hr0:Kd.C k93 w A0 l0.length l0) (hc0:l0.length≤c0) (h:ebbtideref05_one.f k l0 a1_0 a1_1 a1_2=some r) :
  Calls Tryz.prog 120 #[.slice A0 l0.length c0, .agg #[.int .i64 a1_0, .string a1_1, .string a1_2]] w fun e w'=>e = .returned (.bool r)∧Below w.heap.size w w':=by
 have hu127:=Tryz.underlying127
 have HR0:=Aside0.mk hr0
 have HC0:=Aside0.mk hc0
 clear hr0 hc0
 have HB:=Aside0.mk (Below.refl w.heap.size w)
 have H:((ebbtideref03_Find.f k l0 a1_1).bind fun bt535=>(if a1_0=1 then (if bt535.2=true then (some (bt535.1.toList ==a1_2.toList)) else (some false)) else (if a1_0=2 then (if bt535.2=true then (some (bt535.1.toList != a1_2.toList)) else (some true)) else (if a1_0=3 then (if bt535.2=true then (if (bt535.1.size:Int)≥(a1_2.size:Int) then (if 0≤(a1_2.size:Int) then (if (a1_2.size:Int)≤(bt535.1.size:Int) then (some ((bt535.1.extract 0 ((a1_2.size:Int):Int).toNat).toList ==a1_2.toList)) else (none)) else (none)) else (some false)) else (some false)) else (if a1_0=4 then (some bt535.2) else (some false))))))=some r:=h
 clear h
 replace H:=Option.bind_eq_some_iff.mp H
 obtain ⟨⟨t535,t536⟩,A30,H⟩:=H
 replace H:(if a1_0=1 then (if t536=true then (some (t535.toList ==a1_2.toList)) else (some false)) else (if a1_0=2 then (if t536=true then (some (t535.toList != a1_2.toList)) else (some true)) else (if a1_0=3 then (if t536=true then (if (t535.size:Int)≥(a1_2.size:Int) then (if 0≤(a1_2.size:Int) then (if (a1_2.size:Int)≤(t535.size:Int) then (some ((t535.extract 0 ((a1_2.size:Int):Int).toNat).toList ==a1_2.toList)) else (none)) else (none)) else (some false)) else (some false)) else (if a1_0=4 then (some t536) else (some false)))))=some r:=H
 have A3:=Aside0.mk A30
 clear A30
 by_cases c4:a1_0=1
 ·rw [if_pos c4] at H
  have c4b0:(a1_0 ==1)=true:=beq_iff_eq.mpr c4
  have c4b1:(a1_0 != 1)=false:=bne_eq_false_iff_eq.mpr c4
  clear c4
  by_cases c5:t536=true
  ·subst c5
   have H1:(some (t535.toList ==a1_2.toList))=some r:=by rw [if_pos rfl] at H;exact H
   clear H
   have H:=H1
   clear H1
   obtain rfl:=Option.some.inj H
   go_enter Tryz.func120,Tryz.ntmps120
   go_wp2_with (first|((with_reducible refine gate_dst (N:=3) rfl ?_);(try (refine gate_guard (by rfl) ?_;dsimp only));refine box_event ?hg (N:=3) ?hd (cs:=#[.int .i64 a1_0, .string a1_1, .string a1_2]) (t:=127) ?hr ?_;(case hd=>rfl);(case hg=>rfl);(case hr=>first|(go_simp;done)|(go_simp;rfl));intro gb534 hg w6 hbox hb;have BK534:=Aside0.mk hbox;have GW534:Aside0 (w.heap.size≤gb534):=⟨qH⟩;have GE534:=GW534;replace HB:=Aside0.mk (below_step qB hb);clear hb hbox hg;obtain ⟨hcz7_0,hcz7_1,hcz7_2,hfz7_0,hfz7_1,hfz7_2⟩:=cf3 BK534.out)|(go_at_call 152;(with_reducible refine (ebbtideref03_Find.calls k _ _ l0 a1_1 t535 true _ ?side1 ?side2 A3.out).mono ?_);(case side1=>repeat (first|exact (Kd.C_below HR0.out HB.out)|(with_reducible refine Kd.C_alloc ?_ _)|(with_reducible refine Kd.C_drewN ?_ _)|(with_reducible refine Kd.C_drew ?_)));(case side2=>exact HC0.out);rintro e w' ⟨rfl,⟨nd,rfl⟩⟩;(try first|exact ⟨rfl,_,World.drewN_drewN _ _ _⟩|exact ⟨rfl,_,Eq.trans (World.drewN_drewN _ _ _) (congrArg (World.drewN _) (Nat.add_assoc _ _ _))⟩)))
   repeat (go_quiet (first|((with_reducible refine gate_dst (N:=3) rfl ?_);(try (refine gate_guard (by rfl) ?_;dsimp only));refine box_event ?hg (N:=3) ?hd (cs:=#[.int .i64 a1_0, .string a1_1, .string a1_2]) (t:=127) ?hr ?_;(case hd=>rfl);(case hg=>rfl);(case hr=>first|(go_simp;done)|(go_simp;rfl));intro gb534 hg w6 hbox hb;have BK534:=Aside0.mk hbox;have GW534:Aside0 (w.heap.size≤gb534):=⟨qH⟩;have GE534:=GW534;replace HB:=Aside0.mk (below_step qB hb);clear hb hbox hg;obtain ⟨hcz7_0,hcz7_1,hcz7_2,hfz7_0,hfz7_1,hfz7_2⟩:=cf3 BK534.out)|(go_at_call 152;(with_reducible refine (ebbtideref03_Find.calls k _ _ l0 a1_1 t535 true _ ?side1 ?side2 A3.out).mono ?_);(case side1=>repeat (first|exact (Kd.C_below HR0.out HB.out)|(with_reducible refine Kd.C_alloc ?_ _)|(with_reducible refine Kd.C_drewN ?_ _)|(with_reducible refine Kd.C_drew ?_)));(case side2=>exact HC0.out);rintro e w' ⟨rfl,⟨nd,rfl⟩⟩;(try first|exact ⟨rfl,_,World.drewN_drewN _ _ _⟩|exact ⟨rfl,_,Eq.trans (World.drewN_drewN _ _ _) (congrArg (World.drewN _) (Nat.add_assoc _ _ _))⟩)));try go_wp2_with (first|((with_reducible refine gate_dst (N:=3) rfl ?_);(try (refine gate_guard (by rfl) ?_;dsimp only));refine box_event ?hg (N:=3) ?hd (cs:=#[.int .i64 a1_0, .string a1_1, .string a1_2]) (t:=127) ?hr ?_;(case hd=>rfl);(case hg=>rfl);(case hr=>first|(go_simp;done)|(go_simp;rfl));intro gb534 hg w6 hbox hb;have BK534:=Aside0.mk hbox;have GW534:Aside0 (w.heap.size≤gb534):=⟨qH⟩;have GE534:=GW534;replace HB:=Aside0.mk (below_step qB hb);clear hb hbox hg;obtain ⟨hcz7_0,hcz7_1,hcz7_2,hfz7_0,hfz7_1,hfz7_2⟩:=cf3 BK534.out)|(go_at_call 152;(with_reducible refine (ebbtideref03_Find.calls k _ _ l0 a1_1 t535 true _ ?side1 ?side2 A3.out).mono ?_);(case side1=>repeat (first|exact (Kd.C_below HR0.out HB.out)|(with_reducible refine Kd.C_alloc ?_ _)|(with_reducible refine Kd.C_drewN ?_ _)|(with_reducible refine Kd.C_drew ?_)));(case side2=>exact HC0.out);rintro e w' ⟨rfl,⟨nd,rfl⟩⟩;(try first|exact ⟨rfl,_,World.drewN_drewN _ _ _⟩|exact ⟨rfl,_,Eq.trans (World.drewN_drewN _ _ _) (congrArg (World.drewN _) (Nat.add_assoc _ _ _))⟩))))
   go_ret
   exact ⟨qE,qC⟩
  replace c5:=Bool.eq_false_iff.mpr c5
  subst c5
  have H1:(some false)=some r:=by rw [if_neg (show ¬ (false=true) by decide)] at H;exact H
  clear H
  have H:=H1
  clear H1
  obtain rfl:=Option.some.inj H
  go_enter Tryz.func120,Tryz.ntmps120
  go_wp2_with (first|((with_reducible refine gate_dst (N:=3) rfl ?_);(try (refine gate_guard (by rfl) ?_;dsimp only));refine box_event ?hg (N:=3) ?hd (cs:=#[.int .i64 a1_0, .string a1_1, .string a1_2]) (t:=127) ?hr ?_;(case hd=>rfl);(case hg=>rfl);(case hr=>first|(go_simp;done)|(go_simp;rfl));intro gb534 hg w8 hbox hb;have BK534:=Aside0.mk hbox;have GW534:Aside0 (w.heap.size≤gb534):=⟨qH⟩;have GE534:=GW534;replace HB:=Aside0.mk (below_step qB hb);clear hb hbox hg;obtain ⟨hcz9_0,hcz9_1,hcz9_2,hfz9_0,hfz9_1,hfz9_2⟩:=cf3 BK534.out)|(go_at_call 152;(with_reducible refine (ebbtideref03_Find.calls k _ _ l0 a1_1 t535 false _ ?side1 ?side2 A3.out).mono ?_);(case side1=>repeat (first|exact (Kd.C_below HR0.out HB.out)|(with_reducible refine Kd.C_alloc ?_ _)|(with_reducible refine Kd.C_drewN ?_ _)|(with_reducible refine Kd.C_drew ?_)));(case side2=>exact HC0.out);rintro e w' ⟨rfl,⟨nd,rfl⟩⟩;(try first|exact ⟨rfl,_,World.drewN_drewN _ _ _⟩|exact ⟨rfl,_,Eq.trans (World.drewN_drewN _ _ _) (congrArg (World.drewN _) (Nat.add_assoc _ _ _))⟩)))
  repeat (go_quiet (first|((with_reducible refine gate_dst (N:=3) rfl ?_);(try (refine gate_guard (by rfl) ?_;dsimp only));refine box_event ?hg (N:=3) ?hd (cs:=#[.int .i64 a1_0, .string a1_1, .string a1_2]) (t:=127) ?hr ?_;(case hd=>rfl);(case hg=>rfl);(case hr=>first|(go_simp;done)|(go_simp;rfl));intro gb534 hg w8 hbox hb;have BK534:=Aside0.mk hbox;have GW534:Aside0 (w.heap.size≤gb534):=⟨qH⟩;have GE534:=GW534;replace HB:=Aside0.mk (below_step qB hb);clear hb hbox hg;obtain ⟨hcz9_0,hcz9_1,hcz9_2,hfz9_0,hfz9_1,hfz9_2⟩:=cf3 BK534.out)|(go_at_call 152;(with_reducible refine (ebbtideref03_Find.calls k _ _ l0 a1_1 t535 false _ ?side1 ?side2 A3.out).mono ?_);(case side1=>repeat (first|exact (Kd.C_below HR0.out HB.out)|(with_reducible refine Kd.C_alloc ?_ _)|(with_reducible refine Kd.C_drewN ?_ _)|(with_reducible refine Kd.C_drew ?_)));(case side2=>exact HC0.out);rintro e w' ⟨rfl,⟨nd,rfl⟩⟩;(try first|exact ⟨rfl,_,World.drewN_drewN _ _ _⟩|exact ⟨rfl,_,Eq.trans (World.drewN_drewN _ _ _) (congrArg (World.drewN _) (Nat.add_assoc _ _ _))⟩)));try go_wp2_with (first|((with_reducible refine gate_dst (N:=3) rfl ?_);(try (refine gate_guard (by rfl) ?_;dsimp only));refine box_event ?hg (N:=3) ?hd (cs:=#[.int .i64 a1_0, .string a1_1, .string a1_2]) (t:=127) ?hr ?_;(case hd=>rfl);(case hg=>rfl);(case hr=>first|(go_simp;done)|(go_simp;rfl));intro gb534 hg w8 hbox hb;have BK534:=Aside0.mk hbox;have GW534:Aside0 (w.heap.size≤gb534):=⟨qH⟩;have GE534:=GW534;replace HB:=Aside0.mk (below_step qB hb);clear hb hbox hg;obtain ⟨hcz9_0,hcz9_1,hcz9_2,hfz9_0,hfz9_1,hfz9_2⟩:=cf3 BK534.out)|(go_at_call 152;(with_reducible refine (ebbtideref03_Find.calls k _ _ l0 a1_1 t535 false _ ?side1 ?side2 A3.out).mono ?_);(case side1=>repeat (first|exact (Kd.C_below HR0.out HB.out)|(with_reducible refine Kd.C_alloc ?_ _)|(with_reducible refine Kd.C_drewN ?_ _)|(with_reducible refine Kd.C_drew ?_)));(case side2=>exact HC0.out);rintro e w' ⟨rfl,⟨nd,rfl⟩⟩;(try first|exact ⟨rfl,_,World.drewN_drewN _ _ _⟩|exact ⟨rfl,_,Eq.trans (World.drewN_drewN _ _ _) (congrArg (World.drewN _) (Nat.add_assoc _ _ _))⟩))))
  go_ret
  exact ⟨qE,qC⟩
 rw [if_neg c4] at H
 have c4b0:(a1_0 ==1)=false:=beq_eq_false_iff_ne.mpr c4
 have c4b1:(a1_0 != 1)=true:=bne_iff_ne.mpr c4
 by_cases c10:a1_0=2
 ·rw [if_pos c10] at H
  have c10b0:(a1_0 ==2)=true:=beq_iff_eq.mpr c10
  have c10b1:(a1_0 != 2)=false:=bne_eq_false_iff_eq.mpr c10
  clear c10
  by_cases c11:t536=true
  ·subst c11
   have H1:(some (t535.toList != a1_2.toList))=some r:=by rw [if_pos rfl] at H;exact H
   clear H
   have H:=H1
   clear H1
   obtain rfl:=Option.some.inj H
   go_enter Tryz.func120,Tryz.ntmps120
   go_wp2_with (first|((with_reducible refine gate_dst (N:=3) rfl ?_);(try (refine gate_guard (by rfl) ?_;dsimp only));refine box_event ?hg (N:=3) ?hd (cs:=#[.int .i64 a1_0, .string a1_1, .string a1_2]) (t:=127) ?hr ?_;(case hd=>rfl);(case hg=>rfl);(case hr=>first|(go_simp;done)|(go_simp;rfl));intro gb534 hg w12 hbox hb;have BK534:=Aside0.mk hbox;have GW534:Aside0 (w.heap.size≤gb534):=⟨qH⟩;have GE534:=GW534;replace HB:=Aside0.mk (below_step qB hb);clear hb hbox hg;obtain ⟨hcz13_0,hcz13_1,hcz13_2,hfz13_0,hfz13_1,hfz13_2⟩:=cf3 BK534.out)|(go_at_call 152;(with_reducible refine (ebbtideref03_Find.calls k _ _ l0 a1_1 t535 true _ ?side1 ?side2 A3.out).mono ?_);(case side1=>repeat (first|exact (Kd.C_below HR0.out HB.out)|(with_reducible refine Kd.C_alloc ?_ _)|(with_reducible refine Kd.C_drewN ?_ _)|(with_reducible refine Kd.C_drew ?_)));(case side2=>exact HC0.out);rintro e w' ⟨rfl,⟨nd,rfl⟩⟩;(try first|exact ⟨rfl,_,World.drewN_drewN _ _ _⟩|exact ⟨rfl,_,Eq.trans (World.drewN_drewN _ _ _) (congrArg (World.drewN _) (Nat.add_assoc _ _ _))⟩)))
   repeat (go_quiet (first|((with_reducible refine gate_dst (N:=3) rfl ?_);(try (refine gate_guard (by rfl) ?_;dsimp only));refine box_event ?hg (N:=3) ?hd (cs:=#[.int .i64 a1_0, .string a1_1, .string a1_2]) (t:=127) ?hr ?_;(case hd=>rfl);(case hg=>rfl);(case hr=>first|(go_simp;done)|(go_simp;rfl));intro gb534 hg w12 hbox hb;have BK534:=Aside0.mk hbox;have GW534:Aside0 (w.heap.size≤gb534):=⟨qH⟩;have GE534:=GW534;replace HB:=Aside0.mk (below_step qB hb);clear hb hbox hg;obtain ⟨hcz13_0,hcz13_1,hcz13_2,hfz13_0,hfz13_1,hfz13_2⟩:=cf3 BK534.out)|(go_at_call 152;(with_reducible refine (ebbtideref03_Find.calls k _ _ l0 a1_1 t535 true _ ?side1 ?side2 A3.out).mono ?_);(case side1=>repeat (first|exact (Kd.C_below HR0.out HB.out)|(with_reducible refine Kd.C_alloc ?_ _)|(with_reducible refine Kd.C_drewN ?_ _)|(with_reducible refine Kd.C_drew ?_)));(case side2=>exact HC0.out);rintro e w' ⟨rfl,⟨nd,rfl⟩⟩;(try first|exact ⟨rfl,_,World.drewN_drewN _ _ _⟩|exact ⟨rfl,_,Eq.trans (World.drewN_drewN _ _ _) (congrArg (World.drewN _) (Nat.add_assoc _ _ _))⟩)));try go_wp2_with (first|((with_reducible refine gate_dst (N:=3) rfl ?_);(try (refine gate_guard (by rfl) ?_;dsimp only));refine box_event ?hg (N:=3) ?hd (cs:=#[.int .i64 a1_0, .string a1_1, .string a1_2]) (t:=127) ?hr ?_;(case hd=>rfl);(case hg=>rfl);(case hr=>first|(go_simp;done)|(go_simp;rfl));intro gb534 hg w12 hbox hb;have BK534:=Aside0.mk hbox;have GW534:Aside0 (w.heap.size≤gb534):=⟨qH⟩;have GE534:=GW534;replace HB:=Aside0.mk (below_step qB hb);clear hb hbox hg;obtain ⟨hcz13_0,hcz13_1,hcz13_2,hfz13_0,hfz13_1,hfz13_2⟩:=cf3 BK534.out)|(go_at_call 152;(with_reducible refine (ebbtideref03_Find.calls k _ _ l0 a1_1 t535 true _ ?side1 ?side2 A3.out).mono ?_);(case side1=>repeat (first|exact (Kd.C_below HR0.out HB.out)|(with_reducible refine Kd.C_alloc ?_ _)|(with_reducible refine Kd.C_drewN ?_ _)|(with_reducible refine Kd.C_drew ?_)));(case side2=>exact HC0.out);rintro e w' ⟨rfl,⟨nd,rfl⟩⟩;(try first|exact ⟨rfl,_,World.drewN_drewN _ _ _⟩|exact ⟨rfl,_,Eq.trans (World.drewN_drewN _ _ _) (congrArg (World.drewN _) (Nat.add_assoc _ _ _))⟩))))
   go_ret
   exact ⟨qE,qC⟩
  replace c11:=Bool.eq_false_iff.mpr c11
  subst c11
  have H1:(some true)=some r:=by rw [if_neg (show ¬ (false=true) by decide)] at H;exact H
  clear H
  have H:=H1
  clear H1
  obtain rfl:=Option.some.inj H
  go_enter Tryz.func120,Tryz.ntmps120
  go_wp2_with (first|((with_reducible refine gate_dst (N:=3) rfl ?_);(try (refine gate_guard (by rfl) ?_;dsimp only));refine box_event ?hg (N:=3) ?hd (cs:=#[.int .i64 a1_0, .string a1_1, .string a1_2]) (t:=127) ?hr ?_;(case hd=>rfl);(case hg=>rfl);(case hr=>first|(go_simp;done)|(go_simp;rfl));intro gb534 hg w14 hbox hb;have BK534:=Aside0.mk hbox;have GW534:Aside0 (w.heap.size≤gb534):=⟨qH⟩;have GE534:=GW534;replace HB:=Aside0.mk (below_step qB hb);clear hb hbox hg;obtain ⟨hcz15_0,hcz15_1,hcz15_2,hfz15_0,hfz15_1,hfz15_2⟩:=cf3 BK534.out)|(go_at_call 152;(with_reducible refine (ebbtideref03_Find.calls k _ _ l0 a1_1 t535 false _ ?side1 ?side2 A3.out).mono ?_);(case side1=>repeat (first|exact (Kd.C_below HR0.out HB.out)|(with_reducible refine Kd.C_alloc ?_ _)|(with_reducible refine Kd.C_drewN ?_ _)|(with_reducible refine Kd.C_drew ?_)));(case side2=>exact HC0.out);rintro e w' ⟨rfl,⟨nd,rfl⟩⟩;(try first|exact ⟨rfl,_,World.drewN_drewN _ _ _⟩|exact ⟨rfl,_,Eq.trans (World.drewN_drewN _ _ _) (congrArg (World.drewN _) (Nat.add_assoc _ _ _))⟩)))
  repeat (go_quiet (first|((with_reducible refine gate_dst (N:=3) rfl ?_);(try (refine gate_guard (by rfl) ?_;dsimp only));refine box_event ?hg (N:=3) ?hd (cs:=#[.int .i64 a1_0, .string a1_1, .string a1_2]) (t:=127) ?hr ?_;(case hd=>rfl);(case hg=>rfl);(case hr=>first|(go_simp;done)|(go_simp;rfl));intro gb534 hg w14 hbox hb;have BK534:=Aside0.mk hbox;have GW534:Aside0 (w.heap.size≤gb534):=⟨qH⟩;have GE534:=GW534;replace HB:=Aside0.mk (below_step qB hb);clear hb hbox hg;obtain ⟨hcz15_0,hcz15_1,hcz15_2,hfz15_0,hfz15_1,hfz15_2⟩:=cf3 BK534.out)|(go_at_call 152;(with_reducible refine (ebbtideref03_Find.calls k _ _ l0 a1_1 t535 false _ ?side1 ?side2 A3.out).mono ?_);(case side1=>repeat (first|exact (Kd.C_below HR0.out HB.out)|(with_reducible refine Kd.C_alloc ?_ _)|(with_reducible refine Kd.C_drewN ?_ _)|(with_reducible refine Kd.C_drew ?_)));(case side2=>exact HC0.out);rintro e w' ⟨rfl,⟨nd,rfl⟩⟩;(try first|exact ⟨rfl,_,World.drewN_drewN _ _ _⟩|exact ⟨rfl,_,Eq.trans (World.drewN_drewN _ _ _) (congrArg (World.drewN _) (Nat.add_assoc _ _ _))⟩)));try go_wp2_with (first|((with_reducible refine gate_dst (N:=3) rfl ?_);(try (refine gate_guard (by rfl) ?_;dsimp only));refine box_event ?hg (N:=3) ?hd (cs:=#[.int .i64 a1_0, .string a1_1, .string a1_2]) (t:=127) ?hr ?_;(case hd=>rfl);(case hg=>rfl);(case hr=>first|(go_simp;done)|(go_simp;rfl));intro gb534 hg w14 hbox hb;have BK534:=Aside0.mk hbox;have GW534:Aside0 (w.heap.size≤gb534):=⟨qH⟩;have GE534:=GW534;replace HB:=Aside0.mk (below_step qB hb);clear hb hbox hg;obtain ⟨hcz15_0,hcz15_1,hcz15_2,hfz15_0,hfz15_1,hfz15_2⟩:=cf3 BK534.out)|(go_at_call 152;(with_reducible refine (ebbtideref03_Find.calls k _ _ l0 a1_1 t535 false _ ?side1 ?side2 A3.out).mono ?_);(case side1=>repeat (first|exact (Kd.C_below HR0.out HB.out)|(with_reducible refine Kd.C_alloc ?_ _)|(with_reducible refine Kd.C_drewN ?_ _)|(with_reducible refine Kd.C_drew ?_)));(case side2=>exact HC0.out);rintro e w' ⟨rfl,⟨nd,rfl⟩⟩;(try first|exact ⟨rfl,_,World.drewN_drewN _ _ _⟩|exact ⟨rfl,_,Eq.trans (World.drewN_drewN _ _ _) (congrArg (World.drewN _) (Nat.add_assoc _ _ _))⟩))))
  go_ret
  exact ⟨qE,qC⟩
 rw [if_neg c10] at H
 have c10b0:(a1_0 ==2)=false:=beq_eq_false_iff_ne.mpr c10
 have c10b1:(a1_0 != 2)=true:=bne_iff_ne.mpr c10
 by_cases c16:a1_0=3
 rotate_left
 ·rw [if_neg c16] at H
  have c16b0:(a1_0 ==3)=false:=beq_eq_false_iff_ne.mpr c16
  have c16b1:(a1_0 != 3)=true:=bne_iff_ne.mpr c16
  by_cases c27:a1_0=4
  rotate_left
  ·rw [if_neg c27] at H
   have c27b0:(a1_0 ==4)=false:=beq_eq_false_iff_ne.mpr c27
   have c27b1:(a1_0 != 4)=true:=bne_iff_ne.mpr c27
   obtain rfl:=Option.some.inj H
   go_enter Tryz.func120,Tryz.ntmps120
   go_wp2_with (first|((with_reducible refine gate_dst (N:=3) rfl ?_);(try (refine gate_guard (by rfl) ?_;dsimp only));refine box_event ?hg (N:=3) ?hd (cs:=#[.int .i64 a1_0, .string a1_1, .string a1_2]) (t:=127) ?hr ?_;(case hd=>rfl);(case hg=>rfl);(case hr=>first|(go_simp;done)|(go_simp;rfl));intro gb534 hg w30 hbox hb;have BK534:=Aside0.mk hbox;have GW534:Aside0 (w.heap.size≤gb534):=⟨qH⟩;have GE534:=GW534;replace HB:=Aside0.mk (below_step qB hb);clear hb hbox hg;obtain ⟨hcz31_0,hcz31_1,hcz31_2,hfz31_0,hfz31_1,hfz31_2⟩:=cf3 BK534.out)|(go_at_call 152;(with_reducible refine (ebbtideref03_Find.calls k _ _ l0 a1_1 t535 t536 _ ?side1 ?side2 A3.out).mono ?_);(case side1=>repeat (first|exact (Kd.C_below HR0.out HB.out)|(with_reducible refine Kd.C_alloc ?_ _)|(with_reducible refine Kd.C_drewN ?_ _)|(with_reducible refine Kd.C_drew ?_)));(case side2=>exact HC0.out);rintro e w' ⟨rfl,⟨nd,rfl⟩⟩;(try first|exact ⟨rfl,_,World.drewN_drewN _ _ _⟩|exact ⟨rfl,_,Eq.trans (World.drewN_drewN _ _ _) (congrArg (World.drewN _) (Nat.add_assoc _ _ _))⟩)))
   repeat (go_quiet (first|((with_reducible refine gate_dst (N:=3) rfl ?_);(try (refine gate_guard (by rfl) ?_;dsimp only));refine box_event ?hg (N:=3) ?hd (cs:=#[.int .i64 a1_0, .string a1_1, .string a1_2]) (t:=127) ?hr ?_;(case hd=>rfl);(case hg=>rfl);(case hr=>first|(go_simp;done)|(go_simp;rfl));intro gb534 hg w30 hbox hb;have BK534:=Aside0.mk hbox;have GW534:Aside0 (w.heap.size≤gb534):=⟨qH⟩;have GE534:=GW534;replace HB:=Aside0.mk (below_step qB hb);clear hb hbox hg;obtain ⟨hcz31_0,hcz31_1,hcz31_2,hfz31_0,hfz31_1,hfz31_2⟩:=cf3 BK534.out)|(go_at_call 152;(with_reducible refine (ebbtideref03_Find.calls k _ _ l0 a1_1 t535 t536 _ ?side1 ?side2 A3.out).mono ?_);(case side1=>repeat (first|exact (Kd.C_below HR0.out HB.out)|(with_reducible refine Kd.C_alloc ?_ _)|(with_reducible refine Kd.C_drewN ?_ _)|(with_reducible refine Kd.C_drew ?_)));(case side2=>exact HC0.out);rintro e w' ⟨rfl,⟨nd,rfl⟩⟩;(try first|exact ⟨rfl,_,World.drewN_drewN _ _ _⟩|exact ⟨rfl,_,Eq.trans (World.drewN_drewN _ _ _) (congrArg (World.drewN _) (Nat.add_assoc _ _ _))⟩)));try go_wp2_with (first|((with_reducible refine gate_dst (N:=3) rfl ?_);(try (refine gate_guard (by rfl) ?_;dsimp only));refine box_event ?hg (N:=3) ?hd (cs:=#[.int .i64 a1_0, .string a1_1, .string a1_2]) (t:=127) ?hr ?_;(case hd=>rfl);(case hg=>rfl);(case hr=>first|(go_simp;done)|(go_simp;rfl));intro gb534 hg w30 hbox hb;have BK534:=Aside0.mk hbox;have GW534:Aside0 (w.heap.size≤gb534):=⟨qH⟩;have GE534:=GW534;replace HB:=Aside0.mk (below_step qB hb);clear hb hbox hg;obtain ⟨hcz31_0,hcz31_1,hcz31_2,hfz31_0,hfz31_1,hfz31_2⟩:=cf3 BK534.out)|(go_at_call 152;(with_reducible refine (ebbtideref03_Find.calls k _ _ l0 a1_1 t535 t536 _ ?side1 ?side2 A3.out).mono ?_);(case side1=>repeat (first|exact (Kd.C_below HR0.out HB.out)|(with_reducible refine Kd.C_alloc ?_ _)|(with_reducible refine Kd.C_drewN ?_ _)|(with_reducible refine Kd.C_drew ?_)));(case side2=>exact HC0.out);rintro e w' ⟨rfl,⟨nd,rfl⟩⟩;(try first|exact ⟨rfl,_,World.drewN_drewN _ _ _⟩|exact ⟨rfl,_,Eq.trans (World.drewN_drewN _ _ _) (congrArg (World.drewN _) (Nat.add_assoc _ _ _))⟩))))
   go_ret
   exact ⟨qE,qC⟩
  rw [if_pos c27] at H
  have c27b0:(a1_0 ==4)=true:=beq_iff_eq.mpr c27
  have c27b1:(a1_0 != 4)=false:=bne_eq_false_iff_eq.mpr c27
  clear c27
  obtain rfl:=Option.some.inj H
  go_enter Tryz.func120,Tryz.ntmps120
  go_wp2_with (first|((with_reducible refine gate_dst (N:=3) rfl ?_);(try (refine gate_guard (by rfl) ?_;dsimp only));refine box_event ?hg (N:=3) ?hd (cs:=#[.int .i64 a1_0, .string a1_1, .string a1_2]) (t:=127) ?hr ?_;(case hd=>rfl);(case hg=>rfl);(case hr=>first|(go_simp;done)|(go_simp;rfl));intro gb534 hg w28 hbox hb;have BK534:=Aside0.mk hbox;have GW534:Aside0 (w.heap.size≤gb534):=⟨qH⟩;have GE534:=GW534;replace HB:=Aside0.mk (below_step qB hb);clear hb hbox hg;obtain ⟨hcz29_0,hcz29_1,hcz29_2,hfz29_0,hfz29_1,hfz29_2⟩:=cf3 BK534.out)|(go_at_call 152;(with_reducible refine (ebbtideref03_Find.calls k _ _ l0 a1_1 t535 t536 _ ?side1 ?side2 A3.out).mono ?_);(case side1=>repeat (first|exact (Kd.C_below HR0.out HB.out)|(with_reducible refine Kd.C_alloc ?_ _)|(with_reducible refine Kd.C_drewN ?_ _)|(with_reducible refine Kd.C_drew ?_)));(case side2=>exact HC0.out);rintro e w' ⟨rfl,⟨nd,rfl⟩⟩;(try first|exact ⟨rfl,_,World.drewN_drewN _ _ _⟩|exact ⟨rfl,_,Eq.trans (World.drewN_drewN _ _ _) (congrArg (World.drewN _) (Nat.add_assoc _ _ _))⟩)))
  repeat (go_quiet (first|((with_reducible refine gate_dst (N:=3) rfl ?_);(try (refine gate_guard (by rfl) ?_;dsimp only));refine box_event ?hg (N:=3) ?hd (cs:=#[.int .i64 a1_0, .string a1_1, .string a1_2]) (t:=127) ?hr ?_;(case hd=>rfl);(case hg=>rfl);(case hr=>first|(go_simp;done)|(go_simp;rfl));intro gb534 hg w28 hbox hb;have BK534:=Aside0.mk hbox;have GW534:Aside0 (w.heap.size≤gb534):=⟨qH⟩;have GE534:=GW534;replace HB:=Aside0.mk (below_step qB hb);clear hb hbox hg;obtain ⟨hcz29_0,hcz29_1,hcz29_2,hfz29_0,hfz29_1,hfz29_2⟩:=cf3 BK534.out)|(go_at_call 152;(with_reducible refine (ebbtideref03_Find.calls k _ _ l0 a1_1 t535 t536 _ ?side1 ?side2 A3.out).mono ?_);(case side1=>repeat (first|exact (Kd.C_below HR0.out HB.out)|(with_reducible refine Kd.C_alloc ?_ _)|(with_reducible refine Kd.C_drewN ?_ _)|(with_reducible refine Kd.C_drew ?_)));(case side2=>exact HC0.out);rintro e w' ⟨rfl,⟨nd,rfl⟩⟩;(try first|exact ⟨rfl,_,World.drewN_drewN _ _ _⟩|exact ⟨rfl,_,Eq.trans (World.drewN_drewN _ _ _) (congrArg (World.drewN _) (Nat.add_assoc _ _ _))⟩)));try go_wp2_with (first|((with_reducible refine gate_dst (N:=3) rfl ?_);(try (refine gate_guard (by rfl) ?_;dsimp only));refine box_event ?hg (N:=3) ?hd (cs:=#[.int .i64 a1_0, .string a1_1, .string a1_2]) (t:=127) ?hr ?_;(case hd=>rfl);(case hg=>rfl);(case hr=>first|(go_simp;done)|(go_simp;rfl));intro gb534 hg w28 hbox hb;have BK534:=Aside0.mk hbox;have GW534:Aside0 (w.heap.size≤gb534):=⟨qH⟩;have GE534:=GW534;replace HB:=Aside0.mk (below_step qB hb);clear hb hbox hg;obtain ⟨hcz29_0,hcz29_1,hcz29_2,hfz29_0,hfz29_1,hfz29_2⟩:=cf3 BK534.out)|(go_at_call 152;(with_reducible refine (ebbtideref03_Find.calls k _ _ l0 a1_1 t535 t536 _ ?side1 ?side2 A3.out).mono ?_);(case side1=>repeat (first|exact (Kd.C_below HR0.out HB.out)|(with_reducible refine Kd.C_alloc ?_ _)|(with_reducible refine Kd.C_drewN ?_ _)|(with_reducible refine Kd.C_drew ?_)));(case side2=>exact HC0.out);rintro e w' ⟨rfl,⟨nd,rfl⟩⟩;(try first|exact ⟨rfl,_,World.drewN_drewN _ _ _⟩|exact ⟨rfl,_,Eq.trans (World.drewN_drewN _ _ _) (congrArg (World.drewN _) (Nat.add_assoc _ _ _))⟩))))
  go_ret
  exact ⟨qE,qC⟩
 rw [if_pos c16] at H
 have c16b0:(a1_0 ==3)=true:=beq_iff_eq.mpr c16
 have c16b1:(a1_0 != 3)=false:=bne_eq_false_iff_eq.mpr c16
 clear c16
 by_cases c17:t536=true
 rotate_left
 ·replace c17:=Bool.eq_false_iff.mpr c17
  subst c17
  have H1:(some false)=some r:=by rw [if_neg (show ¬ (false=true) by decide)] at H;exact H
  clear H
  have H:=H1
  clear H1
  obtain rfl:=Option.some.inj H
  go_enter Tryz.func120,Tryz.ntmps120
  go_wp2_with (first|((with_reducible refine gate_dst (N:=3) rfl ?_);(try (refine gate_guard (by rfl) ?_;dsimp only));refine box_event ?hg (N:=3) ?hd (cs:=#[.int .i64 a1_0, .string a1_1, .string a1_2]) (t:=127) ?hr ?_;(case hd=>rfl);(case hg=>rfl);(case hr=>first|(go_simp;done)|(go_simp;rfl));intro gb534 hg w25 hbox hb;have BK534:=Aside0.mk hbox;have GW534:Aside0 (w.heap.size≤gb534):=⟨qH⟩;have GE534:=GW534;replace HB:=Aside0.mk (below_step qB hb);clear hb hbox hg;obtain ⟨hcz26_0,hcz26_1,hcz26_2,hfz26_0,hfz26_1,hfz26_2⟩:=cf3 BK534.out)|(go_at_call 152;(with_reducible refine (ebbtideref03_Find.calls k _ _ l0 a1_1 t535 false _ ?side1 ?side2 A3.out).mono ?_);(case side1=>repeat (first|exact (Kd.C_below HR0.out HB.out)|(with_reducible refine Kd.C_alloc ?_ _)|(with_reducible refine Kd.C_drewN ?_ _)|(with_reducible refine Kd.C_drew ?_)));(case side2=>exact HC0.out);rintro e w' ⟨rfl,⟨nd,rfl⟩⟩;(try first|exact ⟨rfl,_,World.drewN_drewN _ _ _⟩|exact ⟨rfl,_,Eq.trans (World.drewN_drewN _ _ _) (congrArg (World.drewN _) (Nat.add_assoc _ _ _))⟩)))
  repeat (go_quiet (first|((with_reducible refine gate_dst (N:=3) rfl ?_);(try (refine gate_guard (by rfl) ?_;dsimp only));refine box_event ?hg (N:=3) ?hd (cs:=#[.int .i64 a1_0, .string a1_1, .string a1_2]) (t:=127) ?hr ?_;(case hd=>rfl);(case hg=>rfl);(case hr=>first|(go_simp;done)|(go_simp;rfl));intro gb534 hg w25 hbox hb;have BK534:=Aside0.mk hbox;have GW534:Aside0 (w.heap.size≤gb534):=⟨qH⟩;have GE534:=GW534;replace HB:=Aside0.mk (below_step qB hb);clear hb hbox hg;obtain ⟨hcz26_0,hcz26_1,hcz26_2,hfz26_0,hfz26_1,hfz26_2⟩:=cf3 BK534.out)|(go_at_call 152;(with_reducible refine (ebbtideref03_Find.calls k _ _ l0 a1_1 t535 false _ ?side1 ?side2 A3.out).mono ?_);(case side1=>repeat (first|exact (Kd.C_below HR0.out HB.out)|(with_reducible refine Kd.C_alloc ?_ _)|(with_reducible refine Kd.C_drewN ?_ _)|(with_reducible refine Kd.C_drew ?_)));(case side2=>exact HC0.out);rintro e w' ⟨rfl,⟨nd,rfl⟩⟩;(try first|exact ⟨rfl,_,World.drewN_drewN _ _ _⟩|exact ⟨rfl,_,Eq.trans (World.drewN_drewN _ _ _) (congrArg (World.drewN _) (Nat.add_assoc _ _ _))⟩)));try go_wp2_with (first|((with_reducible refine gate_dst (N:=3) rfl ?_);(try (refine gate_guard (by rfl) ?_;dsimp only));refine box_event ?hg (N:=3) ?hd (cs:=#[.int .i64 a1_0, .string a1_1, .string a1_2]) (t:=127) ?hr ?_;(case hd=>rfl);(case hg=>rfl);(case hr=>first|(go_simp;done)|(go_simp;rfl));intro gb534 hg w25 hbox hb;have BK534:=Aside0.mk hbox;have GW534:Aside0 (w.heap.size≤gb534):=⟨qH⟩;have GE534:=GW534;replace HB:=Aside0.mk (below_step qB hb);clear hb hbox hg;obtain ⟨hcz26_0,hcz26_1,hcz26_2,hfz26_0,hfz26_1,hfz26_2⟩:=cf3 BK534.out)|(go_at_call 152;(with_reducible refine (ebbtideref03_Find.calls k _ _ l0 a1_1 t535 false _ ?side1 ?side2 A3.out).mono ?_);(case side1=>repeat (first|exact (Kd.C_below HR0.out HB.out)|(with_reducible refine Kd.C_alloc ?_ _)|(with_reducible refine Kd.C_drewN ?_ _)|(with_reducible refine Kd.C_drew ?_)));(case side2=>exact HC0.out);rintro e w' ⟨rfl,⟨nd,rfl⟩⟩;(try first|exact ⟨rfl,_,World.drewN_drewN _ _ _⟩|exact ⟨rfl,_,Eq.trans (World.drewN_drewN _ _ _) (congrArg (World.drewN _) (Nat.add_assoc _ _ _))⟩))))
  go_ret
  exact ⟨qE,qC⟩
 subst c17
 have H1:(if (t535.size:Int)≥(a1_2.size:Int) then (if 0≤(a1_2.size:Int) then (if (a1_2.size:Int)≤(t535.size:Int) then (some ((t535.extract 0 ((a1_2.size:Int):Int).toNat).toList ==a1_2.toList)) else (none)) else (none)) else (some false))=some r:=by rw [if_pos rfl] at H;exact H
 clear H
 have H:=H1
 clear H1
 by_cases c18:(t535.size:Int)≥(a1_2.size:Int)
 rotate_left
 ·rw [if_neg c18] at H
  have c18b0:decide ((a1_2.size:Int)≤(t535.size:Int))=false:=decide_eq_false c18
  have c18b1:decide (a1_2.size≤t535.size)=false:=decide_eq_false (fun h=>c18 (Int.ofNat_le.mpr h))
  clear c18
  obtain rfl:=Option.some.inj H
  go_enter Tryz.func120,Tryz.ntmps120
  go_wp2_with (first|((with_reducible refine gate_dst (N:=3) rfl ?_);(try (refine gate_guard (by rfl) ?_;dsimp only));refine box_event ?hg (N:=3) ?hd (cs:=#[.int .i64 a1_0, .string a1_1, .string a1_2]) (t:=127) ?hr ?_;(case hd=>rfl);(case hg=>rfl);(case hr=>first|(go_simp;done)|(go_simp;rfl));intro gb534 hg w23 hbox hb;have BK534:=Aside0.mk hbox;have GW534:Aside0 (w.heap.size≤gb534):=⟨qH⟩;have GE534:=GW534;replace HB:=Aside0.mk (below_step qB hb);clear hb hbox hg;obtain ⟨hcz24_0,hcz24_1,hcz24_2,hfz24_0,hfz24_1,hfz24_2⟩:=cf3 BK534.out)|(go_at_call 152;(with_reducible refine (ebbtideref03_Find.calls k _ _ l0 a1_1 t535 true _ ?side1 ?side2 A3.out).mono ?_);(case side1=>repeat (first|exact (Kd.C_below HR0.out HB.out)|(with_reducible refine Kd.C_alloc ?_ _)|(with_reducible refine Kd.C_drewN ?_ _)|(with_reducible refine Kd.C_drew ?_)));(case side2=>exact HC0.out);rintro e w' ⟨rfl,⟨nd,rfl⟩⟩;(try first|exact ⟨rfl,_,World.drewN_drewN _ _ _⟩|exact ⟨rfl,_,Eq.trans (World.drewN_drewN _ _ _) (congrArg (World.drewN _) (Nat.add_assoc _ _ _))⟩)))
  repeat (go_quiet (first|((with_reducible refine gate_dst (N:=3) rfl ?_);(try (refine gate_guard (by rfl) ?_;dsimp only));refine box_event ?hg (N:=3) ?hd (cs:=#[.int .i64 a1_0, .string a1_1, .string a1_2]) (t:=127) ?hr ?_;(case hd=>rfl);(case hg=>rfl);(case hr=>first|(go_simp;done)|(go_simp;rfl));intro gb534 hg w23 hbox hb;have BK534:=Aside0.mk hbox;have GW534:Aside0 (w.heap.size≤gb534):=⟨qH⟩;have GE534:=GW534;replace HB:=Aside0.mk (below_step qB hb);clear hb hbox hg;obtain ⟨hcz24_0,hcz24_1,hcz24_2,hfz24_0,hfz24_1,hfz24_2⟩:=cf3 BK534.out)|(go_at_call 152;(with_reducible refine (ebbtideref03_Find.calls k _ _ l0 a1_1 t535 true _ ?side1 ?side2 A3.out).mono ?_);(case side1=>repeat (first|exact (Kd.C_below HR0.out HB.out)|(with_reducible refine Kd.C_alloc ?_ _)|(with_reducible refine Kd.C_drewN ?_ _)|(with_reducible refine Kd.C_drew ?_)));(case side2=>exact HC0.out);rintro e w' ⟨rfl,⟨nd,rfl⟩⟩;(try first|exact ⟨rfl,_,World.drewN_drewN _ _ _⟩|exact ⟨rfl,_,Eq.trans (World.drewN_drewN _ _ _) (congrArg (World.drewN _) (Nat.add_assoc _ _ _))⟩)));try go_wp2_with (first|((with_reducible refine gate_dst (N:=3) rfl ?_);(try (refine gate_guard (by rfl) ?_;dsimp only));refine box_event ?hg (N:=3) ?hd (cs:=#[.int .i64 a1_0, .string a1_1, .string a1_2]) (t:=127) ?hr ?_;(case hd=>rfl);(case hg=>rfl);(case hr=>first|(go_simp;done)|(go_simp;rfl));intro gb534 hg w23 hbox hb;have BK534:=Aside0.mk hbox;have GW534:Aside0 (w.heap.size≤gb534):=⟨qH⟩;have GE534:=GW534;replace HB:=Aside0.mk (below_step qB hb);clear hb hbox hg;obtain ⟨hcz24_0,hcz24_1,hcz24_2,hfz24_0,hfz24_1,hfz24_2⟩:=cf3 BK534.out)|(go_at_call 152;(with_reducible refine (ebbtideref03_Find.calls k _ _ l0 a1_1 t535 true _ ?side1 ?side2 A3.out).mono ?_);(case side1=>repeat (first|exact (Kd.C_below HR0.out HB.out)|(with_reducible refine Kd.C_alloc ?_ _)|(with_reducible refine Kd.C_drewN ?_ _)|(with_reducible refine Kd.C_drew ?_)));(case side2=>exact HC0.out);rintro e w' ⟨rfl,⟨nd,rfl⟩⟩;(try first|exact ⟨rfl,_,World.drewN_drewN _ _ _⟩|exact ⟨rfl,_,Eq.trans (World.drewN_drewN _ _ _) (congrArg (World.drewN _) (Nat.add_assoc _ _ _))⟩))))
  go_ret
  exact ⟨qE,qC⟩
 rw [if_pos c18] at H
 have c18b0:decide ((a1_2.size:Int)≤(t535.size:Int))=true:=decide_eq_true c18
 have c18b1:decide (a1_2.size≤t535.size)=true:=decide_eq_true (Int.ofNat_le.mp c18)
 clear c18
 by_cases c19:0≤(a1_2.size:Int)
 rotate_left
 ·rw [if_neg c19] at H
  exact absurd H (by simp)
 rw [if_pos c19] at H
 have c19b0:=eq_true c19
 have c19b1:decide (0≤(a1_2.size:Int))=true:=decide_eq_true c19
 clear c19
 by_cases c20:(a1_2.size:Int)≤(t535.size:Int)
 rotate_left
 ·rw [if_neg c20] at H
  exact absurd H (by simp)
 rw [if_pos c20] at H
 have c20b0:=eq_true c20
 have c20b1:decide ((a1_2.size:Int)≤(t535.size:Int))=true:=decide_eq_true c20
 clear c20
 obtain rfl:=Option.some.inj H
 go_enter Tryz.func120,Tryz.ntmps120
 go_wp2_with (first|((with_reducible refine gate_dst (N:=3) rfl ?_);(try (refine gate_guard (by rfl) ?_;dsimp only));refine box_event ?hg (N:=3) ?hd (cs:=#[.int .i64 a1_0, .string a1_1, .string a1_2]) (t:=127) ?hr ?_;(case hd=>rfl);(case hg=>rfl);(case hr=>first|(go_simp;done)|(go_simp;rfl));intro gb534 hg w21 hbox hb;have BK534:=Aside0.mk hbox;have GW534:Aside0 (w.heap.size≤gb534):=⟨qH⟩;have GE534:=GW534;replace HB:=Aside0.mk (below_step qB hb);clear hb hbox hg;obtain ⟨hcz22_0,hcz22_1,hcz22_2,hfz22_0,hfz22_1,hfz22_2⟩:=cf3 BK534.out)|(go_at_call 152;(with_reducible refine (ebbtideref03_Find.calls k _ _ l0 a1_1 t535 true _ ?side1 ?side2 A3.out).mono ?_);(case side1=>repeat (first|exact (Kd.C_below HR0.out HB.out)|(with_reducible refine Kd.C_alloc ?_ _)|(with_reducible refine Kd.C_drewN ?_ _)|(with_reducible refine Kd.C_drew ?_)));(case side2=>exact HC0.out);rintro e w' ⟨rfl,⟨nd,rfl⟩⟩;(try first|exact ⟨rfl,_,World.drewN_drewN _ _ _⟩|exact ⟨rfl,_,Eq.trans (World.drewN_drewN _ _ _) (congrArg (World.drewN _) (Nat.add_assoc _ _ _))⟩)))
 repeat (go_quiet (first|((with_reducible refine gate_dst (N:=3) rfl ?_);(try (refine gate_guard (by rfl) ?_;dsimp only));refine box_event ?hg (N:=3) ?hd (cs:=#[.int .i64 a1_0, .string a1_1, .string a1_2]) (t:=127) ?hr ?_;(case hd=>rfl);(case hg=>rfl);(case hr=>first|(go_simp;done)|(go_simp;rfl));intro gb534 hg w21 hbox hb;have BK534:=Aside0.mk hbox;have GW534:Aside0 (w.heap.size≤gb534):=⟨qH⟩;have GE534:=GW534;replace HB:=Aside0.mk (below_step qB hb);clear hb hbox hg;obtain ⟨hcz22_0,hcz22_1,hcz22_2,hfz22_0,hfz22_1,hfz22_2⟩:=cf3 BK534.out)|(go_at_call 152;(with_reducible refine (ebbtideref03_Find.calls k _ _ l0 a1_1 t535 true _ ?side1 ?side2 A3.out).mono ?_);(case side1=>repeat (first|exact (Kd.C_below HR0.out HB.out)|(with_reducible refine Kd.C_alloc ?_ _)|(with_reducible refine Kd.C_drewN ?_ _)|(with_reducible refine Kd.C_drew ?_)));(case side2=>exact HC0.out);rintro e w' ⟨rfl,⟨nd,rfl⟩⟩;(try first|exact ⟨rfl,_,World.drewN_drewN _ _ _⟩|exact ⟨rfl,_,Eq.trans (World.drewN_drewN _ _ _) (congrArg (World.drewN _) (Nat.add_assoc _ _ _))⟩)));try go_wp2_with (first|((with_reducible refine gate_dst (N:=3) rfl ?_);(try (refine gate_guard (by rfl) ?_;dsimp only));refine box_event ?hg (N:=3) ?hd (cs:=#[.int .i64 a1_0, .string a1_1, .string a1_2]) (t:=127) ?hr ?_;(case hd=>rfl);(case hg=>rfl);(case hr=>first|(go_simp;done)|(go_simp;rfl));intro gb534 hg w21 hbox hb;have BK534:=Aside0.mk hbox;have GW534:Aside0 (w.heap.size≤gb534):=⟨qH⟩;have GE534:=GW534;replace HB:=Aside0.mk (below_step qB hb);clear hb hbox hg;obtain ⟨hcz22_0,hcz22_1,hcz22_2,hfz22_0,hfz22_1,hfz22_2⟩:=cf3 BK534.out)|(go_at_call 152;(with_reducible refine (ebbtideref03_Find.calls k _ _ l0 a1_1 t535 true _ ?side1 ?side2 A3.out).mono ?_);(case side1=>repeat (first|exact (Kd.C_below HR0.out HB.out)|(with_reducible refine Kd.C_alloc ?_ _)|(with_reducible refine Kd.C_drewN ?_ _)|(with_reducible refine Kd.C_drew ?_)));(case side2=>exact HC0.out);rintro e w' ⟨rfl,⟨nd,rfl⟩⟩;(try first|exact ⟨rfl,_,World.drewN_drewN _ _ _⟩|exact ⟨rfl,_,Eq.trans (World.drewN_drewN _ _ _) (congrArg (World.drewN _) (Nat.add_assoc _ _ _))⟩))))
 go_ret
 exact ⟨qE,qC⟩
def ebbtideref05_Fits.l0:Nat→List (S93)→List (S127)→Int→Option (Bool)
 | 0,_,_,_=>none
 | k+1,x0,x1,x5=>if x5<(x1.length:Int) then (if 0≤x5 then ((ebbtideref05_one.f k x0 ((rd_T127 x1 x5).f0) ((rd_T127 x1 x5).f1) ((rd_T127 x1 x5).f2)).bind fun t538=>(if t538=true then (ebbtideref05_Fits.l0 k x0 x1 (wrap64 (x5+1))) else (some false))) else (none)) else (some true)
def ebbtideref05_Fits.f (k:Nat) (l0:List (S93)) (l1:List (S127)):Option (Bool):=ebbtideref05_Fits.l0 k l0 l1 0
theorem ebbtideref05_Fits.mono_l:∀ k,(∀ y0 y1 y2,LeO (ebbtideref05_Fits.l0 k y0 y1 y2) (ebbtideref05_Fits.l0 (k+1) y0 y1 y2))
 | 0=>fun _ _ _ r h=>by simp [ebbtideref05_Fits.l0] at h
 | k+1=>by
  have ih0:=ebbtideref05_Fits.mono_l k
  ·intro y0 y1 y2
   unfold ebbtideref05_Fits.l0
   repeat' first
   | (with_reducible exact ih0 _ _ _)
   | (with_reducible exact ebbtideref05_one.mono _ _ _ _ _)
   | (with_reducible exact LeO.refl _)
   | (with_reducible exact LeO.none _)
   | (with_reducible refine LeO.ite ?_ ?_)
   | (with_reducible refine LeO.bind ?_ (fun _=>?_))
   | exact ih0 _ _ _
   | exact ebbtideref05_one.mono _ _ _ _ _
   | exact LeO.none _
   | refine LeO.ite ?_ ?_
   | refine LeO.bind ?_ (fun _=>?_)
theorem ebbtideref05_Fits.mono:∀ a0 a1 k,LeO (ebbtideref05_Fits.f k a0 a1) (ebbtideref05_Fits.f (k+1) a0 a1):=by
 intro a0 a1 k
 have ih0:=ebbtideref05_Fits.mono_l k
 unfold ebbtideref05_Fits.f
 repeat' first
   | (with_reducible exact ih0 _ _ _)
   | (with_reducible exact ebbtideref05_one.mono _ _ _ _ _)
   | (with_reducible exact LeO.refl _)
   | (with_reducible exact LeO.none _)
   | (with_reducible refine LeO.ite ?_ ?_)
   | (with_reducible refine LeO.bind ?_ (fun _=>?_))
   | exact ih0 _ _ _
   | exact ebbtideref05_one.mono _ _ _ _ _
   | exact LeO.none _
   | refine LeO.ite ?_ ?_
   | refine LeO.bind ?_ (fun _=>?_)
theorem ebbtideref05_Fits.calls (k:Nat) (A0:Option Addr) (c0:Nat) (l0:List (S93)) (A1:Option Addr) (c1:Nat) (l1:List (S127)) (r:Bool) (w:World) (hr0:Kd.C k93 w A0 l0.length l0) (hc0:l0.length≤c0) (hr1:Kd.C k127 w A1 l1.length l1) (hc1:l1.length≤c1) (h:ebbtideref05_Fits.f k l0 l1=some r) :
  Calls Tryz.prog 74 #[.slice A0 l0.length c0, .slice A1 l1.length c1] w fun e w'=>e = .returned (.bool r)∧Below w.heap.size w w':=by
 have hu127:=Tryz.underlying127
 have HR0:=Aside0.mk hr0
 have HC0:=Aside0.mk hc0
 clear hr0 hc0
 have HR1:=Aside0.mk hr1
 have HC1:=Aside0.mk hc1
 clear hr1 hc1
 have HB:=Aside0.mk (Below.refl w.heap.size w)
 have H:(ebbtideref05_Fits.l0 k l0 l1 0)=some r:=h
 clear h
 have H':=Aside0.mk H
 clear H
 go_enter Tryz.func74,Tryz.ntmps74
 go_wp2
 go_loopg [5] k (fun kq v5 w'=>∃ (x5_1:Int),v5 = .int .i64 x5_1∧Aside0 (ebbtideref05_Fits.l0 kq l0 l1 x5_1=some r)∧Aside0 (kq≤k)∧Aside0 (Below w.heap.size w w'))
 case atStart=>exact ⟨(0),qS,H',⟨Nat.le_refl _⟩,⟨qB⟩⟩
 case round =>
  clear H'
  obtain ⟨x5_1,rfl,HA,HK1,HB⟩:=hrel
  cases gk with
  | zero=>exact absurd HA.out (by simp [ebbtideref05_Fits.l0])
  | succ k1 =>
   have H:=HA.out
   clear HA
   simp only [ebbtideref05_Fits.l0] at H
   by_cases c3:x5_1<(l1.length:Int)
   rotate_left
   ·rw [if_neg c3] at H
    have c3b0:decide (x5_1<(l1.length:Int))=false:=decide_eq_false c3
    clear c3
    obtain rfl:=Option.some.inj H
    go_wp2
    go_ret
    exact ⟨qE,qB⟩
   rw [if_pos c3] at H
   have c3b0:decide (x5_1<(l1.length:Int))=true:=decide_eq_true c3
   clear c3
   by_cases c4:0≤x5_1
   rotate_left
   ·rw [if_neg c4] at H
    exact absurd H (by simp)
   rw [if_pos c4] at H
   have c4b0:decide (0≤x5_1)=true:=decide_eq_true c4
   clear c4
   replace H:=Option.bind_eq_some_iff.mp H
   obtain ⟨t538,A50,H⟩:=H
   replace H:(if t538=true then (ebbtideref05_Fits.l0 k1 l0 l1 (wrap64 (x5_1+1))) else (some false))=some r:=H
   have A5:=Aside0.mk A50
   clear A50
   by_cases c6:t538=true
   rotate_left
   ·replace c6:=Bool.eq_false_iff.mpr c6
    subst c6
    have H1:(some false)=some r:=by rw [if_neg (show ¬ (false=true) by decide)] at H;exact H
    clear H
    have H:=H1
    clear H1
    obtain rfl:=Option.some.inj H
    have p537:0≤(x5_1:Int):=of_decide_eq_true qA
    have q537:x5_1<(l1.length:Int):=of_decide_eq_true qA
    obtain ⟨ad537,e537,hx537_0,hx537_1,hx537_2⟩:=at_T127 HR1.out x5_1 p537 q537
    cases e537
    replace hx537_0:=(HB.out.cell (World.block_lt_of_cell? w _ hx537_0)).trans hx537_0
    replace hx537_1:=(HB.out.cell (World.block_lt_of_cell? w _ hx537_1)).trans hx537_1
    replace hx537_2:=(HB.out.cell (World.block_lt_of_cell? w _ hx537_2)).trans hx537_2
    replace p537:=eq_true p537
    replace q537:=eq_true q537
    go_wp2_with (first|((with_reducible refine gate_callee (f:=120) rfl ?_);refine goesL_ (some 17) rfl rfl Tryz.func120 qK rfl #[.slice A0 l0.length c0, .agg #[.int .i64 ((rd_T127 l1 x5_1).f0), .string ((rd_T127 l1 x5_1).f1), .string ((rd_T127 l1 x5_1).f2)]] rfl qG ?_;(with_reducible refine (ebbtideref05_one.calls k1 _ _ l0 ((rd_T127 l1 x5_1).f0) ((rd_T127 l1 x5_1).f1) ((rd_T127 l1 x5_1).f2) false _ ?side1 ?side2 A5.out).mono ?_);(case side1=>repeat (first|exact (Kd.C_below HR0.out HB.out)|(with_reducible refine Kd.C_alloc ?_ _)|(with_reducible refine Kd.C_drewN ?_ _)|(with_reducible refine Kd.C_drew ?_)));(case side2=>exact HC0.out);rintro e w8 ⟨rfl,hb⟩;refine ⟨_,rfl,?_⟩;replace HB:=Aside0.mk (below_step qB hb);clear hb))
    go_ret
    exact ⟨qE,qB⟩
   subst c6
   have H1:(ebbtideref05_Fits.l0 k1 l0 l1 (wrap64 (x5_1+1)))=some r:=by rw [if_pos rfl] at H;exact H
   clear H
   have H:=H1
   clear H1
   have H':=Aside0.mk H
   clear H
   have p537:0≤(x5_1:Int):=of_decide_eq_true qA
   have q537:x5_1<(l1.length:Int):=of_decide_eq_true qA
   obtain ⟨ad537,e537,hx537_0,hx537_1,hx537_2⟩:=at_T127 HR1.out x5_1 p537 q537
   cases e537
   replace hx537_0:=(HB.out.cell (World.block_lt_of_cell? w _ hx537_0)).trans hx537_0
   replace hx537_1:=(HB.out.cell (World.block_lt_of_cell? w _ hx537_1)).trans hx537_1
   replace hx537_2:=(HB.out.cell (World.block_lt_of_cell? w _ hx537_2)).trans hx537_2
   replace p537:=eq_true p537
   replace q537:=eq_true q537
   go_wp2_with (first|((with_reducible refine gate_callee (f:=120) rfl ?_);refine goesL_ (some 17) rfl rfl Tryz.func120 qK rfl #[.slice A0 l0.length c0, .agg #[.int .i64 ((rd_T127 l1 x5_1).f0), .string ((rd_T127 l1 x5_1).f1), .string ((rd_T127 l1 x5_1).f2)]] rfl qG ?_;(with_reducible refine (ebbtideref05_one.calls k1 _ _ l0 ((rd_T127 l1 x5_1).f0) ((rd_T127 l1 x5_1).f1) ((rd_T127 l1 x5_1).f2) true _ ?side1 ?side2 A5.out).mono ?_);(case side1=>repeat (first|exact (Kd.C_below HR0.out HB.out)|(with_reducible refine Kd.C_alloc ?_ _)|(with_reducible refine Kd.C_drewN ?_ _)|(with_reducible refine Kd.C_drew ?_)));(case side2=>exact HC0.out);rintro e w7 ⟨rfl,hb⟩;refine ⟨_,rfl,?_⟩;replace HB:=Aside0.mk (below_step qB hb);clear hb))
   go_roundg k1
   case measure=>have:=HK1.out;omega
   case rel=>exact ⟨(wrap64 (x5_1+1)),qS,H',⟨by have:=HK1.out;omega⟩,⟨qB⟩⟩
def ebbtideref07_Fits.f (k:Nat) (a0_0:Int) (a0_1:ByteArray) (l0_2:List (S127)) (l0_3:List ByteArray) (a1_0:ByteArray) (l1_1:List (S93)):Option (Bool):=if a1_0.toList=a0_1.toList then ((ebbtideref05_Fits.f k l1_1 l0_2).bind fun t541=>(some t541)) else (some false)
theorem ebbtideref07_Fits.mono:∀ a0 a1 a2 a3 a4 a5 k,LeO (ebbtideref07_Fits.f k a0 a1 a2 a3 a4 a5) (ebbtideref07_Fits.f (k+1) a0 a1 a2 a3 a4 a5):=by
 intro a0 a1 a2 a3 a4 a5 k
 unfold ebbtideref07_Fits.f
 repeat' first
   | (with_reducible exact ebbtideref05_Fits.mono _ _ _)
   | (with_reducible exact LeO.refl _)
   | (with_reducible exact LeO.none _)
   | (with_reducible refine LeO.ite ?_ ?_)
   | (with_reducible refine LeO.bind ?_ (fun _=>?_))
   | exact ebbtideref05_Fits.mono _ _ _
   | exact LeO.none _
   | refine LeO.ite ?_ ?_
   | refine LeO.bind ?_ (fun _=>?_)
theorem ebbtideref07_Fits.calls (k:Nat) (a0_0:Int) (a0_1:ByteArray) (A0_2:Option Addr) (c0_2:Nat) (l0_2:List (S127)) (A0_3:Option Addr) (c0_3:Nat) (l0_3:List ByteArray) (a1_0:ByteArray) (A1_1:Option Addr) (c1_1:Nat) (l1_1:List (S93)) (r:Bool) (w:World) (hr0_2:Kd.C k127 w A0_2 l0_2.length l0_2) (hc0_2:l0_2.length≤c0_2) (hr0_3:Kd.C Kd.string w A0_3 l0_3.length l0_3) (hc0_3:l0_3.length≤c0_3) (hr1_1:Kd.C k93 w A1_1 l1_1.length l1_1) (hc1_1:l1_1.length≤c1_1) (h:ebbtideref07_Fits.f k a0_0 a0_1 l0_2 l0_3 a1_0 l1_1=some r) :
  Calls Tryz.prog 24 #[.agg #[.int .i64 a0_0, .string a0_1, .slice A0_2 l0_2.length c0_2, .slice A0_3 l0_3.length c0_3], .agg #[.string a1_0, .slice A1_1 l1_1.length c1_1]] w fun e w'=>e = .returned (.bool r)∧Below w.heap.size w w':=by
 have hu25:=Tryz.underlying25
 have hu36:=Tryz.underlying36
 have HR0_2:=Aside0.mk hr0_2
 have HC0_2:=Aside0.mk hc0_2
 clear hr0_2 hc0_2
 have HR0_3:=Aside0.mk hr0_3
 have HC0_3:=Aside0.mk hc0_3
 clear hr0_3 hc0_3
 have HR1_1:=Aside0.mk hr1_1
 have HC1_1:=Aside0.mk hc1_1
 clear hr1_1 hc1_1
 have HB:=Aside0.mk (Below.refl w.heap.size w)
 have H:(if a1_0.toList=a0_1.toList then ((ebbtideref05_Fits.f k l1_1 l0_2).bind fun t541=>(some t541)) else (some false))=some r:=h
 clear h
 by_cases c3:a1_0.toList=a0_1.toList
 rotate_left
 ·rw [if_neg c3] at H
  have c3b0:(a1_0.toList ==a0_1.toList)=false:=beq_eq_false_iff_ne.mpr c3
  have c3b1:(a1_0.toList != a0_1.toList)=true:=bne_iff_ne.mpr c3
  obtain rfl:=Option.some.inj H
  go_enter Tryz.func24,Tryz.ntmps24
  go_wp2_with (first|((with_reducible refine gate_dst (N:=2) rfl ?_);refine box_event ?hg (N:=2) ?hd (cs:=#[.int .i64 a0_0, .string a0_1, .slice A0_2 l0_2.length c0_2, .slice A0_3 l0_3.length c0_3]) (t:=25) ?hr ?_;(case hd=>rfl);(case hg=>rfl);(case hr=>first|(go_simp;done)|(go_simp;rfl));intro gb539 hg w11 hbox hb;have BK539:=Aside0.mk hbox;have GW539:Aside0 (w.heap.size≤gb539):=⟨qH⟩;have GE539:=GW539;replace HB:=Aside0.mk (below_step qB hb);clear hb hbox hg)|((with_reducible refine gate_dst (N:=3) rfl ?_);refine box_event ?hg (N:=3) ?hd (cs:=#[.string a1_0, .slice A1_1 l1_1.length c1_1]) (t:=36) ?hr ?_;(case hd=>rfl);(case hg=>rfl);(case hr=>first|(go_simp;done)|(go_simp;rfl));intro gb540 hg w12 hbox hb;have BK540:=Aside0.mk hbox;have GW540:Aside0 (w.heap.size≤gb540):=⟨qI⟩;have GE540:=GW540;replace HB:=Aside0.mk (below_step qC hb);have NB539_540:=Aside0.mk ((by rw [hg];exact Nat.ne_of_lt (blk_lt (g:=gb539) (o := .cells #[.int .i64 a0_0, .string a0_1, .slice A0_2 l0_2.length c0_2, .slice A0_3 l0_3.length c0_3] 25 (0,0)) (qW BK539)):gb539≠gb540));have NB540_539:=Aside0.mk ((by rw [hg];exact Nat.ne_of_gt (blk_lt (g:=gb539) (o := .cells #[.int .i64 a0_0, .string a0_1, .slice A0_2 l0_2.length c0_2, .slice A0_3 l0_3.length c0_3] 25 (0,0)) (qW BK539)):gb540≠gb539));replace BK539:=Aside0.mk (blk_below (g:=gb539) (o := .cells #[.int .i64 a0_0, .string a0_1, .slice A0_2 l0_2.length c0_2, .slice A0_3 l0_3.length c0_3] 25 (0,0)) (qW BK539) hb);clear hb hbox hg;have hnb13:=NB540_539.out;have hnc13:=NB539_540.out;obtain ⟨hcz14_0,hcz14_1,hfz14_0,hfz14_1⟩:=cf2 BK540.out;obtain ⟨hcz15_0,hcz15_1,hcz15_2,hcz15_3,hfz15_0,hfz15_1,hfz15_2,hfz15_3⟩:=cf4 BK539.out))
  go_ret
  exact ⟨qE,qC⟩
 rw [if_pos c3] at H
 have c3b0:(a1_0.toList ==a0_1.toList)=true:=beq_iff_eq.mpr c3
 have c3b1:(a1_0.toList != a0_1.toList)=false:=bne_eq_false_iff_eq.mpr c3
 clear c3
 replace H:=Option.bind_eq_some_iff.mp H
 obtain ⟨t541,A40,H⟩:=H
 replace H:(some t541)=some r:=H
 have A4:=Aside0.mk A40
 clear A40
 obtain rfl:=Option.some.inj H
 go_enter Tryz.func24,Tryz.ntmps24
 go_wp2_with (first|((with_reducible refine gate_dst (N:=2) rfl ?_);refine box_event ?hg (N:=2) ?hd (cs:=#[.int .i64 a0_0, .string a0_1, .slice A0_2 l0_2.length c0_2, .slice A0_3 l0_3.length c0_3]) (t:=25) ?hr ?_;(case hd=>rfl);(case hg=>rfl);(case hr=>first|(go_simp;done)|(go_simp;rfl));intro gb539 hg w5 hbox hb;have BK539:=Aside0.mk hbox;have GW539:Aside0 (w.heap.size≤gb539):=⟨qH⟩;have GE539:=GW539;replace HB:=Aside0.mk (below_step qB hb);clear hb hbox hg)|((with_reducible refine gate_dst (N:=3) rfl ?_);refine box_event ?hg (N:=3) ?hd (cs:=#[.string a1_0, .slice A1_1 l1_1.length c1_1]) (t:=36) ?hr ?_;(case hd=>rfl);(case hg=>rfl);(case hr=>first|(go_simp;done)|(go_simp;rfl));intro gb540 hg w6 hbox hb;have BK540:=Aside0.mk hbox;have GW540:Aside0 (w.heap.size≤gb540):=⟨qI⟩;have GE540:=GW540;replace HB:=Aside0.mk (below_step qC hb);have NB539_540:=Aside0.mk ((by rw [hg];exact Nat.ne_of_lt (blk_lt (g:=gb539) (o := .cells #[.int .i64 a0_0, .string a0_1, .slice A0_2 l0_2.length c0_2, .slice A0_3 l0_3.length c0_3] 25 (0,0)) (qW BK539)):gb539≠gb540));have NB540_539:=Aside0.mk ((by rw [hg];exact Nat.ne_of_gt (blk_lt (g:=gb539) (o := .cells #[.int .i64 a0_0, .string a0_1, .slice A0_2 l0_2.length c0_2, .slice A0_3 l0_3.length c0_3] 25 (0,0)) (qW BK539)):gb540≠gb539));replace BK539:=Aside0.mk (blk_below (g:=gb539) (o := .cells #[.int .i64 a0_0, .string a0_1, .slice A0_2 l0_2.length c0_2, .slice A0_3 l0_3.length c0_3] 25 (0,0)) (qW BK539) hb);clear hb hbox hg;have hnb7:=NB540_539.out;have hnc7:=NB539_540.out;obtain ⟨hcz8_0,hcz8_1,hfz8_0,hfz8_1⟩:=cf2 BK540.out;obtain ⟨hcz9_0,hcz9_1,hcz9_2,hcz9_3,hfz9_0,hfz9_1,hfz9_2,hfz9_3⟩:=cf4 BK539.out)|(go_at_call 74;(with_reducible refine (ebbtideref05_Fits.calls k _ _ l1_1 _ _ l0_2 t541 _ ?side1 ?side2 ?side3 ?side4 A4.out).mono ?_);(case side1=>repeat (first|exact (Kd.C_below HR1_1.out HB.out)|(with_reducible refine Kd.C_alloc ?_ _)|(with_reducible refine Kd.C_drewN ?_ _)|(with_reducible refine Kd.C_drew ?_)));(case side2=>exact HC1_1.out);(case side3=>repeat (first|exact (Kd.C_below HR0_2.out HB.out)|(with_reducible refine Kd.C_alloc ?_ _)|(with_reducible refine Kd.C_drewN ?_ _)|(with_reducible refine Kd.C_drew ?_)));(case side4=>exact HC0_2.out);rintro e w10 ⟨rfl,hb⟩;replace BK539:=Aside0.mk (blk_below (g:=gb539) (o := .cells #[.int .i64 a0_0, .string a0_1, .slice A0_2 l0_2.length c0_2, .slice A0_3 l0_3.length c0_3] 25 (0,0)) (qW BK539) hb);replace BK540:=Aside0.mk (blk_below (g:=gb540) (o := .cells #[.string a1_0, .slice A1_1 l1_1.length c1_1] 36 (0,0)) (qW BK540) hb);replace HB:=Aside0.mk (below_step qC hb);clear hb))
 go_ret
 exact ⟨qE,qC⟩
def ebbtideref03_has.l0:Nat→List ByteArray→ByteArray→Int→Option (Bool)
 | 0,_,_,_=>none
 | k+1,x0,x1,x5=>if x5<(x0.length:Int) then (if 0≤x5 then (if (rdOf ByteArray.empty x0 x5).toList=x1.toList then (some true) else (ebbtideref03_has.l0 k x0 x1 (wrap64 (x5+1)))) else (none)) else (some false)
def ebbtideref03_has.f (k:Nat) (l0:List ByteArray) (a1:ByteArray):Option (Bool):=ebbtideref03_has.l0 k l0 a1 0
theorem ebbtideref03_has.mono_l:∀ k,(∀ y0 y1 y2,LeO (ebbtideref03_has.l0 k y0 y1 y2) (ebbtideref03_has.l0 (k+1) y0 y1 y2))
 | 0=>fun _ _ _ r h=>by simp [ebbtideref03_has.l0] at h
 | k+1=>by
  have ih0:=ebbtideref03_has.mono_l k
  ·intro y0 y1 y2
   unfold ebbtideref03_has.l0
   repeat' first
   | (with_reducible exact ih0 _ _ _)
   | (with_reducible exact LeO.refl _)
   | (with_reducible exact LeO.none _)
   | (with_reducible refine LeO.ite ?_ ?_)
   | (with_reducible refine LeO.bind ?_ (fun _=>?_))
   | exact ih0 _ _ _
   | exact LeO.none _
   | refine LeO.ite ?_ ?_
   | refine LeO.bind ?_ (fun _=>?_)
theorem ebbtideref03_has.mono:∀ a0 a1 k,LeO (ebbtideref03_has.f k a0 a1) (ebbtideref03_has.f (k+1) a0 a1):=by
 intro a0 a1 k
 have ih0:=ebbtideref03_has.mono_l k
 unfold ebbtideref03_has.f
 repeat' first
   | (with_reducible exact ih0 _ _ _)
   | (with_reducible exact LeO.refl _)
   | (with_reducible exact LeO.none _)
   | (with_reducible refine LeO.ite ?_ ?_)
   | (with_reducible refine LeO.bind ?_ (fun _=>?_))
   | exact ih0 _ _ _
   | exact LeO.none _
   | refine LeO.ite ?_ ?_
   | refine LeO.bind ?_ (fun _=>?_)
theorem ebbtideref03_has.calls (k:Nat) (A0:Option Addr) (c0:Nat) (l0:List ByteArray) (a1:ByteArray) (r:Bool) (w:World) (hr0:Kd.C Kd.string w A0 l0.length l0) (hc0:l0.length≤c0) (h:ebbtideref03_has.f k l0 a1=some r) :
  Calls Tryz.prog 122 #[.slice A0 l0.length c0, .string a1] w fun e w'=>e = .returned (.bool r)∧Drawn0 w w':=by
 have HR0:=Aside0.mk hr0
 have HC0:=Aside0.mk hc0
 clear hr0 hc0
 have H:(ebbtideref03_has.l0 k l0 a1 0)=some r:=h
 clear h
 have H':=Aside0.mk H
 clear H
 go_enter Tryz.func122,Tryz.ntmps122
 go_wp2
 go_loopg [5] k (fun kq v5 w'=>∃ (x5_1:Int),v5 = .int .i64 x5_1∧Aside0 (ebbtideref03_has.l0 kq l0 a1 x5_1=some r)∧Aside0 (kq≤k)∧Drawn0 w w')
 case atStart=>exact ⟨(0),qS,H',⟨Nat.le_refl _⟩,qD⟩
 case round =>
  clear H'
  obtain ⟨x5_1,rfl,HA,HK1,⟨m1,rfl⟩⟩:=hrel
  cases gk with
  | zero=>exact absurd HA.out (by simp [ebbtideref03_has.l0])
  | succ k1 =>
   have H:=HA.out
   clear HA
   simp only [ebbtideref03_has.l0] at H
   by_cases c3:x5_1<(l0.length:Int)
   rotate_left
   ·rw [if_neg c3] at H
    have c3b0:decide (x5_1<(l0.length:Int))=false:=decide_eq_false c3
    clear c3
    obtain rfl:=Option.some.inj H
    go_wp2
    go_ret
    exact ⟨qS,qD⟩
   rw [if_pos c3] at H
   have c3b0:decide (x5_1<(l0.length:Int))=true:=decide_eq_true c3
   clear c3
   by_cases c4:0≤x5_1
   rotate_left
   ·rw [if_neg c4] at H
    exact absurd H (by simp)
   rw [if_pos c4] at H
   have c4b0:decide (0≤x5_1)=true:=decide_eq_true c4
   clear c4
   by_cases c5:(rdOf ByteArray.empty l0 x5_1).toList=a1.toList
   ·rw [if_pos c5] at H
    have c5b0:((rdOf ByteArray.empty l0 x5_1).toList ==a1.toList)=true:=beq_iff_eq.mpr c5
    have c5b1:((rdOf ByteArray.empty l0 x5_1).toList != a1.toList)=false:=bne_eq_false_iff_eq.mpr c5
    clear c5
    obtain rfl:=Option.some.inj H
    have p542:0≤(x5_1:Int):=of_decide_eq_true qA
    have q542:x5_1<(l0.length:Int):=of_decide_eq_true qA
    obtain ⟨ad542,e542,hx542_0⟩:=Kd.at_string HR0.out x5_1 p542 q542
    cases e542
    replace p542:=eq_true p542
    replace q542:=eq_true q542
    go_wp2
    go_ret
    exact ⟨qS,qD⟩
   rw [if_neg c5] at H
   have c5b0:((rdOf ByteArray.empty l0 x5_1).toList ==a1.toList)=false:=beq_eq_false_iff_ne.mpr c5
   have c5b1:((rdOf ByteArray.empty l0 x5_1).toList != a1.toList)=true:=bne_iff_ne.mpr c5
   have H':=Aside0.mk H
   clear H
   have p542:0≤(x5_1:Int):=of_decide_eq_true qA
   have q542:x5_1<(l0.length:Int):=of_decide_eq_true qA
   obtain ⟨ad542,e542,hx542_0⟩:=Kd.at_string HR0.out x5_1 p542 q542
   cases e542
   replace p542:=eq_true p542
   replace q542:=eq_true q542
   go_wp2
   go_roundg k1
   case measure=>have:=HK1.out;omega
   case rel=>exact ⟨(wrap64 (x5_1+1)),qS,H',⟨by have:=HK1.out;omega⟩,qD⟩
def ebbtideref03_Only.l0:Nat→List (S93)→List ByteArray→List (S93)→Int→Option ((List (S93)))
 | 0,_,_,_,_=>none
 | k+1,x0,x1,x5,x6=>if x6<(x0.length:Int) then (if 0≤x6 then ((ebbtideref03_has.f k x1 ((rd_T93 x0 x6).f0)).bind fun t544=>(if t544=true then (if x5.length<4398046511104 then (ebbtideref03_Only.l0 k x0 x1 (x5++[(⟨(rd_T93 x0 x6).f0,(rd_T93 x0 x6).f1⟩:S93)]) (wrap64 (x6+1))) else (none)) else (ebbtideref03_Only.l0 k x0 x1 x5 (wrap64 (x6+1))))) else (none)) else (some x5)
def ebbtideref03_Only.f (k:Nat) (l0:List (S93)) (l1:List ByteArray):Option ((List (S93))):=ebbtideref03_Only.l0 k l0 l1 ([]:List (S93)) 0
theorem ebbtideref03_Only.mono_l:∀ k,(∀ y0 y1 y2 y3,LeO (ebbtideref03_Only.l0 k y0 y1 y2 y3) (ebbtideref03_Only.l0 (k+1) y0 y1 y2 y3))
 | 0=>fun _ _ _ _ r h=>by simp [ebbtideref03_Only.l0] at h
 | k+1=>by
  have ih0:=ebbtideref03_Only.mono_l k
  ·intro y0 y1 y2 y3
   unfold ebbtideref03_Only.l0
   repeat' first
   | (with_reducible exact ih0 _ _ _ _)
   | (with_reducible exact ebbtideref03_has.mono _ _ _)
   | (with_reducible exact LeO.refl _)
   | (with_reducible exact LeO.none _)
   | (with_reducible refine LeO.ite ?_ ?_)
   | (with_reducible refine LeO.bind ?_ (fun _=>?_))
   | exact ih0 _ _ _ _
   | exact ebbtideref03_has.mono _ _ _
   | exact LeO.none _
   | refine LeO.ite ?_ ?_
   | refine LeO.bind ?_ (fun _=>?_)
theorem ebbtideref03_Only.mono:∀ a0 a1 k,LeO (ebbtideref03_Only.f k a0 a1) (ebbtideref03_Only.f (k+1) a0 a1):=by
 intro a0 a1 k
 have ih0:=ebbtideref03_Only.mono_l k
 unfold ebbtideref03_Only.f
 repeat' first
   | (with_reducible exact ih0 _ _ _ _)
   | (with_reducible exact ebbtideref03_has.mono _ _ _)
   | (with_reducible exact LeO.refl _)
   | (with_reducible exact LeO.none _)
   | (with_reducible refine LeO.ite ?_ ?_)
   | (with_reducible refine LeO.bind ?_ (fun _=>?_))
   | exact ih0 _ _ _ _
   | exact ebbtideref03_has.mono _ _ _
   | exact LeO.none _
   | refine LeO.ite ?_ ?_
   | refine LeO.bind ?_ (fun _=>?_)
theorem ebbtideref03_Only.calls (k:Nat) (A0:Option Addr) (c0:Nat) (l0:List (S93)) (A1:Option Addr) (c1:Nat) (l1:List ByteArray) (r:List (S93)) (w:World) (hr0:Kd.C k93 w A0 l0.length l0) (hc0:l0.length≤c0) (hr1:Kd.C Kd.string w A1 l1.length l1) (hc1:l1.length≤c1) (h:ebbtideref03_Only.f k l0 l1=some r) :
  Calls Tryz.prog 78 #[.slice A0 l0.length c0, .slice A1 l1.length c1] w fun e w'=>∃ v0_:Value,e = .returned (v0_)∧Kd.R k93 93 w' w.heap.size (fun _=>True) v0_ r∧Below w.heap.size w w':=by
 have hu93:=Tryz.underlying93
 have HR0:=Aside0.mk hr0
 have HC0:=Aside0.mk hc0
 clear hr0 hc0
 have HR1:=Aside0.mk hr1
 have HC1:=Aside0.mk hc1
 clear hr1 hc1
 have HB:=Aside0.mk (Below.refl w.heap.size w)
 have H:(ebbtideref03_Only.l0 k l0 l1 ([]:List (S93)) 0)=some r:=h
 clear h
 have H':=Aside0.mk H
 clear H
 go_enter Tryz.func78,Tryz.ntmps78
 go_wp2
 go_loopg [5,6] k (fun kq v5 v6 w'=>∃ (x5_1:List (S93)) (x6_1:Int),v6 = .int .i64 x6_1∧Aside0 (ebbtideref03_Only.l0 kq l0 l1 x5_1 x6_1=some r)∧Aside0 (kq≤k)∧Aside0 (Kd.R k93 93 w' w.heap.size (fun _=>True) v5 x5_1)∧Aside0 (Below w.heap.size w w'))
 case atStart=>exact ⟨(([]:List (S93))),(0),qS,H',⟨Nat.le_refl _⟩,⟨qN⟩,⟨qB⟩⟩
 case round =>
  clear H'
  obtain ⟨x5_1,x6_1,rfl,HA,HK1,HO_5,HB⟩:=hrel
  cases gk with
  | zero=>exact absurd HA.out (by simp [ebbtideref03_Only.l0])
  | succ k1 =>
   have H:=HA.out
   clear HA
   simp only [ebbtideref03_Only.l0] at H
   by_cases c3:x6_1<(l0.length:Int)
   rotate_left
   ·rw [if_neg c3] at H
    have c3b0:decide (x6_1<(l0.length:Int))=false:=decide_eq_false c3
    clear c3
    obtain rfl:=Option.some.inj H
    go_wp2
    go_ret
    exact ⟨_,qE,qR HO_5,qB⟩
   rw [if_pos c3] at H
   have c3b0:decide (x6_1<(l0.length:Int))=true:=decide_eq_true c3
   clear c3
   by_cases c4:0≤x6_1
   rotate_left
   ·rw [if_neg c4] at H
    exact absurd H (by simp)
   rw [if_pos c4] at H
   have c4b0:decide (0≤x6_1)=true:=decide_eq_true c4
   clear c4
   replace H:=Option.bind_eq_some_iff.mp H
   obtain ⟨t544,A50,H⟩:=H
   replace H:(if t544=true then (if x5_1.length<4398046511104 then (ebbtideref03_Only.l0 k1 l0 l1 (x5_1++[(⟨(rd_T93 l0 x6_1).f0,(rd_T93 l0 x6_1).f1⟩:S93)]) (wrap64 (x6_1+1))) else (none)) else (ebbtideref03_Only.l0 k1 l0 l1 x5_1 (wrap64 (x6_1+1))))=some r:=H
   have A5:=Aside0.mk A50
   clear A50
   by_cases c6:t544=true
   rotate_left
   ·replace c6:=Bool.eq_false_iff.mpr c6
    subst c6
    have H1:(ebbtideref03_Only.l0 k1 l0 l1 x5_1 (wrap64 (x6_1+1)))=some r:=by rw [if_neg (show ¬ (false=true) by decide)] at H;exact H
    clear H
    have H:=H1
    clear H1
    have H':=Aside0.mk H
    clear H
    have p543:0≤(x6_1:Int):=of_decide_eq_true qA
    have q543:x6_1<(l0.length:Int):=of_decide_eq_true qA
    obtain ⟨ad543,e543,hx543_0,hx543_1⟩:=at_T93 HR0.out x6_1 p543 q543
    cases e543
    replace hx543_0:=(HB.out.cell (World.block_lt_of_cell? w _ hx543_0)).trans hx543_0
    replace hx543_1:=(HB.out.cell (World.block_lt_of_cell? w _ hx543_1)).trans hx543_1
    replace p543:=eq_true p543
    replace q543:=eq_true q543
    go_wp2_with (first|((with_reducible refine gate_callee (f:=122) rfl ?_);refine goesL_ (some 19) rfl rfl Tryz.func122 qK rfl #[.slice A1 l1.length c1, .string ((rd_T93 l0 x6_1).f0)] rfl qG ?_;(with_reducible refine (ebbtideref03_has.calls k1 _ _ l1 ((rd_T93 l0 x6_1).f0) false _ ?side1 ?side2 A5.out).mono ?_);(case side1=>repeat (first|exact (Kd.C_below HR1.out HB.out)|(with_reducible refine Kd.C_alloc ?_ _)|(with_reducible refine Kd.C_drewN ?_ _)|(with_reducible refine Kd.C_drew ?_)));(case side2=>exact HC1.out);rintro e w' ⟨rfl,⟨nd,rfl⟩⟩;refine ⟨_,rfl,?_⟩))
    go_roundg k1
    case measure=>have:=HK1.out;omega
    case rel=>exact ⟨(x5_1),(wrap64 (x6_1+1)),qS,H',⟨by have:=HK1.out;omega⟩,⟨qR HO_5⟩,⟨qB⟩⟩
   subst c6
   have H1:(if x5_1.length<4398046511104 then (ebbtideref03_Only.l0 k1 l0 l1 (x5_1++[(⟨(rd_T93 l0 x6_1).f0,(rd_T93 l0 x6_1).f1⟩:S93)]) (wrap64 (x6_1+1))) else (none))=some r:=by rw [if_pos rfl] at H;exact H
   clear H
   have H:=H1
   clear H1
   by_cases c7:x5_1.length<4398046511104
   rotate_left
   ·rw [if_neg c7] at H
    exact absurd H (by simp)
   rw [if_pos c7] at H
   have LMc7:=Aside0.mk c7
   clear c7
   obtain ⟨y546,hy546⟩:∃ y_:List (S93),y_=(x5_1++[(⟨(rd_T93 l0 x6_1).f0,(rd_T93 l0 x6_1).f1⟩:S93)]):=⟨_,rfl⟩
   replace H:(ebbtideref03_Only.l0 k1 l0 l1 y546 (wrap64 (x6_1+1)))=some r:=by first|(rw [hy546];with_reducible exact H)|(have H2_:=(Option.bind_some _ _).symm.trans H;rw [hy546];with_reducible exact H2_)|(have H2_:=(Option.bind_some _ _).symm.trans H;with_reducible exact H2_)|with_reducible exact H|(rw [hy546];exact H)|exact H
   have Ny546:=Aside0.mk hy546
   clear hy546
   have H':=Aside0.mk H
   clear H
   have p543:0≤(x6_1:Int):=of_decide_eq_true qA
   have q543:x6_1<(l0.length:Int):=of_decide_eq_true qA
   obtain ⟨ad543,e543,hx543_0,hx543_1⟩:=at_T93 HR0.out x6_1 p543 q543
   cases e543
   replace hx543_0:=(HB.out.cell (World.block_lt_of_cell? w _ hx543_0)).trans hx543_0
   replace hx543_1:=(HB.out.cell (World.block_lt_of_cell? w _ hx543_1)).trans hx543_1
   replace p543:=eq_true p543
   replace q543:=eq_true q543
   go_wp2_with (first|((with_reducible refine gate_callee (f:=122) rfl ?_);refine goesL_ (some 19) rfl rfl Tryz.func122 qK rfl #[.slice A1 l1.length c1, .string ((rd_T93 l0 x6_1).f0)] rfl qG ?_;(with_reducible refine (ebbtideref03_has.calls k1 _ _ l1 ((rd_T93 l0 x6_1).f0) true _ ?side1 ?side2 A5.out).mono ?_);(case side1=>repeat (first|exact (Kd.C_below HR1.out HB.out)|(with_reducible refine Kd.C_alloc ?_ _)|(with_reducible refine Kd.C_drewN ?_ _)|(with_reducible refine Kd.C_drew ?_)));(case side2=>exact HC1.out);rintro e w' ⟨rfl,⟨nd,rfl⟩⟩;refine ⟨_,rfl,?_⟩;have p545:0≤(x6_1:Int):=of_decide_eq_true qA;have q545:x6_1<(l0.length:Int):=of_decide_eq_true qA;obtain ⟨ad545,e545,hx545_0,hx545_1⟩:=at_T93 HR0.out x6_1 p545 q545;obtain rfl:ad543=ad545:=(by injection e545);replace hx545_0:=(HB.out.cell (World.block_lt_of_cell? w _ hx545_0)).trans hx545_0;replace hx545_1:=(HB.out.cell (World.block_lt_of_cell? w _ hx545_1)).trans hx545_1;replace p545:=eq_true p545;replace q545:=eq_true q545)|((with_reducible refine gate_builtin (b := .append) (xs:=#[.tmp 20, .tmp 25]) rfl ?_);at_builtin;refine Kd.R_append k93 (w0:=w) w.heap.size rfl (.tmp 20) (.tmp 25) 34 93 (.agg #[(.string ⟨#[]⟩),(.string ⟨#[]⟩)]) 32 rfl Tryz.underlying34 info93 rfl (by decide) (by omega) u5 x5_1 (⟨(rd_T93 l0 x6_1).f0,(rd_T93 l0 x6_1).f1⟩:S93) [.string ((rd_T93 l0 x6_1).f0), .string ((rd_T93 l0 x6_1).f1)] (fun _=>True) (fun _=>False) rfl rfl ?aP (fun _ hk=>hk.elim) ?aF ?aO ?aB ?aS ?aL ?_;(case aP=>exact k93_mkM _ _ _ (⟨(rd_T93 l0 x6_1).f0,(rd_T93 l0 x6_1).f1⟩:S93));(case aB=>exact qB);(case aF=>exact (fun _ _=>trivial));(case aO=>exact (qR HO_5));(case aS=>exact (below_size qB));(case aL=>have:=LMc7.out;omega);intro v547 w8 ho hb hg hat;rw [← Ny546.out] at ho;replace HB:=Aside0.mk hb;have HO548:=Aside0.mk ho;clear HO_5;clear ho hb hg hat))
   go_roundg k1
   case measure=>have:=HK1.out;omega
   case rel=>exact ⟨(y546),(wrap64 (x6_1+1)),qS,H',⟨by have:=HK1.out;omega⟩,⟨qR HO548⟩,⟨qB⟩⟩
end Go.Proofs.YteaadaaghhojfaaGreatDoor.PQu
