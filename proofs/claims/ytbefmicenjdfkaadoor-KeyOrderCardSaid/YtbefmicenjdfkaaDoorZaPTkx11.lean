import Derived.Test.YtbefmicenjdfkaaDoorZaPTkx0
import Derived.Test.YtbefmicenjdfkaaDoorZaPTkx3
import Derived.Test.YtbefmicenjdfkaaDoorZaPTkx4
import Derived.Test.YtbefmicenjdfkaaDoorZaPTkx6
import Derived.Test.YtbefmicenjdfkaaDoorZaPTkx7
import Derived.Test.YtbefmicenjdfkaaDoorZaPTkx8
import Derived.Test.YtbefmicenjdfkaaDoorZaPTkx9
import Derived.Test.YtbefmicenjdfkaaDoorZaPTkx10
namespace Go.Proofs.YtbefmicenjdfkaaDoor.PTk
open Go.RowKit Go.Proofs.YtbefmicenjdfkaaDoorW.PrintWords Go.Proofs.YtbefmicenjdfkaaDoorW.PrintLast Go.Proofs.YtbefmicenjdfkaaDoorW.PrintMore
attribute [local go_sem] max2_int min2_int max_two min_two max_three min_three max_four min_four
set_option linter.unusedVariables false
set_option linter.unusedSimpArgs false
def ebbtideref03_Parse.l0:Nat→List (S52)→List ByteArray→Int→Option ((List (S52))×Int)
 | 0,_,_,_=>none
 | k+1,x4,x5,x6=>if x6<(x5.length:Int) then (if 0≤x6 then ((ebbtideref02_Split.f k (rdOf ByteArray.empty x5 x6) 61).bind fun t337=>(if (t337.length:Int)<2 then (some (([]:List (S52)),2)) else (if 0<(t337.length:Int) then (if 1≤(t337.length:Int) then ((ebbtideref02_Join.f k (⟨#[61]⟩:ByteArray) (t337.drop 1)).bind fun t345=>(if x4.length<4398046511104 then (ebbtideref03_Parse.l0 k (x4++[(⟨rdOf ByteArray.empty t337 0,t345⟩:S52)]) x5 (wrap64 (x6+1))) else (none))) else (none)) else (none)))) else (none)) else ((ebbtideref03_Canon.f k x4).bind fun bt332=>(some (bt332.1,bt332.2)))
def ebbtideref03_Parse.f (k:Nat) (a0:ByteArray):Option ((List (S52))×Int):=if a0.toList=([]:List UInt8) then (some (([]:List (S52)),0)) else ((ebbtideref02_Split.f k a0 44).bind fun t329=>(ebbtideref03_Parse.l0 k ([]:List (S52)) t329 0))
theorem ebbtideref03_Parse.mono_l:∀ k,(∀ y0 y1 y2,LeO (ebbtideref03_Parse.l0 k y0 y1 y2) (ebbtideref03_Parse.l0 (k+1) y0 y1 y2))
 | 0=>fun _ _ _ r h=>by simp [ebbtideref03_Parse.l0] at h
 | k+1=>by
  have ih0:=ebbtideref03_Parse.mono_l k
  ·intro y0 y1 y2
   unfold ebbtideref03_Parse.l0
   repeat' first
   | (with_reducible exact ih0 _ _ _)
   | (with_reducible exact ebbtideref02_Join.mono _ _ _)
   | (with_reducible exact ebbtideref02_Split.mono _ _ _)
   | (with_reducible exact ebbtideref03_Canon.mono _ _)
   | (with_reducible exact LeO.refl _)
   | (with_reducible exact LeO.none _)
   | (with_reducible refine LeO.ite ?_ ?_)
   | (with_reducible refine LeO.bind ?_ (fun _=>?_))
   | exact ih0 _ _ _
   | exact ebbtideref02_Join.mono _ _ _
   | exact ebbtideref02_Split.mono _ _ _
   | exact ebbtideref03_Canon.mono _ _
   | exact LeO.none _
   | refine LeO.ite ?_ ?_
   | refine LeO.bind ?_ (fun _=>?_)
theorem ebbtideref03_Parse.mono:∀ a0 k,LeO (ebbtideref03_Parse.f k a0) (ebbtideref03_Parse.f (k+1) a0):=by
 intro a0 k
 have ih0:=ebbtideref03_Parse.mono_l k
 unfold ebbtideref03_Parse.f
 repeat' first
   | (with_reducible exact ih0 _ _ _)
   | (with_reducible exact ebbtideref02_Join.mono _ _ _)
   | (with_reducible exact ebbtideref02_Split.mono _ _ _)
   | (with_reducible exact ebbtideref03_Canon.mono _ _)
   | (with_reducible exact LeO.refl _)
   | (with_reducible exact LeO.none _)
   | (with_reducible refine LeO.ite ?_ ?_)
   | (with_reducible refine LeO.bind ?_ (fun _=>?_))
   | exact ih0 _ _ _
   | exact ebbtideref02_Join.mono _ _ _
   | exact ebbtideref02_Split.mono _ _ _
   | exact ebbtideref03_Canon.mono _ _
   | exact LeO.none _
   | refine LeO.ite ?_ ?_
   | refine LeO.bind ?_ (fun _=>?_)
def ebbtideref03_Parse.T11:Bool×List (List Nat×List Nat):=(true,[([],[]),([],[]),([1],[1]),([2],[2]),([],[]),([4],[4]),([5],[5]),([3,6],[3,6]),([7],[7]),([0,8,6],[0,8]),([9,9,0,1,2,3,4,5,6,7,8,9],[0,9])])
def ebbtideref03_Parse.B11:List Nat:=[0,0,2,6,0,16,48,126,254,511,1023]
theorem ebbtideref03_Parse.tab11:rtab .any (opsOf Tryd.f26 11)=ebbtideref03_Parse.T11:=by kernel_rfl
theorem ebbtideref03_Parse.bits11:waitsOk ebbtideref03_Parse.T11.2 ebbtideref03_Parse.B11=true:=by kernel_rfl
set_option maxHeartbeats 8000000 in
set_option maxRecDepth 100000 in
theorem ebbtideref03_Parse.calls (k:Nat) (a0:ByteArray) (r1:List (S52)) (r2:Int) (w:World) (h:ebbtideref03_Parse.f k a0=some (r1,r2)) :
  Calls Tryd.prog 26 #[.string a0] w fun e w'=>∃ v0_:Value,e = .returned (.tuple #[v0_, .int .i64 r2])∧Kd.R k52 52 w' w.heap.size (fun _=>True) v0_ r1∧Below w.heap.size w w':=by
 have hu52:=Tryd.underlying52
 have HB:=Aside0.mk (Below.refl w.heap.size w)
 have H:(if a0.toList=([]:List UInt8) then (some (([]:List (S52)),0)) else ((ebbtideref02_Split.f k a0 44).bind fun t329=>(ebbtideref03_Parse.l0 k ([]:List (S52)) t329 0)))=some (r1,r2):=h
 clear h
 by_cases c2:a0.toList=([]:List UInt8)
 ·rw [if_pos c2] at H
  have c2b0:(a0.toList ==([]:List UInt8))=true:=beq_iff_eq.mpr c2
  have c2b1:(a0.toList != ([]:List UInt8))=false:=bne_eq_false_iff_eq.mpr c2
  clear c2
  simp only [Option.some.injEq,Prod.mk.injEq] at H
  obtain ⟨rfl,rfl⟩:=H
  go_enter Tryd.func26,Tryd.ntmps26
  go_wp2
  go_ret2
  exact ⟨_,by first|rfl|(simp [errW_none,errW_some]<;>rfl)|(simp [*,errW_none,errW_some]<;>rfl),by first|exact Kd.R_nil _ _ _ _ _|exact Kd.N_nil _ _ _ _ _|exact Kd.V_nil _ _ _ _ _|exact Kd.Q_nil _ _ _ _ _|exact Kd.S_nil _ _ _ _ _,by repeat (first|(with_reducible first|exact HB.out|apply below_alloc|apply pw_below_drewN|apply below_drew1)|exact HB.out)⟩
 ·rw [if_neg c2] at H
  have c2b0:(a0.toList ==([]:List UInt8))=false:=beq_eq_false_iff_ne.mpr c2
  have c2b1:(a0.toList != ([]:List UInt8))=true:=bne_iff_ne.mpr c2
  replace H:=Option.bind_eq_some_iff.mp H
  obtain ⟨t329,A30,H⟩:=H
  replace H:(ebbtideref03_Parse.l0 k ([]:List (S52)) t329 0)=some (r1,r2):=H
  have A3:=Aside0.mk A30
  clear A30
  have H':=Aside0.mk H
  clear H
  go_enter Tryd.func26,Tryd.ntmps26
  go_wp2_with (first|((with_reducible refine gate_callee (f:=52) rfl ?_);refine goesL_ (some 11) rfl rfl Tryd.func52 (by kernel_rfl) rfl #[.string a0, .int .u8 44] rfl (by (try simp only [List.map_toArray,List.map_cons,List.map_nil]);first|done|rfl|(simp only [List.length_drop,List.length_take];rfl)) ?_;(with_reducible refine (ebbtideref02_Split.calls k a0 44 t329 _ A3.out).mono ?_);rintro e w4 ⟨v330,rfl,ho0,hb⟩;refine ⟨_,rfl,?_⟩;have n0_:=Aside0.mk (Kd.R_lower ho0 (below_size (by repeat (first|(with_reducible first|exact HB.out|apply below_alloc|apply pw_below_drewN|apply below_drew1)|exact HB.out))));have n1_:=Aside0.mk (below_step (by repeat (first|(with_reducible first|exact HB.out|apply below_alloc|apply pw_below_drewN|apply below_drew1)|exact HB.out)) hb);clear HB;have HO331:=n0_;have HB:=n1_;clear n0_ n1_;(try clear hb);(try clear hb2);(try clear hk);(try clear hi);(try clear ho0)))
  go_loopg [4,6] k (fun kq v4 v6 w'=>∃ (x4_1:List (S52)) (x6_1:Int),v6 = .int .i64 x6_1∧Aside0 (ebbtideref03_Parse.l0 kq x4_1 t329 x6_1=some (r1,r2))∧Aside0 (kq≤k)∧Aside0 (Kd.R k52 52 w' w.heap.size (fun _=>True) v4 x4_1)∧Aside0 (Kd.R Kd.string 9 w' w.heap.size (fun _=>True) v330 t329)∧Aside0 (Below w.heap.size w w'))
  case atStart=>exact ⟨(([]:List (S52))),(0),(by first|rfl|(simp;done)|(simp [*];done)),H',⟨Nat.le_refl _⟩,⟨by first|exact Kd.R_nil _ _ _ _ _|exact Kd.N_nil _ _ _ _ _|exact Kd.V_nil _ _ _ _ _|exact Kd.Q_nil _ _ _ _ _|exact Kd.S_nil _ _ _ _ _⟩,⟨by (with_reducible repeat (first|apply Kd.R_alloc|apply Kd.R_drewN|apply Kd.R_drew));exact HO331.out⟩,⟨by repeat (first|(with_reducible first|exact HB.out|apply below_alloc|apply pw_below_drewN|apply below_drew1)|exact HB.out)⟩⟩
  case round =>
   clear H'
   try clear c2
   try clear c2b0
   try clear c2b1
   try clear p2
   obtain ⟨x4_1,x6_1,rfl,HA,HK1,HO_4,HO_5,HB⟩:=hrel
   cases gk with
   | zero=>exact absurd HA.out (by simp [ebbtideref03_Parse.l0])
   | succ k1 =>
    have H:=HA.out
    clear HA
    simp only [ebbtideref03_Parse.l0] at H
    by_cases c5:x6_1<(t329.length:Int)
    ·rw [if_pos c5] at H
     have c5b0:decide (x6_1<(t329.length:Int))=true:=decide_eq_true c5
     clear c5
     by_cases c6:0≤x6_1
     ·rw [if_pos c6] at H
      have c6b0:decide (0≤x6_1)=true:=decide_eq_true c6
      clear c6
      replace H:=Option.bind_eq_some_iff.mp H
      obtain ⟨t337,A70,H⟩:=H
      replace H:(if (t337.length:Int)<2 then (some (([]:List (S52)),2)) else (if 0<(t337.length:Int) then (if 1≤(t337.length:Int) then ((ebbtideref02_Join.f k1 (⟨#[61]⟩:ByteArray) (t337.drop 1)).bind fun t345=>(if x4_1.length<4398046511104 then (ebbtideref03_Parse.l0 k1 (x4_1++[(⟨rdOf ByteArray.empty t337 0,t345⟩:S52)]) t329 (wrap64 (x6_1+1))) else (none))) else (none)) else (none)))=some (r1,r2):=H
      have A7:=Aside0.mk A70
      clear A70
      by_cases c8:(t337.length:Int)<2
      ·rw [if_pos c8] at H
       have c8b0:decide ((t337.length:Int)<2)=true:=decide_eq_true c8
       have c8b1:decide (t337.length<2)=true:=decide_eq_true (by omega)
       clear c8
       simp only [Option.some.injEq,Prod.mk.injEq] at H
       obtain ⟨rfl,rfl⟩:=H
       obtain ⟨Ao9,co9,eo9⟩:=Kd.R_slice HO_5.out
       subst eo9
       have p336:0≤(x6_1:Int):=of_decide_eq_true (by first|(with_reducible assumption)|assumption)
       have q336:x6_1<(t329.length:Int):=of_decide_eq_true (by first|(with_reducible assumption)|assumption)
       obtain ⟨ad336,e336,hx336_0⟩:=Kd.at_string (Kd.R_reads' HO_5.out).2.2 x6_1 p336 q336
       cases e336
       replace p336:=eq_true p336
       replace q336:=eq_true q336
       go_wp2_with (first|((with_reducible refine gate_callee (f:=52) rfl ?_);refine goesL_ (some 22) rfl rfl Tryd.func52 (by kernel_rfl) rfl #[.string (rdOf ByteArray.empty t329 x6_1), .int .u8 61] rfl (by (try simp only [List.map_toArray,List.map_cons,List.map_nil]);first|done|rfl|(simp only [List.length_drop,List.length_take];rfl)) ?_;(with_reducible refine (ebbtideref02_Split.calls k1 (rdOf ByteArray.empty t329 x6_1) 61 t337 _ A7.out).mono ?_);rintro e w10 ⟨v338,rfl,ho0,hb⟩;refine ⟨_,rfl,?_⟩;have n0_:=Aside0.mk (Kd.R_below (by (with_reducible repeat (first|apply Kd.R_alloc|apply Kd.R_drewN|apply Kd.R_drew));exact HO_4.out) hb);have n1_:=Aside0.mk (Kd.R_elder' (by (with_reducible repeat (first|apply Kd.R_alloc|apply Kd.R_drewN|apply Kd.R_drew));exact HO_5.out) (Kd.R_base ho0) hb);have n2_:=Aside0.mk (Kd.R_lower (Kd.R_new' ho0 (Kd.R_lt (by (with_reducible repeat (first|apply Kd.R_alloc|apply Kd.R_drewN|apply Kd.R_drew));exact HO_5.out))) (below_size (by repeat (first|(with_reducible first|exact HB.out|apply below_alloc|apply pw_below_drewN|apply below_drew1)|exact HB.out))));have n3_:=Aside0.mk (below_step (by repeat (first|(with_reducible first|exact HB.out|apply below_alloc|apply pw_below_drewN|apply below_drew1)|exact HB.out)) hb);clear HO_4;clear HO_5;clear HB;have HO_4:=n0_;have HO_5:=n1_;have HO339:=n2_;have HB:=n3_;clear n0_ n1_ n2_ n3_;(try clear hb);(try clear hb2);(try clear hk);(try clear hi);(try clear ho0);obtain ⟨Ao11,co11,eo11⟩:=Kd.R_slice HO339.out;subst eo11))
       go_ret2
       exact ⟨_,by first|rfl|(simp [errW_none,errW_some]<;>rfl)|(simp [*,errW_none,errW_some]<;>rfl),by first|exact Kd.R_nil _ _ _ _ _|exact Kd.N_nil _ _ _ _ _|exact Kd.V_nil _ _ _ _ _|exact Kd.Q_nil _ _ _ _ _|exact Kd.S_nil _ _ _ _ _,by repeat (first|(with_reducible first|exact HB.out|apply below_alloc|apply pw_below_drewN|apply below_drew1)|exact HB.out)⟩
      ·rw [if_neg c8] at H
       have c8b0:decide ((t337.length:Int)<2)=false:=decide_eq_false c8
       have c8b1:decide (t337.length<2)=false:=decide_eq_false (by omega)
       clear c8
       by_cases c12:0<(t337.length:Int)
       ·rw [if_pos c12] at H
        have c12b0:decide (0<(t337.length:Int))=true:=decide_eq_true c12
        have c12b1:decide (0<t337.length)=true:=decide_eq_true (by omega)
        clear c12
        by_cases c13:1≤(t337.length:Int)
        ·rw [if_pos c13] at H
         have c13b0:=eq_true c13
         have c13b1:decide (1≤(t337.length:Int))=true:=decide_eq_true c13
         clear c13
         obtain ⟨y341,hy341⟩:∃ y_:List ByteArray,y_=(t337.drop 1):=⟨_,rfl⟩
         replace H:((ebbtideref02_Join.f k1 (⟨#[61]⟩:ByteArray) y341).bind fun t345=>(if x4_1.length<4398046511104 then (ebbtideref03_Parse.l0 k1 (x4_1++[(⟨rdOf ByteArray.empty t337 0,t345⟩:S52)]) t329 (wrap64 (x6_1+1))) else (none)))=some (r1,r2):=by first|(rw [hy341];with_reducible exact H)|(have H2_:=(Option.bind_some _ _).symm.trans H;rw [hy341];with_reducible exact H2_)|(have H2_:=(Option.bind_some _ _).symm.trans H;with_reducible exact H2_)|with_reducible exact H|(rw [hy341];exact H)|exact H
         have Ny341:=Aside0.mk hy341
         clear hy341
         replace H:=Option.bind_eq_some_iff.mp H
         obtain ⟨t345,A140,H⟩:=H
         replace H:(if x4_1.length<4398046511104 then (ebbtideref03_Parse.l0 k1 (x4_1++[(⟨rdOf ByteArray.empty t337 0,t345⟩:S52)]) t329 (wrap64 (x6_1+1))) else (none))=some (r1,r2):=H
         have A14:=Aside0.mk A140
         clear A140
         by_cases c15:x4_1.length<4398046511104
         ·rw [if_pos c15] at H
          have LMc15:=Aside0.mk c15
          clear c15
          obtain ⟨y346,hy346⟩:∃ y_:List (S52),y_=(x4_1++[(⟨rdOf ByteArray.empty t337 0,t345⟩:S52)]):=⟨_,rfl⟩
          replace H:(ebbtideref03_Parse.l0 k1 y346 t329 (wrap64 (x6_1+1)))=some (r1,r2):=by first|(rw [hy346];with_reducible exact H)|(have H2_:=(Option.bind_some _ _).symm.trans H;rw [hy346];with_reducible exact H2_)|(have H2_:=(Option.bind_some _ _).symm.trans H;with_reducible exact H2_)|with_reducible exact H|(rw [hy346];exact H)|exact H
          have Ny346:=Aside0.mk hy346
          clear hy346
          have H':=Aside0.mk H
          clear H
          obtain ⟨Ao16,co16,eo16⟩:=Kd.R_slice HO_5.out
          subst eo16
          have p336:0≤(x6_1:Int):=of_decide_eq_true (by first|(with_reducible assumption)|assumption)
          have q336:x6_1<(t329.length:Int):=of_decide_eq_true (by first|(with_reducible assumption)|assumption)
          obtain ⟨ad336,e336,hx336_0⟩:=Kd.at_string (Kd.R_reads' HO_5.out).2.2 x6_1 p336 q336
          cases e336
          replace p336:=eq_true p336
          replace q336:=eq_true q336
          try go_wp2_with (first|((with_reducible refine gate_callee (f:=52) rfl ?_);refine goesL_ (some 22) rfl rfl Tryd.func52 (by kernel_rfl) rfl #[.string (rdOf ByteArray.empty t329 x6_1), .int .u8 61] rfl (by (try simp only [List.map_toArray,List.map_cons,List.map_nil]);first|done|rfl|(simp only [List.length_drop,List.length_take];rfl)) ?_;(with_reducible refine (ebbtideref02_Split.calls k1 (rdOf ByteArray.empty t329 x6_1) 61 t337 _ A7.out).mono ?_);rintro e w17 ⟨v338,rfl,ho0,hb⟩;refine ⟨_,rfl,?_⟩;have n0_:=Aside0.mk (Kd.R_below (by (with_reducible repeat (first|apply Kd.R_alloc|apply Kd.R_drewN|apply Kd.R_drew));exact HO_4.out) hb);have n1_:=Aside0.mk (Kd.R_elder' (by (with_reducible repeat (first|apply Kd.R_alloc|apply Kd.R_drewN|apply Kd.R_drew));exact HO_5.out) (Kd.R_base ho0) hb);have n2_:=Aside0.mk (Kd.R_lower (Kd.R_new' ho0 (Kd.R_lt (by (with_reducible repeat (first|apply Kd.R_alloc|apply Kd.R_drewN|apply Kd.R_drew));exact HO_5.out))) (below_size (by repeat (first|(with_reducible first|exact HB.out|apply below_alloc|apply pw_below_drewN|apply below_drew1)|exact HB.out))));have n3_:=Aside0.mk (below_step (by repeat (first|(with_reducible first|exact HB.out|apply below_alloc|apply pw_below_drewN|apply below_drew1)|exact HB.out)) hb);clear HO_4;clear HO_5;clear HB;have HO_4:=n0_;have HO_5:=n1_;have HO339:=n2_;have HB:=n3_;clear n0_ n1_ n2_ n3_;(try clear hb);(try clear hb2);(try clear hk);(try clear hi);(try clear ho0);obtain ⟨Ao18,co18,eo18⟩:=Kd.R_slice HO339.out;subst eo18))
          have n0_:=Aside0.mk (Kd.R_drew HO_4.out)
          have n1_:=Aside0.mk (Kd.R_drew HO_5.out)
          have n2_:=Aside0.mk (Kd.R_drew HO339.out)
          have n3_:=Aside0.mk (below_drew1 HB.out)
          clear HO_4
          clear HO_5
          clear HO339
          clear HB
          have HO_4:=n0_
          have HO_5:=n1_
          have HO339:=n2_
          have HB:=n3_
          clear n0_ n1_ n2_ n3_
          have p340:0≤(0:Int):=(by omega)
          have q340:0<(t337.length:Int):=of_decide_eq_true (by first|(with_reducible assumption)|assumption)
          obtain ⟨ad340,e340,hx340_0⟩:=Kd.at_string (Kd.R_reads' HO339.out).2.2 0 p340 q340
          cases e340
          have qi340:(0<t337.length)=True:=eq_true (by omega)
          (try rw [show ((0:Int)).toNat=0 from rfl] at hx340_0)
          (try rw [Addr.add_zero'] at hx340_0)
          replace p340:=eq_true p340
          replace q340:=eq_true q340
          have q20:(1:Int)≤((t337.length:Int):Int):=of_decide_eq_true (by first|(with_reducible assumption)|assumption)
          obtain ⟨i020,hi020,_,hsz20,_⟩:=info_parts info9
          have hroom20:t337.length≤co18:=(Kd.R_reads' HO339.out).2.1
          have hC20:Kd.C Kd.string _ (some ad340) t337.length t337:=(Kd.R_reads' HO339.out).2.2
          have hcut20:=cut_from (P:=Tryd.prog) 23 9 .i64 Tryd.underlying23 hi020 1 hsz20 (some ad340) t337.length co18 1 (by omega) q20
          have hr20:=Kd.C_drop (m:=(1:Int).toNat) (c:=co18) hC20 (by omega) hroom20
          obtain ⟨A20,hA20⟩:∃ A1,A1=(if co18=(1:Int).toNat then (some ad340) else ((some ad340):Option Addr).map (·.add ((1:Int).toNat * 1))):=⟨_,rfl⟩
          obtain ⟨c20,hc20⟩:∃ c1,c1=co18 - (1:Int).toNat:=⟨_,rfl⟩
          have hy20:y341.length=t337.length - (1:Int).toNat:=(by rw [Ny341.out,List.length_drop]<;>omega)
          rw [show (t337).drop (1:Int).toNat=y341 from Ny341.out.symm] at hr20
          replace hr20:Kd.C Kd.string _ A20 y341.length y341:=(by rw [hA20];exact hr20)
          rw [← hy20,← hA20,← hc20] at hcut20
          have HR344:=Aside0.mk hr20
          have HC344:=Aside0.mk (show y341.length≤c20 from by rw [hy20,hc20];exact Nat.sub_le_sub_right hroom20 _)
          clear hr20 hC20 hroom20 hi020 hsz20 hc20
          have KY20:=Aside0.mk hy20
          have KA20:=Aside0.mk hA20
          clear hy20 hA20
          have KL20:=Aside0.mk (show 1≤t337.length from by omega)
          replace q20:=eq_true q20
          refine start_ (n:=11) (S:=fun w'=>w'.cell? ad340=some (.string (rdOf ByteArray.empty t337 0))) (ds:=[8,9]) #[false,false,false,false,false,false,false,false,false,false,false] (by kernel_rfl) rfl rfl (hx340_0) (fun hHeld=>?_);refine with_tabW ebbtideref03_Parse.tab11 ebbtideref03_Parse.bits11 (fun HT_ HW_=>?_)
          generalize w17.drew=w19 at HO_4 HO_5 HO339 HB HR344 hx340_0 hHeld ⊢
          refine pure_ (i:=0) (N:=some 26) (v:=?_) (a':=?_) #[true,false,false,false,false,false,false,false,false,false,false] rfl rfl (any_of HT_.out (by kernel_rfl)) (fun _ _ _ h=>h) (Or.inl ⟨by rfl,?_⟩) ?_ ?_
          rotate_left
          ·intro w';go_simp;with_reducible rfl
          rotate_left
          ·simp only [Act.put,List.setIfInBounds_toArray,List.set_cons_zero,List.set_cons_succ,i64_w,i32_w];rfl
          refine pure_ (i:=1) (N:=some 27) (v:=?_) (a':=?_) #[true,true,false,false,false,false,false,false,false,false,false] rfl rfl (any_of HT_.out (by kernel_rfl)) (fun _ _ _ h=>h) (Or.inl ⟨by rfl,?_⟩) ?_ ?_
          rotate_left
          ·intro w';go_simp;with_reducible rfl
          rotate_left
          ·simp only [Act.put,List.setIfInBounds_toArray,List.set_cons_zero,List.set_cons_succ,i64_w,i32_w];rfl
          refine pure_ (i:=2) (N:=some 28) (v:=?_) (a':=?_) #[true,true,true,false,false,false,false,false,false,false,false] rfl rfl (any_of HT_.out (by kernel_rfl)) (fun _ _ _ h=>h) (Or.inl ⟨by rfl,?_⟩) ?_ ?_
          rotate_left
          ·intro w';go_simp;with_reducible rfl
          rotate_left
          ·simp only [Act.put,List.setIfInBounds_toArray,List.set_cons_zero,List.set_cons_succ,i64_w,i32_w];rfl
          refine pure_ (i:=4) (N:=some 30) (v:=?_) (a':=?_) #[true,true,true,false,true,false,false,false,false,false,false] rfl rfl (any_of HT_.out (by kernel_rfl)) (fun _ _ _ h=>h) (Or.inl ⟨by rfl,?_⟩) ?_ ?_
          rotate_left
          ·intro w';go_simp;with_reducible rfl
          rotate_left
          ·simp only [Act.put,List.setIfInBounds_toArray,List.set_cons_zero,List.set_cons_succ,i64_w,i32_w];rfl
          refine pure_ (i:=5) (N:=some 31) (v:=?_) (a':=?_) #[true,true,true,false,true,true,false,false,false,false,false] rfl rfl (any_of HT_.out (by kernel_rfl)) (fun _ _ _ h=>h) (Or.inl ⟨by rfl,?_⟩) ?_ ?_
          rotate_left
          ·intro w';go_simp;with_reducible rfl
          rotate_left
          ·simp only [Act.put,List.setIfInBounds_toArray,List.set_cons_zero,List.set_cons_succ,i64_w,i32_w];rfl
          refine take_ (i:=3) (N:=some 29) (v:=?_) (a':=?_) #[true,true,true,true,true,true,false,false,false,false,false] rfl rfl (take_ofW HT_.out HW_.out (by kernel_rfl)) (fun _ _ _ h=>h) (Or.inl ⟨by rfl,?_⟩) hHeld ?_ ?_
          rotate_left
          ·intro w' s0
           go_simp
           with_reducible rfl
          rotate_left
          ·simp only [Act.put,List.setIfInBounds_toArray,List.set_cons_zero,List.set_cons_succ,i64_w,i32_w];rfl
          refine one_ (i:=6) (N:=some 32) #[true,true,true,true,true,true,true,false,false,false,false] rfl rfl (one_of HT_.out (by kernel_rfl)) (by decide) (fun K hK=>?_)
          refine goes_ Tryd.func47 (by kernel_rfl) rfl #[.string (⟨#[61]⟩:ByteArray), .slice A20 y341.length c20] (by rfl) rfl rfl (by (try simp only [List.map_toArray,List.map_cons,List.map_nil]);first|done|rfl|(simp only [List.length_drop,List.length_take];rfl)) ?_
          with_reducible refine (ebbtideref02_Join.calls k1 (⟨#[61]⟩:ByteArray) _ _ y341 t345 _ ?side1 ?side2 A14.out).mono ?_
          (case side1=>repeat (first|exact (by repeat (first|(with_reducible exact HR344.out)|(with_reducible refine Kd.C_alloc ?_ _)|(with_reducible refine Kd.C_drewN ?_ _)|(with_reducible refine Kd.C_drew ?_)|exact HR344.out))|(with_reducible refine Kd.C_alloc ?_ _)|(with_reducible refine Kd.C_drewN ?_ _)|(with_reducible refine Kd.C_drew ?_)))
          (case side2=>exact HC344.out)
          rintro e w' ⟨rfl,⟨nd,rfl⟩⟩
          refine ⟨_,rfl,?_⟩
          refine hK.out _ _ (hHeld) (fun hHeld=>?_)
          clear hK K
          refine norm_ (a':=?_) ?_ ?_
          rotate_left
          ·show Act.put _ (some 32) _=_
           simp only [Act.put,List.setIfInBounds_toArray,List.set_cons_zero,List.set_cons_succ,i64_w,i32_w]
           rfl
          refine pure_ (i:=7) (N:=some 33) (v:=?_) (a':=?_) #[true,true,true,true,true,true,true,true,false,false,false] rfl rfl (any_of HT_.out (by kernel_rfl)) (fun _ _ _ h=>h) (Or.inl ⟨by rfl,?_⟩) ?_ ?_
          rotate_left
          ·intro w';go_simp;with_reducible rfl
          rotate_left
          ·simp only [Act.put,List.setIfInBounds_toArray,List.set_cons_zero,List.set_cons_succ,i64_w,i32_w];rfl
          refine last_ (i:=8) (N:=some 34) #[true,true,true,true,true,true,true,true,true,false,false] rfl rfl (one_of HT_.out (by kernel_rfl)) (by decide) (fun K hK=>?_)
          refine value_ (w1:=?_) (v:=?_) (by rfl) rfl ?_ ?_
          rotate_left 2
          ·go_simp
           constructor
           ·rfl
           ·rfl
          refine hK.out _ _ ?_
          clear hK K
          refine norm_ (a':=?_) ?_ ?_
          rotate_left
          ·show Act.put _ (some 34) _=_
           simp only [Act.put,List.setIfInBounds_toArray,List.set_cons_zero,List.set_cons_succ,i64_w,i32_w]
           rfl
          refine last_ (i:=9) (N:=some 35) #[true,true,true,true,true,true,true,true,true,true,false] rfl rfl (one_of HT_.out (by kernel_rfl)) (by decide) (fun K hK=>?_)
          refine Kd.R_append_step k52 (w0:=w) w.heap.size (by rfl) (.tmp 26) (.tmp 34) 22 52 (.agg #[(.string ⟨#[]⟩),(.string ⟨#[]⟩)]) 32 rfl Tryd.underlying22 info52 rfl (by decide) (by omega) u4 x4_1 (⟨rdOf ByteArray.empty t337 0,t345⟩:S52) [.string (rdOf ByteArray.empty t337 0), .string t345] (fun _=>True) (fun _=>False) rfl rfl ?aP (fun _ hk=>hk.elim) ?aF ?aO ?aB ?aS ?aL ?_
          (case aP=>exact k52_mkM _ _ _ (⟨rdOf ByteArray.empty t337 0,t345⟩:S52))
          (case aB=>exact (by repeat (first|(with_reducible first|exact HB.out|apply below_alloc|apply pw_below_drewN|apply below_drew1)|exact HB.out)))
          (case aF=>exact (fun _ _=>trivial))
          (case aO=>exact (by (with_reducible repeat (first|apply Kd.R_alloc|apply Kd.R_drewN|apply Kd.R_drew));exact HO_4.out))
          (case aS=>exact (below_size (by repeat (first|(with_reducible first|exact HB.out|apply below_alloc|apply pw_below_drewN|apply below_drew1)|exact HB.out))))
          (case aL=>have:=LMc15.out;omega)
          intro v347 w21 ho hb hg hat
          rw [← Ny346.out] at ho
          have n0_:=Aside0.mk (Kd.R_over' (by (with_reducible repeat (first|apply Kd.R_alloc|apply Kd.R_drewN|apply Kd.R_drew));exact HO_5.out) (Kd.R_typed (by (with_reducible repeat (first|apply Kd.R_alloc|apply Kd.R_drewN|apply Kd.R_drew));exact HO_4.out)) (by decide) hg)
          have n1_:=Aside0.mk (Kd.R_over' (by (with_reducible repeat (first|apply Kd.R_alloc|apply Kd.R_drewN|apply Kd.R_drew));exact HO339.out) (Kd.R_typed (by (with_reducible repeat (first|apply Kd.R_alloc|apply Kd.R_drewN|apply Kd.R_drew));exact HO_4.out)) (by decide) hg)
          have n2_:=Aside0.mk (hb)
          have n3_:=Aside0.mk ((show Kd.C Kd.string w21 A20 y341.length y341 from by rw [Ny341.out,KA20.out];exact Kd.C_drop (m:=1) (c:=co18) ((Kd.R_reads' (Kd.R_over' (by (with_reducible repeat (first|apply Kd.R_alloc|apply Kd.R_drewN|apply Kd.R_drew));exact HO339.out) (Kd.R_typed (by (with_reducible repeat (first|apply Kd.R_alloc|apply Kd.R_drewN|apply Kd.R_drew));exact HO_4.out)) (by decide) hg)).2.2) KL20.out ((Kd.R_reads' (Kd.R_over' (by (with_reducible repeat (first|apply Kd.R_alloc|apply Kd.R_drewN|apply Kd.R_drew));exact HO339.out) (Kd.R_typed (by (with_reducible repeat (first|apply Kd.R_alloc|apply Kd.R_drewN|apply Kd.R_drew));exact HO_4.out)) (by decide) hg)).2.1)))
          have n4_:=Aside0.mk (ho)
          clear HO_5
          clear HO339
          clear HB
          clear HR344
          clear HO_4
          have HO_5:=n0_
          have HO339:=n1_
          have HB:=n2_
          have HR344:=n3_
          have HO348:=n4_
          clear n0_ n1_ n2_ n3_ n4_
          clear ho hb hg hat
          refine hK.out _ _ ?_
          clear hK K
          refine norm_ (a':=?_) ?_ ?_
          rotate_left
          ·show Act.put _ (some 35) _=_
           simp only [Act.put,List.setIfInBounds_toArray,List.set_cons_zero,List.set_cons_succ,i64_w,i32_w]
           rfl
          refine pure_ (i:=10) (N:=some 4) (v:=?_) (a':=?_) #[true,true,true,true,true,true,true,true,true,true,true] rfl rfl (any_of HT_.out (by kernel_rfl)) (fun _ _ _ h=>h) (Or.inl ⟨by rfl,?_⟩) ?_ ?_
          rotate_left
          ·intro w';go_simp;with_reducible rfl
          rotate_left
          ·simp only [Act.put,List.setIfInBounds_toArray,List.set_cons_zero,List.set_cons_succ,i64_w,i32_w];rfl
          refine done_ (done_of HT_.out (by kernel_rfl)) ?_
          try go_wp2
          go_roundg k1
          case measure=>have:=HK1.out;omega
          case rel=>exact ⟨(y346),(wrap64 (x6_1+1)),(by first|rfl|(simp;done)|(simp [*];done)),H',⟨by have:=HK1.out;omega⟩,⟨by (with_reducible repeat (first|apply Kd.R_alloc|apply Kd.R_drewN|apply Kd.R_drew));exact HO348.out⟩,⟨by (with_reducible repeat (first|apply Kd.R_alloc|apply Kd.R_drewN|apply Kd.R_drew));exact Kd.R_mono HO_5.out (fun _ hk=>trivial)⟩,⟨by repeat (first|(with_reducible first|exact HB.out|apply below_alloc|apply pw_below_drewN|apply below_drew1)|exact HB.out)⟩⟩
         ·rw [if_neg c15] at H
          exact absurd H (by simp)
        ·rw [if_neg c13] at H
         exact absurd H (by simp)
       ·rw [if_neg c12] at H
        exact absurd H (by simp)
     ·rw [if_neg c6] at H
      exact absurd H (by simp)
    ·rw [if_neg c5] at H
     have c5b0:decide (x6_1<(t329.length:Int))=false:=decide_eq_false c5
     clear c5
     replace H:=Option.bind_eq_some_iff.mp H
     obtain ⟨⟨t332,t333⟩,A220,H⟩:=H
     replace H:(some (t332,t333))=some (r1,r2):=H
     have A22:=Aside0.mk A220
     clear A220
     simp only [Option.some.injEq,Prod.mk.injEq] at H
     obtain ⟨rfl,rfl⟩:=H
     obtain ⟨Ao23,co23,eo23⟩:=Kd.R_slice HO_5.out
     subst eo23
     obtain ⟨Ao24,co24,eo24⟩:=Kd.R_slice HO_4.out
     subst eo24
     go_wp2_with (first|((with_reducible refine gate_callee (f:=15) rfl ?_);refine goesL_ (some 37) rfl rfl Tryd.func15 (by kernel_rfl) rfl #[.slice Ao24 x4_1.length co24] rfl (by (try simp only [List.map_toArray,List.map_cons,List.map_nil]);first|done|rfl|(simp only [List.length_drop,List.length_take];rfl)) ?_;(with_reducible refine (ebbtideref03_Canon.calls k1 _ _ x4_1 t332 t333 _ ?side1 ?side2 A22.out).mono ?_);(case side1=>repeat (first|exact (Kd.R_reads' HO_4.out).2.2|(with_reducible refine Kd.C_alloc ?_ _)|(with_reducible refine Kd.C_drewN ?_ _)|(with_reducible refine Kd.C_drew ?_)));(case side2=>exact (Kd.R_reads' HO_4.out).2.1);rintro e w25 ⟨v334,rfl,ho0,hb⟩;refine ⟨_,rfl,?_⟩;have n0_:=Aside0.mk (Kd.R_elder' (by (with_reducible repeat (first|apply Kd.R_alloc|apply Kd.R_drewN|apply Kd.R_drew));exact HO_4.out) (Kd.R_base ho0) hb);have n1_:=Aside0.mk (Kd.R_below (by (with_reducible repeat (first|apply Kd.R_alloc|apply Kd.R_drewN|apply Kd.R_drew));exact HO_5.out) hb);have n2_:=Aside0.mk (Kd.R_lower (Kd.R_new' ho0 (Kd.R_lt (by (with_reducible repeat (first|apply Kd.R_alloc|apply Kd.R_drewN|apply Kd.R_drew));exact HO_4.out))) (below_size (by repeat (first|(with_reducible first|exact HB.out|apply below_alloc|apply pw_below_drewN|apply below_drew1)|exact HB.out))));have n3_:=Aside0.mk (below_step (by repeat (first|(with_reducible first|exact HB.out|apply below_alloc|apply pw_below_drewN|apply below_drew1)|exact HB.out)) hb);clear HO_4;clear HO_5;clear HB;have HO_4:=n0_;have HO_5:=n1_;have HO335:=n2_;have HB:=n3_;clear n0_ n1_ n2_ n3_;(try clear hb);(try clear hb2);(try clear hk);(try clear hi);(try clear ho0)))
     go_ret2
     exact ⟨_,by first|rfl|(simp [errW_none,errW_some]<;>rfl)|(simp [*,errW_none,errW_some]<;>rfl),by (with_reducible repeat (first|apply Kd.R_alloc|apply Kd.R_drewN|apply Kd.R_drew));exact Kd.R_mono HO335.out (fun _ hk=>trivial),by repeat (first|(with_reducible first|exact HB.out|apply below_alloc|apply pw_below_drewN|apply below_drew1)|exact HB.out)⟩
mutual
def ebbtidelaw03_TagBack.j0:Nat→List (S52)→ByteArray→Bool→Option (Bool)
 | 0,_,_,_=>none
 | k+1,x0,x1,x19=>if x19=true then (some true) else ((ebbtideref03_Right.f k x0).bind fun t361=>(if t361=true then ((tag_Text.f k x0).bind fun t362=>((tag_Parse.f k t362).bind fun bt363=>(if bt363.2=0 then ((ebbtideref03_Same.f k bt363.1 x0).bind fun t367=>(if t367=true then (ebbtidelaw03_TagBack.j1 k x1) else (none))) else (none)))) else (ebbtidelaw03_TagBack.j1 k x1)))
def ebbtidelaw03_TagBack.j1:Nat→ByteArray→Option (Bool)
 | 0,_=>none
 | k+1,x1=>(tag_Parse.f k x1).bind fun bt368=>(if bt368.2=0 then ((tag_Text.f k bt368.1).bind fun t372=>((tag_Parse.f k t372).bind fun bt373=>((tag_Right.f k bt368.1).bind fun t377=>(if t377=true then (if bt373.2=0 then ((ebbtideref03_Same.f k bt373.1 bt368.1).bind fun t378=>(some t378)) else (none)) else (none))))) else (some ((bt368.1.length:Int) ==0)))
end
def ebbtidelaw03_TagBack.f (k:Nat) (l0:List (S52)) (a1:ByteArray):Option (Bool):=(ebbtidelaw03_alive.f k).bind fun t359=>(if t359=true then ((ebbtideref03_Great.f k l0).bind fun t360=>(if t360=true then (ebbtidelaw03_TagBack.j0 k l0 a1 true) else (ebbtidelaw03_TagBack.j0 k l0 a1 (decide ((a1.size:Int)>500))))) else (none))
theorem ebbtidelaw03_TagBack.mono_l:∀ k,(∀ y0 y1 y2,LeO (ebbtidelaw03_TagBack.j0 k y0 y1 y2) (ebbtidelaw03_TagBack.j0 (k+1) y0 y1 y2))∧(∀ y0,LeO (ebbtidelaw03_TagBack.j1 k y0) (ebbtidelaw03_TagBack.j1 (k+1) y0))
 | 0=>⟨fun _ _ _ r h=>by simp [ebbtidelaw03_TagBack.j0] at h,fun _ r h=>by simp [ebbtidelaw03_TagBack.j1] at h⟩
 | k+1=>by
  obtain ⟨ih0,ih1⟩:=ebbtidelaw03_TagBack.mono_l k
  refine ⟨?_,?_⟩
  ·intro y0 y1 y2
   unfold ebbtidelaw03_TagBack.j0
   repeat' first
   | (with_reducible exact ih0 _ _ _)
   | (with_reducible exact ih1 _)
   | (with_reducible exact ebbtidelaw03_alive.mono _)
   | (with_reducible exact ebbtideref03_Great.mono _ _)
   | (with_reducible exact ebbtideref03_Right.mono _ _)
   | (with_reducible exact ebbtideref03_Same.mono _ _ _)
   | (with_reducible exact tag_Parse.mono _ _)
   | (with_reducible exact tag_Right.mono _ _)
   | (with_reducible exact tag_Text.mono _ _)
   | (with_reducible exact LeO.refl _)
   | (with_reducible exact LeO.none _)
   | (with_reducible refine LeO.ite ?_ ?_)
   | (with_reducible refine LeO.bind ?_ (fun _=>?_))
   | exact ih0 _ _ _
   | exact ih1 _
   | exact ebbtidelaw03_alive.mono _
   | exact ebbtideref03_Great.mono _ _
   | exact ebbtideref03_Right.mono _ _
   | exact ebbtideref03_Same.mono _ _ _
   | exact tag_Parse.mono _ _
   | exact tag_Right.mono _ _
   | exact tag_Text.mono _ _
   | exact LeO.none _
   | refine LeO.ite ?_ ?_
   | refine LeO.bind ?_ (fun _=>?_)
  ·intro y0
   unfold ebbtidelaw03_TagBack.j1
   repeat' first
   | (with_reducible exact ih0 _ _ _)
   | (with_reducible exact ih1 _)
   | (with_reducible exact ebbtidelaw03_alive.mono _)
   | (with_reducible exact ebbtideref03_Great.mono _ _)
   | (with_reducible exact ebbtideref03_Right.mono _ _)
   | (with_reducible exact ebbtideref03_Same.mono _ _ _)
   | (with_reducible exact tag_Parse.mono _ _)
   | (with_reducible exact tag_Right.mono _ _)
   | (with_reducible exact tag_Text.mono _ _)
   | (with_reducible exact LeO.refl _)
   | (with_reducible exact LeO.none _)
   | (with_reducible refine LeO.ite ?_ ?_)
   | (with_reducible refine LeO.bind ?_ (fun _=>?_))
   | exact ih0 _ _ _
   | exact ih1 _
   | exact ebbtidelaw03_alive.mono _
   | exact ebbtideref03_Great.mono _ _
   | exact ebbtideref03_Right.mono _ _
   | exact ebbtideref03_Same.mono _ _ _
   | exact tag_Parse.mono _ _
   | exact tag_Right.mono _ _
   | exact tag_Text.mono _ _
   | exact LeO.none _
   | refine LeO.ite ?_ ?_
   | refine LeO.bind ?_ (fun _=>?_)
theorem ebbtidelaw03_TagBack.mono:∀ a0 a1 k,LeO (ebbtidelaw03_TagBack.f k a0 a1) (ebbtidelaw03_TagBack.f (k+1) a0 a1):=by
 intro a0 a1 k
 obtain ⟨ih0,ih1⟩:=ebbtidelaw03_TagBack.mono_l k
 unfold ebbtidelaw03_TagBack.f
 repeat' first
   | (with_reducible exact ih0 _ _ _)
   | (with_reducible exact ih1 _)
   | (with_reducible exact ebbtidelaw03_alive.mono _)
   | (with_reducible exact ebbtideref03_Great.mono _ _)
   | (with_reducible exact ebbtideref03_Right.mono _ _)
   | (with_reducible exact ebbtideref03_Same.mono _ _ _)
   | (with_reducible exact tag_Parse.mono _ _)
   | (with_reducible exact tag_Right.mono _ _)
   | (with_reducible exact tag_Text.mono _ _)
   | (with_reducible exact LeO.refl _)
   | (with_reducible exact LeO.none _)
   | (with_reducible refine LeO.ite ?_ ?_)
   | (with_reducible refine LeO.bind ?_ (fun _=>?_))
   | exact ih0 _ _ _
   | exact ih1 _
   | exact ebbtidelaw03_alive.mono _
   | exact ebbtideref03_Great.mono _ _
   | exact ebbtideref03_Right.mono _ _
   | exact ebbtideref03_Same.mono _ _ _
   | exact tag_Parse.mono _ _
   | exact tag_Right.mono _ _
   | exact tag_Text.mono _ _
   | exact LeO.none _
   | refine LeO.ite ?_ ?_
   | refine LeO.bind ?_ (fun _=>?_)
set_option maxHeartbeats 8000000 in
set_option maxRecDepth 100000 in
theorem ebbtidelaw03_TagBack.calls (k:Nat) (A0:Option Addr) (c0:Nat) (l0:List (S52)) (a1:ByteArray) (r:Bool) (w:World) (hr0:Kd.C k52 w A0 l0.length l0) (hc0:l0.length≤c0) (h:ebbtidelaw03_TagBack.f k l0 a1=some r) :
  Calls Tryd.prog 5 #[.slice A0 l0.length c0, .string a1] w fun e w'=>e = .returned (.bool r)∧Below w.heap.size w w':=by
 have HR0:=Aside0.mk hr0
 have HC0:=Aside0.mk hc0
 clear hr0 hc0
 have HB:=Aside0.mk (Below.refl w.heap.size w)
 have H:((ebbtidelaw03_alive.f k).bind fun t359=>(if t359=true then ((ebbtideref03_Great.f k l0).bind fun t360=>(if t360=true then (ebbtidelaw03_TagBack.j0 k l0 a1 true) else (ebbtidelaw03_TagBack.j0 k l0 a1 (decide ((a1.size:Int)>500))))) else (none)))=some r:=h
 clear h
 replace H:=Option.bind_eq_some_iff.mp H
 obtain ⟨t359,A30,H⟩:=H
 replace H:(if t359=true then ((ebbtideref03_Great.f k l0).bind fun t360=>(if t360=true then (ebbtidelaw03_TagBack.j0 k l0 a1 true) else (ebbtidelaw03_TagBack.j0 k l0 a1 (decide ((a1.size:Int)>500))))) else (none))=some r:=H
 have A3:=Aside0.mk A30
 clear A30
 by_cases c4:t359=true
 ·subst c4
  have H1:((ebbtideref03_Great.f k l0).bind fun t360=>(if t360=true then (ebbtidelaw03_TagBack.j0 k l0 a1 true) else (ebbtidelaw03_TagBack.j0 k l0 a1 (decide ((a1.size:Int)>500)))))=some r:=by rw [if_pos rfl] at H;exact H
  clear H
  have H:=H1
  clear H1
  have HC5:=Aside0.mk H
  clear H
  go_enter Tryd.func5,Tryd.ntmps5
  go_upto_region 3 with (first|((with_reducible refine gate_callee (f:=12) rfl ?_);refine goesL_ (some 11) rfl rfl Tryd.func12 (by kernel_rfl) rfl #[] rfl (by (try simp only [List.map_toArray,List.map_cons,List.map_nil]);first|done|rfl|(simp only [List.length_drop,List.length_take];rfl)) ?_;(with_reducible refine (ebbtidelaw03_alive.calls k  true _ A3.out).mono ?_);rintro e w6 ⟨rfl,hb⟩;refine ⟨_,rfl,?_⟩;have n0_:=Aside0.mk (below_step (by repeat (first|(with_reducible first|exact HB.out|apply below_alloc|apply pw_below_drewN|apply below_drew1)|exact HB.out)) hb);clear HB;have HB:=n0_;clear n0_;(try clear hb);(try clear hb2);(try clear hk);(try clear hi)))
  (try simp only [Act.put,List.setIfInBounds_toArray,List.set_cons_zero,List.set_cons_succ])
  go_cut [19] (fun v19 wc=>∃ (kq:Nat) (x19_4:Bool),v19 = .bool x19_4∧Aside0 (ebbtidelaw03_TagBack.j0 kq l0 a1 x19_4=some r)∧Aside0 (kq≤k)∧Aside0 (Below w.heap.size w wc))
  case first =>
   have H:=HC5.out
   clear HC5
   replace H:=Option.bind_eq_some_iff.mp H
   obtain ⟨t360,A70,H⟩:=H
   replace H:(if t360=true then (ebbtidelaw03_TagBack.j0 k l0 a1 true) else (ebbtidelaw03_TagBack.j0 k l0 a1 (decide ((a1.size:Int)>500))))=some r:=H
   have A7:=Aside0.mk A70
   clear A70
   by_cases c8:t360=true
   ·subst c8
    have H1:(ebbtidelaw03_TagBack.j0 k l0 a1 true)=some r:=by rw [if_pos rfl] at H;exact H
    clear H
    have H:=H1
    clear H1
    have H':=Aside0.mk H
    clear H
    go_wp2_with (first|((with_reducible refine gate_callee (f:=13) rfl ?_);refine goesL_ (some 14) rfl rfl Tryd.func13 (by kernel_rfl) rfl #[.slice A0 l0.length c0] rfl (by (try simp only [List.map_toArray,List.map_cons,List.map_nil]);first|done|rfl|(simp only [List.length_drop,List.length_take];rfl)) ?_;(with_reducible refine (ebbtideref03_Great.calls k _ _ l0 true _ ?side1 ?side2 A7.out).mono ?_);(case side1=>repeat (first|exact (Kd.C_below HR0.out HB.out)|(with_reducible refine Kd.C_alloc ?_ _)|(with_reducible refine Kd.C_drewN ?_ _)|(with_reducible refine Kd.C_drew ?_)));(case side2=>exact HC0.out);rintro e w' ⟨rfl,⟨nd,rfl⟩⟩;refine ⟨_,rfl,?_⟩))
    go_meet
    case rel=>exact ⟨_,(true),(by first|rfl|(simp;done)|(simp [*];done)),H',⟨by first|omega|exact Nat.le_refl _⟩,⟨by repeat (first|(with_reducible first|exact HB.out|apply below_alloc|apply pw_below_drewN|apply below_drew1)|exact HB.out)⟩⟩
   ·replace c8:=Bool.eq_false_iff.mpr c8
    subst c8
    have H1:(ebbtidelaw03_TagBack.j0 k l0 a1 (decide ((a1.size:Int)>500)))=some r:=by rw [if_neg (show ¬ (false=true) by decide)] at H;exact H
    clear H
    have H:=H1
    clear H1
    have H':=Aside0.mk H
    clear H
    go_wp2_with (first|((with_reducible refine gate_callee (f:=13) rfl ?_);refine goesL_ (some 14) rfl rfl Tryd.func13 (by kernel_rfl) rfl #[.slice A0 l0.length c0] rfl (by (try simp only [List.map_toArray,List.map_cons,List.map_nil]);first|done|rfl|(simp only [List.length_drop,List.length_take];rfl)) ?_;(with_reducible refine (ebbtideref03_Great.calls k _ _ l0 false _ ?side1 ?side2 A7.out).mono ?_);(case side1=>repeat (first|exact (Kd.C_below HR0.out HB.out)|(with_reducible refine Kd.C_alloc ?_ _)|(with_reducible refine Kd.C_drewN ?_ _)|(with_reducible refine Kd.C_drew ?_)));(case side2=>exact HC0.out);rintro e w' ⟨rfl,⟨nd,rfl⟩⟩;refine ⟨_,rfl,?_⟩))
    go_meet
    case rel=>exact ⟨_,(decide ((a1.size:Int)>500)),(by first|rfl|(simp;done)|(simp [*];done)),H',⟨by first|omega|exact Nat.le_refl _⟩,⟨by repeat (first|(with_reducible first|exact HB.out|apply below_alloc|apply pw_below_drewN|apply below_drew1)|exact HB.out)⟩⟩
  case rest =>
   clear HC5
   try clear c1
   try clear p2
   try clear c4
   try clear c5
   try clear c8
   obtain ⟨kq,x19_4,rfl,HA,HJ4,HB⟩:=hcut
   cases kq with
   | zero=>exact absurd HA.out (by simp [ebbtidelaw03_TagBack.j0])
   | succ kj4 =>
    have H:=HA.out
    clear HA
    simp only [ebbtidelaw03_TagBack.j0] at H
    by_cases c9:x19_4=true
    ·subst c9
     have H1:(some true)=some r:=by rw [if_pos rfl] at H;exact H
     clear H
     have H:=H1
     clear H1
     obtain rfl:=Option.some.inj H
     go_wp2
     go_ret
     exact ⟨by first|rfl|(simp [errW_none,errW_some]<;>rfl)|(simp [*,errW_none,errW_some]<;>rfl),by repeat (first|(with_reducible first|exact HB.out|apply below_alloc|apply pw_below_drewN|apply below_drew1)|exact HB.out)⟩
    ·replace c9:=Bool.eq_false_iff.mpr c9
     subst c9
     have H1:((ebbtideref03_Right.f kj4 l0).bind fun t361=>(if t361=true then ((tag_Text.f kj4 l0).bind fun t362=>((tag_Parse.f kj4 t362).bind fun bt363=>(if bt363.2=0 then ((ebbtideref03_Same.f kj4 bt363.1 l0).bind fun t367=>(if t367=true then (ebbtidelaw03_TagBack.j1 kj4 a1) else (none))) else (none)))) else (ebbtidelaw03_TagBack.j1 kj4 a1)))=some r:=by rw [if_neg (show ¬ (false=true) by decide)] at H;exact H
     clear H
     have H:=H1
     clear H1
     replace H:=Option.bind_eq_some_iff.mp H
     obtain ⟨t361,A100,H⟩:=H
     replace H:(if t361=true then ((tag_Text.f kj4 l0).bind fun t362=>((tag_Parse.f kj4 t362).bind fun bt363=>(if bt363.2=0 then ((ebbtideref03_Same.f kj4 bt363.1 l0).bind fun t367=>(if t367=true then (ebbtidelaw03_TagBack.j1 kj4 a1) else (none))) else (none)))) else (ebbtidelaw03_TagBack.j1 kj4 a1))=some r:=H
     have A10:=Aside0.mk A100
     clear A100
     have HC11:=Aside0.mk H
     clear H
     go_upto_if 21 with (first|((with_reducible refine gate_callee (f:=20) rfl ?_);refine goesL_ (some 21) rfl rfl Tryd.func20 (by kernel_rfl) rfl #[.slice A0 l0.length c0] rfl (by (try simp only [List.map_toArray,List.map_cons,List.map_nil]);first|done|rfl|(simp only [List.length_drop,List.length_take];rfl)) ?_;(with_reducible refine (ebbtideref03_Right.calls kj4 _ _ l0 t361 _ ?side1 ?side2 A10.out).mono ?_);(case side1=>repeat (first|exact (Kd.C_below HR0.out HB.out)|(with_reducible refine Kd.C_alloc ?_ _)|(with_reducible refine Kd.C_drewN ?_ _)|(with_reducible refine Kd.C_drew ?_)));(case side2=>exact HC0.out);rintro e w12 ⟨rfl,hb⟩;refine ⟨_,rfl,?_⟩;have n0_:=Aside0.mk (below_step (by repeat (first|(with_reducible first|exact HB.out|apply below_alloc|apply pw_below_drewN|apply below_drew1)|exact HB.out)) hb);clear HB;have HB:=n0_;clear n0_;(try clear hb);(try clear hb2);(try clear hk);(try clear hi)))
     (try simp only [Act.put,List.setIfInBounds_toArray,List.set_cons_zero,List.set_cons_succ])
     go_cut [] (fun wc=>∃ (kq:Nat),Aside0 (ebbtidelaw03_TagBack.j1 kq a1=some r)∧Aside0 (kq≤kj4)∧Aside0 (Below w.heap.size w wc))
     case first =>
      have H:=HC11.out
      clear HC11
      by_cases c13:t361=true
      ·subst c13
       have H1:((tag_Text.f kj4 l0).bind fun t362=>((tag_Parse.f kj4 t362).bind fun bt363=>(if bt363.2=0 then ((ebbtideref03_Same.f kj4 bt363.1 l0).bind fun t367=>(if t367=true then (ebbtidelaw03_TagBack.j1 kj4 a1) else (none))) else (none))))=some r:=by rw [if_pos rfl] at H;exact H
       clear H
       have H:=H1
       clear H1
       replace H:=Option.bind_eq_some_iff.mp H
       obtain ⟨t362,A140,H⟩:=H
       replace H:((tag_Parse.f kj4 t362).bind fun bt363=>(if bt363.2=0 then ((ebbtideref03_Same.f kj4 bt363.1 l0).bind fun t367=>(if t367=true then (ebbtidelaw03_TagBack.j1 kj4 a1) else (none))) else (none)))=some r:=H
       have A14:=Aside0.mk A140
       clear A140
       replace H:=Option.bind_eq_some_iff.mp H
       obtain ⟨⟨t363,t364⟩,A150,H⟩:=H
       replace H:(if t364=0 then ((ebbtideref03_Same.f kj4 t363 l0).bind fun t367=>(if t367=true then (ebbtidelaw03_TagBack.j1 kj4 a1) else (none))) else (none))=some r:=H
       have A15:=Aside0.mk A150
       clear A150
       by_cases c16:t364=0
       ·rw [if_pos c16] at H
        have c16b0:(t364 ==0)=true:=beq_iff_eq.mpr c16
        have c16b1:(t364 != 0)=false:=bne_eq_false_iff_eq.mpr c16
        clear c16
        (first|rw [c16b0]|(simp only [i64_w,i32_w];rw [c16b0])|skip)
        replace H:=Option.bind_eq_some_iff.mp H
        obtain ⟨t367,A170,H⟩:=H
        replace H:(if t367=true then (ebbtidelaw03_TagBack.j1 kj4 a1) else (none))=some r:=H
        have A17:=Aside0.mk A170
        clear A170
        by_cases c18:t367=true
        ·subst c18
         have H1:(ebbtidelaw03_TagBack.j1 kj4 a1)=some r:=by rw [if_pos rfl] at H;exact H
         clear H
         have H:=H1
         clear H1
         have H':=Aside0.mk H
         clear H
         go_wp2_with (first|((with_reducible refine gate_callee (f:=21) rfl ?_);refine goesL_ (some 24) rfl rfl Tryd.func21 (by kernel_rfl) rfl #[.slice A0 l0.length c0] rfl (by (try simp only [List.map_toArray,List.map_cons,List.map_nil]);first|done|rfl|(simp only [List.length_drop,List.length_take];rfl)) ?_;(with_reducible refine (tag_Text.calls kj4 _ _ l0 t362 _ ?side1 ?side2 A14.out).mono ?_);(case side1=>repeat (first|exact (Kd.C_below HR0.out HB.out)|(with_reducible refine Kd.C_alloc ?_ _)|(with_reducible refine Kd.C_drewN ?_ _)|(with_reducible refine Kd.C_drew ?_)));(case side2=>exact HC0.out);rintro e w19 ⟨rfl,hb⟩;refine ⟨_,rfl,?_⟩;have n0_:=Aside0.mk (below_step (by repeat (first|(with_reducible first|exact HB.out|apply below_alloc|apply pw_below_drewN|apply below_drew1)|exact HB.out)) hb);clear HB;have HB:=n0_;clear n0_;(try clear hb);(try clear hb2);(try clear hk);(try clear hi))|((with_reducible refine gate_callee (f:=25) rfl ?_);refine goesL_ (some 25) rfl rfl Tryd.func25 (by kernel_rfl) rfl #[.string t362] rfl (by (try simp only [List.map_toArray,List.map_cons,List.map_nil]);first|done|rfl|(simp only [List.length_drop,List.length_take];rfl)) ?_;(with_reducible refine (tag_Parse.calls kj4 t362 t363 t364 _ A15.out).mono ?_);rintro e w20 ⟨v365,rfl,ho0,hb⟩;refine ⟨_,rfl,?_⟩;have n0_:=Aside0.mk (Kd.R_lower ho0 (below_size (by repeat (first|(with_reducible first|exact HB.out|apply below_alloc|apply pw_below_drewN|apply below_drew1)|exact HB.out))));have n1_:=Aside0.mk (below_step (by repeat (first|(with_reducible first|exact HB.out|apply below_alloc|apply pw_below_drewN|apply below_drew1)|exact HB.out)) hb);clear HB;have HO366:=n0_;have HB:=n1_;clear n0_ n1_;(try clear hb);(try clear hb2);(try clear hk);(try clear hi);(try clear ho0);obtain ⟨Ao21,co21,eo21⟩:=Kd.R_slice HO366.out;subst eo21)|(go_at_call 18;(with_reducible refine (ebbtideref03_Same.calls kj4 _ _ t363 _ _ l0 true _ ?side1 ?side2 ?side3 ?side4 A17.out).mono ?_);(case side1=>repeat (first|exact (Kd.R_reads' HO366.out).2.2|(with_reducible refine Kd.C_alloc ?_ _)|(with_reducible refine Kd.C_drewN ?_ _)|(with_reducible refine Kd.C_drew ?_)));(case side2=>exact (Kd.R_reads' HO366.out).2.1);(case side3=>repeat (first|exact (Kd.C_below HR0.out HB.out)|(with_reducible refine Kd.C_alloc ?_ _)|(with_reducible refine Kd.C_drewN ?_ _)|(with_reducible refine Kd.C_drew ?_)));(case side4=>exact HC0.out);rintro e w' ⟨rfl,⟨nd,rfl⟩⟩))
         go_meet
         case rel=>exact ⟨_,H',⟨by have:=HJ4.out;first|omega|exact Nat.le_refl _⟩,⟨by repeat (first|(with_reducible first|exact HB.out|apply below_alloc|apply pw_below_drewN|apply below_drew1)|exact HB.out)⟩⟩
        ·replace c18:=Bool.eq_false_iff.mpr c18
         subst c18
         have H1:(none)=some r:=by rw [if_neg (show ¬ (false=true) by decide)] at H;exact H
         clear H
         have H:=H1
         clear H1
         exact absurd H (by simp)
       ·rw [if_neg c16] at H
        exact absurd H (by simp)
      ·replace c13:=Bool.eq_false_iff.mpr c13
       subst c13
       have H1:(ebbtidelaw03_TagBack.j1 kj4 a1)=some r:=by rw [if_neg (show ¬ (false=true) by decide)] at H;exact H
       clear H
       have H:=H1
       clear H1
       have H':=Aside0.mk H
       clear H
       go_wp2
       go_meet
       case rel=>exact ⟨_,H',⟨by have:=HJ4.out;first|omega|exact Nat.le_refl _⟩,⟨by repeat (first|(with_reducible first|exact HB.out|apply below_alloc|apply pw_below_drewN|apply below_drew1)|exact HB.out)⟩⟩
     case rest =>
      clear HC11
      try clear c1
      try clear c2
      try clear p2
      try clear c4
      try clear c5
      try clear c8
      try clear c9
      try clear c12
      try clear c13
      try clear c16
      try clear c16b0
      try clear c16b1
      try clear c18
      try clear c20
      try clear c21
      try clear p2
      obtain ⟨kq,HA,HJ10,HB⟩:=hcut
      cases kq with
      | zero=>exact absurd HA.out (by simp [ebbtidelaw03_TagBack.j1])
      | succ kj10 =>
       have H:=HA.out
       clear HA
       simp only [ebbtidelaw03_TagBack.j1] at H
       replace H:=Option.bind_eq_some_iff.mp H
       obtain ⟨⟨t368,t369⟩,A220,H⟩:=H
       replace H:(if t369=0 then ((tag_Text.f kj10 t368).bind fun t372=>((tag_Parse.f kj10 t372).bind fun bt373=>((tag_Right.f kj10 t368).bind fun t377=>(if t377=true then (if bt373.2=0 then ((ebbtideref03_Same.f kj10 bt373.1 t368).bind fun t378=>(some t378)) else (none)) else (none))))) else (some ((t368.length:Int) ==0)))=some r:=H
       have A22:=Aside0.mk A220
       clear A220
       by_cases c23:t369=0
       ·rw [if_pos c23] at H
        have c23b0:(t369 ==0)=true:=beq_iff_eq.mpr c23
        have c23b1:(t369 != 0)=false:=bne_eq_false_iff_eq.mpr c23
        clear c23
        replace H:=Option.bind_eq_some_iff.mp H
        obtain ⟨t372,A240,H⟩:=H
        replace H:((tag_Parse.f kj10 t372).bind fun bt373=>((tag_Right.f kj10 t368).bind fun t377=>(if t377=true then (if bt373.2=0 then ((ebbtideref03_Same.f kj10 bt373.1 t368).bind fun t378=>(some t378)) else (none)) else (none))))=some r:=H
        have A24:=Aside0.mk A240
        clear A240
        replace H:=Option.bind_eq_some_iff.mp H
        obtain ⟨⟨t373,t374⟩,A250,H⟩:=H
        replace H:((tag_Right.f kj10 t368).bind fun t377=>(if t377=true then (if t374=0 then ((ebbtideref03_Same.f kj10 t373 t368).bind fun t378=>(some t378)) else (none)) else (none)))=some r:=H
        have A25:=Aside0.mk A250
        clear A250
        replace H:=Option.bind_eq_some_iff.mp H
        obtain ⟨t377,A260,H⟩:=H
        replace H:(if t377=true then (if t374=0 then ((ebbtideref03_Same.f kj10 t373 t368).bind fun t378=>(some t378)) else (none)) else (none))=some r:=H
        have A26:=Aside0.mk A260
        clear A260
        by_cases c27:t377=true
        ·subst c27
         have H1:(if t374=0 then ((ebbtideref03_Same.f kj10 t373 t368).bind fun t378=>(some t378)) else (none))=some r:=by rw [if_pos rfl] at H;exact H
         clear H
         have H:=H1
         clear H1
         by_cases c28:t374=0
         ·rw [if_pos c28] at H
          have c28b0:(t374 ==0)=true:=beq_iff_eq.mpr c28
          have c28b1:(t374 != 0)=false:=bne_eq_false_iff_eq.mpr c28
          clear c28
          replace H:=Option.bind_eq_some_iff.mp H
          obtain ⟨t378,A290,H⟩:=H
          replace H:(some t378)=some r:=H
          have A29:=Aside0.mk A290
          clear A290
          obtain rfl:=Option.some.inj H
          go_wp2_with (first|((with_reducible refine gate_callee (f:=25) rfl ?_);refine goesL_ (some 38) rfl rfl Tryd.func25 (by kernel_rfl) rfl #[.string a1] rfl (by (try simp only [List.map_toArray,List.map_cons,List.map_nil]);first|done|rfl|(simp only [List.length_drop,List.length_take];rfl)) ?_;(with_reducible refine (tag_Parse.calls kj10 a1 t368 t369 _ A22.out).mono ?_);rintro e w30 ⟨v370,rfl,ho0,hb⟩;refine ⟨_,rfl,?_⟩;have n0_:=Aside0.mk (Kd.R_lower ho0 (below_size (by repeat (first|(with_reducible first|exact HB.out|apply below_alloc|apply pw_below_drewN|apply below_drew1)|exact HB.out))));have n1_:=Aside0.mk (below_step (by repeat (first|(with_reducible first|exact HB.out|apply below_alloc|apply pw_below_drewN|apply below_drew1)|exact HB.out)) hb);clear HB;have HO371:=n0_;have HB:=n1_;clear n0_ n1_;(try clear hb);(try clear hb2);(try clear hk);(try clear hi);(try clear ho0);obtain ⟨Ao31,co31,eo31⟩:=Kd.R_slice HO371.out;subst eo31)|((with_reducible refine gate_callee (f:=21) rfl ?_);refine goesL_ (some 48) rfl rfl Tryd.func21 (by kernel_rfl) rfl #[.slice Ao31 t368.length co31] rfl (by (try simp only [List.map_toArray,List.map_cons,List.map_nil]);first|done|rfl|(simp only [List.length_drop,List.length_take];rfl)) ?_;(with_reducible refine (tag_Text.calls kj10 _ _ t368 t372 _ ?side1 ?side2 A24.out).mono ?_);(case side1=>repeat (first|exact (Kd.R_reads' HO371.out).2.2|(with_reducible refine Kd.C_alloc ?_ _)|(with_reducible refine Kd.C_drewN ?_ _)|(with_reducible refine Kd.C_drew ?_)));(case side2=>exact (Kd.R_reads' HO371.out).2.1);rintro e w32 ⟨rfl,hb⟩;refine ⟨_,rfl,?_⟩;have n0_:=Aside0.mk (Kd.R_below (by (with_reducible repeat (first|apply Kd.R_alloc|apply Kd.R_drewN|apply Kd.R_drew));exact HO371.out) hb);have n1_:=Aside0.mk (below_step (by repeat (first|(with_reducible first|exact HB.out|apply below_alloc|apply pw_below_drewN|apply below_drew1)|exact HB.out)) hb);clear HO371;clear HB;have HO371:=n0_;have HB:=n1_;clear n0_ n1_;(try clear hb);(try clear hb2);(try clear hk);(try clear hi))|((with_reducible refine gate_callee (f:=25) rfl ?_);refine goesL_ (some 49) rfl rfl Tryd.func25 (by kernel_rfl) rfl #[.string t372] rfl (by (try simp only [List.map_toArray,List.map_cons,List.map_nil]);first|done|rfl|(simp only [List.length_drop,List.length_take];rfl)) ?_;(with_reducible refine (tag_Parse.calls kj10 t372 t373 t374 _ A25.out).mono ?_);rintro e w33 ⟨v375,rfl,ho0,hb⟩;refine ⟨_,rfl,?_⟩;have n0_:=Aside0.mk (Kd.R_elder' (by (with_reducible repeat (first|apply Kd.R_alloc|apply Kd.R_drewN|apply Kd.R_drew));exact HO371.out) (Kd.R_base ho0) hb);have n1_:=Aside0.mk (Kd.R_lower (Kd.R_new' ho0 (Kd.R_lt (by (with_reducible repeat (first|apply Kd.R_alloc|apply Kd.R_drewN|apply Kd.R_drew));exact HO371.out))) (below_size (by repeat (first|(with_reducible first|exact HB.out|apply below_alloc|apply pw_below_drewN|apply below_drew1)|exact HB.out))));have n2_:=Aside0.mk (below_step (by repeat (first|(with_reducible first|exact HB.out|apply below_alloc|apply pw_below_drewN|apply below_drew1)|exact HB.out)) hb);clear HO371;clear HB;have HO371:=n0_;have HO376:=n1_;have HB:=n2_;clear n0_ n1_ n2_;(try clear hb);(try clear hb2);(try clear hk);(try clear hi);(try clear ho0))|((with_reducible refine gate_callee (f:=19) rfl ?_);refine goesL_ (some 53) rfl rfl Tryd.func19 (by kernel_rfl) rfl #[.slice Ao31 t368.length co31] rfl (by (try simp only [List.map_toArray,List.map_cons,List.map_nil]);first|done|rfl|(simp only [List.length_drop,List.length_take];rfl)) ?_;(with_reducible refine (tag_Right.calls kj10 _ _ t368 true _ ?side1 ?side2 A26.out).mono ?_);(case side1=>repeat (first|exact (Kd.R_reads' HO371.out).2.2|(with_reducible refine Kd.C_alloc ?_ _)|(with_reducible refine Kd.C_drewN ?_ _)|(with_reducible refine Kd.C_drew ?_)));(case side2=>exact (Kd.R_reads' HO371.out).2.1);rintro e w34 ⟨rfl,hb⟩;refine ⟨_,rfl,?_⟩;have n0_:=Aside0.mk (Kd.R_below (by (with_reducible repeat (first|apply Kd.R_alloc|apply Kd.R_drewN|apply Kd.R_drew));exact HO371.out) hb);have n1_:=Aside0.mk (Kd.R_below (by (with_reducible repeat (first|apply Kd.R_alloc|apply Kd.R_drewN|apply Kd.R_drew));exact HO376.out) hb);have n2_:=Aside0.mk (below_step (by repeat (first|(with_reducible first|exact HB.out|apply below_alloc|apply pw_below_drewN|apply below_drew1)|exact HB.out)) hb);clear HO371;clear HO376;clear HB;have HO371:=n0_;have HO376:=n1_;have HB:=n2_;clear n0_ n1_ n2_;(try clear hb);(try clear hb2);(try clear hk);(try clear hi);obtain ⟨Ao35,co35,eo35⟩:=Kd.R_slice HO376.out;subst eo35)|(go_at_call 18;(with_reducible refine (ebbtideref03_Same.calls kj10 _ _ t373 _ _ t368 t378 _ ?side1 ?side2 ?side3 ?side4 A29.out).mono ?_);(case side1=>repeat (first|exact (Kd.R_reads' HO376.out).2.2|(with_reducible refine Kd.C_alloc ?_ _)|(with_reducible refine Kd.C_drewN ?_ _)|(with_reducible refine Kd.C_drew ?_)));(case side2=>exact (Kd.R_reads' HO376.out).2.1);(case side3=>repeat (first|exact (Kd.R_reads' HO371.out).2.2|(with_reducible refine Kd.C_alloc ?_ _)|(with_reducible refine Kd.C_drewN ?_ _)|(with_reducible refine Kd.C_drew ?_)));(case side4=>exact (Kd.R_reads' HO371.out).2.1);rintro e w' ⟨rfl,⟨nd,rfl⟩⟩))
          go_ret
          exact ⟨by first|rfl|(simp [errW_none,errW_some]<;>rfl)|(simp [*,errW_none,errW_some]<;>rfl),by repeat (first|(with_reducible first|exact HB.out|apply below_alloc|apply pw_below_drewN|apply below_drew1)|exact HB.out)⟩
         ·rw [if_neg c28] at H
          exact absurd H (by simp)
        ·replace c27:=Bool.eq_false_iff.mpr c27
         subst c27
         have H1:(none)=some r:=by rw [if_neg (show ¬ (false=true) by decide)] at H;exact H
         clear H
         have H:=H1
         clear H1
         exact absurd H (by simp)
       ·rw [if_neg c23] at H
        have c23b0:(t369 ==0)=false:=beq_eq_false_iff_ne.mpr c23
        have c23b1:(t369 != 0)=true:=bne_iff_ne.mpr c23
        obtain rfl:=Option.some.inj H
        go_wp2_with (first|((with_reducible refine gate_callee (f:=25) rfl ?_);refine goesL_ (some 38) rfl rfl Tryd.func25 (by kernel_rfl) rfl #[.string a1] rfl (by (try simp only [List.map_toArray,List.map_cons,List.map_nil]);first|done|rfl|(simp only [List.length_drop,List.length_take];rfl)) ?_;(with_reducible refine (tag_Parse.calls kj10 a1 t368 t369 _ A22.out).mono ?_);rintro e w36 ⟨v370,rfl,ho0,hb⟩;refine ⟨_,rfl,?_⟩;have n0_:=Aside0.mk (Kd.R_lower ho0 (below_size (by repeat (first|(with_reducible first|exact HB.out|apply below_alloc|apply pw_below_drewN|apply below_drew1)|exact HB.out))));have n1_:=Aside0.mk (below_step (by repeat (first|(with_reducible first|exact HB.out|apply below_alloc|apply pw_below_drewN|apply below_drew1)|exact HB.out)) hb);clear HB;have HO371:=n0_;have HB:=n1_;clear n0_ n1_;(try clear hb);(try clear hb2);(try clear hk);(try clear hi);(try clear ho0);obtain ⟨Ao37,co37,eo37⟩:=Kd.R_slice HO371.out;subst eo37))
        go_ret
        exact ⟨by first|rfl|(simp [errW_none,errW_some]<;>rfl)|(simp [*,errW_none,errW_some]<;>rfl),by repeat (first|(with_reducible first|exact HB.out|apply below_alloc|apply pw_below_drewN|apply below_drew1)|exact HB.out)⟩
 ·replace c4:=Bool.eq_false_iff.mpr c4
  subst c4
  have H1:(none)=some r:=by rw [if_neg (show ¬ (false=true) by decide)] at H;exact H
  clear H
  have H:=H1
  clear H1
  exact absurd H (by simp)
end Go.Proofs.YtbefmicenjdfkaaDoor.PTk
