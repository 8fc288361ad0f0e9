import Derived.Test.YteaadaaghhojfaaGreatDoorZQdPQux0
import Derived.Test.YteaadaaghhojfaaGreatDoorZQdPQux3
import Derived.Test.YteaadaaghhojfaaGreatDoorZQdPQux4
import Derived.Test.YteaadaaghhojfaaGreatDoorZQdPQux5
import Derived.Test.YteaadaaghhojfaaGreatDoorZQdPQux7
namespace Go.Proofs.YteaadaaghhojfaaGreatDoor.PQu
open Go.RowKit Go.Proofs.YteaadaaghhojfaaGreatDoorW.PrintWords Go.Proofs.YteaadaaghhojfaaGreatDoorW.PrintLast Go.Proofs.YteaadaaghhojfaaGreatDoorW.PrintMore
attribute [local go_sem] max2_int min2_int max_two min_two max_three min_three max_four min_four
set_option linter.unusedVariables false
set_option linter.unusedSimpArgs false
set_option maxHeartbeats 8000000
set_option maxRecDepth 100000
def ebbtideref03_Parse.l0:Nat→List (S93)→List ByteArray→Int→Option ((List (S93))×Int)
 | 0,_,_,_=>none
 | k+1,x4,x5,x6=>if x6<(x5.length:Int) then (if 0≤x6 then ((ebbtideref02_Split.f k (rdOf ByteArray.empty x5 x6) 61).bind fun t225=>(if (t225.length:Int)<2 then (some (([]:List (S93)),2)) else (if 0<(t225.length:Int) then (if 1≤(t225.length:Int) then ((ebbtideref02_Join.f k (⟨#[61]⟩:ByteArray) (t225.drop 1)).bind fun t233=>(if x4.length<4398046511104 then (ebbtideref03_Parse.l0 k (x4++[(⟨rdOf ByteArray.empty t225 0,t233⟩:S93)]) x5 (wrap64 (x6+1))) else (none))) else (none)) else (none)))) else (none)) else ((ebbtideref03_Canon.f k x4).bind fun bt220=>(some (bt220.1,bt220.2)))
def ebbtideref03_Parse.f (k:Nat) (a0:ByteArray):Option ((List (S93))×Int):=if a0.toList=([]:List UInt8) then (some (([]:List (S93)),0)) else ((ebbtideref02_Split.f k a0 44).bind fun t217=>(ebbtideref03_Parse.l0 k ([]:List (S93)) t217 0))
theorem ebbtideref03_Parse.mono_l:∀ k,(∀ y0 y1 y2,LeO (ebbtideref03_Parse.l0 k y0 y1 y2) (ebbtideref03_Parse.l0 (k+1) y0 y1 y2))
 | 0=>fun _ _ _ r h=>by simp [ebbtideref03_Parse.l0] at h
 | k+1=>by
  have ih0:=ebbtideref03_Parse.mono_l k
  ·intro y0 y1 y2
   unfold ebbtideref03_Parse.l0
   repeat' first
   | (with_reducible exact ih0 _ _ _)
   | (with_reducible exact ebbtideref02_Join.mono _ _ _)
   | (with_reducible exact ebbtideref02_Split.mono _ _ _)
   | (with_reducible exact ebbtideref03_Canon.mono _ _)
   | (with_reducible exact LeO.refl _)
   | (with_reducible exact LeO.none _)
   | (with_reducible refine LeO.ite ?_ ?_)
   | (with_reducible refine LeO.bind ?_ (fun _=>?_))
   | exact ih0 _ _ _
   | exact ebbtideref02_Join.mono _ _ _
   | exact ebbtideref02_Split.mono _ _ _
   | exact ebbtideref03_Canon.mono _ _
   | exact LeO.none _
   | refine LeO.ite ?_ ?_
   | refine LeO.bind ?_ (fun _=>?_)
theorem ebbtideref03_Parse.mono:∀ a0 k,LeO (ebbtideref03_Parse.f k a0) (ebbtideref03_Parse.f (k+1) a0):=by
 intro a0 k
 have ih0:=ebbtideref03_Parse.mono_l k
 unfold ebbtideref03_Parse.f
 repeat' first
   | (with_reducible exact ih0 _ _ _)
   | (with_reducible exact ebbtideref02_Join.mono _ _ _)
   | (with_reducible exact ebbtideref02_Split.mono _ _ _)
   | (with_reducible exact ebbtideref03_Canon.mono _ _)
   | (with_reducible exact LeO.refl _)
   | (with_reducible exact LeO.none _)
   | (with_reducible refine LeO.ite ?_ ?_)
   | (with_reducible refine LeO.bind ?_ (fun _=>?_))
   | exact ih0 _ _ _
   | exact ebbtideref02_Join.mono _ _ _
   | exact ebbtideref02_Split.mono _ _ _
   | exact ebbtideref03_Canon.mono _ _
   | exact LeO.none _
   | refine LeO.ite ?_ ?_
   | refine LeO.bind ?_ (fun _=>?_)
def ebbtideref03_Parse.T11:Bool×List (List Nat×List Nat):=(true,[([],[]),([],[]),([1],[1]),([2],[2]),([],[]),([4],[4]),([5],[5]),([3,6],[3,6]),([7],[7]),([0,8,6],[0,8]),([9,9,0,1,2,3,4,5,6,7,8,9],[0,9])])
def ebbtideref03_Parse.B11:List Nat:=[0,0,2,6,0,16,48,126,254,511,1023]
theorem ebbtideref03_Parse.tab11:rtab .any (opsOf Tryz.f97 11)=ebbtideref03_Parse.T11:=qK
theorem ebbtideref03_Parse.bits11:waitsOk ebbtideref03_Parse.T11.2 ebbtideref03_Parse.B11=true:=qK
theorem ebbtideref03_Parse.calls (k:Nat) (a0:ByteArray) (r1:List (S93)) (r2:Int) (w:World) (h:ebbtideref03_Parse.f k a0=some (r1,r2)) :
  Calls Tryz.prog 97 #[.string a0] w fun e w'=>∃ v0_:Value,e = .returned (.tuple #[v0_, .int .i64 r2])∧Kd.R k93 93 w' w.heap.size (fun _=>True) v0_ r1∧Below w.heap.size w w':=by
 have hu93:=Tryz.underlying93
 have HB:=Aside0.mk (Below.refl w.heap.size w)
 have H:(if a0.toList=([]:List UInt8) then (some (([]:List (S93)),0)) else ((ebbtideref02_Split.f k a0 44).bind fun t217=>(ebbtideref03_Parse.l0 k ([]:List (S93)) t217 0)))=some (r1,r2):=h
 clear h
 by_cases c2:a0.toList=([]:List UInt8)
 ·rw [if_pos c2] at H
  have c2b0:(a0.toList ==([]:List UInt8))=true:=beq_iff_eq.mpr c2
  have c2b1:(a0.toList != ([]:List UInt8))=false:=bne_eq_false_iff_eq.mpr c2
  clear c2
  simp only [Option.some.injEq,Prod.mk.injEq] at H
  obtain ⟨rfl,rfl⟩:=H
  go_enter Tryz.func97,Tryz.ntmps97
  go_wp2
  go_ret2
  exact ⟨_,qE,qN,qB⟩
 rw [if_neg c2] at H
 have c2b0:(a0.toList ==([]:List UInt8))=false:=beq_eq_false_iff_ne.mpr c2
 have c2b1:(a0.toList != ([]:List UInt8))=true:=bne_iff_ne.mpr c2
 replace H:=Option.bind_eq_some_iff.mp H
 obtain ⟨t217,A30,H⟩:=H
 replace H:(ebbtideref03_Parse.l0 k ([]:List (S93)) t217 0)=some (r1,r2):=H
 have A3:=Aside0.mk A30
 clear A30
 have H':=Aside0.mk H
 clear H
 go_enter Tryz.func97,Tryz.ntmps97
 go_wp2_with (first|((with_reducible refine gate_callee (f:=72) rfl ?_);refine goesL_ (some 11) rfl rfl Tryz.func72 qK rfl #[.string a0, .int .u8 44] rfl qG ?_;(with_reducible refine (ebbtideref02_Split.calls k a0 44 t217 _ A3.out).mono ?_);rintro e w4 ⟨v218,rfl,ho0,hb⟩;refine ⟨_,rfl,?_⟩;have HO219:=Aside0.mk (Kd.R_lower ho0 (below_size qB));replace HB:=Aside0.mk (below_step qB hb);clear hb ho0))
 go_loopg [4,6] k (fun kq v4 v6 w'=>∃ (x4_1:List (S93)) (x6_1:Int),v6 = .int .i64 x6_1∧Aside0 (ebbtideref03_Parse.l0 kq x4_1 t217 x6_1=some (r1,r2))∧Aside0 (kq≤k)∧Aside0 (Kd.R k93 93 w' w.heap.size (fun _=>True) v4 x4_1)∧Aside0 (Kd.R Kd.string 9 w' w.heap.size (fun _=>True) v218 t217)∧Aside0 (Below w.heap.size w w'))
 case atStart=>exact ⟨(([]:List (S93))),(0),qS,H',⟨Nat.le_refl _⟩,⟨qN⟩,⟨qR HO219⟩,⟨qB⟩⟩
 case round =>
  clear H'
  try clear c2;try clear c2b0;try clear c2b1
  obtain ⟨x4_1,x6_1,rfl,HA,HK1,HO_4,HO_5,HB⟩:=hrel
  cases gk with
  | zero=>exact absurd HA.out (by simp [ebbtideref03_Parse.l0])
  | succ k1 =>
   have H:=HA.out
   clear HA
   simp only [ebbtideref03_Parse.l0] at H
   by_cases c5:x6_1<(t217.length:Int)
   rotate_left
   ·rw [if_neg c5] at H
    have c5b0:decide (x6_1<(t217.length:Int))=false:=decide_eq_false c5
    clear c5
    replace H:=Option.bind_eq_some_iff.mp H
    obtain ⟨⟨t220,t221⟩,A220,H⟩:=H
    replace H:(some (t220,t221))=some (r1,r2):=H
    have A22:=Aside0.mk A220
    clear A220
    simp only [Option.some.injEq,Prod.mk.injEq] at H
    obtain ⟨rfl,rfl⟩:=H
    obtain ⟨Ao23,co23,eo23⟩:=Kd.R_slice HO_5.out
    subst eo23
    obtain ⟨Ao24,co24,eo24⟩:=Kd.R_slice HO_4.out
    subst eo24
    go_wp2_with (first|((with_reducible refine gate_callee (f:=133) rfl ?_);refine goesL_ (some 37) rfl rfl Tryz.func133 qK rfl #[.slice Ao24 x4_1.length co24] rfl qG ?_;(with_reducible refine (ebbtideref03_Canon.calls k1 _ _ x4_1 t220 t221 _ ?side1 ?side2 A22.out).mono ?_);(case side1=>repeat (first|exact (Kd.R_reads' HO_4.out).2.2|(with_reducible refine Kd.C_alloc ?_ _)|(with_reducible refine Kd.C_drewN ?_ _)|(with_reducible refine Kd.C_drew ?_)));(case side2=>exact (Kd.R_reads' HO_4.out).2.1);rintro e w25 ⟨v222,rfl,ho0,hb⟩;refine ⟨_,rfl,?_⟩;replace HO_5:=Aside0.mk (Kd.R_below (qR HO_5) hb);have HO223:=Aside0.mk (Kd.R_lower (Kd.R_new' ho0 (Kd.R_lt (qR HO_4))) (below_size qB));replace HO_4:=Aside0.mk (Kd.R_elder' (qR HO_4) (Kd.R_base ho0) hb);replace HB:=Aside0.mk (below_step qB hb);clear hb ho0))
    go_ret2
    exact ⟨_,qE,by (with_reducible repeat (first|apply Kd.R_alloc|apply Kd.R_drewN|apply Kd.R_drew));exact Kd.R_mono HO223.out (fun _ hk=>trivial),qB⟩
   rw [if_pos c5] at H
   have c5b0:decide (x6_1<(t217.length:Int))=true:=decide_eq_true c5
   clear c5
   by_cases c6:0≤x6_1
   rotate_left
   ·rw [if_neg c6] at H
    exact absurd H (by simp)
   rw [if_pos c6] at H
   have c6b0:decide (0≤x6_1)=true:=decide_eq_true c6
   clear c6
   replace H:=Option.bind_eq_some_iff.mp H
   obtain ⟨t225,A70,H⟩:=H
   replace H:(if (t225.length:Int)<2 then (some (([]:List (S93)),2)) else (if 0<(t225.length:Int) then (if 1≤(t225.length:Int) then ((ebbtideref02_Join.f k1 (⟨#[61]⟩:ByteArray) (t225.drop 1)).bind fun t233=>(if x4_1.length<4398046511104 then (ebbtideref03_Parse.l0 k1 (x4_1++[(⟨rdOf ByteArray.empty t225 0,t233⟩:S93)]) t217 (wrap64 (x6_1+1))) else (none))) else (none)) else (none)))=some (r1,r2):=H
   have A7:=Aside0.mk A70
   clear A70
   by_cases c8:(t225.length:Int)<2
   ·rw [if_pos c8] at H
    have c8b0:decide ((t225.length:Int)<2)=true:=decide_eq_true c8
    have c8b1:decide (t225.length<2)=true:=decide_eq_true (by omega)
    clear c8
    simp only [Option.some.injEq,Prod.mk.injEq] at H
    obtain ⟨rfl,rfl⟩:=H
    obtain ⟨Ao9,co9,eo9⟩:=Kd.R_slice HO_5.out
    subst eo9
    have p224:0≤(x6_1:Int):=of_decide_eq_true qA
    have q224:x6_1<(t217.length:Int):=of_decide_eq_true qA
    obtain ⟨ad224,e224,hx224_0⟩:=Kd.at_string (Kd.R_reads' HO_5.out).2.2 x6_1 p224 q224
    cases e224
    replace p224:=eq_true p224
    replace q224:=eq_true q224
    go_wp2_with (first|((with_reducible refine gate_callee (f:=72) rfl ?_);refine goesL_ (some 22) rfl rfl Tryz.func72 qK rfl #[.string (rdOf ByteArray.empty t217 x6_1), .int .u8 61] rfl qG ?_;(with_reducible refine (ebbtideref02_Split.calls k1 (rdOf ByteArray.empty t217 x6_1) 61 t225 _ A7.out).mono ?_);rintro e w10 ⟨v226,rfl,ho0,hb⟩;refine ⟨_,rfl,?_⟩;replace HO_4:=Aside0.mk (Kd.R_below (qR HO_4) hb);have HO227:=Aside0.mk (Kd.R_lower (Kd.R_new' ho0 (Kd.R_lt (qR HO_5))) (below_size qB));replace HO_5:=Aside0.mk (Kd.R_elder' (qR HO_5) (Kd.R_base ho0) hb);replace HB:=Aside0.mk (below_step qB hb);clear hb ho0;obtain ⟨Ao11,co11,eo11⟩:=Kd.R_slice HO227.out;subst eo11))
    go_ret2
    exact ⟨_,qE,qN,qB⟩
   rw [if_neg c8] at H
   have c8b0:decide ((t225.length:Int)<2)=false:=decide_eq_false c8
   have c8b1:decide (t225.length<2)=false:=decide_eq_false (by omega)
   clear c8
   by_cases c12:0<(t225.length:Int)
   rotate_left
   ·rw [if_neg c12] at H
    exact absurd H (by simp)
   rw [if_pos c12] at H
   have c12b0:decide (0<(t225.length:Int))=true:=decide_eq_true c12
   have c12b1:decide (0<t225.length)=true:=decide_eq_true (by omega)
   clear c12
   by_cases c13:1≤(t225.length:Int)
   rotate_left
   ·rw [if_neg c13] at H
    exact absurd H (by simp)
   rw [if_pos c13] at H
   have c13b0:=eq_true c13
   have c13b1:decide (1≤(t225.length:Int))=true:=decide_eq_true c13
   clear c13
   obtain ⟨y229,hy229⟩:∃ y_:List ByteArray,y_=(t225.drop 1):=⟨_,rfl⟩
   replace H:((ebbtideref02_Join.f k1 (⟨#[61]⟩:ByteArray) y229).bind fun t233=>(if x4_1.length<4398046511104 then (ebbtideref03_Parse.l0 k1 (x4_1++[(⟨rdOf ByteArray.empty t225 0,t233⟩:S93)]) t217 (wrap64 (x6_1+1))) else (none)))=some (r1,r2):=by first|(rw [hy229];with_reducible exact H)|(have H2_:=(Option.bind_some _ _).symm.trans H;rw [hy229];with_reducible exact H2_)|(have H2_:=(Option.bind_some _ _).symm.trans H;with_reducible exact H2_)|with_reducible exact H|(rw [hy229];exact H)|exact H
   have Ny229:=Aside0.mk hy229
   clear hy229
   replace H:=Option.bind_eq_some_iff.mp H
   obtain ⟨t233,A140,H⟩:=H
   replace H:(if x4_1.length<4398046511104 then (ebbtideref03_Parse.l0 k1 (x4_1++[(⟨rdOf ByteArray.empty t225 0,t233⟩:S93)]) t217 (wrap64 (x6_1+1))) else (none))=some (r1,r2):=H
   have A14:=Aside0.mk A140
   clear A140
   by_cases c15:x4_1.length<4398046511104
   rotate_left
   ·rw [if_neg c15] at H
    exact absurd H (by simp)
   rw [if_pos c15] at H
   have LMc15:=Aside0.mk c15
   clear c15
   obtain ⟨y234,hy234⟩:∃ y_:List (S93),y_=(x4_1++[(⟨rdOf ByteArray.empty t225 0,t233⟩:S93)]):=⟨_,rfl⟩
   replace H:(ebbtideref03_Parse.l0 k1 y234 t217 (wrap64 (x6_1+1)))=some (r1,r2):=by first|(rw [hy234];with_reducible exact H)|(have H2_:=(Option.bind_some _ _).symm.trans H;rw [hy234];with_reducible exact H2_)|(have H2_:=(Option.bind_some _ _).symm.trans H;with_reducible exact H2_)|with_reducible exact H|(rw [hy234];exact H)|exact H
   have Ny234:=Aside0.mk hy234
   clear hy234
   have H':=Aside0.mk H
   clear H
   obtain ⟨Ao16,co16,eo16⟩:=Kd.R_slice HO_5.out
   subst eo16
   have p224:0≤(x6_1:Int):=of_decide_eq_true qA
   have q224:x6_1<(t217.length:Int):=of_decide_eq_true qA
   obtain ⟨ad224,e224,hx224_0⟩:=Kd.at_string (Kd.R_reads' HO_5.out).2.2 x6_1 p224 q224
   cases e224
   replace p224:=eq_true p224
   replace q224:=eq_true q224
   try go_wp2_with (first|((with_reducible refine gate_callee (f:=72) rfl ?_);refine goesL_ (some 22) rfl rfl Tryz.func72 qK rfl #[.string (rdOf ByteArray.empty t217 x6_1), .int .u8 61] rfl qG ?_;(with_reducible refine (ebbtideref02_Split.calls k1 (rdOf ByteArray.empty t217 x6_1) 61 t225 _ A7.out).mono ?_);rintro e w17 ⟨v226,rfl,ho0,hb⟩;refine ⟨_,rfl,?_⟩;replace HO_4:=Aside0.mk (Kd.R_below (qR HO_4) hb);have HO227:=Aside0.mk (Kd.R_lower (Kd.R_new' ho0 (Kd.R_lt (qR HO_5))) (below_size qB));replace HO_5:=Aside0.mk (Kd.R_elder' (qR HO_5) (Kd.R_base ho0) hb);replace HB:=Aside0.mk (below_step qB hb);clear hb ho0;obtain ⟨Ao18,co18,eo18⟩:=Kd.R_slice HO227.out;subst eo18))
   replace HO_4:=Aside0.mk (Kd.R_drew HO_4.out)
   replace HO_5:=Aside0.mk (Kd.R_drew HO_5.out)
   replace HO227:=Aside0.mk (Kd.R_drew HO227.out)
   replace HB:=Aside0.mk (below_drew1 HB.out)
   have p228:0≤(0:Int):=(by omega)
   have q228:0<(t225.length:Int):=of_decide_eq_true qA
   obtain ⟨ad228,e228,hx228_0⟩:=Kd.at_string (Kd.R_reads' HO227.out).2.2 0 p228 q228
   cases e228
   have qi228:(0<t225.length)=True:=eq_true (by omega)
   (try rw [show ((0:Int)).toNat=0 from rfl] at hx228_0)
   (try rw [Addr.add_zero'] at hx228_0)
   replace p228:=eq_true p228
   replace q228:=eq_true q228
   have q20:(1:Int)≤((t225.length:Int):Int):=of_decide_eq_true qA
   obtain ⟨i020,hi020,_,hsz20,_⟩:=info_parts info9
   have hroom20:t225.length≤co18:=(Kd.R_reads' HO227.out).2.1
   have hC20:Kd.C Kd.string _ (some ad228) t225.length t225:=(Kd.R_reads' HO227.out).2.2
   have hcut20:=cut_from (P:=Tryz.prog) 23 9 .i64 Tryz.underlying23 hi020 1 hsz20 (some ad228) t225.length co18 1 (by omega) q20
   have hr20:=Kd.C_drop (m:=(1:Int).toNat) (c:=co18) hC20 (by omega) hroom20
   obtain ⟨A20,hA20⟩:∃ A1,A1=(if co18=(1:Int).toNat then (some ad228) else ((some ad228):Option Addr).map (·.add ((1:Int).toNat * 1))):=⟨_,rfl⟩
   obtain ⟨c20,hc20⟩:∃ c1,c1=co18 - (1:Int).toNat:=⟨_,rfl⟩
   have hy20:y229.length=t225.length - (1:Int).toNat:=(by rw [Ny229.out,List.length_drop]<;>omega)
   rw [show (t225).drop (1:Int).toNat=y229 from Ny229.out.symm] at hr20
   replace hr20:Kd.C Kd.string _ A20 y229.length y229:=(by rw [hA20];exact hr20)
   rw [← hy20,← hA20,← hc20] at hcut20
   have HR232:=Aside0.mk hr20
   have HC232:=Aside0.mk (show y229.length≤c20 from by rw [hy20,hc20];exact Nat.sub_le_sub_right hroom20 _)
   clear hr20 hC20 hroom20 hi020 hsz20 hc20
   have KY20:=Aside0.mk hy20
   have KA20:=Aside0.mk hA20
   clear hy20 hA20
   have KL20:=Aside0.mk (show 1≤t225.length from by omega)
   replace q20:=eq_true q20
   refine start_ (n:=11) (S:=fun w'=>w'.cell? ad228=some (.string (rdOf ByteArray.empty t225 0))) (ds:=[8,9]) #[false,false,false,false,false,false,false,false,false,false,false] qK rfl rfl (hx228_0) (fun hHeld=>?_);refine with_tabW ebbtideref03_Parse.tab11 ebbtideref03_Parse.bits11 (fun HT_ HW_=>?_)
   generalize w17.drew=w19 at HO_4 HO_5 HO227 HB HR232 hx228_0 hHeld ⊢
   refine pure_ (i:=0) (N:=some 26) (v:=?_) (a':=?_) #[true,false,false,false,false,false,false,false,false,false,false] rfl rfl (any_of HT_.out qK) (fun _ _ _ h=>h) (Or.inl ⟨by rfl,?_⟩) ?_ ?_
   rotate_left
   ·intro w';go_simp;with_reducible rfl
   rotate_left
   ·simp only [Act.put,List.setIfInBounds_toArray,List.set_cons_zero,List.set_cons_succ,i64_w,i32_w];rfl
   refine pure_ (i:=1) (N:=some 27) (v:=?_) (a':=?_) #[true,true,false,false,false,false,false,false,false,false,false] rfl rfl (any_of HT_.out qK) (fun _ _ _ h=>h) (Or.inl ⟨by rfl,?_⟩) ?_ ?_
   rotate_left
   ·intro w';go_simp;with_reducible rfl
   rotate_left
   ·simp only [Act.put,List.setIfInBounds_toArray,List.set_cons_zero,List.set_cons_succ,i64_w,i32_w];rfl
   refine pure_ (i:=2) (N:=some 28) (v:=?_) (a':=?_) #[true,true,true,false,false,false,false,false,false,false,false] rfl rfl (any_of HT_.out qK) (fun _ _ _ h=>h) (Or.inl ⟨by rfl,?_⟩) ?_ ?_
   rotate_left
   ·intro w';go_simp;with_reducible rfl
   rotate_left
   ·simp only [Act.put,List.setIfInBounds_toArray,List.set_cons_zero,List.set_cons_succ,i64_w,i32_w];rfl
   refine pure_ (i:=4) (N:=some 30) (v:=?_) (a':=?_) #[true,true,true,false,true,false,false,false,false,false,false] rfl rfl (any_of HT_.out qK) (fun _ _ _ h=>h) (Or.inl ⟨by rfl,?_⟩) ?_ ?_
   rotate_left
   ·intro w';go_simp;with_reducible rfl
   rotate_left
   ·simp only [Act.put,List.setIfInBounds_toArray,List.set_cons_zero,List.set_cons_succ,i64_w,i32_w];rfl
   refine pure_ (i:=5) (N:=some 31) (v:=?_) (a':=?_) #[true,true,true,false,true,true,false,false,false,false,false] rfl rfl (any_of HT_.out qK) (fun _ _ _ h=>h) (Or.inl ⟨by rfl,?_⟩) ?_ ?_
   rotate_left
   ·intro w';go_simp;with_reducible rfl
   rotate_left
   ·simp only [Act.put,List.setIfInBounds_toArray,List.set_cons_zero,List.set_cons_succ,i64_w,i32_w];rfl
   refine take_ (i:=3) (N:=some 29) (v:=?_) (a':=?_) #[true,true,true,true,true,true,false,false,false,false,false] rfl rfl (take_ofW HT_.out HW_.out qK) (fun _ _ _ h=>h) (Or.inl ⟨by rfl,?_⟩) hHeld ?_ ?_
   rotate_left
   ·intro w' s0
    go_simp
    with_reducible rfl
   rotate_left
   ·simp only [Act.put,List.setIfInBounds_toArray,List.set_cons_zero,List.set_cons_succ,i64_w,i32_w];rfl
   refine one_ (i:=6) (N:=some 32) #[true,true,true,true,true,true,true,false,false,false,false] rfl rfl (one_of HT_.out qK) (by decide) (fun K hK=>?_)
   refine goes_ Tryz.func61 qK rfl #[.string (⟨#[61]⟩:ByteArray), .slice A20 y229.length c20] (by rfl) rfl rfl qG ?_
   with_reducible refine (ebbtideref02_Join.calls k1 (⟨#[61]⟩:ByteArray) _ _ y229 t233 _ ?side1 ?side2 A14.out).mono ?_
   (case side1=>repeat (first|exact (by repeat (first|(with_reducible exact HR232.out)|(with_reducible refine Kd.C_alloc ?_ _)|(with_reducible refine Kd.C_drewN ?_ _)|(with_reducible refine Kd.C_drew ?_)|exact HR232.out))|(with_reducible refine Kd.C_alloc ?_ _)|(with_reducible refine Kd.C_drewN ?_ _)|(with_reducible refine Kd.C_drew ?_)))
   (case side2=>exact HC232.out)
   rintro e w' ⟨rfl,⟨nd,rfl⟩⟩
   refine ⟨_,rfl,?_⟩
   refine hK.out _ _ (hHeld) (fun hHeld=>?_)
   clear hK K
   refine norm_ (a':=?_) ?_ ?_
   rotate_left
   ·show Act.put _ (some 32) _=_
    simp only [Act.put,List.setIfInBounds_toArray,List.set_cons_zero,List.set_cons_succ,i64_w,i32_w]
    rfl
   refine pure_ (i:=7) (N:=some 33) (v:=?_) (a':=?_) #[true,true,true,true,true,true,true,true,false,false,false] rfl rfl (any_of HT_.out qK) (fun _ _ _ h=>h) (Or.inl ⟨by rfl,?_⟩) ?_ ?_
   rotate_left
   ·intro w';go_simp;with_reducible rfl
   rotate_left
   ·simp only [Act.put,List.setIfInBounds_toArray,List.set_cons_zero,List.set_cons_succ,i64_w,i32_w];rfl
   refine last_ (i:=8) (N:=some 34) #[true,true,true,true,true,true,true,true,true,false,false] rfl rfl (one_of HT_.out qK) (by decide) (fun K hK=>?_)
   refine value_ (w1:=?_) (v:=?_) (by rfl) rfl ?_ ?_
   rotate_left 2
   ·go_simp
    constructor
    ·rfl
    ·rfl
   refine hK.out _ _ ?_
   clear hK K
   refine norm_ (a':=?_) ?_ ?_
   rotate_left
   ·show Act.put _ (some 34) _=_
    simp only [Act.put,List.setIfInBounds_toArray,List.set_cons_zero,List.set_cons_succ,i64_w,i32_w]
    rfl
   refine last_ (i:=9) (N:=some 35) #[true,true,true,true,true,true,true,true,true,true,false] rfl rfl (one_of HT_.out qK) (by decide) (fun K hK=>?_)
   refine Kd.R_append_step k93 (w0:=w) w.heap.size (by rfl) (.tmp 26) (.tmp 34) 34 93 (.agg #[(.string ⟨#[]⟩),(.string ⟨#[]⟩)]) 32 rfl Tryz.underlying34 info93 rfl (by decide) (by omega) u4 x4_1 (⟨rdOf ByteArray.empty t225 0,t233⟩:S93) [.string (rdOf ByteArray.empty t225 0), .string t233] (fun _=>True) (fun _=>False) rfl rfl ?aP (fun _ hk=>hk.elim) ?aF ?aO ?aB ?aS ?aL ?_
   (case aP=>exact k93_mkM _ _ _ (⟨rdOf ByteArray.empty t225 0,t233⟩:S93))
   (case aB=>exact qB)
   (case aF=>exact (fun _ _=>trivial))
   (case aO=>exact (qR HO_4))
   (case aS=>exact (below_size qB))
   (case aL=>have:=LMc15.out;omega)
   intro v235 w21 ho hb hg hat
   rw [← Ny234.out] at ho
   replace HO_5:=Aside0.mk (Kd.R_over' (qR HO_5) (Kd.R_typed (qR HO_4)) (by decide) hg)
   replace HB:=Aside0.mk hb
   replace HR232:=Aside0.mk ((show Kd.C Kd.string w21 A20 y229.length y229 from by rw [Ny229.out,KA20.out];exact Kd.C_drop (m:=1) (c:=co18) ((Kd.R_reads' (Kd.R_over' (qR HO227) (Kd.R_typed (qR HO_4)) (by decide) hg)).2.2) KL20.out ((Kd.R_reads' (Kd.R_over' (qR HO227) (Kd.R_typed (qR HO_4)) (by decide) hg)).2.1)))
   replace HO227:=Aside0.mk (Kd.R_over' (qR HO227) (Kd.R_typed (qR HO_4)) (by decide) hg)
   have HO236:=Aside0.mk ho
   clear HO_4
   clear ho hb hg hat
   refine hK.out _ _ ?_
   clear hK K
   refine norm_ (a':=?_) ?_ ?_
   rotate_left
   ·show Act.put _ (some 35) _=_
    simp only [Act.put,List.setIfInBounds_toArray,List.set_cons_zero,List.set_cons_succ,i64_w,i32_w]
    rfl
   refine pure_ (i:=10) (N:=some 4) (v:=?_) (a':=?_) #[true,true,true,true,true,true,true,true,true,true,true] rfl rfl (any_of HT_.out qK) (fun _ _ _ h=>h) (Or.inl ⟨by rfl,?_⟩) ?_ ?_
   rotate_left
   ·intro w';go_simp;with_reducible rfl
   rotate_left
   ·simp only [Act.put,List.setIfInBounds_toArray,List.set_cons_zero,List.set_cons_succ,i64_w,i32_w];rfl
   refine done_ (done_of HT_.out qK) ?_
   try go_wp2
   go_roundg k1
   case measure=>have:=HK1.out;omega
   case rel=>exact ⟨(y234),(wrap64 (x6_1+1)),qS,H',⟨by have:=HK1.out;omega⟩,⟨qR HO236⟩,⟨by (with_reducible repeat (first|apply Kd.R_alloc|apply Kd.R_drewN|apply Kd.R_drew));exact Kd.R_mono HO_5.out (fun _ hk=>trivial)⟩,⟨qB⟩⟩
def ebbtideref04_Parse.j0:Nat→ByteArray→ByteArray→Bool→Option (ByteArray×(List (S93))×Int)
 | 0,_,_,_=>none
 | k+1,x4,x5,x21=>if x21=true then (some ((⟨#[]⟩:ByteArray),([]:List (S93)),2)) else ((ebbtideref03_Parse.f k x5).bind fun bt242=>(if bt242.2=0 then (some (x4,bt242.1,0)) else (some ((⟨#[]⟩:ByteArray),([]:List (S93)),bt242.2))))
def ebbtideref04_Parse.f (k:Nat) (a0:ByteArray):Option (ByteArray×(List (S93))×Int):=(ebbtideref04_Cut.f k a0).bind fun bt238=>(if bt238.2.2=true then ((ebbtideref02_Name.f k bt238.1).bind fun t241=>(ebbtideref04_Parse.j0 k bt238.1 bt238.2.1 (!t241))) else (ebbtideref04_Parse.j0 k bt238.1 bt238.2.1 true))
theorem ebbtideref04_Parse.mono_l:∀ k,(∀ y0 y1 y2,LeO (ebbtideref04_Parse.j0 k y0 y1 y2) (ebbtideref04_Parse.j0 (k+1) y0 y1 y2))
 | 0=>fun _ _ _ r h=>by simp [ebbtideref04_Parse.j0] at h
 | k+1=>by
  have ih0:=ebbtideref04_Parse.mono_l k
  ·intro y0 y1 y2
   unfold ebbtideref04_Parse.j0
   repeat' first
   | (with_reducible exact ih0 _ _ _)
   | (with_reducible exact ebbtideref02_Name.mono _ _)
   | (with_reducible exact ebbtideref03_Parse.mono _ _)
   | (with_reducible exact ebbtideref04_Cut.mono _ _)
   | (with_reducible exact LeO.refl _)
   | (with_reducible exact LeO.none _)
   | (with_reducible refine LeO.ite ?_ ?_)
   | (with_reducible refine LeO.bind ?_ (fun _=>?_))
   | exact ih0 _ _ _
   | exact ebbtideref02_Name.mono _ _
   | exact ebbtideref03_Parse.mono _ _
   | exact ebbtideref04_Cut.mono _ _
   | exact LeO.none _
   | refine LeO.ite ?_ ?_
   | refine LeO.bind ?_ (fun _=>?_)
theorem ebbtideref04_Parse.mono:∀ a0 k,LeO (ebbtideref04_Parse.f k a0) (ebbtideref04_Parse.f (k+1) a0):=by
 intro a0 k
 have ih0:=ebbtideref04_Parse.mono_l k
 unfold ebbtideref04_Parse.f
 repeat' first
   | (with_reducible exact ih0 _ _ _)
   | (with_reducible exact ebbtideref02_Name.mono _ _)
   | (with_reducible exact ebbtideref03_Parse.mono _ _)
   | (with_reducible exact ebbtideref04_Cut.mono _ _)
   | (with_reducible exact LeO.refl _)
   | (with_reducible exact LeO.none _)
   | (with_reducible refine LeO.ite ?_ ?_)
   | (with_reducible refine LeO.bind ?_ (fun _=>?_))
   | exact ih0 _ _ _
   | exact ebbtideref02_Name.mono _ _
   | exact ebbtideref03_Parse.mono _ _
   | exact ebbtideref04_Cut.mono _ _
   | exact LeO.none _
   | refine LeO.ite ?_ ?_
   | refine LeO.bind ?_ (fun _=>?_)
theorem ebbtideref04_Parse.calls (k:Nat) (a0:ByteArray) (r1:ByteArray) (r2:List (S93)) (r3:Int) (w:World) (h:ebbtideref04_Parse.f k a0=some (r1,r2,r3)) :
  Calls Tryz.prog 48 #[.string a0] w fun e w'=>∃ v1_:Value,e = .returned (.tuple #[.agg #[.string r1,v1_], .int .i64 r3])∧Kd.R k93 93 w' w.heap.size (fun _=>True) v1_ r2∧Below w.heap.size w w':=by
 have hu36:=Tryz.underlying36
 have HB:=Aside0.mk (Below.refl w.heap.size w)
 have H:((ebbtideref04_Cut.f k a0).bind fun bt238=>(if bt238.2.2=true then ((ebbtideref02_Name.f k bt238.1).bind fun t241=>(ebbtideref04_Parse.j0 k bt238.1 bt238.2.1 (!t241))) else (ebbtideref04_Parse.j0 k bt238.1 bt238.2.1 true)))=some (r1,r2,r3):=h
 clear h
 replace H:=Option.bind_eq_some_iff.mp H
 obtain ⟨⟨t238,t239,t240⟩,A20,H⟩:=H
 replace H:(if t240=true then ((ebbtideref02_Name.f k t238).bind fun t241=>(ebbtideref04_Parse.j0 k t238 t239 (!t241))) else (ebbtideref04_Parse.j0 k t238 t239 true))=some (r1,r2,r3):=H
 have A2:=Aside0.mk A20
 clear A20
 have HC3:=Aside0.mk H
 clear H
 go_enter Tryz.func48,Tryz.ntmps48
 go_upto_region 2 with (first|((with_reducible refine gate_dst (N:=2) rfl ?_);refine box_event ?hg (N:=2) ?hd (cs:=#[.string (⟨#[]⟩:ByteArray), .slice none 0 0]) (t:=36) ?hr ?_;(case hd=>rfl);(case hg=>rfl);(case hr=>first|(go_simp;done)|(go_simp;rfl));intro gb237 hg w4 hbox hb;have BK237:=Aside0.mk hbox;have GW237:Aside0 (w.heap.size≤gb237):=⟨qH⟩;have GE237:=GW237;replace HB:=Aside0.mk (below_step qB hb);clear hb hbox hg)|((with_reducible refine gate_callee (f:=70) rfl ?_);refine goesL_ (some 11) rfl rfl Tryz.func70 qK rfl #[.string a0] rfl qG ?_;(with_reducible refine (ebbtideref04_Cut.calls k a0 t238 t239 t240 _ A2.out).mono ?_);rintro e w' ⟨rfl,⟨nd,rfl⟩⟩;refine ⟨_,rfl,?_⟩))
 (try simp only [Act.put,List.setIfInBounds_toArray,List.set_cons_zero,List.set_cons_succ])
 go_cut [21] (fun v21 wc=>∃ (kq:Nat) (x21_2:Bool),v21 = .bool x21_2∧Aside0 (ebbtideref04_Parse.j0 kq t238 t239 x21_2=some (r1,r2,r3))∧Aside0 (kq≤k)∧Aside0 (wc.heap[gb237]?=some (.cells #[.string (⟨#[]⟩:ByteArray),(.slice none 0 0)] 36 (0,0)))∧Aside0 (Below w.heap.size w wc))
 case first =>
  have H:=HC3.out
  clear HC3
  by_cases c5:t240=true
  rotate_left
  ·replace c5:=Bool.eq_false_iff.mpr c5
   subst c5
   have H1:(ebbtideref04_Parse.j0 k t238 t239 true)=some (r1,r2,r3):=by rw [if_neg (show ¬ (false=true) by decide)] at H;exact H
   clear H
   have H:=H1
   clear H1
   have H':=Aside0.mk H
   clear H
   go_wp2
   go_meet
   case rel=>exact ⟨_,(true),qS,H',⟨by first|omega|exact Nat.le_refl _⟩,⟨qW BK237⟩,⟨qC⟩⟩
  subst c5
  have H1:((ebbtideref02_Name.f k t238).bind fun t241=>(ebbtideref04_Parse.j0 k t238 t239 (!t241)))=some (r1,r2,r3):=by rw [if_pos rfl] at H;exact H
  clear H
  have H:=H1
  clear H1
  replace H:=Option.bind_eq_some_iff.mp H
  obtain ⟨t241,A60,H⟩:=H
  replace H:(ebbtideref04_Parse.j0 k t238 t239 (!t241))=some (r1,r2,r3):=H
  have A6:=Aside0.mk A60
  clear A60
  have H':=Aside0.mk H
  clear H
  go_wp2_with (first|(go_at_call 54;(with_reducible refine (ebbtideref02_Name.calls k t238 t241 _ A6.out).mono ?_);rintro e w' ⟨rfl,⟨nd,rfl⟩⟩))
  go_meet
  case rel=>exact ⟨_,(!t241),qS,H',⟨by first|omega|exact Nat.le_refl _⟩,⟨qW BK237⟩,⟨qC⟩⟩
 case rest =>
  clear HC3
  obtain ⟨kq,x21_2,rfl,HA,HJ2,BK237,HB⟩:=hcut
  cases kq with
  | zero=>exact absurd HA.out (by simp [ebbtideref04_Parse.j0])
  | succ kj2 =>
   have H:=HA.out
   clear HA
   simp only [ebbtideref04_Parse.j0] at H
   by_cases c7:x21_2=true
   ·subst c7
    have H1:(some ((⟨#[]⟩:ByteArray),([]:List (S93)),2))=some (r1,r2,r3):=by rw [if_pos rfl] at H;exact H
    clear H
    have H:=H1
    clear H1
    simp only [Option.some.injEq,Prod.mk.injEq] at H
    obtain ⟨rfl,rfl,rfl⟩:=H
    obtain ⟨hcz8_0,hcz8_1,hfz8_0,hfz8_1⟩:=cf2 BK237.out
    go_wp2
    refine bodyPost_ret (results_ct rfl _ _ gb237 36 #[.string (⟨#[]⟩:ByteArray), .slice none 0 0] (0,0) _ rfl (by (with_reducible repeat (first|refine blk_drewN ?_ _|refine blk_drew ?_|refine blk_alloc ?_ _));refine blk_put (cs:=#[.string (⟨#[]⟩:ByteArray), .slice none 0 0]) ?_ 1 _ rfl;(with_reducible repeat (first|refine blk_drewN ?_ _|refine blk_drew ?_|refine blk_alloc ?_ _));refine blk_put (cs:=#[.string (⟨#[]⟩:ByteArray), .slice none 0 0]) ?_ 0 _ rfl;(with_reducible repeat (first|refine blk_drewN ?_ _|refine blk_drew ?_|refine blk_alloc ?_ _));exact BK237.out) Tryz.underlying36 rfl qK) rfl ?_
    exact ⟨_,qE,qN,qC⟩
   replace c7:=Bool.eq_false_iff.mpr c7
   subst c7
   have H1:((ebbtideref03_Parse.f kj2 t239).bind fun bt242=>(if bt242.2=0 then (some (t238,bt242.1,0)) else (some ((⟨#[]⟩:ByteArray),([]:List (S93)),bt242.2))))=some (r1,r2,r3):=by rw [if_neg (show ¬ (false=true) by decide)] at H;exact H
   clear H
   have H:=H1
   clear H1
   replace H:=Option.bind_eq_some_iff.mp H
   obtain ⟨⟨t242,t243⟩,A90,H⟩:=H
   replace H:(if t243=0 then (some (t238,t242,0)) else (some ((⟨#[]⟩:ByteArray),([]:List (S93)),t243)))=some (r1,r2,r3):=H
   have A9:=Aside0.mk A90
   clear A90
   by_cases c10:t243=0
   rotate_left
   ·rw [if_neg c10] at H
    have c10b0:(t243 ==0)=false:=beq_eq_false_iff_ne.mpr c10
    have c10b1:(t243 != 0)=true:=bne_iff_ne.mpr c10
    simp only [Option.some.injEq,Prod.mk.injEq] at H
    obtain ⟨rfl,rfl,rfl⟩:=H
    go_wp2_with (first|((with_reducible refine gate_callee (f:=97) rfl ?_);refine goesL_ (some 25) rfl rfl Tryz.func97 qK rfl #[.string t239] rfl qG ?_;(with_reducible refine (ebbtideref03_Parse.calls kj2 t239 t242 t243 _ A9.out).mono ?_);rintro e w14 ⟨v244,rfl,ho0,hb⟩;refine ⟨_,rfl,?_⟩;have HO245:=Aside0.mk (Kd.R_lower ho0 (below_size qC));replace BK237:=Aside0.mk (blk_below (g:=gb237) (o := .cells #[.string (⟨#[]⟩:ByteArray), .slice none 0 0] 36 (0,0)) (qW BK237) hb);replace HB:=Aside0.mk (below_step qC hb);clear hb ho0;obtain ⟨hcz15_0,hcz15_1,hfz15_0,hfz15_1⟩:=cf2 BK237.out))
    refine bodyPost_ret (results_ct rfl _ _ gb237 36 #[.string (⟨#[]⟩:ByteArray), .slice none 0 0] (0,0) _ rfl (by (with_reducible repeat (first|refine blk_drewN ?_ _|refine blk_drew ?_|refine blk_alloc ?_ _));refine blk_put (cs:=#[.string (⟨#[]⟩:ByteArray), .slice none 0 0]) ?_ 1 _ rfl;(with_reducible repeat (first|refine blk_drewN ?_ _|refine blk_drew ?_|refine blk_alloc ?_ _));refine blk_put (cs:=#[.string (⟨#[]⟩:ByteArray), .slice none 0 0]) ?_ 0 _ rfl;(with_reducible repeat (first|refine blk_drewN ?_ _|refine blk_drew ?_|refine blk_alloc ?_ _));exact BK237.out) Tryz.underlying36 rfl qK) rfl ?_
    exact ⟨_,qE,qN,qC⟩
   rw [if_pos c10] at H
   have c10b0:(t243 ==0)=true:=beq_iff_eq.mpr c10
   have c10b1:(t243 != 0)=false:=bne_eq_false_iff_eq.mpr c10
   clear c10
   simp only [Option.some.injEq,Prod.mk.injEq] at H
   obtain ⟨rfl,rfl,rfl⟩:=H
   go_wp2_with (first|((with_reducible refine gate_callee (f:=97) rfl ?_);refine goesL_ (some 25) rfl rfl Tryz.func97 qK rfl #[.string t239] rfl qG ?_;(with_reducible refine (ebbtideref03_Parse.calls kj2 t239 t242 t243 _ A9.out).mono ?_);rintro e w11 ⟨v244,rfl,ho0,hb⟩;refine ⟨_,rfl,?_⟩;have HO245:=Aside0.mk (Kd.R_lower ho0 (below_size qC));replace BK237:=Aside0.mk (blk_below (g:=gb237) (o := .cells #[.string (⟨#[]⟩:ByteArray), .slice none 0 0] 36 (0,0)) (qW BK237) hb);replace HB:=Aside0.mk (below_step qC hb);clear hb ho0;obtain ⟨Ao12,co12,eo12⟩:=Kd.R_slice HO245.out;subst eo12;obtain ⟨hcz13_0,hcz13_1,hfz13_0,hfz13_1⟩:=cf2 BK237.out))
   refine bodyPost_ret (results_ct rfl _ _ gb237 36 #[.string t238, .slice Ao12 t242.length co12] (0,0) _ rfl (by (with_reducible repeat (first|refine blk_drewN ?_ _|refine blk_drew ?_|refine blk_alloc ?_ _));refine blk_put (cs:=#[.string t238, .slice none 0 0]) ?_ 1 _ rfl;(with_reducible repeat (first|refine blk_drewN ?_ _|refine blk_drew ?_|refine blk_alloc ?_ _));refine blk_put (cs:=#[.string (⟨#[]⟩:ByteArray), .slice none 0 0]) ?_ 0 _ rfl;(with_reducible repeat (first|refine blk_drewN ?_ _|refine blk_drew ?_|refine blk_alloc ?_ _));exact BK237.out) Tryz.underlying36 rfl qK) rfl ?_
   exact ⟨_,qE,by (with_reducible repeat (first|apply Kd.R_alloc|apply Kd.R_drewN|apply Kd.R_drew));exact Kd.R_mono (Kd.R_far (p:=⟨gb237,1,none⟩) (Kd.R_far (p:=⟨gb237,0,none⟩) (Kd.R_types HO245.out BK237.out (by decide)) (fun _ hk=>hk.2) (.string t238)) (fun _ hk=>hk.2) (.slice Ao12 t242.length co12)) (fun _ hk=>trivial),qC⟩
def query_name.l0:Nat→Int→List ByteArray→Int→Int→Option (ByteArray)
 | 0,_,_,_,_=>none
 | k+1,x0,x5,x6,x7=>if x7<x6 then (if 0≤x7 then (if x7<(x5.length:Int) then ((query_agg.f (rdOf ByteArray.empty x5 x7)).bind fun t250=>(if t250=x0 then (some (rdOf ByteArray.empty x5 x7)) else (query_name.l0 k x0 x5 x6 (wrap64 (x7+1))))) else (none)) else (none)) else (some (⟨#[]⟩:ByteArray))
def query_name.f (k:Nat) (a0:Int):Option (ByteArray):=(some (([(⟨#[99,111,117,110,116]⟩:ByteArray),(⟨#[115,117,109]⟩:ByteArray),(⟨#[109,105,110]⟩:ByteArray),(⟨#[109,97,120]⟩:ByteArray)]:List ByteArray):List ByteArray)).bind fun y246=>(query_name.l0 k a0 y246 (y246.length:Int) 0)
theorem query_name.mono_l:∀ k,(∀ y0 y1 y2 y3,LeO (query_name.l0 k y0 y1 y2 y3) (query_name.l0 (k+1) y0 y1 y2 y3))
 | 0=>fun _ _ _ _ r h=>by simp [query_name.l0] at h
 | k+1=>by
  have ih0:=query_name.mono_l k
  ·intro y0 y1 y2 y3
   unfold query_name.l0
   repeat' first
   | (with_reducible exact ih0 _ _ _ _)
   | (with_reducible exact LeO.refl _)
   | (with_reducible exact LeO.none _)
   | (with_reducible refine LeO.ite ?_ ?_)
   | (with_reducible refine LeO.bind ?_ (fun _=>?_))
   | exact ih0 _ _ _ _
   | exact LeO.none _
   | refine LeO.ite ?_ ?_
   | refine LeO.bind ?_ (fun _=>?_)
theorem query_name.mono:∀ a0 k,LeO (query_name.f k a0) (query_name.f (k+1) a0):=by
 intro a0 k
 have ih0:=query_name.mono_l k
 unfold query_name.f
 repeat' first
   | (with_reducible exact ih0 _ _ _ _)
   | (with_reducible exact LeO.refl _)
   | (with_reducible exact LeO.none _)
   | (with_reducible refine LeO.ite ?_ ?_)
   | (with_reducible refine LeO.bind ?_ (fun _=>?_))
   | exact ih0 _ _ _ _
   | exact LeO.none _
   | refine LeO.ite ?_ ?_
   | refine LeO.bind ?_ (fun _=>?_)
theorem query_name.calls (k:Nat) (a0:Int) (r:ByteArray) (w:World) (h:query_name.f k a0=some r) :
  Calls Tryz.prog 50 #[.int .i64 a0] w fun e w'=>e = .returned (.string r)∧Below w.heap.size w w':=by
 have HB:=Aside0.mk (Below.refl w.heap.size w)
 have H:((some (([(⟨#[99,111,117,110,116]⟩:ByteArray),(⟨#[115,117,109]⟩:ByteArray),(⟨#[109,105,110]⟩:ByteArray),(⟨#[109,97,120]⟩:ByteArray)]:List ByteArray):List ByteArray)).bind fun y246=>(query_name.l0 k a0 y246 (y246.length:Int) 0))=some r:=h
 clear h
 obtain ⟨y246,hy246⟩:∃ y_:List ByteArray,y_=(([(⟨#[99,111,117,110,116]⟩:ByteArray),(⟨#[115,117,109]⟩:ByteArray),(⟨#[109,105,110]⟩:ByteArray),(⟨#[109,97,120]⟩:ByteArray)]:List ByteArray)):=⟨_,rfl⟩
 replace H:(query_name.l0 k a0 y246 (y246.length:Int) 0)=some r:=by first|(rw [hy246];with_reducible exact H)|(have H2_:=(Option.bind_some _ _).symm.trans H;rw [hy246];with_reducible exact H2_)|(have H2_:=(Option.bind_some _ _).symm.trans H;with_reducible exact H2_)|with_reducible exact H|(rw [hy246];exact H)|exact H
 have Ny246:=Aside0.mk hy246
 clear hy246
 have H':=Aside0.mk H
 clear H
 go_enter Tryz.func50,Tryz.ntmps50
 go_wp2_with (first|((with_reducible refine gate_dst (N:=5) rfl ?_);refine Kd.R_lit Kd.string _ 9 ?hg (N:=5) ?hd (xs:=([(⟨#[99,111,117,110,116]⟩:ByteArray),(⟨#[115,117,109]⟩:ByteArray),(⟨#[109,105,110]⟩:ByteArray),(⟨#[109,97,120]⟩:ByteArray)]:List ByteArray)) (inner:=[.string (⟨#[99,111,117,110,116]⟩:ByteArray), .string (⟨#[115,117,109]⟩:ByteArray), .string (⟨#[109,105,110]⟩:ByteArray), .string (⟨#[109,97,120]⟩:ByteArray)]) (ok:=fun _=>True) (okp:=fun _=>True) ?hr ?hp (fun _ hk=>hk) trivial (Below.refl _ _) (Nat.le_refl _) (by simp) ?_;(case hd=>rfl);(case hg=>rfl);(case hr=>first|(go_simp;done)|(go_simp;rfl));(case hp=>exact (Reps.one (show Kd.M Kd.string _ _ _ (⟨#[99,111,117,110,116]⟩:ByteArray) [.string (⟨#[99,111,117,110,116]⟩:ByteArray)] from rfl) (Reps.one (show Kd.M Kd.string _ _ _ (⟨#[115,117,109]⟩:ByteArray) [.string (⟨#[115,117,109]⟩:ByteArray)] from rfl) (Reps.one (show Kd.M Kd.string _ _ _ (⟨#[109,105,110]⟩:ByteArray) [.string (⟨#[109,105,110]⟩:ByteArray)] from rfl) (Reps.one (show Kd.M Kd.string _ _ _ (⟨#[109,97,120]⟩:ByteArray) [.string (⟨#[109,97,120]⟩:ByteArray)] from rfl) (Reps.none _ _))))));intro v247 w2 ho3 hb hg_ hnew_;clear hg_ hnew_;(first|rw [← Ny246.out] at ho3|(simp only [Int.reduceToNat] at ho3;rw [← Ny246.out] at ho3));have HO248:=Aside0.mk (Kd.R_lower ho3 (below_size qB));replace HB:=Aside0.mk (below_step qB hb);clear hb ho3;obtain ⟨Ao4,co4,eo4⟩:=Kd.R_slice HO248.out;subst eo4))
 go_loopg [7] k (fun kq v7 w'=>∃ (x7_1:Int),v7 = .int .i64 x7_1∧Aside0 (query_name.l0 kq a0 y246 (y246.length:Int) x7_1=some r)∧Aside0 (kq≤k)∧Aside0 (Kd.R Kd.string 9 w' w.heap.size (fun _=>True) (.slice Ao4 y246.length co4) y246)∧Aside0 (Below w.heap.size w w'))
 case atStart=>exact ⟨(0),qS,H',⟨Nat.le_refl _⟩,⟨qR HO248⟩,⟨qB⟩⟩
 case round =>
  clear H'
  obtain ⟨x7_1,rfl,HA,HK1,HO_5,HB⟩:=hrel
  cases gk with
  | zero=>exact absurd HA.out (by simp [query_name.l0])
  | succ k1 =>
   have H:=HA.out
   clear HA
   simp only [query_name.l0] at H
   by_cases c5:x7_1<(y246.length:Int)
   rotate_left
   ·rw [if_neg c5] at H
    have c5b0:decide (x7_1<(y246.length:Int))=false:=decide_eq_false c5
    clear c5
    obtain rfl:=Option.some.inj H
    go_wp2
    go_ret
    exact ⟨qE,qB⟩
   rw [if_pos c5] at H
   have c5b0:decide (x7_1<(y246.length:Int))=true:=decide_eq_true c5
   clear c5
   by_cases c6:0≤x7_1
   rotate_left
   ·rw [if_neg c6] at H
    exact absurd H (by simp)
   rw [if_pos c6] at H
   have c6b0:decide (0≤x7_1)=true:=decide_eq_true c6
   clear c6
   by_cases c7:x7_1<(y246.length:Int)
   rotate_left
   ·rw [if_neg c7] at H
    exact absurd H (by simp)
   rw [if_pos c7] at H
   have c7b0:decide (x7_1<(y246.length:Int))=true:=decide_eq_true c7
   clear c7
   replace H:=Option.bind_eq_some_iff.mp H
   obtain ⟨t250,A80,H⟩:=H
   replace H:(if t250=a0 then (some (rdOf ByteArray.empty y246 x7_1)) else (query_name.l0 k1 a0 y246 (y246.length:Int) (wrap64 (x7_1+1))))=some r:=H
   have A8:=Aside0.mk A80
   clear A80
   by_cases c9:t250=a0
   ·rw [if_pos c9] at H
    have c9b0:(t250 ==a0)=true:=beq_iff_eq.mpr c9
    have c9b1:(t250 != a0)=false:=bne_eq_false_iff_eq.mpr c9
    clear c9
    obtain rfl:=Option.some.inj H
    have p249:0≤(x7_1:Int):=of_decide_eq_true qA
    have q249:x7_1<(y246.length:Int):=of_decide_eq_true qA
    obtain ⟨ad249,e249,hx249_0⟩:=Kd.at_string (Kd.R_reads' HO_5.out).2.2 x7_1 p249 q249
    cases e249
    replace p249:=eq_true p249
    replace q249:=eq_true q249
    go_wp2_with (first|((with_reducible refine gate_callee (f:=98) rfl ?_);refine goesL_ (some 12) rfl rfl Tryz.func98 qK rfl #[.string (rdOf ByteArray.empty y246 x7_1)] rfl qG ?_;(with_reducible refine (query_agg.calls (rdOf ByteArray.empty y246 x7_1) t250 _ A8.out).mono ?_);rintro e w' ⟨rfl,⟨nd,rfl⟩⟩;refine ⟨_,rfl,?_⟩))
    go_ret
    exact ⟨qE,qB⟩
   rw [if_neg c9] at H
   have c9b0:(t250 ==a0)=false:=beq_eq_false_iff_ne.mpr c9
   have c9b1:(t250 != a0)=true:=bne_iff_ne.mpr c9
   have H':=Aside0.mk H
   clear H
   have p249:0≤(x7_1:Int):=of_decide_eq_true qA
   have q249:x7_1<(y246.length:Int):=of_decide_eq_true qA
   obtain ⟨ad249,e249,hx249_0⟩:=Kd.at_string (Kd.R_reads' HO_5.out).2.2 x7_1 p249 q249
   cases e249
   replace p249:=eq_true p249
   replace q249:=eq_true q249
   go_wp2_with (first|((with_reducible refine gate_callee (f:=98) rfl ?_);refine goesL_ (some 12) rfl rfl Tryz.func98 qK rfl #[.string (rdOf ByteArray.empty y246 x7_1)] rfl qG ?_;(with_reducible refine (query_agg.calls (rdOf ByteArray.empty y246 x7_1) t250 _ A8.out).mono ?_);rintro e w' ⟨rfl,⟨nd,rfl⟩⟩;refine ⟨_,rfl,?_⟩))
   go_roundg k1
   case measure=>have:=HK1.out;omega
   case rel=>exact ⟨(wrap64 (x7_1+1)),qS,H',⟨by have:=HK1.out;omega⟩,⟨qR HO_5⟩,⟨qB⟩⟩
def pick_Right_1.f (k:Nat) (a0_0:Int) (a0_1:ByteArray) (a0_2:ByteArray):Option (Bool):=(pick_match_may.f k a0_0 a0_1 a0_2).bind fun t252=>(some (!t252))
theorem pick_Right_1.mono:∀ a0 a1 a2 k,LeO (pick_Right_1.f k a0 a1 a2) (pick_Right_1.f (k+1) a0 a1 a2):=by
 intro a0 a1 a2 k
 unfold pick_Right_1.f
 repeat' first
   | (with_reducible exact pick_match_may.mono _ _ _ _)
   | (with_reducible exact LeO.refl _)
   | (with_reducible exact LeO.none _)
   | (with_reducible refine LeO.ite ?_ ?_)
   | (with_reducible refine LeO.bind ?_ (fun _=>?_))
   | exact pick_match_may.mono _ _ _ _
   | exact LeO.none _
   | refine LeO.ite ?_ ?_
   | refine LeO.bind ?_ (fun _=>?_)
theorem pick_Right_1.calls (k:Nat) (a0_0:Int) (a0_1:ByteArray) (a0_2:ByteArray) (r:Bool) (w:World) (h:pick_Right_1.f k a0_0 a0_1 a0_2=some r) :
  Calls Tryz.prog 102 #[.agg #[.int .i64 a0_0, .string a0_1, .string a0_2]] w fun e w'=>e = .returned (.bool r)∧Below w.heap.size w w':=by
 have hu127:=Tryz.underlying127
 have hu132:=Tryz.underlying132
 have HB:=Aside0.mk (Below.refl w.heap.size w)
 have H:((pick_match_may.f k a0_0 a0_1 a0_2).bind fun t252=>(some (!t252)))=some r:=h
 clear h
 replace H:=Option.bind_eq_some_iff.mp H
 obtain ⟨t252,A20,H⟩:=H
 replace H:(some (!t252))=some r:=H
 have A2:=Aside0.mk A20
 clear A20
 obtain rfl:=Option.some.inj H
 go_enter Tryz.func102,Tryz.ntmps102
 go_wp2_with (first|((with_reducible refine gate_dst (N:=1) rfl ?_);refine box_event ?hg (N:=1) ?hd (cs:=#[.int .i64 a0_0, .string a0_1, .string a0_2]) (t:=127) ?hr ?_;(case hd=>rfl);(case hg=>rfl);(case hr=>first|(go_simp;done)|(go_simp;rfl));intro gb251 hg w3 hbox hb;have BK251:=Aside0.mk hbox;have GW251:Aside0 (w.heap.size≤gb251):=⟨qH⟩;have GE251:=GW251;replace HB:=Aside0.mk (below_step qB hb);clear hb hbox hg;obtain ⟨hcz4_0,hcz4_1,hcz4_2,hfz4_0,hfz4_1,hfz4_2⟩:=cf3 BK251.out)|((with_reducible refine gate_callee (f:=103) rfl ?_);refine goesL_ (some 5) rfl rfl Tryz.func103 qK rfl #[.agg #[.int .i64 a0_0, .string a0_1, .string a0_2]] rfl qG ?_;(with_reducible refine (pick_match_may.calls k a0_0 a0_1 a0_2 t252 _ A2.out).mono ?_);rintro e w5 ⟨rfl,hb⟩;refine ⟨_,rfl,?_⟩;replace BK251:=Aside0.mk (blk_below (g:=gb251) (o := .cells #[.int .i64 a0_0, .string a0_1, .string a0_2] 127 (0,0)) (qW BK251) hb);replace HB:=Aside0.mk (below_step qC hb);clear hb))
 go_ret
 exact ⟨qE,qC⟩
def slices_IndexFunc_Match_by_pick_Right_1.l0:Nat→List (S127)→Int→Int→Option (Int)
 | 0,_,_,_=>none
 | k+1,x0,x7,x8=>if x8<x7 then (if 0≤x8 then (if x8<(x0.length:Int) then ((pick_Right_1.f k ((rd_T127 x0 x8).f0) ((rd_T127 x0 x8).f1) ((rd_T127 x0 x8).f2)).bind fun t254=>(if t254=true then (some x8) else (slices_IndexFunc_Match_by_pick_Right_1.l0 k x0 x7 (wrap64 (x8+1))))) else (none)) else (none)) else (some (-1))
def slices_IndexFunc_Match_by_pick_Right_1.f (k:Nat) (l0:List (S127))  : Option (Int):=slices_IndexFunc_Match_by_pick_Right_1.l0 k l0 (l0.length:Int) 0
theorem slices_IndexFunc_Match_by_pick_Right_1.mono_l:∀ k,(∀ y0 y1 y2,LeO (slices_IndexFunc_Match_by_pick_Right_1.l0 k y0 y1 y2) (slices_IndexFunc_Match_by_pick_Right_1.l0 (k+1) y0 y1 y2))
 | 0=>fun _ _ _ r h=>by simp [slices_IndexFunc_Match_by_pick_Right_1.l0] at h
 | k+1=>by
  have ih0:=slices_IndexFunc_Match_by_pick_Right_1.mono_l k
  ·intro y0 y1 y2
   unfold slices_IndexFunc_Match_by_pick_Right_1.l0
   repeat' first
   | (with_reducible exact ih0 _ _ _)
   | (with_reducible exact pick_Right_1.mono _ _ _ _)
   | (with_reducible exact LeO.refl _)
   | (with_reducible exact LeO.none _)
   | (with_reducible refine LeO.ite ?_ ?_)
   | (with_reducible refine LeO.bind ?_ (fun _=>?_))
   | exact ih0 _ _ _
   | exact pick_Right_1.mono _ _ _ _
   | exact LeO.none _
   | refine LeO.ite ?_ ?_
   | refine LeO.bind ?_ (fun _=>?_)
theorem slices_IndexFunc_Match_by_pick_Right_1.mono:∀ a0 k,LeO (slices_IndexFunc_Match_by_pick_Right_1.f k a0) (slices_IndexFunc_Match_by_pick_Right_1.f (k+1) a0):=by
 intro a0 k
 have ih0:=slices_IndexFunc_Match_by_pick_Right_1.mono_l k
 unfold slices_IndexFunc_Match_by_pick_Right_1.f
 repeat' first
   | (with_reducible exact ih0 _ _ _)
   | (with_reducible exact pick_Right_1.mono _ _ _ _)
   | (with_reducible exact LeO.refl _)
   | (with_reducible exact LeO.none _)
   | (with_reducible refine LeO.ite ?_ ?_)
   | (with_reducible refine LeO.bind ?_ (fun _=>?_))
   | exact ih0 _ _ _
   | exact pick_Right_1.mono _ _ _ _
   | exact LeO.none _
   | refine LeO.ite ?_ ?_
   | refine LeO.bind ?_ (fun _=>?_)
theorem slices_IndexFunc_Match_by_pick_Right_1.calls (k:Nat) (A0:Option Addr) (c0:Nat) (l0:List (S127))  (r:Int) (w:World) (hr0:Kd.C k127 w A0 l0.length l0) (hc0:l0.length≤c0) (h:slices_IndexFunc_Match_by_pick_Right_1.f k l0=some r) :
  Calls Tryz.prog 136 #[.slice A0 l0.length c0, .func (.func 102) #[] #[]] w fun e w'=>e = .returned (.int .i64 r)∧Below w.heap.size w w':=by
 have hu127:=Tryz.underlying127
 have HR0:=Aside0.mk hr0
 have HC0:=Aside0.mk hc0
 clear hr0 hc0
 have HB:=Aside0.mk (Below.refl w.heap.size w)
 have H:(slices_IndexFunc_Match_by_pick_Right_1.l0 k l0 (l0.length:Int) 0)=some r:=h
 clear h
 have H':=Aside0.mk H
 clear H
 go_enter Tryz.func136,Tryz.ntmps136
 go_wp2
 go_loopg [8] k (fun kq v8 w'=>∃ (x8_1:Int),v8 = .int .i64 x8_1∧Aside0 (slices_IndexFunc_Match_by_pick_Right_1.l0 kq l0 (l0.length:Int) x8_1=some r)∧Aside0 (kq≤k)∧Aside0 (Below w.heap.size w w'))
 case atStart=>exact ⟨(0),qS,H',⟨Nat.le_refl _⟩,⟨qB⟩⟩
 case round =>
  clear H'
  obtain ⟨x8_1,rfl,HA,HK1,HB⟩:=hrel
  cases gk with
  | zero=>exact absurd HA.out (by simp [slices_IndexFunc_Match_by_pick_Right_1.l0])
  | succ k1 =>
   have H:=HA.out
   clear HA
   simp only [slices_IndexFunc_Match_by_pick_Right_1.l0] at H
   by_cases c3:x8_1<(l0.length:Int)
   rotate_left
   ·rw [if_neg c3] at H
    have c3b0:decide (x8_1<(l0.length:Int))=false:=decide_eq_false c3
    clear c3
    obtain rfl:=Option.some.inj H
    go_wp2
    go_ret
    exact ⟨qE,qB⟩
   rw [if_pos c3] at H
   have c3b0:decide (x8_1<(l0.length:Int))=true:=decide_eq_true c3
   clear c3
   by_cases c4:0≤x8_1
   rotate_left
   ·rw [if_neg c4] at H
    exact absurd H (by simp)
   rw [if_pos c4] at H
   have c4b0:decide (0≤x8_1)=true:=decide_eq_true c4
   clear c4
   by_cases c5:x8_1<(l0.length:Int)
   rotate_left
   ·rw [if_neg c5] at H
    exact absurd H (by simp)
   rw [if_pos c5] at H
   have c5b0:decide (x8_1<(l0.length:Int))=true:=decide_eq_true c5
   clear c5
   replace H:=Option.bind_eq_some_iff.mp H
   obtain ⟨t254,A60,H⟩:=H
   replace H:(if t254=true then (some x8_1) else (slices_IndexFunc_Match_by_pick_Right_1.l0 k1 l0 (l0.length:Int) (wrap64 (x8_1+1))))=some r:=H
   have A6:=Aside0.mk A60
   clear A60
   by_cases c7:t254=true
   ·subst c7
    have H1:(some x8_1)=some r:=by rw [if_pos rfl] at H;exact H
    clear H
    have H:=H1
    clear H1
    obtain rfl:=Option.some.inj H
    have p253:0≤(x8_1:Int):=of_decide_eq_true qA
    have q253:x8_1<(l0.length:Int):=of_decide_eq_true qA
    obtain ⟨ad253,e253,hx253_0,hx253_1,hx253_2⟩:=at_T127 HR0.out x8_1 p253 q253
    cases e253
    replace hx253_0:=(HB.out.cell (World.block_lt_of_cell? w _ hx253_0)).trans hx253_0
    replace hx253_1:=(HB.out.cell (World.block_lt_of_cell? w _ hx253_1)).trans hx253_1
    replace hx253_2:=(HB.out.cell (World.block_lt_of_cell? w _ hx253_2)).trans hx253_2
    replace p253:=eq_true p253
    replace q253:=eq_true q253
    go_wp2_with (first|(go_at_call 102;(with_reducible refine (pick_Right_1.calls k1 ((rd_T127 l0 x8_1).f0) ((rd_T127 l0 x8_1).f1) ((rd_T127 l0 x8_1).f2) true _ A6.out).mono ?_);rintro e w8 ⟨rfl,hb⟩;replace HB:=Aside0.mk (below_step qB hb);clear hb))
    go_ret
    exact ⟨qE,qB⟩
   replace c7:=Bool.eq_false_iff.mpr c7
   subst c7
   have H1:(slices_IndexFunc_Match_by_pick_Right_1.l0 k1 l0 (l0.length:Int) (wrap64 (x8_1+1)))=some r:=by rw [if_neg (show ¬ (false=true) by decide)] at H;exact H
   clear H
   have H:=H1
   clear H1
   have H':=Aside0.mk H
   clear H
   have p253:0≤(x8_1:Int):=of_decide_eq_true qA
   have q253:x8_1<(l0.length:Int):=of_decide_eq_true qA
   obtain ⟨ad253,e253,hx253_0,hx253_1,hx253_2⟩:=at_T127 HR0.out x8_1 p253 q253
   cases e253
   replace hx253_0:=(HB.out.cell (World.block_lt_of_cell? w _ hx253_0)).trans hx253_0
   replace hx253_1:=(HB.out.cell (World.block_lt_of_cell? w _ hx253_1)).trans hx253_1
   replace hx253_2:=(HB.out.cell (World.block_lt_of_cell? w _ hx253_2)).trans hx253_2
   replace p253:=eq_true p253
   replace q253:=eq_true q253
   go_wp2_with (first|(go_at_call 102;(with_reducible refine (pick_Right_1.calls k1 ((rd_T127 l0 x8_1).f0) ((rd_T127 l0 x8_1).f1) ((rd_T127 l0 x8_1).f2) false _ A6.out).mono ?_);rintro e w9 ⟨rfl,hb⟩;replace HB:=Aside0.mk (below_step qB hb);clear hb))
   go_roundg k1
   case measure=>have:=HK1.out;omega
   case rel=>exact ⟨(wrap64 (x8_1+1)),qS,H',⟨by have:=HK1.out;omega⟩,⟨qB⟩⟩
def slices_ContainsFunc_Match_by_pick_Right_1.f (k:Nat) (l0:List (S127))  : Option (Bool):=(slices_IndexFunc_Match_by_pick_Right_1.f k l0).bind fun t255=>(some (decide (t255≥0)))
theorem slices_ContainsFunc_Match_by_pick_Right_1.mono:∀ a0 k,LeO (slices_ContainsFunc_Match_by_pick_Right_1.f k a0) (slices_ContainsFunc_Match_by_pick_Right_1.f (k+1) a0):=by
 intro a0 k
 unfold slices_ContainsFunc_Match_by_pick_Right_1.f
 repeat' first
   | (with_reducible exact slices_IndexFunc_Match_by_pick_Right_1.mono _ _)
   | (with_reducible exact LeO.refl _)
   | (with_reducible exact LeO.none _)
   | (with_reducible refine LeO.ite ?_ ?_)
   | (with_reducible refine LeO.bind ?_ (fun _=>?_))
   | exact slices_IndexFunc_Match_by_pick_Right_1.mono _ _
   | exact LeO.none _
   | refine LeO.ite ?_ ?_
   | refine LeO.bind ?_ (fun _=>?_)
theorem slices_ContainsFunc_Match_by_pick_Right_1.calls (k:Nat) (A0:Option Addr) (c0:Nat) (l0:List (S127))  (r:Bool) (w:World) (hr0:Kd.C k127 w A0 l0.length l0) (hc0:l0.length≤c0) (h:slices_ContainsFunc_Match_by_pick_Right_1.f k l0=some r) :
  Calls Tryz.prog 101 #[.slice A0 l0.length c0, .func (.func 102) #[] #[]] w fun e w'=>e = .returned (.bool r)∧Below w.heap.size w w':=by
 have HR0:=Aside0.mk hr0
 have HC0:=Aside0.mk hc0
 clear hr0 hc0
 have HB:=Aside0.mk (Below.refl w.heap.size w)
 have H:((slices_IndexFunc_Match_by_pick_Right_1.f k l0).bind fun t255=>(some (decide (t255≥0))))=some r:=h
 clear h
 replace H:=Option.bind_eq_some_iff.mp H
 obtain ⟨t255,A30,H⟩:=H
 replace H:(some (decide (t255≥0)))=some r:=H
 have A3:=Aside0.mk A30
 clear A30
 obtain rfl:=Option.some.inj H
 go_enter Tryz.func101,Tryz.ntmps101
 go_wp2_with (first|((with_reducible refine gate_callee (f:=136) rfl ?_);refine goesL_ (some 7) rfl rfl Tryz.func136 qK rfl #[.slice A0 l0.length c0, .func (.func 102) #[] #[]] rfl qG ?_;(with_reducible refine (slices_IndexFunc_Match_by_pick_Right_1.calls k _ _ l0  t255 _ ?side1 ?side2 A3.out).mono ?_);(case side1=>repeat (first|exact HR0.out|(with_reducible refine Kd.C_alloc ?_ _)|(with_reducible refine Kd.C_drewN ?_ _)|(with_reducible refine Kd.C_drew ?_)));(case side2=>exact HC0.out);rintro e w4 ⟨rfl,hb⟩;refine ⟨_,rfl,?_⟩;replace HB:=Aside0.mk (below_step qB hb);clear hb))
 go_ret
 exact ⟨qE,qB⟩
def pick_Right.f (k:Nat) (l0:List (S127)):Option (Bool):=if (l0.length:Int)≤4 then ((slices_ContainsFunc_Match_by_pick_Right_1.f k l0).bind fun t256=>(some (!t256))) else (some false)
theorem pick_Right.mono:∀ a0 k,LeO (pick_Right.f k a0) (pick_Right.f (k+1) a0):=by
 intro a0 k
 unfold pick_Right.f
 repeat' first
   | (with_reducible exact slices_ContainsFunc_Match_by_pick_Right_1.mono _ _)
   | (with_reducible exact LeO.refl _)
   | (with_reducible exact LeO.none _)
   | (with_reducible refine LeO.ite ?_ ?_)
   | (with_reducible refine LeO.bind ?_ (fun _=>?_))
   | exact slices_ContainsFunc_Match_by_pick_Right_1.mono _ _
   | exact LeO.none _
   | refine LeO.ite ?_ ?_
   | refine LeO.bind ?_ (fun _=>?_)
theorem pick_Right.calls (k:Nat) (A0:Option Addr) (c0:Nat) (l0:List (S127)) (r:Bool) (w:World) (hr0:Kd.C k127 w A0 l0.length l0) (hc0:l0.length≤c0) (h:pick_Right.f k l0=some r) :
  Calls Tryz.prog 52 #[.slice A0 l0.length c0] w fun e w'=>e = .returned (.bool r)∧Below w.heap.size w w':=by
 have HR0:=Aside0.mk hr0
 have HC0:=Aside0.mk hc0
 clear hr0 hc0
 have HB:=Aside0.mk (Below.refl w.heap.size w)
 have H:(if (l0.length:Int)≤4 then ((slices_ContainsFunc_Match_by_pick_Right_1.f k l0).bind fun t256=>(some (!t256))) else (some false))=some r:=h
 clear h
 by_cases c2:(l0.length:Int)≤4
 rotate_left
 ·rw [if_neg c2] at H
  have c2b0:decide ((l0.length:Int)≤4)=false:=decide_eq_false c2
  have c2b1:decide (l0.length≤4)=false:=decide_eq_false (by omega)
  clear c2
  obtain rfl:=Option.some.inj H
  go_enter Tryz.func52,Tryz.ntmps52
  go_wp2
  go_ret
  exact ⟨qE,qB⟩
 rw [if_pos c2] at H
 have c2b0:decide ((l0.length:Int)≤4)=true:=decide_eq_true c2
 have c2b1:decide (l0.length≤4)=true:=decide_eq_true (by omega)
 clear c2
 replace H:=Option.bind_eq_some_iff.mp H
 obtain ⟨t256,A30,H⟩:=H
 replace H:(some (!t256))=some r:=H
 have A3:=Aside0.mk A30
 clear A30
 obtain rfl:=Option.some.inj H
 go_enter Tryz.func52,Tryz.ntmps52
 go_wp2_with (first|(go_at_call 101;(with_reducible refine (slices_ContainsFunc_Match_by_pick_Right_1.calls k _ _ l0  t256 _ ?side1 ?side2 A3.out).mono ?_);(case side1=>repeat (first|exact HR0.out|(with_reducible refine Kd.C_alloc ?_ _)|(with_reducible refine Kd.C_drewN ?_ _)|(with_reducible refine Kd.C_drew ?_)));(case side2=>exact HC0.out);rintro e w4 ⟨rfl,hb⟩;replace HB:=Aside0.mk (below_step qB hb);clear hb))
 go_ret
 exact ⟨qE,qB⟩
end Go.Proofs.YteaadaaghhojfaaGreatDoor.PQu
