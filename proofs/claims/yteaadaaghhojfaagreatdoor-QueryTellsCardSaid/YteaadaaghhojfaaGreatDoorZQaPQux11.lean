import Derived.Test.YteaadaaghhojfaaGreatDoorZQaPQux0
import Derived.Test.YteaadaaghhojfaaGreatDoorZQaPQux1
import Derived.Test.YteaadaaghhojfaaGreatDoorZQaPQux4
import Derived.Test.YteaadaaghhojfaaGreatDoorZQaPQux8
import Derived.Test.YteaadaaghhojfaaGreatDoorZQaPQux9
import Derived.Test.YteaadaaghhojfaaGreatDoorZQaPQux10
namespace Go.Proofs.YteaadaaghhojfaaGreatDoor.PQu
open Go.RowKit Go.Proofs.YteaadaaghhojfaaGreatDoorW.PrintWords Go.Proofs.YteaadaaghhojfaaGreatDoorW.PrintLast Go.Proofs.YteaadaaghhojfaaGreatDoorW.PrintMore
attribute [local go_sem] max2_int min2_int max_two min_two max_three min_three max_four min_four
set_option linter.unusedVariables false
set_option linter.unusedSimpArgs false
set_option maxHeartbeats 8000000
set_option maxRecDepth 100000
attribute [local go_sem high] eqA127
def tag_Text.l0:Nat→List ByteArray→List (S93)→Int→Int→Option (ByteArray)
 | 0,_,_,_,_=>none
 | k+1,x3,x6,x7,x8=>if x8<x7 then (if 0≤x8 then (if x8<(x6.length:Int) then ((word_Join.f (⟨#[61]⟩:ByteArray) (([(rd_T93 x6 x8).f0,(rd_T93 x6 x8).f1]:List ByteArray))).bind fun t327=>(if x3.length<8796093022208 then (tag_Text.l0 k (x3++[t327]) x6 x7 (wrap64 (x8+1))) else (none))) else (none)) else (none)) else ((word_Join.f (⟨#[44]⟩:ByteArray) x3).bind fun t331=>(some t331))
def tag_Text.f (k:Nat) (l0:List (S93)):Option (ByteArray):=tag_Text.l0 k ([]:List ByteArray) l0 (l0.length:Int) 0
theorem tag_Text.mono_l:∀ k,(∀ y0 y1 y2 y3,LeO (tag_Text.l0 k y0 y1 y2 y3) (tag_Text.l0 (k+1) y0 y1 y2 y3))
 | 0=>fun _ _ _ _ r h=>by simp [tag_Text.l0] at h
 | k+1=>by
  have ih0:=tag_Text.mono_l k
  ·intro y0 y1 y2 y3
   unfold tag_Text.l0
   repeat' first
   | (with_reducible exact ih0 _ _ _ _)
   | (with_reducible exact LeO.refl _)
   | (with_reducible exact LeO.none _)
   | (with_reducible refine LeO.ite ?_ ?_)
   | (with_reducible refine LeO.bind ?_ (fun _=>?_))
   | exact ih0 _ _ _ _
   | exact LeO.none _
   | refine LeO.ite ?_ ?_
   | refine LeO.bind ?_ (fun _=>?_)
theorem tag_Text.mono:∀ a0 k,LeO (tag_Text.f k a0) (tag_Text.f (k+1) a0):=by
 intro a0 k
 have ih0:=tag_Text.mono_l k
 unfold tag_Text.f
 repeat' first
   | (with_reducible exact ih0 _ _ _ _)
   | (with_reducible exact LeO.refl _)
   | (with_reducible exact LeO.none _)
   | (with_reducible refine LeO.ite ?_ ?_)
   | (with_reducible refine LeO.bind ?_ (fun _=>?_))
   | exact ih0 _ _ _ _
   | exact LeO.none _
   | refine LeO.ite ?_ ?_
   | refine LeO.bind ?_ (fun _=>?_)
theorem tag_Text.calls (k:Nat) (A0:Option Addr) (c0:Nat) (l0:List (S93)) (r:ByteArray) (w:World) (hr0:Kd.C k93 w A0 l0.length l0) (hc0:l0.length≤c0) (h:tag_Text.f k l0=some r) :
  Calls Tryz.prog 75 #[.slice A0 l0.length c0] w fun e w'=>e = .returned (.string r)∧Below w.heap.size w w':=by
 have hu93:=Tryz.underlying93
 have HR0:=Aside0.mk hr0
 have HC0:=Aside0.mk hc0
 clear hr0 hc0
 have HB:=Aside0.mk (Below.refl w.heap.size w)
 have H:(tag_Text.l0 k ([]:List ByteArray) l0 (l0.length:Int) 0)=some r:=h
 clear h
 have H':=Aside0.mk H
 clear H
 go_enter Tryz.func75,Tryz.ntmps75
 go_wp2
 go_loopg [3,8] k (fun kq v3 v8 w'=>∃ (x3_1:List ByteArray) (x8_1:Int),v8 = .int .i64 x8_1∧Aside0 (tag_Text.l0 kq x3_1 l0 (l0.length:Int) x8_1=some r)∧Aside0 (kq≤k)∧Aside0 (Kd.R Kd.string 9 w' w.heap.size (fun _=>True) v3 x3_1)∧Aside0 (Below w.heap.size w w'))
 case atStart=>exact ⟨(([]:List ByteArray)),(0),qS,H',⟨Nat.le_refl _⟩,⟨qN⟩,⟨qB⟩⟩
 case round =>
  clear H'
  obtain ⟨x3_1,x8_1,rfl,HA,HK1,HO_3,HB⟩:=hrel
  cases gk with
  | zero=>exact absurd HA.out (by simp [tag_Text.l0])
  | succ k1 =>
   have H:=HA.out
   clear HA
   simp only [tag_Text.l0] at H
   by_cases c2:x8_1<(l0.length:Int)
   rotate_left
   ·rw [if_neg c2] at H
    have c2b0:decide (x8_1<(l0.length:Int))=false:=decide_eq_false c2
    clear c2
    replace H:=Option.bind_eq_some_iff.mp H
    obtain ⟨t331,A140,H⟩:=H
    replace H:(some t331)=some r:=H
    have A14:=Aside0.mk A140
    clear A140
    obtain rfl:=Option.some.inj H
    obtain ⟨Ao15,co15,eo15⟩:=Kd.R_slice HO_3.out
    subst eo15
    go_wp2_with (first|((with_reducible refine gate_callee (f:=57) rfl ?_);refine goesL_ (some 23) rfl rfl Tryz.func57 qK rfl #[.string (⟨#[44]⟩:ByteArray), .slice Ao15 x3_1.length co15] rfl qG ?_;(with_reducible refine (word_Join.calls (⟨#[44]⟩:ByteArray) _ _ x3_1 t331 _ ?side1 ?side2 A14.out).mono ?_);(case side1=>repeat (first|exact (Kd.R_reads' HO_3.out).2.2|(with_reducible refine Kd.C_alloc ?_ _)|(with_reducible refine Kd.C_drewN ?_ _)|(with_reducible refine Kd.C_drew ?_)));(case side2=>exact (Kd.R_reads' HO_3.out).2.1);rintro e w16 ⟨rfl,hb⟩;refine ⟨_,rfl,?_⟩;replace HO_3:=Aside0.mk (Kd.R_below (qR HO_3) hb);replace HB:=Aside0.mk (below_step qB hb);clear hb))
    go_ret
    exact ⟨qE,qB⟩
   rw [if_pos c2] at H
   have c2b0:decide (x8_1<(l0.length:Int))=true:=decide_eq_true c2
   clear c2
   by_cases c3:0≤x8_1
   rotate_left
   ·rw [if_neg c3] at H
    exact absurd H (by simp)
   rw [if_pos c3] at H
   have c3b0:decide (0≤x8_1)=true:=decide_eq_true c3
   clear c3
   by_cases c4:x8_1<(l0.length:Int)
   rotate_left
   ·rw [if_neg c4] at H
    exact absurd H (by simp)
   rw [if_pos c4] at H
   have c4b0:decide (x8_1<(l0.length:Int))=true:=decide_eq_true c4
   clear c4
   obtain ⟨y324,hy324⟩:∃ y_:List ByteArray,y_=(([(rd_T93 l0 x8_1).f0,(rd_T93 l0 x8_1).f1]:List ByteArray)):=⟨_,rfl⟩
   replace H:((word_Join.f (⟨#[61]⟩:ByteArray) y324).bind fun t327=>(if x3_1.length<8796093022208 then (tag_Text.l0 k1 (x3_1++[t327]) l0 (l0.length:Int) (wrap64 (x8_1+1))) else (none)))=some r:=by first|(rw [hy324];with_reducible exact H)|(have H2_:=(Option.bind_some _ _).symm.trans H;rw [hy324];with_reducible exact H2_)|(have H2_:=(Option.bind_some _ _).symm.trans H;with_reducible exact H2_)|with_reducible exact H|(rw [hy324];exact H)|exact H
   have Ny324:=Aside0.mk hy324
   clear hy324
   replace H:=Option.bind_eq_some_iff.mp H
   obtain ⟨t327,A50,H⟩:=H
   replace H:(if x3_1.length<8796093022208 then (tag_Text.l0 k1 (x3_1++[t327]) l0 (l0.length:Int) (wrap64 (x8_1+1))) else (none))=some r:=H
   have A5:=Aside0.mk A50
   clear A50
   by_cases c6:x3_1.length<8796093022208
   rotate_left
   ·rw [if_neg c6] at H
    exact absurd H (by simp)
   rw [if_pos c6] at H
   have LMc6:=Aside0.mk c6
   clear c6
   obtain ⟨y328,hy328⟩:∃ y_:List ByteArray,y_=(x3_1++[t327]):=⟨_,rfl⟩
   replace H:(tag_Text.l0 k1 y328 l0 (l0.length:Int) (wrap64 (x8_1+1)))=some r:=by first|(rw [hy328];with_reducible exact H)|(have H2_:=(Option.bind_some _ _).symm.trans H;rw [hy328];with_reducible exact H2_)|(have H2_:=(Option.bind_some _ _).symm.trans H;with_reducible exact H2_)|with_reducible exact H|(rw [hy328];exact H)|exact H
   have Ny328:=Aside0.mk hy328
   clear hy328
   have H':=Aside0.mk H
   clear H
   have p322:0≤(x8_1:Int):=of_decide_eq_true qA
   have q322:x8_1<(l0.length:Int):=of_decide_eq_true qA
   obtain ⟨ad322,e322,hx322_0,hx322_1⟩:=at_T93 HR0.out x8_1 p322 q322
   cases e322
   replace hx322_0:=(HB.out.cell (World.block_lt_of_cell? w _ hx322_0)).trans hx322_0
   replace hx322_1:=(HB.out.cell (World.block_lt_of_cell? w _ hx322_1)).trans hx322_1
   replace p322:=eq_true p322
   replace q322:=eq_true q322
   go_wp2_with (first|((with_reducible refine gate_dst (N:=5) rfl ?_);refine box_event ?hg (N:=5) ?hd (cs:=#[.string (⟨#[]⟩:ByteArray), .string (⟨#[]⟩:ByteArray)]) (t:=93) ?hr ?_;(case hd=>rfl);(case hg=>rfl);(case hr=>first|(go_simp;done)|(go_simp;rfl));intro gb323 hg w7 hbox hb;replace HO_3:=Aside0.mk (Kd.R_below (qR HO_3) hb);have BK323:=Aside0.mk hbox;have GW323:Aside0 (w.heap.size≤gb323):=⟨qH⟩;have GE323:=GW323;replace HB:=Aside0.mk (below_step qB hb);clear hb hbox hg;obtain ⟨hcz8_0,hcz8_1,hfz8_0,hfz8_1⟩:=cf2 BK323.out)|((with_reducible refine gate_dst (N:=17) rfl ?_);refine Kd.R_lit Kd.string _ 9 ?hg (N:=17) ?hd (xs:=([(rd_T93 l0 x8_1).f0,(rd_T93 l0 x8_1).f1]:List ByteArray)) (inner:=[.string ((rd_T93 l0 x8_1).f0), .string ((rd_T93 l0 x8_1).f1)]) (ok:=fun _=>True) (okp:=fun _=>True) ?hr ?hp (fun _ hk=>hk) trivial (Below.refl _ _) (Nat.le_refl _) (by simp) ?_;(case hd=>rfl);(case hg=>rfl);(case hr=>first|(go_simp;done)|(go_simp;rfl));(case hp=>exact (Reps.one (show Kd.M Kd.string _ _ _ ((rd_T93 l0 x8_1).f0) [.string ((rd_T93 l0 x8_1).f0)] from rfl) (Reps.one (show Kd.M Kd.string _ _ _ ((rd_T93 l0 x8_1).f1) [.string ((rd_T93 l0 x8_1).f1)] from rfl) (Reps.none _ _))));intro v325 w9 ho10 hb hg_ hnew_;clear hg_ hnew_;(first|rw [← Ny324.out] at ho10|(simp only [Int.reduceToNat] at ho10;rw [← Ny324.out] at ho10));have HO326:=Aside0.mk (Kd.R_lower (Kd.R_new' ho10 (Kd.R_lt (by (with_reducible repeat (first|apply Kd.R_alloc|apply Kd.R_drewN|apply Kd.R_drew));exact (Kd.R_mono (Kd.R_far (p:=⟨gb323,1,none⟩) (Kd.R_far (p:=⟨gb323,0,none⟩) (Kd.R_types HO_3.out BK323.out (by decide)) (fun _ hk=>hk.2) (.string ((rd_T93 l0 x8_1).f0))) (fun _ hk=>hk.2) (.string ((rd_T93 l0 x8_1).f1))) (fun _ h_=>h_.1))))) (below_size qC));replace HO_3:=Aside0.mk (Kd.R_elder' (by (with_reducible repeat (first|apply Kd.R_alloc|apply Kd.R_drewN|apply Kd.R_drew));exact (Kd.R_mono (Kd.R_far (p:=⟨gb323,1,none⟩) (Kd.R_far (p:=⟨gb323,0,none⟩) (Kd.R_types HO_3.out BK323.out (by decide)) (fun _ hk=>hk.2) (.string ((rd_T93 l0 x8_1).f0))) (fun _ hk=>hk.2) (.string ((rd_T93 l0 x8_1).f1))) (fun _ h_=>h_.1))) (Kd.R_base ho10) hb);replace BK323:=Aside0.mk (blk_below (g:=gb323) (o := .cells #[.string ((rd_T93 l0 x8_1).f0), .string ((rd_T93 l0 x8_1).f1)] 93 (0,0)) (by (with_reducible repeat (first|refine blk_drewN ?_ _|refine blk_drew ?_|refine blk_alloc ?_ _));refine blk_put (cs:=#[.string ((rd_T93 l0 x8_1).f0), .string (⟨#[]⟩:ByteArray)]) ?_ 1 _ rfl;(with_reducible repeat (first|refine blk_drewN ?_ _|refine blk_drew ?_|refine blk_alloc ?_ _));refine blk_put (cs:=#[.string (⟨#[]⟩:ByteArray), .string (⟨#[]⟩:ByteArray)]) ?_ 0 _ rfl;(with_reducible repeat (first|refine blk_drewN ?_ _|refine blk_drew ?_|refine blk_alloc ?_ _));exact BK323.out) hb);replace HB:=Aside0.mk (below_step qC hb);clear hb ho10;obtain ⟨Ao11,co11,eo11⟩:=Kd.R_slice HO326.out;subst eo11)|((with_reducible refine gate_callee (f:=57) rfl ?_);refine goesL_ (some 18) rfl rfl Tryz.func57 qK rfl #[.string (⟨#[61]⟩:ByteArray), .slice Ao11 y324.length co11] rfl qG ?_;(with_reducible refine (word_Join.calls (⟨#[61]⟩:ByteArray) _ _ y324 t327 _ ?side1 ?side2 A5.out).mono ?_);(case side1=>repeat (first|exact (Kd.R_reads' HO326.out).2.2|(with_reducible refine Kd.C_alloc ?_ _)|(with_reducible refine Kd.C_drewN ?_ _)|(with_reducible refine Kd.C_drew ?_)));(case side2=>exact (Kd.R_reads' HO326.out).2.1);rintro e w12 ⟨rfl,hb⟩;refine ⟨_,rfl,?_⟩;replace HO_3:=Aside0.mk (Kd.R_below (qR HO_3) hb);replace HO326:=Aside0.mk (Kd.R_below (qR HO326) hb);replace BK323:=Aside0.mk (blk_below (g:=gb323) (o := .cells #[.string ((rd_T93 l0 x8_1).f0), .string ((rd_T93 l0 x8_1).f1)] 93 (0,0)) (qW BK323) hb);replace HB:=Aside0.mk (below_step qC hb);clear hb)|((with_reducible refine gate_builtin (b := .append) (xs:=#[.tmp 12, .tmp 19]) rfl ?_);at_builtin;refine Kd.R_append Kd.string (w0:=w) w.heap.size rfl (.tmp 12) (.tmp 19) 23 9 (.string ⟨#[]⟩) 16 rfl Tryz.underlying23 info9 rfl (by decide) (by omega) u3 x3_1 t327 [.string t327] (fun k_=>some k_≠(.slice Ao11 y324.length co11:Value).ownBlock) (fun _=>False) rfl rfl ?aP (fun _ hk=>hk.elim) ?aF ?aO ?aB ?aS ?aL ?_;(case aP=>exact rfl);(case aB=>exact qC);(case aF=>exact (fun k_ hk=>Kd.fresh' (Kd.R_lt (qR HO326)) k_ hk));(case aO=>exact (by (with_reducible repeat (first|apply Kd.R_alloc|apply Kd.R_drewN|apply Kd.R_drew));exact Kd.R_mono HO_3.out (fun _ hk=>hk.2)));(case aS=>exact (below_size qC));(case aL=>have:=LMc6.out;omega);intro v329 w13 ho hb hg hat;rw [← Ny328.out] at ho;replace BK323:=Aside0.mk (blk_grown (g:=gb323) (o := .cells #[.string ((rd_T93 l0 x8_1).f0), .string ((rd_T93 l0 x8_1).f1)] 93 (0,0)) (qW BK323) hg (Kd.R_ne HO_3.out BK323.out (by decide)));replace HO326:=Aside0.mk (Kd.R_after (ok:=(fun _=>True)) (qR HO326) hg hat);replace HB:=Aside0.mk hb;have HO330:=Aside0.mk ho;clear HO_3;clear ho hb hg hat))
   go_roundg k1
   case measure=>have:=HK1.out;omega
   case rel=>exact ⟨(y328),(wrap64 (x8_1+1)),qS,H',⟨by have:=HK1.out;omega⟩,⟨by (with_reducible repeat (first|apply Kd.R_alloc|apply Kd.R_drewN|apply Kd.R_drew));exact Kd.R_mono HO330.out (fun _ hk=>trivial)⟩,⟨qC⟩⟩
def query_Group.f (k:Nat) (a0_0:Int) (a0_1:ByteArray) (l0_2:List (S127)) (l0_3:List ByteArray) (a1_0:ByteArray) (l1_1:List (S93)):Option (ByteArray):=(tag_Only.f k l1_1 l0_3).bind fun t334=>((tag_Text.f k t334).bind fun t337=>(some t337))
theorem query_Group.mono:∀ a0 a1 a2 a3 a4 a5 k,LeO (query_Group.f k a0 a1 a2 a3 a4 a5) (query_Group.f (k+1) a0 a1 a2 a3 a4 a5):=by
 intro a0 a1 a2 a3 a4 a5 k
 unfold query_Group.f
 repeat' first
   | (with_reducible exact tag_Only.mono _ _ _)
   | (with_reducible exact tag_Text.mono _ _)
   | (with_reducible exact LeO.refl _)
   | (with_reducible exact LeO.none _)
   | (with_reducible refine LeO.ite ?_ ?_)
   | (with_reducible refine LeO.bind ?_ (fun _=>?_))
   | exact tag_Only.mono _ _ _
   | exact tag_Text.mono _ _
   | exact LeO.none _
   | refine LeO.ite ?_ ?_
   | refine LeO.bind ?_ (fun _=>?_)
theorem query_Group.calls (k:Nat) (a0_0:Int) (a0_1:ByteArray) (A0_2:Option Addr) (c0_2:Nat) (l0_2:List (S127)) (A0_3:Option Addr) (c0_3:Nat) (l0_3:List ByteArray) (a1_0:ByteArray) (A1_1:Option Addr) (c1_1:Nat) (l1_1:List (S93)) (r:ByteArray) (w:World) (hr0_2:Kd.C k127 w A0_2 l0_2.length l0_2) (hc0_2:l0_2.length≤c0_2) (hr0_3:Kd.C Kd.string w A0_3 l0_3.length l0_3) (hc0_3:l0_3.length≤c0_3) (hr1_1:Kd.C k93 w A1_1 l1_1.length l1_1) (hc1_1:l1_1.length≤c1_1) (h:query_Group.f k a0_0 a0_1 l0_2 l0_3 a1_0 l1_1=some r) :
  Calls Tryz.prog 25 #[.agg #[.int .i64 a0_0, .string a0_1, .slice A0_2 l0_2.length c0_2, .slice A0_3 l0_3.length c0_3], .agg #[.string a1_0, .slice A1_1 l1_1.length c1_1]] w fun e w'=>e = .returned (.string r)∧Below w.heap.size w w':=by
 have hu25:=Tryz.underlying25
 have hu36:=Tryz.underlying36
 have HR0_2:=Aside0.mk hr0_2
 have HC0_2:=Aside0.mk hc0_2
 clear hr0_2 hc0_2
 have HR0_3:=Aside0.mk hr0_3
 have HC0_3:=Aside0.mk hc0_3
 clear hr0_3 hc0_3
 have HR1_1:=Aside0.mk hr1_1
 have HC1_1:=Aside0.mk hc1_1
 clear hr1_1 hc1_1
 have HB:=Aside0.mk (Below.refl w.heap.size w)
 have H:((tag_Only.f k l1_1 l0_3).bind fun t334=>((tag_Text.f k t334).bind fun t337=>(some t337)))=some r:=h
 clear h
 replace H:=Option.bind_eq_some_iff.mp H
 obtain ⟨t334,A30,H⟩:=H
 replace H:((tag_Text.f k t334).bind fun t337=>(some t337))=some r:=H
 have A3:=Aside0.mk A30
 clear A30
 replace H:=Option.bind_eq_some_iff.mp H
 obtain ⟨t337,A40,H⟩:=H
 replace H:(some t337)=some r:=H
 have A4:=Aside0.mk A40
 clear A40
 obtain rfl:=Option.some.inj H
 go_enter Tryz.func25,Tryz.ntmps25
 go_wp2_with (first|((with_reducible refine gate_dst (N:=2) rfl ?_);refine box_event ?hg (N:=2) ?hd (cs:=#[.int .i64 a0_0, .string a0_1, .slice A0_2 l0_2.length c0_2, .slice A0_3 l0_3.length c0_3]) (t:=25) ?hr ?_;(case hd=>rfl);(case hg=>rfl);(case hr=>first|(go_simp;done)|(go_simp;rfl));intro gb332 hg w5 hbox hb;have BK332:=Aside0.mk hbox;have GW332:Aside0 (w.heap.size≤gb332):=⟨qH⟩;have GE332:=GW332;replace HB:=Aside0.mk (below_step qB hb);clear hb hbox hg)|((with_reducible refine gate_dst (N:=3) rfl ?_);refine box_event ?hg (N:=3) ?hd (cs:=#[.string a1_0, .slice A1_1 l1_1.length c1_1]) (t:=36) ?hr ?_;(case hd=>rfl);(case hg=>rfl);(case hr=>first|(go_simp;done)|(go_simp;rfl));intro gb333 hg w6 hbox hb;have BK333:=Aside0.mk hbox;have GW333:Aside0 (w.heap.size≤gb333):=⟨qI⟩;have GE333:=GW333;replace HB:=Aside0.mk (below_step qC hb);have NB332_333:=Aside0.mk ((by rw [hg];exact Nat.ne_of_lt (blk_lt (g:=gb332) (o := .cells #[.int .i64 a0_0, .string a0_1, .slice A0_2 l0_2.length c0_2, .slice A0_3 l0_3.length c0_3] 25 (0,0)) (qW BK332)):gb332≠gb333));have NB333_332:=Aside0.mk ((by rw [hg];exact Nat.ne_of_gt (blk_lt (g:=gb332) (o := .cells #[.int .i64 a0_0, .string a0_1, .slice A0_2 l0_2.length c0_2, .slice A0_3 l0_3.length c0_3] 25 (0,0)) (qW BK332)):gb333≠gb332));replace BK332:=Aside0.mk (blk_below (g:=gb332) (o := .cells #[.int .i64 a0_0, .string a0_1, .slice A0_2 l0_2.length c0_2, .slice A0_3 l0_3.length c0_3] 25 (0,0)) (qW BK332) hb);clear hb hbox hg;have hnb7:=NB333_332.out;have hnc7:=NB332_333.out;obtain ⟨hcz8_0,hcz8_1,hfz8_0,hfz8_1⟩:=cf2 BK333.out;obtain ⟨hcz9_0,hcz9_1,hcz9_2,hcz9_3,hfz9_0,hfz9_1,hfz9_2,hfz9_3⟩:=cf4 BK332.out)|((with_reducible refine gate_callee (f:=76) rfl ?_);refine goesL_ (some 9) rfl rfl Tryz.func76 qK rfl #[.slice A1_1 l1_1.length c1_1, .slice A0_3 l0_3.length c0_3] rfl qG ?_;(with_reducible refine (tag_Only.calls k _ _ l1_1 _ _ l0_3 t334 _ ?side1 ?side2 ?side3 ?side4 A3.out).mono ?_);(case side1=>repeat (first|exact (Kd.C_below HR1_1.out HB.out)|(with_reducible refine Kd.C_alloc ?_ _)|(with_reducible refine Kd.C_drewN ?_ _)|(with_reducible refine Kd.C_drew ?_)));(case side2=>exact HC1_1.out);(case side3=>repeat (first|exact (Kd.C_below HR0_3.out HB.out)|(with_reducible refine Kd.C_alloc ?_ _)|(with_reducible refine Kd.C_drewN ?_ _)|(with_reducible refine Kd.C_drew ?_)));(case side4=>exact HC0_3.out);rintro e w10 ⟨v335,rfl,ho0,hb⟩;refine ⟨_,rfl,?_⟩;have HO336:=Aside0.mk (Kd.R_lower ho0 (below_size qC));replace BK332:=Aside0.mk (blk_below (g:=gb332) (o := .cells #[.int .i64 a0_0, .string a0_1, .slice A0_2 l0_2.length c0_2, .slice A0_3 l0_3.length c0_3] 25 (0,0)) (qW BK332) hb);replace BK333:=Aside0.mk (blk_below (g:=gb333) (o := .cells #[.string a1_0, .slice A1_1 l1_1.length c1_1] 36 (0,0)) (qW BK333) hb);replace HB:=Aside0.mk (below_step qC hb);clear hb ho0;obtain ⟨Ao11,co11,eo11⟩:=Kd.R_slice HO336.out;subst eo11)|((with_reducible refine gate_callee (f:=75) rfl ?_);refine goesL_ (some 10) rfl rfl Tryz.func75 qK rfl #[.slice Ao11 t334.length co11] rfl qG ?_;(with_reducible refine (tag_Text.calls k _ _ t334 t337 _ ?side1 ?side2 A4.out).mono ?_);(case side1=>repeat (first|exact (Kd.R_reads' HO336.out).2.2|(with_reducible refine Kd.C_alloc ?_ _)|(with_reducible refine Kd.C_drewN ?_ _)|(with_reducible refine Kd.C_drew ?_)));(case side2=>exact (Kd.R_reads' HO336.out).2.1);rintro e w12 ⟨rfl,hb⟩;refine ⟨_,rfl,?_⟩;replace HO336:=Aside0.mk (Kd.R_below (qR HO336) hb);replace BK332:=Aside0.mk (blk_below (g:=gb332) (o := .cells #[.int .i64 a0_0, .string a0_1, .slice A0_2 l0_2.length c0_2, .slice A0_3 l0_3.length c0_3] 25 (0,0)) (qW BK332) hb);replace BK333:=Aside0.mk (blk_below (g:=gb333) (o := .cells #[.string a1_0, .slice A1_1 l1_1.length c1_1] 36 (0,0)) (qW BK333) hb);replace HB:=Aside0.mk (below_step qC hb);clear hb))
 go_ret
 exact ⟨qE,qC⟩
def slices_Equal_Match.l0:Nat→List (S127)→List (S127)→Int→Int→Option (Bool)
 | 0,_,_,_,_=>none
 | k+1,x0,x1,x12,x13=>if x13<x12 then (if 0≤x13 then (if x13<(x0.length:Int) then (if x13<(x1.length:Int) then (if (!(((rd_T127 x0 x13).f0) ==((rd_T127 x1 x13).f0)) || (!((((rd_T127 x0 x13).f1).toList) ==(((rd_T127 x1 x13).f1).toList)) || (!((((rd_T127 x0 x13).f2).toList) ==(((rd_T127 x1 x13).f2).toList)))))=true then (some false) else (slices_Equal_Match.l0 k x0 x1 x12 (wrap64 (x13+1)))) else (none)) else (none)) else (none)) else (some true)
def slices_Equal_Match.f (k:Nat) (l0:List (S127)) (l1:List (S127)):Option (Bool):=if (l0.length:Int)=(l1.length:Int) then (slices_Equal_Match.l0 k l0 l1 (l0.length:Int) 0) else (some false)
theorem slices_Equal_Match.mono_l:∀ k,(∀ y0 y1 y2 y3,LeO (slices_Equal_Match.l0 k y0 y1 y2 y3) (slices_Equal_Match.l0 (k+1) y0 y1 y2 y3))
 | 0=>fun _ _ _ _ r h=>by simp [slices_Equal_Match.l0] at h
 | k+1=>by
  have ih0:=slices_Equal_Match.mono_l k
  ·intro y0 y1 y2 y3
   unfold slices_Equal_Match.l0
   repeat' first
   | (with_reducible exact ih0 _ _ _ _)
   | (with_reducible exact LeO.refl _)
   | (with_reducible exact LeO.none _)
   | (with_reducible refine LeO.ite ?_ ?_)
   | (with_reducible refine LeO.bind ?_ (fun _=>?_))
   | exact ih0 _ _ _ _
   | exact LeO.none _
   | refine LeO.ite ?_ ?_
   | refine LeO.bind ?_ (fun _=>?_)
theorem slices_Equal_Match.mono:∀ a0 a1 k,LeO (slices_Equal_Match.f k a0 a1) (slices_Equal_Match.f (k+1) a0 a1):=by
 intro a0 a1 k
 have ih0:=slices_Equal_Match.mono_l k
 unfold slices_Equal_Match.f
 repeat' first
   | (with_reducible exact ih0 _ _ _ _)
   | (with_reducible exact LeO.refl _)
   | (with_reducible exact LeO.none _)
   | (with_reducible refine LeO.ite ?_ ?_)
   | (with_reducible refine LeO.bind ?_ (fun _=>?_))
   | exact ih0 _ _ _ _
   | exact LeO.none _
   | refine LeO.ite ?_ ?_
   | refine LeO.bind ?_ (fun _=>?_)
theorem slices_Equal_Match.calls (k:Nat) (A0:Option Addr) (c0:Nat) (l0:List (S127)) (A1:Option Addr) (c1:Nat) (l1:List (S127)) (r:Bool) (w:World) (hr0:Kd.C k127 w A0 l0.length l0) (hc0:l0.length≤c0) (hr1:Kd.C k127 w A1 l1.length l1) (hc1:l1.length≤c1) (h:slices_Equal_Match.f k l0 l1=some r) :
  Calls Tryz.prog 114 #[.slice A0 l0.length c0, .slice A1 l1.length c1] w fun e w'=>e = .returned (.bool r)∧Drawn0 w w':=by
 have hu127:=Tryz.underlying127
 have HR0:=Aside0.mk hr0
 have HC0:=Aside0.mk hc0
 clear hr0 hc0
 have HR1:=Aside0.mk hr1
 have HC1:=Aside0.mk hc1
 clear hr1 hc1
 have H:(if (l0.length:Int)=(l1.length:Int) then (slices_Equal_Match.l0 k l0 l1 (l0.length:Int) 0) else (some false))=some r:=h
 clear h
 by_cases c3:(l0.length:Int)=(l1.length:Int)
 rotate_left
 ·rw [if_neg c3] at H
  have c3b0:((l0.length:Int) ==(l1.length:Int))=false:=beq_eq_false_iff_ne.mpr c3
  have c3b1:((l0.length:Int) != (l1.length:Int))=true:=bne_iff_ne.mpr c3
  have c3b2:(l0.length ==l1.length)=false:=by first|simpa using c3|(simp at c3 ⊢;omega)
  obtain rfl:=Option.some.inj H
  go_enter Tryz.func114,Tryz.ntmps114
  go_wp2
  repeat (go_quiet (fail);try go_wp2)
  go_ret
  exact ⟨qS,qD⟩
 rw [if_pos c3] at H
 have c3b0:((l0.length:Int) ==(l1.length:Int))=true:=beq_iff_eq.mpr c3
 have c3b1:((l0.length:Int) != (l1.length:Int))=false:=bne_eq_false_iff_eq.mpr c3
 have c3b2:(l0.length ==l1.length)=true:=by first|simpa using c3|(simp at c3 ⊢;omega)
 clear c3
 have H':=Aside0.mk H
 clear H
 go_enter Tryz.func114,Tryz.ntmps114
 go_wp2
 repeat (go_quiet (fail);try go_wp2)
 go_loopg [13] k (fun kq v13 w'=>∃ (x13_1:Int),v13 = .int .i64 x13_1∧Aside0 (slices_Equal_Match.l0 kq l0 l1 (l0.length:Int) x13_1=some r)∧Aside0 (kq≤k)∧Drawn0 w w')
 case atStart=>exact ⟨(0),qS,H',⟨Nat.le_refl _⟩,qD⟩
 case round =>
  clear H'
  try clear c3b0;try clear c3b1;try clear c3b2
  obtain ⟨x13_1,rfl,HA,HK1,⟨m1,rfl⟩⟩:=hrel
  cases gk with
  | zero=>exact absurd HA.out (by simp [slices_Equal_Match.l0])
  | succ k1 =>
   have H:=HA.out
   clear HA
   simp only [slices_Equal_Match.l0] at H
   by_cases c4:x13_1<(l0.length:Int)
   rotate_left
   ·rw [if_neg c4] at H
    have c4b0:decide (x13_1<(l0.length:Int))=false:=decide_eq_false c4
    clear c4
    obtain rfl:=Option.some.inj H
    go_wp2
    repeat (go_quiet (fail);try go_wp2)
    go_ret
    exact ⟨qS,qD⟩
   rw [if_pos c4] at H
   have c4b0:decide (x13_1<(l0.length:Int))=true:=decide_eq_true c4
   clear c4
   by_cases c5:0≤x13_1
   rotate_left
   ·rw [if_neg c5] at H
    exact absurd H (by simp)
   rw [if_pos c5] at H
   have c5b0:decide (0≤x13_1)=true:=decide_eq_true c5
   clear c5
   by_cases c6:x13_1<(l0.length:Int)
   rotate_left
   ·rw [if_neg c6] at H
    exact absurd H (by simp)
   rw [if_pos c6] at H
   have c6b0:decide (x13_1<(l0.length:Int))=true:=decide_eq_true c6
   clear c6
   by_cases c7:x13_1<(l1.length:Int)
   rotate_left
   ·rw [if_neg c7] at H
    exact absurd H (by simp)
   rw [if_pos c7] at H
   have c7b0:decide (x13_1<(l1.length:Int))=true:=decide_eq_true c7
   clear c7
   by_cases c8:(!(((rd_T127 l0 x13_1).f0) ==((rd_T127 l1 x13_1).f0)) || (!((((rd_T127 l0 x13_1).f1).toList) ==(((rd_T127 l1 x13_1).f1).toList)) || (!((((rd_T127 l0 x13_1).f2).toList) ==(((rd_T127 l1 x13_1).f2).toList)))))=true
   ·rw [if_pos c8] at H
    have c8b0:(!(((rd_T127 l0 x13_1).f0) ==((rd_T127 l1 x13_1).f0)) || (!((((rd_T127 l0 x13_1).f1).toList) ==(((rd_T127 l1 x13_1).f1).toList)) || (!((((rd_T127 l0 x13_1).f2).toList) ==(((rd_T127 l1 x13_1).f2).toList)))))=true:=c8
    clear c8
    obtain rfl:=Option.some.inj H
    have p338:0≤(x13_1:Int):=of_decide_eq_true qA
    have q338:x13_1<(l0.length:Int):=of_decide_eq_true qA
    obtain ⟨ad338,e338,hx338_0,hx338_1,hx338_2⟩:=at_T127 HR0.out x13_1 p338 q338
    cases e338
    replace p338:=eq_true p338
    replace q338:=eq_true q338
    have p339:0≤(x13_1:Int):=of_decide_eq_true qA
    have q339:x13_1<(l1.length:Int):=of_decide_eq_true qA
    obtain ⟨ad339,e339,hx339_0,hx339_1,hx339_2⟩:=at_T127 HR1.out x13_1 p339 q339
    cases e339
    replace p339:=eq_true p339
    replace q339:=eq_true q339
    go_wp2
    repeat (go_quiet (fail);try go_wp2)
    go_ret
    exact ⟨qS,qD⟩
   rw [if_neg c8] at H
   have c8b0:(!(((rd_T127 l0 x13_1).f0) ==((rd_T127 l1 x13_1).f0)) || (!((((rd_T127 l0 x13_1).f1).toList) ==(((rd_T127 l1 x13_1).f1).toList)) || (!((((rd_T127 l0 x13_1).f2).toList) ==(((rd_T127 l1 x13_1).f2).toList)))))=false:=by simpa using c8
   clear c8
   have H':=Aside0.mk H
   clear H
   have p338:0≤(x13_1:Int):=of_decide_eq_true qA
   have q338:x13_1<(l0.length:Int):=of_decide_eq_true qA
   obtain ⟨ad338,e338,hx338_0,hx338_1,hx338_2⟩:=at_T127 HR0.out x13_1 p338 q338
   cases e338
   replace p338:=eq_true p338
   replace q338:=eq_true q338
   have p339:0≤(x13_1:Int):=of_decide_eq_true qA
   have q339:x13_1<(l1.length:Int):=of_decide_eq_true qA
   obtain ⟨ad339,e339,hx339_0,hx339_1,hx339_2⟩:=at_T127 HR1.out x13_1 p339 q339
   cases e339
   replace p339:=eq_true p339
   replace q339:=eq_true q339
   go_wp2
   repeat (go_quiet (fail);try go_wp2)
   go_roundg k1
   case measure=>have:=HK1.out;omega
   case rel=>exact ⟨(wrap64 (x13_1+1)),qS,H',⟨by have:=HK1.out;omega⟩,qD⟩
def pick_Same.f (k:Nat) (l0:List (S127)) (l1:List (S127)):Option (Bool):=(slices_Equal_Match.f k l0 l1).bind fun t340=>(some t340)
theorem pick_Same.mono:∀ a0 a1 k,LeO (pick_Same.f k a0 a1) (pick_Same.f (k+1) a0 a1):=by
 intro a0 a1 k
 unfold pick_Same.f
 repeat' first
   | (with_reducible exact slices_Equal_Match.mono _ _ _)
   | (with_reducible exact LeO.refl _)
   | (with_reducible exact LeO.none _)
   | (with_reducible refine LeO.ite ?_ ?_)
   | (with_reducible refine LeO.bind ?_ (fun _=>?_))
   | exact slices_Equal_Match.mono _ _ _
   | exact LeO.none _
   | refine LeO.ite ?_ ?_
   | refine LeO.bind ?_ (fun _=>?_)
theorem pick_Same.calls (k:Nat) (A0:Option Addr) (c0:Nat) (l0:List (S127)) (A1:Option Addr) (c1:Nat) (l1:List (S127)) (r:Bool) (w:World) (hr0:Kd.C k127 w A0 l0.length l0) (hc0:l0.length≤c0) (hr1:Kd.C k127 w A1 l1.length l1) (hc1:l1.length≤c1) (h:pick_Same.f k l0 l1=some r) :
  Calls Tryz.prog 62 #[.slice A0 l0.length c0, .slice A1 l1.length c1] w fun e w'=>e = .returned (.bool r)∧Drawn0 w w':=by
 have HR0:=Aside0.mk hr0
 have HC0:=Aside0.mk hc0
 clear hr0 hc0
 have HR1:=Aside0.mk hr1
 have HC1:=Aside0.mk hc1
 clear hr1 hc1
 have H:((slices_Equal_Match.f k l0 l1).bind fun t340=>(some t340))=some r:=h
 clear h
 replace H:=Option.bind_eq_some_iff.mp H
 obtain ⟨t340,A30,H⟩:=H
 replace H:(some t340)=some r:=H
 have A3:=Aside0.mk A30
 clear A30
 obtain rfl:=Option.some.inj H
 go_enter Tryz.func62,Tryz.ntmps62
 go_wp2_with (first|((with_reducible refine gate_callee (f:=114) rfl ?_);refine goesL_ (some 7) rfl rfl Tryz.func114 qK rfl #[.slice A0 l0.length c0, .slice A1 l1.length c1] rfl qG ?_;(with_reducible refine (slices_Equal_Match.calls k _ _ l0 _ _ l1 t340 _ ?side1 ?side2 ?side3 ?side4 A3.out).mono ?_);(case side1=>repeat (first|exact HR0.out|(with_reducible refine Kd.C_alloc ?_ _)|(with_reducible refine Kd.C_drewN ?_ _)|(with_reducible refine Kd.C_drew ?_)));(case side2=>exact HC0.out);(case side3=>repeat (first|exact HR1.out|(with_reducible refine Kd.C_alloc ?_ _)|(with_reducible refine Kd.C_drewN ?_ _)|(with_reducible refine Kd.C_drew ?_)));(case side4=>exact HC1.out);rintro e w' ⟨rfl,⟨nd,rfl⟩⟩;refine ⟨_,rfl,?_⟩))
 go_ret
 exact ⟨qS,qD⟩
def slices_Equal_string.l0:Nat→List ByteArray→List ByteArray→Int→Int→Option (Bool)
 | 0,_,_,_,_=>none
 | k+1,x0,x1,x12,x13=>if x13<x12 then (if 0≤x13 then (if x13<(x0.length:Int) then (if x13<(x1.length:Int) then (if (rdOf ByteArray.empty x0 x13).toList=(rdOf ByteArray.empty x1 x13).toList then (slices_Equal_string.l0 k x0 x1 x12 (wrap64 (x13+1))) else (some false)) else (none)) else (none)) else (none)) else (some true)
def slices_Equal_string.f (k:Nat) (l0:List ByteArray) (l1:List ByteArray):Option (Bool):=if (l0.length:Int)=(l1.length:Int) then (slices_Equal_string.l0 k l0 l1 (l0.length:Int) 0) else (some false)
theorem slices_Equal_string.mono_l:∀ k,(∀ y0 y1 y2 y3,LeO (slices_Equal_string.l0 k y0 y1 y2 y3) (slices_Equal_string.l0 (k+1) y0 y1 y2 y3))
 | 0=>fun _ _ _ _ r h=>by simp [slices_Equal_string.l0] at h
 | k+1=>by
  have ih0:=slices_Equal_string.mono_l k
  ·intro y0 y1 y2 y3
   unfold slices_Equal_string.l0
   repeat' first
   | (with_reducible exact ih0 _ _ _ _)
   | (with_reducible exact LeO.refl _)
   | (with_reducible exact LeO.none _)
   | (with_reducible refine LeO.ite ?_ ?_)
   | (with_reducible refine LeO.bind ?_ (fun _=>?_))
   | exact ih0 _ _ _ _
   | exact LeO.none _
   | refine LeO.ite ?_ ?_
   | refine LeO.bind ?_ (fun _=>?_)
theorem slices_Equal_string.mono:∀ a0 a1 k,LeO (slices_Equal_string.f k a0 a1) (slices_Equal_string.f (k+1) a0 a1):=by
 intro a0 a1 k
 have ih0:=slices_Equal_string.mono_l k
 unfold slices_Equal_string.f
 repeat' first
   | (with_reducible exact ih0 _ _ _ _)
   | (with_reducible exact LeO.refl _)
   | (with_reducible exact LeO.none _)
   | (with_reducible refine LeO.ite ?_ ?_)
   | (with_reducible refine LeO.bind ?_ (fun _=>?_))
   | exact ih0 _ _ _ _
   | exact LeO.none _
   | refine LeO.ite ?_ ?_
   | refine LeO.bind ?_ (fun _=>?_)
theorem slices_Equal_string.calls (k:Nat) (A0:Option Addr) (c0:Nat) (l0:List ByteArray) (A1:Option Addr) (c1:Nat) (l1:List ByteArray) (r:Bool) (w:World) (hr0:Kd.C Kd.string w A0 l0.length l0) (hc0:l0.length≤c0) (hr1:Kd.C Kd.string w A1 l1.length l1) (hc1:l1.length≤c1) (h:slices_Equal_string.f k l0 l1=some r) :
  Calls Tryz.prog 63 #[.slice A0 l0.length c0, .slice A1 l1.length c1] w fun e w'=>e = .returned (.bool r)∧Drawn0 w w':=by
 have HR0:=Aside0.mk hr0
 have HC0:=Aside0.mk hc0
 clear hr0 hc0
 have HR1:=Aside0.mk hr1
 have HC1:=Aside0.mk hc1
 clear hr1 hc1
 have H:(if (l0.length:Int)=(l1.length:Int) then (slices_Equal_string.l0 k l0 l1 (l0.length:Int) 0) else (some false))=some r:=h
 clear h
 by_cases c3:(l0.length:Int)=(l1.length:Int)
 rotate_left
 ·rw [if_neg c3] at H
  have c3b0:((l0.length:Int) ==(l1.length:Int))=false:=beq_eq_false_iff_ne.mpr c3
  have c3b1:((l0.length:Int) != (l1.length:Int))=true:=bne_iff_ne.mpr c3
  have c3b2:(l0.length ==l1.length)=false:=by first|simpa using c3|(simp at c3 ⊢;omega)
  obtain rfl:=Option.some.inj H
  go_enter Tryz.func63,Tryz.ntmps63
  go_wp2
  repeat (go_quiet (fail);try go_wp2)
  go_ret
  exact ⟨qS,qD⟩
 rw [if_pos c3] at H
 have c3b0:((l0.length:Int) ==(l1.length:Int))=true:=beq_iff_eq.mpr c3
 have c3b1:((l0.length:Int) != (l1.length:Int))=false:=bne_eq_false_iff_eq.mpr c3
 have c3b2:(l0.length ==l1.length)=true:=by first|simpa using c3|(simp at c3 ⊢;omega)
 clear c3
 have H':=Aside0.mk H
 clear H
 go_enter Tryz.func63,Tryz.ntmps63
 go_wp2
 repeat (go_quiet (fail);try go_wp2)
 go_loopg [13] k (fun kq v13 w'=>∃ (x13_1:Int),v13 = .int .i64 x13_1∧Aside0 (slices_Equal_string.l0 kq l0 l1 (l0.length:Int) x13_1=some r)∧Aside0 (kq≤k)∧Drawn0 w w')
 case atStart=>exact ⟨(0),qS,H',⟨Nat.le_refl _⟩,qD⟩
 case round =>
  clear H'
  try clear c3b0;try clear c3b1;try clear c3b2
  obtain ⟨x13_1,rfl,HA,HK1,⟨m1,rfl⟩⟩:=hrel
  cases gk with
  | zero=>exact absurd HA.out (by simp [slices_Equal_string.l0])
  | succ k1 =>
   have H:=HA.out
   clear HA
   simp only [slices_Equal_string.l0] at H
   by_cases c4:x13_1<(l0.length:Int)
   rotate_left
   ·rw [if_neg c4] at H
    have c4b0:decide (x13_1<(l0.length:Int))=false:=decide_eq_false c4
    clear c4
    obtain rfl:=Option.some.inj H
    go_wp2
    repeat (go_quiet (fail);try go_wp2)
    go_ret
    exact ⟨qS,qD⟩
   rw [if_pos c4] at H
   have c4b0:decide (x13_1<(l0.length:Int))=true:=decide_eq_true c4
   clear c4
   by_cases c5:0≤x13_1
   rotate_left
   ·rw [if_neg c5] at H
    exact absurd H (by simp)
   rw [if_pos c5] at H
   have c5b0:decide (0≤x13_1)=true:=decide_eq_true c5
   clear c5
   by_cases c6:x13_1<(l0.length:Int)
   rotate_left
   ·rw [if_neg c6] at H
    exact absurd H (by simp)
   rw [if_pos c6] at H
   have c6b0:decide (x13_1<(l0.length:Int))=true:=decide_eq_true c6
   clear c6
   by_cases c7:x13_1<(l1.length:Int)
   rotate_left
   ·rw [if_neg c7] at H
    exact absurd H (by simp)
   rw [if_pos c7] at H
   have c7b0:decide (x13_1<(l1.length:Int))=true:=decide_eq_true c7
   clear c7
   by_cases c8:(rdOf ByteArray.empty l0 x13_1).toList=(rdOf ByteArray.empty l1 x13_1).toList
   rotate_left
   ·rw [if_neg c8] at H
    have c8b0:((rdOf ByteArray.empty l0 x13_1).toList ==(rdOf ByteArray.empty l1 x13_1).toList)=false:=beq_eq_false_iff_ne.mpr c8
    have c8b1:((rdOf ByteArray.empty l0 x13_1).toList != (rdOf ByteArray.empty l1 x13_1).toList)=true:=bne_iff_ne.mpr c8
    obtain rfl:=Option.some.inj H
    have p341:0≤(x13_1:Int):=of_decide_eq_true qA
    have q341:x13_1<(l0.length:Int):=of_decide_eq_true qA
    obtain ⟨ad341,e341,hx341_0⟩:=Kd.at_string HR0.out x13_1 p341 q341
    cases e341
    replace p341:=eq_true p341
    replace q341:=eq_true q341
    have p342:0≤(x13_1:Int):=of_decide_eq_true qA
    have q342:x13_1<(l1.length:Int):=of_decide_eq_true qA
    obtain ⟨ad342,e342,hx342_0⟩:=Kd.at_string HR1.out x13_1 p342 q342
    cases e342
    replace p342:=eq_true p342
    replace q342:=eq_true q342
    go_wp2
    repeat (go_quiet (fail);try go_wp2)
    go_ret
    exact ⟨qS,qD⟩
   rw [if_pos c8] at H
   have c8b0:((rdOf ByteArray.empty l0 x13_1).toList ==(rdOf ByteArray.empty l1 x13_1).toList)=true:=beq_iff_eq.mpr c8
   have c8b1:((rdOf ByteArray.empty l0 x13_1).toList != (rdOf ByteArray.empty l1 x13_1).toList)=false:=bne_eq_false_iff_eq.mpr c8
   clear c8
   have H':=Aside0.mk H
   clear H
   have p341:0≤(x13_1:Int):=of_decide_eq_true qA
   have q341:x13_1<(l0.length:Int):=of_decide_eq_true qA
   obtain ⟨ad341,e341,hx341_0⟩:=Kd.at_string HR0.out x13_1 p341 q341
   cases e341
   replace p341:=eq_true p341
   replace q341:=eq_true q341
   have p342:0≤(x13_1:Int):=of_decide_eq_true qA
   have q342:x13_1<(l1.length:Int):=of_decide_eq_true qA
   obtain ⟨ad342,e342,hx342_0⟩:=Kd.at_string HR1.out x13_1 p342 q342
   cases e342
   replace p342:=eq_true p342
   replace q342:=eq_true q342
   go_wp2
   repeat (go_quiet (fail);try go_wp2)
   go_roundg k1
   case measure=>have:=HK1.out;omega
   case rel=>exact ⟨(wrap64 (x13_1+1)),qS,H',⟨by have:=HK1.out;omega⟩,qD⟩
def query_Same.f (k:Nat) (a0_0:Int) (a0_1:ByteArray) (l0_2:List (S127)) (l0_3:List ByteArray) (a1_0:Int) (a1_1:ByteArray) (l1_2:List (S127)) (l1_3:List ByteArray):Option (Bool):=if a0_0=a1_0 then (if a0_1.toList=a1_1.toList then ((pick_Same.f k l0_2 l1_2).bind fun t345=>(if t345=true then ((slices_Equal_string.f k l0_3 l1_3).bind fun t346=>(some t346)) else (some false))) else (some false)) else (some false)
theorem query_Same.mono:∀ a0 a1 a2 a3 a4 a5 a6 a7 k,LeO (query_Same.f k a0 a1 a2 a3 a4 a5 a6 a7) (query_Same.f (k+1) a0 a1 a2 a3 a4 a5 a6 a7):=by
 intro a0 a1 a2 a3 a4 a5 a6 a7 k
 unfold query_Same.f
 repeat' first
   | (with_reducible exact pick_Same.mono _ _ _)
   | (with_reducible exact slices_Equal_string.mono _ _ _)
   | (with_reducible exact LeO.refl _)
   | (with_reducible exact LeO.none _)
   | (with_reducible refine LeO.ite ?_ ?_)
   | (with_reducible refine LeO.bind ?_ (fun _=>?_))
   | exact pick_Same.mono _ _ _
   | exact slices_Equal_string.mono _ _ _
   | exact LeO.none _
   | refine LeO.ite ?_ ?_
   | refine LeO.bind ?_ (fun _=>?_)
theorem query_Same.calls (k:Nat) (a0_0:Int) (a0_1:ByteArray) (A0_2:Option Addr) (c0_2:Nat) (l0_2:List (S127)) (A0_3:Option Addr) (c0_3:Nat) (l0_3:List ByteArray) (a1_0:Int) (a1_1:ByteArray) (A1_2:Option Addr) (c1_2:Nat) (l1_2:List (S127)) (A1_3:Option Addr) (c1_3:Nat) (l1_3:List ByteArray) (r:Bool) (w:World) (hr0_2:Kd.C k127 w A0_2 l0_2.length l0_2) (hc0_2:l0_2.length≤c0_2) (hr0_3:Kd.C Kd.string w A0_3 l0_3.length l0_3) (hc0_3:l0_3.length≤c0_3) (hr1_2:Kd.C k127 w A1_2 l1_2.length l1_2) (hc1_2:l1_2.length≤c1_2) (hr1_3:Kd.C Kd.string w A1_3 l1_3.length l1_3) (hc1_3:l1_3.length≤c1_3) (h:query_Same.f k a0_0 a0_1 l0_2 l0_3 a1_0 a1_1 l1_2 l1_3=some r) :
  Calls Tryz.prog 18 #[.agg #[.int .i64 a0_0, .string a0_1, .slice A0_2 l0_2.length c0_2, .slice A0_3 l0_3.length c0_3], .agg #[.int .i64 a1_0, .string a1_1, .slice A1_2 l1_2.length c1_2, .slice A1_3 l1_3.length c1_3]] w fun e w'=>e = .returned (.bool r)∧Below w.heap.size w w':=by
 have hu25:=Tryz.underlying25
 have HR0_2:=Aside0.mk hr0_2
 have HC0_2:=Aside0.mk hc0_2
 clear hr0_2 hc0_2
 have HR0_3:=Aside0.mk hr0_3
 have HC0_3:=Aside0.mk hc0_3
 clear hr0_3 hc0_3
 have HR1_2:=Aside0.mk hr1_2
 have HC1_2:=Aside0.mk hc1_2
 clear hr1_2 hc1_2
 have HR1_3:=Aside0.mk hr1_3
 have HC1_3:=Aside0.mk hc1_3
 clear hr1_3 hc1_3
 have HB:=Aside0.mk (Below.refl w.heap.size w)
 have H:(if a0_0=a1_0 then (if a0_1.toList=a1_1.toList then ((pick_Same.f k l0_2 l1_2).bind fun t345=>(if t345=true then ((slices_Equal_string.f k l0_3 l1_3).bind fun t346=>(some t346)) else (some false))) else (some false)) else (some false))=some r:=h
 clear h
 by_cases c3:a0_0=a1_0
 rotate_left
 ·rw [if_neg c3] at H
  have c3b0:(a0_0 ==a1_0)=false:=beq_eq_false_iff_ne.mpr c3
  have c3b1:(a0_0 != a1_0)=true:=bne_iff_ne.mpr c3
  obtain rfl:=Option.some.inj H
  go_enter Tryz.func18,Tryz.ntmps18
  go_wp2_with (first|((with_reducible refine gate_dst (N:=2) rfl ?_);refine box_event ?hg (N:=2) ?hd (cs:=#[.int .i64 a0_0, .string a0_1, .slice A0_2 l0_2.length c0_2, .slice A0_3 l0_3.length c0_3]) (t:=25) ?hr ?_;(case hd=>rfl);(case hg=>rfl);(case hr=>first|(go_simp;done)|(go_simp;rfl));intro gb343 hg w23 hbox hb;have BK343:=Aside0.mk hbox;have GW343:Aside0 (w.heap.size≤gb343):=⟨qH⟩;have GE343:=GW343;replace HB:=Aside0.mk (below_step qB hb);clear hb hbox hg)|((with_reducible refine gate_dst (N:=3) rfl ?_);refine box_event ?hg (N:=3) ?hd (cs:=#[.int .i64 a1_0, .string a1_1, .slice A1_2 l1_2.length c1_2, .slice A1_3 l1_3.length c1_3]) (t:=25) ?hr ?_;(case hd=>rfl);(case hg=>rfl);(case hr=>first|(go_simp;done)|(go_simp;rfl));intro gb344 hg w24 hbox hb;have BK344:=Aside0.mk hbox;have GW344:Aside0 (w.heap.size≤gb344):=⟨qI⟩;have GE344:=GW344;replace HB:=Aside0.mk (below_step qC hb);have NB343_344:=Aside0.mk ((by rw [hg];exact Nat.ne_of_lt (blk_lt (g:=gb343) (o := .cells #[.int .i64 a0_0, .string a0_1, .slice A0_2 l0_2.length c0_2, .slice A0_3 l0_3.length c0_3] 25 (0,0)) (qW BK343)):gb343≠gb344));have NB344_343:=Aside0.mk ((by rw [hg];exact Nat.ne_of_gt (blk_lt (g:=gb343) (o := .cells #[.int .i64 a0_0, .string a0_1, .slice A0_2 l0_2.length c0_2, .slice A0_3 l0_3.length c0_3] 25 (0,0)) (qW BK343)):gb344≠gb343));replace BK343:=Aside0.mk (blk_below (g:=gb343) (o := .cells #[.int .i64 a0_0, .string a0_1, .slice A0_2 l0_2.length c0_2, .slice A0_3 l0_3.length c0_3] 25 (0,0)) (qW BK343) hb);clear hb hbox hg;have hnb25:=NB343_344.out;have hnc25:=NB344_343.out;obtain ⟨hcz26_0,hcz26_1,hcz26_2,hcz26_3,hfz26_0,hfz26_1,hfz26_2,hfz26_3⟩:=cf4 BK343.out;obtain ⟨hcz27_0,hcz27_1,hcz27_2,hcz27_3,hfz27_0,hfz27_1,hfz27_2,hfz27_3⟩:=cf4 BK344.out))
  go_ret
  exact ⟨qE,qC⟩
 rw [if_pos c3] at H
 have c3b0:(a0_0 ==a1_0)=true:=beq_iff_eq.mpr c3
 have c3b1:(a0_0 != a1_0)=false:=bne_eq_false_iff_eq.mpr c3
 clear c3
 by_cases c4:a0_1.toList=a1_1.toList
 rotate_left
 ·rw [if_neg c4] at H
  have c4b0:(a0_1.toList ==a1_1.toList)=false:=beq_eq_false_iff_ne.mpr c4
  have c4b1:(a0_1.toList != a1_1.toList)=true:=bne_iff_ne.mpr c4
  obtain rfl:=Option.some.inj H
  go_enter Tryz.func18,Tryz.ntmps18
  go_wp2_with (first|((with_reducible refine gate_dst (N:=2) rfl ?_);refine box_event ?hg (N:=2) ?hd (cs:=#[.int .i64 a0_0, .string a0_1, .slice A0_2 l0_2.length c0_2, .slice A0_3 l0_3.length c0_3]) (t:=25) ?hr ?_;(case hd=>rfl);(case hg=>rfl);(case hr=>first|(go_simp;done)|(go_simp;rfl));intro gb343 hg w18 hbox hb;have BK343:=Aside0.mk hbox;have GW343:Aside0 (w.heap.size≤gb343):=⟨qH⟩;have GE343:=GW343;replace HB:=Aside0.mk (below_step qB hb);clear hb hbox hg)|((with_reducible refine gate_dst (N:=3) rfl ?_);refine box_event ?hg (N:=3) ?hd (cs:=#[.int .i64 a1_0, .string a1_1, .slice A1_2 l1_2.length c1_2, .slice A1_3 l1_3.length c1_3]) (t:=25) ?hr ?_;(case hd=>rfl);(case hg=>rfl);(case hr=>first|(go_simp;done)|(go_simp;rfl));intro gb344 hg w19 hbox hb;have BK344:=Aside0.mk hbox;have GW344:Aside0 (w.heap.size≤gb344):=⟨qI⟩;have GE344:=GW344;replace HB:=Aside0.mk (below_step qC hb);have NB343_344:=Aside0.mk ((by rw [hg];exact Nat.ne_of_lt (blk_lt (g:=gb343) (o := .cells #[.int .i64 a0_0, .string a0_1, .slice A0_2 l0_2.length c0_2, .slice A0_3 l0_3.length c0_3] 25 (0,0)) (qW BK343)):gb343≠gb344));have NB344_343:=Aside0.mk ((by rw [hg];exact Nat.ne_of_gt (blk_lt (g:=gb343) (o := .cells #[.int .i64 a0_0, .string a0_1, .slice A0_2 l0_2.length c0_2, .slice A0_3 l0_3.length c0_3] 25 (0,0)) (qW BK343)):gb344≠gb343));replace BK343:=Aside0.mk (blk_below (g:=gb343) (o := .cells #[.int .i64 a0_0, .string a0_1, .slice A0_2 l0_2.length c0_2, .slice A0_3 l0_3.length c0_3] 25 (0,0)) (qW BK343) hb);clear hb hbox hg;have hnb20:=NB343_344.out;have hnc20:=NB344_343.out;obtain ⟨hcz21_0,hcz21_1,hcz21_2,hcz21_3,hfz21_0,hfz21_1,hfz21_2,hfz21_3⟩:=cf4 BK343.out;obtain ⟨hcz22_0,hcz22_1,hcz22_2,hcz22_3,hfz22_0,hfz22_1,hfz22_2,hfz22_3⟩:=cf4 BK344.out))
  go_ret
  exact ⟨qE,qC⟩
 rw [if_pos c4] at H
 have c4b0:(a0_1.toList ==a1_1.toList)=true:=beq_iff_eq.mpr c4
 have c4b1:(a0_1.toList != a1_1.toList)=false:=bne_eq_false_iff_eq.mpr c4
 clear c4
 replace H:=Option.bind_eq_some_iff.mp H
 obtain ⟨t345,A50,H⟩:=H
 replace H:(if t345=true then ((slices_Equal_string.f k l0_3 l1_3).bind fun t346=>(some t346)) else (some false))=some r:=H
 have A5:=Aside0.mk A50
 clear A50
 by_cases c6:t345=true
 rotate_left
 ·replace c6:=Bool.eq_false_iff.mpr c6
  subst c6
  have H1:(some false)=some r:=by rw [if_neg (show ¬ (false=true) by decide)] at H;exact H
  clear H
  have H:=H1
  clear H1
  obtain rfl:=Option.some.inj H
  go_enter Tryz.func18,Tryz.ntmps18
  go_wp2_with (first|((with_reducible refine gate_dst (N:=2) rfl ?_);refine box_event ?hg (N:=2) ?hd (cs:=#[.int .i64 a0_0, .string a0_1, .slice A0_2 l0_2.length c0_2, .slice A0_3 l0_3.length c0_3]) (t:=25) ?hr ?_;(case hd=>rfl);(case hg=>rfl);(case hr=>first|(go_simp;done)|(go_simp;rfl));intro gb343 hg w13 hbox hb;have BK343:=Aside0.mk hbox;have GW343:Aside0 (w.heap.size≤gb343):=⟨qH⟩;have GE343:=GW343;replace HB:=Aside0.mk (below_step qB hb);clear hb hbox hg)|((with_reducible refine gate_dst (N:=3) rfl ?_);refine box_event ?hg (N:=3) ?hd (cs:=#[.int .i64 a1_0, .string a1_1, .slice A1_2 l1_2.length c1_2, .slice A1_3 l1_3.length c1_3]) (t:=25) ?hr ?_;(case hd=>rfl);(case hg=>rfl);(case hr=>first|(go_simp;done)|(go_simp;rfl));intro gb344 hg w14 hbox hb;have BK344:=Aside0.mk hbox;have GW344:Aside0 (w.heap.size≤gb344):=⟨qI⟩;have GE344:=GW344;replace HB:=Aside0.mk (below_step qC hb);have NB343_344:=Aside0.mk ((by rw [hg];exact Nat.ne_of_lt (blk_lt (g:=gb343) (o := .cells #[.int .i64 a0_0, .string a0_1, .slice A0_2 l0_2.length c0_2, .slice A0_3 l0_3.length c0_3] 25 (0,0)) (qW BK343)):gb343≠gb344));have NB344_343:=Aside0.mk ((by rw [hg];exact Nat.ne_of_gt (blk_lt (g:=gb343) (o := .cells #[.int .i64 a0_0, .string a0_1, .slice A0_2 l0_2.length c0_2, .slice A0_3 l0_3.length c0_3] 25 (0,0)) (qW BK343)):gb344≠gb343));replace BK343:=Aside0.mk (blk_below (g:=gb343) (o := .cells #[.int .i64 a0_0, .string a0_1, .slice A0_2 l0_2.length c0_2, .slice A0_3 l0_3.length c0_3] 25 (0,0)) (qW BK343) hb);clear hb hbox hg;have hnb15:=NB343_344.out;have hnc15:=NB344_343.out;obtain ⟨hcz16_0,hcz16_1,hcz16_2,hcz16_3,hfz16_0,hfz16_1,hfz16_2,hfz16_3⟩:=cf4 BK343.out;obtain ⟨hcz17_0,hcz17_1,hcz17_2,hcz17_3,hfz17_0,hfz17_1,hfz17_2,hfz17_3⟩:=cf4 BK344.out)|(go_at_call 62;(with_reducible refine (pick_Same.calls k _ _ l0_2 _ _ l1_2 false _ ?side1 ?side2 ?side3 ?side4 A5.out).mono ?_);(case side1=>repeat (first|exact (Kd.C_below HR0_2.out HB.out)|(with_reducible refine Kd.C_alloc ?_ _)|(with_reducible refine Kd.C_drewN ?_ _)|(with_reducible refine Kd.C_drew ?_)));(case side2=>exact HC0_2.out);(case side3=>repeat (first|exact (Kd.C_below HR1_2.out HB.out)|(with_reducible refine Kd.C_alloc ?_ _)|(with_reducible refine Kd.C_drewN ?_ _)|(with_reducible refine Kd.C_drew ?_)));(case side4=>exact HC1_2.out);rintro e w' ⟨rfl,⟨nd,rfl⟩⟩))
  go_ret
  exact ⟨qE,qC⟩
 subst c6
 have H1:((slices_Equal_string.f k l0_3 l1_3).bind fun t346=>(some t346))=some r:=by rw [if_pos rfl] at H;exact H
 clear H
 have H:=H1
 clear H1
 replace H:=Option.bind_eq_some_iff.mp H
 obtain ⟨t346,A70,H⟩:=H
 replace H:(some t346)=some r:=H
 have A7:=Aside0.mk A70
 clear A70
 obtain rfl:=Option.some.inj H
 go_enter Tryz.func18,Tryz.ntmps18
 go_wp2_with (first|((with_reducible refine gate_dst (N:=2) rfl ?_);refine box_event ?hg (N:=2) ?hd (cs:=#[.int .i64 a0_0, .string a0_1, .slice A0_2 l0_2.length c0_2, .slice A0_3 l0_3.length c0_3]) (t:=25) ?hr ?_;(case hd=>rfl);(case hg=>rfl);(case hr=>first|(go_simp;done)|(go_simp;rfl));intro gb343 hg w8 hbox hb;have BK343:=Aside0.mk hbox;have GW343:Aside0 (w.heap.size≤gb343):=⟨qH⟩;have GE343:=GW343;replace HB:=Aside0.mk (below_step qB hb);clear hb hbox hg)|((with_reducible refine gate_dst (N:=3) rfl ?_);refine box_event ?hg (N:=3) ?hd (cs:=#[.int .i64 a1_0, .string a1_1, .slice A1_2 l1_2.length c1_2, .slice A1_3 l1_3.length c1_3]) (t:=25) ?hr ?_;(case hd=>rfl);(case hg=>rfl);(case hr=>first|(go_simp;done)|(go_simp;rfl));intro gb344 hg w9 hbox hb;have BK344:=Aside0.mk hbox;have GW344:Aside0 (w.heap.size≤gb344):=⟨qI⟩;have GE344:=GW344;replace HB:=Aside0.mk (below_step qC hb);have NB343_344:=Aside0.mk ((by rw [hg];exact Nat.ne_of_lt (blk_lt (g:=gb343) (o := .cells #[.int .i64 a0_0, .string a0_1, .slice A0_2 l0_2.length c0_2, .slice A0_3 l0_3.length c0_3] 25 (0,0)) (qW BK343)):gb343≠gb344));have NB344_343:=Aside0.mk ((by rw [hg];exact Nat.ne_of_gt (blk_lt (g:=gb343) (o := .cells #[.int .i64 a0_0, .string a0_1, .slice A0_2 l0_2.length c0_2, .slice A0_3 l0_3.length c0_3] 25 (0,0)) (qW BK343)):gb344≠gb343));replace BK343:=Aside0.mk (blk_below (g:=gb343) (o := .cells #[.int .i64 a0_0, .string a0_1, .slice A0_2 l0_2.length c0_2, .slice A0_3 l0_3.length c0_3] 25 (0,0)) (qW BK343) hb);clear hb hbox hg;have hnb10:=NB343_344.out;have hnc10:=NB344_343.out;obtain ⟨hcz11_0,hcz11_1,hcz11_2,hcz11_3,hfz11_0,hfz11_1,hfz11_2,hfz11_3⟩:=cf4 BK343.out;obtain ⟨hcz12_0,hcz12_1,hcz12_2,hcz12_3,hfz12_0,hfz12_1,hfz12_2,hfz12_3⟩:=cf4 BK344.out)|(go_at_call 62;(with_reducible refine (pick_Same.calls k _ _ l0_2 _ _ l1_2 true _ ?side1 ?side2 ?side3 ?side4 A5.out).mono ?_);(case side1=>repeat (first|exact (Kd.C_below HR0_2.out HB.out)|(with_reducible refine Kd.C_alloc ?_ _)|(with_reducible refine Kd.C_drewN ?_ _)|(with_reducible refine Kd.C_drew ?_)));(case side2=>exact HC0_2.out);(case side3=>repeat (first|exact (Kd.C_below HR1_2.out HB.out)|(with_reducible refine Kd.C_alloc ?_ _)|(with_reducible refine Kd.C_drewN ?_ _)|(with_reducible refine Kd.C_drew ?_)));(case side4=>exact HC1_2.out);rintro e w' ⟨rfl,⟨nd,rfl⟩⟩)|(go_at_call 63;(with_reducible refine (slices_Equal_string.calls k _ _ l0_3 _ _ l1_3 t346 _ ?side1 ?side2 ?side3 ?side4 A7.out).mono ?_);(case side1=>repeat (first|exact (Kd.C_below HR0_3.out qC)|(with_reducible refine Kd.C_alloc ?_ _)|(with_reducible refine Kd.C_drewN ?_ _)|(with_reducible refine Kd.C_drew ?_)));(case side2=>exact HC0_3.out);(case side3=>repeat (first|exact (Kd.C_below HR1_3.out qC)|(with_reducible refine Kd.C_alloc ?_ _)|(with_reducible refine Kd.C_drewN ?_ _)|(with_reducible refine Kd.C_drew ?_)));(case side4=>exact HC1_3.out);rintro e w' ⟨rfl,⟨nd,rfl⟩⟩))
 go_ret
 exact ⟨qE,qC⟩
def ebbtidelaw07_alive.f (k:Nat)  : Option (Bool):=(query_Parse.f k (⟨#[115,117,109,32,32,99,112,117,123,97,61,49,125,32,98,121,32,122,111,110,101,44,100,99,32]⟩:ByteArray)).bind fun bt347=>((query_Parse.f k (⟨#[97,118,103,32,99,112,117]⟩:ByteArray)).bind fun bt357=>((query_Parse.f k (⟨#[115,117,109,32,99,112,117,32,98,121,32,97,44,97]⟩:ByteArray)).bind fun bt367=>((ebbtideref04_Parse.f k (⟨#[99,112,117,123,97,61,49,44,100,99,61,120,44,122,111,110,101,61,121,125]⟩:ByteArray)).bind fun bt377=>(if bt347.2.2.2.2=0 then (if bt357.2.2.2.2=2 then (if bt367.2.2.2.2=5 then (if bt347.1=2 then (if bt347.2.1.toList=([99,112,117]:List UInt8) then (if (bt347.2.2.1.length:Int)=1 then (if (bt347.2.2.2.1.length:Int)=2 then ((query_Text.f k bt347.1 bt347.2.1 bt347.2.2.1 bt347.2.2.2.1).bind fun t383=>(if t383.toList=([115,117,109,32,99,112,117,123,97,61,49,125,32,98,121,32,122,111,110,101,44,100,99]:List UInt8) then ((query_Right.f k bt347.1 bt347.2.1 bt347.2.2.1 bt347.2.2.2.1).bind fun t384=>(if t384=true then ((query_Fits.f k bt347.1 bt347.2.1 bt347.2.2.1 bt347.2.2.2.1 bt377.1 bt377.2.1).bind fun t385=>(if t385=true then ((query_Group.f k bt347.1 bt347.2.1 bt347.2.2.1 bt347.2.2.2.1 bt377.1 bt377.2.1).bind fun t386=>(if t386.toList=([100,99,61,120,44,122,111,110,101,61,121]:List UInt8) then ((query_Same.f k bt347.1 bt347.2.1 bt347.2.2.1 bt347.2.2.2.1 bt347.1 bt347.2.1 bt347.2.2.1 bt347.2.2.2.1).bind fun t387=>(if t387=true then ((query_Same.f k bt347.1 bt347.2.1 bt347.2.2.1 bt347.2.2.2.1 0 (⟨#[]⟩:ByteArray) ([]:List (S127)) ([]:List ByteArray)).bind fun t388=>(some (!t388))) else (none))) else (none))) else (none))) else (none))) else (none))) else (none)) else (none)) else (none)) else (none)) else (none)) else (none)) else (none)))))
theorem ebbtidelaw07_alive.mono:∀ k,LeO (ebbtidelaw07_alive.f k ) (ebbtidelaw07_alive.f (k+1) ):=by
 intro  k
 unfold ebbtidelaw07_alive.f
 repeat' first
   | (with_reducible exact ebbtideref04_Parse.mono _ _)
   | (with_reducible exact query_Fits.mono _ _ _ _ _ _ _)
   | (with_reducible exact query_Group.mono _ _ _ _ _ _ _)
   | (with_reducible exact query_Parse.mono _ _)
   | (with_reducible exact query_Right.mono _ _ _ _ _)
   | (with_reducible exact query_Same.mono _ _ _ _ _ _ _ _ _)
   | (with_reducible exact query_Text.mono _ _ _ _ _)
   | (with_reducible exact LeO.refl _)
   | (with_reducible exact LeO.none _)
   | (with_reducible refine LeO.ite ?_ ?_)
   | (with_reducible refine LeO.bind ?_ (fun _=>?_))
   | exact ebbtideref04_Parse.mono _ _
   | exact query_Fits.mono _ _ _ _ _ _ _
   | exact query_Group.mono _ _ _ _ _ _ _
   | exact query_Parse.mono _ _
   | exact query_Right.mono _ _ _ _ _
   | exact query_Same.mono _ _ _ _ _ _ _ _ _
   | exact query_Text.mono _ _ _ _ _
   | exact LeO.none _
   | refine LeO.ite ?_ ?_
   | refine LeO.bind ?_ (fun _=>?_)
theorem ebbtidelaw07_alive.calls (k:Nat)  (r:Bool) (w:World) (hG:GInt w) (h:ebbtidelaw07_alive.f k  = some r) :
  Calls Tryz.prog 12 #[] w fun e w'=>e = .returned (.bool r)∧Below w.heap.size w w':=by
 have HG:=Aside0.mk hG
 clear hG
 have hu25:=Tryz.underlying25
 have hu36:=Tryz.underlying36
 have HB:=Aside0.mk (Below.refl w.heap.size w)
 have H:((query_Parse.f k (⟨#[115,117,109,32,32,99,112,117,123,97,61,49,125,32,98,121,32,122,111,110,101,44,100,99,32]⟩:ByteArray)).bind fun bt347=>((query_Parse.f k (⟨#[97,118,103,32,99,112,117]⟩:ByteArray)).bind fun bt357=>((query_Parse.f k (⟨#[115,117,109,32,99,112,117,32,98,121,32,97,44,97]⟩:ByteArray)).bind fun bt367=>((ebbtideref04_Parse.f k (⟨#[99,112,117,123,97,61,49,44,100,99,61,120,44,122,111,110,101,61,121,125]⟩:ByteArray)).bind fun bt377=>(if bt347.2.2.2.2=0 then (if bt357.2.2.2.2=2 then (if bt367.2.2.2.2=5 then (if bt347.1=2 then (if bt347.2.1.toList=([99,112,117]:List UInt8) then (if (bt347.2.2.1.length:Int)=1 then (if (bt347.2.2.2.1.length:Int)=2 then ((query_Text.f k bt347.1 bt347.2.1 bt347.2.2.1 bt347.2.2.2.1).bind fun t383=>(if t383.toList=([115,117,109,32,99,112,117,123,97,61,49,125,32,98,121,32,122,111,110,101,44,100,99]:List UInt8) then ((query_Right.f k bt347.1 bt347.2.1 bt347.2.2.1 bt347.2.2.2.1).bind fun t384=>(if t384=true then ((query_Fits.f k bt347.1 bt347.2.1 bt347.2.2.1 bt347.2.2.2.1 bt377.1 bt377.2.1).bind fun t385=>(if t385=true then ((query_Group.f k bt347.1 bt347.2.1 bt347.2.2.1 bt347.2.2.2.1 bt377.1 bt377.2.1).bind fun t386=>(if t386.toList=([100,99,61,120,44,122,111,110,101,61,121]:List UInt8) then ((query_Same.f k bt347.1 bt347.2.1 bt347.2.2.1 bt347.2.2.2.1 bt347.1 bt347.2.1 bt347.2.2.1 bt347.2.2.2.1).bind fun t387=>(if t387=true then ((query_Same.f k bt347.1 bt347.2.1 bt347.2.2.1 bt347.2.2.2.1 0 (⟨#[]⟩:ByteArray) ([]:List (S127)) ([]:List ByteArray)).bind fun t388=>(some (!t388))) else (none))) else (none))) else (none))) else (none))) else (none))) else (none)) else (none)) else (none)) else (none)) else (none)) else (none)) else (none))))))=some r:=h
 clear h
 replace H:=Option.bind_eq_some_iff.mp H
 obtain ⟨⟨t347,t348,t349,t352,t355⟩,A10,H⟩:=H
 replace H:((query_Parse.f k (⟨#[97,118,103,32,99,112,117]⟩:ByteArray)).bind fun bt357=>((query_Parse.f k (⟨#[115,117,109,32,99,112,117,32,98,121,32,97,44,97]⟩:ByteArray)).bind fun bt367=>((ebbtideref04_Parse.f k (⟨#[99,112,117,123,97,61,49,44,100,99,61,120,44,122,111,110,101,61,121,125]⟩:ByteArray)).bind fun bt377=>(if t355=0 then (if bt357.2.2.2.2=2 then (if bt367.2.2.2.2=5 then (if t347=2 then (if t348.toList=([99,112,117]:List UInt8) then (if (t349.length:Int)=1 then (if (t352.length:Int)=2 then ((query_Text.f k t347 t348 t349 t352).bind fun t383=>(if t383.toList=([115,117,109,32,99,112,117,123,97,61,49,125,32,98,121,32,122,111,110,101,44,100,99]:List UInt8) then ((query_Right.f k t347 t348 t349 t352).bind fun t384=>(if t384=true then ((query_Fits.f k t347 t348 t349 t352 bt377.1 bt377.2.1).bind fun t385=>(if t385=true then ((query_Group.f k t347 t348 t349 t352 bt377.1 bt377.2.1).bind fun t386=>(if t386.toList=([100,99,61,120,44,122,111,110,101,61,121]:List UInt8) then ((query_Same.f k t347 t348 t349 t352 t347 t348 t349 t352).bind fun t387=>(if t387=true then ((query_Same.f k t347 t348 t349 t352 0 (⟨#[]⟩:ByteArray) ([]:List (S127)) ([]:List ByteArray)).bind fun t388=>(some (!t388))) else (none))) else (none))) else (none))) else (none))) else (none))) else (none)) else (none)) else (none)) else (none)) else (none)) else (none)) else (none)))))=some r:=H
 have A1:=Aside0.mk A10
 clear A10
 replace H:=Option.bind_eq_some_iff.mp H
 obtain ⟨⟨t357,t358,t359,t362,t365⟩,A20,H⟩:=H
 replace H:((query_Parse.f k (⟨#[115,117,109,32,99,112,117,32,98,121,32,97,44,97]⟩:ByteArray)).bind fun bt367=>((ebbtideref04_Parse.f k (⟨#[99,112,117,123,97,61,49,44,100,99,61,120,44,122,111,110,101,61,121,125]⟩:ByteArray)).bind fun bt377=>(if t355=0 then (if t365=2 then (if bt367.2.2.2.2=5 then (if t347=2 then (if t348.toList=([99,112,117]:List UInt8) then (if (t349.length:Int)=1 then (if (t352.length:Int)=2 then ((query_Text.f k t347 t348 t349 t352).bind fun t383=>(if t383.toList=([115,117,109,32,99,112,117,123,97,61,49,125,32,98,121,32,122,111,110,101,44,100,99]:List UInt8) then ((query_Right.f k t347 t348 t349 t352).bind fun t384=>(if t384=true then ((query_Fits.f k t347 t348 t349 t352 bt377.1 bt377.2.1).bind fun t385=>(if t385=true then ((query_Group.f k t347 t348 t349 t352 bt377.1 bt377.2.1).bind fun t386=>(if t386.toList=([100,99,61,120,44,122,111,110,101,61,121]:List UInt8) then ((query_Same.f k t347 t348 t349 t352 t347 t348 t349 t352).bind fun t387=>(if t387=true then ((query_Same.f k t347 t348 t349 t352 0 (⟨#[]⟩:ByteArray) ([]:List (S127)) ([]:List ByteArray)).bind fun t388=>(some (!t388))) else (none))) else (none))) else (none))) else (none))) else (none))) else (none)) else (none)) else (none)) else (none)) else (none)) else (none)) else (none))))=some r:=H
 have A2:=Aside0.mk A20
 clear A20
 replace H:=Option.bind_eq_some_iff.mp H
 obtain ⟨⟨t367,t368,t369,t372,t375⟩,A30,H⟩:=H
 replace H:((ebbtideref04_Parse.f k (⟨#[99,112,117,123,97,61,49,44,100,99,61,120,44,122,111,110,101,61,121,125]⟩:ByteArray)).bind fun bt377=>(if t355=0 then (if t365=2 then (if t375=5 then (if t347=2 then (if t348.toList=([99,112,117]:List UInt8) then (if (t349.length:Int)=1 then (if (t352.length:Int)=2 then ((query_Text.f k t347 t348 t349 t352).bind fun t383=>(if t383.toList=([115,117,109,32,99,112,117,123,97,61,49,125,32,98,121,32,122,111,110,101,44,100,99]:List UInt8) then ((query_Right.f k t347 t348 t349 t352).bind fun t384=>(if t384=true then ((query_Fits.f k t347 t348 t349 t352 bt377.1 bt377.2.1).bind fun t385=>(if t385=true then ((query_Group.f k t347 t348 t349 t352 bt377.1 bt377.2.1).bind fun t386=>(if t386.toList=([100,99,61,120,44,122,111,110,101,61,121]:List UInt8) then ((query_Same.f k t347 t348 t349 t352 t347 t348 t349 t352).bind fun t387=>(if t387=true then ((query_Same.f k t347 t348 t349 t352 0 (⟨#[]⟩:ByteArray) ([]:List (S127)) ([]:List ByteArray)).bind fun t388=>(some (!t388))) else (none))) else (none))) else (none))) else (none))) else (none))) else (none)) else (none)) else (none)) else (none)) else (none)) else (none)) else (none)))=some r:=H
 have A3:=Aside0.mk A30
 clear A30
 replace H:=Option.bind_eq_some_iff.mp H
 obtain ⟨⟨t377,t378,t381⟩,A40,H⟩:=H
 replace H:(if t355=0 then (if t365=2 then (if t375=5 then (if t347=2 then (if t348.toList=([99,112,117]:List UInt8) then (if (t349.length:Int)=1 then (if (t352.length:Int)=2 then ((query_Text.f k t347 t348 t349 t352).bind fun t383=>(if t383.toList=([115,117,109,32,99,112,117,123,97,61,49,125,32,98,121,32,122,111,110,101,44,100,99]:List UInt8) then ((query_Right.f k t347 t348 t349 t352).bind fun t384=>(if t384=true then ((query_Fits.f k t347 t348 t349 t352 t377 t378).bind fun t385=>(if t385=true then ((query_Group.f k t347 t348 t349 t352 t377 t378).bind fun t386=>(if t386.toList=([100,99,61,120,44,122,111,110,101,61,121]:List UInt8) then ((query_Same.f k t347 t348 t349 t352 t347 t348 t349 t352).bind fun t387=>(if t387=true then ((query_Same.f k t347 t348 t349 t352 0 (⟨#[]⟩:ByteArray) ([]:List (S127)) ([]:List ByteArray)).bind fun t388=>(some (!t388))) else (none))) else (none))) else (none))) else (none))) else (none))) else (none)) else (none)) else (none)) else (none)) else (none)) else (none)) else (none))=some r:=H
 have A4:=Aside0.mk A40
 clear A40
 by_cases c5:t355=0
 rotate_left
 ·rw [if_neg c5] at H
  exact absurd H (by simp)
 rw [if_pos c5] at H
 have c5b0:(t355 ==0)=true:=beq_iff_eq.mpr c5
 have c5b1:(t355 != 0)=false:=bne_eq_false_iff_eq.mpr c5
 clear c5
 by_cases c6:t365=2
 rotate_left
 ·rw [if_neg c6] at H
  exact absurd H (by simp)
 rw [if_pos c6] at H
 have c6b0:(t365 ==2)=true:=beq_iff_eq.mpr c6
 have c6b1:(t365 != 2)=false:=bne_eq_false_iff_eq.mpr c6
 clear c6
 by_cases c7:t375=5
 rotate_left
 ·rw [if_neg c7] at H
  exact absurd H (by simp)
 rw [if_pos c7] at H
 have c7b0:(t375 ==5)=true:=beq_iff_eq.mpr c7
 have c7b1:(t375 != 5)=false:=bne_eq_false_iff_eq.mpr c7
 clear c7
 by_cases c8:t347=2
 rotate_left
 ·rw [if_neg c8] at H
  exact absurd H (by simp)
 rw [if_pos c8] at H
 have c8b0:(t347 ==2)=true:=beq_iff_eq.mpr c8
 have c8b1:(t347 != 2)=false:=bne_eq_false_iff_eq.mpr c8
 clear c8
 by_cases c9:t348.toList=([99,112,117]:List UInt8)
 rotate_left
 ·rw [if_neg c9] at H
  exact absurd H (by simp)
 rw [if_pos c9] at H
 have c9b0:(t348.toList ==([99,112,117]:List UInt8))=true:=beq_iff_eq.mpr c9
 have c9b1:(t348.toList != ([99,112,117]:List UInt8))=false:=bne_eq_false_iff_eq.mpr c9
 clear c9
 by_cases c10:(t349.length:Int)=1
 rotate_left
 ·rw [if_neg c10] at H
  exact absurd H (by simp)
 rw [if_pos c10] at H
 have c10b0:((t349.length:Int) ==1)=true:=beq_iff_eq.mpr c10
 have c10b1:((t349.length:Int) != 1)=false:=bne_eq_false_iff_eq.mpr c10
 clear c10
 by_cases c11:(t352.length:Int)=2
 rotate_left
 ·rw [if_neg c11] at H
  exact absurd H (by simp)
 rw [if_pos c11] at H
 have c11b0:((t352.length:Int) ==2)=true:=beq_iff_eq.mpr c11
 have c11b1:((t352.length:Int) != 2)=false:=bne_eq_false_iff_eq.mpr c11
 clear c11
 replace H:=Option.bind_eq_some_iff.mp H
 obtain ⟨t383,A120,H⟩:=H
 replace H:(if t383.toList=([115,117,109,32,99,112,117,123,97,61,49,125,32,98,121,32,122,111,110,101,44,100,99]:List UInt8) then ((query_Right.f k t347 t348 t349 t352).bind fun t384=>(if t384=true then ((query_Fits.f k t347 t348 t349 t352 t377 t378).bind fun t385=>(if t385=true then ((query_Group.f k t347 t348 t349 t352 t377 t378).bind fun t386=>(if t386.toList=([100,99,61,120,44,122,111,110,101,61,121]:List UInt8) then ((query_Same.f k t347 t348 t349 t352 t347 t348 t349 t352).bind fun t387=>(if t387=true then ((query_Same.f k t347 t348 t349 t352 0 (⟨#[]⟩:ByteArray) ([]:List (S127)) ([]:List ByteArray)).bind fun t388=>(some (!t388))) else (none))) else (none))) else (none))) else (none))) else (none))=some r:=H
 have A12:=Aside0.mk A120
 clear A120
 by_cases c13:t383.toList=([115,117,109,32,99,112,117,123,97,61,49,125,32,98,121,32,122,111,110,101,44,100,99]:List UInt8)
 rotate_left
 ·rw [if_neg c13] at H
  exact absurd H (by simp)
 rw [if_pos c13] at H
 have c13b0:(t383.toList ==([115,117,109,32,99,112,117,123,97,61,49,125,32,98,121,32,122,111,110,101,44,100,99]:List UInt8))=true:=beq_iff_eq.mpr c13
 have c13b1:(t383.toList != ([115,117,109,32,99,112,117,123,97,61,49,125,32,98,121,32,122,111,110,101,44,100,99]:List UInt8))=false:=bne_eq_false_iff_eq.mpr c13
 clear c13
 replace H:=Option.bind_eq_some_iff.mp H
 obtain ⟨t384,A140,H⟩:=H
 replace H:(if t384=true then ((query_Fits.f k t347 t348 t349 t352 t377 t378).bind fun t385=>(if t385=true then ((query_Group.f k t347 t348 t349 t352 t377 t378).bind fun t386=>(if t386.toList=([100,99,61,120,44,122,111,110,101,61,121]:List UInt8) then ((query_Same.f k t347 t348 t349 t352 t347 t348 t349 t352).bind fun t387=>(if t387=true then ((query_Same.f k t347 t348 t349 t352 0 (⟨#[]⟩:ByteArray) ([]:List (S127)) ([]:List ByteArray)).bind fun t388=>(some (!t388))) else (none))) else (none))) else (none))) else (none))=some r:=H
 have A14:=Aside0.mk A140
 clear A140
 by_cases c15:t384=true
 rotate_left
 ·replace c15:=Bool.eq_false_iff.mpr c15
  subst c15
  have H1:(none)=some r:=by rw [if_neg (show ¬ (false=true) by decide)] at H;exact H
  clear H
  have H:=H1
  clear H1
  exact absurd H (by simp)
 subst c15
 have H1:((query_Fits.f k t347 t348 t349 t352 t377 t378).bind fun t385=>(if t385=true then ((query_Group.f k t347 t348 t349 t352 t377 t378).bind fun t386=>(if t386.toList=([100,99,61,120,44,122,111,110,101,61,121]:List UInt8) then ((query_Same.f k t347 t348 t349 t352 t347 t348 t349 t352).bind fun t387=>(if t387=true then ((query_Same.f k t347 t348 t349 t352 0 (⟨#[]⟩:ByteArray) ([]:List (S127)) ([]:List ByteArray)).bind fun t388=>(some (!t388))) else (none))) else (none))) else (none)))=some r:=by rw [if_pos rfl] at H;exact H
 clear H
 have H:=H1
 clear H1
 replace H:=Option.bind_eq_some_iff.mp H
 obtain ⟨t385,A160,H⟩:=H
 replace H:(if t385=true then ((query_Group.f k t347 t348 t349 t352 t377 t378).bind fun t386=>(if t386.toList=([100,99,61,120,44,122,111,110,101,61,121]:List UInt8) then ((query_Same.f k t347 t348 t349 t352 t347 t348 t349 t352).bind fun t387=>(if t387=true then ((query_Same.f k t347 t348 t349 t352 0 (⟨#[]⟩:ByteArray) ([]:List (S127)) ([]:List ByteArray)).bind fun t388=>(some (!t388))) else (none))) else (none))) else (none))=some r:=H
 have A16:=Aside0.mk A160
 clear A160
 by_cases c17:t385=true
 rotate_left
 ·replace c17:=Bool.eq_false_iff.mpr c17
  subst c17
  have H1:(none)=some r:=by rw [if_neg (show ¬ (false=true) by decide)] at H;exact H
  clear H
  have H:=H1
  clear H1
  exact absurd H (by simp)
 subst c17
 have H1:((query_Group.f k t347 t348 t349 t352 t377 t378).bind fun t386=>(if t386.toList=([100,99,61,120,44,122,111,110,101,61,121]:List UInt8) then ((query_Same.f k t347 t348 t349 t352 t347 t348 t349 t352).bind fun t387=>(if t387=true then ((query_Same.f k t347 t348 t349 t352 0 (⟨#[]⟩:ByteArray) ([]:List (S127)) ([]:List ByteArray)).bind fun t388=>(some (!t388))) else (none))) else (none)))=some r:=by rw [if_pos rfl] at H;exact H
 clear H
 have H:=H1
 clear H1
 replace H:=Option.bind_eq_some_iff.mp H
 obtain ⟨t386,A180,H⟩:=H
 replace H:(if t386.toList=([100,99,61,120,44,122,111,110,101,61,121]:List UInt8) then ((query_Same.f k t347 t348 t349 t352 t347 t348 t349 t352).bind fun t387=>(if t387=true then ((query_Same.f k t347 t348 t349 t352 0 (⟨#[]⟩:ByteArray) ([]:List (S127)) ([]:List ByteArray)).bind fun t388=>(some (!t388))) else (none))) else (none))=some r:=H
 have A18:=Aside0.mk A180
 clear A180
 by_cases c19:t386.toList=([100,99,61,120,44,122,111,110,101,61,121]:List UInt8)
 rotate_left
 ·rw [if_neg c19] at H
  exact absurd H (by simp)
 rw [if_pos c19] at H
 have c19b0:(t386.toList ==([100,99,61,120,44,122,111,110,101,61,121]:List UInt8))=true:=beq_iff_eq.mpr c19
 have c19b1:(t386.toList != ([100,99,61,120,44,122,111,110,101,61,121]:List UInt8))=false:=bne_eq_false_iff_eq.mpr c19
 clear c19
 replace H:=Option.bind_eq_some_iff.mp H
 obtain ⟨t387,A200,H⟩:=H
 replace H:(if t387=true then ((query_Same.f k t347 t348 t349 t352 0 (⟨#[]⟩:ByteArray) ([]:List (S127)) ([]:List ByteArray)).bind fun t388=>(some (!t388))) else (none))=some r:=H
 have A20:=Aside0.mk A200
 clear A200
 by_cases c21:t387=true
 rotate_left
 ·replace c21:=Bool.eq_false_iff.mpr c21
  subst c21
  have H1:(none)=some r:=by rw [if_neg (show ¬ (false=true) by decide)] at H;exact H
  clear H
  have H:=H1
  clear H1
  exact absurd H (by simp)
 subst c21
 have H1:((query_Same.f k t347 t348 t349 t352 0 (⟨#[]⟩:ByteArray) ([]:List (S127)) ([]:List ByteArray)).bind fun t388=>(some (!t388)))=some r:=by rw [if_pos rfl] at H;exact H
 clear H
 have H:=H1
 clear H1
 replace H:=Option.bind_eq_some_iff.mp H
 obtain ⟨t388,A220,H⟩:=H
 replace H:(some (!t388))=some r:=H
 have A22:=Aside0.mk A220
 clear A220
 obtain rfl:=Option.some.inj H
 go_enter Tryz.func12,Tryz.ntmps12
 go_wp2_with (first|((with_reducible refine gate_callee (f:=20) rfl ?_);refine goesL_ (some 10) rfl rfl Tryz.func20 qK rfl #[.string (⟨#[115,117,109,32,32,99,112,117,123,97,61,49,125,32,98,121,32,122,111,110,101,44,100,99,32]⟩:ByteArray)] rfl qG ?_;(with_reducible refine (query_Parse.calls k (⟨#[115,117,109,32,32,99,112,117,123,97,61,49,125,32,98,121,32,122,111,110,101,44,100,99,32]⟩:ByteArray) t347 t348 t349 t352 t355 _ qM A1.out).mono ?_);rintro e w23 ⟨v350,v353,rfl,ho0,ho1,hb⟩;refine ⟨_,rfl,?_⟩;have HO351:=Aside0.mk (Kd.R_lower ho0 (below_size qB));have HO354:=Aside0.mk (Kd.R_lower ho1 (below_size qB));replace HB:=Aside0.mk (below_step qB hb);clear hb ho0 ho1)|((with_reducible refine gate_dst (N:=1) rfl ?_);(try (refine gate_guard (by rfl) ?_;dsimp only));refine box_event ?hg (N:=1) ?hd (cs:=#[.int .i64 0, .string (⟨#[]⟩:ByteArray), .slice none 0 0, .slice none 0 0]) (t:=25) ?hr ?_;(case hd=>rfl);(case hg=>rfl);(case hr=>first|(go_simp;done)|(go_simp;rfl));intro gb356 hg w24 hbox hb;replace HO351:=Aside0.mk (Kd.R_below (qR HO351) hb);replace HO354:=Aside0.mk (Kd.R_below (qR HO354) hb);have BK356:=Aside0.mk hbox;have GW356:Aside0 (w.heap.size≤gb356):=⟨qH⟩;have GE356:=GW356;replace HB:=Aside0.mk (below_step qB hb);clear hb hbox hg;obtain ⟨hcz25_0,hcz25_1,hcz25_2,hcz25_3,hfz25_0,hfz25_1,hfz25_2,hfz25_3⟩:=cf4 BK356.out;obtain ⟨Ao26,co26,eo26⟩:=Kd.R_slice HO351.out;subst eo26;obtain ⟨Ao27,co27,eo27⟩:=Kd.R_slice HO354.out;subst eo27)|((with_reducible refine gate_callee (f:=20) rfl ?_);refine goesL_ (some 14) rfl rfl Tryz.func20 qK rfl #[.string (⟨#[97,118,103,32,99,112,117]⟩:ByteArray)] rfl qG ?_;(with_reducible refine (query_Parse.calls k (⟨#[97,118,103,32,99,112,117]⟩:ByteArray) t357 t358 t359 t362 t365 _ qM A2.out).mono ?_);rintro e w28 ⟨v360,v363,rfl,ho0,ho1,hb⟩;refine ⟨_,rfl,?_⟩;have HO361:=Aside0.mk (Kd.R_lower (Kd.R_new' ho0 (Kd.R_lt (by (with_reducible repeat (first|apply Kd.R_alloc|apply Kd.R_drewN|apply Kd.R_drew));exact (Kd.R_mono (Kd.R_far (p:=⟨gb356,3,none⟩) (Kd.R_far (p:=⟨gb356,2,none⟩) (Kd.R_far (p:=⟨gb356,1,none⟩) (Kd.R_far (p:=⟨gb356,0,none⟩) (Kd.R_types HO351.out BK356.out (by decide)) (fun _ hk=>hk.2) (.int .i64 t347)) (fun _ hk=>hk.2) (.string t348)) (fun _ hk=>hk.2) (.slice Ao26 t349.length co26)) (fun _ hk=>hk.2) (.slice Ao27 t352.length co27)) (fun _ h_=>h_.1))))) (below_size qC));replace HO351:=Aside0.mk (Kd.R_elder' (by (with_reducible repeat (first|apply Kd.R_alloc|apply Kd.R_drewN|apply Kd.R_drew));exact (Kd.R_mono (Kd.R_far (p:=⟨gb356,3,none⟩) (Kd.R_far (p:=⟨gb356,2,none⟩) (Kd.R_far (p:=⟨gb356,1,none⟩) (Kd.R_far (p:=⟨gb356,0,none⟩) (Kd.R_types HO351.out BK356.out (by decide)) (fun _ hk=>hk.2) (.int .i64 t347)) (fun _ hk=>hk.2) (.string t348)) (fun _ hk=>hk.2) (.slice Ao26 t349.length co26)) (fun _ hk=>hk.2) (.slice Ao27 t352.length co27)) (fun _ h_=>h_.1))) (Kd.R_base ho0) hb);have HO364:=Aside0.mk (Kd.R_lower (Kd.R_new' ho1 (Kd.R_lt (by (with_reducible repeat (first|apply Kd.R_alloc|apply Kd.R_drewN|apply Kd.R_drew));exact (Kd.R_mono (Kd.R_far (p:=⟨gb356,3,none⟩) (Kd.R_far (p:=⟨gb356,2,none⟩) (Kd.R_far (p:=⟨gb356,1,none⟩) (Kd.R_far (p:=⟨gb356,0,none⟩) (Kd.R_types HO354.out BK356.out (by decide)) (fun _ hk=>hk.2) (.int .i64 t347)) (fun _ hk=>hk.2) (.string t348)) (fun _ hk=>hk.2) (.slice Ao26 t349.length co26)) (fun _ hk=>hk.2) (.slice Ao27 t352.length co27)) (fun _ h_=>h_.1))))) (below_size qC));replace HO354:=Aside0.mk (Kd.R_elder' (by (with_reducible repeat (first|apply Kd.R_alloc|apply Kd.R_drewN|apply Kd.R_drew));exact (Kd.R_mono (Kd.R_far (p:=⟨gb356,3,none⟩) (Kd.R_far (p:=⟨gb356,2,none⟩) (Kd.R_far (p:=⟨gb356,1,none⟩) (Kd.R_far (p:=⟨gb356,0,none⟩) (Kd.R_types HO354.out BK356.out (by decide)) (fun _ hk=>hk.2) (.int .i64 t347)) (fun _ hk=>hk.2) (.string t348)) (fun _ hk=>hk.2) (.slice Ao26 t349.length co26)) (fun _ hk=>hk.2) (.slice Ao27 t352.length co27)) (fun _ h_=>h_.1))) (Kd.R_base ho1) hb);replace BK356:=Aside0.mk (blk_below (g:=gb356) (o := .cells #[.int .i64 t347, .string t348, .slice Ao26 t349.length co26, .slice Ao27 t352.length co27] 25 (0,0)) (by (with_reducible repeat (first|refine blk_drewN ?_ _|refine blk_drew ?_|refine blk_alloc ?_ _));refine blk_put (cs:=#[.int .i64 t347, .string t348, .slice Ao26 t349.length co26, .slice none 0 0]) ?_ 3 _ rfl;(with_reducible repeat (first|refine blk_drewN ?_ _|refine blk_drew ?_|refine blk_alloc ?_ _));refine blk_put (cs:=#[.int .i64 t347, .string t348, .slice none 0 0, .slice none 0 0]) ?_ 2 _ rfl;(with_reducible repeat (first|refine blk_drewN ?_ _|refine blk_drew ?_|refine blk_alloc ?_ _));refine blk_put (cs:=#[.int .i64 t347, .string (⟨#[]⟩:ByteArray), .slice none 0 0, .slice none 0 0]) ?_ 1 _ rfl;(with_reducible repeat (first|refine blk_drewN ?_ _|refine blk_drew ?_|refine blk_alloc ?_ _));refine blk_put (cs:=#[.int .i64 0, .string (⟨#[]⟩:ByteArray), .slice none 0 0, .slice none 0 0]) ?_ 0 _ rfl;(with_reducible repeat (first|refine blk_drewN ?_ _|refine blk_drew ?_|refine blk_alloc ?_ _));exact BK356.out) hb);replace HB:=Aside0.mk (below_step qC hb);clear hb ho0 ho1)|((with_reducible refine gate_dst (N:=3) rfl ?_);(try (refine gate_guard (by rfl) ?_;dsimp only));refine box_event ?hg (N:=3) ?hd (cs:=#[.int .i64 0, .string (⟨#[]⟩:ByteArray), .slice none 0 0, .slice none 0 0]) (t:=25) ?hr ?_;(case hd=>rfl);(case hg=>rfl);(case hr=>first|(go_simp;done)|(go_simp;rfl));intro gb366 hg w29 hbox hb;replace HO351:=Aside0.mk (Kd.R_below (qR HO351) hb);replace HO354:=Aside0.mk (Kd.R_below (qR HO354) hb);replace HO361:=Aside0.mk (Kd.R_below (qR HO361) hb);replace HO364:=Aside0.mk (Kd.R_below (qR HO364) hb);have BK366:=Aside0.mk hbox;have GW366:Aside0 (w.heap.size≤gb366):=⟨qI⟩;have GE366:=GW366;replace HB:=Aside0.mk (below_step qC hb);have NB356_366:=Aside0.mk ((by rw [hg];exact Nat.ne_of_lt (blk_lt (g:=gb356) (o := .cells #[.int .i64 t347, .string t348, .slice Ao26 t349.length co26, .slice Ao27 t352.length co27] 25 (0,0)) (qW BK356)):gb356≠gb366));have NB366_356:=Aside0.mk ((by rw [hg];exact Nat.ne_of_gt (blk_lt (g:=gb356) (o := .cells #[.int .i64 t347, .string t348, .slice Ao26 t349.length co26, .slice Ao27 t352.length co27] 25 (0,0)) (qW BK356)):gb366≠gb356));replace BK356:=Aside0.mk (blk_below (g:=gb356) (o := .cells #[.int .i64 t347, .string t348, .slice Ao26 t349.length co26, .slice Ao27 t352.length co27] 25 (0,0)) (qW BK356) hb);clear hb hbox hg;have hnb30:=NB366_356.out;have hnc30:=NB356_366.out;obtain ⟨hcz31_0,hcz31_1,hcz31_2,hcz31_3,hfz31_0,hfz31_1,hfz31_2,hfz31_3⟩:=cf4 BK366.out;obtain ⟨Ao32,co32,eo32⟩:=Kd.R_slice HO361.out;subst eo32;obtain ⟨Ao33,co33,eo33⟩:=Kd.R_slice HO364.out;subst eo33)|((with_reducible refine gate_callee (f:=20) rfl ?_);refine goesL_ (some 18) rfl rfl Tryz.func20 qK rfl #[.string (⟨#[115,117,109,32,99,112,117,32,98,121,32,97,44,97]⟩:ByteArray)] rfl qG ?_;(with_reducible refine (query_Parse.calls k (⟨#[115,117,109,32,99,112,117,32,98,121,32,97,44,97]⟩:ByteArray) t367 t368 t369 t372 t375 _ qM A3.out).mono ?_);rintro e w34 ⟨v370,v373,rfl,ho0,ho1,hb⟩;refine ⟨_,rfl,?_⟩;have HO371:=Aside0.mk (Kd.R_lower (Kd.R_new' (Kd.R_new' ho0 (Kd.R_lt (by (with_reducible repeat (first|apply Kd.R_alloc|apply Kd.R_drewN|apply Kd.R_drew));exact (Kd.R_mono (Kd.R_far (p:=⟨gb366,3,none⟩) (Kd.R_far (p:=⟨gb366,2,none⟩) (Kd.R_far (p:=⟨gb366,1,none⟩) (Kd.R_far (p:=⟨gb366,0,none⟩) (Kd.R_types HO351.out BK366.out (by decide)) (fun _ hk=>hk.2) (.int .i64 t357)) (fun _ hk=>hk.2) (.string t358)) (fun _ hk=>hk.2) (.slice Ao32 t359.length co32)) (fun _ hk=>hk.2) (.slice Ao33 t362.length co33)) (fun _ h_=>h_.1))))) (Kd.R_lt (by (with_reducible repeat (first|apply Kd.R_alloc|apply Kd.R_drewN|apply Kd.R_drew));exact (Kd.R_mono (Kd.R_far (p:=⟨gb366,3,none⟩) (Kd.R_far (p:=⟨gb366,2,none⟩) (Kd.R_far (p:=⟨gb366,1,none⟩) (Kd.R_far (p:=⟨gb366,0,none⟩) (Kd.R_types HO361.out BK366.out (by decide)) (fun _ hk=>hk.2) (.int .i64 t357)) (fun _ hk=>hk.2) (.string t358)) (fun _ hk=>hk.2) (.slice Ao32 t359.length co32)) (fun _ hk=>hk.2) (.slice Ao33 t362.length co33)) (fun _ h_=>h_.1))))) (below_size qC));replace HO351:=Aside0.mk (Kd.R_elder' (by (with_reducible repeat (first|apply Kd.R_alloc|apply Kd.R_drewN|apply Kd.R_drew));exact (Kd.R_mono (Kd.R_far (p:=⟨gb366,3,none⟩) (Kd.R_far (p:=⟨gb366,2,none⟩) (Kd.R_far (p:=⟨gb366,1,none⟩) (Kd.R_far (p:=⟨gb366,0,none⟩) (Kd.R_types HO351.out BK366.out (by decide)) (fun _ hk=>hk.2) (.int .i64 t357)) (fun _ hk=>hk.2) (.string t358)) (fun _ hk=>hk.2) (.slice Ao32 t359.length co32)) (fun _ hk=>hk.2) (.slice Ao33 t362.length co33)) (fun _ h_=>h_.1))) (Kd.R_base ho0) hb);replace HO361:=Aside0.mk (Kd.R_elder' (by (with_reducible repeat (first|apply Kd.R_alloc|apply Kd.R_drewN|apply Kd.R_drew));exact (Kd.R_mono (Kd.R_far (p:=⟨gb366,3,none⟩) (Kd.R_far (p:=⟨gb366,2,none⟩) (Kd.R_far (p:=⟨gb366,1,none⟩) (Kd.R_far (p:=⟨gb366,0,none⟩) (Kd.R_types HO361.out BK366.out (by decide)) (fun _ hk=>hk.2) (.int .i64 t357)) (fun _ hk=>hk.2) (.string t358)) (fun _ hk=>hk.2) (.slice Ao32 t359.length co32)) (fun _ hk=>hk.2) (.slice Ao33 t362.length co33)) (fun _ h_=>h_.1))) (Kd.R_base ho0) hb);have HO374:=Aside0.mk (Kd.R_lower (Kd.R_new' (Kd.R_new' ho1 (Kd.R_lt (by (with_reducible repeat (first|apply Kd.R_alloc|apply Kd.R_drewN|apply Kd.R_drew));exact (Kd.R_mono (Kd.R_far (p:=⟨gb366,3,none⟩) (Kd.R_far (p:=⟨gb366,2,none⟩) (Kd.R_far (p:=⟨gb366,1,none⟩) (Kd.R_far (p:=⟨gb366,0,none⟩) (Kd.R_types HO354.out BK366.out (by decide)) (fun _ hk=>hk.2) (.int .i64 t357)) (fun _ hk=>hk.2) (.string t358)) (fun _ hk=>hk.2) (.slice Ao32 t359.length co32)) (fun _ hk=>hk.2) (.slice Ao33 t362.length co33)) (fun _ h_=>h_.1))))) (Kd.R_lt (by (with_reducible repeat (first|apply Kd.R_alloc|apply Kd.R_drewN|apply Kd.R_drew));exact (Kd.R_mono (Kd.R_far (p:=⟨gb366,3,none⟩) (Kd.R_far (p:=⟨gb366,2,none⟩) (Kd.R_far (p:=⟨gb366,1,none⟩) (Kd.R_far (p:=⟨gb366,0,none⟩) (Kd.R_types HO364.out BK366.out (by decide)) (fun _ hk=>hk.2) (.int .i64 t357)) (fun _ hk=>hk.2) (.string t358)) (fun _ hk=>hk.2) (.slice Ao32 t359.length co32)) (fun _ hk=>hk.2) (.slice Ao33 t362.length co33)) (fun _ h_=>h_.1))))) (below_size qC));replace HO354:=Aside0.mk (Kd.R_elder' (by (with_reducible repeat (first|apply Kd.R_alloc|apply Kd.R_drewN|apply Kd.R_drew));exact (Kd.R_mono (Kd.R_far (p:=⟨gb366,3,none⟩) (Kd.R_far (p:=⟨gb366,2,none⟩) (Kd.R_far (p:=⟨gb366,1,none⟩) (Kd.R_far (p:=⟨gb366,0,none⟩) (Kd.R_types HO354.out BK366.out (by decide)) (fun _ hk=>hk.2) (.int .i64 t357)) (fun _ hk=>hk.2) (.string t358)) (fun _ hk=>hk.2) (.slice Ao32 t359.length co32)) (fun _ hk=>hk.2) (.slice Ao33 t362.length co33)) (fun _ h_=>h_.1))) (Kd.R_base ho1) hb);replace HO364:=Aside0.mk (Kd.R_elder' (by (with_reducible repeat (first|apply Kd.R_alloc|apply Kd.R_drewN|apply Kd.R_drew));exact (Kd.R_mono (Kd.R_far (p:=⟨gb366,3,none⟩) (Kd.R_far (p:=⟨gb366,2,none⟩) (Kd.R_far (p:=⟨gb366,1,none⟩) (Kd.R_far (p:=⟨gb366,0,none⟩) (Kd.R_types HO364.out BK366.out (by decide)) (fun _ hk=>hk.2) (.int .i64 t357)) (fun _ hk=>hk.2) (.string t358)) (fun _ hk=>hk.2) (.slice Ao32 t359.length co32)) (fun _ hk=>hk.2) (.slice Ao33 t362.length co33)) (fun _ h_=>h_.1))) (Kd.R_base ho1) hb);replace BK356:=Aside0.mk (blk_below (g:=gb356) (o := .cells #[.int .i64 t347, .string t348, .slice Ao26 t349.length co26, .slice Ao27 t352.length co27] 25 (0,0)) (by (with_reducible repeat (first|refine blk_drewN ?_ _|refine blk_drew ?_|refine blk_alloc ?_ _));refine blk_far ?_ NB356_366.out _;(with_reducible repeat (first|refine blk_drewN ?_ _|refine blk_drew ?_|refine blk_alloc ?_ _));refine blk_far ?_ NB356_366.out _;(with_reducible repeat (first|refine blk_drewN ?_ _|refine blk_drew ?_|refine blk_alloc ?_ _));refine blk_far ?_ NB356_366.out _;(with_reducible repeat (first|refine blk_drewN ?_ _|refine blk_drew ?_|refine blk_alloc ?_ _));refine blk_far ?_ NB356_366.out _;(with_reducible repeat (first|refine blk_drewN ?_ _|refine blk_drew ?_|refine blk_alloc ?_ _));exact BK356.out) hb);replace BK366:=Aside0.mk (blk_below (g:=gb366) (o := .cells #[.int .i64 t357, .string t358, .slice Ao32 t359.length co32, .slice Ao33 t362.length co33] 25 (0,0)) (by (with_reducible repeat (first|refine blk_drewN ?_ _|refine blk_drew ?_|refine blk_alloc ?_ _));refine blk_put (cs:=#[.int .i64 t357, .string t358, .slice Ao32 t359.length co32, .slice none 0 0]) ?_ 3 _ rfl;(with_reducible repeat (first|refine blk_drewN ?_ _|refine blk_drew ?_|refine blk_alloc ?_ _));refine blk_put (cs:=#[.int .i64 t357, .string t358, .slice none 0 0, .slice none 0 0]) ?_ 2 _ rfl;(with_reducible repeat (first|refine blk_drewN ?_ _|refine blk_drew ?_|refine blk_alloc ?_ _));refine blk_put (cs:=#[.int .i64 t357, .string (⟨#[]⟩:ByteArray), .slice none 0 0, .slice none 0 0]) ?_ 1 _ rfl;(with_reducible repeat (first|refine blk_drewN ?_ _|refine blk_drew ?_|refine blk_alloc ?_ _));refine blk_put (cs:=#[.int .i64 0, .string (⟨#[]⟩:ByteArray), .slice none 0 0, .slice none 0 0]) ?_ 0 _ rfl;(with_reducible repeat (first|refine blk_drewN ?_ _|refine blk_drew ?_|refine blk_alloc ?_ _));exact BK366.out) hb);replace HB:=Aside0.mk (below_step qC hb);(try clear hb);(try clear hb2);(try clear hk);(try clear hi);(try clear ho0);(try clear ho1))|((with_reducible refine gate_dst (N:=5) rfl ?_);(try (refine gate_guard (by rfl) ?_;dsimp only));refine box_event ?hg (N:=5) ?hd (cs:=#[.int .i64 0, .string (⟨#[]⟩:ByteArray), .slice none 0 0, .slice none 0 0]) (t:=25) ?hr ?_;(case hd=>rfl);(case hg=>rfl);(case hr=>first|(go_simp;done)|(go_simp;rfl));intro gb376 hg w35 hbox hb;replace HO351:=Aside0.mk (Kd.R_below (qR HO351) hb);replace HO354:=Aside0.mk (Kd.R_below (qR HO354) hb);replace HO361:=Aside0.mk (Kd.R_below (qR HO361) hb);replace HO364:=Aside0.mk (Kd.R_below (qR HO364) hb);replace HO371:=Aside0.mk (Kd.R_below (qR HO371) hb);replace HO374:=Aside0.mk (Kd.R_below (qR HO374) hb);have BK376:=Aside0.mk hbox;have GW376:Aside0 (w.heap.size≤gb376):=⟨qI⟩;have GE376:=GW376;replace HB:=Aside0.mk (below_step qC hb);have NB356_376:=Aside0.mk ((by rw [hg];exact Nat.ne_of_lt (blk_lt (g:=gb356) (o := .cells #[.int .i64 t347, .string t348, .slice Ao26 t349.length co26, .slice Ao27 t352.length co27] 25 (0,0)) (qW BK356)):gb356≠gb376));have NB376_356:=Aside0.mk ((by rw [hg];exact Nat.ne_of_gt (blk_lt (g:=gb356) (o := .cells #[.int .i64 t347, .string t348, .slice Ao26 t349.length co26, .slice Ao27 t352.length co27] 25 (0,0)) (qW BK356)):gb376≠gb356));replace BK356:=Aside0.mk (blk_below (g:=gb356) (o := .cells #[.int .i64 t347, .string t348, .slice Ao26 t349.length co26, .slice Ao27 t352.length co27] 25 (0,0)) (qW BK356) hb);have NB366_376:=Aside0.mk ((by rw [hg];exact Nat.ne_of_lt (blk_lt (g:=gb366) (o := .cells #[.int .i64 t357, .string t358, .slice Ao32 t359.length co32, .slice Ao33 t362.length co33] 25 (0,0)) (qW BK366)):gb366≠gb376));have NB376_366:=Aside0.mk ((by rw [hg];exact Nat.ne_of_gt (blk_lt (g:=gb366) (o := .cells #[.int .i64 t357, .string t358, .slice Ao32 t359.length co32, .slice Ao33 t362.length co33] 25 (0,0)) (qW BK366)):gb376≠gb366));replace BK366:=Aside0.mk (blk_below (g:=gb366) (o := .cells #[.int .i64 t357, .string t358, .slice Ao32 t359.length co32, .slice Ao33 t362.length co33] 25 (0,0)) (qW BK366) hb);clear hb hbox hg;have hnb36:=NB376_356.out;have hnc36:=NB356_376.out;have hnb37:=NB376_366.out;have hnc37:=NB366_376.out;obtain ⟨hcz38_0,hcz38_1,hcz38_2,hcz38_3,hfz38_0,hfz38_1,hfz38_2,hfz38_3⟩:=cf4 BK376.out;obtain ⟨Ao39,co39,eo39⟩:=Kd.R_slice HO371.out;subst eo39;obtain ⟨Ao40,co40,eo40⟩:=Kd.R_slice HO374.out;subst eo40)|((with_reducible refine gate_callee (f:=48) rfl ?_);refine goesL_ (some 22) rfl rfl Tryz.func48 qK rfl #[.string (⟨#[99,112,117,123,97,61,49,44,100,99,61,120,44,122,111,110,101,61,121,125]⟩:ByteArray)] rfl qG ?_;(with_reducible refine (ebbtideref04_Parse.calls k (⟨#[99,112,117,123,97,61,49,44,100,99,61,120,44,122,111,110,101,61,121,125]⟩:ByteArray) t377 t378 t381 _ A4.out).mono ?_);rintro e w41 ⟨v379,rfl,ho0,hb⟩;refine ⟨_,rfl,?_⟩;replace HO351:=Aside0.mk (Kd.R_below (by (with_reducible repeat (first|apply Kd.R_alloc|apply Kd.R_drewN|apply Kd.R_drew));exact (Kd.R_mono (Kd.R_far (p:=⟨gb376,3,none⟩) (Kd.R_far (p:=⟨gb376,2,none⟩) (Kd.R_far (p:=⟨gb376,1,none⟩) (Kd.R_far (p:=⟨gb376,0,none⟩) (Kd.R_types HO351.out BK376.out (by decide)) (fun _ hk=>hk.2) (.int .i64 t367)) (fun _ hk=>hk.2) (.string t368)) (fun _ hk=>hk.2) (.slice Ao39 t369.length co39)) (fun _ hk=>hk.2) (.slice Ao40 t372.length co40)) (fun _ h_=>h_.1))) hb);replace HO354:=Aside0.mk (Kd.R_below (by (with_reducible repeat (first|apply Kd.R_alloc|apply Kd.R_drewN|apply Kd.R_drew));exact (Kd.R_mono (Kd.R_far (p:=⟨gb376,3,none⟩) (Kd.R_far (p:=⟨gb376,2,none⟩) (Kd.R_far (p:=⟨gb376,1,none⟩) (Kd.R_far (p:=⟨gb376,0,none⟩) (Kd.R_types HO354.out BK376.out (by decide)) (fun _ hk=>hk.2) (.int .i64 t367)) (fun _ hk=>hk.2) (.string t368)) (fun _ hk=>hk.2) (.slice Ao39 t369.length co39)) (fun _ hk=>hk.2) (.slice Ao40 t372.length co40)) (fun _ h_=>h_.1))) hb);replace HO361:=Aside0.mk (Kd.R_below (by (with_reducible repeat (first|apply Kd.R_alloc|apply Kd.R_drewN|apply Kd.R_drew));exact (Kd.R_mono (Kd.R_far (p:=⟨gb376,3,none⟩) (Kd.R_far (p:=⟨gb376,2,none⟩) (Kd.R_far (p:=⟨gb376,1,none⟩) (Kd.R_far (p:=⟨gb376,0,none⟩) (Kd.R_types HO361.out BK376.out (by decide)) (fun _ hk=>hk.2) (.int .i64 t367)) (fun _ hk=>hk.2) (.string t368)) (fun _ hk=>hk.2) (.slice Ao39 t369.length co39)) (fun _ hk=>hk.2) (.slice Ao40 t372.length co40)) (fun _ h_=>h_.1))) hb);replace HO364:=Aside0.mk (Kd.R_below (by (with_reducible repeat (first|apply Kd.R_alloc|apply Kd.R_drewN|apply Kd.R_drew));exact (Kd.R_mono (Kd.R_far (p:=⟨gb376,3,none⟩) (Kd.R_far (p:=⟨gb376,2,none⟩) (Kd.R_far (p:=⟨gb376,1,none⟩) (Kd.R_far (p:=⟨gb376,0,none⟩) (Kd.R_types HO364.out BK376.out (by decide)) (fun _ hk=>hk.2) (.int .i64 t367)) (fun _ hk=>hk.2) (.string t368)) (fun _ hk=>hk.2) (.slice Ao39 t369.length co39)) (fun _ hk=>hk.2) (.slice Ao40 t372.length co40)) (fun _ h_=>h_.1))) hb);replace HO371:=Aside0.mk (Kd.R_below (by (with_reducible repeat (first|apply Kd.R_alloc|apply Kd.R_drewN|apply Kd.R_drew));exact (Kd.R_mono (Kd.R_far (p:=⟨gb376,3,none⟩) (Kd.R_far (p:=⟨gb376,2,none⟩) (Kd.R_far (p:=⟨gb376,1,none⟩) (Kd.R_far (p:=⟨gb376,0,none⟩) (Kd.R_types HO371.out BK376.out (by decide)) (fun _ hk=>hk.2) (.int .i64 t367)) (fun _ hk=>hk.2) (.string t368)) (fun _ hk=>hk.2) (.slice Ao39 t369.length co39)) (fun _ hk=>hk.2) (.slice Ao40 t372.length co40)) (fun _ h_=>h_.1))) hb);replace HO374:=Aside0.mk (Kd.R_below (by (with_reducible repeat (first|apply Kd.R_alloc|apply Kd.R_drewN|apply Kd.R_drew));exact (Kd.R_mono (Kd.R_far (p:=⟨gb376,3,none⟩) (Kd.R_far (p:=⟨gb376,2,none⟩) (Kd.R_far (p:=⟨gb376,1,none⟩) (Kd.R_far (p:=⟨gb376,0,none⟩) (Kd.R_types HO374.out BK376.out (by decide)) (fun _ hk=>hk.2) (.int .i64 t367)) (fun _ hk=>hk.2) (.string t368)) (fun _ hk=>hk.2) (.slice Ao39 t369.length co39)) (fun _ hk=>hk.2) (.slice Ao40 t372.length co40)) (fun _ h_=>h_.1))) hb);have HO380:=Aside0.mk (Kd.R_lower ho0 (below_size qC));replace BK356:=Aside0.mk (blk_below (g:=gb356) (o := .cells #[.int .i64 t347, .string t348, .slice Ao26 t349.length co26, .slice Ao27 t352.length co27] 25 (0,0)) (by (with_reducible repeat (first|refine blk_drewN ?_ _|refine blk_drew ?_|refine blk_alloc ?_ _));refine blk_far ?_ NB356_376.out _;(with_reducible repeat (first|refine blk_drewN ?_ _|refine blk_drew ?_|refine blk_alloc ?_ _));refine blk_far ?_ NB356_376.out _;(with_reducible repeat (first|refine blk_drewN ?_ _|refine blk_drew ?_|refine blk_alloc ?_ _));refine blk_far ?_ NB356_376.out _;(with_reducible repeat (first|refine blk_drewN ?_ _|refine blk_drew ?_|refine blk_alloc ?_ _));refine blk_far ?_ NB356_376.out _;(with_reducible repeat (first|refine blk_drewN ?_ _|refine blk_drew ?_|refine blk_alloc ?_ _));exact BK356.out) hb);replace BK366:=Aside0.mk (blk_below (g:=gb366) (o := .cells #[.int .i64 t357, .string t358, .slice Ao32 t359.length co32, .slice Ao33 t362.length co33] 25 (0,0)) (by (with_reducible repeat (first|refine blk_drewN ?_ _|refine blk_drew ?_|refine blk_alloc ?_ _));refine blk_far ?_ NB366_376.out _;(with_reducible repeat (first|refine blk_drewN ?_ _|refine blk_drew ?_|refine blk_alloc ?_ _));refine blk_far ?_ NB366_376.out _;(with_reducible repeat (first|refine blk_drewN ?_ _|refine blk_drew ?_|refine blk_alloc ?_ _));refine blk_far ?_ NB366_376.out _;(with_reducible repeat (first|refine blk_drewN ?_ _|refine blk_drew ?_|refine blk_alloc ?_ _));refine blk_far ?_ NB366_376.out _;(with_reducible repeat (first|refine blk_drewN ?_ _|refine blk_drew ?_|refine blk_alloc ?_ _));exact BK366.out) hb);replace BK376:=Aside0.mk (blk_below (g:=gb376) (o := .cells #[.int .i64 t367, .string t368, .slice Ao39 t369.length co39, .slice Ao40 t372.length co40] 25 (0,0)) (by (with_reducible repeat (first|refine blk_drewN ?_ _|refine blk_drew ?_|refine blk_alloc ?_ _));refine blk_put (cs:=#[.int .i64 t367, .string t368, .slice Ao39 t369.length co39, .slice none 0 0]) ?_ 3 _ rfl;(with_reducible repeat (first|refine blk_drewN ?_ _|refine blk_drew ?_|refine blk_alloc ?_ _));refine blk_put (cs:=#[.int .i64 t367, .string t368, .slice none 0 0, .slice none 0 0]) ?_ 2 _ rfl;(with_reducible repeat (first|refine blk_drewN ?_ _|refine blk_drew ?_|refine blk_alloc ?_ _));refine blk_put (cs:=#[.int .i64 t367, .string (⟨#[]⟩:ByteArray), .slice none 0 0, .slice none 0 0]) ?_ 1 _ rfl;(with_reducible repeat (first|refine blk_drewN ?_ _|refine blk_drew ?_|refine blk_alloc ?_ _));refine blk_put (cs:=#[.int .i64 0, .string (⟨#[]⟩:ByteArray), .slice none 0 0, .slice none 0 0]) ?_ 0 _ rfl;(with_reducible repeat (first|refine blk_drewN ?_ _|refine blk_drew ?_|refine blk_alloc ?_ _));exact BK376.out) hb);replace HB:=Aside0.mk (below_step qC hb);(try clear hb);(try clear hb2);(try clear hk);(try clear hi);(try clear ho0))|((with_reducible refine gate_dst (N:=7) rfl ?_);(try (refine gate_guard (by rfl) ?_;dsimp only));refine box_event ?hg (N:=7) ?hd (cs:=#[.string (⟨#[]⟩:ByteArray), .slice none 0 0]) (t:=36) ?hr ?_;(case hd=>rfl);(case hg=>rfl);(case hr=>first|(go_simp;done)|(go_simp;rfl));intro gb382 hg w42 hbox hb;replace HO351:=Aside0.mk (Kd.R_below (qR HO351) hb);replace HO354:=Aside0.mk (Kd.R_below (qR HO354) hb);replace HO361:=Aside0.mk (Kd.R_below (qR HO361) hb);replace HO364:=Aside0.mk (Kd.R_below (qR HO364) hb);replace HO371:=Aside0.mk (Kd.R_below (qR HO371) hb);replace HO374:=Aside0.mk (Kd.R_below (qR HO374) hb);replace HO380:=Aside0.mk (Kd.R_below (qR HO380) hb);have BK382:=Aside0.mk hbox;have GW382:Aside0 (w.heap.size≤gb382):=⟨qI⟩;have GE382:=GW382;replace HB:=Aside0.mk (below_step qC hb);have NB356_382:=Aside0.mk ((by rw [hg];exact Nat.ne_of_lt (blk_lt (g:=gb356) (o := .cells #[.int .i64 t347, .string t348, .slice Ao26 t349.length co26, .slice Ao27 t352.length co27] 25 (0,0)) (qW BK356)):gb356≠gb382));have NB382_356:=Aside0.mk ((by rw [hg];exact Nat.ne_of_gt (blk_lt (g:=gb356) (o := .cells #[.int .i64 t347, .string t348, .slice Ao26 t349.length co26, .slice Ao27 t352.length co27] 25 (0,0)) (qW BK356)):gb382≠gb356));replace BK356:=Aside0.mk (blk_below (g:=gb356) (o := .cells #[.int .i64 t347, .string t348, .slice Ao26 t349.length co26, .slice Ao27 t352.length co27] 25 (0,0)) (qW BK356) hb);have NB366_382:=Aside0.mk ((by rw [hg];exact Nat.ne_of_lt (blk_lt (g:=gb366) (o := .cells #[.int .i64 t357, .string t358, .slice Ao32 t359.length co32, .slice Ao33 t362.length co33] 25 (0,0)) (qW BK366)):gb366≠gb382));have NB382_366:=Aside0.mk ((by rw [hg];exact Nat.ne_of_gt (blk_lt (g:=gb366) (o := .cells #[.int .i64 t357, .string t358, .slice Ao32 t359.length co32, .slice Ao33 t362.length co33] 25 (0,0)) (qW BK366)):gb382≠gb366));replace BK366:=Aside0.mk (blk_below (g:=gb366) (o := .cells #[.int .i64 t357, .string t358, .slice Ao32 t359.length co32, .slice Ao33 t362.length co33] 25 (0,0)) (qW BK366) hb);have NB376_382:=Aside0.mk ((by rw [hg];exact Nat.ne_of_lt (blk_lt (g:=gb376) (o := .cells #[.int .i64 t367, .string t368, .slice Ao39 t369.length co39, .slice Ao40 t372.length co40] 25 (0,0)) (qW BK376)):gb376≠gb382));have NB382_376:=Aside0.mk ((by rw [hg];exact Nat.ne_of_gt (blk_lt (g:=gb376) (o := .cells #[.int .i64 t367, .string t368, .slice Ao39 t369.length co39, .slice Ao40 t372.length co40] 25 (0,0)) (qW BK376)):gb382≠gb376));replace BK376:=Aside0.mk (blk_below (g:=gb376) (o := .cells #[.int .i64 t367, .string t368, .slice Ao39 t369.length co39, .slice Ao40 t372.length co40] 25 (0,0)) (qW BK376) hb);clear hb hbox hg;have hnb43:=NB382_356.out;have hnc43:=NB356_382.out;have hnb44:=NB382_366.out;have hnc44:=NB366_382.out;have hnb45:=NB382_376.out;have hnc45:=NB376_382.out;obtain ⟨hcz46_0,hcz46_1,hfz46_0,hfz46_1⟩:=cf2 BK382.out;obtain ⟨Ao47,co47,eo47⟩:=Kd.R_slice HO380.out;subst eo47;obtain ⟨hcz48_0,hcz48_1,hcz48_2,hcz48_3,hfz48_0,hfz48_1,hfz48_2,hfz48_3⟩:=cf4 BK356.out)|(go_at_call 16;(with_reducible refine (query_Text.calls k t347 t348 _ _ t349 _ _ t352 t383 _ ?side1 ?side2 ?side3 ?side4 A12.out).mono ?_);(case side1=>refine (Kd.R_reads' (e:=127) (base:=w.heap.size) (ok:=fun k_=>((True∧some k_≠(.slice Ao32 t359.length co32:Value).ownBlock)∧some k_≠(.slice Ao39 t369.length co39:Value).ownBlock)) (n:=t349.length) (c:=co26) ?_).2.2;exact (by (with_reducible repeat (first|apply Kd.R_alloc|apply Kd.R_drewN|apply Kd.R_drew));exact (Kd.R_mono (Kd.R_far (p:=⟨gb382,1,none⟩) (Kd.R_far (p:=⟨gb382,0,none⟩) (Kd.R_types HO351.out BK382.out (by decide)) (fun _ hk=>hk.2) (.string t377)) (fun _ hk=>hk.2) (.slice Ao47 t378.length co47)) (fun _ h_=>h_.1))));(case side2=>exact (Kd.R_reads' HO351.out).2.1);(case side3=>refine (Kd.R_reads' (e:=9) (base:=w.heap.size) (ok:=fun k_=>((True∧some k_≠(.slice Ao33 t362.length co33:Value).ownBlock)∧some k_≠(.slice Ao40 t372.length co40:Value).ownBlock)) (n:=t352.length) (c:=co27) ?_).2.2;exact (by (with_reducible repeat (first|apply Kd.R_alloc|apply Kd.R_drewN|apply Kd.R_drew));exact (Kd.R_mono (Kd.R_far (p:=⟨gb382,1,none⟩) (Kd.R_far (p:=⟨gb382,0,none⟩) (Kd.R_types HO354.out BK382.out (by decide)) (fun _ hk=>hk.2) (.string t377)) (fun _ hk=>hk.2) (.slice Ao47 t378.length co47)) (fun _ h_=>h_.1))));(case side4=>exact (Kd.R_reads' HO354.out).2.1);rintro e w49 ⟨rfl,hb⟩;replace HO351:=Aside0.mk (Kd.R_below (by (with_reducible repeat (first|apply Kd.R_alloc|apply Kd.R_drewN|apply Kd.R_drew));exact (Kd.R_mono (Kd.R_far (p:=⟨gb382,1,none⟩) (Kd.R_far (p:=⟨gb382,0,none⟩) (Kd.R_types HO351.out BK382.out (by decide)) (fun _ hk=>hk.2) (.string t377)) (fun _ hk=>hk.2) (.slice Ao47 t378.length co47)) (fun _ h_=>h_.1))) hb);replace HO354:=Aside0.mk (Kd.R_below (by (with_reducible repeat (first|apply Kd.R_alloc|apply Kd.R_drewN|apply Kd.R_drew));exact (Kd.R_mono (Kd.R_far (p:=⟨gb382,1,none⟩) (Kd.R_far (p:=⟨gb382,0,none⟩) (Kd.R_types HO354.out BK382.out (by decide)) (fun _ hk=>hk.2) (.string t377)) (fun _ hk=>hk.2) (.slice Ao47 t378.length co47)) (fun _ h_=>h_.1))) hb);replace HO361:=Aside0.mk (Kd.R_below (by (with_reducible repeat (first|apply Kd.R_alloc|apply Kd.R_drewN|apply Kd.R_drew));exact (Kd.R_mono (Kd.R_far (p:=⟨gb382,1,none⟩) (Kd.R_far (p:=⟨gb382,0,none⟩) (Kd.R_types HO361.out BK382.out (by decide)) (fun _ hk=>hk.2) (.string t377)) (fun _ hk=>hk.2) (.slice Ao47 t378.length co47)) (fun _ h_=>h_.1))) hb);replace HO364:=Aside0.mk (Kd.R_below (by (with_reducible repeat (first|apply Kd.R_alloc|apply Kd.R_drewN|apply Kd.R_drew));exact (Kd.R_mono (Kd.R_far (p:=⟨gb382,1,none⟩) (Kd.R_far (p:=⟨gb382,0,none⟩) (Kd.R_types HO364.out BK382.out (by decide)) (fun _ hk=>hk.2) (.string t377)) (fun _ hk=>hk.2) (.slice Ao47 t378.length co47)) (fun _ h_=>h_.1))) hb);replace HO371:=Aside0.mk (Kd.R_below (by (with_reducible repeat (first|apply Kd.R_alloc|apply Kd.R_drewN|apply Kd.R_drew));exact (Kd.R_mono (Kd.R_far (p:=⟨gb382,1,none⟩) (Kd.R_far (p:=⟨gb382,0,none⟩) (Kd.R_types HO371.out BK382.out (by decide)) (fun _ hk=>hk.2) (.string t377)) (fun _ hk=>hk.2) (.slice Ao47 t378.length co47)) (fun _ h_=>h_.1))) hb);replace HO374:=Aside0.mk (Kd.R_below (by (with_reducible repeat (first|apply Kd.R_alloc|apply Kd.R_drewN|apply Kd.R_drew));exact (Kd.R_mono (Kd.R_far (p:=⟨gb382,1,none⟩) (Kd.R_far (p:=⟨gb382,0,none⟩) (Kd.R_types HO374.out BK382.out (by decide)) (fun _ hk=>hk.2) (.string t377)) (fun _ hk=>hk.2) (.slice Ao47 t378.length co47)) (fun _ h_=>h_.1))) hb);replace HO380:=Aside0.mk (Kd.R_below (by (with_reducible repeat (first|apply Kd.R_alloc|apply Kd.R_drewN|apply Kd.R_drew));exact (Kd.R_mono (Kd.R_far (p:=⟨gb382,1,none⟩) (Kd.R_far (p:=⟨gb382,0,none⟩) (Kd.R_types HO380.out BK382.out (by decide)) (fun _ hk=>hk.2) (.string t377)) (fun _ hk=>hk.2) (.slice Ao47 t378.length co47)) (fun _ h_=>h_.1))) hb);replace BK356:=Aside0.mk (blk_below (g:=gb356) (o := .cells #[.int .i64 t347, .string t348, .slice Ao26 t349.length co26, .slice Ao27 t352.length co27] 25 (0,0)) (by (with_reducible repeat (first|refine blk_drewN ?_ _|refine blk_drew ?_|refine blk_alloc ?_ _));refine blk_far ?_ NB356_382.out _;(with_reducible repeat (first|refine blk_drewN ?_ _|refine blk_drew ?_|refine blk_alloc ?_ _));refine blk_far ?_ NB356_382.out _;(with_reducible repeat (first|refine blk_drewN ?_ _|refine blk_drew ?_|refine blk_alloc ?_ _));exact BK356.out) hb);replace BK366:=Aside0.mk (blk_below (g:=gb366) (o := .cells #[.int .i64 t357, .string t358, .slice Ao32 t359.length co32, .slice Ao33 t362.length co33] 25 (0,0)) (by (with_reducible repeat (first|refine blk_drewN ?_ _|refine blk_drew ?_|refine blk_alloc ?_ _));refine blk_far ?_ NB366_382.out _;(with_reducible repeat (first|refine blk_drewN ?_ _|refine blk_drew ?_|refine blk_alloc ?_ _));refine blk_far ?_ NB366_382.out _;(with_reducible repeat (first|refine blk_drewN ?_ _|refine blk_drew ?_|refine blk_alloc ?_ _));exact BK366.out) hb);replace BK376:=Aside0.mk (blk_below (g:=gb376) (o := .cells #[.int .i64 t367, .string t368, .slice Ao39 t369.length co39, .slice Ao40 t372.length co40] 25 (0,0)) (by (with_reducible repeat (first|refine blk_drewN ?_ _|refine blk_drew ?_|refine blk_alloc ?_ _));refine blk_far ?_ NB376_382.out _;(with_reducible repeat (first|refine blk_drewN ?_ _|refine blk_drew ?_|refine blk_alloc ?_ _));refine blk_far ?_ NB376_382.out _;(with_reducible repeat (first|refine blk_drewN ?_ _|refine blk_drew ?_|refine blk_alloc ?_ _));exact BK376.out) hb);replace BK382:=Aside0.mk (blk_below (g:=gb382) (o := .cells #[.string t377, .slice Ao47 t378.length co47] 36 (0,0)) (by (with_reducible repeat (first|refine blk_drewN ?_ _|refine blk_drew ?_|refine blk_alloc ?_ _));refine blk_put (cs:=#[.string t377, .slice none 0 0]) ?_ 1 _ rfl;(with_reducible repeat (first|refine blk_drewN ?_ _|refine blk_drew ?_|refine blk_alloc ?_ _));refine blk_put (cs:=#[.string (⟨#[]⟩:ByteArray), .slice none 0 0]) ?_ 0 _ rfl;(with_reducible repeat (first|refine blk_drewN ?_ _|refine blk_drew ?_|refine blk_alloc ?_ _));exact BK382.out) hb);replace HB:=Aside0.mk (below_step qC hb);clear hb;obtain ⟨hcz50_0,hcz50_1,hcz50_2,hcz50_3,hfz50_0,hfz50_1,hfz50_2,hfz50_3⟩:=cf4 BK356.out)|(go_at_call 14;(with_reducible refine (query_Right.calls k t347 t348 _ _ t349 _ _ t352 true _ ?side1 ?side2 ?side3 ?side4 A14.out).mono ?_);(case side1=>repeat (first|exact (Kd.R_reads' HO351.out).2.2|(with_reducible refine Kd.C_alloc ?_ _)|(with_reducible refine Kd.C_drewN ?_ _)|(with_reducible refine Kd.C_drew ?_)));(case side2=>exact (Kd.R_reads' HO351.out).2.1);(case side3=>repeat (first|exact (Kd.R_reads' HO354.out).2.2|(with_reducible refine Kd.C_alloc ?_ _)|(with_reducible refine Kd.C_drewN ?_ _)|(with_reducible refine Kd.C_drew ?_)));(case side4=>exact (Kd.R_reads' HO354.out).2.1);rintro e w51 ⟨rfl,hb⟩;replace HO351:=Aside0.mk (Kd.R_below (qR HO351) hb);replace HO354:=Aside0.mk (Kd.R_below (qR HO354) hb);replace HO361:=Aside0.mk (Kd.R_below (qR HO361) hb);replace HO364:=Aside0.mk (Kd.R_below (qR HO364) hb);replace HO371:=Aside0.mk (Kd.R_below (qR HO371) hb);replace HO374:=Aside0.mk (Kd.R_below (qR HO374) hb);replace HO380:=Aside0.mk (Kd.R_below (qR HO380) hb);replace BK356:=Aside0.mk (blk_below (g:=gb356) (o := .cells #[.int .i64 t347, .string t348, .slice Ao26 t349.length co26, .slice Ao27 t352.length co27] 25 (0,0)) (qW BK356) hb);replace BK366:=Aside0.mk (blk_below (g:=gb366) (o := .cells #[.int .i64 t357, .string t358, .slice Ao32 t359.length co32, .slice Ao33 t362.length co33] 25 (0,0)) (qW BK366) hb);replace BK376:=Aside0.mk (blk_below (g:=gb376) (o := .cells #[.int .i64 t367, .string t368, .slice Ao39 t369.length co39, .slice Ao40 t372.length co40] 25 (0,0)) (qW BK376) hb);replace BK382:=Aside0.mk (blk_below (g:=gb382) (o := .cells #[.string t377, .slice Ao47 t378.length co47] 36 (0,0)) (qW BK382) hb);replace HB:=Aside0.mk (below_step qC hb);clear hb;obtain ⟨hcz52_0,hcz52_1,hcz52_2,hcz52_3,hfz52_0,hfz52_1,hfz52_2,hfz52_3⟩:=cf4 BK356.out;obtain ⟨hcz53_0,hcz53_1,hfz53_0,hfz53_1⟩:=cf2 BK382.out)|(go_at_call 23;(with_reducible refine (query_Fits.calls k t347 t348 _ _ t349 _ _ t352 t377 _ _ t378 true _ ?side1 ?side2 ?side3 ?side4 ?side5 ?side6 A16.out).mono ?_);(case side1=>repeat (first|exact (Kd.R_reads' HO351.out).2.2|(with_reducible refine Kd.C_alloc ?_ _)|(with_reducible refine Kd.C_drewN ?_ _)|(with_reducible refine Kd.C_drew ?_)));(case side2=>exact (Kd.R_reads' HO351.out).2.1);(case side3=>repeat (first|exact (Kd.R_reads' HO354.out).2.2|(with_reducible refine Kd.C_alloc ?_ _)|(with_reducible refine Kd.C_drewN ?_ _)|(with_reducible refine Kd.C_drew ?_)));(case side4=>exact (Kd.R_reads' HO354.out).2.1);(case side5=>repeat (first|exact (Kd.R_reads' HO380.out).2.2|(with_reducible refine Kd.C_alloc ?_ _)|(with_reducible refine Kd.C_drewN ?_ _)|(with_reducible refine Kd.C_drew ?_)));(case side6=>exact (Kd.R_reads' HO380.out).2.1);rintro e w54 ⟨rfl,hb⟩;replace HO351:=Aside0.mk (Kd.R_below (qR HO351) hb);replace HO354:=Aside0.mk (Kd.R_below (qR HO354) hb);replace HO361:=Aside0.mk (Kd.R_below (qR HO361) hb);replace HO364:=Aside0.mk (Kd.R_below (qR HO364) hb);replace HO371:=Aside0.mk (Kd.R_below (qR HO371) hb);replace HO374:=Aside0.mk (Kd.R_below (qR HO374) hb);replace HO380:=Aside0.mk (Kd.R_below (qR HO380) hb);replace BK356:=Aside0.mk (blk_below (g:=gb356) (o := .cells #[.int .i64 t347, .string t348, .slice Ao26 t349.length co26, .slice Ao27 t352.length co27] 25 (0,0)) (qW BK356) hb);replace BK366:=Aside0.mk (blk_below (g:=gb366) (o := .cells #[.int .i64 t357, .string t358, .slice Ao32 t359.length co32, .slice Ao33 t362.length co33] 25 (0,0)) (qW BK366) hb);replace BK376:=Aside0.mk (blk_below (g:=gb376) (o := .cells #[.int .i64 t367, .string t368, .slice Ao39 t369.length co39, .slice Ao40 t372.length co40] 25 (0,0)) (qW BK376) hb);replace BK382:=Aside0.mk (blk_below (g:=gb382) (o := .cells #[.string t377, .slice Ao47 t378.length co47] 36 (0,0)) (qW BK382) hb);replace HB:=Aside0.mk (below_step qC hb);clear hb;obtain ⟨hcz55_0,hcz55_1,hcz55_2,hcz55_3,hfz55_0,hfz55_1,hfz55_2,hfz55_3⟩:=cf4 BK356.out;obtain ⟨hcz56_0,hcz56_1,hfz56_0,hfz56_1⟩:=cf2 BK382.out)|(go_at_call 25;(with_reducible refine (query_Group.calls k t347 t348 _ _ t349 _ _ t352 t377 _ _ t378 t386 _ ?side1 ?side2 ?side3 ?side4 ?side5 ?side6 A18.out).mono ?_);(case side1=>repeat (first|exact (Kd.R_reads' HO351.out).2.2|(with_reducible refine Kd.C_alloc ?_ _)|(with_reducible refine Kd.C_drewN ?_ _)|(with_reducible refine Kd.C_drew ?_)));(case side2=>exact (Kd.R_reads' HO351.out).2.1);(case side3=>repeat (first|exact (Kd.R_reads' HO354.out).2.2|(with_reducible refine Kd.C_alloc ?_ _)|(with_reducible refine Kd.C_drewN ?_ _)|(with_reducible refine Kd.C_drew ?_)));(case side4=>exact (Kd.R_reads' HO354.out).2.1);(case side5=>repeat (first|exact (Kd.R_reads' HO380.out).2.2|(with_reducible refine Kd.C_alloc ?_ _)|(with_reducible refine Kd.C_drewN ?_ _)|(with_reducible refine Kd.C_drew ?_)));(case side6=>exact (Kd.R_reads' HO380.out).2.1);rintro e w57 ⟨rfl,hb⟩;replace HO351:=Aside0.mk (Kd.R_below (qR HO351) hb);replace HO354:=Aside0.mk (Kd.R_below (qR HO354) hb);replace HO361:=Aside0.mk (Kd.R_below (qR HO361) hb);replace HO364:=Aside0.mk (Kd.R_below (qR HO364) hb);replace HO371:=Aside0.mk (Kd.R_below (qR HO371) hb);replace HO374:=Aside0.mk (Kd.R_below (qR HO374) hb);replace HO380:=Aside0.mk (Kd.R_below (qR HO380) hb);replace BK356:=Aside0.mk (blk_below (g:=gb356) (o := .cells #[.int .i64 t347, .string t348, .slice Ao26 t349.length co26, .slice Ao27 t352.length co27] 25 (0,0)) (qW BK356) hb);replace BK366:=Aside0.mk (blk_below (g:=gb366) (o := .cells #[.int .i64 t357, .string t358, .slice Ao32 t359.length co32, .slice Ao33 t362.length co33] 25 (0,0)) (qW BK366) hb);replace BK376:=Aside0.mk (blk_below (g:=gb376) (o := .cells #[.int .i64 t367, .string t368, .slice Ao39 t369.length co39, .slice Ao40 t372.length co40] 25 (0,0)) (qW BK376) hb);replace BK382:=Aside0.mk (blk_below (g:=gb382) (o := .cells #[.string t377, .slice Ao47 t378.length co47] 36 (0,0)) (qW BK382) hb);replace HB:=Aside0.mk (below_step qC hb);clear hb;obtain ⟨hcz58_0,hcz58_1,hcz58_2,hcz58_3,hfz58_0,hfz58_1,hfz58_2,hfz58_3⟩:=cf4 BK356.out)|(go_at_call 18;(with_reducible refine (query_Same.calls k t347 t348 _ _ t349 _ _ t352 t347 t348 _ _ t349 _ _ t352 true _ ?side1 ?side2 ?side3 ?side4 ?side5 ?side6 ?side7 ?side8 A20.out).mono ?_);(case side1=>repeat (first|exact (Kd.R_reads' HO351.out).2.2|(with_reducible refine Kd.C_alloc ?_ _)|(with_reducible refine Kd.C_drewN ?_ _)|(with_reducible refine Kd.C_drew ?_)));(case side2=>exact (Kd.R_reads' HO351.out).2.1);(case side3=>repeat (first|exact (Kd.R_reads' HO354.out).2.2|(with_reducible refine Kd.C_alloc ?_ _)|(with_reducible refine Kd.C_drewN ?_ _)|(with_reducible refine Kd.C_drew ?_)));(case side4=>exact (Kd.R_reads' HO354.out).2.1);(case side5=>repeat (first|exact (Kd.R_reads' HO351.out).2.2|(with_reducible refine Kd.C_alloc ?_ _)|(with_reducible refine Kd.C_drewN ?_ _)|(with_reducible refine Kd.C_drew ?_)));(case side6=>exact (Kd.R_reads' HO351.out).2.1);(case side7=>repeat (first|exact (Kd.R_reads' HO354.out).2.2|(with_reducible refine Kd.C_alloc ?_ _)|(with_reducible refine Kd.C_drewN ?_ _)|(with_reducible refine Kd.C_drew ?_)));(case side8=>exact (Kd.R_reads' HO354.out).2.1);rintro e w59 ⟨rfl,hb⟩;replace HO351:=Aside0.mk (Kd.R_below (qR HO351) hb);replace HO354:=Aside0.mk (Kd.R_below (qR HO354) hb);replace HO361:=Aside0.mk (Kd.R_below (qR HO361) hb);replace HO364:=Aside0.mk (Kd.R_below (qR HO364) hb);replace HO371:=Aside0.mk (Kd.R_below (qR HO371) hb);replace HO374:=Aside0.mk (Kd.R_below (qR HO374) hb);replace HO380:=Aside0.mk (Kd.R_below (qR HO380) hb);replace BK356:=Aside0.mk (blk_below (g:=gb356) (o := .cells #[.int .i64 t347, .string t348, .slice Ao26 t349.length co26, .slice Ao27 t352.length co27] 25 (0,0)) (qW BK356) hb);replace BK366:=Aside0.mk (blk_below (g:=gb366) (o := .cells #[.int .i64 t357, .string t358, .slice Ao32 t359.length co32, .slice Ao33 t362.length co33] 25 (0,0)) (qW BK366) hb);replace BK376:=Aside0.mk (blk_below (g:=gb376) (o := .cells #[.int .i64 t367, .string t368, .slice Ao39 t369.length co39, .slice Ao40 t372.length co40] 25 (0,0)) (qW BK376) hb);replace BK382:=Aside0.mk (blk_below (g:=gb382) (o := .cells #[.string t377, .slice Ao47 t378.length co47] 36 (0,0)) (qW BK382) hb);replace HB:=Aside0.mk (below_step qC hb);clear hb;obtain ⟨hcz60_0,hcz60_1,hcz60_2,hcz60_3,hfz60_0,hfz60_1,hfz60_2,hfz60_3⟩:=cf4 BK356.out)|(go_at_call 18;(refine (query_Same.calls k t347 t348 _ _ t349 _ _ t352 0 (⟨#[]⟩:ByteArray) _ _ ([]:List (S127)) _ _ ([]:List ByteArray) t388 _ ?side1 ?side2 ?side3 ?side4 ?side5 ?side6 ?side7 ?side8 A22.out).mono ?_);(case side1=>repeat (first|exact (Kd.R_reads' HO351.out).2.2|(with_reducible refine Kd.C_alloc ?_ _)|(with_reducible refine Kd.C_drewN ?_ _)|(with_reducible refine Kd.C_drew ?_)));(case side2=>exact (Kd.R_reads' HO351.out).2.1);(case side3=>repeat (first|exact (Kd.R_reads' HO354.out).2.2|(with_reducible refine Kd.C_alloc ?_ _)|(with_reducible refine Kd.C_drewN ?_ _)|(with_reducible refine Kd.C_drew ?_)));(case side4=>exact (Kd.R_reads' HO354.out).2.1);(case side5=>exact Kd.C_nil _ _);(case side6=>exact Nat.le_refl _);(case side7=>exact Kd.C_nil _ _);(case side8=>exact Nat.le_refl _);rintro e w61 ⟨rfl,hb⟩;replace HO351:=Aside0.mk (Kd.R_below (qR HO351) hb);replace HO354:=Aside0.mk (Kd.R_below (qR HO354) hb);replace HO361:=Aside0.mk (Kd.R_below (qR HO361) hb);replace HO364:=Aside0.mk (Kd.R_below (qR HO364) hb);replace HO371:=Aside0.mk (Kd.R_below (qR HO371) hb);replace HO374:=Aside0.mk (Kd.R_below (qR HO374) hb);replace HO380:=Aside0.mk (Kd.R_below (qR HO380) hb);replace BK356:=Aside0.mk (blk_below (g:=gb356) (o := .cells #[.int .i64 t347, .string t348, .slice Ao26 t349.length co26, .slice Ao27 t352.length co27] 25 (0,0)) (qW BK356) hb);replace BK366:=Aside0.mk (blk_below (g:=gb366) (o := .cells #[.int .i64 t357, .string t358, .slice Ao32 t359.length co32, .slice Ao33 t362.length co33] 25 (0,0)) (qW BK366) hb);replace BK376:=Aside0.mk (blk_below (g:=gb376) (o := .cells #[.int .i64 t367, .string t368, .slice Ao39 t369.length co39, .slice Ao40 t372.length co40] 25 (0,0)) (qW BK376) hb);replace BK382:=Aside0.mk (blk_below (g:=gb382) (o := .cells #[.string t377, .slice Ao47 t378.length co47] 36 (0,0)) (qW BK382) hb);replace HB:=Aside0.mk (below_step qC hb);clear hb))
 go_ret
 exact ⟨qE,qC⟩
end Go.Proofs.YteaadaaghhojfaaGreatDoor.PQu
