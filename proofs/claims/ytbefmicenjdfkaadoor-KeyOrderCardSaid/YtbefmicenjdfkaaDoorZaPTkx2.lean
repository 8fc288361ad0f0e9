import Derived.Test.YtbefmicenjdfkaaDoorZaPTkx0
namespace Go.Proofs.YtbefmicenjdfkaaDoor.PTk
open Go.RowKit Go.Proofs.YtbefmicenjdfkaaDoorW.PrintWords Go.Proofs.YtbefmicenjdfkaaDoorW.PrintLast Go.Proofs.YtbefmicenjdfkaaDoorW.PrintMore
attribute [local go_sem] max2_int min2_int max_two min_two max_three min_three max_four min_four
set_option linter.unusedVariables false
set_option linter.unusedSimpArgs false
def strings_IndexByte.f (a0:ByteArray) (a1:Int):Option (Int):=some (Lib.indexByte a0.data.toList a1.toNat.toUInt8)
theorem strings_IndexByte.calls (a0:ByteArray) (a1:Int) (r:Int) (w:World) (h:strings_IndexByte.f a0 a1=some r) :
  Calls Tryd.prog 65 #[.string a0, .int .u8 a1] w fun e w'=>e = .returned (.int .i64 r)∧Drawn0 w w':=by
 obtain rfl:=Option.some.inj h
 exact (Tryd.strings_IndexByte a0 a1 w).mono fun e w' ⟨he,hw⟩=>⟨he,hw ▸ Drawn0.refl _⟩
def word_Split.l0:Nat→ByteArray→Int→List ByteArray→Option (List ByteArray)
 | 0,_,_,_=>none
 | k+1,x0,x1,x4=>(strings_IndexByte.f x0 x1).bind fun t101=>(if t101<0 then (if x4.length<8796093022208 then (some (x4++[x0])) else (none)) else (if 0≤t101 then (if t101≤(x0.size:Int) then (if x4.length<8796093022208 then (if 0≤(wrap64 (t101+1)) then (if (wrap64 (t101+1))≤(x0.size:Int) then (word_Split.l0 k (x0.extract ((wrap64 (t101+1)):Int).toNat x0.size) x1 (x4++[x0.extract 0 (t101:Int).toNat])) else (none)) else (none)) else (none)) else (none)) else (none)))
def word_Split.f (k:Nat) (a0:ByteArray) (a1:Int):Option (List ByteArray):=word_Split.l0 k a0 a1 ([]:List ByteArray)
theorem word_Split.mono_l:∀ k,(∀ y0 y1 y2,LeO (word_Split.l0 k y0 y1 y2) (word_Split.l0 (k+1) y0 y1 y2))
 | 0=>fun _ _ _ r h=>by simp [word_Split.l0] at h
 | k+1=>by
  have ih0:=word_Split.mono_l k
  ·intro y0 y1 y2
   unfold word_Split.l0
   repeat' first
   | (with_reducible exact ih0 _ _ _)
   | (with_reducible exact LeO.refl _)
   | (with_reducible exact LeO.none _)
   | (with_reducible refine LeO.ite ?_ ?_)
   | (with_reducible refine LeO.bind ?_ (fun _=>?_))
   | exact ih0 _ _ _
   | exact LeO.none _
   | refine LeO.ite ?_ ?_
   | refine LeO.bind ?_ (fun _=>?_)
theorem word_Split.mono:∀ a0 a1 k,LeO (word_Split.f k a0 a1) (word_Split.f (k+1) a0 a1):=by
 intro a0 a1 k
 have ih0:=word_Split.mono_l k
 unfold word_Split.f
 repeat' first
   | (with_reducible exact ih0 _ _ _)
   | (with_reducible exact LeO.refl _)
   | (with_reducible exact LeO.none _)
   | (with_reducible refine LeO.ite ?_ ?_)
   | (with_reducible refine LeO.bind ?_ (fun _=>?_))
   | exact ih0 _ _ _
   | exact LeO.none _
   | refine LeO.ite ?_ ?_
   | refine LeO.bind ?_ (fun _=>?_)
def word_Split.T4:Bool×List (List Nat×List Nat):=(true,[([],[]),([],[]),([],[]),([1,2],[1,2]),([3],[3]),([0,4],[0,4]),([],[]),([],[]),([7],[7]),([6,8],[6,8]),([5,5,0,1,2,3,4,5],[0,5]),([9,10,0,1,2,3,4,5,6,7,8,9,10],[1,6,9])])
def word_Split.B4:List Nat:=[0,0,0,6,14,31,0,0,128,448,63,2047]
theorem word_Split.tab4:rtab .any (opsOf Tryd.f50 4)=word_Split.T4:=by kernel_rfl
theorem word_Split.bits4:waitsOk word_Split.T4.2 word_Split.B4=true:=by kernel_rfl
set_option maxHeartbeats 8000000 in
set_option maxRecDepth 100000 in
theorem word_Split.calls (k:Nat) (a0:ByteArray) (a1:Int) (r:List ByteArray) (w:World) (h:word_Split.f k a0 a1=some r) :
  Calls Tryd.prog 50 #[.string a0, .int .u8 a1] w fun e w'=>∃ v0_:Value,e = .returned (v0_)∧Kd.R Kd.string 9 w' w.heap.size (fun _=>True) v0_ r∧Below w.heap.size w w':=by
 have HB:=Aside0.mk (Below.refl w.heap.size w)
 have H:(word_Split.l0 k a0 a1 ([]:List ByteArray))=some r:=h
 clear h
 have H':=Aside0.mk H
 clear H
 go_enter Tryd.func50,Tryd.ntmps50
 go_wp2
 go_loopg [0,4] k (fun kq v0 v4 w'=>∃ (x0_1:ByteArray) (x4_1:List ByteArray),v0 = .string x0_1∧Aside0 (word_Split.l0 kq x0_1 a1 x4_1=some r)∧Aside0 (kq≤k)∧Aside0 (Kd.R Kd.string 9 w' w.heap.size (fun _=>True) v4 x4_1)∧Aside0 (Below w.heap.size w w'))
 case atStart=>exact ⟨(a0),(([]:List ByteArray)),(by first|rfl|(simp;done)|(simp [*];done)),H',⟨Nat.le_refl _⟩,⟨by first|exact Kd.R_nil _ _ _ _ _|exact Kd.N_nil _ _ _ _ _|exact Kd.V_nil _ _ _ _ _|exact Kd.Q_nil _ _ _ _ _|exact Kd.S_nil _ _ _ _ _⟩,⟨by repeat (first|(with_reducible first|exact HB.out|apply below_alloc|apply pw_below_drewN|apply below_drew1)|exact HB.out)⟩⟩
 case round =>
  clear H'
  try clear p2
  obtain ⟨x0_1,x4_1,rfl,HA,HK1,HO_4,HB⟩:=hrel
  cases gk with
  | zero=>exact absurd HA.out (by simp [word_Split.l0])
  | succ k1 =>
   have H:=HA.out
   clear HA
   simp only [word_Split.l0] at H
   replace H:=Option.bind_eq_some_iff.mp H
   obtain ⟨t101,A30,H⟩:=H
   replace H:(if t101<0 then (if x4_1.length<8796093022208 then (some (x4_1++[x0_1])) else (none)) else (if 0≤t101 then (if t101≤(x0_1.size:Int) then (if x4_1.length<8796093022208 then (if 0≤(wrap64 (t101+1)) then (if (wrap64 (t101+1))≤(x0_1.size:Int) then (word_Split.l0 k1 (x0_1.extract ((wrap64 (t101+1)):Int).toNat x0_1.size) a1 (x4_1++[x0_1.extract 0 (t101:Int).toNat])) else (none)) else (none)) else (none)) else (none)) else (none)))=some r:=H
   have A3:=Aside0.mk A30
   clear A30
   by_cases c4:t101<0
   ·rw [if_pos c4] at H
    have c4b0:decide (t101<0)=true:=decide_eq_true c4
    clear c4
    by_cases c5:x4_1.length<8796093022208
    ·rw [if_pos c5] at H
     have LMc5:=Aside0.mk c5
     clear c5
     obtain ⟨y102,hy102⟩:∃ y_:List ByteArray,y_=(x4_1++[x0_1]):=⟨_,rfl⟩
     replace H:(some y102)=some r:=by first|(rw [hy102];with_reducible exact H)|(have H2_:=(Option.bind_some _ _).symm.trans H;rw [hy102];with_reducible exact H2_)|(have H2_:=(Option.bind_some _ _).symm.trans H;with_reducible exact H2_)|with_reducible exact H|(rw [hy102];exact H)|exact H
     have Ny102:=Aside0.mk hy102
     clear hy102
     obtain rfl:=Option.some.inj H
     go_wp2_with (first|((with_reducible refine gate_callee (f:=65) rfl ?_);refine goesL_ (some 8) rfl rfl Tryd.func65 (by kernel_rfl) rfl #[.string x0_1, .int .u8 a1] rfl (by (try simp only [List.map_toArray,List.map_cons,List.map_nil]);first|done|rfl|(simp only [List.length_drop,List.length_take];rfl)) ?_;(with_reducible refine (strings_IndexByte.calls x0_1 a1 t101 _ A3.out).mono ?_);rintro e w' ⟨rfl,⟨nd,rfl⟩⟩;refine ⟨_,rfl,?_⟩)|((with_reducible refine gate_builtin (b := .append) (xs:=#[.tmp 11, .tmp 13]) rfl ?_);at_builtin;refine Kd.R_append Kd.string (w0:=w) w.heap.size rfl (.tmp 11) (.tmp 13) 23 9 (.string ⟨#[]⟩) 16 rfl Tryd.underlying23 info9 rfl (by decide) (by omega) u4 x4_1 x0_1 [.string x0_1] (fun _=>True) (fun _=>False) rfl rfl ?aP (fun _ hk=>hk.elim) ?aF ?aO ?aB ?aS ?aL ?_;(case aP=>exact rfl);(case aB=>exact (by repeat (first|(with_reducible first|exact HB.out|apply below_alloc|apply pw_below_drewN|apply below_drew1)|exact HB.out)));(case aF=>exact (fun _ _=>trivial));(case aO=>exact (by (with_reducible repeat (first|apply Kd.R_alloc|apply Kd.R_drewN|apply Kd.R_drew));exact HO_4.out));(case aS=>exact (below_size (by repeat (first|(with_reducible first|exact HB.out|apply below_alloc|apply pw_below_drewN|apply below_drew1)|exact HB.out))));(case aL=>have:=LMc5.out;omega);intro v103 w6 ho hb hg hat;rw [← Ny102.out] at ho;have n0_:=Aside0.mk (hb);have n1_:=Aside0.mk (ho);clear HB;clear HO_4;have HB:=n0_;have HO104:=n1_;clear n0_ n1_;clear ho hb hg hat))
     go_ret
     exact ⟨_,by first|rfl|(simp [errW_none,errW_some]<;>rfl)|(simp [*,errW_none,errW_some]<;>rfl),by (with_reducible repeat (first|apply Kd.R_alloc|apply Kd.R_drewN|apply Kd.R_drew));exact HO104.out,by repeat (first|(with_reducible first|exact HB.out|apply below_alloc|apply pw_below_drewN|apply below_drew1)|exact HB.out)⟩
    ·rw [if_neg c5] at H
     exact absurd H (by simp)
   ·rw [if_neg c4] at H
    have c4b0:decide (t101<0)=false:=decide_eq_false c4
    clear c4
    by_cases c7:0≤t101
    ·rw [if_pos c7] at H
     have c7b0:=eq_true c7
     have c7b1:decide (0≤t101)=true:=decide_eq_true c7
     clear c7
     by_cases c8:t101≤(x0_1.size:Int)
     ·rw [if_pos c8] at H
      have c8b0:=eq_true c8
      have c8b1:decide (t101≤(x0_1.size:Int))=true:=decide_eq_true c8
      clear c8
      by_cases c9:x4_1.length<8796093022208
      ·rw [if_pos c9] at H
       have LMc9:=Aside0.mk c9
       clear c9
       obtain ⟨y105,hy105⟩:∃ y_:List ByteArray,y_=(x4_1++[x0_1.extract 0 (t101:Int).toNat]):=⟨_,rfl⟩
       replace H:(if 0≤(wrap64 (t101+1)) then (if (wrap64 (t101+1))≤(x0_1.size:Int) then (word_Split.l0 k1 (x0_1.extract ((wrap64 (t101+1)):Int).toNat x0_1.size) a1 y105) else (none)) else (none))=some r:=by first|(rw [hy105];with_reducible exact H)|(have H2_:=(Option.bind_some _ _).symm.trans H;rw [hy105];with_reducible exact H2_)|(have H2_:=(Option.bind_some _ _).symm.trans H;with_reducible exact H2_)|with_reducible exact H|(rw [hy105];exact H)|exact H
       have Ny105:=Aside0.mk hy105
       clear hy105
       obtain ⟨ji10,hji10⟩:∃ j_:Int,(wrap64 (t101+1))=j_:=⟨_,rfl⟩
       replace H:(if 0≤(ji10) then (if (ji10)≤(x0_1.size:Int) then (word_Split.l0 k1 (x0_1.extract ((ji10):Int).toNat x0_1.size) a1 y105) else (none)) else (none))=some r:=by first|(rw [hji10] at H;exact H)|(simp only [hji10] at H ⊢;exact H)
       (try rw [hji10] at A3)
       have hji10w:(IntKind.i64.wrap (t101+1))=ji10:=(i64_w _).trans hji10
       by_cases c11:0≤(ji10)
       ·rw [if_pos c11] at H
        have c11b0:=eq_true c11
        have c11b1:decide (0≤(ji10))=true:=decide_eq_true c11
        clear c11
        by_cases c12:(ji10)≤(x0_1.size:Int)
        ·rw [if_pos c12] at H
         have c12b0:=eq_true c12
         have c12b1:decide ((ji10)≤(x0_1.size:Int))=true:=decide_eq_true c12
         clear c12
         have H':=Aside0.mk H
         clear H
         try go_wp2_with (first|((with_reducible refine gate_callee (f:=65) rfl ?_);refine goesL_ (some 8) rfl rfl Tryd.func65 (by kernel_rfl) rfl #[.string x0_1, .int .u8 a1] rfl (by (try simp only [List.map_toArray,List.map_cons,List.map_nil]);first|done|rfl|(simp only [List.length_drop,List.length_take];rfl)) ?_;(with_reducible refine (strings_IndexByte.calls x0_1 a1 t101 _ A3.out).mono ?_);rintro e w' ⟨rfl,⟨nd,rfl⟩⟩;refine ⟨_,rfl,?_⟩))
         (try (rw [drewN_self wr];generalize hq_:World.drewN wr _=wr;have n0_:Aside0 (Kd.R Kd.string 9 wr w.heap.size (fun _=>True) u4 x4_1):=⟨by rw [← hq_];exact (by (with_reducible repeat (first|apply Kd.R_alloc|apply Kd.R_drewN|apply Kd.R_drew));exact HO_4.out)⟩;have n1_:Aside0 (Below w.heap.size w wr):=⟨by rw [← hq_];exact (by repeat (first|(with_reducible first|exact HB.out|apply below_alloc|apply pw_below_drewN|apply below_drew1)|exact HB.out))⟩;clear HO_4 HB hq_;have HO_4:=n0_;have HB:=n1_;clear n0_ n1_))
         have n0_:=Aside0.mk (Kd.R_drew HO_4.out)
         have n1_:=Aside0.mk (below_drew1 HB.out)
         clear HO_4
         clear HB
         have HO_4:=n0_
         have HB:=n1_
         clear n0_ n1_
         refine start_ (n:=12) (S:=fun w'=>True) (ds:=[]) #[false,false,false,false,false,false,false,false,false,false,false,false] (by kernel_rfl) rfl rfl trivial (fun hHeld=>?_);refine with_tabW word_Split.tab4 word_Split.bits4 (fun HT_ HW_=>?_)
         generalize wr.drew=w13 at HO_4 HB hHeld ⊢
         refine pure_ (i:=0) (N:=some 15) (v:=?_) (a':=?_) #[true,false,false,false,false,false,false,false,false,false,false,false] rfl rfl (any_of HT_.out (by kernel_rfl)) (fun _ _ _ h=>h) (Or.inl ⟨by rfl,?_⟩) ?_ ?_
         rotate_left
         ·intro w';go_simp;with_reducible rfl
         rotate_left
         ·simp only [Act.put,List.setIfInBounds_toArray,List.set_cons_zero,List.set_cons_succ,i64_w,i32_w];rfl
         refine pure_ (i:=1) (N:=some 16) (v:=?_) (a':=?_) #[true,true,false,false,false,false,false,false,false,false,false,false] rfl rfl (any_of HT_.out (by kernel_rfl)) (fun _ _ _ h=>h) (Or.inl ⟨by rfl,?_⟩) ?_ ?_
         rotate_left
         ·intro w';go_simp;with_reducible rfl
         rotate_left
         ·simp only [Act.put,List.setIfInBounds_toArray,List.set_cons_zero,List.set_cons_succ,i64_w,i32_w];rfl
         refine pure_ (i:=2) (N:=some 17) (v:=?_) (a':=?_) #[true,true,true,false,false,false,false,false,false,false,false,false] rfl rfl (any_of HT_.out (by kernel_rfl)) (fun _ _ _ h=>h) (Or.inl ⟨by rfl,?_⟩) ?_ ?_
         rotate_left
         ·intro w';go_simp;with_reducible rfl
         rotate_left
         ·simp only [Act.put,List.setIfInBounds_toArray,List.set_cons_zero,List.set_cons_succ,i64_w,i32_w];rfl
         refine pure_ (i:=3) (N:=some 18) (v:=?_) (a':=?_) #[true,true,true,true,false,false,false,false,false,false,false,false] rfl rfl (any_of HT_.out (by kernel_rfl)) (fun _ _ _ h=>h) (Or.inl ⟨by rfl,?_⟩) ?_ ?_
         rotate_left
         ·intro w';go_simp;with_reducible rfl
         rotate_left
         ·simp only [Act.put,List.setIfInBounds_toArray,List.set_cons_zero,List.set_cons_succ,i64_w,i32_w];rfl
         refine pure_ (i:=6) (N:=some 21) (v:=?_) (a':=?_) #[true,true,true,true,false,false,true,false,false,false,false,false] rfl rfl (any_of HT_.out (by kernel_rfl)) (fun _ _ _ h=>h) (Or.inl ⟨by rfl,?_⟩) ?_ ?_
         rotate_left
         ·intro w';go_simp;with_reducible rfl
         rotate_left
         ·simp only [Act.put,List.setIfInBounds_toArray,List.set_cons_zero,List.set_cons_succ,i64_w,i32_w];rfl
         refine pure_ (i:=7) (N:=some 22) (v:=?_) (a':=?_) #[true,true,true,true,false,false,true,true,false,false,false,false] rfl rfl (any_of HT_.out (by kernel_rfl)) (fun _ _ _ h=>h) (Or.inl ⟨by rfl,?_⟩) ?_ ?_
         rotate_left
         ·intro w';go_simp;with_reducible rfl
         rotate_left
         ·simp only [Act.put,List.setIfInBounds_toArray,List.set_cons_zero,List.set_cons_succ,i64_w,i32_w];rfl
         refine pure_ (i:=8) (N:=some 23) (v:=?_) (a':=?_) #[true,true,true,true,false,false,true,true,true,false,false,false] rfl rfl (any_of HT_.out (by kernel_rfl)) (fun _ _ _ h=>h) (Or.inl ⟨by rfl,?_⟩) ?_ ?_
         rotate_left
         ·intro w';go_simp;with_reducible rfl
         rotate_left
         ·simp only [Act.put,List.setIfInBounds_toArray,List.set_cons_zero,List.set_cons_succ,i64_w,i32_w];rfl
         refine pure_ (i:=9) (N:=some 24) (v:=?_) (a':=?_) #[true,true,true,true,false,false,true,true,true,true,false,false] rfl rfl (any_of HT_.out (by kernel_rfl)) (fun _ _ _ h=>h) (Or.inl ⟨by rfl,?_⟩) ?_ ?_
         rotate_left
         ·intro w';go_simp;with_reducible rfl
         rotate_left
         ·simp only [Act.put,List.setIfInBounds_toArray,List.set_cons_zero,List.set_cons_succ,i64_w,i32_w];rfl
         refine one_ (i:=4) (N:=some 19) #[true,true,true,true,true,false,true,true,true,true,false,false] rfl rfl (one_of HT_.out (by kernel_rfl)) (by decide) (fun K hK=>?_)
         refine value_ (w1:=?_) (v:=?_) (by rfl) rfl ?_ ?_
         rotate_left 2
         ·go_simp
          constructor
          ·rfl
          ·rfl
         refine hK.out _ _ trivial (fun hHeld=>?_)
         clear hK K
         refine norm_ (a':=?_) ?_ ?_
         rotate_left
         ·show Act.put _ (some 19) _=_
          simp only [Act.put,List.setIfInBounds_toArray,List.set_cons_zero,List.set_cons_succ,i64_w,i32_w]
          rfl
         refine one_ (i:=5) (N:=some 20) #[true,true,true,true,true,true,true,true,true,true,false,false] rfl rfl (one_of HT_.out (by kernel_rfl)) (by decide) (fun K hK=>?_)
         refine Kd.R_append_step Kd.string (w0:=w) w.heap.size (by rfl) (.tmp 15) (.tmp 19) 23 9 (.string ⟨#[]⟩) 16 rfl Tryd.underlying23 info9 rfl (by decide) (by omega) u4 x4_1 (x0_1.extract 0 (t101:Int).toNat) [.string (x0_1.extract 0 (t101:Int).toNat)] (fun _=>True) (fun _=>False) rfl rfl ?aP (fun _ hk=>hk.elim) ?aF ?aO ?aB ?aS ?aL ?_
         (case aP=>exact rfl)
         (case aB=>exact (by repeat (first|(with_reducible first|exact HB.out|apply below_alloc|apply pw_below_drewN|apply below_drew1)|exact HB.out)))
         (case aF=>exact (fun _ _=>trivial))
         (case aO=>exact (by (with_reducible repeat (first|apply Kd.R_alloc|apply Kd.R_drewN|apply Kd.R_drew));exact HO_4.out))
         (case aS=>exact (below_size (by repeat (first|(with_reducible first|exact HB.out|apply below_alloc|apply pw_below_drewN|apply below_drew1)|exact HB.out))))
         (case aL=>have:=LMc9.out;omega)
         intro v106 w14 ho hb hg hat
         rw [← Ny105.out] at ho
         have n0_:=Aside0.mk (hb)
         have n1_:=Aside0.mk (ho)
         clear HB
         clear HO_4
         have HB:=n0_
         have HO107:=n1_
         clear n0_ n1_
         clear ho hb hg hat
         refine hK.out _ _ trivial (fun hHeld=>?_)
         clear hK K
         refine norm_ (a':=?_) ?_ ?_
         rotate_left
         ·show Act.put _ (some 20) _=_
          simp only [Act.put,List.setIfInBounds_toArray,List.set_cons_zero,List.set_cons_succ,i64_w,i32_w]
          rfl
         refine pure_ (i:=10) (N:=some 4) (v:=?_) (a':=?_) #[true,true,true,true,true,true,true,true,true,true,true,false] rfl rfl (any_of HT_.out (by kernel_rfl)) (fun _ _ _ h=>h) (Or.inl ⟨by rfl,?_⟩) ?_ ?_
         rotate_left
         ·intro w';go_simp;with_reducible rfl
         rotate_left
         ·simp only [Act.put,List.setIfInBounds_toArray,List.set_cons_zero,List.set_cons_succ,i64_w,i32_w];rfl
         refine pure_ (i:=11) (N:=some 0) (v:=?_) (a':=?_) #[true,true,true,true,true,true,true,true,true,true,true,true] rfl rfl (any_of HT_.out (by kernel_rfl)) (fun _ _ _ h=>h) (Or.inl ⟨by rfl,?_⟩) ?_ ?_
         rotate_left
         ·intro w';go_simp;with_reducible rfl
         rotate_left
         ·simp only [Act.put,List.setIfInBounds_toArray,List.set_cons_zero,List.set_cons_succ,i64_w,i32_w];rfl
         refine done_ (done_of HT_.out (by kernel_rfl)) ?_
         try go_wp2
         go_roundg k1
         case measure=>have:=HK1.out;omega
         case rel=>exact ⟨(x0_1.extract ((ji10):Int).toNat x0_1.size),(y105),(by first|rfl|(simp;done)|(simp only [← hji10]<;>(first|rfl|simp))|(simp [*];done)),H',⟨by have:=HK1.out;omega⟩,⟨by (with_reducible repeat (first|apply Kd.R_alloc|apply Kd.R_drewN|apply Kd.R_drew));exact HO107.out⟩,⟨by repeat (first|(with_reducible first|exact HB.out|apply below_alloc|apply pw_below_drewN|apply below_drew1)|exact HB.out)⟩⟩
        ·rw [if_neg c12] at H
         exact absurd H (by simp)
       ·rw [if_neg c11] at H
        exact absurd H (by simp)
      ·rw [if_neg c9] at H
       exact absurd H (by simp)
     ·rw [if_neg c8] at H
      exact absurd H (by simp)
    ·rw [if_neg c7] at H
     exact absurd H (by simp)
def stringslite_Index.f (a0 a1:ByteArray):Option (Int):=match a1.data.toList with
 | [c]=>some (Lib.indexByte a0.data.toList c)
 | _=>none
theorem stringslite_Index.calls (a0 a1:ByteArray) (r:Int) (w:World) (h:stringslite_Index.f a0 a1=some r) :
  Calls Tryd.prog 86 #[.string a0, .string a1] w fun e w'=>e = .returned (.int .i64 r)∧Drawn0 w w':=by
 unfold stringslite_Index.f at h
 split at h
 case h_2=>cases h
 rename_i c hc
 obtain rfl:a1=⟨#[c]⟩:=Go.Proofs.YtbefmicenjdfkaaDoorW.XW.one_byte hc
 obtain rfl:=Option.some.inj h
 exact (Tryd.stringslite_Index_one a0 c w).mono fun e w' ⟨he,hw⟩=>⟨he,hw ▸ Drawn0.refl _⟩
def stringslite_Cut.f (a0:ByteArray) (a1:ByteArray):Option (ByteArray×ByteArray×Bool):=(stringslite_Index.f a0 a1).bind fun t108=>(if t108≥0 then (if 0≤t108 then (if t108≤(a0.size:Int) then (if 0≤(wrap64 (t108+(a1.size:Int))) then (if (wrap64 (t108+(a1.size:Int)))≤(a0.size:Int) then (some (a0.extract 0 (t108:Int).toNat,a0.extract ((wrap64 (t108+(a1.size:Int))):Int).toNat a0.size,true)) else (none)) else (none)) else (none)) else (none)) else (some (a0,(⟨#[]⟩:ByteArray),false)))
set_option maxHeartbeats 8000000 in
set_option maxRecDepth 100000 in
theorem stringslite_Cut.calls (a0:ByteArray) (a1:ByteArray) (r1:ByteArray) (r2:ByteArray) (r3:Bool) (w:World) (h:stringslite_Cut.f a0 a1=some (r1,r2,r3)) :
  Calls Tryd.prog 66 #[.string a0, .string a1] w fun e w'=>e = .returned (.tuple #[.string r1, .string r2, .bool r3])∧Drawn0 w w':=by
 have H:((stringslite_Index.f a0 a1).bind fun t108=>(if t108≥0 then (if 0≤t108 then (if t108≤(a0.size:Int) then (if 0≤(wrap64 (t108+(a1.size:Int))) then (if (wrap64 (t108+(a1.size:Int)))≤(a0.size:Int) then (some (a0.extract 0 (t108:Int).toNat,a0.extract ((wrap64 (t108+(a1.size:Int))):Int).toNat a0.size,true)) else (none)) else (none)) else (none)) else (none)) else (some (a0,(⟨#[]⟩:ByteArray),false))))=some (r1,r2,r3):=h
 clear h
 replace H:=Option.bind_eq_some_iff.mp H
 obtain ⟨t108,A30,H⟩:=H
 replace H:(if t108≥0 then (if 0≤t108 then (if t108≤(a0.size:Int) then (if 0≤(wrap64 (t108+(a1.size:Int))) then (if (wrap64 (t108+(a1.size:Int)))≤(a0.size:Int) then (some (a0.extract 0 (t108:Int).toNat,a0.extract ((wrap64 (t108+(a1.size:Int))):Int).toNat a0.size,true)) else (none)) else (none)) else (none)) else (none)) else (some (a0,(⟨#[]⟩:ByteArray),false)))=some (r1,r2,r3):=H
 have A3:=Aside0.mk A30
 clear A30
 by_cases c4:t108≥0
 ·rw [if_pos c4] at H
  have c4b0:decide (0≤t108)=true:=decide_eq_true c4
  clear c4
  by_cases c5:0≤t108
  ·rw [if_pos c5] at H
   have c5b0:=eq_true c5
   have c5b1:decide (0≤t108)=true:=decide_eq_true c5
   clear c5
   by_cases c6:t108≤(a0.size:Int)
   ·rw [if_pos c6] at H
    have c6b0:=eq_true c6
    have c6b1:decide (t108≤(a0.size:Int))=true:=decide_eq_true c6
    clear c6
    obtain ⟨ji7,hji7⟩:∃ j_:Int,(wrap64 (t108+(a1.size:Int)))=j_:=⟨_,rfl⟩
    replace H:(if 0≤(ji7) then (if (ji7)≤(a0.size:Int) then (some (a0.extract 0 (t108:Int).toNat,a0.extract ((ji7):Int).toNat a0.size,true)) else (none)) else (none))=some (r1,r2,r3):=by first|(rw [hji7] at H;exact H)|(simp only [hji7] at H ⊢;exact H)
    (try rw [hji7] at A3)
    have hji7w:(IntKind.i64.wrap (t108+(a1.size:Int)))=ji7:=(i64_w _).trans hji7
    by_cases c8:0≤(ji7)
    ·rw [if_pos c8] at H
     have c8b0:=eq_true c8
     have c8b1:decide (0≤(ji7))=true:=decide_eq_true c8
     clear c8
     by_cases c9:(ji7)≤(a0.size:Int)
     ·rw [if_pos c9] at H
      have c9b0:=eq_true c9
      have c9b1:decide ((ji7)≤(a0.size:Int))=true:=decide_eq_true c9
      clear c9
      simp only [Option.some.injEq,Prod.mk.injEq] at H
      obtain ⟨rfl,rfl,rfl⟩:=H
      go_enter Tryd.func66,Tryd.ntmps66
      go_wp2_with (first|(go_at_call 86;(with_reducible refine (stringslite_Index.calls a0 a1 t108 _ A3.out).mono ?_);rintro e w' ⟨rfl,⟨nd,rfl⟩⟩;(try first|exact ⟨rfl,_,World.drewN_drewN _ _ _⟩|exact ⟨rfl,_,Eq.trans (World.drewN_drewN _ _ _) (congrArg (World.drewN _) (Nat.add_assoc _ _ _))⟩)))
      repeat (go_quiet (first|(go_at_call 86;(with_reducible refine (stringslite_Index.calls a0 a1 t108 _ A3.out).mono ?_);rintro e w' ⟨rfl,⟨nd,rfl⟩⟩;(try first|exact ⟨rfl,_,World.drewN_drewN _ _ _⟩|exact ⟨rfl,_,Eq.trans (World.drewN_drewN _ _ _) (congrArg (World.drewN _) (Nat.add_assoc _ _ _))⟩)));try go_wp2_with (first|(go_at_call 86;(with_reducible refine (stringslite_Index.calls a0 a1 t108 _ A3.out).mono ?_);rintro e w' ⟨rfl,⟨nd,rfl⟩⟩;(try first|exact ⟨rfl,_,World.drewN_drewN _ _ _⟩|exact ⟨rfl,_,Eq.trans (World.drewN_drewN _ _ _) (congrArg (World.drewN _) (Nat.add_assoc _ _ _))⟩))))
      go_ret3
      exact ⟨by first|rfl|(simp;done)|(simp only [← hji7]<;>(first|rfl|simp))|(simp [*];done),by repeat (first|exact Drawn0.refl _|apply Drawn0.step)⟩
     ·rw [if_neg c9] at H
      exact absurd H (by simp)
    ·rw [if_neg c8] at H
     exact absurd H (by simp)
   ·rw [if_neg c6] at H
    exact absurd H (by simp)
  ·rw [if_neg c5] at H
   exact absurd H (by simp)
 ·rw [if_neg c4] at H
  have c4b0:decide (0≤t108)=false:=decide_eq_false c4
  clear c4
  simp only [Option.some.injEq,Prod.mk.injEq] at H
  obtain ⟨rfl,rfl,rfl⟩:=H
  go_enter Tryd.func66,Tryd.ntmps66
  go_wp2_with (first|(go_at_call 86;(with_reducible refine (stringslite_Index.calls a0 a1 t108 _ A3.out).mono ?_);rintro e w' ⟨rfl,⟨nd,rfl⟩⟩;(try first|exact ⟨rfl,_,World.drewN_drewN _ _ _⟩|exact ⟨rfl,_,Eq.trans (World.drewN_drewN _ _ _) (congrArg (World.drewN _) (Nat.add_assoc _ _ _))⟩)))
  repeat (go_quiet (first|(go_at_call 86;(with_reducible refine (stringslite_Index.calls a0 a1 t108 _ A3.out).mono ?_);rintro e w' ⟨rfl,⟨nd,rfl⟩⟩;(try first|exact ⟨rfl,_,World.drewN_drewN _ _ _⟩|exact ⟨rfl,_,Eq.trans (World.drewN_drewN _ _ _) (congrArg (World.drewN _) (Nat.add_assoc _ _ _))⟩)));try go_wp2_with (first|(go_at_call 86;(with_reducible refine (stringslite_Index.calls a0 a1 t108 _ A3.out).mono ?_);rintro e w' ⟨rfl,⟨nd,rfl⟩⟩;(try first|exact ⟨rfl,_,World.drewN_drewN _ _ _⟩|exact ⟨rfl,_,Eq.trans (World.drewN_drewN _ _ _) (congrArg (World.drewN _) (Nat.add_assoc _ _ _))⟩))))
  go_ret3
  exact ⟨by first|rfl|(simp;done)|(simp [*];done),by repeat (first|exact Drawn0.refl _|apply Drawn0.step)⟩
def strings_Cut.f (a0:ByteArray) (a1:ByteArray):Option (ByteArray×ByteArray×Bool):=(stringslite_Cut.f a0 a1).bind fun bt109=>(some (bt109.1,bt109.2.1,bt109.2.2))
set_option maxHeartbeats 8000000 in
set_option maxRecDepth 100000 in
theorem strings_Cut.calls (a0:ByteArray) (a1:ByteArray) (r1:ByteArray) (r2:ByteArray) (r3:Bool) (w:World) (h:strings_Cut.f a0 a1=some (r1,r2,r3)) :
  Calls Tryd.prog 51 #[.string a0, .string a1] w fun e w'=>e = .returned (.tuple #[.string r1, .string r2, .bool r3])∧Drawn0 w w':=by
 have H:((stringslite_Cut.f a0 a1).bind fun bt109=>(some (bt109.1,bt109.2.1,bt109.2.2)))=some (r1,r2,r3):=h
 clear h
 replace H:=Option.bind_eq_some_iff.mp H
 obtain ⟨⟨t109,t110,t111⟩,A30,H⟩:=H
 replace H:(some (t109,t110,t111))=some (r1,r2,r3):=H
 have A3:=Aside0.mk A30
 clear A30
 simp only [Option.some.injEq,Prod.mk.injEq] at H
 obtain ⟨rfl,rfl,rfl⟩:=H
 go_enter Tryd.func51,Tryd.ntmps51
 go_wp2_with (first|((with_reducible refine gate_callee (f:=66) rfl ?_);refine goesL_ (some 9) rfl rfl Tryd.func66 (by kernel_rfl) rfl #[.string a0, .string a1] rfl (by (try simp only [List.map_toArray,List.map_cons,List.map_nil]);first|done|rfl|(simp only [List.length_drop,List.length_take];rfl)) ?_;(with_reducible refine (stringslite_Cut.calls a0 a1 t109 t110 t111 _ A3.out).mono ?_);rintro e w' ⟨rfl,⟨nd,rfl⟩⟩;refine ⟨_,rfl,?_⟩))
 go_ret3
 exact ⟨by first|rfl|(simp;done)|(simp [*];done),by repeat (first|exact Drawn0.refl _|apply Drawn0.step)⟩
def strings_Trim.f (a0 a1:ByteArray):Option (ByteArray):=if a0.size≤9223372036854775807 then (if a1.size<4294967281 then (if (a1.data.toList.all fun b=>decide (b.toNat<128))=true then some ⟨(Lib.trimS a0.data.toList a1.data.toList).toArray⟩ else none) else none) else none
theorem strings_Trim.calls (a0 a1:ByteArray) (r:ByteArray) (w:World) (h:strings_Trim.f a0 a1=some r) :
  Calls Tryd.prog 87 #[.string a0, .string a1] w fun e w'=>e = .returned (.string r)∧Below w.heap.size w w':=by
 unfold strings_Trim.f at h
 split at h
 case isFalse=>cases h
 split at h
 case isFalse=>cases h
 split at h
 case isFalse=>cases h
 obtain rfl:=Option.some.inj h
 exact Any.strings_Trim_laid Tryd.lays160 (by kernel_rfl) a0 a1 w (by assumption) (by assumption) (ascii_of_all (by assumption))
def word_made.f (a0:ByteArray) (a1:ByteArray):Option (Bool):=if a0.toList=([]:List UInt8) then (some false) else (if (a0.size:Int)≤12 then ((strings_Trim.f a0 a1).bind fun t112=>(some (t112.toList ==([]:List UInt8)))) else (some false))
set_option maxHeartbeats 8000000 in
set_option maxRecDepth 100000 in
theorem word_made.calls (a0:ByteArray) (a1:ByteArray) (r:Bool) (w:World) (h:word_made.f a0 a1=some r) :
  Calls Tryd.prog 67 #[.string a0, .string a1] w fun e w'=>e = .returned (.bool r)∧Below w.heap.size w w':=by
 have HB:=Aside0.mk (Below.refl w.heap.size w)
 have H:(if a0.toList=([]:List UInt8) then (some false) else (if (a0.size:Int)≤12 then ((strings_Trim.f a0 a1).bind fun t112=>(some (t112.toList ==([]:List UInt8)))) else (some false)))=some r:=h
 clear h
 by_cases c3:a0.toList=([]:List UInt8)
 ·rw [if_pos c3] at H
  have c3b0:(a0.toList ==([]:List UInt8))=true:=beq_iff_eq.mpr c3
  have c3b1:(a0.toList != ([]:List UInt8))=false:=bne_eq_false_iff_eq.mpr c3
  clear c3
  obtain rfl:=Option.some.inj H
  go_enter Tryd.func67,Tryd.ntmps67
  go_wp2
  go_ret
  exact ⟨by first|rfl|(simp [errW_none,errW_some]<;>rfl)|(simp [*,errW_none,errW_some]<;>rfl),by repeat (first|(with_reducible first|exact HB.out|apply below_alloc|apply pw_below_drewN|apply below_drew1)|exact HB.out)⟩
 ·rw [if_neg c3] at H
  have c3b0:(a0.toList ==([]:List UInt8))=false:=beq_eq_false_iff_ne.mpr c3
  have c3b1:(a0.toList != ([]:List UInt8))=true:=bne_iff_ne.mpr c3
  by_cases c4:(a0.size:Int)≤12
  ·rw [if_pos c4] at H
   have c4b0:decide ((a0.size:Int)≤12)=true:=decide_eq_true c4
   have c4b1:decide (a0.size≤12)=true:=decide_eq_true (by omega)
   clear c4
   replace H:=Option.bind_eq_some_iff.mp H
   obtain ⟨t112,A50,H⟩:=H
   replace H:(some (t112.toList ==([]:List UInt8)))=some r:=H
   have A5:=Aside0.mk A50
   clear A50
   obtain rfl:=Option.some.inj H
   go_enter Tryd.func67,Tryd.ntmps67
   go_wp2_with (first|(go_at_call 87;(with_reducible refine (strings_Trim.calls a0 a1 t112 _ A5.out).mono ?_);rintro e w6 ⟨rfl,hb⟩;have n0_:=Aside0.mk (below_step (by repeat (first|(with_reducible first|exact HB.out|apply below_alloc|apply pw_below_drewN|apply below_drew1)|exact HB.out)) hb);clear HB;have HB:=n0_;clear n0_;(try clear hb);(try clear hb2);(try clear hk);(try clear hi)))
   go_ret
   exact ⟨by first|rfl|(simp [errW_none,errW_some]<;>rfl)|(simp [*,errW_none,errW_some]<;>rfl),by repeat (first|(with_reducible first|exact HB.out|apply below_alloc|apply pw_below_drewN|apply below_drew1)|exact HB.out)⟩
  ·rw [if_neg c4] at H
   have c4b0:decide ((a0.size:Int)≤12)=false:=decide_eq_false c4
   have c4b1:decide (a0.size≤12)=false:=decide_eq_false (by omega)
   clear c4
   obtain rfl:=Option.some.inj H
   go_enter Tryd.func67,Tryd.ntmps67
   go_wp2
   go_ret
   exact ⟨by first|rfl|(simp [errW_none,errW_some]<;>rfl)|(simp [*,errW_none,errW_some]<;>rfl),by repeat (first|(with_reducible first|exact HB.out|apply below_alloc|apply pw_below_drewN|apply below_drew1)|exact HB.out)⟩
def word_Name.f (a0:ByteArray):Option (Bool):=(word_made.f a0 (⟨#[97,98,99,100,101,102,103,104,105,106,107,108,109,110,111,112,113,114,115,116,117,118,119,120,121,122,48,49,50,51,52,53,54,55,56,57,95]⟩:ByteArray)).bind fun t113=>(if t113=true then (if 0<(a0.size:Int) then ((strings_IndexByte.f (⟨#[97,98,99,100,101,102,103,104,105,106,107,108,109,110,111,112,113,114,115,116,117,118,119,120,121,122]⟩:ByteArray) (bt a0 0)).bind fun t114=>(some (decide (t114≥0)))) else (none)) else (some false))
set_option maxHeartbeats 8000000 in
set_option maxRecDepth 100000 in
theorem word_Name.calls (a0:ByteArray) (r:Bool) (w:World) (h:word_Name.f a0=some r) :
  Calls Tryd.prog 53 #[.string a0] w fun e w'=>e = .returned (.bool r)∧Below w.heap.size w w':=by
 have HB:=Aside0.mk (Below.refl w.heap.size w)
 have H:((word_made.f a0 (⟨#[97,98,99,100,101,102,103,104,105,106,107,108,109,110,111,112,113,114,115,116,117,118,119,120,121,122,48,49,50,51,52,53,54,55,56,57,95]⟩:ByteArray)).bind fun t113=>(if t113=true then (if 0<(a0.size:Int) then ((strings_IndexByte.f (⟨#[97,98,99,100,101,102,103,104,105,106,107,108,109,110,111,112,113,114,115,116,117,118,119,120,121,122]⟩:ByteArray) (bt a0 0)).bind fun t114=>(some (decide (t114≥0)))) else (none)) else (some false)))=some r:=h
 clear h
 replace H:=Option.bind_eq_some_iff.mp H
 obtain ⟨t113,A20,H⟩:=H
 replace H:(if t113=true then (if 0<(a0.size:Int) then ((strings_IndexByte.f (⟨#[97,98,99,100,101,102,103,104,105,106,107,108,109,110,111,112,113,114,115,116,117,118,119,120,121,122]⟩:ByteArray) (bt a0 0)).bind fun t114=>(some (decide (t114≥0)))) else (none)) else (some false))=some r:=H
 have A2:=Aside0.mk A20
 clear A20
 by_cases c3:t113=true
 ·subst c3
  have H1:(if 0<(a0.size:Int) then ((strings_IndexByte.f (⟨#[97,98,99,100,101,102,103,104,105,106,107,108,109,110,111,112,113,114,115,116,117,118,119,120,121,122]⟩:ByteArray) (bt a0 0)).bind fun t114=>(some (decide (t114≥0)))) else (none))=some r:=by rw [if_pos rfl] at H;exact H
  clear H
  have H:=H1
  clear H1
  by_cases c4:0<(a0.size:Int)
  ·rw [if_pos c4] at H
   have c4b0:decide (0<(a0.size:Int))=true:=decide_eq_true c4
   have c4b1:decide (0<a0.size)=true:=decide_eq_true (by omega)
   clear c4
   replace H:=Option.bind_eq_some_iff.mp H
   obtain ⟨t114,A60,H⟩:=H
   replace H:(some (decide (t114≥0)))=some r:=H
   have A6:=Aside0.mk A60
   clear A60
   obtain rfl:=Option.some.inj H
   go_enter Tryd.func53,Tryd.ntmps53
   go_wp2_with (first|((with_reducible refine gate_callee (f:=67) rfl ?_);refine goesL_ (some 4) rfl rfl Tryd.func67 (by kernel_rfl) rfl #[.string a0, .string (⟨#[97,98,99,100,101,102,103,104,105,106,107,108,109,110,111,112,113,114,115,116,117,118,119,120,121,122,48,49,50,51,52,53,54,55,56,57,95]⟩:ByteArray)] rfl (by (try simp only [List.map_toArray,List.map_cons,List.map_nil]);first|done|rfl|(simp only [List.length_drop,List.length_take];rfl)) ?_;(with_reducible refine (word_made.calls a0 (⟨#[97,98,99,100,101,102,103,104,105,106,107,108,109,110,111,112,113,114,115,116,117,118,119,120,121,122,48,49,50,51,52,53,54,55,56,57,95]⟩:ByteArray) true _ A2.out).mono ?_);rintro e w7 ⟨rfl,hb⟩;refine ⟨_,rfl,?_⟩;have n0_:=Aside0.mk (below_step (by repeat (first|(with_reducible first|exact HB.out|apply below_alloc|apply pw_below_drewN|apply below_drew1)|exact HB.out)) hb);clear HB;have HB:=n0_;clear n0_;(try clear hb);(try clear hb2);(try clear hk);(try clear hi);have p5:0≤(0:Int):=(by omega);have q5:0<a0.size:=(by have:(0:Int)<(a0.size:Int):=of_decide_eq_true (by first|(with_reducible assumption)|assumption);omega);have hx5:∀ h:0<a0.size,((a0[0]'h).toNat:Int)=bt a0 0:=bt_at a0 0;clear p5;have qi5:(0<(a0.size:Int))=True:=eq_true (of_decide_eq_true (by first|(with_reducible assumption)|assumption));replace q5:=eq_true q5)|(go_at_call 65;(with_reducible refine (strings_IndexByte.calls (⟨#[97,98,99,100,101,102,103,104,105,106,107,108,109,110,111,112,113,114,115,116,117,118,119,120,121,122]⟩:ByteArray) (bt a0 0) t114 _ A6.out).mono ?_);rintro e w' ⟨rfl,⟨nd,rfl⟩⟩))
   go_ret
   exact ⟨by first|rfl|(simp [errW_none,errW_some]<;>rfl)|(simp [*,errW_none,errW_some]<;>rfl),by repeat (first|(with_reducible first|exact HB.out|apply below_alloc|apply pw_below_drewN|apply below_drew1)|exact HB.out)⟩
  ·rw [if_neg c4] at H
   exact absurd H (by simp)
 ·replace c3:=Bool.eq_false_iff.mpr c3
  subst c3
  have H1:(some false)=some r:=by rw [if_neg (show ¬ (false=true) by decide)] at H;exact H
  clear H
  have H:=H1
  clear H1
  obtain rfl:=Option.some.inj H
  go_enter Tryd.func53,Tryd.ntmps53
  go_wp2_with (first|((with_reducible refine gate_callee (f:=67) rfl ?_);refine goesL_ (some 4) rfl rfl Tryd.func67 (by kernel_rfl) rfl #[.string a0, .string (⟨#[97,98,99,100,101,102,103,104,105,106,107,108,109,110,111,112,113,114,115,116,117,118,119,120,121,122,48,49,50,51,52,53,54,55,56,57,95]⟩:ByteArray)] rfl (by (try simp only [List.map_toArray,List.map_cons,List.map_nil]);first|done|rfl|(simp only [List.length_drop,List.length_take];rfl)) ?_;(with_reducible refine (word_made.calls a0 (⟨#[97,98,99,100,101,102,103,104,105,106,107,108,109,110,111,112,113,114,115,116,117,118,119,120,121,122,48,49,50,51,52,53,54,55,56,57,95]⟩:ByteArray) false _ A2.out).mono ?_);rintro e w8 ⟨rfl,hb⟩;refine ⟨_,rfl,?_⟩;have n0_:=Aside0.mk (below_step (by repeat (first|(with_reducible first|exact HB.out|apply below_alloc|apply pw_below_drewN|apply below_drew1)|exact HB.out)) hb);clear HB;have HB:=n0_;clear n0_;(try clear hb);(try clear hb2);(try clear hk);(try clear hi)))
  go_ret
  exact ⟨by first|rfl|(simp [errW_none,errW_some]<;>rfl)|(simp [*,errW_none,errW_some]<;>rfl),by repeat (first|(with_reducible first|exact HB.out|apply below_alloc|apply pw_below_drewN|apply below_drew1)|exact HB.out)⟩
def word_Value.f (a0:ByteArray):Option (Bool):=(word_made.f a0 (⟨#[97,98,99,100,101,102,103,104,105,106,107,108,109,110,111,112,113,114,115,116,117,118,119,120,121,122,48,49,50,51,52,53,54,55,56,57,95,45,46]⟩:ByteArray)).bind fun t115=>(some t115)
set_option maxHeartbeats 8000000 in
set_option maxRecDepth 100000 in
theorem word_Value.calls (a0:ByteArray) (r:Bool) (w:World) (h:word_Value.f a0=some r) :
  Calls Tryd.prog 58 #[.string a0] w fun e w'=>e = .returned (.bool r)∧Below w.heap.size w w':=by
 have HB:=Aside0.mk (Below.refl w.heap.size w)
 have H:((word_made.f a0 (⟨#[97,98,99,100,101,102,103,104,105,106,107,108,109,110,111,112,113,114,115,116,117,118,119,120,121,122,48,49,50,51,52,53,54,55,56,57,95,45,46]⟩:ByteArray)).bind fun t115=>(some t115))=some r:=h
 clear h
 replace H:=Option.bind_eq_some_iff.mp H
 obtain ⟨t115,A20,H⟩:=H
 replace H:(some t115)=some r:=H
 have A2:=Aside0.mk A20
 clear A20
 obtain rfl:=Option.some.inj H
 go_enter Tryd.func58,Tryd.ntmps58
 go_wp2_with (first|((with_reducible refine gate_callee (f:=67) rfl ?_);refine goesL_ (some 4) rfl rfl Tryd.func67 (by kernel_rfl) rfl #[.string a0, .string (⟨#[97,98,99,100,101,102,103,104,105,106,107,108,109,110,111,112,113,114,115,116,117,118,119,120,121,122,48,49,50,51,52,53,54,55,56,57,95,45,46]⟩:ByteArray)] rfl (by (try simp only [List.map_toArray,List.map_cons,List.map_nil]);first|done|rfl|(simp only [List.length_drop,List.length_take];rfl)) ?_;(with_reducible refine (word_made.calls a0 (⟨#[97,98,99,100,101,102,103,104,105,106,107,108,109,110,111,112,113,114,115,116,117,118,119,120,121,122,48,49,50,51,52,53,54,55,56,57,95,45,46]⟩:ByteArray) t115 _ A2.out).mono ?_);rintro e w3 ⟨rfl,hb⟩;refine ⟨_,rfl,?_⟩;have n0_:=Aside0.mk (below_step (by repeat (first|(with_reducible first|exact HB.out|apply below_alloc|apply pw_below_drewN|apply below_drew1)|exact HB.out)) hb);clear HB;have HB:=n0_;clear n0_;(try clear hb);(try clear hb2);(try clear hk);(try clear hi)))
 go_ret
 exact ⟨by first|rfl|(simp [errW_none,errW_some]<;>rfl)|(simp [*,errW_none,errW_some]<;>rfl),by repeat (first|(with_reducible first|exact HB.out|apply below_alloc|apply pw_below_drewN|apply below_drew1)|exact HB.out)⟩
def tag_may.f (a0_0:ByteArray) (a0_1:ByteArray):Option (Bool):=(word_Name.f a0_0).bind fun t117=>(if t117=true then ((word_Value.f a0_1).bind fun t118=>(some t118)) else (some false))
set_option maxHeartbeats 8000000 in
set_option maxRecDepth 100000 in
theorem tag_may.calls (a0_0:ByteArray) (a0_1:ByteArray) (r:Bool) (w:World) (h:tag_may.f a0_0 a0_1=some r) :
  Calls Tryd.prog 40 #[.agg #[.string a0_0, .string a0_1]] w fun e w'=>e = .returned (.bool r)∧Below w.heap.size w w':=by
 have hu52:=Tryd.underlying52
 have HB:=Aside0.mk (Below.refl w.heap.size w)
 have H:((word_Name.f a0_0).bind fun t117=>(if t117=true then ((word_Value.f a0_1).bind fun t118=>(some t118)) else (some false)))=some r:=h
 clear h
 replace H:=Option.bind_eq_some_iff.mp H
 obtain ⟨t117,A20,H⟩:=H
 replace H:(if t117=true then ((word_Value.f a0_1).bind fun t118=>(some t118)) else (some false))=some r:=H
 have A2:=Aside0.mk A20
 clear A20
 by_cases c3:t117=true
 ·subst c3
  have H1:((word_Value.f a0_1).bind fun t118=>(some t118))=some r:=by rw [if_pos rfl] at H;exact H
  clear H
  have H:=H1
  clear H1
  replace H:=Option.bind_eq_some_iff.mp H
  obtain ⟨t118,A40,H⟩:=H
  replace H:(some t118)=some r:=H
  have A4:=Aside0.mk A40
  clear A40
  obtain rfl:=Option.some.inj H
  go_enter Tryd.func40,Tryd.ntmps40
  go_wp2_with (first|((with_reducible refine gate_dst (N:=1) rfl ?_);refine box_event ?hg (N:=1) ?hd (cs:=#[.string a0_0, .string a0_1]) (t:=52) ?hr ?_;(case hd=>rfl);(case hg=>rfl);(case hr=>first|(go_simp;done)|(go_simp;rfl));intro gb116 hg w5 hbox hb;have n0_:=Aside0.mk (below_step (by repeat (first|(with_reducible first|exact HB.out|apply below_alloc|apply pw_below_drewN|apply below_drew1)|exact HB.out)) hb);have n1_:=Aside0.mk (hbox);have n2_:=Aside0.mk ((by rw [hg];exact (below_size (by repeat (first|(with_reducible first|exact HB.out|apply below_alloc|apply pw_below_drewN|apply below_drew1)|exact HB.out))):w.heap.size≤gb116));have n3_:=Aside0.mk ((by rw [hg];exact (below_size (by repeat (first|(with_reducible first|exact HB.out|apply below_alloc|apply pw_below_drewN|apply below_drew1)|exact HB.out))):w.heap.size≤gb116));clear HB;have HB:=n0_;have BK116:=n1_;have GW116:=n2_;have GE116:=n3_;clear n0_ n1_ n2_ n3_;clear hb hbox hg;have hcz6_0:w5.cell? ⟨gb116,0,none⟩=some (.string a0_0):=(blk_cell BK116.out 0).trans rfl;have hcz6_1:w5.cell? ⟨gb116,1,none⟩=some (.string a0_1):=(blk_cell BK116.out 1).trans rfl;have hfz6_0:=blk_frozen BK116.out 0;have hfz6_1:=blk_frozen BK116.out 1)|((with_reducible refine gate_callee (f:=53) rfl ?_);refine goesL_ (some 5) rfl rfl Tryd.func53 (by kernel_rfl) rfl #[.string a0_0] rfl (by (try simp only [List.map_toArray,List.map_cons,List.map_nil]);first|done|rfl|(simp only [List.length_drop,List.length_take];rfl)) ?_;(with_reducible refine (word_Name.calls a0_0 true _ A2.out).mono ?_);rintro e w7 ⟨rfl,hb⟩;refine ⟨_,rfl,?_⟩;have n0_:=Aside0.mk (blk_below (g:=gb116) (o := .cells #[.string a0_0, .string a0_1] 52 (0,0)) (by (with_reducible repeat (first|refine blk_drewN ?_ _|refine blk_drew ?_|refine blk_alloc ?_ _));exact BK116.out) hb);have n1_:=Aside0.mk (below_step (by repeat (first|(with_reducible first|exact HB.out|apply below_alloc|apply pw_below_drewN|apply below_drew1|refine below_set ?_ GE116.out)|exact HB.out)) hb);clear BK116;clear HB;have BK116:=n0_;have HB:=n1_;clear n0_ n1_;(try clear hb);(try clear hb2);(try clear hk);(try clear hi);have hcz8_0:w7.cell? ⟨gb116,0,none⟩=some (.string a0_0):=(blk_cell BK116.out 0).trans rfl;have hcz8_1:w7.cell? ⟨gb116,1,none⟩=some (.string a0_1):=(blk_cell BK116.out 1).trans rfl;have hfz8_0:=blk_frozen BK116.out 0;have hfz8_1:=blk_frozen BK116.out 1)|(go_at_call 58;(with_reducible refine (word_Value.calls a0_1 t118 _ A4.out).mono ?_);rintro e w9 ⟨rfl,hb⟩;have n0_:=Aside0.mk (blk_below (g:=gb116) (o := .cells #[.string a0_0, .string a0_1] 52 (0,0)) (by (with_reducible repeat (first|refine blk_drewN ?_ _|refine blk_drew ?_|refine blk_alloc ?_ _));exact BK116.out) hb);have n1_:=Aside0.mk (below_step (by repeat (first|(with_reducible first|exact HB.out|apply below_alloc|apply pw_below_drewN|apply below_drew1|refine below_set ?_ GE116.out)|exact HB.out)) hb);clear BK116;clear HB;have BK116:=n0_;have HB:=n1_;clear n0_ n1_;(try clear hb);(try clear hb2);(try clear hk);(try clear hi)))
  go_ret
  exact ⟨by first|rfl|(simp [errW_none,errW_some]<;>rfl)|(simp [*,errW_none,errW_some]<;>rfl),by repeat (first|(with_reducible first|exact HB.out|apply below_alloc|apply pw_below_drewN|apply below_drew1|refine below_set ?_ GE116.out)|exact HB.out)⟩
 ·replace c3:=Bool.eq_false_iff.mpr c3
  subst c3
  have H1:(some false)=some r:=by rw [if_neg (show ¬ (false=true) by decide)] at H;exact H
  clear H
  have H:=H1
  clear H1
  obtain rfl:=Option.some.inj H
  go_enter Tryd.func40,Tryd.ntmps40
  go_wp2_with (first|((with_reducible refine gate_dst (N:=1) rfl ?_);refine box_event ?hg (N:=1) ?hd (cs:=#[.string a0_0, .string a0_1]) (t:=52) ?hr ?_;(case hd=>rfl);(case hg=>rfl);(case hr=>first|(go_simp;done)|(go_simp;rfl));intro gb116 hg w10 hbox hb;have n0_:=Aside0.mk (below_step (by repeat (first|(with_reducible first|exact HB.out|apply below_alloc|apply pw_below_drewN|apply below_drew1)|exact HB.out)) hb);have n1_:=Aside0.mk (hbox);have n2_:=Aside0.mk ((by rw [hg];exact (below_size (by repeat (first|(with_reducible first|exact HB.out|apply below_alloc|apply pw_below_drewN|apply below_drew1)|exact HB.out))):w.heap.size≤gb116));have n3_:=Aside0.mk ((by rw [hg];exact (below_size (by repeat (first|(with_reducible first|exact HB.out|apply below_alloc|apply pw_below_drewN|apply below_drew1)|exact HB.out))):w.heap.size≤gb116));clear HB;have HB:=n0_;have BK116:=n1_;have GW116:=n2_;have GE116:=n3_;clear n0_ n1_ n2_ n3_;clear hb hbox hg;have hcz11_0:w10.cell? ⟨gb116,0,none⟩=some (.string a0_0):=(blk_cell BK116.out 0).trans rfl;have hcz11_1:w10.cell? ⟨gb116,1,none⟩=some (.string a0_1):=(blk_cell BK116.out 1).trans rfl;have hfz11_0:=blk_frozen BK116.out 0;have hfz11_1:=blk_frozen BK116.out 1)|((with_reducible refine gate_callee (f:=53) rfl ?_);refine goesL_ (some 5) rfl rfl Tryd.func53 (by kernel_rfl) rfl #[.string a0_0] rfl (by (try simp only [List.map_toArray,List.map_cons,List.map_nil]);first|done|rfl|(simp only [List.length_drop,List.length_take];rfl)) ?_;(with_reducible refine (word_Name.calls a0_0 false _ A2.out).mono ?_);rintro e w12 ⟨rfl,hb⟩;refine ⟨_,rfl,?_⟩;have n0_:=Aside0.mk (blk_below (g:=gb116) (o := .cells #[.string a0_0, .string a0_1] 52 (0,0)) (by (with_reducible repeat (first|refine blk_drewN ?_ _|refine blk_drew ?_|refine blk_alloc ?_ _));exact BK116.out) hb);have n1_:=Aside0.mk (below_step (by repeat (first|(with_reducible first|exact HB.out|apply below_alloc|apply pw_below_drewN|apply below_drew1|refine below_set ?_ GE116.out)|exact HB.out)) hb);clear BK116;clear HB;have BK116:=n0_;have HB:=n1_;clear n0_ n1_;(try clear hb);(try clear hb2);(try clear hk);(try clear hi)))
  go_ret
  exact ⟨by first|rfl|(simp [errW_none,errW_some]<;>rfl)|(simp [*,errW_none,errW_some]<;>rfl),by repeat (first|(with_reducible first|exact HB.out|apply below_alloc|apply pw_below_drewN|apply below_drew1|refine below_set ?_ GE116.out)|exact HB.out)⟩
def tag_Canon_1.f (a0_0:ByteArray) (a0_1:ByteArray):Option (Bool):=(tag_may.f a0_0 a0_1).bind fun t120=>(some (!t120))
set_option maxHeartbeats 8000000 in
set_option maxRecDepth 100000 in
theorem tag_Canon_1.calls (a0_0:ByteArray) (a0_1:ByteArray) (r:Bool) (w:World) (h:tag_Canon_1.f a0_0 a0_1=some r) :
  Calls Tryd.prog 39 #[.agg #[.string a0_0, .string a0_1]] w fun e w'=>e = .returned (.bool r)∧Below w.heap.size w w':=by
 have hu52:=Tryd.underlying52
 have HB:=Aside0.mk (Below.refl w.heap.size w)
 have H:((tag_may.f a0_0 a0_1).bind fun t120=>(some (!t120)))=some r:=h
 clear h
 replace H:=Option.bind_eq_some_iff.mp H
 obtain ⟨t120,A20,H⟩:=H
 replace H:(some (!t120))=some r:=H
 have A2:=Aside0.mk A20
 clear A20
 obtain rfl:=Option.some.inj H
 go_enter Tryd.func39,Tryd.ntmps39
 go_wp2_with (first|((with_reducible refine gate_dst (N:=1) rfl ?_);refine box_event ?hg (N:=1) ?hd (cs:=#[.string a0_0, .string a0_1]) (t:=52) ?hr ?_;(case hd=>rfl);(case hg=>rfl);(case hr=>first|(go_simp;done)|(go_simp;rfl));intro gb119 hg w3 hbox hb;have n0_:=Aside0.mk (below_step (by repeat (first|(with_reducible first|exact HB.out|apply below_alloc|apply pw_below_drewN|apply below_drew1)|exact HB.out)) hb);have n1_:=Aside0.mk (hbox);have n2_:=Aside0.mk ((by rw [hg];exact (below_size (by repeat (first|(with_reducible first|exact HB.out|apply below_alloc|apply pw_below_drewN|apply below_drew1)|exact HB.out))):w.heap.size≤gb119));have n3_:=Aside0.mk ((by rw [hg];exact (below_size (by repeat (first|(with_reducible first|exact HB.out|apply below_alloc|apply pw_below_drewN|apply below_drew1)|exact HB.out))):w.heap.size≤gb119));clear HB;have HB:=n0_;have BK119:=n1_;have GW119:=n2_;have GE119:=n3_;clear n0_ n1_ n2_ n3_;clear hb hbox hg;have hcz4_0:w3.cell? ⟨gb119,0,none⟩=some (.string a0_0):=(blk_cell BK119.out 0).trans rfl;have hcz4_1:w3.cell? ⟨gb119,1,none⟩=some (.string a0_1):=(blk_cell BK119.out 1).trans rfl;have hfz4_0:=blk_frozen BK119.out 0;have hfz4_1:=blk_frozen BK119.out 1)|((with_reducible refine gate_callee (f:=40) rfl ?_);refine goesL_ (some 4) rfl rfl Tryd.func40 (by kernel_rfl) rfl #[.agg #[.string a0_0, .string a0_1]] rfl (by (try simp only [List.map_toArray,List.map_cons,List.map_nil]);first|done|rfl|(simp only [List.length_drop,List.length_take];rfl)) ?_;(with_reducible refine (tag_may.calls a0_0 a0_1 t120 _ A2.out).mono ?_);rintro e w5 ⟨rfl,hb⟩;refine ⟨_,rfl,?_⟩;have n0_:=Aside0.mk (blk_below (g:=gb119) (o := .cells #[.string a0_0, .string a0_1] 52 (0,0)) (by (with_reducible repeat (first|refine blk_drewN ?_ _|refine blk_drew ?_|refine blk_alloc ?_ _));exact BK119.out) hb);have n1_:=Aside0.mk (below_step (by repeat (first|(with_reducible first|exact HB.out|apply below_alloc|apply pw_below_drewN|apply below_drew1|refine below_set ?_ GE119.out)|exact HB.out)) hb);clear BK119;clear HB;have BK119:=n0_;have HB:=n1_;clear n0_ n1_;(try clear hb);(try clear hb2);(try clear hk);(try clear hi)))
 go_ret
 exact ⟨by first|rfl|(simp [errW_none,errW_some]<;>rfl)|(simp [*,errW_none,errW_some]<;>rfl),by repeat (first|(with_reducible first|exact HB.out|apply below_alloc|apply pw_below_drewN|apply below_drew1|refine below_set ?_ GE119.out)|exact HB.out)⟩
def slices_IndexFunc_Tag_by_tag_Canon_1.l0:Nat→List (S52)→Int→Int→Option (Int)
 | 0,_,_,_=>none
 | k+1,x0,x7,x8=>if x8<x7 then (if 0≤x8 then (if x8<(x0.length:Int) then ((tag_Canon_1.f ((rd_T52 x0 x8).f0) ((rd_T52 x0 x8).f1)).bind fun t122=>(if t122=true then (some x8) else (slices_IndexFunc_Tag_by_tag_Canon_1.l0 k x0 x7 (wrap64 (x8+1))))) else (none)) else (none)) else (some (-1))
def slices_IndexFunc_Tag_by_tag_Canon_1.f (k:Nat) (l0:List (S52))  : Option (Int):=slices_IndexFunc_Tag_by_tag_Canon_1.l0 k l0 (l0.length:Int) 0
theorem slices_IndexFunc_Tag_by_tag_Canon_1.mono_l:∀ k,(∀ y0 y1 y2,LeO (slices_IndexFunc_Tag_by_tag_Canon_1.l0 k y0 y1 y2) (slices_IndexFunc_Tag_by_tag_Canon_1.l0 (k+1) y0 y1 y2))
 | 0=>fun _ _ _ r h=>by simp [slices_IndexFunc_Tag_by_tag_Canon_1.l0] at h
 | k+1=>by
  have ih0:=slices_IndexFunc_Tag_by_tag_Canon_1.mono_l k
  ·intro y0 y1 y2
   unfold slices_IndexFunc_Tag_by_tag_Canon_1.l0
   repeat' first
   | (with_reducible exact ih0 _ _ _)
   | (with_reducible exact LeO.refl _)
   | (with_reducible exact LeO.none _)
   | (with_reducible refine LeO.ite ?_ ?_)
   | (with_reducible refine LeO.bind ?_ (fun _=>?_))
   | exact ih0 _ _ _
   | exact LeO.none _
   | refine LeO.ite ?_ ?_
   | refine LeO.bind ?_ (fun _=>?_)
theorem slices_IndexFunc_Tag_by_tag_Canon_1.mono:∀ a0 k,LeO (slices_IndexFunc_Tag_by_tag_Canon_1.f k a0) (slices_IndexFunc_Tag_by_tag_Canon_1.f (k+1) a0):=by
 intro a0 k
 have ih0:=slices_IndexFunc_Tag_by_tag_Canon_1.mono_l k
 unfold slices_IndexFunc_Tag_by_tag_Canon_1.f
 repeat' first
   | (with_reducible exact ih0 _ _ _)
   | (with_reducible exact LeO.refl _)
   | (with_reducible exact LeO.none _)
   | (with_reducible refine LeO.ite ?_ ?_)
   | (with_reducible refine LeO.bind ?_ (fun _=>?_))
   | exact ih0 _ _ _
   | exact LeO.none _
   | refine LeO.ite ?_ ?_
   | refine LeO.bind ?_ (fun _=>?_)
set_option maxHeartbeats 8000000 in
set_option maxRecDepth 100000 in
theorem slices_IndexFunc_Tag_by_tag_Canon_1.calls (k:Nat) (A0:Option Addr) (c0:Nat) (l0:List (S52))  (r:Int) (w:World) (hr0:Kd.C k52 w A0 l0.length l0) (hc0:l0.length≤c0) (h:slices_IndexFunc_Tag_by_tag_Canon_1.f k l0=some r) :
  Calls Tryd.prog 57 #[.slice A0 l0.length c0, .func (.func 39) #[] #[]] w fun e w'=>e = .returned (.int .i64 r)∧Below w.heap.size w w':=by
 have hu52:=Tryd.underlying52
 have HR0:=Aside0.mk hr0
 have HC0:=Aside0.mk hc0
 clear hr0 hc0
 have HB:=Aside0.mk (Below.refl w.heap.size w)
 have H:(slices_IndexFunc_Tag_by_tag_Canon_1.l0 k l0 (l0.length:Int) 0)=some r:=h
 clear h
 have H':=Aside0.mk H
 clear H
 go_enter Tryd.func57,Tryd.ntmps57
 go_wp2
 go_loopg [8] k (fun kq v8 w'=>∃ (x8_1:Int),v8 = .int .i64 x8_1∧Aside0 (slices_IndexFunc_Tag_by_tag_Canon_1.l0 kq l0 (l0.length:Int) x8_1=some r)∧Aside0 (kq≤k)∧Aside0 (Below w.heap.size w w'))
 case atStart=>exact ⟨(0),(by first|rfl|(simp;done)|(simp [*];done)),H',⟨Nat.le_refl _⟩,⟨by repeat (first|(with_reducible first|exact HB.out|apply below_alloc|apply pw_below_drewN|apply below_drew1)|exact HB.out)⟩⟩
 case round =>
  clear H'
  try clear p2
  obtain ⟨x8_1,rfl,HA,HK1,HB⟩:=hrel
  cases gk with
  | zero=>exact absurd HA.out (by simp [slices_IndexFunc_Tag_by_tag_Canon_1.l0])
  | succ k1 =>
   have H:=HA.out
   clear HA
   simp only [slices_IndexFunc_Tag_by_tag_Canon_1.l0] at H
   by_cases c3:x8_1<(l0.length:Int)
   ·rw [if_pos c3] at H
    have c3b0:decide (x8_1<(l0.length:Int))=true:=decide_eq_true c3
    clear c3
    by_cases c4:0≤x8_1
    ·rw [if_pos c4] at H
     have c4b0:decide (0≤x8_1)=true:=decide_eq_true c4
     clear c4
     by_cases c5:x8_1<(l0.length:Int)
     ·rw [if_pos c5] at H
      have c5b0:decide (x8_1<(l0.length:Int))=true:=decide_eq_true c5
      clear c5
      replace H:=Option.bind_eq_some_iff.mp H
      obtain ⟨t122,A60,H⟩:=H
      replace H:(if t122=true then (some x8_1) else (slices_IndexFunc_Tag_by_tag_Canon_1.l0 k1 l0 (l0.length:Int) (wrap64 (x8_1+1))))=some r:=H
      have A6:=Aside0.mk A60
      clear A60
      by_cases c7:t122=true
      ·subst c7
       have H1:(some x8_1)=some r:=by rw [if_pos rfl] at H;exact H
       clear H
       have H:=H1
       clear H1
       obtain rfl:=Option.some.inj H
       have p121:0≤(x8_1:Int):=of_decide_eq_true (by first|(with_reducible assumption)|assumption)
       have q121:x8_1<(l0.length:Int):=of_decide_eq_true (by first|(with_reducible assumption)|assumption)
       obtain ⟨ad121,e121,hx121_0,hx121_1⟩:=at_T52 HR0.out x8_1 p121 q121
       cases e121
       replace hx121_0:=(HB.out.cell (World.block_lt_of_cell? w _ hx121_0)).trans hx121_0
       replace hx121_1:=(HB.out.cell (World.block_lt_of_cell? w _ hx121_1)).trans hx121_1
       replace p121:=eq_true p121
       replace q121:=eq_true q121
       go_wp2_with (first|(go_at_call 39;(with_reducible refine (tag_Canon_1.calls ((rd_T52 l0 x8_1).f0) ((rd_T52 l0 x8_1).f1) true _ A6.out).mono ?_);rintro e w8 ⟨rfl,hb⟩;have n0_:=Aside0.mk (below_step (by repeat (first|(with_reducible first|exact HB.out|apply below_alloc|apply pw_below_drewN|apply below_drew1)|exact HB.out)) hb);clear HB;have HB:=n0_;clear n0_;(try clear hb);(try clear hb2);(try clear hk);(try clear hi)))
       go_ret
       exact ⟨by first|rfl|(simp [errW_none,errW_some]<;>rfl)|(simp [*,errW_none,errW_some]<;>rfl),by repeat (first|(with_reducible first|exact HB.out|apply below_alloc|apply pw_below_drewN|apply below_drew1)|exact HB.out)⟩
      ·replace c7:=Bool.eq_false_iff.mpr c7
       subst c7
       have H1:(slices_IndexFunc_Tag_by_tag_Canon_1.l0 k1 l0 (l0.length:Int) (wrap64 (x8_1+1)))=some r:=by rw [if_neg (show ¬ (false=true) by decide)] at H;exact H
       clear H
       have H:=H1
       clear H1
       have H':=Aside0.mk H
       clear H
       have p121:0≤(x8_1:Int):=of_decide_eq_true (by first|(with_reducible assumption)|assumption)
       have q121:x8_1<(l0.length:Int):=of_decide_eq_true (by first|(with_reducible assumption)|assumption)
       obtain ⟨ad121,e121,hx121_0,hx121_1⟩:=at_T52 HR0.out x8_1 p121 q121
       cases e121
       replace hx121_0:=(HB.out.cell (World.block_lt_of_cell? w _ hx121_0)).trans hx121_0
       replace hx121_1:=(HB.out.cell (World.block_lt_of_cell? w _ hx121_1)).trans hx121_1
       replace p121:=eq_true p121
       replace q121:=eq_true q121
       go_wp2_with (first|(go_at_call 39;(with_reducible refine (tag_Canon_1.calls ((rd_T52 l0 x8_1).f0) ((rd_T52 l0 x8_1).f1) false _ A6.out).mono ?_);rintro e w9 ⟨rfl,hb⟩;have n0_:=Aside0.mk (below_step (by repeat (first|(with_reducible first|exact HB.out|apply below_alloc|apply pw_below_drewN|apply below_drew1)|exact HB.out)) hb);clear HB;have HB:=n0_;clear n0_;(try clear hb);(try clear hb2);(try clear hk);(try clear hi)))
       go_roundg k1
       case measure=>have:=HK1.out;omega
       case rel=>exact ⟨(wrap64 (x8_1+1)),(by first|rfl|(simp;done)|(simp [*];done)),H',⟨by have:=HK1.out;omega⟩,⟨by repeat (first|(with_reducible first|exact HB.out|apply below_alloc|apply pw_below_drewN|apply below_drew1)|exact HB.out)⟩⟩
     ·rw [if_neg c5] at H
      exact absurd H (by simp)
    ·rw [if_neg c4] at H
     exact absurd H (by simp)
   ·rw [if_neg c3] at H
    have c3b0:decide (x8_1<(l0.length:Int))=false:=decide_eq_false c3
    clear c3
    obtain rfl:=Option.some.inj H
    go_wp2
    go_ret
    exact ⟨by first|rfl|(simp [errW_none,errW_some]<;>rfl)|(simp [*,errW_none,errW_some]<;>rfl),by repeat (first|(with_reducible first|exact HB.out|apply below_alloc|apply pw_below_drewN|apply below_drew1)|exact HB.out)⟩
def slices_ContainsFunc_Tag_by_tag_Canon_1.f (k:Nat) (l0:List (S52))  : Option (Bool):=(slices_IndexFunc_Tag_by_tag_Canon_1.f k l0).bind fun t123=>(some (decide (t123≥0)))
theorem slices_ContainsFunc_Tag_by_tag_Canon_1.mono:∀ a0 k,LeO (slices_ContainsFunc_Tag_by_tag_Canon_1.f k a0) (slices_ContainsFunc_Tag_by_tag_Canon_1.f (k+1) a0):=by
 intro a0 k
 unfold slices_ContainsFunc_Tag_by_tag_Canon_1.f
 repeat' first
   | (with_reducible exact slices_IndexFunc_Tag_by_tag_Canon_1.mono _ _)
   | (with_reducible exact LeO.refl _)
   | (with_reducible exact LeO.none _)
   | (with_reducible refine LeO.ite ?_ ?_)
   | (with_reducible refine LeO.bind ?_ (fun _=>?_))
   | exact slices_IndexFunc_Tag_by_tag_Canon_1.mono _ _
   | exact LeO.none _
   | refine LeO.ite ?_ ?_
   | refine LeO.bind ?_ (fun _=>?_)
set_option maxHeartbeats 8000000 in
set_option maxRecDepth 100000 in
theorem slices_ContainsFunc_Tag_by_tag_Canon_1.calls (k:Nat) (A0:Option Addr) (c0:Nat) (l0:List (S52))  (r:Bool) (w:World) (hr0:Kd.C k52 w A0 l0.length l0) (hc0:l0.length≤c0) (h:slices_ContainsFunc_Tag_by_tag_Canon_1.f k l0=some r) :
  Calls Tryd.prog 38 #[.slice A0 l0.length c0, .func (.func 39) #[] #[]] w fun e w'=>e = .returned (.bool r)∧Below w.heap.size w w':=by
 have HR0:=Aside0.mk hr0
 have HC0:=Aside0.mk hc0
 clear hr0 hc0
 have HB:=Aside0.mk (Below.refl w.heap.size w)
 have H:((slices_IndexFunc_Tag_by_tag_Canon_1.f k l0).bind fun t123=>(some (decide (t123≥0))))=some r:=h
 clear h
 replace H:=Option.bind_eq_some_iff.mp H
 obtain ⟨t123,A30,H⟩:=H
 replace H:(some (decide (t123≥0)))=some r:=H
 have A3:=Aside0.mk A30
 clear A30
 obtain rfl:=Option.some.inj H
 go_enter Tryd.func38,Tryd.ntmps38
 go_wp2_with (first|((with_reducible refine gate_callee (f:=57) rfl ?_);refine goesL_ (some 7) rfl rfl Tryd.func57 (by kernel_rfl) rfl #[.slice A0 l0.length c0, .func (.func 39) #[] #[]] rfl (by (try simp only [List.map_toArray,List.map_cons,List.map_nil]);first|done|rfl|(simp only [List.length_drop,List.length_take];rfl)) ?_;(with_reducible refine (slices_IndexFunc_Tag_by_tag_Canon_1.calls k _ _ l0  t123 _ ?side1 ?side2 A3.out).mono ?_);(case side1=>repeat (first|exact HR0.out|(with_reducible refine Kd.C_alloc ?_ _)|(with_reducible refine Kd.C_drewN ?_ _)|(with_reducible refine Kd.C_drew ?_)));(case side2=>exact HC0.out);rintro e w4 ⟨rfl,hb⟩;refine ⟨_,rfl,?_⟩;have n0_:=Aside0.mk (below_step (by repeat (first|(with_reducible first|exact HB.out|apply below_alloc|apply pw_below_drewN|apply below_drew1)|exact HB.out)) hb);clear HB;have HB:=n0_;clear n0_;(try clear hb);(try clear hb2);(try clear hk);(try clear hi)))
 go_ret
 exact ⟨by first|rfl|(simp [errW_none,errW_some]<;>rfl)|(simp [*,errW_none,errW_some]<;>rfl),by repeat (first|(with_reducible first|exact HB.out|apply below_alloc|apply pw_below_drewN|apply below_drew1)|exact HB.out)⟩
def slices_Clone_Tag.f (l0:List (S52)):Option ((List (S52))):=(some (([]:List (S52)):List (S52))).bind fun y124=>(if y124.length+l0.length<4398046511104 then (some (y124++l0)) else (none))
set_option maxHeartbeats 8000000 in
set_option maxRecDepth 100000 in
theorem slices_Clone_Tag.calls_some (ad0:Addr) (c0:Nat) (l0:List (S52)) (r:List (S52)) (w:World) (hr0:Kd.C k52 w (some ad0) l0.length l0) (hc0:l0.length≤c0) (h:slices_Clone_Tag.f l0=some r) :
  Calls Tryd.prog 41 #[.slice (some ad0) l0.length c0] w fun e w'=>∃ v0_:Value,e = .returned (v0_)∧Kd.R k52 52 w' w.heap.size (fun _=>True) v0_ r∧Below w.heap.size w w':=by
 have hnil_:=fun (W:World)=>Go.Lib.run_eql_slice_nil (P:=Tryd.prog) W 22 52 (some ad0) l0.length c0 0 0 Tryd.underlying22
 simp only [Option.isNone_some] at hnil_
 have HR0:=Aside0.mk hr0
 have HC0:=Aside0.mk hc0
 clear hr0 hc0
 have HB:=Aside0.mk (Below.refl w.heap.size w)
 have H:((some (([]:List (S52)):List (S52))).bind fun y124=>(if y124.length+l0.length<4398046511104 then (some (y124++l0)) else (none)))=some r:=h
 clear h
 obtain ⟨y124,hy124⟩:∃ y_:List (S52),y_=(([]:List (S52))):=⟨_,rfl⟩
 replace H:(if y124.length+l0.length<4398046511104 then (some (y124++l0)) else (none))=some r:=by first|(rw [hy124];with_reducible exact H)|(have H2_:=(Option.bind_some _ _).symm.trans H;rw [hy124];with_reducible exact H2_)|(have H2_:=(Option.bind_some _ _).symm.trans H;with_reducible exact H2_)|with_reducible exact H|(rw [hy124];exact H)|exact H
 have Ny124:=Aside0.mk hy124
 clear hy124
 by_cases c2:y124.length+l0.length<4398046511104
 ·rw [if_pos c2] at H
  have LMc2:=Aside0.mk c2
  clear c2
  obtain ⟨y127,hy127⟩:∃ y_:List (S52),y_=(y124++l0):=⟨_,rfl⟩
  replace H:(some y127)=some r:=by first|(rw [hy127];with_reducible exact H)|(have H2_:=(Option.bind_some _ _).symm.trans H;rw [hy127];with_reducible exact H2_)|(have H2_:=(Option.bind_some _ _).symm.trans H;with_reducible exact H2_)|with_reducible exact H|(rw [hy127];exact H)|exact H
  have Ny127:=Aside0.mk hy127
  clear hy127
  obtain rfl:=Option.some.inj H
  go_enter Tryd.func41,Tryd.ntmps41
  go_wp2_with (first|((with_reducible refine gate_dst (N:=5) rfl ?_);refine Kd.R_lit k52 _ 52 ?hg (N:=5) ?hd (xs:=([]:List (S52))) (inner:=[]) (ok:=fun _=>True) (okp:=fun _=>True) ?hr ?hp (fun _ hk=>hk) trivial (Below.refl _ _) (Nat.le_refl _) (by simp) ?_;(case hd=>rfl);(case hg=>rfl);(case hr=>first|(go_simp;done)|(go_simp;rfl));(case hp=>exact (Reps.none _ _));intro v125 w3 ho4 hb hg_ hnew_;clear hg_ hnew_;(first|rw [← Ny124.out] at ho4|(simp only [Int.reduceToNat] at ho4;rw [← Ny124.out] at ho4));have n0_:=Aside0.mk (Kd.R_lower ho4 (below_size (by repeat (first|(with_reducible first|exact HB.out|apply below_alloc|apply pw_below_drewN|apply below_drew1)|exact HB.out))));have n1_:=Aside0.mk (below_step (by repeat (first|(with_reducible first|exact HB.out|apply below_alloc|apply pw_below_drewN|apply below_drew1)|exact HB.out)) hb);clear HB;have HO126:=n0_;have HB:=n1_;clear n0_ n1_;clear hb ho4)|((with_reducible refine gate_builtin (b := .append) (xs:=#[.tmp 5, .tmp 6]) rfl ?_);at_builtin;refine Kd.R_append_rows k52 (w0:=w) w.heap.size rfl (.tmp 5) (.tmp 6) 22 52 (.agg #[(.string ⟨#[]⟩),(.string ⟨#[]⟩)]) 32 rfl Tryd.underlying22 info52 rfl (by decide) (by omega) v125 y124 l0 _ _ _ (fun _=>True) (fun _=>False) rfl rfl ?aO ?aR (fun _ _ h=>h) (fun _ h=>h.elim) ?aF ?aB ?aS ?aL ?_;(case aR=>repeat (first|exact (Kd.C_below HR0.out HB.out)|(with_reducible refine Kd.C_alloc ?_ _)|(with_reducible refine Kd.C_drewN ?_ _)|(with_reducible refine Kd.C_drew ?_)));(case aB=>exact (by repeat (first|(with_reducible first|exact HB.out|apply below_alloc|apply pw_below_drewN|apply below_drew1)|exact HB.out)));(case aF=>exact (fun _ _=>trivial));(case aO=>exact (by (with_reducible repeat (first|apply Kd.R_alloc|apply Kd.R_drewN|apply Kd.R_drew));exact HO126.out));(case aS=>exact (below_size (by repeat (first|(with_reducible first|exact HB.out|apply below_alloc|apply pw_below_drewN|apply below_drew1)|exact HB.out))));(case aL=>have:=LMc2.out;omega);intro v128 w5 ho hb hg hat;rw [← Ny127.out] at ho;have n0_:=Aside0.mk (hb);have n1_:=Aside0.mk (ho);clear HB;clear HO126;have HB:=n0_;have HO129:=n1_;clear n0_ n1_;clear ho hb hg hat))
  go_ret
  exact ⟨_,by first|rfl|(simp [errW_none,errW_some]<;>rfl)|(simp [*,errW_none,errW_some]<;>rfl),by (with_reducible repeat (first|apply Kd.R_alloc|apply Kd.R_drewN|apply Kd.R_drew));exact HO129.out,by repeat (first|(with_reducible first|exact HB.out|apply below_alloc|apply pw_below_drewN|apply below_drew1)|exact HB.out)⟩
 ·rw [if_neg c2] at H
  exact absurd H (by simp)
set_option maxHeartbeats 8000000 in
set_option maxRecDepth 100000 in
theorem slices_Clone_Tag.calls (A0:Option Addr) (c0:Nat) (l0:List (S52)) (r:List (S52)) (w:World) (hr0:Kd.C k52 w A0 l0.length l0) (hc0:l0.length≤c0) (h:slices_Clone_Tag.f l0=some r) :
  Calls Tryd.prog 41 #[.slice A0 l0.length c0] w fun e w'=>∃ v0_:Value,e = .returned (v0_)∧Kd.R k52 52 w' w.heap.size (fun _=>True) v0_ r∧Below w.heap.size w w':=by
 cases A0 with
 | some ad0=>exact slices_Clone_Tag.calls_some ad0 c0 l0 r w hr0 hc0 h
 | none =>
  obtain rfl:l0=[]:=by
   cases l0 with
   | nil=>rfl
   | cons x t=>obtain ⟨_,_,h1⟩:=hr0;obtain ⟨ad,e,_⟩:=h1 (by simp);cases e
  obtain rfl:r=[]:=by simpa [slices_Clone_Tag.f] using h.symm
  have hnil_:=fun (W:World)=>Go.Lib.run_eql_slice_nil (P:=Tryd.prog) W 22 52 none 0 c0 0 0 Tryd.underlying22
  simp only [Option.isNone_none] at hnil_
  go_enter Tryd.func41,Tryd.ntmps41
  go_wp2
  go_ret
  exact ⟨_,rfl,by first|exact Kd.R_nil _ _ _ _ _|exact ⟨_,Kd.R_nil _ _ _ _ _⟩,Below.refl _ _⟩
def slices_SortFunc_Tag_by_tag_order.cf (x y:S52):Int:=Lib.compareBytes x.f0.data.toList y.f0.data.toList
def slices_SortFunc_Tag_by_tag_order.enc (x:S52):List Value:=[.string x.f0, .string x.f1]
instance slices_SortFunc_Tag_by_tag_order.inh:Inhabited S52:=⟨z52⟩
theorem slices_SortFunc_Tag_by_tag_order.swo:Go.Sort.SWO (Go.Proofs.ltOf slices_SortFunc_Tag_by_tag_order.cf):=Go.Proofs.YtbefmicenjdfkaaDoorW.XW.swo_text (fun x:S52=>x.f0.data.toList)
def slices_SortFunc_Tag_by_tag_order.sorted (l0:List S52):List S52:=(Go.Sort.pdq (Go.Proofs.ltOf slices_SortFunc_Tag_by_tag_order.cf) l0.toArray 0 l0.toArray.size (Lib.bitLen l0.toArray.size) true true).toList
def slices_SortFunc_Tag_by_tag_order.f (l0:List S52):Option (List S52):=if l0.length<4611686018427387904 then some (slices_SortFunc_Tag_by_tag_order.sorted l0) else none
theorem slices_SortFunc_Tag_by_tag_order.len (l0:List S52):(slices_SortFunc_Tag_by_tag_order.sorted l0).length=l0.length:=by
 have h:=Go.Sort.pdq_sorts (Go.Proofs.ltOf slices_SortFunc_Tag_by_tag_order.cf) slices_SortFunc_Tag_by_tag_order.swo l0.toArray 0 l0.toArray.size (Lib.bitLen l0.toArray.size) true true (Nat.zero_le _) (Nat.le_refl _) (Or.inl rfl)
 have:=h.1.1
 unfold slices_SortFunc_Tag_by_tag_order.sorted
 rw [Array.length_toList,this];simp
set_option maxHeartbeats 1000000 in
theorem slices_SortFunc_Tag_by_tag_order.order (x y:S52) (W:World):Calls Tryd.prog 43 #[.agg #[.string x.f0, .string x.f1], .agg #[.string y.f0, .string y.f1]] W fun e w'=>e = .returned (.int .i64 (slices_SortFunc_Tag_by_tag_order.cf x y))∧∃ q os',w'=Go.Sort.grow (W.drewN q) os':=by
 have hcon:=fun W'=>Tryd.strings_Compare x.f0 y.f0 W'
 unfold slices_SortFunc_Tag_by_tag_order.cf
 generalize Lib.compareBytes x.f0.data.toList y.f0.data.toList=r at hcon ⊢
 go_enter Tryd.func43,Tryd.ntmps43
 go_wp2_with (go_at_call 61;refine (hcon _).mono ?_;rintro e w' ⟨rfl,rfl⟩)
 go_ret
 exact ⟨rfl,0,_,by rw [Go.Sort.alloc_eq_grow,Go.Sort.alloc_eq_grow,Go.Sort.grow_grow];rfl⟩
theorem slices_SortFunc_Tag_by_tag_order.calls (P0_:Nat→Prop) (u9000_:Value) (l0:List S52) (r:List S52) (w0 w:World) (hB:Below w0.heap.size w0 w) (ho0:Kd.R k52 52 w w0.heap.size P0_ u9000_ l0) (h:slices_SortFunc_Tag_by_tag_order.f l0=some r) :
  Calls Tryd.prog 42 #[u9000_, .func (.func 43) #[] #[]] w fun e w'=>e = .returned (.tuple #[])∧Kd.R k52 52 w' w0.heap.size (fun k_=>(P0_ k_∨w.heap.size≤k_)) u9000_ r∧Below w0.heap.size w0 w'∧Kept w w' (fun k_=>P0_ k_):=by
 unfold slices_SortFunc_Tag_by_tag_order.f at h
 split at h
 case isFalse=>cases h
 rename_i hlen
 obtain rfl:=Option.some.inj h
 have eg:∀ args w,(callFunc 43 args).run Tryd.prog w = .ok (.enter 43 args) w:=enters_of Tryd.func43 (by kernel_rfl) rfl
 refine Go.Proofs.YtbefmicenjdfkaaDoorW.XW.sort_own (enc:=slices_SortFunc_Tag_by_tag_order.enc) (k:=2) k52 52 (fun _=>rfl) rfl (fun h=>k52_openM h) (fun w base ok x=>k52_mkM w base ok x) hB ho0 (slices_SortFunc_Tag_by_tag_order.len l0) ?_ ?_
 ·intro blk cap hH hblk
  have hcon:=AnyQ.slices_SortFunc_eq Tryd.sort42 2 Tryd.isAgg52 Tryd.sizeOf52 slices_SortFunc_Tag_by_tag_order.enc (fun _=>rfl) (fun x v hv=>by simp [slices_SortFunc_Tag_by_tag_order.enc] at hv;rcases hv with rfl|rfl<;>rfl) slices_SortFunc_Tag_by_tag_order.cf slices_SortFunc_Tag_by_tag_order.swo 43 #[] blk 0 cap l0.toArray w eg (fun _ _ _ _ x y=>slices_SortFunc_Tag_by_tag_order.order x y _) hH hblk (by simpa using hlen)
  have e:l0.toArray.size=l0.length:=by simp
  rw [e] at hcon
  refine hcon.mono ?_
  rintro e' w' ⟨rfl,n,os,rfl⟩
  exact ⟨rfl,n,os,by unfold slices_SortFunc_Tag_by_tag_order.sorted;rw [Array.toArray_toList,e]⟩
 ·intro A c hl
  exact AnyF.slices_SortFunc_none Tryd.sort42 A c _ w
def strings_Compare.f (a0 a1:ByteArray):Option (Int):=some (Lib.compareBytes a0.data.toList a1.data.toList)
theorem strings_Compare.calls (a0 a1:ByteArray) (r:Int) (w:World) (h:strings_Compare.f a0 a1=some r) :
  Calls Tryd.prog 61 #[.string a0, .string a1] w fun e w'=>e = .returned (.int .i64 r)∧Drawn0 w w':=by
 obtain rfl:=Option.some.inj h
 exact (Tryd.strings_Compare a0 a1 w).mono fun e w' ⟨he,hw⟩=>⟨he,hw ▸ Drawn0.refl _⟩
def tag_order.f (a0_0:ByteArray) (a0_1:ByteArray) (a1_0:ByteArray) (a1_1:ByteArray):Option (Int):=(strings_Compare.f a0_0 a1_0).bind fun t132=>(some t132)
set_option maxHeartbeats 8000000 in
set_option maxRecDepth 100000 in
theorem tag_order.calls (a0_0:ByteArray) (a0_1:ByteArray) (a1_0:ByteArray) (a1_1:ByteArray) (r:Int) (w:World) (h:tag_order.f a0_0 a0_1 a1_0 a1_1=some r) :
  Calls Tryd.prog 43 #[.agg #[.string a0_0, .string a0_1], .agg #[.string a1_0, .string a1_1]] w fun e w'=>e = .returned (.int .i64 r)∧Below w.heap.size w w':=by
 have hu52:=Tryd.underlying52
 have HB:=Aside0.mk (Below.refl w.heap.size w)
 have H:((strings_Compare.f a0_0 a1_0).bind fun t132=>(some t132))=some r:=h
 clear h
 replace H:=Option.bind_eq_some_iff.mp H
 obtain ⟨t132,A30,H⟩:=H
 replace H:(some t132)=some r:=H
 have A3:=Aside0.mk A30
 clear A30
 obtain rfl:=Option.some.inj H
 go_enter Tryd.func43,Tryd.ntmps43
 go_wp2_with (first|((with_reducible refine gate_dst (N:=2) rfl ?_);refine box_event ?hg (N:=2) ?hd (cs:=#[.string a0_0, .string a0_1]) (t:=52) ?hr ?_;(case hd=>rfl);(case hg=>rfl);(case hr=>first|(go_simp;done)|(go_simp;rfl));intro gb130 hg w4 hbox hb;have n0_:=Aside0.mk (below_step (by repeat (first|(with_reducible first|exact HB.out|apply below_alloc|apply pw_below_drewN|apply below_drew1)|exact HB.out)) hb);have n1_:=Aside0.mk (hbox);have n2_:=Aside0.mk ((by rw [hg];exact (below_size (by repeat (first|(with_reducible first|exact HB.out|apply below_alloc|apply pw_below_drewN|apply below_drew1)|exact HB.out))):w.heap.size≤gb130));have n3_:=Aside0.mk ((by rw [hg];exact (below_size (by repeat (first|(with_reducible first|exact HB.out|apply below_alloc|apply pw_below_drewN|apply below_drew1)|exact HB.out))):w.heap.size≤gb130));clear HB;have HB:=n0_;have BK130:=n1_;have GW130:=n2_;have GE130:=n3_;clear n0_ n1_ n2_ n3_;clear hb hbox hg)|((with_reducible refine gate_dst (N:=3) rfl ?_);refine box_event ?hg (N:=3) ?hd (cs:=#[.string a1_0, .string a1_1]) (t:=52) ?hr ?_;(case hd=>rfl);(case hg=>rfl);(case hr=>first|(go_simp;done)|(go_simp;rfl));intro gb131 hg w5 hbox hb;have n0_:=Aside0.mk (blk_below (g:=gb130) (o := .cells #[.string a0_0, .string a0_1] 52 (0,0)) (by (with_reducible repeat (first|refine blk_drewN ?_ _|refine blk_drew ?_|refine blk_alloc ?_ _));exact BK130.out) hb);have n1_:=Aside0.mk (below_step (by repeat (first|(with_reducible first|exact HB.out|apply below_alloc|apply pw_below_drewN|apply below_drew1|refine below_set ?_ GE130.out)|exact HB.out)) hb);have n2_:=Aside0.mk (hbox);have n3_:=Aside0.mk ((by rw [hg];exact (below_size (by repeat (first|(with_reducible first|exact HB.out|apply below_alloc|apply pw_below_drewN|apply below_drew1|refine below_set ?_ GE130.out)|exact HB.out))):w.heap.size≤gb131));have n4_:=Aside0.mk ((by rw [hg];exact (below_size (by repeat (first|(with_reducible first|exact HB.out|apply below_alloc|apply pw_below_drewN|apply below_drew1|refine below_set ?_ GE130.out)|exact HB.out))):w.heap.size≤gb131));have n5_:=Aside0.mk ((by rw [hg];exact Nat.ne_of_lt (blk_lt (g:=gb130) (o := .cells #[.string a0_0, .string a0_1] 52 (0,0)) (by (with_reducible repeat (first|refine blk_drewN ?_ _|refine blk_drew ?_|refine blk_alloc ?_ _));exact BK130.out)):gb130≠gb131));have n6_:=Aside0.mk ((by rw [hg];exact Nat.ne_of_gt (blk_lt (g:=gb130) (o := .cells #[.string a0_0, .string a0_1] 52 (0,0)) (by (with_reducible repeat (first|refine blk_drewN ?_ _|refine blk_drew ?_|refine blk_alloc ?_ _));exact BK130.out)):gb131≠gb130));clear BK130;clear HB;have BK130:=n0_;have HB:=n1_;have BK131:=n2_;have GW131:=n3_;have GE131:=n4_;have NB130_131:=n5_;have NB131_130:=n6_;clear n0_ n1_ n2_ n3_ n4_ n5_ n6_;clear hb hbox hg;have hnb6:=NB130_131.out;have hnc6:=NB131_130.out;have hcz7_0:w5.cell? ⟨gb130,0,none⟩=some (.string a0_0):=(blk_cell BK130.out 0).trans rfl;have hcz7_1:w5.cell? ⟨gb130,1,none⟩=some (.string a0_1):=(blk_cell BK130.out 1).trans rfl;have hfz7_0:=blk_frozen BK130.out 0;have hfz7_1:=blk_frozen BK130.out 1;have hcz8_0:w5.cell? ⟨gb131,0,none⟩=some (.string a1_0):=(blk_cell BK131.out 0).trans rfl;have hcz8_1:w5.cell? ⟨gb131,1,none⟩=some (.string a1_1):=(blk_cell BK131.out 1).trans rfl;have hfz8_0:=blk_frozen BK131.out 0;have hfz8_1:=blk_frozen BK131.out 1)|((with_reducible refine gate_callee (f:=61) rfl ?_);refine goesL_ (some 9) rfl rfl Tryd.func61 (by kernel_rfl) rfl #[.string a0_0, .string a1_0] rfl (by (try simp only [List.map_toArray,List.map_cons,List.map_nil]);first|done|rfl|(simp only [List.length_drop,List.length_take];rfl)) ?_;(with_reducible refine (strings_Compare.calls a0_0 a1_0 t132 _ A3.out).mono ?_);rintro e w' ⟨rfl,⟨nd,rfl⟩⟩;refine ⟨_,rfl,?_⟩))
 go_ret
 exact ⟨by first|rfl|(simp [errW_none,errW_some]<;>rfl)|(simp [*,errW_none,errW_some]<;>rfl),by repeat (first|(with_reducible first|exact HB.out|apply below_alloc|apply pw_below_drewN|apply below_drew1|refine below_set ?_ GE130.out|refine below_set ?_ GE131.out)|exact HB.out)⟩
end Go.Proofs.YtbefmicenjdfkaaDoor.PTk
