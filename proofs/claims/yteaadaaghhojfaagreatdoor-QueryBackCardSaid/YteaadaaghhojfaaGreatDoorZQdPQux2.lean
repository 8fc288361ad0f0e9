import Derived.Test.YteaadaaghhojfaaGreatDoorZQdPQux0
namespace Go.Proofs.YteaadaaghhojfaaGreatDoor.PQu
open Go.RowKit Go.Proofs.YteaadaaghhojfaaGreatDoorW.PrintWords Go.Proofs.YteaadaaghhojfaaGreatDoorW.PrintLast Go.Proofs.YteaadaaghhojfaaGreatDoorW.PrintMore
attribute [local go_sem] max2_int min2_int max_two min_two max_three min_three max_four min_four
set_option linter.unusedVariables false
set_option linter.unusedSimpArgs false
set_option maxHeartbeats 8000000
set_option maxRecDepth 100000
def stringslite_Index.f (a0 a1:ByteArray):Option (Int):=match a1.data.toList with
 | [c]=>some (Lib.indexByte a0.data.toList c)
 | l=>if a0.size<4294967281 then some (Lib.index a0.data.toList l) else none
theorem stringslite_Index.calls (a0 a1:ByteArray) (r:Int) (w:World) (hG:GInt w) (h:stringslite_Index.f a0 a1=some r) :
  Calls Tryz.prog 205 #[.string a0, .string a1] w fun e w'=>e = .returned (.int .i64 r)∧Drawn0 w w':=by
 unfold stringslite_Index.f at h
 split at h
 ·rename_i c hc
  obtain rfl:a1=⟨#[c]⟩:=Go.Proofs.YteaadaaghhojfaaGreatDoorW.XW.one_byte hc
  obtain rfl:=Option.some.inj h
  exact (Tryz.stringslite_Index_one a0 c w).mono fun e w' ⟨he,hw⟩=>⟨he,hw ▸ Drawn0.refl _⟩
 ·split at h
  case isFalse=>cases h
  rename_i hs
  obtain rfl:=Option.some.inj h
  obtain ⟨m,hm⟩:=hG
  exact (Tryz.stringslite_Index a0 a1 m w hs hm).mono fun e w' ⟨he,hw⟩=>⟨he,hw ▸ Drawn0.refl _⟩
def stringslite_Cut.f (a0:ByteArray) (a1:ByteArray):Option (ByteArray×ByteArray×Bool):=(stringslite_Index.f a0 a1).bind fun t101=>(if t101≥0 then (if 0≤t101 then (if t101≤(a0.size:Int) then (if 0≤(wrap64 (t101+(a1.size:Int))) then (if (wrap64 (t101+(a1.size:Int)))≤(a0.size:Int) then (some (a0.extract 0 (t101:Int).toNat,a0.extract ((wrap64 (t101+(a1.size:Int))):Int).toNat a0.size,true)) else (none)) else (none)) else (none)) else (none)) else (some (a0,(⟨#[]⟩:ByteArray),false)))
theorem stringslite_Cut.calls (a0:ByteArray) (a1:ByteArray) (r1:ByteArray) (r2:ByteArray) (r3:Bool) (w:World) (hG:GInt w) (h:stringslite_Cut.f a0 a1=some (r1,r2,r3)) :
  Calls Tryz.prog 178 #[.string a0, .string a1] w fun e w'=>e = .returned (.tuple #[.string r1, .string r2, .bool r3])∧Drawn0 w w':=by
 have HG:=Aside0.mk hG
 clear hG
 have H:((stringslite_Index.f a0 a1).bind fun t101=>(if t101≥0 then (if 0≤t101 then (if t101≤(a0.size:Int) then (if 0≤(wrap64 (t101+(a1.size:Int))) then (if (wrap64 (t101+(a1.size:Int)))≤(a0.size:Int) then (some (a0.extract 0 (t101:Int).toNat,a0.extract ((wrap64 (t101+(a1.size:Int))):Int).toNat a0.size,true)) else (none)) else (none)) else (none)) else (none)) else (some (a0,(⟨#[]⟩:ByteArray),false))))=some (r1,r2,r3):=h
 clear h
 replace H:=Option.bind_eq_some_iff.mp H
 obtain ⟨t101,A30,H⟩:=H
 replace H:(if t101≥0 then (if 0≤t101 then (if t101≤(a0.size:Int) then (if 0≤(wrap64 (t101+(a1.size:Int))) then (if (wrap64 (t101+(a1.size:Int)))≤(a0.size:Int) then (some (a0.extract 0 (t101:Int).toNat,a0.extract ((wrap64 (t101+(a1.size:Int))):Int).toNat a0.size,true)) else (none)) else (none)) else (none)) else (none)) else (some (a0,(⟨#[]⟩:ByteArray),false)))=some (r1,r2,r3):=H
 have A3:=Aside0.mk A30
 clear A30
 by_cases c4:t101≥0
 rotate_left
 ·rw [if_neg c4] at H
  have c4b0:decide (0≤t101)=false:=decide_eq_false c4
  clear c4
  simp only [Option.some.injEq,Prod.mk.injEq] at H
  obtain ⟨rfl,rfl,rfl⟩:=H
  go_enter Tryz.func178,Tryz.ntmps178
  go_wp2_with (first|(go_at_call 205;(with_reducible refine (stringslite_Index.calls a0 a1 t101 _ qM A3.out).mono ?_);rintro e w' ⟨rfl,⟨nd,rfl⟩⟩;(try first|exact ⟨rfl,_,World.drewN_drewN _ _ _⟩|exact ⟨rfl,_,Eq.trans (World.drewN_drewN _ _ _) (congrArg (World.drewN _) (Nat.add_assoc _ _ _))⟩)))
  repeat (go_quiet (first|(go_at_call 205;(with_reducible refine (stringslite_Index.calls a0 a1 t101 _ qM A3.out).mono ?_);rintro e w' ⟨rfl,⟨nd,rfl⟩⟩;(try first|exact ⟨rfl,_,World.drewN_drewN _ _ _⟩|exact ⟨rfl,_,Eq.trans (World.drewN_drewN _ _ _) (congrArg (World.drewN _) (Nat.add_assoc _ _ _))⟩)));try go_wp2_with (first|(go_at_call 205;(with_reducible refine (stringslite_Index.calls a0 a1 t101 _ qM A3.out).mono ?_);rintro e w' ⟨rfl,⟨nd,rfl⟩⟩;(try first|exact ⟨rfl,_,World.drewN_drewN _ _ _⟩|exact ⟨rfl,_,Eq.trans (World.drewN_drewN _ _ _) (congrArg (World.drewN _) (Nat.add_assoc _ _ _))⟩))))
  go_ret3
  exact ⟨qS,qD⟩
 rw [if_pos c4] at H
 have c4b0:decide (0≤t101)=true:=decide_eq_true c4
 clear c4
 by_cases c5:0≤t101
 rotate_left
 ·rw [if_neg c5] at H
  exact absurd H (by simp)
 rw [if_pos c5] at H
 have c5b0:=eq_true c5
 have c5b1:decide (0≤t101)=true:=decide_eq_true c5
 clear c5
 by_cases c6:t101≤(a0.size:Int)
 rotate_left
 ·rw [if_neg c6] at H
  exact absurd H (by simp)
 rw [if_pos c6] at H
 have c6b0:=eq_true c6
 have c6b1:decide (t101≤(a0.size:Int))=true:=decide_eq_true c6
 clear c6
 obtain ⟨ji7,hji7⟩:∃ j_:Int,(wrap64 (t101+(a1.size:Int)))=j_:=⟨_,rfl⟩
 replace H:(if 0≤(ji7) then (if (ji7)≤(a0.size:Int) then (some (a0.extract 0 (t101:Int).toNat,a0.extract ((ji7):Int).toNat a0.size,true)) else (none)) else (none))=some (r1,r2,r3):=by first|(rw [hji7] at H;exact H)|(simp only [hji7] at H ⊢;exact H)
 (try rw [hji7] at A3)
 have hji7w:(IntKind.i64.wrap (t101+(a1.size:Int)))=ji7:=(i64_w _).trans hji7
 by_cases c8:0≤(ji7)
 rotate_left
 ·rw [if_neg c8] at H
  exact absurd H (by simp)
 rw [if_pos c8] at H
 have c8b0:=eq_true c8
 have c8b1:decide (0≤(ji7))=true:=decide_eq_true c8
 clear c8
 by_cases c9:(ji7)≤(a0.size:Int)
 rotate_left
 ·rw [if_neg c9] at H
  exact absurd H (by simp)
 rw [if_pos c9] at H
 have c9b0:=eq_true c9
 have c9b1:decide ((ji7)≤(a0.size:Int))=true:=decide_eq_true c9
 clear c9
 simp only [Option.some.injEq,Prod.mk.injEq] at H
 obtain ⟨rfl,rfl,rfl⟩:=H
 go_enter Tryz.func178,Tryz.ntmps178
 go_wp2_with (first|(go_at_call 205;(with_reducible refine (stringslite_Index.calls a0 a1 t101 _ qM A3.out).mono ?_);rintro e w' ⟨rfl,⟨nd,rfl⟩⟩;(try first|exact ⟨rfl,_,World.drewN_drewN _ _ _⟩|exact ⟨rfl,_,Eq.trans (World.drewN_drewN _ _ _) (congrArg (World.drewN _) (Nat.add_assoc _ _ _))⟩)))
 repeat (go_quiet (first|(go_at_call 205;(with_reducible refine (stringslite_Index.calls a0 a1 t101 _ qM A3.out).mono ?_);rintro e w' ⟨rfl,⟨nd,rfl⟩⟩;(try first|exact ⟨rfl,_,World.drewN_drewN _ _ _⟩|exact ⟨rfl,_,Eq.trans (World.drewN_drewN _ _ _) (congrArg (World.drewN _) (Nat.add_assoc _ _ _))⟩)));try go_wp2_with (first|(go_at_call 205;(with_reducible refine (stringslite_Index.calls a0 a1 t101 _ qM A3.out).mono ?_);rintro e w' ⟨rfl,⟨nd,rfl⟩⟩;(try first|exact ⟨rfl,_,World.drewN_drewN _ _ _⟩|exact ⟨rfl,_,Eq.trans (World.drewN_drewN _ _ _) (congrArg (World.drewN _) (Nat.add_assoc _ _ _))⟩))))
 go_ret3
 exact ⟨by first|rfl|(simp;done)|(simp only [← hji7]<;>(first|rfl|simp))|(simp [*];done),qD⟩
def strings_Cut.f (a0:ByteArray) (a1:ByteArray):Option (ByteArray×ByteArray×Bool):=(stringslite_Cut.f a0 a1).bind fun bt102=>(some (bt102.1,bt102.2.1,bt102.2.2))
theorem strings_Cut.calls (a0:ByteArray) (a1:ByteArray) (r1:ByteArray) (r2:ByteArray) (r3:Bool) (w:World) (hG:GInt w) (h:strings_Cut.f a0 a1=some (r1,r2,r3)) :
  Calls Tryz.prog 146 #[.string a0, .string a1] w fun e w'=>e = .returned (.tuple #[.string r1, .string r2, .bool r3])∧Drawn0 w w':=by
 have HG:=Aside0.mk hG
 clear hG
 have H:((stringslite_Cut.f a0 a1).bind fun bt102=>(some (bt102.1,bt102.2.1,bt102.2.2)))=some (r1,r2,r3):=h
 clear h
 replace H:=Option.bind_eq_some_iff.mp H
 obtain ⟨⟨t102,t103,t104⟩,A30,H⟩:=H
 replace H:(some (t102,t103,t104))=some (r1,r2,r3):=H
 have A3:=Aside0.mk A30
 clear A30
 simp only [Option.some.injEq,Prod.mk.injEq] at H
 obtain ⟨rfl,rfl,rfl⟩:=H
 go_enter Tryz.func146,Tryz.ntmps146
 go_wp2_with (first|((with_reducible refine gate_callee (f:=178) rfl ?_);refine goesL_ (some 9) rfl rfl Tryz.func178 qK rfl #[.string a0, .string a1] rfl qG ?_;(with_reducible refine (stringslite_Cut.calls a0 a1 t102 t103 t104 _ qM A3.out).mono ?_);rintro e w' ⟨rfl,⟨nd,rfl⟩⟩;refine ⟨_,rfl,?_⟩))
 go_ret3
 exact ⟨qS,qD⟩
def stringslite_HasSuffix.f (a0:ByteArray) (a1:ByteArray):Option (Bool):=if (a0.size:Int)≥(a1.size:Int) then (if 0≤(wrap64 ((a0.size:Int) - (a1.size:Int))) then (if (wrap64 ((a0.size:Int) - (a1.size:Int)))≤(a0.size:Int) then (some ((a0.extract ((wrap64 ((a0.size:Int) - (a1.size:Int))):Int).toNat a0.size).toList ==a1.toList)) else (none)) else (none)) else (some false)
theorem stringslite_HasSuffix.calls (a0:ByteArray) (a1:ByteArray) (r:Bool) (w:World) (h:stringslite_HasSuffix.f a0 a1=some r) :
  Calls Tryz.prog 206 #[.string a0, .string a1] w fun e w'=>e = .returned (.bool r)∧Drawn0 w w':=by
 have H:(if (a0.size:Int)≥(a1.size:Int) then (if 0≤(wrap64 ((a0.size:Int) - (a1.size:Int))) then (if (wrap64 ((a0.size:Int) - (a1.size:Int)))≤(a0.size:Int) then (some ((a0.extract ((wrap64 ((a0.size:Int) - (a1.size:Int))):Int).toNat a0.size).toList ==a1.toList)) else (none)) else (none)) else (some false))=some r:=h
 clear h
 by_cases c3:(a0.size:Int)≥(a1.size:Int)
 rotate_left
 ·rw [if_neg c3] at H
  have c3b0:decide ((a1.size:Int)≤(a0.size:Int))=false:=decide_eq_false c3
  have c3b1:decide (a1.size≤a0.size)=false:=decide_eq_false (fun h=>c3 (Int.ofNat_le.mpr h))
  clear c3
  obtain rfl:=Option.some.inj H
  go_enter Tryz.func206,Tryz.ntmps206
  go_wp2
  go_ret
  exact ⟨qS,qD⟩
 rw [if_pos c3] at H
 have c3b0:decide ((a1.size:Int)≤(a0.size:Int))=true:=decide_eq_true c3
 have c3b1:decide (a1.size≤a0.size)=true:=decide_eq_true (Int.ofNat_le.mp c3)
 clear c3
 obtain ⟨ji4,hji4⟩:∃ j_:Int,(wrap64 ((a0.size:Int) - (a1.size:Int)))=j_:=⟨_,rfl⟩
 replace H:(if 0≤(ji4) then (if (ji4)≤(a0.size:Int) then (some ((a0.extract ((ji4):Int).toNat a0.size).toList ==a1.toList)) else (none)) else (none))=some r:=by first|(rw [hji4] at H;exact H)|(simp only [hji4] at H ⊢;exact H)
 have hji4w:(IntKind.i64.wrap ((a0.size:Int) - (a1.size:Int)))=ji4:=(i64_w _).trans hji4
 by_cases c5:0≤(ji4)
 rotate_left
 ·rw [if_neg c5] at H
  exact absurd H (by simp)
 rw [if_pos c5] at H
 have c5b0:=eq_true c5
 have c5b1:decide (0≤(ji4))=true:=decide_eq_true c5
 clear c5
 by_cases c6:(ji4)≤(a0.size:Int)
 rotate_left
 ·rw [if_neg c6] at H
  exact absurd H (by simp)
 rw [if_pos c6] at H
 have c6b0:=eq_true c6
 have c6b1:decide ((ji4)≤(a0.size:Int))=true:=decide_eq_true c6
 clear c6
 obtain rfl:=Option.some.inj H
 go_enter Tryz.func206,Tryz.ntmps206
 go_wp2
 go_ret
 exact ⟨by first|rfl|(simp;done)|(simp only [← hji4]<;>(first|rfl|simp))|(simp [*];done),qD⟩
def stringslite_CutSuffix.f (a0:ByteArray) (a1:ByteArray):Option (ByteArray×Bool):=(stringslite_HasSuffix.f a0 a1).bind fun t105=>(if t105=true then (if 0≤(wrap64 ((a0.size:Int) - (a1.size:Int))) then (if (wrap64 ((a0.size:Int) - (a1.size:Int)))≤(a0.size:Int) then (some (a0.extract 0 ((wrap64 ((a0.size:Int) - (a1.size:Int))):Int).toNat,true)) else (none)) else (none)) else (some (a0,false)))
theorem stringslite_CutSuffix.calls (a0:ByteArray) (a1:ByteArray) (r1:ByteArray) (r2:Bool) (w:World) (h:stringslite_CutSuffix.f a0 a1=some (r1,r2)) :
  Calls Tryz.prog 179 #[.string a0, .string a1] w fun e w'=>e = .returned (.tuple #[.string r1, .bool r2])∧Drawn0 w w':=by
 have H:((stringslite_HasSuffix.f a0 a1).bind fun t105=>(if t105=true then (if 0≤(wrap64 ((a0.size:Int) - (a1.size:Int))) then (if (wrap64 ((a0.size:Int) - (a1.size:Int)))≤(a0.size:Int) then (some (a0.extract 0 ((wrap64 ((a0.size:Int) - (a1.size:Int))):Int).toNat,true)) else (none)) else (none)) else (some (a0,false))))=some (r1,r2):=h
 clear h
 replace H:=Option.bind_eq_some_iff.mp H
 obtain ⟨t105,A30,H⟩:=H
 replace H:(if t105=true then (if 0≤(wrap64 ((a0.size:Int) - (a1.size:Int))) then (if (wrap64 ((a0.size:Int) - (a1.size:Int)))≤(a0.size:Int) then (some (a0.extract 0 ((wrap64 ((a0.size:Int) - (a1.size:Int))):Int).toNat,true)) else (none)) else (none)) else (some (a0,false)))=some (r1,r2):=H
 have A3:=Aside0.mk A30
 clear A30
 by_cases c4:t105=true
 rotate_left
 ·replace c4:=Bool.eq_false_iff.mpr c4
  subst c4
  have H1:(some (a0,false))=some (r1,r2):=by rw [if_neg (show ¬ (false=true) by decide)] at H;exact H
  clear H
  have H:=H1
  clear H1
  simp only [Option.some.injEq,Prod.mk.injEq] at H
  obtain ⟨rfl,rfl⟩:=H
  go_enter Tryz.func179,Tryz.ntmps179
  go_wp2_with (first|((with_reducible refine gate_callee (f:=206) rfl ?_);refine goesL_ (some 8) rfl rfl Tryz.func206 qK rfl #[.string a0, .string a1] rfl qG ?_;(with_reducible refine (stringslite_HasSuffix.calls a0 a1 false _ A3.out).mono ?_);rintro e w' ⟨rfl,⟨nd,rfl⟩⟩;refine ⟨_,rfl,?_⟩))
  go_ret2
  exact ⟨qS,qD⟩
 subst c4
 have H1:(if 0≤(wrap64 ((a0.size:Int) - (a1.size:Int))) then (if (wrap64 ((a0.size:Int) - (a1.size:Int)))≤(a0.size:Int) then (some (a0.extract 0 ((wrap64 ((a0.size:Int) - (a1.size:Int))):Int).toNat,true)) else (none)) else (none))=some (r1,r2):=by rw [if_pos rfl] at H;exact H
 clear H
 have H:=H1
 clear H1
 obtain ⟨ji5,hji5⟩:∃ j_:Int,(wrap64 ((a0.size:Int) - (a1.size:Int)))=j_:=⟨_,rfl⟩
 replace H:(if 0≤(ji5) then (if (ji5)≤(a0.size:Int) then (some (a0.extract 0 ((ji5):Int).toNat,true)) else (none)) else (none))=some (r1,r2):=by first|(rw [hji5] at H;exact H)|(simp only [hji5] at H ⊢;exact H)
 (try rw [hji5] at A3)
 have hji5w:(IntKind.i64.wrap ((a0.size:Int) - (a1.size:Int)))=ji5:=(i64_w _).trans hji5
 by_cases c6:0≤(ji5)
 rotate_left
 ·rw [if_neg c6] at H
  exact absurd H (by simp)
 rw [if_pos c6] at H
 have c6b0:=eq_true c6
 have c6b1:decide (0≤(ji5))=true:=decide_eq_true c6
 clear c6
 by_cases c7:(ji5)≤(a0.size:Int)
 rotate_left
 ·rw [if_neg c7] at H
  exact absurd H (by simp)
 rw [if_pos c7] at H
 have c7b0:=eq_true c7
 have c7b1:decide ((ji5)≤(a0.size:Int))=true:=decide_eq_true c7
 clear c7
 simp only [Option.some.injEq,Prod.mk.injEq] at H
 obtain ⟨rfl,rfl⟩:=H
 go_enter Tryz.func179,Tryz.ntmps179
 go_wp2_with (first|((with_reducible refine gate_callee (f:=206) rfl ?_);refine goesL_ (some 8) rfl rfl Tryz.func206 qK rfl #[.string a0, .string a1] rfl qG ?_;(with_reducible refine (stringslite_HasSuffix.calls a0 a1 true _ A3.out).mono ?_);rintro e w' ⟨rfl,⟨nd,rfl⟩⟩;refine ⟨_,rfl,?_⟩))
 go_ret2
 exact ⟨by first|rfl|(simp;done)|(simp only [← hji5]<;>(first|rfl|simp))|(simp [*];done),qD⟩
def strings_CutSuffix.f (a0:ByteArray) (a1:ByteArray):Option (ByteArray×Bool):=(stringslite_CutSuffix.f a0 a1).bind fun bt106=>(some (bt106.1,bt106.2))
theorem strings_CutSuffix.calls (a0:ByteArray) (a1:ByteArray) (r1:ByteArray) (r2:Bool) (w:World) (h:strings_CutSuffix.f a0 a1=some (r1,r2)) :
  Calls Tryz.prog 147 #[.string a0, .string a1] w fun e w'=>e = .returned (.tuple #[.string r1, .bool r2])∧Drawn0 w w':=by
 have H:((stringslite_CutSuffix.f a0 a1).bind fun bt106=>(some (bt106.1,bt106.2)))=some (r1,r2):=h
 clear h
 replace H:=Option.bind_eq_some_iff.mp H
 obtain ⟨⟨t106,t107⟩,A30,H⟩:=H
 replace H:(some (t106,t107))=some (r1,r2):=H
 have A3:=Aside0.mk A30
 clear A30
 simp only [Option.some.injEq,Prod.mk.injEq] at H
 obtain ⟨rfl,rfl⟩:=H
 go_enter Tryz.func147,Tryz.ntmps147
 go_wp2_with (first|((with_reducible refine gate_callee (f:=179) rfl ?_);refine goesL_ (some 8) rfl rfl Tryz.func179 qK rfl #[.string a0, .string a1] rfl qG ?_;(with_reducible refine (stringslite_CutSuffix.calls a0 a1 t106 t107 _ A3.out).mono ?_);rintro e w' ⟨rfl,⟨nd,rfl⟩⟩;refine ⟨_,rfl,?_⟩))
 go_ret2
 exact ⟨qS,qD⟩
def strings_Trim.f (a0 a1:ByteArray):Option (ByteArray):=if a0.size≤9223372036854775807 then (if a1.size<4294967281 then (if (a1.data.toList.all fun b=>decide (b.toNat<128))=true then some ⟨(Lib.trimS a0.data.toList a1.data.toList).toArray⟩ else none) else none) else none
theorem strings_Trim.calls (a0 a1:ByteArray) (r:ByteArray) (w:World) (h:strings_Trim.f a0 a1=some r) :
  Calls Tryz.prog 134 #[.string a0, .string a1] w fun e w'=>e = .returned (.string r)∧Below w.heap.size w w':=by
 unfold strings_Trim.f at h
 split at h
 case isFalse=>cases h
 split at h
 case isFalse=>cases h
 split at h
 case isFalse=>cases h
 obtain rfl:=Option.some.inj h
 exact Any.strings_Trim_laid Tryz.lays160 qK a0 a1 w (by assumption) (by assumption) (ascii_of_all (by assumption))
def word_made.f (a0:ByteArray) (a1:ByteArray):Option (Bool):=if a0.toList=([]:List UInt8) then (some false) else (if (a0.size:Int)≤12 then ((strings_Trim.f a0 a1).bind fun t108=>(some (t108.toList ==([]:List UInt8)))) else (some false))
theorem word_made.calls (a0:ByteArray) (a1:ByteArray) (r:Bool) (w:World) (h:word_made.f a0 a1=some r) :
  Calls Tryz.prog 99 #[.string a0, .string a1] w fun e w'=>e = .returned (.bool r)∧Below w.heap.size w w':=by
 have HB:=Aside0.mk (Below.refl w.heap.size w)
 have H:(if a0.toList=([]:List UInt8) then (some false) else (if (a0.size:Int)≤12 then ((strings_Trim.f a0 a1).bind fun t108=>(some (t108.toList ==([]:List UInt8)))) else (some false)))=some r:=h
 clear h
 by_cases c3:a0.toList=([]:List UInt8)
 ·rw [if_pos c3] at H
  have c3b0:(a0.toList ==([]:List UInt8))=true:=beq_iff_eq.mpr c3
  have c3b1:(a0.toList != ([]:List UInt8))=false:=bne_eq_false_iff_eq.mpr c3
  clear c3
  obtain rfl:=Option.some.inj H
  go_enter Tryz.func99,Tryz.ntmps99
  go_wp2
  go_ret
  exact ⟨qE,qB⟩
 rw [if_neg c3] at H
 have c3b0:(a0.toList ==([]:List UInt8))=false:=beq_eq_false_iff_ne.mpr c3
 have c3b1:(a0.toList != ([]:List UInt8))=true:=bne_iff_ne.mpr c3
 by_cases c4:(a0.size:Int)≤12
 rotate_left
 ·rw [if_neg c4] at H
  have c4b0:decide ((a0.size:Int)≤12)=false:=decide_eq_false c4
  have c4b1:decide (a0.size≤12)=false:=decide_eq_false (by omega)
  clear c4
  obtain rfl:=Option.some.inj H
  go_enter Tryz.func99,Tryz.ntmps99
  go_wp2
  go_ret
  exact ⟨qE,qB⟩
 rw [if_pos c4] at H
 have c4b0:decide ((a0.size:Int)≤12)=true:=decide_eq_true c4
 have c4b1:decide (a0.size≤12)=true:=decide_eq_true (by omega)
 clear c4
 replace H:=Option.bind_eq_some_iff.mp H
 obtain ⟨t108,A50,H⟩:=H
 replace H:(some (t108.toList ==([]:List UInt8)))=some r:=H
 have A5:=Aside0.mk A50
 clear A50
 obtain rfl:=Option.some.inj H
 go_enter Tryz.func99,Tryz.ntmps99
 go_wp2_with (first|(go_at_call 134;(with_reducible refine (strings_Trim.calls a0 a1 t108 _ A5.out).mono ?_);rintro e w6 ⟨rfl,hb⟩;replace HB:=Aside0.mk (below_step qB hb);clear hb))
 go_ret
 exact ⟨qE,qB⟩
def strings_IndexByte.f (a0:ByteArray) (a1:Int):Option (Int):=some (Lib.indexByte a0.data.toList a1.toNat.toUInt8)
theorem strings_IndexByte.calls (a0:ByteArray) (a1:Int) (r:Int) (w:World) (h:strings_IndexByte.f a0 a1=some r) :
  Calls Tryz.prog 100 #[.string a0, .int .u8 a1] w fun e w'=>e = .returned (.int .i64 r)∧Drawn0 w w':=by
 obtain rfl:=Option.some.inj h
 exact (Tryz.strings_IndexByte a0 a1 w).mono fun e w' ⟨he,hw⟩=>⟨he,hw ▸ Drawn0.refl _⟩
def word_Name.f (a0:ByteArray):Option (Bool):=(word_made.f a0 (⟨#[97,98,99,100,101,102,103,104,105,106,107,108,109,110,111,112,113,114,115,116,117,118,119,120,121,122,48,49,50,51,52,53,54,55,56,57,95]⟩:ByteArray)).bind fun t109=>(if t109=true then (if 0<(a0.size:Int) then ((strings_IndexByte.f (⟨#[97,98,99,100,101,102,103,104,105,106,107,108,109,110,111,112,113,114,115,116,117,118,119,120,121,122]⟩:ByteArray) (bt a0 0)).bind fun t110=>(some (decide (t110≥0)))) else (none)) else (some false))
theorem word_Name.calls (a0:ByteArray) (r:Bool) (w:World) (h:word_Name.f a0=some r) :
  Calls Tryz.prog 51 #[.string a0] w fun e w'=>e = .returned (.bool r)∧Below w.heap.size w w':=by
 have HB:=Aside0.mk (Below.refl w.heap.size w)
 have H:((word_made.f a0 (⟨#[97,98,99,100,101,102,103,104,105,106,107,108,109,110,111,112,113,114,115,116,117,118,119,120,121,122,48,49,50,51,52,53,54,55,56,57,95]⟩:ByteArray)).bind fun t109=>(if t109=true then (if 0<(a0.size:Int) then ((strings_IndexByte.f (⟨#[97,98,99,100,101,102,103,104,105,106,107,108,109,110,111,112,113,114,115,116,117,118,119,120,121,122]⟩:ByteArray) (bt a0 0)).bind fun t110=>(some (decide (t110≥0)))) else (none)) else (some false)))=some r:=h
 clear h
 replace H:=Option.bind_eq_some_iff.mp H
 obtain ⟨t109,A20,H⟩:=H
 replace H:(if t109=true then (if 0<(a0.size:Int) then ((strings_IndexByte.f (⟨#[97,98,99,100,101,102,103,104,105,106,107,108,109,110,111,112,113,114,115,116,117,118,119,120,121,122]⟩:ByteArray) (bt a0 0)).bind fun t110=>(some (decide (t110≥0)))) else (none)) else (some false))=some r:=H
 have A2:=Aside0.mk A20
 clear A20
 by_cases c3:t109=true
 rotate_left
 ·replace c3:=Bool.eq_false_iff.mpr c3
  subst c3
  have H1:(some false)=some r:=by rw [if_neg (show ¬ (false=true) by decide)] at H;exact H
  clear H
  have H:=H1
  clear H1
  obtain rfl:=Option.some.inj H
  go_enter Tryz.func51,Tryz.ntmps51
  go_wp2_with (first|((with_reducible refine gate_callee (f:=99) rfl ?_);refine goesL_ (some 4) rfl rfl Tryz.func99 qK rfl #[.string a0, .string (⟨#[97,98,99,100,101,102,103,104,105,106,107,108,109,110,111,112,113,114,115,116,117,118,119,120,121,122,48,49,50,51,52,53,54,55,56,57,95]⟩:ByteArray)] rfl qG ?_;(with_reducible refine (word_made.calls a0 (⟨#[97,98,99,100,101,102,103,104,105,106,107,108,109,110,111,112,113,114,115,116,117,118,119,120,121,122,48,49,50,51,52,53,54,55,56,57,95]⟩:ByteArray) false _ A2.out).mono ?_);rintro e w8 ⟨rfl,hb⟩;refine ⟨_,rfl,?_⟩;replace HB:=Aside0.mk (below_step qB hb);clear hb))
  go_ret
  exact ⟨qE,qB⟩
 subst c3
 have H1:(if 0<(a0.size:Int) then ((strings_IndexByte.f (⟨#[97,98,99,100,101,102,103,104,105,106,107,108,109,110,111,112,113,114,115,116,117,118,119,120,121,122]⟩:ByteArray) (bt a0 0)).bind fun t110=>(some (decide (t110≥0)))) else (none))=some r:=by rw [if_pos rfl] at H;exact H
 clear H
 have H:=H1
 clear H1
 by_cases c4:0<(a0.size:Int)
 rotate_left
 ·rw [if_neg c4] at H
  exact absurd H (by simp)
 rw [if_pos c4] at H
 have c4b0:decide (0<(a0.size:Int))=true:=decide_eq_true c4
 have c4b1:decide (0<a0.size)=true:=decide_eq_true (by omega)
 clear c4
 replace H:=Option.bind_eq_some_iff.mp H
 obtain ⟨t110,A60,H⟩:=H
 replace H:(some (decide (t110≥0)))=some r:=H
 have A6:=Aside0.mk A60
 clear A60
 obtain rfl:=Option.some.inj H
 go_enter Tryz.func51,Tryz.ntmps51
 go_wp2_with (first|((with_reducible refine gate_callee (f:=99) rfl ?_);refine goesL_ (some 4) rfl rfl Tryz.func99 qK rfl #[.string a0, .string (⟨#[97,98,99,100,101,102,103,104,105,106,107,108,109,110,111,112,113,114,115,116,117,118,119,120,121,122,48,49,50,51,52,53,54,55,56,57,95]⟩:ByteArray)] rfl qG ?_;(with_reducible refine (word_made.calls a0 (⟨#[97,98,99,100,101,102,103,104,105,106,107,108,109,110,111,112,113,114,115,116,117,118,119,120,121,122,48,49,50,51,52,53,54,55,56,57,95]⟩:ByteArray) true _ A2.out).mono ?_);rintro e w7 ⟨rfl,hb⟩;refine ⟨_,rfl,?_⟩;replace HB:=Aside0.mk (below_step qB hb);clear hb;have p5:0≤(0:Int):=(by omega);have q5:0<a0.size:=(by have:(0:Int)<(a0.size:Int):=of_decide_eq_true qA;omega);have hx5:∀ h:0<a0.size,((a0[0]'h).toNat:Int)=bt a0 0:=bt_at a0 0;clear p5;have qi5:(0<(a0.size:Int))=True:=eq_true (of_decide_eq_true qA);replace q5:=eq_true q5)|(go_at_call 100;(with_reducible refine (strings_IndexByte.calls (⟨#[97,98,99,100,101,102,103,104,105,106,107,108,109,110,111,112,113,114,115,116,117,118,119,120,121,122]⟩:ByteArray) (bt a0 0) t110 _ A6.out).mono ?_);rintro e w' ⟨rfl,⟨nd,rfl⟩⟩))
 go_ret
 exact ⟨qE,qB⟩
def word_Split.l0:Nat→ByteArray→Int→List ByteArray→Option (List ByteArray)
 | 0,_,_,_=>none
 | k+1,x0,x1,x4=>(strings_IndexByte.f x0 x1).bind fun t111=>(if t111<0 then (if x4.length<8796093022208 then (some (x4++[x0])) else (none)) else (if 0≤t111 then (if t111≤(x0.size:Int) then (if x4.length<8796093022208 then (if 0≤(wrap64 (t111+1)) then (if (wrap64 (t111+1))≤(x0.size:Int) then (word_Split.l0 k (x0.extract ((wrap64 (t111+1)):Int).toNat x0.size) x1 (x4++[x0.extract 0 (t111:Int).toNat])) else (none)) else (none)) else (none)) else (none)) else (none)))
def word_Split.f (k:Nat) (a0:ByteArray) (a1:Int):Option (List ByteArray):=word_Split.l0 k a0 a1 ([]:List ByteArray)
theorem word_Split.mono_l:∀ k,(∀ y0 y1 y2,LeO (word_Split.l0 k y0 y1 y2) (word_Split.l0 (k+1) y0 y1 y2))
 | 0=>fun _ _ _ r h=>by simp [word_Split.l0] at h
 | k+1=>by
  have ih0:=word_Split.mono_l k
  ·intro y0 y1 y2
   unfold word_Split.l0
   repeat' first
   | (with_reducible exact ih0 _ _ _)
   | (with_reducible exact LeO.refl _)
   | (with_reducible exact LeO.none _)
   | (with_reducible refine LeO.ite ?_ ?_)
   | (with_reducible refine LeO.bind ?_ (fun _=>?_))
   | exact ih0 _ _ _
   | exact LeO.none _
   | refine LeO.ite ?_ ?_
   | refine LeO.bind ?_ (fun _=>?_)
theorem word_Split.mono:∀ a0 a1 k,LeO (word_Split.f k a0 a1) (word_Split.f (k+1) a0 a1):=by
 intro a0 a1 k
 have ih0:=word_Split.mono_l k
 unfold word_Split.f
 repeat' first
   | (with_reducible exact ih0 _ _ _)
   | (with_reducible exact LeO.refl _)
   | (with_reducible exact LeO.none _)
   | (with_reducible refine LeO.ite ?_ ?_)
   | (with_reducible refine LeO.bind ?_ (fun _=>?_))
   | exact ih0 _ _ _
   | exact LeO.none _
   | refine LeO.ite ?_ ?_
   | refine LeO.bind ?_ (fun _=>?_)
def word_Split.T4:Bool×List (List Nat×List Nat):=(true,[([],[]),([],[]),([],[]),([1,2],[1,2]),([3],[3]),([0,4],[0,4]),([],[]),([],[]),([7],[7]),([6,8],[6,8]),([5,5,0,1,2,3,4,5],[0,5]),([9,10,0,1,2,3,4,5,6,7,8,9,10],[1,6,9])])
def word_Split.B4:List Nat:=[0,0,0,6,14,31,0,0,128,448,63,2047]
theorem word_Split.tab4:rtab .any (opsOf Tryz.f116 4)=word_Split.T4:=qK
theorem word_Split.bits4:waitsOk word_Split.T4.2 word_Split.B4=true:=qK
theorem word_Split.calls (k:Nat) (a0:ByteArray) (a1:Int) (r:List ByteArray) (w:World) (h:word_Split.f k a0 a1=some r) :
  Calls Tryz.prog 116 #[.string a0, .int .u8 a1] w fun e w'=>∃ v0_:Value,e = .returned (v0_)∧Kd.R Kd.string 9 w' w.heap.size (fun _=>True) v0_ r∧Below w.heap.size w w':=by
 have HB:=Aside0.mk (Below.refl w.heap.size w)
 have H:(word_Split.l0 k a0 a1 ([]:List ByteArray))=some r:=h
 clear h
 have H':=Aside0.mk H
 clear H
 go_enter Tryz.func116,Tryz.ntmps116
 go_wp2
 go_loopg [0,4] k (fun kq v0 v4 w'=>∃ (x0_1:ByteArray) (x4_1:List ByteArray),v0 = .string x0_1∧Aside0 (word_Split.l0 kq x0_1 a1 x4_1=some r)∧Aside0 (kq≤k)∧Aside0 (Kd.R Kd.string 9 w' w.heap.size (fun _=>True) v4 x4_1)∧Aside0 (Below w.heap.size w w'))
 case atStart=>exact ⟨(a0),(([]:List ByteArray)),qS,H',⟨Nat.le_refl _⟩,⟨qN⟩,⟨qB⟩⟩
 case round =>
  clear H'
  obtain ⟨x0_1,x4_1,rfl,HA,HK1,HO_4,HB⟩:=hrel
  cases gk with
  | zero=>exact absurd HA.out (by simp [word_Split.l0])
  | succ k1 =>
   have H:=HA.out
   clear HA
   simp only [word_Split.l0] at H
   replace H:=Option.bind_eq_some_iff.mp H
   obtain ⟨t111,A30,H⟩:=H
   replace H:(if t111<0 then (if x4_1.length<8796093022208 then (some (x4_1++[x0_1])) else (none)) else (if 0≤t111 then (if t111≤(x0_1.size:Int) then (if x4_1.length<8796093022208 then (if 0≤(wrap64 (t111+1)) then (if (wrap64 (t111+1))≤(x0_1.size:Int) then (word_Split.l0 k1 (x0_1.extract ((wrap64 (t111+1)):Int).toNat x0_1.size) a1 (x4_1++[x0_1.extract 0 (t111:Int).toNat])) else (none)) else (none)) else (none)) else (none)) else (none)))=some r:=H
   have A3:=Aside0.mk A30
   clear A30
   by_cases c4:t111<0
   ·rw [if_pos c4] at H
    have c4b0:decide (t111<0)=true:=decide_eq_true c4
    clear c4
    by_cases c5:x4_1.length<8796093022208
    rotate_left
    ·rw [if_neg c5] at H
     exact absurd H (by simp)
    rw [if_pos c5] at H
    have LMc5:=Aside0.mk c5
    clear c5
    obtain ⟨y112,hy112⟩:∃ y_:List ByteArray,y_=(x4_1++[x0_1]):=⟨_,rfl⟩
    replace H:(some y112)=some r:=by first|(rw [hy112];with_reducible exact H)|(have H2_:=(Option.bind_some _ _).symm.trans H;rw [hy112];with_reducible exact H2_)|(have H2_:=(Option.bind_some _ _).symm.trans H;with_reducible exact H2_)|with_reducible exact H|(rw [hy112];exact H)|exact H
    have Ny112:=Aside0.mk hy112
    clear hy112
    obtain rfl:=Option.some.inj H
    go_wp2_with (first|((with_reducible refine gate_callee (f:=100) rfl ?_);refine goesL_ (some 8) rfl rfl Tryz.func100 qK rfl #[.string x0_1, .int .u8 a1] rfl qG ?_;(with_reducible refine (strings_IndexByte.calls x0_1 a1 t111 _ A3.out).mono ?_);rintro e w' ⟨rfl,⟨nd,rfl⟩⟩;refine ⟨_,rfl,?_⟩)|((with_reducible refine gate_builtin (b := .append) (xs:=#[.tmp 11, .tmp 13]) rfl ?_);at_builtin;refine Kd.R_append Kd.string (w0:=w) w.heap.size rfl (.tmp 11) (.tmp 13) 23 9 (.string ⟨#[]⟩) 16 rfl Tryz.underlying23 info9 rfl (by decide) (by omega) u4 x4_1 x0_1 [.string x0_1] (fun _=>True) (fun _=>False) rfl rfl ?aP (fun _ hk=>hk.elim) ?aF ?aO ?aB ?aS ?aL ?_;(case aP=>exact rfl);(case aB=>exact qB);(case aF=>exact (fun _ _=>trivial));(case aO=>exact (qR HO_4));(case aS=>exact (below_size qB));(case aL=>have:=LMc5.out;omega);intro v113 w6 ho hb hg hat;rw [← Ny112.out] at ho;replace HB:=Aside0.mk hb;have HO114:=Aside0.mk ho;clear HO_4;clear ho hb hg hat))
    go_ret
    exact ⟨_,qE,qR HO114,qB⟩
   rw [if_neg c4] at H
   have c4b0:decide (t111<0)=false:=decide_eq_false c4
   clear c4
   by_cases c7:0≤t111
   rotate_left
   ·rw [if_neg c7] at H
    exact absurd H (by simp)
   rw [if_pos c7] at H
   have c7b0:=eq_true c7
   have c7b1:decide (0≤t111)=true:=decide_eq_true c7
   clear c7
   by_cases c8:t111≤(x0_1.size:Int)
   rotate_left
   ·rw [if_neg c8] at H
    exact absurd H (by simp)
   rw [if_pos c8] at H
   have c8b0:=eq_true c8
   have c8b1:decide (t111≤(x0_1.size:Int))=true:=decide_eq_true c8
   clear c8
   by_cases c9:x4_1.length<8796093022208
   rotate_left
   ·rw [if_neg c9] at H
    exact absurd H (by simp)
   rw [if_pos c9] at H
   have LMc9:=Aside0.mk c9
   clear c9
   obtain ⟨y115,hy115⟩:∃ y_:List ByteArray,y_=(x4_1++[x0_1.extract 0 (t111:Int).toNat]):=⟨_,rfl⟩
   replace H:(if 0≤(wrap64 (t111+1)) then (if (wrap64 (t111+1))≤(x0_1.size:Int) then (word_Split.l0 k1 (x0_1.extract ((wrap64 (t111+1)):Int).toNat x0_1.size) a1 y115) else (none)) else (none))=some r:=by first|(rw [hy115];with_reducible exact H)|(have H2_:=(Option.bind_some _ _).symm.trans H;rw [hy115];with_reducible exact H2_)|(have H2_:=(Option.bind_some _ _).symm.trans H;with_reducible exact H2_)|with_reducible exact H|(rw [hy115];exact H)|exact H
   have Ny115:=Aside0.mk hy115
   clear hy115
   obtain ⟨ji10,hji10⟩:∃ j_:Int,(wrap64 (t111+1))=j_:=⟨_,rfl⟩
   replace H:(if 0≤(ji10) then (if (ji10)≤(x0_1.size:Int) then (word_Split.l0 k1 (x0_1.extract ((ji10):Int).toNat x0_1.size) a1 y115) else (none)) else (none))=some r:=by first|(rw [hji10] at H;exact H)|(simp only [hji10] at H ⊢;exact H)
   (try rw [hji10] at A3)
   have hji10w:(IntKind.i64.wrap (t111+1))=ji10:=(i64_w _).trans hji10
   by_cases c11:0≤(ji10)
   rotate_left
   ·rw [if_neg c11] at H
    exact absurd H (by simp)
   rw [if_pos c11] at H
   have c11b0:=eq_true c11
   have c11b1:decide (0≤(ji10))=true:=decide_eq_true c11
   clear c11
   by_cases c12:(ji10)≤(x0_1.size:Int)
   rotate_left
   ·rw [if_neg c12] at H
    exact absurd H (by simp)
   rw [if_pos c12] at H
   have c12b0:=eq_true c12
   have c12b1:decide ((ji10)≤(x0_1.size:Int))=true:=decide_eq_true c12
   clear c12
   have H':=Aside0.mk H
   clear H
   try go_wp2_with (first|((with_reducible refine gate_callee (f:=100) rfl ?_);refine goesL_ (some 8) rfl rfl Tryz.func100 qK rfl #[.string x0_1, .int .u8 a1] rfl qG ?_;(with_reducible refine (strings_IndexByte.calls x0_1 a1 t111 _ A3.out).mono ?_);rintro e w' ⟨rfl,⟨nd,rfl⟩⟩;refine ⟨_,rfl,?_⟩))
   (try (rw [drewN_self wr];generalize hq_:World.drewN wr _=wr;have n0_:Aside0 (Kd.R Kd.string 9 wr w.heap.size (fun _=>True) u4 x4_1):=⟨by rw [← hq_];exact (qR HO_4)⟩;have n1_:Aside0 (Below w.heap.size w wr):=⟨by rw [← hq_];exact qB⟩;clear HO_4 HB hq_;have HO_4:=n0_;have HB:=n1_;clear n0_ n1_))
   replace HO_4:=Aside0.mk (Kd.R_drew HO_4.out)
   replace HB:=Aside0.mk (below_drew1 HB.out)
   refine start_ (n:=12) (S:=fun w'=>True) (ds:=[]) #[false,false,false,false,false,false,false,false,false,false,false,false] qK rfl rfl trivial (fun hHeld=>?_);refine with_tabW word_Split.tab4 word_Split.bits4 (fun HT_ HW_=>?_)
   generalize wr.drew=w13 at HO_4 HB hHeld ⊢
   refine pure_ (i:=0) (N:=some 15) (v:=?_) (a':=?_) #[true,false,false,false,false,false,false,false,false,false,false,false] rfl rfl (any_of HT_.out qK) (fun _ _ _ h=>h) (Or.inl ⟨by rfl,?_⟩) ?_ ?_
   rotate_left
   ·intro w';go_simp;with_reducible rfl
   rotate_left
   ·simp only [Act.put,List.setIfInBounds_toArray,List.set_cons_zero,List.set_cons_succ,i64_w,i32_w];rfl
   refine pure_ (i:=1) (N:=some 16) (v:=?_) (a':=?_) #[true,true,false,false,false,false,false,false,false,false,false,false] rfl rfl (any_of HT_.out qK) (fun _ _ _ h=>h) (Or.inl ⟨by rfl,?_⟩) ?_ ?_
   rotate_left
   ·intro w';go_simp;with_reducible rfl
   rotate_left
   ·simp only [Act.put,List.setIfInBounds_toArray,List.set_cons_zero,List.set_cons_succ,i64_w,i32_w];rfl
   refine pure_ (i:=2) (N:=some 17) (v:=?_) (a':=?_) #[true,true,true,false,false,false,false,false,false,false,false,false] rfl rfl (any_of HT_.out qK) (fun _ _ _ h=>h) (Or.inl ⟨by rfl,?_⟩) ?_ ?_
   rotate_left
   ·intro w';go_simp;with_reducible rfl
   rotate_left
   ·simp only [Act.put,List.setIfInBounds_toArray,List.set_cons_zero,List.set_cons_succ,i64_w,i32_w];rfl
   refine pure_ (i:=3) (N:=some 18) (v:=?_) (a':=?_) #[true,true,true,true,false,false,false,false,false,false,false,false] rfl rfl (any_of HT_.out qK) (fun _ _ _ h=>h) (Or.inl ⟨by rfl,?_⟩) ?_ ?_
   rotate_left
   ·intro w';go_simp;with_reducible rfl
   rotate_left
   ·simp only [Act.put,List.setIfInBounds_toArray,List.set_cons_zero,List.set_cons_succ,i64_w,i32_w];rfl
   refine pure_ (i:=6) (N:=some 21) (v:=?_) (a':=?_) #[true,true,true,true,false,false,true,false,false,false,false,false] rfl rfl (any_of HT_.out qK) (fun _ _ _ h=>h) (Or.inl ⟨by rfl,?_⟩) ?_ ?_
   rotate_left
   ·intro w';go_simp;with_reducible rfl
   rotate_left
   ·simp only [Act.put,List.setIfInBounds_toArray,List.set_cons_zero,List.set_cons_succ,i64_w,i32_w];rfl
   refine pure_ (i:=7) (N:=some 22) (v:=?_) (a':=?_) #[true,true,true,true,false,false,true,true,false,false,false,false] rfl rfl (any_of HT_.out qK) (fun _ _ _ h=>h) (Or.inl ⟨by rfl,?_⟩) ?_ ?_
   rotate_left
   ·intro w';go_simp;with_reducible rfl
   rotate_left
   ·simp only [Act.put,List.setIfInBounds_toArray,List.set_cons_zero,List.set_cons_succ,i64_w,i32_w];rfl
   refine pure_ (i:=8) (N:=some 23) (v:=?_) (a':=?_) #[true,true,true,true,false,false,true,true,true,false,false,false] rfl rfl (any_of HT_.out qK) (fun _ _ _ h=>h) (Or.inl ⟨by rfl,?_⟩) ?_ ?_
   rotate_left
   ·intro w';go_simp;with_reducible rfl
   rotate_left
   ·simp only [Act.put,List.setIfInBounds_toArray,List.set_cons_zero,List.set_cons_succ,i64_w,i32_w];rfl
   refine pure_ (i:=9) (N:=some 24) (v:=?_) (a':=?_) #[true,true,true,true,false,false,true,true,true,true,false,false] rfl rfl (any_of HT_.out qK) (fun _ _ _ h=>h) (Or.inl ⟨by rfl,?_⟩) ?_ ?_
   rotate_left
   ·intro w';go_simp;with_reducible rfl
   rotate_left
   ·simp only [Act.put,List.setIfInBounds_toArray,List.set_cons_zero,List.set_cons_succ,i64_w,i32_w];rfl
   refine one_ (i:=4) (N:=some 19) #[true,true,true,true,true,false,true,true,true,true,false,false] rfl rfl (one_of HT_.out qK) (by decide) (fun K hK=>?_)
   refine value_ (w1:=?_) (v:=?_) (by rfl) rfl ?_ ?_
   rotate_left 2
   ·go_simp
    constructor
    ·rfl
    ·rfl
   refine hK.out _ _ trivial (fun hHeld=>?_)
   clear hK K
   refine norm_ (a':=?_) ?_ ?_
   rotate_left
   ·show Act.put _ (some 19) _=_
    simp only [Act.put,List.setIfInBounds_toArray,List.set_cons_zero,List.set_cons_succ,i64_w,i32_w]
    rfl
   refine one_ (i:=5) (N:=some 20) #[true,true,true,true,true,true,true,true,true,true,false,false] rfl rfl (one_of HT_.out qK) (by decide) (fun K hK=>?_)
   refine Kd.R_append_step Kd.string (w0:=w) w.heap.size (by rfl) (.tmp 15) (.tmp 19) 23 9 (.string ⟨#[]⟩) 16 rfl Tryz.underlying23 info9 rfl (by decide) (by omega) u4 x4_1 (x0_1.extract 0 (t111:Int).toNat) [.string (x0_1.extract 0 (t111:Int).toNat)] (fun _=>True) (fun _=>False) rfl rfl ?aP (fun _ hk=>hk.elim) ?aF ?aO ?aB ?aS ?aL ?_
   (case aP=>exact rfl)
   (case aB=>exact qB)
   (case aF=>exact (fun _ _=>trivial))
   (case aO=>exact (qR HO_4))
   (case aS=>exact (below_size qB))
   (case aL=>have:=LMc9.out;omega)
   intro v116 w14 ho hb hg hat
   rw [← Ny115.out] at ho
   replace HB:=Aside0.mk hb
   have HO117:=Aside0.mk ho
   clear HO_4
   clear ho hb hg hat
   refine hK.out _ _ trivial (fun hHeld=>?_)
   clear hK K
   refine norm_ (a':=?_) ?_ ?_
   rotate_left
   ·show Act.put _ (some 20) _=_
    simp only [Act.put,List.setIfInBounds_toArray,List.set_cons_zero,List.set_cons_succ,i64_w,i32_w]
    rfl
   refine pure_ (i:=10) (N:=some 4) (v:=?_) (a':=?_) #[true,true,true,true,true,true,true,true,true,true,true,false] rfl rfl (any_of HT_.out qK) (fun _ _ _ h=>h) (Or.inl ⟨by rfl,?_⟩) ?_ ?_
   rotate_left
   ·intro w';go_simp;with_reducible rfl
   rotate_left
   ·simp only [Act.put,List.setIfInBounds_toArray,List.set_cons_zero,List.set_cons_succ,i64_w,i32_w];rfl
   refine pure_ (i:=11) (N:=some 0) (v:=?_) (a':=?_) #[true,true,true,true,true,true,true,true,true,true,true,true] rfl rfl (any_of HT_.out qK) (fun _ _ _ h=>h) (Or.inl ⟨by rfl,?_⟩) ?_ ?_
   rotate_left
   ·intro w';go_simp;with_reducible rfl
   rotate_left
   ·simp only [Act.put,List.setIfInBounds_toArray,List.set_cons_zero,List.set_cons_succ,i64_w,i32_w];rfl
   refine done_ (done_of HT_.out qK) ?_
   try go_wp2
   go_roundg k1
   case measure=>have:=HK1.out;omega
   case rel=>exact ⟨(x0_1.extract ((ji10):Int).toNat x0_1.size),(y115),(by first|rfl|(simp;done)|(simp only [← hji10]<;>(first|rfl|simp))|(simp [*];done)),H',⟨by have:=HK1.out;omega⟩,⟨qR HO117⟩,⟨qB⟩⟩
def pick_read.f (a0:ByteArray):Option (Int×ByteArray×ByteArray):=(strings_Cut.f a0 (⟨#[33,61]⟩:ByteArray)).bind fun bt119=>(if bt119.2.2=true then (some (2,bt119.1,bt119.2.1)) else ((strings_Cut.f a0 (⟨#[61]⟩:ByteArray)).bind fun bt122=>(if bt122.2.2=true then ((strings_CutSuffix.f bt122.2.1 (⟨#[42]⟩:ByteArray)).bind fun bt125=>(if bt125.2=true then (some (3,bt122.1,bt125.1)) else (some (1,bt122.1,bt122.2.1)))) else (some (4,a0,(⟨#[]⟩:ByteArray))))))
theorem pick_read.calls (a0:ByteArray) (r1:Int) (r2:ByteArray) (r3:ByteArray) (w:World) (hG:GInt w) (h:pick_read.f a0=some (r1,r2,r3)) :
  Calls Tryz.prog 180 #[.string a0] w fun e w'=>e = .returned (.agg #[.int .i64 r1, .string r2, .string r3])∧Below w.heap.size w w':=by
 have HG:=Aside0.mk hG
 clear hG
 have hu127:=Tryz.underlying127
 have HB:=Aside0.mk (Below.refl w.heap.size w)
 have H:((strings_Cut.f a0 (⟨#[33,61]⟩:ByteArray)).bind fun bt119=>(if bt119.2.2=true then (some (2,bt119.1,bt119.2.1)) else ((strings_Cut.f a0 (⟨#[61]⟩:ByteArray)).bind fun bt122=>(if bt122.2.2=true then ((strings_CutSuffix.f bt122.2.1 (⟨#[42]⟩:ByteArray)).bind fun bt125=>(if bt125.2=true then (some (3,bt122.1,bt125.1)) else (some (1,bt122.1,bt122.2.1)))) else (some (4,a0,(⟨#[]⟩:ByteArray)))))))=some (r1,r2,r3):=h
 clear h
 replace H:=Option.bind_eq_some_iff.mp H
 obtain ⟨⟨t119,t120,t121⟩,A20,H⟩:=H
 replace H:(if t121=true then (some (2,t119,t120)) else ((strings_Cut.f a0 (⟨#[61]⟩:ByteArray)).bind fun bt122=>(if bt122.2.2=true then ((strings_CutSuffix.f bt122.2.1 (⟨#[42]⟩:ByteArray)).bind fun bt125=>(if bt125.2=true then (some (3,bt122.1,bt125.1)) else (some (1,bt122.1,bt122.2.1)))) else (some (4,a0,(⟨#[]⟩:ByteArray))))))=some (r1,r2,r3):=H
 have A2:=Aside0.mk A20
 clear A20
 by_cases c3:t121=true
 ·subst c3
  have H1:(some (2,t119,t120))=some (r1,r2,r3):=by rw [if_pos rfl] at H;exact H
  clear H
  have H:=H1
  clear H1
  simp only [Option.some.injEq,Prod.mk.injEq] at H
  obtain ⟨rfl,rfl,rfl⟩:=H
  go_enter Tryz.func180,Tryz.ntmps180
  go_wp2_with (first|((with_reducible refine gate_dst (N:=2) rfl ?_);refine box_event ?hg (N:=2) ?hd (cs:=#[.int .i64 0, .string (⟨#[]⟩:ByteArray), .string (⟨#[]⟩:ByteArray)]) (t:=127) ?hr ?_;(case hd=>rfl);(case hg=>rfl);(case hr=>first|(go_simp;done)|(go_simp;rfl));intro gb118 hg w4 hbox hb;have BK118:=Aside0.mk hbox;have GW118:Aside0 (w.heap.size≤gb118):=⟨qH⟩;have GE118:=GW118;replace HB:=Aside0.mk (below_step qB hb);clear hb hbox hg)|((with_reducible refine gate_callee (f:=146) rfl ?_);refine goesL_ (some 13) rfl rfl Tryz.func146 qK rfl #[.string a0, .string (⟨#[33,61]⟩:ByteArray)] rfl qG ?_;(with_reducible refine (strings_Cut.calls a0 (⟨#[33,61]⟩:ByteArray) t119 t120 true _ qM A2.out).mono ?_);rintro e w' ⟨rfl,⟨nd,rfl⟩⟩;refine ⟨_,rfl,?_⟩;(try (rw [drewN_self w4];generalize hq_:World.drewN w4 _=w4;have n0_:Aside0 (w4.heap[gb118]?=some (.cells #[.int .i64 0, .string (⟨#[]⟩:ByteArray), .string (⟨#[]⟩:ByteArray)] 127 (0,0))):=⟨by rw [← hq_];exact (qW BK118)⟩;have n1_:Aside0 (Below w.heap.size w w4):=⟨by rw [← hq_];exact qC⟩;clear BK118 HB hq_;have BK118:=n0_;have HB:=n1_;clear n0_ n1_));obtain ⟨hcz5_0,hcz5_1,hcz5_2,hfz5_0,hfz5_1,hfz5_2⟩:=cf3 BK118.out))
  refine bodyPost_ret (results_cell_row rfl _ _ gb118 127 #[.int .i64 2, .string t119, .string t120] (0,0) _ rfl (by (with_reducible repeat (first|refine blk_drewN ?_ _|refine blk_drew ?_|refine blk_alloc ?_ _));refine blk_put (cs:=#[.int .i64 2, .string t119, .string (⟨#[]⟩:ByteArray)]) ?_ 2 _ rfl;(with_reducible repeat (first|refine blk_drewN ?_ _|refine blk_drew ?_|refine blk_alloc ?_ _));refine blk_put (cs:=#[.int .i64 2, .string (⟨#[]⟩:ByteArray), .string (⟨#[]⟩:ByteArray)]) ?_ 1 _ rfl;(with_reducible repeat (first|refine blk_drewN ?_ _|refine blk_drew ?_|refine blk_alloc ?_ _));refine blk_put (cs:=#[.int .i64 0, .string (⟨#[]⟩:ByteArray), .string (⟨#[]⟩:ByteArray)]) ?_ 0 _ rfl;(with_reducible repeat (first|refine blk_drewN ?_ _|refine blk_drew ?_|refine blk_alloc ?_ _));exact BK118.out) Tryz.underlying127 rfl qK) rfl ?_
  exact ⟨qE,qC⟩
 replace c3:=Bool.eq_false_iff.mpr c3
 subst c3
 have H1:((strings_Cut.f a0 (⟨#[61]⟩:ByteArray)).bind fun bt122=>(if bt122.2.2=true then ((strings_CutSuffix.f bt122.2.1 (⟨#[42]⟩:ByteArray)).bind fun bt125=>(if bt125.2=true then (some (3,bt122.1,bt125.1)) else (some (1,bt122.1,bt122.2.1)))) else (some (4,a0,(⟨#[]⟩:ByteArray)))))=some (r1,r2,r3):=by rw [if_neg (show ¬ (false=true) by decide)] at H;exact H
 clear H
 have H:=H1
 clear H1
 replace H:=Option.bind_eq_some_iff.mp H
 obtain ⟨⟨t122,t123,t124⟩,A60,H⟩:=H
 replace H:(if t124=true then ((strings_CutSuffix.f t123 (⟨#[42]⟩:ByteArray)).bind fun bt125=>(if bt125.2=true then (some (3,t122,bt125.1)) else (some (1,t122,t123)))) else (some (4,a0,(⟨#[]⟩:ByteArray))))=some (r1,r2,r3):=H
 have A6:=Aside0.mk A60
 clear A60
 by_cases c7:t124=true
 rotate_left
 ·replace c7:=Bool.eq_false_iff.mpr c7
  subst c7
  have H1:(some (4,a0,(⟨#[]⟩:ByteArray)))=some (r1,r2,r3):=by rw [if_neg (show ¬ (false=true) by decide)] at H;exact H
  clear H
  have H:=H1
  clear H1
  simp only [Option.some.injEq,Prod.mk.injEq] at H
  obtain ⟨rfl,rfl,rfl⟩:=H
  go_enter Tryz.func180,Tryz.ntmps180
  go_wp2_with (first|((with_reducible refine gate_dst (N:=2) rfl ?_);refine box_event ?hg (N:=2) ?hd (cs:=#[.int .i64 0, .string (⟨#[]⟩:ByteArray), .string (⟨#[]⟩:ByteArray)]) (t:=127) ?hr ?_;(case hd=>rfl);(case hg=>rfl);(case hr=>first|(go_simp;done)|(go_simp;rfl));intro gb118 hg w14 hbox hb;have BK118:=Aside0.mk hbox;have GW118:Aside0 (w.heap.size≤gb118):=⟨qH⟩;have GE118:=GW118;replace HB:=Aside0.mk (below_step qB hb);clear hb hbox hg)|((with_reducible refine gate_callee (f:=146) rfl ?_);refine goesL_ (some 13) rfl rfl Tryz.func146 qK rfl #[.string a0, .string (⟨#[33,61]⟩:ByteArray)] rfl qG ?_;(with_reducible refine (strings_Cut.calls a0 (⟨#[33,61]⟩:ByteArray) t119 t120 false _ qM A2.out).mono ?_);rintro e w' ⟨rfl,⟨nd,rfl⟩⟩;refine ⟨_,rfl,?_⟩;(try (rw [drewN_self w14];generalize hq_:World.drewN w14 _=w14;have n0_:Aside0 (w14.heap[gb118]?=some (.cells #[.int .i64 0, .string (⟨#[]⟩:ByteArray), .string (⟨#[]⟩:ByteArray)] 127 (0,0))):=⟨by rw [← hq_];exact (qW BK118)⟩;have n1_:Aside0 (Below w.heap.size w w14):=⟨by rw [← hq_];exact qC⟩;clear BK118 HB hq_;have BK118:=n0_;have HB:=n1_;clear n0_ n1_)))|((with_reducible refine gate_callee (f:=146) rfl ?_);refine goesL_ (some 23) rfl rfl Tryz.func146 qK rfl #[.string a0, .string (⟨#[61]⟩:ByteArray)] rfl qG ?_;(with_reducible refine (strings_Cut.calls a0 (⟨#[61]⟩:ByteArray) t122 t123 false _ qM A6.out).mono ?_);rintro e w' ⟨rfl,⟨nd,rfl⟩⟩;refine ⟨_,rfl,?_⟩;(try (rw [drewN_self w14];generalize hq_:World.drewN w14 _=w14;have n0_:Aside0 (w14.heap[gb118]?=some (.cells #[.int .i64 0, .string (⟨#[]⟩:ByteArray), .string (⟨#[]⟩:ByteArray)] 127 (0,0))):=⟨by rw [← hq_];exact (qW BK118)⟩;have n1_:Aside0 (Below w.heap.size w w14):=⟨by rw [← hq_];exact qC⟩;clear BK118 HB hq_;have BK118:=n0_;have HB:=n1_;clear n0_ n1_));obtain ⟨hcz15_0,hcz15_1,hcz15_2,hfz15_0,hfz15_1,hfz15_2⟩:=cf3 BK118.out))
  refine bodyPost_ret (results_cell_row rfl _ _ gb118 127 #[.int .i64 4, .string a0, .string (⟨#[]⟩:ByteArray)] (0,0) _ rfl (by (with_reducible repeat (first|refine blk_drewN ?_ _|refine blk_drew ?_|refine blk_alloc ?_ _));refine blk_put (cs:=#[.int .i64 4, .string a0, .string (⟨#[]⟩:ByteArray)]) ?_ 2 _ rfl;(with_reducible repeat (first|refine blk_drewN ?_ _|refine blk_drew ?_|refine blk_alloc ?_ _));refine blk_put (cs:=#[.int .i64 4, .string (⟨#[]⟩:ByteArray), .string (⟨#[]⟩:ByteArray)]) ?_ 1 _ rfl;(with_reducible repeat (first|refine blk_drewN ?_ _|refine blk_drew ?_|refine blk_alloc ?_ _));refine blk_put (cs:=#[.int .i64 0, .string (⟨#[]⟩:ByteArray), .string (⟨#[]⟩:ByteArray)]) ?_ 0 _ rfl;(with_reducible repeat (first|refine blk_drewN ?_ _|refine blk_drew ?_|refine blk_alloc ?_ _));exact BK118.out) Tryz.underlying127 rfl qK) rfl ?_
  exact ⟨qE,qC⟩
 subst c7
 have H1:((strings_CutSuffix.f t123 (⟨#[42]⟩:ByteArray)).bind fun bt125=>(if bt125.2=true then (some (3,t122,bt125.1)) else (some (1,t122,t123))))=some (r1,r2,r3):=by rw [if_pos rfl] at H;exact H
 clear H
 have H:=H1
 clear H1
 replace H:=Option.bind_eq_some_iff.mp H
 obtain ⟨⟨t125,t126⟩,A80,H⟩:=H
 replace H:(if t126=true then (some (3,t122,t125)) else (some (1,t122,t123)))=some (r1,r2,r3):=H
 have A8:=Aside0.mk A80
 clear A80
 by_cases c9:t126=true
 ·subst c9
  have H1:(some (3,t122,t125))=some (r1,r2,r3):=by rw [if_pos rfl] at H;exact H
  clear H
  have H:=H1
  clear H1
  simp only [Option.some.injEq,Prod.mk.injEq] at H
  obtain ⟨rfl,rfl,rfl⟩:=H
  go_enter Tryz.func180,Tryz.ntmps180
  go_wp2_with (first|((with_reducible refine gate_dst (N:=2) rfl ?_);refine box_event ?hg (N:=2) ?hd (cs:=#[.int .i64 0, .string (⟨#[]⟩:ByteArray), .string (⟨#[]⟩:ByteArray)]) (t:=127) ?hr ?_;(case hd=>rfl);(case hg=>rfl);(case hr=>first|(go_simp;done)|(go_simp;rfl));intro gb118 hg w10 hbox hb;have BK118:=Aside0.mk hbox;have GW118:Aside0 (w.heap.size≤gb118):=⟨qH⟩;have GE118:=GW118;replace HB:=Aside0.mk (below_step qB hb);clear hb hbox hg)|((with_reducible refine gate_callee (f:=146) rfl ?_);refine goesL_ (some 13) rfl rfl Tryz.func146 qK rfl #[.string a0, .string (⟨#[33,61]⟩:ByteArray)] rfl qG ?_;(with_reducible refine (strings_Cut.calls a0 (⟨#[33,61]⟩:ByteArray) t119 t120 false _ qM A2.out).mono ?_);rintro e w' ⟨rfl,⟨nd,rfl⟩⟩;refine ⟨_,rfl,?_⟩;(try (rw [drewN_self w10];generalize hq_:World.drewN w10 _=w10;have n0_:Aside0 (w10.heap[gb118]?=some (.cells #[.int .i64 0, .string (⟨#[]⟩:ByteArray), .string (⟨#[]⟩:ByteArray)] 127 (0,0))):=⟨by rw [← hq_];exact (qW BK118)⟩;have n1_:Aside0 (Below w.heap.size w w10):=⟨by rw [← hq_];exact qC⟩;clear BK118 HB hq_;have BK118:=n0_;have HB:=n1_;clear n0_ n1_)))|((with_reducible refine gate_callee (f:=146) rfl ?_);refine goesL_ (some 23) rfl rfl Tryz.func146 qK rfl #[.string a0, .string (⟨#[61]⟩:ByteArray)] rfl qG ?_;(with_reducible refine (strings_Cut.calls a0 (⟨#[61]⟩:ByteArray) t122 t123 true _ qM A6.out).mono ?_);rintro e w' ⟨rfl,⟨nd,rfl⟩⟩;refine ⟨_,rfl,?_⟩;(try (rw [drewN_self w10];generalize hq_:World.drewN w10 _=w10;have n0_:Aside0 (w10.heap[gb118]?=some (.cells #[.int .i64 0, .string (⟨#[]⟩:ByteArray), .string (⟨#[]⟩:ByteArray)] 127 (0,0))):=⟨by rw [← hq_];exact (qW BK118)⟩;have n1_:Aside0 (Below w.heap.size w w10):=⟨by rw [← hq_];exact qC⟩;clear BK118 HB hq_;have BK118:=n0_;have HB:=n1_;clear n0_ n1_)))|((with_reducible refine gate_callee (f:=147) rfl ?_);refine goesL_ (some 33) rfl rfl Tryz.func147 qK rfl #[.string t123, .string (⟨#[42]⟩:ByteArray)] rfl qG ?_;(with_reducible refine (strings_CutSuffix.calls t123 (⟨#[42]⟩:ByteArray) t125 true _ A8.out).mono ?_);rintro e w' ⟨rfl,⟨nd,rfl⟩⟩;refine ⟨_,rfl,?_⟩;(try (rw [drewN_self w10];generalize hq_:World.drewN w10 _=w10;have n0_:Aside0 (w10.heap[gb118]?=some (.cells #[.int .i64 0, .string (⟨#[]⟩:ByteArray), .string (⟨#[]⟩:ByteArray)] 127 (0,0))):=⟨by rw [← hq_];exact (qW BK118)⟩;have n1_:Aside0 (Below w.heap.size w w10):=⟨by rw [← hq_];exact qC⟩;clear BK118 HB hq_;have BK118:=n0_;have HB:=n1_;clear n0_ n1_));obtain ⟨hcz11_0,hcz11_1,hcz11_2,hfz11_0,hfz11_1,hfz11_2⟩:=cf3 BK118.out))
  refine bodyPost_ret (results_cell_row rfl _ _ gb118 127 #[.int .i64 3, .string t122, .string t125] (0,0) _ rfl (by (with_reducible repeat (first|refine blk_drewN ?_ _|refine blk_drew ?_|refine blk_alloc ?_ _));refine blk_put (cs:=#[.int .i64 3, .string t122, .string (⟨#[]⟩:ByteArray)]) ?_ 2 _ rfl;(with_reducible repeat (first|refine blk_drewN ?_ _|refine blk_drew ?_|refine blk_alloc ?_ _));refine blk_put (cs:=#[.int .i64 3, .string (⟨#[]⟩:ByteArray), .string (⟨#[]⟩:ByteArray)]) ?_ 1 _ rfl;(with_reducible repeat (first|refine blk_drewN ?_ _|refine blk_drew ?_|refine blk_alloc ?_ _));refine blk_put (cs:=#[.int .i64 0, .string (⟨#[]⟩:ByteArray), .string (⟨#[]⟩:ByteArray)]) ?_ 0 _ rfl;(with_reducible repeat (first|refine blk_drewN ?_ _|refine blk_drew ?_|refine blk_alloc ?_ _));exact BK118.out) Tryz.underlying127 rfl qK) rfl ?_
  exact ⟨qE,qC⟩
 replace c9:=Bool.eq_false_iff.mpr c9
 subst c9
 have H1:(some (1,t122,t123))=some (r1,r2,r3):=by rw [if_neg (show ¬ (false=true) by decide)] at H;exact H
 clear H
 have H:=H1
 clear H1
 simp only [Option.some.injEq,Prod.mk.injEq] at H
 obtain ⟨rfl,rfl,rfl⟩:=H
 go_enter Tryz.func180,Tryz.ntmps180
 go_wp2_with (first|((with_reducible refine gate_dst (N:=2) rfl ?_);refine box_event ?hg (N:=2) ?hd (cs:=#[.int .i64 0, .string (⟨#[]⟩:ByteArray), .string (⟨#[]⟩:ByteArray)]) (t:=127) ?hr ?_;(case hd=>rfl);(case hg=>rfl);(case hr=>first|(go_simp;done)|(go_simp;rfl));intro gb118 hg w12 hbox hb;have BK118:=Aside0.mk hbox;have GW118:Aside0 (w.heap.size≤gb118):=⟨qH⟩;have GE118:=GW118;replace HB:=Aside0.mk (below_step qB hb);clear hb hbox hg)|((with_reducible refine gate_callee (f:=146) rfl ?_);refine goesL_ (some 13) rfl rfl Tryz.func146 qK rfl #[.string a0, .string (⟨#[33,61]⟩:ByteArray)] rfl qG ?_;(with_reducible refine (strings_Cut.calls a0 (⟨#[33,61]⟩:ByteArray) t119 t120 false _ qM A2.out).mono ?_);rintro e w' ⟨rfl,⟨nd,rfl⟩⟩;refine ⟨_,rfl,?_⟩;(try (rw [drewN_self w12];generalize hq_:World.drewN w12 _=w12;have n0_:Aside0 (w12.heap[gb118]?=some (.cells #[.int .i64 0, .string (⟨#[]⟩:ByteArray), .string (⟨#[]⟩:ByteArray)] 127 (0,0))):=⟨by rw [← hq_];exact (qW BK118)⟩;have n1_:Aside0 (Below w.heap.size w w12):=⟨by rw [← hq_];exact qC⟩;clear BK118 HB hq_;have BK118:=n0_;have HB:=n1_;clear n0_ n1_)))|((with_reducible refine gate_callee (f:=146) rfl ?_);refine goesL_ (some 23) rfl rfl Tryz.func146 qK rfl #[.string a0, .string (⟨#[61]⟩:ByteArray)] rfl qG ?_;(with_reducible refine (strings_Cut.calls a0 (⟨#[61]⟩:ByteArray) t122 t123 true _ qM A6.out).mono ?_);rintro e w' ⟨rfl,⟨nd,rfl⟩⟩;refine ⟨_,rfl,?_⟩;(try (rw [drewN_self w12];generalize hq_:World.drewN w12 _=w12;have n0_:Aside0 (w12.heap[gb118]?=some (.cells #[.int .i64 0, .string (⟨#[]⟩:ByteArray), .string (⟨#[]⟩:ByteArray)] 127 (0,0))):=⟨by rw [← hq_];exact (qW BK118)⟩;have n1_:Aside0 (Below w.heap.size w w12):=⟨by rw [← hq_];exact qC⟩;clear BK118 HB hq_;have BK118:=n0_;have HB:=n1_;clear n0_ n1_)))|((with_reducible refine gate_callee (f:=147) rfl ?_);refine goesL_ (some 33) rfl rfl Tryz.func147 qK rfl #[.string t123, .string (⟨#[42]⟩:ByteArray)] rfl qG ?_;(with_reducible refine (strings_CutSuffix.calls t123 (⟨#[42]⟩:ByteArray) t125 false _ A8.out).mono ?_);rintro e w' ⟨rfl,⟨nd,rfl⟩⟩;refine ⟨_,rfl,?_⟩;(try (rw [drewN_self w12];generalize hq_:World.drewN w12 _=w12;have n0_:Aside0 (w12.heap[gb118]?=some (.cells #[.int .i64 0, .string (⟨#[]⟩:ByteArray), .string (⟨#[]⟩:ByteArray)] 127 (0,0))):=⟨by rw [← hq_];exact (qW BK118)⟩;have n1_:Aside0 (Below w.heap.size w w12):=⟨by rw [← hq_];exact qC⟩;clear BK118 HB hq_;have BK118:=n0_;have HB:=n1_;clear n0_ n1_));obtain ⟨hcz13_0,hcz13_1,hcz13_2,hfz13_0,hfz13_1,hfz13_2⟩:=cf3 BK118.out))
 refine bodyPost_ret (results_cell_row rfl _ _ gb118 127 #[.int .i64 1, .string t122, .string t123] (0,0) _ rfl (by (with_reducible repeat (first|refine blk_drewN ?_ _|refine blk_drew ?_|refine blk_alloc ?_ _));refine blk_put (cs:=#[.int .i64 1, .string t122, .string (⟨#[]⟩:ByteArray)]) ?_ 2 _ rfl;(with_reducible repeat (first|refine blk_drewN ?_ _|refine blk_drew ?_|refine blk_alloc ?_ _));refine blk_put (cs:=#[.int .i64 1, .string (⟨#[]⟩:ByteArray), .string (⟨#[]⟩:ByteArray)]) ?_ 1 _ rfl;(with_reducible repeat (first|refine blk_drewN ?_ _|refine blk_drew ?_|refine blk_alloc ?_ _));refine blk_put (cs:=#[.int .i64 0, .string (⟨#[]⟩:ByteArray), .string (⟨#[]⟩:ByteArray)]) ?_ 0 _ rfl;(with_reducible repeat (first|refine blk_drewN ?_ _|refine blk_drew ?_|refine blk_alloc ?_ _));exact BK118.out) Tryz.underlying127 rfl qK) rfl ?_
 exact ⟨qE,qC⟩
def word_Value.f (a0:ByteArray):Option (Bool):=(word_made.f a0 (⟨#[97,98,99,100,101,102,103,104,105,106,107,108,109,110,111,112,113,114,115,116,117,118,119,120,121,122,48,49,50,51,52,53,54,55,56,57,95,45,46]⟩:ByteArray)).bind fun t127=>(some t127)
theorem word_Value.calls (a0:ByteArray) (r:Bool) (w:World) (h:word_Value.f a0=some r) :
  Calls Tryz.prog 137 #[.string a0] w fun e w'=>e = .returned (.bool r)∧Below w.heap.size w w':=by
 have HB:=Aside0.mk (Below.refl w.heap.size w)
 have H:((word_made.f a0 (⟨#[97,98,99,100,101,102,103,104,105,106,107,108,109,110,111,112,113,114,115,116,117,118,119,120,121,122,48,49,50,51,52,53,54,55,56,57,95,45,46]⟩:ByteArray)).bind fun t127=>(some t127))=some r:=h
 clear h
 replace H:=Option.bind_eq_some_iff.mp H
 obtain ⟨t127,A20,H⟩:=H
 replace H:(some t127)=some r:=H
 have A2:=Aside0.mk A20
 clear A20
 obtain rfl:=Option.some.inj H
 go_enter Tryz.func137,Tryz.ntmps137
 go_wp2_with (first|((with_reducible refine gate_callee (f:=99) rfl ?_);refine goesL_ (some 4) rfl rfl Tryz.func99 qK rfl #[.string a0, .string (⟨#[97,98,99,100,101,102,103,104,105,106,107,108,109,110,111,112,113,114,115,116,117,118,119,120,121,122,48,49,50,51,52,53,54,55,56,57,95,45,46]⟩:ByteArray)] rfl qG ?_;(with_reducible refine (word_made.calls a0 (⟨#[97,98,99,100,101,102,103,104,105,106,107,108,109,110,111,112,113,114,115,116,117,118,119,120,121,122,48,49,50,51,52,53,54,55,56,57,95,45,46]⟩:ByteArray) t127 _ A2.out).mono ?_);rintro e w3 ⟨rfl,hb⟩;refine ⟨_,rfl,?_⟩;replace HB:=Aside0.mk (below_step qB hb);clear hb))
 go_ret
 exact ⟨qE,qB⟩
end Go.Proofs.YteaadaaghhojfaaGreatDoor.PQu
