import Derived.Test.YtdcphpbimeoioaaGreatDoorBX4
import Derived.Test.YtdcphpbimeoioaaGreatDoorRows
import Derived.Test.YtdcphpbimeoioaaGreatDoorCards
import Derived.Test.YtdcphpbimeoioaaGreatDoorTie
import Derived.WalkKit
import Derived.ProofKit
import Derived.OpenShut
import Derived.ShutString
import Derived.ChangeOld
import Derived.Below
import Derived.SizedLaws
import Derived.Carry
import Derived.Deep.DeepHandedRow
import Derived.Lib.LaidTab
import Derived.SevenTiedAt
namespace Go.Proofs.YtdcphpbimeoioaaGreatDoor.commandBack
open Go.ChangeShapes Go.WideShapes Go.ChangeAt Go.RowKit Go.Proofs.YtdcphpbimeoioaaGreatDoorE
set_option linter.unusedVariables false
set_option maxRecDepth 100000
theorem own:ownKnob Tryz.prog.godebug=none:=by kernel_rfl
theorem laidOut:laidOutB Tryz.prog=true:=by kernel_rfl
theorem walk (H:Type) (enc:TypeId×Value→H) (W:World) (base:Nat) (args:Array Value) (ds gs:List (DataW H)) (before:List MemPlace)
  (hval0:∀ (j:Nat) t v,Tryz.f9.params[j]?=some t→args[j]?=some v→Value.okWide Tryz.prog W .any base t v)
  (hW:DataW.Whole enc Tryz.prog Tryz.f9.params.toList Rows.commandBackSpec.vars false W args.toList ds gs before) (hsz0:(DataW.weightsEach Tryz.prog (Tryz.f9.params.toList++Rows.commandBackSpec.plain.varTypes Tryz.prog) (ds++gs)).all (·≤reachBytes)=true) (hG:gHolds W) :
  Calls Tryz.prog 9 args W fun e W'=>∃ v,e = .returned v∧Rows.commandBackSpec.post enc Tryz.prog Tryz.f9 false true false false W args v W':=by
 have hW':=hW
 obtain ⟨rfl,hn,hc⟩:=law_walk (X:=H) laidOut (params:=Tryz.f9.params) (by kernel_rfl) (by kernel_rfl) (tys:=[tCommand,.str]) (by kernel_rfl) (law_CommandBack_ok 1000000000000000) commandBack_true hG hval0 hW hsz0
 obtain ⟨d0,d1,rfl⟩:∃ d0 d1,ds=[d0,d1]:=by
  match ds,hn with
  | [a,b],_=>exact ⟨a,b,rfl⟩
 refine hc.mono ?_
 rintro e W' ⟨rfl,bel,ht⟩
 exact ⟨_,rfl,_,_,_,[],_,[],hW',trodAll_mk1 (shut_bool Tryz.underlying4 _),ht,rfl,bel.frame _,fun h=>by cases h⟩
theorem laid_met (os:Os):laidMet Tryz.prog Rows.commandBackRow.laid ((laidWorld os).forCall (fun _ _=>0) ⟨#[],#[.agg #[.int .i64 0, .string ByteArray.empty, .slice none 0 0, .int .i64 0, .int .i64 0, .int .i64 0, .string ByteArray.empty, .slice none 0 0, .slice none 0 0, .int .i64 0], .string ByteArray.empty],[]⟩).memory :=
 laidMet_of_run' 8 (by kernel_rfl) (by kernel_rfl)
theorem reads (os:Os) {H:Type} (enc:TypeId×Value→H):∃ x,DataW.whole enc Tryz.prog ((laidWorld os).forCall (fun _ _=>0) ⟨#[],#[.agg #[.int .i64 0, .string ByteArray.empty, .slice none 0 0, .int .i64 0, .int .i64 0, .int .i64 0, .string ByteArray.empty, .slice none 0 0, .slice none 0 0, .int .i64 0], .string ByteArray.empty],[]⟩).memory Tryz.f9.params.toList Rows.commandBackSpec.vars false (#[.agg #[.int .i64 0, .string ByteArray.empty, .slice none 0 0, .int .i64 0, .int .i64 0, .int .i64 0, .string ByteArray.empty, .slice none 0 0, .slice none 0 0, .int .i64 0], .string ByteArray.empty]:Array Value).toList 8=some x :=
 Option.isSome_iff_exists.1 (by kernel_rfl)
theorem lifted (os:Os) (started:os.Started) (H:Type) (enc:TypeId×Value→H) (F:Stop.Interp) :
  ReturnsInHanded {} Tryz.checked os 9 .any ((OpenSpec.ofChange Rows.commandBackSpec).preRow enc Tryz.prog Tryz.f9 Rows.commandBackRow.domain false Rows.commandBackRow.laid) (((OpenSpec.ofChange Rows.commandBackSpec).at F).post enc Tryz.prog Tryz.f9 false true false false):=by
 obtain ⟨x,hx⟩:=reads os enc
 refine returnsInHanded_of_row (C:=Tryz.checked) (s:=OpenSpec.ofChange Rows.commandBackSpec) own started (by kernel_rfl) Tryz.func9
  (witness_row_at (enc:=enc) (C:=Tryz.checked) false (laidWorld os) #[.agg #[.int .i64 0, .string ByteArray.empty, .slice none 0 0, .int .i64 0, .int .i64 0, .int .i64 0, .string ByteArray.empty, .slice none 0 0, .slice none 0 0, .int .i64 0], .string ByteArray.empty] rfl (by kernel_rfl) (by kernel_rfl) (by kernel_rfl)
   (OpenSpec.preRow_of_cond 8 hx (by kernel_rfl) (fun k hk=>by cases hk) (by kernel_rfl) (laid_met os))) ?_
 intro W base args ds gs before hval hW _ _ hsz hL hsh _
 exact walk H enc W base args ds gs before hval hW hsz (gHolds_of hL hsh)
theorem k1:laidOutB Tryz.pinned.checked.prog=true:=laidOut
theorem k2:mapsRowed Tryz.pinned.checked.prog=true:=by kernel_rfl
theorem k3:(Rows.commandBackRow.inPlace==Tryz.pinned.checked.prog.inPlace 9)=true:=by kernel_rfl
theorem k4:(Rows.commandBackRow.unfollowed==Tryz.pinned.checked.prog.unfollowed 9)=true:=by kernel_rfl
theorem k5:(Rows.commandBackRow.recurses==Tryz.pinned.checked.prog.recurses 9)=true:=by kernel_rfl
theorem k6:(Rows.commandBackRow.named==Tryz.pinned.checked.prog.varsNamed 9)=true:=by kernel_rfl
theorem k7:Tryz.pinned.checked.prog.stopsHeard=true:=by kernel_rfl
theorem closed:joinedFacts Tryz.pinned.checked.prog 9 Tryz.f9 (OpenSpec.ofChange Rows.commandBackSpec).bare Rows.commandBackRow=true:=by
 simp only [joinedFacts,Bool.and_eq_true]
 repeat' apply And.intro
 all_goals first
 | with_reducible exact k1
 | with_reducible exact k2
 | with_reducible exact k3
 | with_reducible exact k4
 | with_reducible exact k5
 | with_reducible exact k6
 | with_reducible exact k7
 | kernel_rfl
theorem said:Rows.CommandBackSaid :=
 OpenClaim.holds_of_cond 9 Tryz.f9 rfl rfl rfl rfl rfl rfl rfl ⟨rfl,rfl,rfl,rfl,rfl⟩ rfl rfl rfl rfl rfl (by kernel_rfl) Tryz.func9 closed
  (of_decide_eq_true (by kernel_rfl)) (by unfold Func.isWrapper;first|(rw [if_pos (by decide+kernel)];kernel_rfl)|(rw [if_neg (by decide+kernel)];exact ⟨rfl,rfl⟩))
  (fun os started H enc _ F=>by rw [OpenClaim.pre_eq_preRow];exact lifted os started H enc F)
theorem plain (f:FuncId) (fn:Func) (hf:Tryz.pinned.checked.prog.funcNamed "ebbtide/ebbtidelaw22.CommandBack"=some f) (hfn:Tryz.pinned.checked.prog.funcs[f]?=some fn) :
  true=Tryz.pinned.checked.prog.looks []∧∀ (j:Nat) t,fn.params[j]?=some t→Tryz.pinned.checked.prog.wantsStandIn t=false:=by
 obtain rfl:f=9:=Option.some.inj ((show Tryz.prog.funcNamed "ebbtide/ebbtidelaw22.CommandBack"=some 9 by kernel_rfl).symm.trans hf) |>.symm
 obtain rfl:fn=Tryz.f9:=(Option.some.inj (Tryz.func9.symm.trans hfn)).symm
 refine ⟨by kernel_rfl,fun j t ht=>?_⟩
 rw [Tryz.params9] at ht
 have hm:t∈[73,9]:=by simpa using Array.mem_of_getElem? ht
 simp only [List.mem_cons,List.mem_nil_iff,or_false] at hm
 rcases hm with rfl|rfl
 all_goals first
 | exact (show Tryz.prog.wantsStandIn 73=false by kernel_rfl)
 | exact (show Tryz.prog.wantsStandIn 9=false by kernel_rfl)
theorem w1:Rows.commandBackRow.wfByText (OpenSpec.ofChange Rows.commandBackSpec)=true:=by kernel_rfl
theorem w2:Tryz.pinned.checked.prog.mainIs=some (true,"0d20d307793b7e91d58ed3327789f58a2aed54e72930e40b02d1b65ca5753312".toList):=by kernel_rfl
theorem w3:false=Rows.commandBackRow.goesBy Tryz.pinned.checked.prog:=by kernel_rfl
theorem proved:Rows.CommandBackCardSaid :=
 Claim7.holds_tied_plain_at .later [] _ _ (true,"0d20d307793b7e91d58ed3327789f58a2aed54e72930e40b02d1b65ca5753312") true said (fun _ h=>by cases h) w1 (fun _ h=>by cases h) commandBack_row_tie rfl ⟨rfl,rfl⟩ w2 rfl plain w3
#print axioms proved
end Go.Proofs.YtdcphpbimeoioaaGreatDoor.commandBack
namespace Go.Proofs.YtdcphpbimeoioaaGreatDoor
theorem commandBack_holds:Rows.CommandBackCardSaid:=commandBack.proved
end Go.Proofs.YtdcphpbimeoioaaGreatDoor
