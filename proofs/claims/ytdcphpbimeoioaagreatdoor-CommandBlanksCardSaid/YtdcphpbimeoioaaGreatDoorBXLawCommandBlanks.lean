import Derived.Test.YtdcphpbimeoioaaGreatDoorBX4
import Derived.Test.YtdcphpbimeoioaaGreatDoorRows
import Derived.Test.YtdcphpbimeoioaaGreatDoorCards
import Derived.Test.YtdcphpbimeoioaaGreatDoorTie
import Derived.WalkKit
import Derived.ProofKit
import Derived.OpenShut
import Derived.ShutString
import Derived.ChangeOld
import Derived.Below
import Derived.SizedLaws
import Derived.Carry
import Derived.Deep.DeepHandedRow
import Derived.Lib.LaidTab
import Derived.SevenTiedAt
namespace Go.Proofs.YtdcphpbimeoioaaGreatDoor.commandBlanks
open Go.ChangeShapes Go.WideShapes Go.ChangeAt Go.RowKit Go.Proofs.YtdcphpbimeoioaaGreatDoorE
set_option linter.unusedVariables false
set_option maxRecDepth 100000
theorem own:ownKnob Tryz.prog.godebug=none:=by kernel_rfl
theorem laidOut:laidOutB Tryz.prog=true:=by kernel_rfl
theorem walk (H:Type) (enc:TypeId×Value→H) (W:World) (base:Nat) (args:Array Value) (ds gs:List (DataW H)) (before:List MemPlace)
  (hval0:∀ (j:Nat) t v,Tryz.f10.params[j]?=some t→args[j]?=some v→Value.okWide Tryz.prog W .any base t v)
  (hW:DataW.Whole enc Tryz.prog Tryz.f10.params.toList Rows.commandBlanksSpec.vars false W args.toList ds gs before) (hsz0:(DataW.weightsEach Tryz.prog (Tryz.f10.params.toList++Rows.commandBlanksSpec.plain.varTypes Tryz.prog) (ds++gs)).all (·≤reachBytes)=true) (hG:gHolds W) :
  Calls Tryz.prog 10 args W fun e W'=>∃ v,e = .returned v∧Rows.commandBlanksSpec.post enc Tryz.prog Tryz.f10 false true false false W args v W':=by
 have hW':=hW
 obtain ⟨rfl,hn,hc⟩:=law_walk (X:=H) laidOut (params:=Tryz.f10.params) (by kernel_rfl) (by kernel_rfl) (tys:=[.str]) (by kernel_rfl) (law_CommandBlanks_ok 1000000000000000) commandBlanks_true hG hval0 hW hsz0
 obtain ⟨d0,rfl⟩:∃ d0,ds=[d0]:=by
  match ds,hn with
  | [a],_=>exact ⟨a,rfl⟩
 refine hc.mono ?_
 rintro e W' ⟨rfl,bel,ht⟩
 exact ⟨_,rfl,_,_,_,[],_,[],hW',trodAll_mk1 (shut_bool Tryz.underlying4 _),ht,rfl,bel.frame _,fun h=>by cases h⟩
theorem laid_met (os:Os):laidMet Tryz.prog Rows.commandBlanksRow.laid ((laidWorld os).forCall (fun _ _=>0) ⟨#[],#[.string ByteArray.empty],[]⟩).memory :=
 laidMet_of_run' 8 (by kernel_rfl) (by kernel_rfl)
theorem reads (os:Os) {H:Type} (enc:TypeId×Value→H):∃ x,DataW.whole enc Tryz.prog ((laidWorld os).forCall (fun _ _=>0) ⟨#[],#[.string ByteArray.empty],[]⟩).memory Tryz.f10.params.toList Rows.commandBlanksSpec.vars false (#[.string ByteArray.empty]:Array Value).toList 8=some x :=
 Option.isSome_iff_exists.1 (by kernel_rfl)
theorem lifted (os:Os) (started:os.Started) (H:Type) (enc:TypeId×Value→H) (F:Stop.Interp) :
  ReturnsInHanded {} Tryz.checked os 10 .any ((OpenSpec.ofChange Rows.commandBlanksSpec).preRow enc Tryz.prog Tryz.f10 Rows.commandBlanksRow.domain false Rows.commandBlanksRow.laid) (((OpenSpec.ofChange Rows.commandBlanksSpec).at F).post enc Tryz.prog Tryz.f10 false true false false):=by
 obtain ⟨x,hx⟩:=reads os enc
 refine returnsInHanded_of_row (C:=Tryz.checked) (s:=OpenSpec.ofChange Rows.commandBlanksSpec) own started (by kernel_rfl) Tryz.func10
  (witness_row_at (enc:=enc) (C:=Tryz.checked) false (laidWorld os) #[.string ByteArray.empty] rfl (by kernel_rfl) (by kernel_rfl) (by kernel_rfl)
   (OpenSpec.preRow_of_cond 8 hx (by kernel_rfl) (fun k hk=>by cases hk) (by kernel_rfl) (laid_met os))) ?_
 intro W base args ds gs before hval hW _ _ hsz hL hsh _
 exact walk H enc W base args ds gs before hval hW hsz (gHolds_of hL hsh)
theorem k1:laidOutB Tryz.pinned.checked.prog=true:=laidOut
theorem k2:mapsRowed Tryz.pinned.checked.prog=true:=by kernel_rfl
theorem k3:(Rows.commandBlanksRow.inPlace==Tryz.pinned.checked.prog.inPlace 10)=true:=by kernel_rfl
theorem k4:(Rows.commandBlanksRow.unfollowed==Tryz.pinned.checked.prog.unfollowed 10)=true:=by kernel_rfl
theorem k5:(Rows.commandBlanksRow.recurses==Tryz.pinned.checked.prog.recurses 10)=true:=by kernel_rfl
theorem k6:(Rows.commandBlanksRow.named==Tryz.pinned.checked.prog.varsNamed 10)=true:=by kernel_rfl
theorem k7:Tryz.pinned.checked.prog.stopsHeard=true:=by kernel_rfl
theorem closed:joinedFacts Tryz.pinned.checked.prog 10 Tryz.f10 (OpenSpec.ofChange Rows.commandBlanksSpec).bare Rows.commandBlanksRow=true:=by
 simp only [joinedFacts,Bool.and_eq_true]
 repeat' apply And.intro
 all_goals first
 | with_reducible exact k1
 | with_reducible exact k2
 | with_reducible exact k3
 | with_reducible exact k4
 | with_reducible exact k5
 | with_reducible exact k6
 | with_reducible exact k7
 | kernel_rfl
theorem said:Rows.CommandBlanksSaid :=
 OpenClaim.holds_of_cond 10 Tryz.f10 rfl rfl rfl rfl rfl rfl rfl ⟨rfl,rfl,rfl,rfl,rfl⟩ rfl rfl rfl rfl rfl (by kernel_rfl) Tryz.func10 closed
  (of_decide_eq_true (by kernel_rfl)) (by unfold Func.isWrapper;first|(rw [if_pos (by decide+kernel)];kernel_rfl)|(rw [if_neg (by decide+kernel)];exact ⟨rfl,rfl⟩))
  (fun os started H enc _ F=>by rw [OpenClaim.pre_eq_preRow];exact lifted os started H enc F)
theorem plain (f:FuncId) (fn:Func) (hf:Tryz.pinned.checked.prog.funcNamed "ebbtide/ebbtidelaw22.CommandBlanks"=some f) (hfn:Tryz.pinned.checked.prog.funcs[f]?=some fn) :
  true=Tryz.pinned.checked.prog.looks []∧∀ (j:Nat) t,fn.params[j]?=some t→Tryz.pinned.checked.prog.wantsStandIn t=false:=by
 obtain rfl:f=10:=Option.some.inj ((show Tryz.prog.funcNamed "ebbtide/ebbtidelaw22.CommandBlanks"=some 10 by kernel_rfl).symm.trans hf) |>.symm
 obtain rfl:fn=Tryz.f10:=(Option.some.inj (Tryz.func10.symm.trans hfn)).symm
 refine ⟨by kernel_rfl,fun j t ht=>?_⟩
 rw [Tryz.params10] at ht
 have hm:t∈[9]:=by simpa using Array.mem_of_getElem? ht
 simp only [List.mem_cons,List.mem_nil_iff,or_false] at hm
 subst hm
 all_goals first
 | exact (show Tryz.prog.wantsStandIn 9=false by kernel_rfl)
theorem w1:Rows.commandBlanksRow.wfByText (OpenSpec.ofChange Rows.commandBlanksSpec)=true:=by kernel_rfl
theorem w2:Tryz.pinned.checked.prog.mainIs=some (true,"0d20d307793b7e91d58ed3327789f58a2aed54e72930e40b02d1b65ca5753312".toList):=by kernel_rfl
theorem w3:false=Rows.commandBlanksRow.goesBy Tryz.pinned.checked.prog:=by kernel_rfl
theorem proved:Rows.CommandBlanksCardSaid :=
 Claim7.holds_tied_plain_at .later [] _ _ (true,"0d20d307793b7e91d58ed3327789f58a2aed54e72930e40b02d1b65ca5753312") true said (fun _ h=>by cases h) w1 (fun _ h=>by cases h) commandBlanks_row_tie rfl ⟨rfl,rfl⟩ w2 rfl plain w3
#print axioms proved
end Go.Proofs.YtdcphpbimeoioaaGreatDoor.commandBlanks
namespace Go.Proofs.YtdcphpbimeoioaaGreatDoor
theorem commandBlanks_holds:Rows.CommandBlanksCardSaid:=commandBlanks.proved
end Go.Proofs.YtdcphpbimeoioaaGreatDoor
