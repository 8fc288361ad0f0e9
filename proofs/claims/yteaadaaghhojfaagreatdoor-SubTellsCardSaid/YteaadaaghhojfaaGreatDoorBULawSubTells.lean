/- 'SubTells' of the program: whatever the input, it returns true, and the input reads as before. Conditions: the listed package-level variables hold what the program's text lays (the card ties them). -/
import Derived.Test.YteaadaaghhojfaaGreatDoorRows
import Derived.Test.YteaadaaghhojfaaGreatDoorBU8
import Derived.Test.YteaadaaghhojfaaGreatDoorCards
import Derived.Test.YteaadaaghhojfaaGreatDoorTie
import Derived.WalkKit
import Derived.ProofKit
import Derived.OpenShut
import Derived.ShutString
import Derived.ChangeOld
import Derived.Below
import Derived.SizedLaws
import Derived.Carry
import Derived.Deep.DeepHandedRow
import Derived.Lib.LaidTab
import Derived.SevenTiedAt
namespace Go.Proofs.YteaadaaghhojfaaGreatDoor.subTells
open Go.ChangeShapes Go.WideShapes Go.ChangeAt Go.RowKit Go.Proofs.YteaadaaghhojfaaGreatDoorE
set_option linter.unusedVariables false
set_option maxRecDepth 100000
theorem own:ownKnob Tryz.prog.godebug=none:=by kernel_rfl
theorem laidOut:laidOutB Tryz.prog=true:=by kernel_rfl
theorem walk (H:Type) (enc:TypeId×Value→H) (W:World) (base:Nat) (args:Array Value) (ds gs:List (DataW H)) (before:List MemPlace)
  (hval0:∀ (j:Nat) t v,Tryz.f10.params[j]?=some t→args[j]?=some v→Value.okWide Tryz.prog W .any base t v)
  (hW:DataW.Whole enc Tryz.prog Tryz.f10.params.toList Rows.subTellsSpec.vars false W args.toList ds gs before) (hsz0:(DataW.weightsEach Tryz.prog (Tryz.f10.params.toList++Rows.subTellsSpec.plain.varTypes Tryz.prog) (ds++gs)).all (·≤reachBytes)=true) :
  Calls Tryz.prog 10 args W fun e W'=>∃ v,e = .returned v∧Rows.subTellsSpec.post enc Tryz.prog Tryz.f10 false true false false W args v W':=by
 have hW':=hW
 obtain ⟨rfl,hn,hc⟩:=law_walk (X:=H) laidOut (params:=Tryz.f10.params) (by kernel_rfl) (by kernel_rfl) (tys:=[.int .i64,.slice tLaw19_Push,.int .u8]) (by kernel_rfl) (law_Tells_ok 1000000000000000) tells_true hval0 hW hsz0
 obtain ⟨d0,d1,d2,rfl⟩:∃ d0 d1 d2,ds=[d0,d1,d2]:=by
  match ds,hn with
  | [a,b,c],_=>exact ⟨a,b,c,rfl⟩
 refine hc.mono ?_
 rintro e W' ⟨rfl,bel,ht⟩
 exact ⟨_,rfl,_,_,_,[],_,[],hW',trodAll_mk1 (shut_bool Tryz.underlying4 _),ht,rfl,bel.frame _,fun h=>by cases h⟩
noncomputable def laidWorld (os:Os):World :=
 { World.holding Tryz.prog os ⟨#[],#[],[]⟩ with heap:=(((World.holding Tryz.prog os ⟨#[],#[],[]⟩).heap.modify 2 fun
   | .cells _ t frozen => .cells (Go.Proofs.YteaadaaghhojfaaGreatDoorE.cells_of Rows.laid_unicode_utf8_acceptRanges).toArray t frozen
   | o=>o).modify 1 fun
   | .cells _ t frozen => .cells (Go.Proofs.YteaadaaghhojfaaGreatDoorE.cells_of Rows.laid_unicode_utf8_first).toArray t frozen
   | o=>o) }
theorem laid_met (os:Os):laidMet Tryz.prog Rows.subTellsRow.laid ((laidWorld os).forCall (fun _ _=>0) ⟨#[],#[.int .i64 0, .slice none 0 0, .int .u8 0],[]⟩).memory :=
 laidMet_of_run' 8 (by kernel_rfl) (by kernel_rfl)
theorem reads (os:Os) {H:Type} (enc:TypeId×Value→H):∃ x,DataW.whole enc Tryz.prog ((laidWorld os).forCall (fun _ _=>0) ⟨#[],#[.int .i64 0, .slice none 0 0, .int .u8 0],[]⟩).memory Tryz.f10.params.toList Rows.subTellsSpec.vars false (#[.int .i64 0, .slice none 0 0, .int .u8 0]:Array Value).toList 8=some x :=
 Option.isSome_iff_exists.1 (by kernel_rfl)
theorem lifted (os:Os) (started:os.Started) (H:Type) (enc:TypeId×Value→H) (F:Stop.Interp) :
  ReturnsInHanded {} Tryz.checked os 10 .any ((OpenSpec.ofChange Rows.subTellsSpec).preRow enc Tryz.prog Tryz.f10 Rows.subTellsRow.domain false Rows.subTellsRow.laid) (((OpenSpec.ofChange Rows.subTellsSpec).at F).post enc Tryz.prog Tryz.f10 false true false false):=by
 obtain ⟨x,hx⟩:=reads os enc
 refine returnsInHanded_of_row (C:=Tryz.checked) (s:=OpenSpec.ofChange Rows.subTellsSpec) own started (by kernel_rfl) Tryz.func10
  (witness_row_at (enc:=enc) (C:=Tryz.checked) false (laidWorld os) #[.int .i64 0, .slice none 0 0, .int .u8 0] rfl (by kernel_rfl) (by kernel_rfl) (by kernel_rfl)
   (OpenSpec.preRow_of_cond 8 hx (by kernel_rfl) (fun k hk=>by cases hk) (by kernel_rfl) (laid_met os))) ?_
 intro W base args ds gs before hval hW _ _ hsz _ hsh _
 exact walk H enc W base args ds gs before hval hW hsz
theorem said:Rows.SubTellsSaid :=
 OpenClaim.holds_of_cond 10 Tryz.f10 rfl rfl rfl rfl rfl rfl rfl ⟨rfl,rfl,rfl,rfl,rfl⟩ rfl rfl rfl rfl rfl (by kernel_rfl) Tryz.func10 (by kernel_rfl)
  (of_decide_eq_true (by kernel_rfl)) (by unfold Func.isWrapper;first|(rw [if_pos (by decide+kernel)];kernel_rfl)|(rw [if_neg (by decide+kernel)];exact ⟨rfl,rfl⟩))
  (fun os started H enc _ F=>by rw [OpenClaim.pre_eq_preRow];exact lifted os started H enc F)
theorem plain (f:FuncId) (fn:Func) (hf:Tryz.pinned.checked.prog.funcNamed "ebbtide/ebbtidelaw19.SubTells"=some f) (hfn:Tryz.pinned.checked.prog.funcs[f]?=some fn) :
  false=Tryz.pinned.checked.prog.looks []∧∀ (j:Nat) t,fn.params[j]?=some t→Tryz.pinned.checked.prog.wantsStandIn t=false:=by
 obtain rfl:f=10:=Option.some.inj ((show Tryz.prog.funcNamed "ebbtide/ebbtidelaw19.SubTells"=some 10 by kernel_rfl).symm.trans hf) |>.symm
 obtain rfl:fn=Tryz.f10:=(Option.some.inj (Tryz.func10.symm.trans hfn)).symm
 refine ⟨by kernel_rfl,fun j t ht=>?_⟩
 rw [Tryz.params10] at ht
 have hm:t∈[3,66,5]:=by simpa using Array.mem_of_getElem? ht
 simp only [List.mem_cons,List.mem_nil_iff,or_false] at hm
 rcases hm with rfl|rfl|rfl
 all_goals first
 | exact (show Tryz.prog.wantsStandIn 3=false by kernel_rfl)
 | exact (show Tryz.prog.wantsStandIn 66=false by kernel_rfl)
 | exact (show Tryz.prog.wantsStandIn 5=false by kernel_rfl)
theorem proved:Rows.SubTellsCardSaid :=
 Claim7.holds_tied_plain_at .later [] _ _ _ _ said (fun _ h=>by cases h) (by kernel_rfl) (fun _ h=>by cases h) subTells_row_tie rfl ⟨rfl,rfl⟩ (by kernel_rfl) rfl plain (by kernel_rfl)
#print axioms proved
end Go.Proofs.YteaadaaghhojfaaGreatDoor.subTells
namespace Go.Proofs.YteaadaaghhojfaaGreatDoor
theorem subTells_holds:Rows.SubTellsCardSaid:=subTells.proved
end Go.Proofs.YteaadaaghhojfaaGreatDoor
