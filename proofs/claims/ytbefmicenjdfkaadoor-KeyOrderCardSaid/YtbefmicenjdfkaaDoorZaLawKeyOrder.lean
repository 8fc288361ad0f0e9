import Derived.Test.YtbefmicenjdfkaaDoorRows
import Derived.Test.YtbefmicenjdfkaaDoorCards
import Derived.Test.YtbefmicenjdfkaaDoorTie
import Derived.Test.YtbefmicenjdfkaaDoorZaPTkx19
import Derived.Test.YtbefmicenjdfkaaDoorZaPTkxk
import Derived.Test.YtbefmicenjdfkaaDoorZaXOpen
import Derived.Test.YtbefmicenjdfkaaDoorZaPureKeyOrder
import Derived.WalkKit
import Derived.ProofKit
import Derived.OpenShut
import Derived.ShutString
import Derived.ChangeOld
import Derived.Below
import Derived.SizedLaws
import Derived.Carry
import Derived.Deep.DeepHandedRow
import Derived.Lib.LaidTab
import Derived.SevenTiedAt
namespace Go.Proofs.YtbefmicenjdfkaaDoor.keyOrder
open Go.ChangeShapes Go.WideShapes Go.ChangeAt Go.RowKit Go.Proofs.YtbefmicenjdfkaaDoor.PTk
open Go.ChangeMaps (open_string shut_string)
open Go.Proofs.YtbefmicenjdfkaaDoorW.PrintWords
set_option linter.unusedVariables false
set_option maxRecDepth 100000
theorem own:ownKnob Tryd.prog.godebug=none:=by kernel_rfl
theorem laidOut:laidOutB Tryd.prog=true:=by kernel_rfl
theorem walk (H:Type) (enc:TypeId×Value→H) (W:World) (base:Nat) (args:Array Value) (ds gs:List (DataW H)) (before:List MemPlace)
  (hval0:∀ (j:Nat) t v,Tryd.f11.params[j]?=some t→args[j]?=some v→Value.okWide Tryd.prog W .any base t v)
  (hW:DataW.Whole enc Tryd.prog Tryd.f11.params.toList Rows.keyOrderSpec.vars false W args.toList ds gs before) (hsz0:(DataW.weightsEach Tryd.prog (Tryd.f11.params.toList++Rows.keyOrderSpec.plain.varTypes Tryd.prog) (ds++gs)).all (·≤reachBytes)=true) :
  Calls Tryd.prog 11 args W fun e W'=>∃ v,e = .returned v∧Rows.keyOrderSpec.post enc Tryd.prog Tryd.f11 false true false false W args v W':=by
 have hsz:=hsz0
 have hval:=hval0
 have hW':=hW
 obtain ⟨p,q,hA0,hV,rfl,hfz,hnd⟩:=hW
 have hA:DataW.TrodAll enc Tryd.prog W 0 (fun _=>true) true Tryd.f11.params.toList args.toList ds p:=hA0
 rw [Tryd.params11] at hA hval hsz
 obtain ⟨v0,vs0,d0,ds0,p0,q0,hargs,rfl,rfl,h0,r0⟩:=trodAll_cons hA
 obtain ⟨v1,vs1,d1,ds1,p1,q1,rfl,rfl,rfl,h1,r1⟩:=trodAll_cons r0
 obtain ⟨v2,vs2,d2,ds2,p2,q2,rfl,rfl,rfl,h2,r2⟩:=trodAll_cons r1
 obtain ⟨rfl,rfl,rfl⟩:=trodAll_nil r2
 obtain rfl:args=#[v0,v1,v2]:=by cases args;simp_all
 obtain ⟨rfl,rfl⟩:=trodVars_none hV
 have k0:=h0
 have lt0:∀ x∈p0,x.block<W.heap.size:=by obtain ⟨m,hm⟩:=k0;exact DataW.trod_lt m _ _ _ hm
 obtain ⟨x0,rfl,rfl,rfl,y0⟩:=open_string Tryd.underlying9 (hval 0 9 v0 rfl rfl) h0
 have ok0:x0.size≤140737488351232:=by
  have z:=sized_string hsz (j:=0) (t:=9) rfl rfl
  rw [Array.length_toList] at z
  exact z
 have k1:=h1
 have lt1:∀ x∈p1,x.block<W.heap.size:=by obtain ⟨m,hm⟩:=k1;exact DataW.trod_lt m _ _ _ hm
 obtain ⟨A1,c1,x1,rfl,hc1,hr1,ok1⟩:=Go.Proofs.YtbefmicenjdfkaaDoorW.XW.open_slice (j:=1) Tryd.underlying22 (Go.Proofs.YtbefmicenjdfkaaDoorW.XW.opens_slice Tryd.underlying22 (show Go.Proofs.YtbefmicenjdfkaaDoorW.XW.Opens Tryd.prog 52 k52 (fun z_=>(z_.f0.size≤140737488351232∧z_.f1.size≤140737488351232)) from Go.Proofs.YtbefmicenjdfkaaDoorW.XW.opens_iso (fun p_=>⟨p_.1,p_.2⟩) (fun _=>rfl) (Go.Proofs.YtbefmicenjdfkaaDoorW.XW.opens_struct Tryd.underlying52 (Go.Proofs.YtbefmicenjdfkaaDoorW.XW.opensFs_cons rfl (Go.Proofs.YtbefmicenjdfkaaDoorW.XW.opens_string Tryd.underlying9) (by kernel_rfl) rfl (Go.Proofs.YtbefmicenjdfkaaDoorW.XW.opensFs_one rfl (Go.Proofs.YtbefmicenjdfkaaDoorW.XW.opens_string Tryd.underlying9) (by kernel_rfl))) (by kernel_rfl))) (by kernel_rfl) (by kernel_rfl)) (hval 1 22 v1 rfl rfl) h1 hsz rfl rfl
 have k2:=h2
 have lt2:∀ x∈p2,x.block<W.heap.size:=by obtain ⟨m,hm⟩:=k2;exact DataW.trod_lt m _ _ _ hm
 obtain ⟨x2,rfl,rfl,rfl,ok2⟩:=open_int Tryd.underlying5 (hval 2 5 v2 rfl rfl) h2
 obtain ⟨k,h⟩:=Pure.KeyOrder x0 x1 x2 ok0 ok1 ok2
 refine (ebbtidelaw04_KeyOrder.calls k x0 A1 c1 x1 x2 true W hr1 hc1 h).mono ?_
 rintro e W' ⟨rfl,hd⟩
 have bel:Below W.heap.size W W':=hd
 exact ⟨_,rfl,_,_,_,[],_,[],hW',trodAll_mk1 (shut_bool Tryd.underlying4 _),(trodAll_cons_mk (Below.trod laidOut (by kernel_rfl) (of_decide_eq_true (by kernel_rfl)) k0 bel lt0) (trodAll_cons_mk (Below.trod laidOut (by kernel_rfl) (of_decide_eq_true (by kernel_rfl)) k1 bel lt1) (trodAll_cons_mk (Below.trod laidOut (by kernel_rfl) (of_decide_eq_true (by kernel_rfl)) k2 bel lt2) trodAll_mk0))),rfl,bel.frame _,fun h=>by cases h⟩
noncomputable def laidWorld (os:Os):World :=
 { World.holding Tryd.prog os ⟨#[],#[],[]⟩ with heap:=(((World.holding Tryd.prog os ⟨#[],#[],[]⟩).heap.modify 2 fun
   | .cells _ t frozen => .cells (Go.Proofs.YtbefmicenjdfkaaDoorW.XW.cells_of Rows.laid_unicode_utf8_acceptRanges).toArray t frozen
   | o=>o).modify 1 fun
   | .cells _ t frozen => .cells (Go.Proofs.YtbefmicenjdfkaaDoorW.XW.cells_of Rows.laid_unicode_utf8_first).toArray t frozen
   | o=>o) }
theorem laid_met (os:Os):laidMet Tryd.prog Rows.keyOrderRow.laid ((laidWorld os).forCall (fun _ _=>0) ⟨#[],#[.string ByteArray.empty, .slice none 0 0, .int .u8 0],[]⟩).memory :=
 laidMet_of_run' 8 (by kernel_rfl) (by kernel_rfl)
theorem reads (os:Os) {H:Type} (enc:TypeId×Value→H):∃ x,DataW.whole enc Tryd.prog ((laidWorld os).forCall (fun _ _=>0) ⟨#[],#[.string ByteArray.empty, .slice none 0 0, .int .u8 0],[]⟩).memory Tryd.f11.params.toList Rows.keyOrderSpec.vars false (#[.string ByteArray.empty, .slice none 0 0, .int .u8 0]:Array Value).toList 8=some x :=
 Option.isSome_iff_exists.1 (by kernel_rfl)
theorem lifted (os:Os) (started:os.Started) (H:Type) (enc:TypeId×Value→H) (F:Stop.Interp) :
  ReturnsInHanded {} Tryd.checked os 11 .any ((OpenSpec.ofChange Rows.keyOrderSpec).preRow enc Tryd.prog Tryd.f11 Rows.keyOrderRow.domain false Rows.keyOrderRow.laid) (((OpenSpec.ofChange Rows.keyOrderSpec).at F).post enc Tryd.prog Tryd.f11 false true false false):=by
 obtain ⟨x,hx⟩:=reads os enc
 refine returnsInHanded_of_row (C:=Tryd.checked) (s:=OpenSpec.ofChange Rows.keyOrderSpec) own started (by kernel_rfl) Tryd.func11
  (witness_row_at (enc:=enc) (C:=Tryd.checked) false (laidWorld os) #[.string ByteArray.empty, .slice none 0 0, .int .u8 0] rfl (by kernel_rfl) (by kernel_rfl) (by kernel_rfl)
   (OpenSpec.preRow_of_cond 8 hx (by kernel_rfl) (fun k hk=>by cases hk) (by kernel_rfl) (laid_met os))) ?_
 intro W base args ds gs before hval hW _ _ hsz _ _ _
 exact walk H enc W base args ds gs before hval hW hsz
theorem said:Rows.KeyOrderSaid :=
 OpenClaim.holds_of_cond 11 Tryd.f11 rfl rfl rfl rfl rfl rfl rfl ⟨rfl,rfl,rfl,rfl,rfl⟩ rfl rfl rfl rfl rfl (by kernel_rfl) Tryd.func11 (by kernel_rfl)
  (of_decide_eq_true (by kernel_rfl)) (by unfold Func.isWrapper;first|(rw [if_pos (by decide+kernel)];kernel_rfl)|(rw [if_neg (by decide+kernel)];exact ⟨rfl,rfl⟩))
  (fun os started H enc _ F=>by rw [OpenClaim.pre_eq_preRow];exact lifted os started H enc F)
theorem plain (f:FuncId) (fn:Func) (hf:Tryd.pinned.checked.prog.funcNamed "ebbtide/ebbtidelaw04.KeyOrder"=some f) (hfn:Tryd.pinned.checked.prog.funcs[f]?=some fn) :
  false=Tryd.pinned.checked.prog.looks []∧∀ (j:Nat) t,fn.params[j]?=some t→Tryd.pinned.checked.prog.wantsStandIn t=false:=by
 obtain rfl:f=11:=Option.some.inj ((show Tryd.prog.funcNamed "ebbtide/ebbtidelaw04.KeyOrder"=some 11 by kernel_rfl).symm.trans hf) |>.symm
 obtain rfl:fn=Tryd.f11:=(Option.some.inj (Tryd.func11.symm.trans hfn)).symm
 refine ⟨by kernel_rfl,fun j t ht=>?_⟩
 rw [Tryd.params11] at ht
 have hm:t∈[9,22,5]:=by simpa using Array.mem_of_getElem? ht
 simp only [List.mem_cons,List.mem_nil_iff,or_false] at hm
 rcases hm with rfl|rfl|rfl
 all_goals first
 | exact (show Tryd.prog.wantsStandIn 9=false by kernel_rfl)
 | exact (show Tryd.prog.wantsStandIn 22=false by kernel_rfl)
 | exact (show Tryd.prog.wantsStandIn 5=false by kernel_rfl)
theorem proved:Rows.KeyOrderCardSaid :=
 Claim7.holds_tied_plain_at .later [] _ _ _ _ said (fun _ h=>by cases h) (by kernel_rfl) (fun _ h=>by cases h) keyOrder_row_tie rfl ⟨rfl,rfl⟩ (by kernel_rfl) rfl plain (by kernel_rfl)
#print axioms proved
end Go.Proofs.YtbefmicenjdfkaaDoor.keyOrder
namespace Go.Proofs.YtbefmicenjdfkaaDoor
theorem keyOrder_holds:Rows.KeyOrderCardSaid:=keyOrder.proved
end Go.Proofs.YtbefmicenjdfkaaDoor
