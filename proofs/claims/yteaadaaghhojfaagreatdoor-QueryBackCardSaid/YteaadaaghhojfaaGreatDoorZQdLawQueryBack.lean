/- 'QueryBack' of the program: whatever the input, it returns true, and the input reads as before; the walk is the print's, the plain law is Pure.QueryBack. Conditions: the listed package-level variables hold what the program's text lays (the card ties them). -/
import Derived.Test.YteaadaaghhojfaaGreatDoorRows
import Derived.Test.YteaadaaghhojfaaGreatDoorCards
import Derived.Test.YteaadaaghhojfaaGreatDoorTie
import Derived.Test.YteaadaaghhojfaaGreatDoorZQdPQux21
import Derived.Test.YteaadaaghhojfaaGreatDoorZQdPQuxk
import Derived.Test.YteaadaaghhojfaaGreatDoorZQdXOpen
import Derived.Test.YteaadaaghhojfaaGreatDoorZQdPureQueryBack
import Derived.WalkKit
import Derived.ProofKit
import Derived.OpenShut
import Derived.ShutString
import Derived.ChangeOld
import Derived.Below
import Derived.SizedLaws
import Derived.Carry
import Derived.Deep.DeepHandedRow
import Derived.Lib.LaidTab
import Derived.SevenTiedAt
namespace Go.Proofs.YteaadaaghhojfaaGreatDoor.queryBack
open Go.ChangeShapes Go.WideShapes Go.ChangeAt Go.RowKit Go.Proofs.YteaadaaghhojfaaGreatDoor.PQu
open Go.ChangeMaps (open_string shut_string)
open Go.Proofs.YteaadaaghhojfaaGreatDoorW.PrintWords
set_option linter.unusedVariables false
set_option maxRecDepth 100000
theorem own:ownKnob Tryz.prog.godebug=none:=by kernel_rfl
theorem laidOut:laidOutB Tryz.prog=true:=by kernel_rfl
theorem walk (H:Type) (enc:TypeId×Value→H) (W:World) (base:Nat) (args:Array Value) (ds gs:List (DataW H)) (before:List MemPlace)
  (hval0:∀ (j:Nat) t v,Tryz.f6.params[j]?=some t→args[j]?=some v→Value.okWide Tryz.prog W .any base t v)
  (hW:DataW.Whole enc Tryz.prog Tryz.f6.params.toList Rows.queryBackSpec.vars false W args.toList ds gs before) (hsz0:(DataW.weightsEach Tryz.prog (Tryz.f6.params.toList++Rows.queryBackSpec.plain.varTypes Tryz.prog) (ds++gs)).all (·≤reachBytes)=true) (hg:Go.Proofs.YteaadaaghhojfaaGreatDoorW.PrintMore.GInt W) :
  Calls Tryz.prog 6 args W fun e W'=>∃ v,e = .returned v∧Rows.queryBackSpec.post enc Tryz.prog Tryz.f6 false true false false W args v W':=by
 have hsz:=hsz0
 have hval:=hval0
 have hW':=hW
 obtain ⟨p,q,hA0,hV,rfl,hfz,hnd⟩:=hW
 have hA:DataW.TrodAll enc Tryz.prog W 0 (fun _=>true) true Tryz.f6.params.toList args.toList ds p:=hA0
 rw [Tryz.params6] at hA hval hsz
 obtain ⟨v0,vs0,d0,ds0,p0,q0,hargs,rfl,rfl,h0,r0⟩:=trodAll_cons hA
 obtain ⟨v1,vs1,d1,ds1,p1,q1,rfl,rfl,rfl,h1,r1⟩:=trodAll_cons r0
 obtain ⟨rfl,rfl,rfl⟩:=trodAll_nil r1
 obtain rfl:args=#[v0,v1]:=by cases args;simp_all
 obtain ⟨rfl,rfl⟩:=trodVars_none hV
 have k0:=h0
 have lt0:∀ x∈p0,x.block<W.heap.size:=by obtain ⟨m,hm⟩:=k0;exact DataW.trod_lt m _ _ _ hm
 obtain ⟨cs0,x0,rfl,hK0,ok0⟩:=Go.Proofs.YteaadaaghhojfaaGreatDoorW.XW.open_struct (j:=0) Tryz.underlying25 (show Go.Proofs.YteaadaaghhojfaaGreatDoorW.XW.Opens Tryz.prog 25 k25 (fun z_=>((Lit.int .i64 z_.f0).wf=true∧z_.f1.size≤140737488351232∧(z_.f2.length * 40≤140737488351232∧∀ x_∈z_.f2,((Lit.int .i64 x_.f0).wf=true∧x_.f1.size≤140737488351232∧x_.f2.size≤140737488351232))∧(z_.f3.length * 16≤140737488351232∧∀ x_∈z_.f3,x_.size≤140737488351232))) from Go.Proofs.YteaadaaghhojfaaGreatDoorW.XW.opens_iso (fun p_=>⟨p_.1,p_.2.1,p_.2.2.1,p_.2.2.2⟩) (fun _=>rfl) (Go.Proofs.YteaadaaghhojfaaGreatDoorW.XW.opens_struct Tryz.underlying25 (Go.Proofs.YteaadaaghhojfaaGreatDoorW.XW.opensFs_cons rfl (Go.Proofs.YteaadaaghhojfaaGreatDoorW.XW.opens_int Tryz.underlying3) (by kernel_rfl) rfl (Go.Proofs.YteaadaaghhojfaaGreatDoorW.XW.opensFs_cons rfl (Go.Proofs.YteaadaaghhojfaaGreatDoorW.XW.opens_string Tryz.underlying9) (by kernel_rfl) rfl (Go.Proofs.YteaadaaghhojfaaGreatDoorW.XW.opensFs_cons rfl (Go.Proofs.YteaadaaghhojfaaGreatDoorW.XW.opens_slice Tryz.underlying22 (show Go.Proofs.YteaadaaghhojfaaGreatDoorW.XW.Opens Tryz.prog 127 k127 (fun z_=>((Lit.int .i64 z_.f0).wf=true∧z_.f1.size≤140737488351232∧z_.f2.size≤140737488351232)) from Go.Proofs.YteaadaaghhojfaaGreatDoorW.XW.opens_iso (fun p_=>⟨p_.1,p_.2.1,p_.2.2⟩) (fun _=>rfl) (Go.Proofs.YteaadaaghhojfaaGreatDoorW.XW.opens_struct Tryz.underlying127 (Go.Proofs.YteaadaaghhojfaaGreatDoorW.XW.opensFs_cons rfl (Go.Proofs.YteaadaaghhojfaaGreatDoorW.XW.opens_int Tryz.underlying3) (by kernel_rfl) rfl (Go.Proofs.YteaadaaghhojfaaGreatDoorW.XW.opensFs_cons rfl (Go.Proofs.YteaadaaghhojfaaGreatDoorW.XW.opens_string Tryz.underlying9) (by kernel_rfl) rfl (Go.Proofs.YteaadaaghhojfaaGreatDoorW.XW.opensFs_one rfl (Go.Proofs.YteaadaaghhojfaaGreatDoorW.XW.opens_string Tryz.underlying9) (by kernel_rfl)))) (by kernel_rfl))) (by kernel_rfl) (by kernel_rfl)) (by kernel_rfl) rfl (Go.Proofs.YteaadaaghhojfaaGreatDoorW.XW.opensFs_one rfl (Go.Proofs.YteaadaaghhojfaaGreatDoorW.XW.opens_slice Tryz.underlying23 (Go.Proofs.YteaadaaghhojfaaGreatDoorW.XW.opens_string Tryz.underlying9) (by kernel_rfl) (by kernel_rfl)) (by kernel_rfl))))) (by kernel_rfl))) (hval 0 25 v0 rfl rfl) h0 hsz rfl rfl
 obtain ⟨A0_2,c0_2,A0_3,c0_3,rfl,hc0_2,hr0_2,hc0_3,hr0_3⟩:∃ (A0_2:Option Addr) (c0_2:Nat) (A0_3:Option Addr) (c0_3:Nat),cs0=#[.int .i64 x0.f0, .string x0.f1, .slice A0_2 x0.f2.length c0_2, .slice A0_3 x0.f3.length c0_3]∧x0.f2.length≤c0_2∧Kd.C k127 W A0_2 x0.f2.length x0.f2∧x0.f3.length≤c0_3∧Kd.C Kd.string W A0_3 x0.f3.length x0.f3:=by
  have e_:=k25_open hK0
  first
  | (obtain ⟨A0_2,c0_2,A0_3,c0_3,e_,hc0_2,hr0_2,hc0_3,hr0_3⟩:=e_;exact ⟨A0_2,c0_2,A0_3,c0_3,by cases cs0;simpa using e_,hc0_2,hr0_2,hc0_3,hr0_3⟩)
  | (cases cs0;simpa using e_)
 have k1:=h1
 have lt1:∀ x∈p1,x.block<W.heap.size:=by obtain ⟨m,hm⟩:=k1;exact DataW.trod_lt m _ _ _ hm
 obtain ⟨x1,rfl,rfl,rfl,y1⟩:=open_string Tryz.underlying9 (hval 1 9 v1 rfl rfl) h1
 have ok1:x1.size≤140737488351232:=by
  have z:=sized_string hsz (j:=1) (t:=9) rfl rfl
  rw [Array.length_toList] at z
  exact z
 obtain ⟨k,h⟩:=Pure.QueryBack x0 x1 ok0 ok1
 refine (ebbtidelaw07_QueryBack.calls k x0.f0 x0.f1 A0_2 c0_2 x0.f2 A0_3 c0_3 x0.f3 x1 true W hg hr0_2 hc0_2 hr0_3 hc0_3 h).mono ?_
 rintro e W' ⟨rfl,hd⟩
 have bel:Below W.heap.size W W':=hd
 exact ⟨_,rfl,_,_,_,[],_,[],hW',trodAll_mk1 (shut_bool Tryz.underlying4 _),(trodAll_cons_mk (Below.trod laidOut (by kernel_rfl) (of_decide_eq_true (by kernel_rfl)) k0 bel lt0) (trodAll_cons_mk (Below.trod laidOut (by kernel_rfl) (of_decide_eq_true (by kernel_rfl)) k1 bel lt1) trodAll_mk0)),rfl,bel.frame _,fun h=>by cases h⟩
noncomputable def laidWorld (os:Os):World :=
 { World.holding Tryz.prog os ⟨#[],#[],[]⟩ with heap:=(((World.holding Tryz.prog os ⟨#[],#[],[]⟩).heap.modify 2 fun
   | .cells _ t frozen => .cells (Go.Proofs.YteaadaaghhojfaaGreatDoorW.XW.cells_of Rows.laid_unicode_utf8_acceptRanges).toArray t frozen
   | o=>o).modify 1 fun
   | .cells _ t frozen => .cells (Go.Proofs.YteaadaaghhojfaaGreatDoorW.XW.cells_of Rows.laid_unicode_utf8_first).toArray t frozen
   | o=>o) }
theorem laid_met (os:Os):laidMet Tryz.prog Rows.queryBackRow.laid ((laidWorld os).forCall (fun _ _=>0) ⟨#[],#[.agg #[.int .i64 0, .string ByteArray.empty, .slice none 0 0, .slice none 0 0], .string ByteArray.empty],[]⟩).memory :=
 laidMet_of_run' 8 (by kernel_rfl) (by kernel_rfl)
theorem reads (os:Os) {H:Type} (enc:TypeId×Value→H):∃ x,DataW.whole enc Tryz.prog ((laidWorld os).forCall (fun _ _=>0) ⟨#[],#[.agg #[.int .i64 0, .string ByteArray.empty, .slice none 0 0, .slice none 0 0], .string ByteArray.empty],[]⟩).memory Tryz.f6.params.toList Rows.queryBackSpec.vars false (#[.agg #[.int .i64 0, .string ByteArray.empty, .slice none 0 0, .slice none 0 0], .string ByteArray.empty]:Array Value).toList 8=some x :=
 Option.isSome_iff_exists.1 (by kernel_rfl)
theorem lifted (os:Os) (started:os.Started) (H:Type) (enc:TypeId×Value→H) (F:Stop.Interp) :
  ReturnsInHanded {} Tryz.checked os 6 .any ((OpenSpec.ofChange Rows.queryBackSpec).preRow enc Tryz.prog Tryz.f6 Rows.queryBackRow.domain false Rows.queryBackRow.laid) (((OpenSpec.ofChange Rows.queryBackSpec).at F).post enc Tryz.prog Tryz.f6 false true false false):=by
 obtain ⟨x,hx⟩:=reads os enc
 refine returnsInHanded_of_row (C:=Tryz.checked) (s:=OpenSpec.ofChange Rows.queryBackSpec) own started (by kernel_rfl) Tryz.func6
  (witness_row_at (enc:=enc) (C:=Tryz.checked) false (laidWorld os) #[.agg #[.int .i64 0, .string ByteArray.empty, .slice none 0 0, .slice none 0 0], .string ByteArray.empty] rfl (by kernel_rfl) (by kernel_rfl) (by kernel_rfl)
   (OpenSpec.preRow_of_cond 8 hx (by kernel_rfl) (fun k hk=>by cases hk) (by kernel_rfl) (laid_met os))) ?_
 intro W base args ds gs before hval hW _ _ hsz _ hsh _
 exact walk H enc W base args ds gs before hval hW hsz (Go.Proofs.YteaadaaghhojfaaGreatDoorW.PrintMore.gint_of hsh)
theorem said:Rows.QueryBackSaid :=
 OpenClaim.holds_of_cond 6 Tryz.f6 rfl rfl rfl rfl rfl rfl rfl ⟨rfl,rfl,rfl,rfl,rfl⟩ rfl rfl rfl rfl rfl (by kernel_rfl) Tryz.func6 (by kernel_rfl)
  (of_decide_eq_true (by kernel_rfl)) (by unfold Func.isWrapper;first|(rw [if_pos (by decide+kernel)];kernel_rfl)|(rw [if_neg (by decide+kernel)];exact ⟨rfl,rfl⟩))
  (fun os started H enc _ F=>by rw [OpenClaim.pre_eq_preRow];exact lifted os started H enc F)
theorem plain (f:FuncId) (fn:Func) (hf:Tryz.pinned.checked.prog.funcNamed "ebbtide/ebbtidelaw07.QueryBack"=some f) (hfn:Tryz.pinned.checked.prog.funcs[f]?=some fn) :
  false=Tryz.pinned.checked.prog.looks []∧∀ (j:Nat) t,fn.params[j]?=some t→Tryz.pinned.checked.prog.wantsStandIn t=false:=by
 obtain rfl:f=6:=Option.some.inj ((show Tryz.prog.funcNamed "ebbtide/ebbtidelaw07.QueryBack"=some 6 by kernel_rfl).symm.trans hf) |>.symm
 obtain rfl:fn=Tryz.f6:=(Option.some.inj (Tryz.func6.symm.trans hfn)).symm
 refine ⟨by kernel_rfl,fun j t ht=>?_⟩
 rw [Tryz.params6] at ht
 have hm:t∈[25,9]:=by simpa using Array.mem_of_getElem? ht
 simp only [List.mem_cons,List.mem_nil_iff,or_false] at hm
 rcases hm with rfl|rfl
 all_goals first
 | exact (show Tryz.prog.wantsStandIn 25=false by kernel_rfl)
 | exact (show Tryz.prog.wantsStandIn 9=false by kernel_rfl)
theorem proved:Rows.QueryBackCardSaid :=
 Claim7.holds_tied_plain_at .later [] _ _ _ _ said (fun _ h=>by cases h) (by kernel_rfl) (fun _ h=>by cases h) queryBack_row_tie rfl ⟨rfl,rfl⟩ (by kernel_rfl) rfl plain (by kernel_rfl)
#print axioms proved
end Go.Proofs.YteaadaaghhojfaaGreatDoor.queryBack
namespace Go.Proofs.YteaadaaghhojfaaGreatDoor
theorem queryBack_holds:Rows.QueryBackCardSaid:=queryBack.proved
end Go.Proofs.YteaadaaghhojfaaGreatDoor
