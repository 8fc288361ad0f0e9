import Derived.Test.YteaadaaghhojfaaGreatDoorZQaPQux16
import Derived.Test.YteaadaaghhojfaaGreatDoorZQaPQuxk
import Derived.Test.YteaadaaghhojfaaGreatDoorZQaQF
namespace Go.Proofs.YteaadaaghhojfaaGreatDoor.Pure
open Go.RowKit Go.Proofs.YteaadaaghhojfaaGreatDoor.PQu Go.Proofs.YteaadaaghhojfaaGreatDoorW.PrintWords Go.Proofs.YteaadaaghhojfaaGreatDoorW.PrintLast Go.Proofs.YteaadaaghhojfaaGreatDoorW.PrintMore Go.Proofs.YteaadaaghhojfaaGreatDoorW.XP Go.Proofs.YteaadaaghhojfaaGreatDoorW.XW
set_option linter.unusedVariables false
set_option linter.unusedSimpArgs false
abbrev QLaw:=S25
theorem QueryTells:∀ (x0:QLaw) (x1:QLaw),((Lit.int .i64 x0.f0).wf=true∧x0.f1.size≤140737488351232∧(x0.f2.length * 40≤140737488351232∧∀ x_∈x0.f2,((Lit.int .i64 x_.f0).wf=true∧x_.f1.size≤140737488351232∧x_.f2.size≤140737488351232))∧(x0.f3.length * 16≤140737488351232∧∀ x_∈x0.f3,x_.size≤140737488351232))→((Lit.int .i64 x1.f0).wf=true∧x1.f1.size≤140737488351232∧(x1.f2.length * 40≤140737488351232∧∀ x_∈x1.f2,((Lit.int .i64 x_.f0).wf=true∧x_.f1.size≤140737488351232∧x_.f2.size≤140737488351232))∧(x1.f3.length * 16≤140737488351232∧∀ x_∈x1.f3,x_.size≤140737488351232))→∃ k,ebbtidelaw07_QueryTells.f k x0.f0 x0.f1 x0.f2 x0.f3 x1.f0 x1.f1 x1.f2 x1.f3=some true:=by
 rintro ⟨a,n,m,b⟩ ⟨a2,n2,m2,b2⟩ _ _
 refine Ev.rounds (g:=fun k=>ebbtidelaw07_QueryTells.f k a n m b a2 n2 m2 b2) ?_
 unfold ebbtidelaw07_QueryTells.f
 have ht:Ev (fun k=>ebbtidelaw07_QueryTells.j0 k true a n m b a2 n2 m2 b2) true:=Ev.step (f:=fun _=>some true) (fun k=>by simp [ebbtidelaw07_QueryTells.j0]) (Ev.now _)
 refine Ev.bind qalive_ev (Ev_if_pos rfl (Ev.bind (greatq_ev a n m b) ?_))
 cases hg:greatQ n m b with
 | true=>exact Ev_if_pos rfl ht
 | false =>
  refine Ev_if_neg (by simp) (Ev.bind (greatq_ev a2 n2 m2 b2) ?_)
  cases hg2:greatQ n2 m2 b2 with
  | true=>exact ht
  | false =>
   obtain ⟨_,⟨h1,_⟩,h2,_⟩:=not_greatQ hg
   refine Ev_succ ?_
   simp only [ebbtidelaw07_QueryTells.j0]
   refine Ev_if_neg (by simp) (Ev.bind (qright_ev a n m b (by omega) (by omega)) (Ev.bind (rqright_ev a n m b (by omega) (by omega)) (Ev_if_pos (by simp) ?_)))
   refine Ev.bind (qtext_ev a n m b (by omega) (by omega)) (Ev.bind (rqtext_ev a n m b (by omega) (by omega)) (Ev_if_pos rfl ?_))
   refine Ev.bind (qsame_ev a n m b a2 n2 m2 b2 (by omega) (by omega)) (Ev.bind (rqsame_ev a n m b a2 n2 m2 b2 (by omega) (by omega)) (Ev_if_pos (by simp) ?_))
   refine Ev.bind (qsame_ev a n m b a n m b (by omega) (by omega)) ?_
   rw [sameQ_refl];exact Ev.now _
end Go.Proofs.YteaadaaghhojfaaGreatDoor.Pure
