import Derived.Test.YteaadaaghhojfaaGreatDoorZQcPQux20
import Derived.Test.YteaadaaghhojfaaGreatDoorZQcPQuxk
import Derived.Test.YteaadaaghhojfaaGreatDoorZQcQF
namespace Go.Proofs.YteaadaaghhojfaaGreatDoor.Pure
open Go.RowKit Go.Proofs.YteaadaaghhojfaaGreatDoor.PQu Go.Proofs.YteaadaaghhojfaaGreatDoorW.PrintWords Go.Proofs.YteaadaaghhojfaaGreatDoorW.PrintLast Go.Proofs.YteaadaaghhojfaaGreatDoorW.PrintMore Go.Proofs.YteaadaaghhojfaaGreatDoorW.XP Go.Proofs.YteaadaaghhojfaaGreatDoorW.XW
set_option linter.unusedVariables false
set_option linter.unusedSimpArgs false
abbrev QLaw:=S25
abbrev KLaw:=S36
theorem QueryFits:∀ (x0:QLaw) (x1:KLaw),((Lit.int .i64 x0.f0).wf=true∧x0.f1.size≤140737488351232∧(x0.f2.length * 40≤140737488351232∧∀ x_∈x0.f2,((Lit.int .i64 x_.f0).wf=true∧x_.f1.size≤140737488351232∧x_.f2.size≤140737488351232))∧(x0.f3.length * 16≤140737488351232∧∀ x_∈x0.f3,x_.size≤140737488351232))→(x1.f0.size≤140737488351232∧(x1.f1.length * 32≤140737488351232∧∀ x_∈x1.f1,(x_.f0.size≤140737488351232∧x_.f1.size≤140737488351232)))→∃ k,ebbtidelaw07_QueryFits.f k x0.f0 x0.f1 x0.f2 x0.f3 x1.f0 x1.f1=some true:=by
 rintro ⟨a,n,m,b⟩ ⟨kn,tags⟩ _ _
 refine Ev.rounds (g:=fun k=>ebbtidelaw07_QueryFits.f k a n m b kn tags) ?_
 unfold ebbtidelaw07_QueryFits.f
 have ht:Ev (fun k=>ebbtidelaw07_QueryFits.j0 k true a n m b kn tags) true:=Ev.step (f:=fun _=>some true) (fun k=>by simp [ebbtidelaw07_QueryFits.j0]) (Ev.now _)
 refine Ev.bind qalive_ev (Ev_if_pos rfl (Ev.bind (greatq_ev a n m b) ?_))
 cases hg:greatQ n m b with
 | true=>exact Ev_if_pos rfl ht
 | false =>
  refine Ev_if_neg (by simp) (Ev.bind (great_ev tags) ?_)
  cases hg2:greatT tags with
  | true=>exact Ev_if_pos rfl ht
  | false =>
   refine Ev_if_neg (by simp) ?_
   by_cases h0:(kn.size:Int)>200
   ·rw [decide_eq_true h0];exact ht
   ·rw [decide_eq_false h0]
    obtain ⟨_,⟨h1,_⟩,h2,_⟩:=not_greatQ hg
    have hf:=not_great_fit hg2
    have hl:=hf.1
    refine Ev_succ ?_
    simp only [ebbtidelaw07_QueryFits.j0]
    have q1:=qfits_ev a n m b kn tags (by omega) (by omega)
    have q2:=qgroup_ev a n m b kn tags (by omega) hf
    refine Ev_if_neg (by simp) (Ev.bind q1.1 (Ev.bind q1.2 (Ev_if_pos (by simp) (Ev.bind q2.1 (Ev.bind q2.2 (Ev_const (by simp)))))))
end Go.Proofs.YteaadaaghhojfaaGreatDoor.Pure
