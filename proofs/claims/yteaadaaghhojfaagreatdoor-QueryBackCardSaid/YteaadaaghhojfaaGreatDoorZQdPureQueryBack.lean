import Derived.Test.YteaadaaghhojfaaGreatDoorZQdPQux21
import Derived.Test.YteaadaaghhojfaaGreatDoorZQdPQuxk
import Derived.Test.YteaadaaghhojfaaGreatDoorZQdQF
namespace Go.Proofs.YteaadaaghhojfaaGreatDoor.Pure
open Go.RowKit Go.Proofs.YteaadaaghhojfaaGreatDoor.PQu Go.Proofs.YteaadaaghhojfaaGreatDoorW.PrintWords Go.Proofs.YteaadaaghhojfaaGreatDoorW.PrintLast Go.Proofs.YteaadaaghhojfaaGreatDoorW.PrintMore Go.Proofs.YteaadaaghhojfaaGreatDoorW.XP Go.Proofs.YteaadaaghhojfaaGreatDoorW.XW
set_option linter.unusedVariables false
set_option linter.unusedSimpArgs false
abbrev QLaw:=S25
theorem queryback_j1 (s:ByteArray) (hs:s.size≤500):Ev (fun k=>ebbtidelaw07_QueryBack.j1 k s) true:=by
 refine Ev_succ ?_
 simp only [ebbtidelaw07_QueryBack.j1]
 have hl:=parseQ_len s
 refine Ev.bind (qparse_ev s (by omega)) ?_
 rcases parseQ_out s with ⟨h1,h2⟩|⟨h1,e1,e2,e3,e4⟩
 ·have hz:=textQ_small (parseQ s).1 (parseQ s).2.1 (parseQ s).2.2.1 (parseQ s).2.2.2.1
  rw [size_bl] at hz
  refine Ev_if_pos h1 (Ev.bind (qtext_ev _ _ _ _ (by omega) (by omega)) (Ev.bind (qparse_ev _ (by omega)) (Ev.bind (rqright_ev _ _ _ _ (by omega) (by omega)) (Ev_if_pos h2 ?_))))
  rw [parse_textQ _ _ _ _ h2]
  refine Ev_if_pos rfl (Ev.bind (rqsame_ev _ _ _ _ _ _ _ _ (by show (parseQ s).2.2.1.length≤_;omega) (by show (parseQ s).2.2.2.1.length≤_;omega)) ?_)
  rw [sameQ_refl];exact Ev.now _
 ·refine Ev_if_neg h1 (Ev.bind (rqsame_ev _ _ _ _ _ _ _ _ (by omega) (by omega)) ?_)
  rw [e1,e2,e3,e4]
  exact Ev_const (congrArg some (sameQ_refl _ _ _ _))
theorem QueryBack:∀ (x0:QLaw) (x1:ByteArray),((Lit.int .i64 x0.f0).wf=true∧x0.f1.size≤140737488351232∧(x0.f2.length * 40≤140737488351232∧∀ x_∈x0.f2,((Lit.int .i64 x_.f0).wf=true∧x_.f1.size≤140737488351232∧x_.f2.size≤140737488351232))∧(x0.f3.length * 16≤140737488351232∧∀ x_∈x0.f3,x_.size≤140737488351232))→x1.size≤140737488351232→∃ k,ebbtidelaw07_QueryBack.f k x0.f0 x0.f1 x0.f2 x0.f3 x1=some true:=by
 rintro ⟨a,n,m,b⟩ s _ _
 refine Ev.rounds (g:=fun k=>ebbtidelaw07_QueryBack.f k a n m b s) ?_
 unfold ebbtidelaw07_QueryBack.f
 have ht:Ev (fun k=>ebbtidelaw07_QueryBack.j0 k s true a n m b) true:=Ev.step (f:=fun _=>some true) (fun k=>by simp [ebbtidelaw07_QueryBack.j0]) (Ev.now _)
 refine Ev.bind qalive_ev (Ev_if_pos rfl (Ev.bind (greatq_ev a n m b) ?_))
 cases hg:greatQ n m b with
 | true=>exact Ev_if_pos rfl ht
 | false =>
  refine Ev_if_neg (by simp) ?_
  by_cases h:(s.size:Int)>500
  ·rw [decide_eq_true h];exact ht
  ·rw [decide_eq_false h]
   obtain ⟨_,⟨h1,_⟩,h2,_⟩:=not_greatQ hg
   refine Ev_succ ?_
   simp only [ebbtidelaw07_QueryBack.j0]
   refine Ev_if_neg (by simp) (Ev.bind (rqright_ev a n m b (by omega) (by omega)) ?_)
   cases hr:rightQ a n m b with
   | false=>exact Ev_if_neg (by simp) (queryback_j1 s (by omega))
   | true =>
    have hz:=textQ_small a n m b
    rw [size_bl] at hz
    refine Ev_if_pos rfl (Ev.bind (qtext_ev a n m b (by omega) (by omega)) (Ev.bind (qparse_ev _ (by omega)) ?_))
    rw [parse_textQ a n m b hr]
    exact Ev_if_pos rfl (Ev.bind (rqsame_ev _ _ _ _ _ _ _ _ (by show m.length≤_;omega) (by show b.length≤_;omega)) (Ev_if_pos (sameQ_refl _ _ _ _) (queryback_j1 s (by omega))))
end Go.Proofs.YteaadaaghhojfaaGreatDoor.Pure
