import Derived.Test.YteaadaaghhojfaaGreatDoorZQcPQux11
import Derived.Test.YteaadaaghhojfaaGreatDoorZQcQE
namespace Go.Proofs.YteaadaaghhojfaaGreatDoor.Pure
open Go.RowKit Go.Proofs.YteaadaaghhojfaaGreatDoor.PQu Go.Proofs.YteaadaaghhojfaaGreatDoorW.PrintWords Go.Proofs.YteaadaaghhojfaaGreatDoorW.PrintLast Go.Proofs.YteaadaaghhojfaaGreatDoorW.PrintMore Go.Proofs.YteaadaaghhojfaaGreatDoorW.XP Go.Proofs.YteaadaaghhojfaaGreatDoorW.XW
set_option linter.unusedVariables false
set_option linter.unusedSimpArgs false
theorem qalive_ev:Ev (fun k=>ebbtidelaw07_alive.f k) true:=by
 unfold ebbtidelaw07_alive.f
 refine Ev.bind (qparse_ev _ (by decide)) (Ev.bind (qparse_ev _ (by decide)) (Ev.bind (qparse_ev _ (by decide)) (Ev.bind (rkeyparse_ev _ (by decide)) ?_)))
 refine Ev_if_pos (by decide+kernel) (Ev_if_pos (by decide+kernel) (Ev_if_pos (by decide+kernel) (Ev_if_pos (by decide+kernel) ?_)))
 refine Ev_if_pos (by rw [toList_bl];decide+kernel) (Ev_if_pos (by decide+kernel) (Ev_if_pos (by decide+kernel) ?_))
 refine Ev.bind (qtext_ev _ _ _ _ (by decide+kernel) (by decide+kernel)) (Ev_if_pos (by rw [toList_bl];decide+kernel) ?_)
 refine Ev.bind (qright_ev _ _ _ _ (by decide+kernel) (by decide+kernel)) (Ev_if_pos (by decide+kernel) ?_)
 refine Ev.bind (qfits_ev _ _ _ _ _ _ (by decide+kernel) (by decide+kernel)).1 (Ev_if_pos (by decide+kernel) ?_)
 refine Ev.bind (qgroup_ev _ _ _ _ _ _ (by decide+kernel) ((rightK_fit (n:=⟨#[97]⟩) (by decide+kernel)).2.1)).1 (Ev_if_pos (by rw [toList_bl];decide+kernel) ?_)
 refine Ev.bind (qsame_ev _ _ _ _ _ _ _ _ (by decide+kernel) (by decide+kernel)) (Ev_if_pos (by decide+kernel) ?_)
 refine Ev.bind (qsame_ev _ _ _ _ _ _ _ _ (by decide+kernel) (by decide+kernel)) ?_
 exact Ev_const (by decide+kernel)
end Go.Proofs.YteaadaaghhojfaaGreatDoor.Pure
