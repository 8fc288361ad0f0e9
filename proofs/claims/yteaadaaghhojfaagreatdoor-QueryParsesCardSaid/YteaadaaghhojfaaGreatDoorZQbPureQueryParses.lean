import Derived.Test.YteaadaaghhojfaaGreatDoorZQbPQux18
import Derived.Test.YteaadaaghhojfaaGreatDoorZQbPQuxk
import Derived.Test.YteaadaaghhojfaaGreatDoorZQbQF
namespace Go.Proofs.YteaadaaghhojfaaGreatDoor.Pure
open Go.RowKit Go.Proofs.YteaadaaghhojfaaGreatDoor.PQu Go.Proofs.YteaadaaghhojfaaGreatDoorW.PrintWords Go.Proofs.YteaadaaghhojfaaGreatDoorW.PrintLast Go.Proofs.YteaadaaghhojfaaGreatDoorW.PrintMore Go.Proofs.YteaadaaghhojfaaGreatDoorW.XP Go.Proofs.YteaadaaghhojfaaGreatDoorW.XW
set_option linter.unusedVariables false
set_option linter.unusedSimpArgs false
theorem QueryParses:∀ (x0:ByteArray),x0.size≤140737488351232→∃ k,ebbtidelaw07_QueryParses.f k x0=some true:=by
 intro s _
 refine Ev.rounds (g:=fun k=>ebbtidelaw07_QueryParses.f k s) ?_
 unfold ebbtidelaw07_QueryParses.f
 refine Ev.bind qalive_ev (Ev_if_pos rfl ?_)
 by_cases h:(s.size:Int)>500
 ·exact Ev_if_pos h (Ev.now _)
 ·have hl:=parseQ_len s
  refine Ev_if_neg h (Ev.bind (qparse_ev s (by omega)) (Ev.bind (rqparse_ev s (by omega)) (Ev.bind (rqsame_ev _ _ _ _ _ _ _ _ (by omega) (by omega)) (Ev_if_pos (sameQ_refl _ _ _ _) (Ev_const ?_)))))
  simp
end Go.Proofs.YteaadaaghhojfaaGreatDoor.Pure
