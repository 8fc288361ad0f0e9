import Derived.Test.YtbefmicenjdfkaaDoorZaPTkx16
import Derived.Test.YtbefmicenjdfkaaDoorZaPTkxk
import Derived.Test.YtbefmicenjdfkaaDoorZaKP
namespace Go.Proofs.YtbefmicenjdfkaaDoor.Pure
open Go.RowKit Go.Proofs.YtbefmicenjdfkaaDoor.PTk Go.Proofs.YtbefmicenjdfkaaDoorW.PrintWords Go.Proofs.YtbefmicenjdfkaaDoorW.PrintLast Go.Proofs.YtbefmicenjdfkaaDoorW.PrintMore Go.Proofs.YtbefmicenjdfkaaDoorW.XP Go.Proofs.YtbefmicenjdfkaaDoorW.XW
set_option linter.unusedVariables false
set_option linter.unusedSimpArgs false
abbrev TLaw:=List S52
abbrev KLaw:=S41
theorem KeyParses:∀ (x0:ByteArray),x0.size≤140737488351232→∃ k,ebbtidelaw04_KeyParses.f k x0=some true:=by
 intro s _
 refine Ev.rounds (g:=fun k=>ebbtidelaw04_KeyParses.f k s) ?_
 unfold ebbtidelaw04_KeyParses.f
 refine Ev.bind kalive_ev (Ev_if_pos rfl ?_)
 by_cases h:(s.size:Int)>500
 ·exact Ev_if_pos h (Ev.now _)
 ·refine Ev_if_neg h ?_
  refine Ev.bind (keyparse_ev s (by omega)) (Ev.bind (rkeyparse_ev s (by omega)) ?_)
  have hl:(parseK s).2.1.length≤100000000:=by
   rcases parseK_out s with ⟨_,h2⟩|⟨_,_,h2⟩
   ·have:=(rightK_fit h2).2.2.1;omega
   ·rw [h2];simp
  refine Ev.bind (rkeysame_ev _ _ _ _ hl) (Ev_if_pos (sameK_refl _ _) ?_)
  simpa using Ev.now true
end Go.Proofs.YtbefmicenjdfkaaDoor.Pure
