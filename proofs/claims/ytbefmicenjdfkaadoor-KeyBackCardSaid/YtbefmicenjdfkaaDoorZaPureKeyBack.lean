import Derived.Test.YtbefmicenjdfkaaDoorZaPTkx17
import Derived.Test.YtbefmicenjdfkaaDoorZaPTkxk
import Derived.Test.YtbefmicenjdfkaaDoorZaKP
namespace Go.Proofs.YtbefmicenjdfkaaDoor.Pure
open Go.RowKit Go.Proofs.YtbefmicenjdfkaaDoor.PTk Go.Proofs.YtbefmicenjdfkaaDoorW.PrintWords Go.Proofs.YtbefmicenjdfkaaDoorW.PrintLast Go.Proofs.YtbefmicenjdfkaaDoorW.PrintMore Go.Proofs.YtbefmicenjdfkaaDoorW.XP Go.Proofs.YtbefmicenjdfkaaDoorW.XW
set_option linter.unusedVariables false
set_option linter.unusedSimpArgs false
abbrev TLaw:=List S52
abbrev KLaw:=S41
theorem keyback_j1 (s:ByteArray) (hs:s.size≤500):Ev (fun k=>ebbtidelaw04_KeyBack.j1 k s) true:=by
 refine Ev_succ ?_
 simp only [ebbtidelaw04_KeyBack.j1]
 refine Ev.bind (keyparse_ev s (by omega)) ?_
 rcases parseK_out s with ⟨h1,h2⟩|⟨h1,h2,h3⟩
 ·refine Ev_if_pos h1 ?_
  obtain ⟨hn,hf,h4,ht⟩:=rightK_fit h2
  refine Ev.bind (keytext_ev _ _ (by omega) hf) (Ev.bind (keyparse_ev _ (by omega)) (Ev.bind (rkeyright_ev _ _ (by omega)) (Ev_if_pos h2 ?_)))
  rw [parse_textK _ _ h2]
  refine Ev_if_pos rfl (Ev.bind (rkeysame_ev _ _ _ _ (by show (parseK s).2.1.length≤_;omega)) ?_)
  rw [sameK_refl];exact Ev.now _
 ·refine Ev_if_neg h1 ?_
  rw [h2,h3]
  exact Ev_if_pos (by rw [toList_bl];rfl) (Ev.now _)
theorem KeyBack:∀ (x0:KLaw) (x1:ByteArray),(x0.f0.size≤140737488351232∧(x0.f1.length * 32≤140737488351232∧∀ x_∈x0.f1,(x_.f0.size≤140737488351232∧x_.f1.size≤140737488351232)))→x1.size≤140737488351232→∃ k,ebbtidelaw04_KeyBack.f k x0.f0 x0.f1 x1=some true:=by
 rintro ⟨n,l⟩ s _ _
 refine Ev.rounds (g:=fun k=>ebbtidelaw04_KeyBack.f k n l s) ?_
 unfold ebbtidelaw04_KeyBack.f
 refine Ev.bind kalive_ev (Ev_if_pos rfl (Ev.bind (great_ev l) ?_))
 have ht:Ev (fun k=>ebbtidelaw04_KeyBack.j0 k s true n l) true:=Ev.step (f:=fun _=>some true) (fun k=>by simp [ebbtidelaw04_KeyBack.j0]) (Ev.now _)
 cases hg:greatT l with
 | true=>exact Ev_if_pos rfl ht
 | false =>
  refine Ev_if_neg (by simp) ?_
  by_cases h0:(n.size:Int)>200
  ·exact Ev_if_pos h0 ht
  refine Ev_if_neg h0 ?_
  by_cases h:(s.size:Int)>500
  ·rw [decide_eq_true h];exact ht
  ·rw [decide_eq_false h]
   have hng:=not_great hg
   refine Ev_succ ?_
   simp only [ebbtidelaw04_KeyBack.j0]
   refine Ev_if_neg (by simp) (Ev.bind (rkeyright_ev n l (by omega)) ?_)
   cases hr:rightK n l with
   | false=>exact Ev_if_neg (by simp) (keyback_j1 s (by omega))
   | true =>
    obtain ⟨hn,hf,h4,htx⟩:=rightK_fit hr
    refine Ev_if_pos rfl (Ev.bind (keytext_ev n l (by omega) hf) (Ev.bind (keyparse_ev _ (by omega)) ?_))
    rw [parse_textK n l hr]
    exact Ev_if_pos rfl (Ev.bind (rkeysame_ev _ _ _ _ (by show l.length≤_;omega)) (Ev_if_pos (sameK_refl _ _) (keyback_j1 s (by omega))))
end Go.Proofs.YtbefmicenjdfkaaDoor.Pure
