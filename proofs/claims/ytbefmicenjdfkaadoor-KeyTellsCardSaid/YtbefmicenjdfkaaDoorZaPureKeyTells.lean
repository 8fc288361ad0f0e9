import Derived.Test.YtbefmicenjdfkaaDoorZaPTkx15
import Derived.Test.YtbefmicenjdfkaaDoorZaPTkxk
import Derived.Test.YtbefmicenjdfkaaDoorZaKP
namespace Go.Proofs.YtbefmicenjdfkaaDoor.Pure
open Go.RowKit Go.Proofs.YtbefmicenjdfkaaDoor.PTk Go.Proofs.YtbefmicenjdfkaaDoorW.PrintWords Go.Proofs.YtbefmicenjdfkaaDoorW.PrintLast Go.Proofs.YtbefmicenjdfkaaDoorW.PrintMore Go.Proofs.YtbefmicenjdfkaaDoorW.XP Go.Proofs.YtbefmicenjdfkaaDoorW.XW
set_option linter.unusedVariables false
set_option linter.unusedSimpArgs false
abbrev TLaw:=List S52
abbrev KLaw:=S41
theorem KeyTells:∀ (x0:KLaw) (x1:KLaw),(x0.f0.size≤140737488351232∧(x0.f1.length * 32≤140737488351232∧∀ x_∈x0.f1,(x_.f0.size≤140737488351232∧x_.f1.size≤140737488351232)))→(x1.f0.size≤140737488351232∧(x1.f1.length * 32≤140737488351232∧∀ x_∈x1.f1,(x_.f0.size≤140737488351232∧x_.f1.size≤140737488351232)))→∃ k,ebbtidelaw04_KeyTells.f k x0.f0 x0.f1 x1.f0 x1.f1=some true:=by
 rintro ⟨n,l⟩ ⟨m,q⟩ _ _
 refine Ev.rounds (g:=fun k=>ebbtidelaw04_KeyTells.f k n l m q) ?_
 unfold ebbtidelaw04_KeyTells.f
 refine Ev.bind kalive_ev (Ev_if_pos rfl (Ev.bind (great_ev l) ?_))
 have ht:Ev (fun k=>ebbtidelaw04_KeyTells.j0 k true n l m q) true:=Ev.step (f:=fun _=>some true) (fun k=>by simp [ebbtidelaw04_KeyTells.j0]) (Ev.now _)
 cases hg:greatT l with
 | true=>exact Ev_if_pos rfl ht
 | false =>
  refine Ev_if_neg (by simp) (Ev.bind (great_ev q) ?_)
  cases hg2:greatT q with
  | true=>exact Ev_if_pos rfl ht
  | false =>
   have h1:=not_great hg
   have h2:=not_great hg2
   have hf:=not_great_fit hg
   refine Ev_if_neg (by simp) ?_
   by_cases h3:(n.size:Int)>200
   ·exact Ev_if_pos h3 ht
   refine Ev_if_neg h3 ?_
   by_cases h4:(m.size:Int)>200
   ·rw [decide_eq_true h4];exact ht
   rw [decide_eq_false h4]
   refine Ev_succ ?_
   simp only [ebbtidelaw04_KeyTells.j0,Option.bind_some,List.nil_append]
   refine Ev_if_neg (by simp) (Ev_if_pos (by simp;omega) ?_)
   have hml:(makeK n l).2.1.length≤1000:=(makeK_fit n l).2.1
   refine Ev.bind (make_ev n l (by omega)) (Ev.bind (rmake_ev n l (by omega)) (Ev.bind (rkeysame_ev _ _ _ _ (by omega)) (Ev_if_pos (sameK_refl _ _) (Ev_if_pos rfl ?_))))
   refine Ev.bind (keyright_ev n l (by omega)) (Ev.bind (rkeyright_ev n l (by omega)) (Ev_if_pos (by simp) ?_))
   refine Ev.bind (keytext_ev n l (by omega) hf) (Ev.bind (rkeytext_ev n l (by omega) hf) (Ev_if_pos rfl ?_))
   refine Ev.bind (keysame_ev n l m q (by omega)) (Ev.bind (rkeysame_ev n l m q (by omega)) (Ev_if_pos (by simp) ?_))
   refine Ev.bind (keysame_ev n l n l (by omega)) (Ev_if_pos (sameK_refl _ _) (Ev.bind (rsame_ev _ _ (by omega)) ?_))
   rw [sameT_refl];exact Ev.now _
end Go.Proofs.YtbefmicenjdfkaaDoor.Pure
