import Derived.Test.YtbefmicenjdfkaaDoorZaPTkx18
import Derived.Test.YtbefmicenjdfkaaDoorZaPTkxk
import Derived.Test.YtbefmicenjdfkaaDoorZaKP
namespace Go.Proofs.YtbefmicenjdfkaaDoor.Pure
open Go.RowKit Go.Proofs.YtbefmicenjdfkaaDoor.PTk Go.Proofs.YtbefmicenjdfkaaDoorW.PrintWords Go.Proofs.YtbefmicenjdfkaaDoorW.PrintLast Go.Proofs.YtbefmicenjdfkaaDoorW.PrintMore Go.Proofs.YtbefmicenjdfkaaDoorW.XP Go.Proofs.YtbefmicenjdfkaaDoorW.XW
set_option linter.unusedVariables false
set_option linter.unusedSimpArgs false
abbrev TLaw:=List S52
abbrev KLaw:=S41
theorem KeyApart:∀ (x0:KLaw) (x1:KLaw),(x0.f0.size≤140737488351232∧(x0.f1.length * 32≤140737488351232∧∀ x_∈x0.f1,(x_.f0.size≤140737488351232∧x_.f1.size≤140737488351232)))→(x1.f0.size≤140737488351232∧(x1.f1.length * 32≤140737488351232∧∀ x_∈x1.f1,(x_.f0.size≤140737488351232∧x_.f1.size≤140737488351232)))→∃ k,ebbtidelaw04_KeyApart.f k x0.f0 x0.f1 x1.f0 x1.f1=some true:=by
 rintro ⟨n,l⟩ ⟨m,q⟩ _ _
 refine Ev.rounds (g:=fun k=>ebbtidelaw04_KeyApart.f k n l m q) ?_
 unfold ebbtidelaw04_KeyApart.f
 refine Ev.bind kalive_ev (Ev_if_pos rfl (Ev.bind (great_ev l) ?_))
 have ht:Ev (fun k=>ebbtidelaw04_KeyApart.j0 k true n l m q) true:=Ev.step (f:=fun _=>some true) (fun k=>by simp [ebbtidelaw04_KeyApart.j0]) (Ev.now _)
 cases hg:greatT l with
 | true=>exact Ev_if_pos rfl ht
 | false =>
  refine Ev_if_neg (by simp) (Ev.bind (great_ev q) ?_)
  cases hg2:greatT q with
  | true=>exact Ev_if_pos rfl ht
  | false =>
   have h1:=not_great hg
   have h2:=not_great hg2
   refine Ev_if_neg (by simp) (Ev.bind (rkeyright_ev n l (by omega)) ?_)
   cases hr:rightK n l with
   | false=>exact Ev_if_neg (by simp) ht
   | true =>
    refine Ev_if_pos rfl (Ev.bind (rkeyright_ev m q (by omega)) ?_)
    cases hr2:rightK m q with
    | false=>exact ht
    | true =>
     refine Ev_succ ?_
     simp only [ebbtidelaw04_KeyApart.j0]
     obtain ⟨hn,hf,h4,_⟩:=rightK_fit hr
     obtain ⟨hm,hf2,h5,_⟩:=rightK_fit hr2
     refine Ev_if_neg (by simp) (Ev.bind (keytext_ev n l (by omega) hf) (Ev.bind (keytext_ev m q (by omega) hf2) (Ev.bind (rkeysame_ev n l m q (by omega)) (Ev_if_pos ?_ ?_))))
     ·rw [toList_bl,toList_bl,beq_iff_eq,Bool.eq_iff_iff,beq_iff_eq,sameK_iff]
      constructor
      ·intro h
       have e:=bl_inj h
       have e1:=parse_textK n l hr
       rw [e,parse_textK m q hr2] at e1
       simp only [Prod.mk.injEq,and_true] at e1
       exact ⟨e1.1.symm,e1.2.symm⟩
      ·rintro ⟨rfl,rfl⟩;rfl
     ·refine Ev.bind (keysame_ev n l m q (by omega)) (Ev.bind (rkeysame_ev n l m q (by omega)) ?_)
      simpa using Ev.now true
end Go.Proofs.YtbefmicenjdfkaaDoor.Pure
