import Derived.Test.YtbefmicenjdfkaaDoorZaPTkx11
import Derived.Test.YtbefmicenjdfkaaDoorZaPZ
namespace Go.Proofs.YtbefmicenjdfkaaDoor.Pure
open Go.RowKit Go.Proofs.YtbefmicenjdfkaaDoor.PTk Go.Proofs.YtbefmicenjdfkaaDoorW.PrintWords Go.Proofs.YtbefmicenjdfkaaDoorW.PrintLast Go.Proofs.YtbefmicenjdfkaaDoorW.PrintMore Go.Proofs.YtbefmicenjdfkaaDoorW.XP Go.Proofs.YtbefmicenjdfkaaDoorW.XW
set_option linter.unusedVariables false
set_option linter.unusedSimpArgs false
abbrev TLaw:=List S52
theorem tagback_j1 (s:ByteArray) (hs:s.size≤500):Ev (fun k=>ebbtidelaw03_TagBack.j1 k s) true:=by
 refine Ev.step (f:=fun k=>(tag_Parse.f k s).bind fun bt368=>(if bt368.2=0 then ((tag_Text.f k bt368.1).bind fun t372=>((tag_Parse.f k t372).bind fun bt373=>((tag_Right.f k bt368.1).bind fun t377=>(if t377=true then (if bt373.2=0 then ((ebbtideref03_Same.f k bt373.1 bt368.1).bind fun t378=>(some t378)) else (none)) else (none))))) else (some ((bt368.1.length:Int) ==0)))) (fun k=>rfl) ?_
 refine Ev.bind (parse_ev s (by omega)) ?_
 rcases parse_out s with ⟨h1,h2⟩|⟨h1,h2⟩
 ·refine Ev_if_pos h1 ?_
  obtain ⟨hf,ht⟩:=right_fit h2
  rw [size_bl] at ht
  have h4:=((right_iff _).1 h2).2.2
  refine Ev.bind (text_ev _ hf) (Ev.bind (parse_ev _ (by omega)) (Ev.bind (tright_ev _ (by omega)) (Ev_if_pos h2 ?_)))
  rw [parse_text _ h2]
  refine Ev_if_pos rfl (Ev.bind (rsame_ev _ _ (by simp only;omega)) ?_)
  rw [sameT_refl];exact Ev.now _
 ·refine Ev_if_neg h1 ?_
  rw [h2];exact Ev.now _
theorem TagBack:∀ (x0:TLaw) (x1:ByteArray),(x0.length * 32≤140737488351232∧∀ x_∈x0,(x_.f0.size≤140737488351232∧x_.f1.size≤140737488351232))→x1.size≤140737488351232→∃ k,ebbtidelaw03_TagBack.f k x0 x1=some true:=by
 intro l s _ _
 refine Ev.rounds (g:=fun k=>ebbtidelaw03_TagBack.f k l s) ?_
 unfold ebbtidelaw03_TagBack.f
 refine Ev.bind talive_ev (Ev_if_pos rfl (Ev.bind (great_ev l) ?_))
 have ht:Ev (fun k=>ebbtidelaw03_TagBack.j0 k l s true) true:=Ev.step (f:=fun _=>some true) (fun k=>by simp [ebbtidelaw03_TagBack.j0]) (Ev.now _)
 cases hg:greatT l with
 | true=>exact Ev_if_pos rfl ht
 | false =>
  refine Ev_if_neg (by simp) ?_
  by_cases h:(s.size:Int)>500
  ·rw [decide_eq_true h];exact ht
  ·rw [decide_eq_false h]
   have hng:=not_great hg
   refine Ev.step (f:=fun k=>(ebbtideref03_Right.f k l).bind fun t361=>(if t361=true then ((tag_Text.f k l).bind fun t362=>((tag_Parse.f k t362).bind fun bt363=>(if bt363.2=0 then ((ebbtideref03_Same.f k bt363.1 l).bind fun t367=>(if t367=true then (ebbtidelaw03_TagBack.j1 k s) else (none))) else (none)))) else (ebbtidelaw03_TagBack.j1 k s))) (fun k=>rfl) ?_
   refine Ev.bind (rright_ev l (by omega)) ?_
   cases hr:rightT l with
   | false=>exact Ev_if_neg (by simp) (tagback_j1 s (by omega))
   | true =>
    obtain ⟨hf,htx⟩:=right_fit hr
    rw [size_bl] at htx
    refine Ev_if_pos rfl (Ev.bind (text_ev l hf) (Ev.bind (parse_ev _ (by omega)) ?_))
    rw [parse_text l hr]
    refine Ev_if_pos rfl (Ev.bind (rsame_ev _ _ (by simp only;omega)) (Ev_if_pos (sameT_refl _) (tagback_j1 s (by omega))))
end Go.Proofs.YtbefmicenjdfkaaDoor.Pure
