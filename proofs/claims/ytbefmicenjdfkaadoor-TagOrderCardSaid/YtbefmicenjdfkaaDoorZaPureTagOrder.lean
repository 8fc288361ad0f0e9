import Derived.Test.YtbefmicenjdfkaaDoorZaPTkx12
import Derived.Test.YtbefmicenjdfkaaDoorZaPZ
namespace Go.Proofs.YtbefmicenjdfkaaDoor.Pure
open Go.RowKit Go.Proofs.YtbefmicenjdfkaaDoor.PTk Go.Proofs.YtbefmicenjdfkaaDoorW.PrintWords Go.Proofs.YtbefmicenjdfkaaDoorW.PrintLast Go.Proofs.YtbefmicenjdfkaaDoorW.PrintMore Go.Proofs.YtbefmicenjdfkaaDoorW.XP Go.Proofs.YtbefmicenjdfkaaDoorW.XW
set_option linter.unusedVariables false
set_option linter.unusedSimpArgs false
abbrev TLaw:=List S52
theorem TagOrder:∀ (x0:TLaw) (x1:Int),(x0.length * 32≤140737488351232∧∀ x_∈x0,(x_.f0.size≤140737488351232∧x_.f1.size≤140737488351232))→(Lit.int .u8 x1).wf=true→∃ k,ebbtidelaw03_TagOrder.f k x0 x1=some true:=by
 intro l n _ hn
 have hn':0≤n∧n<256:=by
  have h1:IntKind.u8.min≤n∧n≤IntKind.u8.max:=by simpa [Lit.wf] using hn
  have h2:IntKind.u8.min=0:=by decide
  have h3:IntKind.u8.max=255:=by decide
  omega
 refine Ev.rounds (g:=fun k=>ebbtidelaw03_TagOrder.f k l n) ?_
 unfold ebbtidelaw03_TagOrder.f
 refine Ev.bind talive_ev (Ev_if_pos rfl (Ev.bind (great_ev l) ?_))
 have ht:Ev (fun k=>ebbtidelaw03_TagOrder.j0 k l n true) true:=Ev.step (f:=fun _=>some true) (fun k=>by simp [ebbtidelaw03_TagOrder.j0]) (Ev.now _)
 cases hg:greatT l with
 | true=>exact Ev_if_pos rfl ht
 | false =>
  refine Ev_if_neg (by simp) ?_
  by_cases h:l.length=0
  ·rw [show ((l.length:Int) ==0)=true by simp [h]];exact ht
  ·rw [show ((l.length:Int) ==0)=false from by rw [beq_eq_false_iff_ne];omega]
   have hng:=not_great hg
   have hw:wrap64 n=n:=by unfold wrap64;omega
   have hm1:0≤Int.tmod n (l.length:Int):=Int.tmod_nonneg _ hn'.1
   have hm2:Int.tmod n (l.length:Int)<(l.length:Int):=Int.tmod_lt_of_pos _ (by omega)
   obtain ⟨m,hm⟩:=Int.eq_ofNat_of_zero_le hm1
   rw [hm] at hm2
   have hp:l.Perm (l.drop m++l.take m):=by
    have:=List.perm_append_comm (l₁:=l.take m) (l₂:=l.drop m)
    rwa [List.take_append_drop] at this
   refine Ev.step (f:=fun k=>(tag_Canon.f k l).bind fun bt398=>((tag_Canon.f k (l.drop m++l.take m)).bind fun bt402=>(if bt398.2=0 then (if bt402.2=0 then ((ebbtideref03_Same.f k bt398.1 bt402.1).bind fun t406=>(if t406=true then (if (bt398.1.length:Int)=(l.length:Int) then ((tag_Right.f k bt398.1).bind fun t407=>(some t407)) else (none)) else (none))) else (none)) else (if bt402.2=bt398.2 then (some ((wrap64 ((bt398.1.length:Int)+(bt402.1.length:Int))) ==0)) else (none))))) (fun k=>?_) ?_
   ·simp only [ebbtidelaw03_TagOrder.j0,Option.bind_some,hw,hm]
    rw [if_neg (by simp),if_neg (by omega),if_pos (by omega),if_pos (by omega),if_pos (by simp;omega),if_pos (by simp;omega)]
    simp
   ·refine Ev.bind (canon_ev l (by omega)) (Ev.bind (canon_ev _ (by simp;omega)) ?_)
    rw [← canon_perm hp]
    rcases canon_out l with ⟨h1,h2,h3⟩|⟨h1,h2⟩
    ·have hl:=h3.length_eq
     refine Ev_if_pos h1 (Ev_if_pos h1 (Ev.bind (rsame_ev _ _ (by omega)) (Ev_if_pos (sameT_refl _) (Ev_if_pos (by rw [hl]) ?_))))
     refine Ev.bind (tright_ev _ (by omega)) ?_
     rw [h2];exact Ev.now _
    ·refine Ev_if_neg h1 (Ev_if_pos rfl ?_)
     rw [h2];exact Ev_const (by decide+kernel)
end Go.Proofs.YtbefmicenjdfkaaDoor.Pure
