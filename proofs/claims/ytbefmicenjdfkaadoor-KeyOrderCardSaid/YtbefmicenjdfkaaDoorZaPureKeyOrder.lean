import Derived.Test.YtbefmicenjdfkaaDoorZaPTkx19
import Derived.Test.YtbefmicenjdfkaaDoorZaPTkxk
import Derived.Test.YtbefmicenjdfkaaDoorZaKP
namespace Go.Proofs.YtbefmicenjdfkaaDoor.Pure
open Go.RowKit Go.Proofs.YtbefmicenjdfkaaDoor.PTk Go.Proofs.YtbefmicenjdfkaaDoorW.PrintWords Go.Proofs.YtbefmicenjdfkaaDoorW.PrintLast Go.Proofs.YtbefmicenjdfkaaDoorW.PrintMore Go.Proofs.YtbefmicenjdfkaaDoorW.XP Go.Proofs.YtbefmicenjdfkaaDoorW.XW
set_option linter.unusedVariables false
set_option linter.unusedSimpArgs false
abbrev TLaw:=List S52
abbrev KLaw:=S41
theorem make_perm (n:ByteArray) {a b:TLaw} (h:a.Perm b):makeK n a=makeK n b:=by
 unfold makeK;rw [canon_perm h]
theorem KeyOrder:∀ (x0:ByteArray) (x1:TLaw) (x2:Int),x0.size≤140737488351232→(x1.length * 32≤140737488351232∧∀ x_∈x1,(x_.f0.size≤140737488351232∧x_.f1.size≤140737488351232))→(Lit.int .u8 x2).wf=true→∃ k,ebbtidelaw04_KeyOrder.f k x0 x1 x2=some true:=by
 intro s l n _ _ hn
 have hn':0≤n∧n<256:=by
  have h1:IntKind.u8.min≤n∧n≤IntKind.u8.max:=by simpa [Lit.wf] using hn
  have h2:IntKind.u8.min=0:=by decide
  have h3:IntKind.u8.max=255:=by decide
  omega
 refine Ev.rounds (g:=fun k=>ebbtidelaw04_KeyOrder.f k s l n) ?_
 unfold ebbtidelaw04_KeyOrder.f
 refine Ev.bind kalive_ev (Ev_if_pos rfl (Ev.bind (great_ev l) ?_))
 have ht:Ev (fun k=>ebbtidelaw04_KeyOrder.j0 k s l n true) true:=Ev.step (f:=fun _=>some true) (fun k=>by simp [ebbtidelaw04_KeyOrder.j0]) (Ev.now _)
 cases hg:greatT l with
 | true=>exact Ev_if_pos rfl ht
 | false =>
  refine Ev_if_neg (by simp) ?_
  by_cases h0:(s.size:Int)>200
  ·exact Ev_if_pos h0 ht
  refine Ev_if_neg h0 ?_
  by_cases h:l.length=0
  ·rw [show ((l.length:Int) ==0)=true by simp [h]];exact ht
  ·rw [show ((l.length:Int) ==0)=false from by rw [beq_eq_false_iff_ne];omega]
   have hng:=not_great hg
   have hw:wrap64 n=n:=by unfold wrap64;omega
   have hm1:0≤Int.tmod n (l.length:Int):=Int.tmod_nonneg _ hn'.1
   have hm2:Int.tmod n (l.length:Int)<(l.length:Int):=Int.tmod_lt_of_pos _ (by omega)
   obtain ⟨m,hm⟩:=Int.eq_ofNat_of_zero_le hm1
   rw [hm] at hm2
   have hp:l.Perm (l.drop m++l.take m):=by
    have:=List.perm_append_comm (l₁:=l.take m) (l₂:=l.drop m)
    rwa [List.take_append_drop] at this
   refine Ev_succ ?_
   simp only [ebbtidelaw04_KeyOrder.j0,Option.bind_some,hw,hm,List.nil_append,Int.toNat_natCast]
   refine Ev_if_neg (by simp) (Ev_if_neg (by omega) (Ev_if_pos (by omega) (Ev_if_pos (by omega) (Ev_if_pos (by simp;omega) (Ev_if_pos (by simp;omega) ?_)))))
   refine Ev.bind (make_ev s l (by omega)) (Ev.bind (make_ev s _ (by simp;omega)) ?_)
   rw [← make_perm s hp]
   obtain ⟨h5,h6⟩:=makeK_fit s l
   have h7:=h6.1
   refine Ev.bind (rkeysame_ev _ _ _ _ (by omega)) (Ev_if_pos (sameK_refl _ _) (Ev_if_pos rfl ?_))
   refine Ev.bind (keytext_ev _ _ (by omega) h6) (Ev.bind (keytext_ev _ _ (by omega) h6) ?_)
   simpa using Ev.now true
end Go.Proofs.YtbefmicenjdfkaaDoor.Pure
