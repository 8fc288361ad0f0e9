/- TagTells: the plain law. -/
import Derived.Test.YtbefmicenjdfkaaDoorPTkx10
import Derived.Test.YtbefmicenjdfkaaDoorPZ
namespace Go.Proofs.YtbefmicenjdfkaaDoor.Pure
open Go.RowKit Go.Proofs.YtbefmicenjdfkaaDoor.PTk Go.Proofs.YtbefmicenjdfkaaDoorW.PrintWords Go.Proofs.YtbefmicenjdfkaaDoorW.PrintLast Go.Proofs.YtbefmicenjdfkaaDoorW.PrintMore Go.Proofs.YtbefmicenjdfkaaDoorW.XP Go.Proofs.YtbefmicenjdfkaaDoorW.XW
set_option linter.unusedVariables false
set_option linter.unusedSimpArgs false
abbrev TLaw := List S52
theorem canon_len (l : TLaw) : (canonT l).1.length ≤ l.length := by
  rcases canon_out l with ⟨_, _, h3⟩ | ⟨_, h3⟩
  · rw [h3.length_eq]; exact Nat.le_refl _
  · rw [h3]; simp
theorem tagtells_l0 (l : TLaw) (ks : List ByteArray) (hg : greatT l = false) (hk : ks.length ≤ 20) : ∀ (d i : Nat), i + d = ks.length →
    Ev (fun k => ebbtidelaw03_TagTells.l0 k l ks l (canonT l).1 (canonT l).2 (canonT l).1 (canonT l).2 (i : Int)) true
  | 0, i, hd => by
    have hng := not_great hg
    have hf := not_great_fit hg
    have hc := canon_len l
    refine Ev.step (f := fun k => (ebbtideref03_Same.f k (canonT l).1 (canonT l).1).bind fun t310 => (if t310 = true then (if (canonT l).2 = (canonT l).2 then ((tag_Right.f k l).bind fun t311 => ((ebbtideref03_Right.f k l).bind fun t312 => (if (t311 == t312) = true then ((tag_Text.f k l).bind fun t313 => ((ebbtideref03_Text.f k l).bind fun t314 => (if t313.toList = t314.toList then ((tag_Only.f k l ks).bind fun t315 => ((ebbtideref03_Only.f k l ks).bind fun t318 => ((ebbtideref03_Same.f k t315 t318).bind fun t321 => (if t321 = true then ((ebbtideref03_Same.f k l l).bind fun t322 => (some t322)) else (none))))) else (none)))) else (none)))) else (none)) else (none))) (fun k => ?_) ?_
    · simp only [ebbtidelaw03_TagTells.l0]; rw [if_neg (by omega)]
    · refine Ev.bind (rsame_ev _ _ (by omega)) (Ev_if_pos (sameT_refl _) (Ev_if_pos rfl ?_))
      refine Ev.bind (tright_ev l (by omega)) (Ev.bind (rright_ev l (by omega)) (Ev_if_pos (by simp) ?_))
      refine Ev.bind (text_ev l hf) (Ev.bind (rtext_ev l hf) (Ev_if_pos rfl ?_))
      refine Ev.bind (only_ev l ks (by omega) (by omega)) (Ev.bind (ronly_ev l ks (by omega) (by omega)) ?_)
      have ho : (onlyT l ks).length ≤ l.length := List.length_filter_le _ _
      refine Ev.bind (rsame_ev _ _ (by omega)) (Ev_if_pos (sameT_refl _) ?_)
      refine Ev.bind (rsame_ev _ _ (by omega)) ?_
      rw [sameT_refl]; exact Ev.now _
  | d + 1, i, hd => by
    have hng := not_great hg
    have hi : i < ks.length := by omega
    refine Ev.step (f := fun k => (tag_Find.f k l ks[i]).bind fun bt305 => ((ebbtideref03_Find.f k l ks[i]).bind fun bt308 => (if bt305.1.toList = bt308.1.toList then (if (bt305.2 != bt308.2) = true then (none) else (ebbtidelaw03_TagTells.l0 k l ks l (canonT l).1 (canonT l).2 (canonT l).1 (canonT l).2 ((i + 1 : Nat) : Int))) else (none)))) (fun k => ?_) ?_
    · simp only [ebbtidelaw03_TagTells.l0]; rw [if_pos (by omega), if_pos (by omega), rdOf_lt _ ks i hi, wrap_up i (by omega)]
    · refine Ev.bind (find_ev l _ (by omega)) (Ev.bind (rfind_ev l _ (by omega)) (Ev_if_pos rfl (Ev_if_neg (by simp) ?_)))
      exact tagtells_l0 l ks hg hk d (i + 1) (by omega)
theorem TagTells : ∀ (x0 : TLaw) (x1 : List ByteArray), (x0.length * 32 ≤ 140737488351232 ∧ ∀ x_ ∈ x0, (x_.f0.size ≤ 140737488351232 ∧ x_.f1.size ≤ 140737488351232)) → (x1.length * 16 ≤ 140737488351232 ∧ ∀ x_ ∈ x1, x_.size ≤ 140737488351232) → ∃ k, ebbtidelaw03_TagTells.f k x0 x1 = some true := by
  intro l ks _ _
  refine Ev.rounds (g := fun k => ebbtidelaw03_TagTells.f k l ks) ?_
  unfold ebbtidelaw03_TagTells.f
  refine Ev.bind talive_ev (Ev_if_pos rfl (Ev.bind (great_ev l) ?_))
  have ht : Ev (fun k => ebbtidelaw03_TagTells.j0 k l ks true) true := Ev.step (f := fun _ => some true) (fun k => by simp [ebbtidelaw03_TagTells.j0]) (Ev.now _)
  cases hg : greatT l with
  | true => exact Ev_if_pos rfl ht
  | false =>
    refine Ev_if_neg (by simp) ?_
    by_cases h : (ks.length : Int) > 20
    · rw [decide_eq_true h]; exact ht
    · rw [decide_eq_false h]
      have hng := not_great hg
      refine Ev.step (f := fun k => (tag_Canon.f k l).bind fun bt296 => ((ebbtideref03_Canon.f k l).bind fun bt300 => (ebbtidelaw03_TagTells.l0 k l ks l bt296.1 bt296.2 bt300.1 bt300.2 0))) (fun k => ?_) ?_
      · simp only [ebbtidelaw03_TagTells.j0, Option.bind_some]
        rw [if_neg (by simp), if_pos (by simp; omega)]; rfl
      · refine Ev.bind (canon_ev l (by omega)) (Ev.bind (rcanon_ev l (by omega)) ?_)
        exact tagtells_l0 l ks hg (by omega) ks.length 0 (by omega)
end Go.Proofs.YtbefmicenjdfkaaDoor.Pure
