import Derived.Test.YteaadaaghhojfaaGreatDoorZQbPQux11
import Derived.Test.YteaadaaghhojfaaGreatDoorZQbQE
namespace Go.Proofs.YteaadaaghhojfaaGreatDoor.Pure
open Go.RowKit Go.Proofs.YteaadaaghhojfaaGreatDoor.PQu Go.Proofs.YteaadaaghhojfaaGreatDoorW.PrintWords Go.Proofs.YteaadaaghhojfaaGreatDoorW.PrintLast Go.Proofs.YteaadaaghhojfaaGreatDoorW.PrintMore Go.Proofs.YteaadaaghhojfaaGreatDoorW.XP Go.Proofs.YteaadaaghhojfaaGreatDoorW.XW
set_option linter.unusedVariables false
set_option linter.unusedSimpArgs false
theorem go_out:∀ (ps:List ByteArray) (acc:List MT),(∀ t∈acc,mayM t=true)→(goM acc ps).2=0→rightM (goM acc ps).1=true
 | [],acc,h,h0=>by
  rw [goM] at h0 ⊢
  by_cases h4:acc.length>4
  ·rw [if_pos h4] at h0;exact absurd h0 (by decide)
  ·rw [if_neg h4]
   unfold rightM
   rw [Bool.and_eq_true,decide_eq_true_eq,List.all_eq_true]
   exact ⟨by show acc.length≤4;omega,h⟩
 | x ::r,acc,h,h0=>by
  rw [goM] at h0 ⊢
  by_cases hm:mayM (partM x)=true
  ·rw [if_pos hm] at h0 ⊢
   exact go_out r _ (fun t ht=>by
    rcases List.mem_append.1 ht with ht|ht
    ·exact h t ht
    ·simp only [List.mem_cons,List.not_mem_nil,or_false] at ht;rw [ht];exact hm) h0
  ·rw [if_neg hm] at h0;exact absurd h0 (by decide)
theorem parseM_out (s:ByteArray) (h:(parseM s).2=0):rightM (parseM s).1=true:=by
 unfold parseM at h ⊢
 by_cases h0:bl s=[]
 ·rw [if_pos h0];rfl
 ·rw [if_neg h0] at h ⊢;exact go_out _ _ (fun t ht=>by cases ht) h
theorem rd1_out (x0 x1:ByteArray) (o:Option ByteArray):(rd1Q x0 x1 o).1=0→rightQ (rd1Q x0 x1 o).2.1 (rd1Q x0 x1 o).2.2.1 (rd1Q x0 x1 o).2.2.2.1 (rd1Q x0 x1 o).2.2.2.2=true:=by
 unfold rd1Q
 by_cases ha:aggN x0=0
 ·rw [if_pos ha];exact fun h=>absurd h (by decide)
 ·rw [if_neg ha]
  have hr:=(agg_range x0).resolve_left ha
  by_cases hs:(seriesQ x1).1=0
  ·rw [if_pos hs]
   intro hn
   have hk:nameL (bl (seriesQ x1).2.1)=true∧rightM (seriesQ x1).2.2=true:=by
    unfold seriesQ at hs ⊢
    by_cases h1:(cutK x1).2.2=true
    ·rw [if_pos h1] at hs ⊢
     by_cases h2:nameL (bl (cutK x1).1)=true
     ·rw [if_pos h2] at hs ⊢;exact ⟨h2,parseM_out _ hs⟩
     ·rw [if_neg h2] at hs;exact absurd hs (by decide)
    ·rw [if_neg h1] at hs;exact absurd hs (by decide)
   unfold rightQ
   simp only [Bool.and_eq_true,decide_eq_true_eq]
   exact ⟨⟨hr.1,hr.2.1⟩,hk.1,hk.2,hn⟩
  ·rw [if_neg hs];exact fun h=>absurd h hs
theorem rd_out (l:List ByteArray):(rdQ l).1=0→rightQ (rdQ l).2.1 (rdQ l).2.2.1 (rdQ l).2.2.2.1 (rdQ l).2.2.2.2=true:=by
 match l with
 | [x0,x1]=>exact rd1_out x0 x1 none
 | [x0,x1,x2,x3] =>
  show (if bl x2=[98,121] then rd1Q x0 x1 (some x3) else bad2 2).1=0→rightQ (if bl x2=[98,121] then rd1Q x0 x1 (some x3) else bad2 2).2.1 _ _ _=true
  by_cases h:bl x2=[98,121]
  ·simp only [rdQ,if_pos h];exact rd1_out x0 x1 (some x3)
  ·simp only [rdQ,if_neg h];exact fun h=>absurd h (by decide)
 | []=>exact fun h=>absurd h (by decide)
 | [_]=>exact fun h=>absurd h (show ¬ ((2:Int)=0) by decide)
 | [_,_,_]=>exact fun h=>absurd h (show ¬ ((2:Int)=0) by decide)
 | _ ::_ ::_ ::_ ::_ ::_=>exact fun h=>absurd h (show ¬ ((2:Int)=0) by decide)
theorem parseQ_out (s:ByteArray):((parseQ s).2.2.2.2=0∧rightQ (parseQ s).1 (parseQ s).2.1 (parseQ s).2.2.1 (parseQ s).2.2.2.1=true)∨((parseQ s).2.2.2.2≠0∧(parseQ s).1=0∧(parseQ s).2.1=NoB∧(parseQ s).2.2.1=[]∧(parseQ s).2.2.2.1=[]):=by
 unfold parseQ finQ
 by_cases h:(rdQ (fieldsB s)).1=0
 ·rw [if_pos h];exact .inl ⟨rfl,rd_out _ h⟩
 ·rw [if_neg h];exact .inr ⟨h,rfl,rfl,rfl,rfl⟩
theorem rightQ_len {a:Int} {n:ByteArray} {m:List MT} {b:List ByteArray} (h:rightQ a n m b=true):m.length≤4∧b.length≤4:=by
 obtain ⟨_,_,hm,hb⟩:=rightQ_parts h
 exact ⟨(rightM_parts hm).1,(namesS_parts hb).1⟩
theorem parseQ_len (s:ByteArray):(parseQ s).2.2.1.length≤4∧(parseQ s).2.2.2.1.length≤4:=by
 rcases parseQ_out s with ⟨_,h⟩|⟨_,_,_,h1,h2⟩
 ·exact rightQ_len h
 ·rw [h1,h2];simp
theorem qalive_ev:Ev (fun k=>ebbtidelaw07_alive.f k) true:=by
 unfold ebbtidelaw07_alive.f
 refine Ev.bind (qparse_ev _ (by decide)) (Ev.bind (qparse_ev _ (by decide)) (Ev.bind (qparse_ev _ (by decide)) (Ev.bind (rkeyparse_ev _ (by decide)) ?_)))
 refine Ev_if_pos (by decide+kernel) (Ev_if_pos (by decide+kernel) (Ev_if_pos (by decide+kernel) (Ev_if_pos (by decide+kernel) ?_)))
 refine Ev_if_pos (by rw [toList_bl];decide+kernel) (Ev_if_pos (by decide+kernel) (Ev_if_pos (by decide+kernel) ?_))
 refine Ev.bind (qtext_ev _ _ _ _ (by decide+kernel) (by decide+kernel)) (Ev_if_pos (by rw [toList_bl];decide+kernel) ?_)
 refine Ev.bind (qright_ev _ _ _ _ (by decide+kernel) (by decide+kernel)) (Ev_if_pos (by decide+kernel) ?_)
 refine Ev.bind (qfits_ev _ _ _ _ _ _ (by decide+kernel) (by decide+kernel)).1 (Ev_if_pos (by decide+kernel) ?_)
 refine Ev.bind (qgroup_ev _ _ _ _ _ _ (by decide+kernel) ((rightK_fit (n:=⟨#[97]⟩) (by decide+kernel)).2.1)).1 (Ev_if_pos (by rw [toList_bl];decide+kernel) ?_)
 refine Ev.bind (qsame_ev _ _ _ _ _ _ _ _ (by decide+kernel) (by decide+kernel)) (Ev_if_pos (by decide+kernel) ?_)
 refine Ev.bind (qsame_ev _ _ _ _ _ _ _ _ (by decide+kernel) (by decide+kernel)) ?_
 exact Ev_const (by decide+kernel)
end Go.Proofs.YteaadaaghhojfaaGreatDoor.Pure
