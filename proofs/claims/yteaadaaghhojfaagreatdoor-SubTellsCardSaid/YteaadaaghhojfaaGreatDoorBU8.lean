/- A part of the proof: GS1, GS2, GS3. No condition. -/
import Derived.Test.YteaadaaghhojfaaGreatDoorBU7
section
namespace Go.Proofs.YteaadaaghhojfaaGreatDoorE
open Go Go.Proofs
set_option linter.unusedVariables false
set_option linter.unusedSimpArgs false
/-! ### changes from rows to rows, applied to the first, make the second -/
theorem applyR_cons (x : RW) (r : List RW) (cs : List CH) (h : ∀ c ∈ cs, befR x c.1 = true) : applyR (x :: r) cs = (applyR r cs).map (x :: ·) := by
  cases cs with
  | nil => rfl
  | cons c cs =>
    have hx := h c List.mem_cons_self
    rw [applyR, applyR, List.takeWhile_cons_of_pos (by simpa using hx), List.dropWhile_cons_of_pos (by simpa using hx)]
    cases c.2.1 with
    | true =>
      simp only [cond_true]
      cases thereR c (r.dropWhile fun x => befR x c.1) with
      | false => rfl
      | true => simp only [cond_true]; cases applyR _ cs <;> simp
    | false => simp only [cond_false]; cases applyR _ cs <;> simp
theorem apply_of : ∀ (m : Nat) (a b : List RW), a.length + b.length ≤ m → Asc id a → Asc id b → applyR a (ofR a b) = some b := by
  intro m
  induction m with
  | zero =>
    intro a b h _ _
    have ha : a = [] := List.length_eq_zero_iff.1 (by omega)
    have hb' : b = [] := List.length_eq_zero_iff.1 (by omega)
    subst ha; subst hb'
    rw [of_nn]; rfl
  | succ m ih =>
    intro a b h ha hb
    have goes : ∀ (x : RW) (a' : List RW) (cs : List CH), applyR (x :: a') (goneC x :: cs) = applyR a' cs := by
      intro x a' cs
      rw [applyR]
      have hx : befR x (goneC x).1 = false := key_bef ⟨rfl, rfl⟩
      have hx' : befR (goneC x).1 x = false := key_bef ⟨rfl, rfl⟩
      rw [List.takeWhile_cons_of_neg (by simp [hx]), List.dropWhile_cons_of_neg (by simp [hx])]
      have ht : thereR (goneC x) (x :: a') = true := by simp only [thereR, hx', Bool.not_false]
      have hg : (goneC x).2.1 = true := rfl
      rw [hg, ht]
      simp only [cond_true, List.drop_succ_cons, List.drop_zero]
      cases applyR a' cs <;> rfl
    have up0 : ∀ (y : RW) (cs : List CH), applyR [] (upC y :: cs) = (applyR [] cs).map (y :: ·) := by
      intro y cs
      rw [applyR]; rfl
    have upb : ∀ (x y : RW) (a' : List RW) (cs : List CH), befR x y = false → befR y x = true → applyR (x :: a') (upC y :: cs) = (applyR (x :: a') cs).map (y :: ·) := by
      intro x y a' cs h1 h2
      rw [applyR]
      have e1 : befR x (upC y).1 = false := h1
      rw [List.takeWhile_cons_of_neg (by simp [e1]), List.dropWhile_cons_of_neg (by simp [e1])]
      have ht : thereR (upC y) (x :: a') = false := by simp only [thereR]; rw [show befR (upC y).1 x = true from h2]; rfl
      rw [ht]; rfl
    have upe : ∀ (x y : RW) (a' : List RW) (cs : List CH), befR x y = false → befR y x = false → applyR (x :: a') (upC y :: cs) = (applyR a' cs).map (y :: ·) := by
      intro x y a' cs h1 h2
      rw [applyR]
      have e1 : befR x (upC y).1 = false := h1
      rw [List.takeWhile_cons_of_neg (by simp [e1]), List.dropWhile_cons_of_neg (by simp [e1])]
      have ht : thereR (upC y) (x :: a') = true := by simp only [thereR]; rw [show befR (upC y).1 x = false from h2]; rfl
      rw [ht]; rfl
    cases a with
    | nil =>
      cases b with
      | nil => rw [of_nn]; rfl
      | cons y b =>
        rw [of_nc, up0, ih [] b (by simp at h ⊢; omega) ha (asc_cons.1 hb).2]; rfl
    | cons x a =>
      have ha' := asc_cons.1 ha
      cases b with
      | nil => rw [of_cn, goes, ih a [] (by simp at h ⊢; omega) ha'.2 hb]
      | cons y b =>
        have hb' := asc_cons.1 hb
        rw [of_cc]
        cases c1 : befR x y with
        | true => rw [cond_true, goes, ih a (y :: b) (by simp at h ⊢; omega) ha'.2 hb]
        | false =>
          rw [cond_false]
          cases c2 : befR y x with
          | true => rw [cond_true, upb x y a _ c1 c2, ih (x :: a) b (by simp at h ⊢; omega) ha hb'.2]; rfl
          | false =>
            rw [cond_false]
            have hk := bef_total c1 c2
            by_cases e : x = y
            · rw [eqb_t e, cond_true, applyR_cons, ih a b (by simp at h ⊢; omega) ha'.2 hb'.2, e]
              · rfl
              · intro c hc
                rcases (of_mem _ a b (Nat.le_refl _) ha'.2 hb'.2 c).1 hc with ⟨u, hu, _, rfl⟩ | ⟨v, hv, _, rfl⟩
                · exact ha'.1 u hu
                · have := hb'.1 v hv; rw [e]; exact this
            · rw [eqb_f e, cond_false, upe x y a _ c1 c2, ih a b (by simp at h ⊢; omega) ha'.2 hb'.2]; rfl
theorem of_right {a b : List RW} (ha : rightR a = true) (hb : rightR b = true) : rightC (ofR a b) = true := by
  have h1 := right_asc ha
  have h2 := right_asc hb
  have hm := of_mem _ a b (Nat.le_refl _) h1 h2
  unfold rightR at ha hb
  rw [Bool.and_eq_true, List.all_eq_true] at ha hb
  unfold rightC rightR
  have e1 : (ofR a b).any badC = false := by
    rw [List.any_eq_false]
    intro c hc
    rcases (hm c).1 hc with ⟨u, hu, _, rfl⟩ | ⟨v, hv, _, rfl⟩
    · simp [badC, goneC, zeroV]
    · simp [badC, upC]
  rw [e1, Bool.not_false, Bool.true_and, Bool.and_eq_true, List.all_eq_true]
  constructor
  · intro r hr
    obtain ⟨c, hc, rfl⟩ := List.mem_map.1 hr
    rcases (hm c).1 hc with ⟨u, hu, _, rfl⟩ | ⟨v, hv, _, rfl⟩
    · exact ha.1 u hu
    · exact hb.1 v hv
  · rw [rise_asc]
    have := of_asc _ a b (Nat.le_refl _) h1 h2
    unfold Asc at this ⊢
    rw [List.pairwise_map]
    exact this
theorem applyE_of {a b : List RW} (ha : rightR a = true) (hb : rightR b = true) : applyE a (ofR a b) = (b, (0 : Int), ()) := by
  unfold applyE
  rw [ha, of_right ha hb, apply_of _ a b (Nat.le_refl _) (right_asc ha) (right_asc hb)]
  rfl
/-! ### messages, one behind the other -/
theorem run_app : ∀ (l : List MG) (rows : List RW) (st : Int) (bg : Bool) (m : MG) (p : List RW × Int), runS rows st bg l = .inl p → runS rows st bg (l ++ [m]) = seeS p.1 p.2 (bg || decide (l ≠ [])) m
  | [], rows, st, bg, m, p, h => by
    simp [runS] at h; subst h
    rw [show (bg || decide (([] : List MG) ≠ [])) = bg by simp]
    simp only [List.nil_append, runS]
    cases seeS rows st bg m with
    | inl q => rfl
    | inr e => rfl
  | x :: l, rows, st, bg, m, p, h => by
    rw [runS] at h
    rw [List.cons_append, runS]
    cases hs : seeS rows st bg x with
    | inr e => rw [hs] at h; cases h
    | inl q =>
      rw [hs] at h
      have := run_app l q.1 q.2 true m p h
      simp only [this]
      simp
end Go.Proofs.YteaadaaghhojfaaGreatDoorE
end
section
namespace Go.Proofs.YteaadaaghhojfaaGreatDoorE
open Go Go.Proofs
set_option linter.unusedVariables false
set_option linter.unusedSimpArgs false
abbrev PU := El tLaw19_Push
/-- the rows that were pushed at a stamp -/
def Good (l : List PU) (r : List RW) (t : Int) : Prop := ∃ p ∈ l, p.1 = t ∧ p.2.1 = r
structure Okl (l : List PU) : Prop where
  gr : ∀ p ∈ l, greatR p.2.1 = false
  rt : ∀ p ∈ l, rightR p.2.1 = true
  nn : ∀ p ∈ l, 0 ≤ p.1
  up : ∀ (i : Nat) (h : i + 1 < l.length), l[i].1 < l[i + 1].1
structure Inv (id : Int) (l : List PU) (room : Int) (s : El tSub) (sent : List MG) (i : Nat) : Prop where
  ids : s.1 = id
  bg : s.2.2.2.2.2.1 = decide (0 < i)
  outL : (s.2.2.2.2.1.length : Int) ≤ room
  allL : sent.length + s.2.2.2.2.1.length ≤ i
  ne : 0 < i → sent ++ s.2.2.2.2.1 ≠ []
  im : ∀ m ∈ sent ++ s.2.2.2.2.1, m.2.1 = id ∧ FitG m
  pre : ∀ (p q : List MG), p ++ q = sent ++ s.2.2.2.2.1 → p ≠ [] → ∃ r t, runS [] 0 false p = .inl (r, t) ∧ (∀ m, p.getLast? = some m → m.2.2.1 = t) ∧ Good l r t
  cur : 0 < i → ∃ t, runS [] 0 false (sent ++ s.2.2.2.2.1) = .inl (s.2.2.2.1, t) ∧ t ≤ s.2.2.1
  right : rightR s.2.2.2.1 = true ∧ greatR s.2.2.2.1 = false
  st : 0 < i → ∀ h : i < l.length, s.2.2.1 < l[i].1
theorem inv_new (id : Int) (l : List PU) (room : Int) (hr : 0 ≤ room) (q : El tQuery) : Inv id l room (id, q, 0, [], [], false, false, ()) [] 0 where
  ids := rfl
  bg := rfl
  outL := by simpa using hr
  allL := by simp
  ne h := by omega
  im m h := by simp at h
  pre p q h hp := by simp at h; exact absurd h.1 hp
  cur h := by omega
  right := ⟨rfl, rfl⟩
  st h := by omega
/-- a message is sent -/
theorem inv_send {id : Int} {l : List PU} {room : Int} {s : El tSub} {sent : List MG} {i : Nat} {m : MG} {r : List MG} (h : Inv id l room s sent i) (ho : s.2.2.2.2.1 = m :: r) :
    Inv id l room (s.1, s.2.1, s.2.2.1, s.2.2.2.1, r, s.2.2.2.2.2) (sent ++ [m]) i := by
  have e : (sent ++ [m]) ++ r = sent ++ s.2.2.2.2.1 := by rw [ho]; simp
  refine ⟨h.ids, h.bg, ?_, ?_, ?_, ?_, ?_, ?_, h.right, h.st⟩
  · have := h.outL; rw [ho] at this; simp at this ⊢; omega
  · have := h.allL; rw [ho] at this; simp at this ⊢; omega
  · intro hi; rw [e]; exact h.ne hi
  · intro x hx; rw [e] at hx; exact h.im x hx
  · intro p q hp; rw [e] at hp; exact h.pre p q hp
  · intro hi; rw [e]; exact h.cur hi
/-- one more message waits -/
theorem pre_put {l : List PU} {all : List MG} {m : MG} {rows : List RW} {st : Int} (h : ∀ (p q : List MG), p ++ q = all → p ≠ [] → ∃ r t, runS [] 0 false p = .inl (r, t) ∧ (∀ m, p.getLast? = some m → m.2.2.1 = t) ∧ Good l r t)
    (hr : runS [] 0 false (all ++ [m]) = .inl (rows, st)) (hm : m.2.2.1 = st) (hg : Good l rows st) :
    ∀ (p q : List MG), p ++ q = all ++ [m] → p ≠ [] → ∃ r t, runS [] 0 false p = .inl (r, t) ∧ (∀ m, p.getLast? = some m → m.2.2.1 = t) ∧ Good l r t := by
  intro p q hpq hp
  rcases List.eq_nil_or_concat q with rfl | ⟨q', x, rfl⟩
  · rw [List.append_nil] at hpq
    subst hpq
    refine ⟨rows, st, hr, fun m' hm' => ?_, hg⟩
    simp at hm'; subst hm'; exact hm
  · rw [List.concat_eq_append, ← List.append_assoc] at hpq
    have := List.append_inj' hpq rfl
    exact h p q' this.1 hp
theorem ofR_fit {a b : List RW} (ha : rightR a = true) (hb : rightR b = true) (ga : greatR a = false) (gb : greatR b = false) : (ofR a b).length ≤ 1000 ∧ ∀ c ∈ ofR a b, c.1.2.1.size ≤ 300 := by
  have l1 := limR ga
  have l2 := limR gb
  refine ⟨by have := of_len _ a b (Nat.le_refl _); omega, fun c hc => ?_⟩
  rcases (of_mem _ a b (Nat.le_refl _) (right_asc ha) (right_asc hb) c).1 hc with ⟨u, hu, _, rfl⟩ | ⟨v, hv, _, rfl⟩
  · exact l1.2 u hu
  · exact l2.2 v hv
theorem fitG_rows {k id st : Int} {rows : List RW} (g : greatR rows = false) : FitG (k, id, st, rows, [], ()) := ⟨⟨by have := (limR g).1; simp only; omega, (limR g).2⟩, by simp, fun c hc => by simp at hc⟩
theorem fitG_chg {k id st : Int} {ch : List CH} (h : ch.length ≤ 1000 ∧ ∀ c ∈ ch, c.1.2.1.size ≤ 300) : FitG (k, id, st, [], ch, ()) := ⟨⟨by simp, fun r hr => by simp at hr⟩, h⟩
/-- a push -/
theorem inv_push {id : Int} {l : List PU} {room : Int} {s : El tSub} {sent : List MG} {i : Nat} (h : Inv id l room s sent i) (ok : Okl l) (hroom : 1 ≤ room) (hi : i < l.length) :
    Inv id l room (pushS s l[i].1 l[i].2.1 (ofR s.2.2.2.1 l[i].2.1) room) sent (i + 1) := by
  have hp := List.getElem_mem hi
  have g1 := ok.gr _ hp
  have g2 := ok.rt _ hp
  have g3 := ok.nn _ hp
  have hgood : Good l l[i].2.1 l[i].1 := ⟨l[i], hp, rfl, rfl⟩
  have hnext : ∀ h' : i + 1 < l.length, l[i].1 < l[i + 1].1 := fun h' => ok.up i h'
  obtain ⟨hids, hbg, houtL, hallL, hne, him, hpre, hcur, hright, hst⟩ := h
  obtain ⟨id', q, ss, rs, out, bg, lo, ⟨⟩⟩ := s
  simp only at hids hbg houtL hallL hne him hpre hcur hright hst
  subst hids
  generalize hst' : l[i].1 = st at *
  generalize hrows : l[i].2.1 = rows at *
  have put : ∀ (k : Int) (mr : List RW) (mc : List CH) (lo' : Bool), FitG (k, id', st, mr, mc, ()) → runS [] 0 false ((sent ++ out) ++ [(k, id', st, mr, mc, ())]) = .inl (rows, st) → (out.length : Int) < room →
      Inv id' l room (id', q, st, rows, out ++ [(k, id', st, mr, mc, ())], true, lo', ()) sent (i + 1) := by
    intro k mr mc lo' hf hr hl
    have e : sent ++ (out ++ [(k, id', st, mr, mc, ())]) = (sent ++ out) ++ [(k, id', st, mr, mc, ())] := by simp
    refine ⟨rfl, by simp, by simp; omega, by simp; omega, fun _ => by simp, ?_, ?_, fun _ => ⟨st, by rw [e]; exact hr, Int.le_refl _⟩, ⟨g2, g1⟩, fun _ h' => hnext h'⟩
    · intro m hm
      rw [e] at hm
      rcases List.mem_append.1 hm with hm | hm
      · exact him m hm
      · simp at hm; subst hm; exact ⟨rfl, hf⟩
    · intro p q' hpq hpne
      rw [e] at hpq
      exact pre_put hpre hr rfl hgood p q' hpq hpne
  unfold pushS
  by_cases hi0 : i = 0
  · subst hi0
    have hbg' : bg = false := by simpa using hbg
    subst hbg'
    have hall : sent = [] ∧ out = [] := ⟨List.length_eq_zero_iff.1 (by omega), List.length_eq_zero_iff.1 (by omega)⟩
    obtain ⟨rfl, rfl⟩ := hall
    have hn : ¬ st < 0 := Int.not_lt.2 g3
    have hr : runS [] 0 false (([] ++ []) ++ [((1 : Int), id', st, rows, [], ())]) = .inl (rows, st) := by
      simp [runS, seeS, hn, g2]
    have := put 1 rows [] lo (fitG_rows g1) hr (by simp; omega)
    simpa using this
  · have hip : 0 < i := by omega
    have hbg' : bg = true := by rw [hbg]; exact decide_eq_true hip
    subst hbg'
    obtain ⟨t, hrun, hts⟩ := hcur hip
    have hlt := hst hip hi
    rw [hst'] at hlt
    have k1 : ¬ st ≤ ss := Int.not_le.2 hlt
    have k2 : ¬ st < t := Int.not_lt.2 (Int.le_trans hts (Int.le_of_lt hlt))
    have k3 : ¬ st = t := fun e => Int.not_lt.2 hts (by rw [← e]; exact hlt)
    have hrunm : ∀ m : MG, runS [] 0 false ((sent ++ out) ++ [m]) = seeS rs t true m := by
      intro m
      have := run_app (sent ++ out) [] 0 false m (rs, t) hrun
      rw [this]
      have hne' := hne hip
      simp [hne']
    have stay : ∀ (lo' : Bool) (ss' : Int), ss ≤ ss' → ss' ≤ st → Inv id' l room (id', q, ss', rs, out, true, lo', ()) sent (i + 1) := by
      intro lo' ss' h1 h2
      exact ⟨rfl, by simp, houtL, by simp only; omega, fun _ => hne hip, him, hpre, fun _ => ⟨t, hrun, Int.le_trans hts h1⟩, hright, fun _ h' => Int.lt_of_le_of_lt h2 (hnext h')⟩
    simp only [Bool.not_true, cond_false, decide_eq_false k1]
    cases lo with
    | true =>
      simp only [cond_true]
      by_cases k4 : (out.length : Int) < room
      · rw [decide_eq_true k4, cond_true]
        exact put 3 rows [] false (fitG_rows g1) (by rw [hrunm]; simp [seeS, k2, k3, g2]) k4
      · rw [decide_eq_false k4, cond_false]
        exact stay true ss (Int.le_refl _) (Int.le_of_lt hlt)
    | false =>
      simp only [cond_false]
      by_cases k5 : (ofR rs rows).length = 0
      · rw [decide_eq_true k5, cond_true]
        exact stay false st (Int.le_of_lt hlt) (Int.le_refl _)
      · rw [decide_eq_false k5, cond_false]
        by_cases k4 : (out.length : Int) < room
        · rw [decide_eq_true k4, cond_true]
          refine put 2 [] (ofR rs rows) false (fitG_chg (ofR_fit hright.1 g2 hright.2 g1)) ?_ k4
          rw [hrunm]
          simp [seeS, k2, k3, applyE_of hright.1 g2]
        · rw [decide_eq_false k4, cond_false]
          exact stay true ss (Int.le_refl _) (Int.le_of_lt hlt)
end Go.Proofs.YteaadaaghhojfaaGreatDoorE
end
section
namespace Go.Proofs.YteaadaaghhojfaaGreatDoorE
open Go Go.Proofs
set_option linter.unusedVariables false
set_option linter.unusedSimpArgs false
noncomputable def foundB (rows : List RW) (at_ : Int) (p : PU) : Bool := decide (p.1 = at_) && eqb p.2.1 rows
theorem tells_l3 {n : Nat} (hn : Big n) (id : Int) (l : List PU) (hl : l.length ≤ 20) (hg : ∀ p ∈ l, greatR p.2.1 = false) (room : Int) (s : El tSub) (sent : List MG) (i k : Int) (rows : List RW) (at_ : Int) : ∀ (d j g : Nat) (found : Bool), j + d = l.length → d < g →
    law_Tells_l3 n g (id, l, room, s, sent, i, k, rows, at_, found, (j : Int), ()) = some (.inl (id, l, room, s, sent, i, k, found || (l.drop j).any (foundB rows at_), ()))
  | 0, j, g, found, hd, hg' => by
    obtain ⟨g, rfl⟩ : ∃ g', g = g' + 1 := ⟨g - 1, by omega⟩
    have k1 : ¬ (j : Int) < (l.length : Int) := by omega
    rw [List.drop_of_length_le (by omega)]
    simp only [law_Tells_l3, ilt_eq, ilen, k1, decide_false, cond_false, List.any_nil, Bool.or_false]
  | d + 1, j, g, found, hd, hg' => by
    obtain ⟨g, rfl⟩ : ∃ g', g = g' + 1 := ⟨g - 1, by omega⟩
    have hj : j < l.length := by omega
    have k1 : (j : Int) < (l.length : Int) := by omega
    have k0 : (0 : Int) ≤ j := by omega
    have ej : iadd .i64 (j : Int) 1 = ((j + 1 : Nat) : Int) := iadd1 (by omega)
    have hlim : Lim l[j].2.1 := by have := (limR (hg _ (List.getElem_mem hj))).1; unfold Lim; omega
    have e1 := r08_Same_v hn (b := rows) hlim
    have ih := fun f => tells_l3 hn id l hl hg room s sent i k rows at_ d (j + 1) g f (by omega) (by omega)
    rw [drop_cons l j hj, List.any_cons]
    cases found with
    | true => simp only [law_Tells_l3, ilt_eq, ilen, k1, decide_true, cond_true, ej, bindL_id2, ih, Bool.true_or]
    | false =>
      simp only [law_Tells_l3, ilt_eq, ile_eq, ieq_eq, ilen, k1, k0, decide_true, cond_true, cond_false, lat_eq, iN, Int.toNat_natCast, List.getElem?_eq_getElem hj, bindN_s, e1, ej, bindL_id2, ih, Bool.false_or, foundB]
      cases decide (l[j].1 = at_) <;> simp only [cond_true, cond_false, Bool.true_and, Bool.false_and, Bool.false_or]
theorem sub_Send_v (n : Nat) (s : El tSub) (m : MG) (r : List MG) (ho : s.2.2.2.2.1 = m :: r) (hr : r.length ≤ 100000) : sub_Send n (s, ()) = some ((m, (s.1, s.2.1, s.2.2.1, s.2.2.2.1, r, s.2.2.2.2.2), true, ()), ((), ())) := by
  obtain ⟨id, q, st, rows, out, bg, ls, ⟨⟩⟩ := s
  simp only at ho
  subst ho
  have k1 : room r.length 72 = true := room_of (by omega)
  have e0 : ¬ ((r.length : Int) + 1 = 0) := by omega
  have e1 : (1 : Int) ≤ (r.length : Int) + 1 := by omega
  have e2 : ((r.length : Int) + 1 - 1).toNat = r.length := by omega
  simp [sub_Send, sl_CloneMsg, ilen, k1, e0, e1, e2]
/-- one round of the sending: what the law looks at holds -/
theorem one_send {n : Nat} (hn : Big n) {id : Int} {l : List PU} (ok : Okl l) (hl : l.length ≤ 20) {rm : Int} {s : El tSub} {sent : List MG} {i : Nat} (hi : i ≤ l.length) (h : Inv id l rm s sent i) {m : MG} {r : List MG} (ho : s.2.2.2.2.1 = m :: r) :
    sub_Send n (s, ()) = some ((m, (s.1, s.2.1, s.2.2.1, s.2.2.2.1, r, s.2.2.2.2.2), true, ()), ((), ())) ∧ m.2.1 = id ∧ room (sent.length + 1) 72 = true ∧
    ∃ rows t, sub_ReplayO n (sent ++ [m], ()) = some ((rows, t, (0 : Int), ()), (sent ++ [m], ())) ∧ t = m.2.2.1 ∧ l.any (foundB rows t) = true := by
  have hall := h.allL
  rw [ho] at hall
  simp only [List.length_cons] at hall
  have him : ∀ x ∈ sent ++ [m], x.2.1 = id ∧ FitG x := fun x hx => h.im x (by
    rw [ho]
    rcases List.mem_append.1 hx with hx | hx
    · exact List.mem_append_left _ hx
    · simp at hx; subst hx; simp)
  obtain ⟨rows, t, h1, h2, p, hp, h3, h4⟩ := h.pre (sent ++ [m]) r (by rw [ho]; simp) (by simp)
  have hv := sub_ReplayO_v hn (sent ++ [m]) (by simp; omega) (fun x hx => (him x hx).2)
  rw [h1] at hv
  refine ⟨sub_Send_v n s m r ho (by omega), (him m (by simp)).1, room_of (by omega), rows, t, hv, (h2 m (by simp)).symm, ?_⟩
  rw [List.any_eq_true]
  exact ⟨p, hp, by simp [foundB, h3, h4]⟩
theorem tells_l2 {n : Nat} (hn : Big n) (id : Int) (l : List PU) (ok : Okl l) (hl : l.length ≤ 20) (rm : Int) (i : Nat) (hi : i ≤ l.length) : ∀ (d k g : Nat) (s : El tSub) (sent : List MG), k + d = 9 → d < g → Inv id l rm s sent i →
    ∃ s' sent', law_Tells_l2 n g (id, l, rm, s, sent, (i : Int), (k : Int), ()) = some (.inl (id, l, rm, s', sent', (i : Int), ())) ∧ Inv id l rm s' sent' i ∧ (sent ≠ [] → sent' ≠ []) ∧ (i = l.length → 0 < d → 0 < i → sent' ≠ [])
  | 0, k, g, s, sent, hk, hg, h => by
    obtain ⟨g, rfl⟩ : ∃ g', g = g' + 1 := ⟨g - 1, by omega⟩
    have k9 : ¬ (k : Int) < 9 := by omega
    refine ⟨s, sent, ?_, h, fun q => q, fun _ q _ => by omega⟩
    simp only [law_Tells_l2, ilt_eq, k9, decide_false, cond_false]
    cases decide ((0 : Int) < ilen s.2.2.2.2.1) <;> rfl
  | d + 1, k, g, s, sent, hk, hg, h => by
    obtain ⟨g, rfl⟩ : ∃ g', g = g' + 1 := ⟨g - 1, by omega⟩
    have k9 : (k : Int) < 9 := by omega
    have ek : iadd .i64 (k : Int) 1 = ((k + 1 : Nat) : Int) := iadd1 (by omega)
    cases ho : s.2.2.2.2.1 with
    | nil =>
      refine ⟨s, sent, ?_, h, fun q => q, fun _ _ hi0 => by have := h.ne hi0; rw [ho, List.append_nil] at this; exact this⟩
      simp only [law_Tells_l2, ilt_eq, ho, ilen, List.length_nil, Int.natCast_zero, Int.lt_irrefl, decide_false, cond_false]
    | cons m r =>
      obtain ⟨c1, c2, c3, rows, t, c4, c5, c6⟩ := one_send hn ok hl hi h ho
      have hinv := inv_send h ho
      have hlen : (0 : Int) < ((m :: r).length : Int) := by simp only [List.length_cons]; omega
      have l3 := fun (s : El tSub) (sent : List MG) (i k : Int) (rows : List RW) (at_ : Int) => tells_l3 hn id l hl ok.gr rm s sent i k rows at_ l.length 0 n false (by omega) (by unfold Big at hn; omega)
      simp only [List.drop_zero, Bool.false_or, show ((0 : Nat) : Int) = 0 from rfl] at l3
      subst c5
      by_cases hil : i = l.length
      · have hnlt : ¬ (i : Int) < (l.length : Int) := by omega
        have heq : (i : Int) = (l.length : Int) := by omega
        obtain ⟨s', sent', q1, q2, q3, q4⟩ := tells_l2 hn id l ok hl rm i hi d (k + 1) g _ (sent ++ [m]) (by omega) (by omega) hinv
        refine ⟨s', sent', ?_, q2, fun _ => q3 (by simp), fun _ _ _ => q3 (by simp)⟩
        simp only [law_Tells_l2, ilt_eq, ieq_eq, ho, ilen, hlen, k9, decide_true, cond_true, heq, c1, bindN_s, Bool.not_true, cond_false, c2, roomA, List.length_singleton, c3, app, c4, l3, bindL_inl, c6, Int.lt_irrefl, decide_false, ek]
        rw [heq] at q1
        simp only [q1, bindL_inl]
      · have hlt : i < l.length := by omega
        have hlt' : (i : Int) < (l.length : Int) := by omega
        have hne' : ¬ (i : Int) = (l.length : Int) := by omega
        have k0 : (0 : Int) ≤ i := by omega
        cases hs : l[i].2.2.1 with
        | false =>
          refine ⟨s, sent, ?_, h, fun q => q, fun q => absurd q hil⟩
          simp only [law_Tells_l2, ilt_eq, ile_eq, ieq_eq, ho, ilen, hlen, k9, decide_true, decide_false, cond_true, cond_false, hne', k0, lat_eq, iN, Int.toNat_natCast, List.getElem?_eq_getElem hlt, bindN_s, hs]
        | true =>
          refine ⟨_, sent ++ [m], ?_, hinv, fun _ => by simp, fun q => absurd q hil⟩
          simp only [law_Tells_l2, ilt_eq, ile_eq, ieq_eq, ho, ilen, hlen, hlt', k9, decide_true, decide_false, cond_true, cond_false, hne', k0, lat_eq, iN, Int.toNat_natCast, List.getElem?_eq_getElem hlt, bindN_s, hs, c1, Bool.not_true, c2, roomA, List.length_singleton, c3, app, c4, l3, bindL_inl, c6]
theorem tells_l1 {n : Nat} (hn : Big n) (id : Int) (l : List PU) (ok : Okl l) (hl : l.length ≤ 20) (rm : Int) (hrm : 1 ≤ rm) : ∀ (d i g : Nat) (s : El tSub) (sent : List MG), i + d = l.length → d + 1 < g → Inv id l rm s sent i →
    ∃ sent', law_Tells_l1 n g (id, l, rm, s, sent, (i : Int), ()) = some (.inl (l, sent', ())) ∧ (sent' ≠ [] ∨ l = [])
  | 0, i, g, s, sent, hd, hg, h => by
    obtain ⟨g, rfl⟩ : ∃ g', g = g' + 1 + 1 := ⟨g - 2, by omega⟩
    have hi : i ≤ l.length := by omega
    obtain ⟨s', sent', q1, q2, q3, q4⟩ := tells_l2 hn id l ok hl rm i hi 9 0 n s sent (by omega) (by unfold Big at hn; omega) h
    have k1 : (i : Int) ≤ (l.length : Int) := by omega
    have k2 : ¬ (i : Int) < (l.length : Int) := by omega
    have k3 : ¬ ((i + 1 : Nat) : Int) ≤ (l.length : Int) := by omega
    have ei : iadd .i64 (i : Int) 1 = ((i + 1 : Nat) : Int) := iadd1 (by omega)
    rw [show ((0 : Nat) : Int) = 0 from rfl] at q1
    refine ⟨sent', ?_, ?_⟩
    · simp only [law_Tells_l1, ile_eq, ilt_eq, ilen, k1, k2, k3, decide_true, decide_false, cond_true, cond_false, q1, bindL_inl, ei]
    · by_cases h0 : 0 < i
      · exact .inl (q4 (by omega) (by omega) h0)
      · exact .inr (List.length_eq_zero_iff.1 (by omega))
  | d + 1, i, g, s, sent, hd, hg, h => by
    obtain ⟨g, rfl⟩ : ∃ g', g = g' + 1 := ⟨g - 1, by omega⟩
    have hi : i ≤ l.length := by omega
    have hlt : i < l.length := by omega
    obtain ⟨s', sent', q1, q2, q3, q4⟩ := tells_l2 hn id l ok hl rm i hi 9 0 n s sent (by omega) (by unfold Big at hn; omega) h
    have k0 : (0 : Int) ≤ i := by omega
    have k1 : (i : Int) ≤ (l.length : Int) := by omega
    have k2 : (i : Int) < (l.length : Int) := by omega
    have ei : iadd .i64 (i : Int) 1 = ((i + 1 : Nat) : Int) := iadd1 (by omega)
    rw [show ((0 : Nat) : Int) = 0 from rfl] at q1
    have hp := List.getElem_mem hlt
    have hpush := inv_push q2 ok hrm hlt
    have pv := sub_Push_v hn s' l[i].1 l[i].2.1 rm (fitR q2.right.2) (fitR (ok.gr _ hp)) (by have := q2.allL; omega)
    unfold pushR at pv
    rw [q2.right.1, ok.rt _ hp] at pv
    simp only [Bool.and_self, cond_true] at pv
    have hout := hpush.outL
    obtain ⟨sent2, z1, z2⟩ := tells_l1 hn id l ok hl rm hrm d (i + 1) g _ sent' (by omega) (by omega) hpush
    generalize pushS s' l[i].1 l[i].2.1 (ofR s'.2.2.2.1 l[i].2.1) rm = s2 at *
    have k3 : ¬ rm < (s2.2.2.2.2.1.length : Int) := by omega
    refine ⟨sent2, ?_, z2⟩
    simp only [law_Tells_l1, ile_eq, ilt_eq, ieq_eq, ilen, k0, k1, k2, decide_true, cond_true, q1, bindL_inl, lat_eq, iN, Int.toNat_natCast, List.getElem?_eq_getElem hlt, bindN_s, pv, Bool.not_true, cond_false, k3, decide_false, ei, z1]
def okAt (l : List PU) (j : Nat) (h : j < l.length) : Prop := greatR l[j].2.1 = false ∧ rightR l[j].2.1 = true ∧ 0 ≤ l[j].1 ∧ (∀ h0 : 0 < j, l[j - 1].1 < l[j].1)
theorem lt_of {a b : Int} (h : ¬ a ≤ b) : b < a := by omega
theorem tells_l0 {n : Nat} (hn : Big n) (id : Int) (l : List PU) (hl : l.length ≤ 20) (ob : Int) : ∀ (d i g : Nat), i + d = l.length → d < g →
    ∃ r, law_Tells_l0 n g (id, l, ob, (i : Int), ()) = some r ∧ (r = .inr (true, ()) ∨ (r = .inl (id, l, ob, ()) ∧ ∀ (j : Nat) (h : j < l.length), i ≤ j → okAt l j h))
  | 0, i, g, hd, hg => by
    obtain ⟨g, rfl⟩ : ∃ g', g = g' + 1 := ⟨g - 1, by omega⟩
    have k : ¬ (i : Int) < (l.length : Int) := by omega
    exact ⟨.inl (id, l, ob, ()), by simp only [law_Tells_l0, ilt_eq, ilen, k, decide_false, cond_false], .inr ⟨rfl, fun j h q => by omega⟩⟩
  | d + 1, i, g, hd, hg => by
    obtain ⟨g, rfl⟩ : ∃ g', g = g' + 1 := ⟨g - 1, by omega⟩
    have hi : i < l.length := by omega
    have k : (i : Int) < (l.length : Int) := by omega
    have k0 : (0 : Int) ≤ i := by omega
    have ei : iadd .i64 (i : Int) 1 = ((i + 1 : Nat) : Int) := iadd1 (by omega)
    have gr := r08_Great_v hn l[i].2.1
    obtain ⟨r, h1, h2⟩ := tells_l0 hn id l hl ob d (i + 1) g (by omega) (by omega)
    cases hg1 : greatR l[i].2.1 with
    | true =>
      rw [hg1] at gr
      exact ⟨.inr (true, ()), by simp only [law_Tells_l0, ilt_eq, ile_eq, ilen, k, k0, decide_true, cond_true, lat_eq, iN, Int.toNat_natCast, List.getElem?_eq_getElem hi, bindN_s, gr], .inl rfl⟩
    | false =>
      rw [hg1] at gr
      have rt := r08_Right_v hn l[i].2.1 (fitR hg1)
      cases hr1 : rightR l[i].2.1 with
      | false =>
        rw [hr1] at rt
        exact ⟨.inr (true, ()), by simp only [law_Tells_l0, ilt_eq, ile_eq, ilen, k, k0, decide_true, cond_true, cond_false, lat_eq, iN, Int.toNat_natCast, List.getElem?_eq_getElem hi, bindN_s, gr, rt, Bool.not_false], .inl rfl⟩
      | true =>
        rw [hr1] at rt
        by_cases hn1 : l[i].1 < 0
        · exact ⟨.inr (true, ()), by simp only [law_Tells_l0, ilt_eq, ile_eq, ilen, k, k0, decide_true, cond_true, cond_false, lat_eq, iN, Int.toNat_natCast, List.getElem?_eq_getElem hi, bindN_s, gr, rt, Bool.not_true, hn1], .inl rfl⟩
        · have hnn : 0 ≤ l[i].1 := Int.not_lt.1 hn1
          by_cases h0 : 0 < i
          · have k1 : (0 : Int) < i := by omega
            have e0 : isub .i64 (i : Int) 1 = ((i - 1 : Nat) : Int) := by rw [isub64 (by omega) (by omega)]; omega
            have k2 : (0 : Int) ≤ ((i - 1 : Nat) : Int) := by omega
            have hi1 : i - 1 < l.length := by omega
            by_cases hle : l[i].1 ≤ l[i - 1].1
            · exact ⟨.inr (true, ()), by simp only [law_Tells_l0, ilt_eq, ile_eq, ilen, k, k0, k1, k2, e0, decide_true, decide_false, cond_true, cond_false, lat_eq, iN, Int.toNat_natCast, List.getElem?_eq_getElem hi, List.getElem?_eq_getElem hi1, bindN_s, gr, rt, Bool.not_true, hn1, hle], .inl rfl⟩
            · refine ⟨r, by simp only [law_Tells_l0, ilt_eq, ile_eq, ilen, k, k0, k1, k2, e0, decide_true, decide_false, cond_true, cond_false, lat_eq, iN, Int.toNat_natCast, List.getElem?_eq_getElem hi, List.getElem?_eq_getElem hi1, bindN_s, gr, rt, Bool.not_true, hn1, hle, ei, bindL_id1, h1], ?_⟩
              rcases h2 with h2 | ⟨h2, h3⟩
              · exact .inl h2
              · refine .inr ⟨h2, fun j hj hij => ?_⟩
                by_cases e : j = i
                · subst e; exact ⟨hg1, hr1, hnn, fun _ => lt_of hle⟩
                · exact h3 j hj (by omega)
          · have k1 : ¬ (0 : Int) < i := by omega
            refine ⟨r, by simp only [law_Tells_l0, ilt_eq, ile_eq, ilen, k, k0, k1, decide_true, decide_false, cond_true, cond_false, lat_eq, iN, Int.toNat_natCast, List.getElem?_eq_getElem hi, bindN_s, gr, rt, Bool.not_true, hn1, ei, bindL_id1, h1], ?_⟩
            rcases h2 with h2 | ⟨h2, h3⟩
            · exact .inl h2
            · refine .inr ⟨h2, fun j hj hij => ?_⟩
              by_cases e : j = i
              · subst e; exact ⟨hg1, hr1, hnn, fun q => absurd q h0⟩
              · exact h3 j hj (by omega)
theorem okl_of {l : List PU} (h : ∀ (j : Nat) (h : j < l.length), okAt l j h) : Okl l where
  gr p hp := by obtain ⟨j, hj, rfl⟩ := List.getElem_of_mem hp; exact (h j hj).1
  rt p hp := by obtain ⟨j, hj, rfl⟩ := List.getElem_of_mem hp; exact (h j hj).2.1
  nn p hp := by obtain ⟨j, hj, rfl⟩ := List.getElem_of_mem hp; exact (h j hj).2.2.1
  up i hi := by have := (h (i + 1) hi).2.2.2 (by omega); simpa using this
theorem room_val (ob : Int) (h0 : 0 ≤ ob) (h1 : ob ≤ 255) : 1 ≤ iadd .i64 (1 : Int) (iconv .i64 (irem ob (4 : Int))) := by
  have e1 : irem ob 4 = ob % 4 := by unfold irem; rw [Int.tmod_eq_emod_of_nonneg h0]
  have e2 : iconv .i64 (ob % 4) = ob % 4 := by unfold iconv; exact wrap64 (by omega) (by omega)
  rw [e1, e2, iadd64 (by omega) (by omega)]; omega
theorem tells_v {n : Nat} (hn : Big n) (ha : law_alive n () = some ((true, ()), ())) (x : SgEl law_Tells_sg) (h0 : 0 ≤ x.2.2.1) (h255 : x.2.2.1 ≤ 255) : ∃ o, law_Tells n x = some ((true, ()), o) := by
  obtain ⟨id, l, ob, ⟨⟩⟩ := x
  refine ⟨((), (), (), ()), ?_⟩
  by_cases h20 : 20 < l.length
  · have h20' : (20 : Int) < l.length := by omega
    simp only [law_Tells, ha, bindN_s, Bool.not_true, cond_false, ilt_eq, ilen, h20', decide_true, cond_true]
  · have h20' : ¬ (20 : Int) < l.length := by omega
    obtain ⟨r, h1, h2⟩ := tells_l0 hn id l (by omega) ob l.length 0 n (by omega) (by unfold Big at hn; omega)
    rw [show ((0 : Nat) : Int) = 0 from rfl] at h1
    rcases h2 with rfl | ⟨rfl, h2⟩
    · simp only [law_Tells, ha, bindN_s, Bool.not_true, cond_false, ilt_eq, ilen, h20', decide_false, h1, bindL_inr]
    · have ok := okl_of (fun j h => h2 j h (Nat.zero_le _))
      have hrm := room_val ob h0 h255
      obtain ⟨sent', q1, q2⟩ := tells_l1 hn id l ok (by omega) _ hrm l.length 0 n _ [] (by omega) (by unfold Big at hn; omega) (inv_new id l _ (by omega) ((0 : Int), (⟨#[]⟩ : ByteArray), [], [], ()))
      rw [show ((0 : Nat) : Int) = 0 from rfl] at q1
      simp only [law_Tells, ha, bindN_s, Bool.not_true, cond_false, ilt_eq, ieq_eq, ilen, h20', decide_false, h1, bindL_inl, Int.reduceEq, sub_New, q1]
      rcases q2 with q2 | q2
      · have : (0 : Int) < (sent'.length : Int) := by have := List.length_pos_iff.2 q2; omega
        simp only [this, decide_true, cond_true]
      · subst q2
        cases decide ((0 : Int) < (sent'.length : Int)) <;> rfl
theorem u8_wf {n : Int} (h : (Lit.int .u8 n).wf = true) : 0 ≤ n ∧ n ≤ 255 := by
  simp [Lit.wf, IntKind.min, IntKind.max, IntKind.bits, IntKind.signed] at h
  omega
theorem tells_true : ∀ x, okArgs [.int .i64, .slice tLaw19_Push, .int .u8] x → ∃ o, law_Tells 1000000000000000 x = some ((true, ()), o) := fun x hx => by
  have h := u8_wf hx.2.2.1
  exact tells_v big_n alive_v x h.1 h.2
end Go.Proofs.YteaadaaghhojfaaGreatDoorE
end
