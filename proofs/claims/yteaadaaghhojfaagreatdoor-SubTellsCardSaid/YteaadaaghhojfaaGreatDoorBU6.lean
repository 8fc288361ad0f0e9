/- A part of the proof: GQ1, GQ2, GQ3. No condition. -/
import Derived.Test.YteaadaaghhojfaaGreatDoorBU5
import Derived.Lib.SlTrimSet
import Derived.Lib.Join
import Derived.Sort.AssemblyPlain
section
namespace Go.Proofs.YteaadaaghhojfaaGreatDoorE
open Go Go.Proofs
set_option linter.unusedVariables false
set_option linter.unusedSimpArgs false
abbrev TG := El tTag
theorem drop_cons {α : Type} (l : List α) (i : Nat) (h : i < l.length) : l.drop i = l[i] :: l.drop (i + 1) := List.drop_eq_getElem_cons h
def bl (s : ByteArray) : List UInt8 := s.data.toList
theorem bl_inj {a b : ByteArray} (h : bl a = bl b) : a = b := by cases a; cases b; simpa [bl] using h
theorem bl_mk (l : List UInt8) : bl ⟨l.toArray⟩ = l := rfl
theorem mk_bl (s : ByteArray) : (⟨(bl s).toArray⟩ : ByteArray) = s := rfl
theorem size_bl (s : ByteArray) : (bl s).length = s.size := by show s.data.toList.length = s.data.size; exact Array.length_toList
theorem bl_append (a b : ByteArray) : bl (a ++ b) = bl a ++ bl b := by simp [bl, ByteArray.data_append]
theorem bl_extract (s : ByteArray) (i j : Nat) : bl (s.extract i j) = ((bl s).take j).drop i := by
  simp [bl, ByteArray.data_extract, Array.toList_extract, List.extract_eq_take_drop, List.drop_take]
theorem u8_int (a b : UInt8) : ((a.toNat : Int) = (b.toNat : Int)) ↔ a = b := by
  constructor
  · intro h; exact UInt8.toNat_inj.1 (by omega)
  · rintro rfl; rfl
theorem empty_bl : bl (⟨#[]⟩ : ByteArray) = [] := rfl
theorem idx_cons (b c : UInt8) (l : List UInt8) : Lib.indexByte (b :: l) c = if b = c then 0 else if Lib.indexByte l c = -1 then -1 else Lib.indexByte l c + 1 := by
  simp [Lib.indexByte]
theorem idx_lt : ∀ (l : List UInt8) (c : UInt8), Lib.indexByte l c < (l.length : Int) ∧ -1 ≤ Lib.indexByte l c
  | [], c => by simp [Lib.indexByte]
  | b :: l, c => by
    have := idx_lt l c
    rw [idx_cons, List.length_cons]
    split
    · omega
    · split <;> omega
theorem idx_mem : ∀ (l : List UInt8) (c : UInt8), 0 ≤ Lib.indexByte l c ↔ c ∈ l
  | [], c => by simp [Lib.indexByte]
  | b :: l, c => by
    have h1 := idx_mem l c
    have h2 := idx_lt l c
    rw [idx_cons, List.mem_cons]
    by_cases hb : b = c
    · simp [hb]
    · rw [if_neg hb]
      have : ¬ c = b := fun h => hb h.symm
      split
      · rename_i h
        constructor
        · omega
        · rintro (h3 | h3)
          · exact absurd h3 this
          · have := h1.2 h3; omega
      · rename_i h
        constructor
        · intro _; exact .inr (h1.1 (by omega))
        · rintro (h3 | h3)
          · exact absurd h3 this
          · have := h1.2 h3; omega
def splitL (c : UInt8) : List UInt8 → List (List UInt8)
  | [] => [[]]
  | b :: l => if b = c then [] :: splitL c l else match splitL c l with
    | [] => [[b]]
    | h :: t => (b :: h) :: t
theorem splitL_ne (c : UInt8) : ∀ l, splitL c l ≠ []
  | [] => by simp [splitL]
  | b :: l => by
    unfold splitL
    split
    · simp
    · split <;> simp
theorem splitL_len (c : UInt8) : ∀ l, (splitL c l).length ≤ l.length + 1
  | [] => by simp [splitL]
  | b :: l => by
    have := splitL_len c l
    unfold splitL
    split
    · simp; omega
    · split
      · simp
      · rename_i h t e
        rw [e] at this
        simp at *; omega
theorem splitL_idx (c : UInt8) : ∀ l, splitL c l = if Lib.indexByte l c < 0 then [l] else l.take (Lib.indexByte l c).toNat :: splitL c (l.drop ((Lib.indexByte l c).toNat + 1))
  | [] => by simp [splitL, Lib.indexByte]
  | b :: l => by
    have ih := splitL_idx c l
    have h2 := idx_lt l c
    rw [splitL, idx_cons]
    by_cases hb : b = c
    · simp [hb]
    · rw [if_neg hb, if_neg hb]
      by_cases h : Lib.indexByte l c = -1
      · rw [h] at ih
        simp at ih
        rw [if_pos h, ih]
        simp
      · rw [if_neg h]
        rw [if_neg (by omega)] at ih
        rw [if_neg (by omega), ih]
        obtain ⟨m, hm⟩ := Int.eq_ofNat_of_zero_le (show 0 ≤ Lib.indexByte l c by omega)
        rw [hm]
        simp [show ((m : Int) + 1).toNat = m + 1 by omega]
/-- A text's parts. -/
def splitB (c : UInt8) (s : ByteArray) : List ByteArray := (splitL c (bl s)).map fun l => ⟨l.toArray⟩
theorem ext_take (s : ByteArray) (i : Nat) : s.extract 0 i = ⟨((bl s).take i).toArray⟩ := bl_inj (by rw [bl_extract, bl_mk ((bl s).take i)]; simp)
theorem ext_drop (s : ByteArray) (i : Nat) : s.extract i s.size = ⟨((bl s).drop i).toArray⟩ := bl_inj (by rw [bl_extract, bl_mk ((bl s).drop i), List.take_of_length_le (by rw [size_bl]; exact Nat.le_refl _)])
theorem ext_mid (s : ByteArray) (i j : Nat) : s.extract i j = ⟨(((bl s).take j).drop i).toArray⟩ := bl_inj (by rw [bl_extract, bl_mk (((bl s).take j).drop i)])
/-- The document's parts: the part that is under way, then the rest. -/
def glue (a : List UInt8) : List (List UInt8) → List (List UInt8)
  | [] => [a]
  | h :: t => (a ++ h) :: t
def smallB (b : UInt8) : Bool := decide (97 ≤ b.toNat) && decide (b.toNat ≤ 122)
def digitB (b : UInt8) : Bool := decide (48 ≤ b.toNat) && decide (b.toNat ≤ 57)
def inNameB (b : UInt8) : Bool := smallB b || digitB b || decide (b.toNat = 95)
def inValB (b : UInt8) : Bool := smallB b || digitB b || decide (b.toNat = 95) || decide (b.toNat = 45) || decide (b.toNat = 46)
def nameL (l : List UInt8) : Bool := decide (1 ≤ l.length) && decide (l.length ≤ 12) && smallB (l.headD 0) && l.all inNameB
def valueL (l : List UInt8) : Bool := decide (1 ≤ l.length) && decide (l.length ≤ 12) && l.all inValB
theorem all_u8 {p : UInt8 → Bool} (h : ∀ n : Fin 256, p (UInt8.ofNat n.val) = true) (b : UInt8) : p b = true := by
  have := h ⟨b.toNat, b.toNat_lt⟩
  simpa using this
theorem in_name (b : UInt8) : ([97, 98, 99, 100, 101, 102, 103, 104, 105, 106, 107, 108, 109, 110, 111, 112, 113, 114, 115, 116, 117, 118, 119, 120, 121, 122, 48, 49, 50, 51, 52, 53, 54, 55, 56, 57, 95] : List UInt8).contains b = inNameB b := by
  have := all_u8 (p := fun b => ([97, 98, 99, 100, 101, 102, 103, 104, 105, 106, 107, 108, 109, 110, 111, 112, 113, 114, 115, 116, 117, 118, 119, 120, 121, 122, 48, 49, 50, 51, 52, 53, 54, 55, 56, 57, 95] : List UInt8).contains b == inNameB b) (by decide +kernel) b
  simpa using this
theorem in_val (b : UInt8) : ([97, 98, 99, 100, 101, 102, 103, 104, 105, 106, 107, 108, 109, 110, 111, 112, 113, 114, 115, 116, 117, 118, 119, 120, 121, 122, 48, 49, 50, 51, 52, 53, 54, 55, 56, 57, 95, 45, 46] : List UInt8).contains b = inValB b := by
  have := all_u8 (p := fun b => ([97, 98, 99, 100, 101, 102, 103, 104, 105, 106, 107, 108, 109, 110, 111, 112, 113, 114, 115, 116, 117, 118, 119, 120, 121, 122, 48, 49, 50, 51, 52, 53, 54, 55, 56, 57, 95, 45, 46] : List UInt8).contains b == inValB b) (by decide +kernel) b
  simpa using this
theorem in_small (b : UInt8) : decide (0 ≤ Lib.indexByte ([97, 98, 99, 100, 101, 102, 103, 104, 105, 106, 107, 108, 109, 110, 111, 112, 113, 114, 115, 116, 117, 118, 119, 120, 121, 122] : List UInt8) b) = smallB b := by
  have := all_u8 (p := fun b => decide (0 ≤ Lib.indexByte ([97, 98, 99, 100, 101, 102, 103, 104, 105, 106, 107, 108, 109, 110, 111, 112, 113, 114, 115, 116, 117, 118, 119, 120, 121, 122] : List UInt8) b) == smallB b) (by decide +kernel) b
  simpa using this
theorem dw_nil (p : UInt8 → Bool) : ∀ l : List UInt8, l.dropWhile p = [] ↔ ∀ x ∈ l, p x = true
  | [] => by simp
  | a :: l => by
    rw [List.dropWhile_cons]
    cases h : p a with
    | true => simp [dw_nil p l, h]
    | false => simp [h]
theorem dw_head (p : UInt8 → Bool) (a : UInt8) (t : List UInt8) : ∀ l : List UInt8, l.dropWhile p = a :: t → p a = false
  | [], h => by simp at h
  | b :: l, h => by
    rw [List.dropWhile_cons] at h
    cases hb : p b with
    | true => rw [if_pos hb] at h; exact dw_head p a t l h
    | false => rw [if_neg (by simp [hb])] at h; cases h; exact hb
theorem trim_nil (l cs : List UInt8) : Lib.trimS l cs = [] ↔ l.all (fun b => cs.contains b) = true := by
  unfold Lib.trimS Lib.trimLeftS Lib.trimRightS
  rw [List.all_eq_true]
  constructor
  · intro h
    rw [dw_nil] at h
    have e : l.reverse.dropWhile (cs.contains ·) = [] := by
      cases hh : l.reverse.dropWhile (cs.contains ·) with
      | nil => rfl
      | cons a t =>
        have h1 := h a (by rw [hh]; simp)
        have h2 := dw_head _ _ _ _ hh
        rw [h2] at h1; cases h1
    rw [dw_nil] at e
    intro x hx
    exact e x (by simpa using hx)
  · intro h
    have e : l.reverse.dropWhile (cs.contains ·) = [] := by
      rw [dw_nil]
      intro x hx; exact h x (by simpa using hx)
    rw [e]; rfl
/-- Texts joined by another one. -/
def joinB (sep : ByteArray) (l : List ByteArray) : ByteArray := ⟨(Lib.join (l.map bl) (bl sep)).toArray⟩
def nm (t : TG) : List UInt8 := bl t.1
def mayT (t : TG) : Bool := nameL (bl t.1) && valueL (bl t.2.1)
def lessT (a b : TG) : Bool := Op.bytesLess (nm a) (nm b)
theorem rev_eq {t u : TG} (h0 : bl t.1 = bl u.1) (h1 : bl t.2.1 = bl u.2.1) : t = u := by
  obtain ⟨a, b, ⟨⟩⟩ := t; obtain ⟨c, d, ⟨⟩⟩ := u
  simp only at h0 h1
  rw [bl_inj h0, bl_inj h1]
/-- A tag more, in its place; none, if its name is there. -/
def insT (t : TG) : List TG → Option (List TG)
  | [] => some [t]
  | u :: r => if lessT u t = true then (insT t r).map (u :: ·) else if nm u = nm t then none else some (t :: u :: r)
def insAll : List TG → List TG → Option (List TG)
  | acc, [] => some acc
  | acc, t :: l => (insT t acc).bind fun a => insAll a l
def canonT (l : List TG) : List TG × Int :=
  if l.all mayT = true then (if 4 < l.length then ([], 4) else match insAll [] l with | some o => (o, 0) | none => ([], 5)) else ([], 2)
def Strict (l : List TG) : Prop := l.Pairwise (fun a b => lessT a b = true)
theorem less_irrefl (a : TG) : lessT a a = false := bl_irrefl _
theorem less_trans {a b c : TG} (h1 : lessT a b = true) (h2 : lessT b c = true) : lessT a c = true := bl_trans _ _ _ h1 h2
theorem less_asymm {a b : TG} (h : lessT a b = true) : lessT b a = false := bl_asymm _ _ h
theorem less_total {a b : TG} (h : nm a ≠ nm b) : lessT a b = true ∨ lessT b a = true := bl_total _ _ h
theorem less_ne {a b : TG} (h : lessT a b = true) : nm a ≠ nm b := by
  intro e
  unfold lessT at h
  rw [e, bl_irrefl] at h; cases h
theorem strict_nodup {l : List TG} (h : Strict l) : (l.map nm).Nodup := by
  unfold Strict at h
  rw [List.Nodup, List.pairwise_map]
  exact h.imp (fun h => less_ne h)
theorem insT_some (t : TG) : ∀ (l o : List TG), insT t l = some o → Strict l → Strict o ∧ o.Perm (t :: l)
  | [], o, h, _ => by
    simp [insT] at h; subst h
    exact ⟨List.pairwise_singleton _ _, List.Perm.refl _⟩
  | u :: r, o, h, hs => by
    rw [insT] at h
    rw [Strict, List.pairwise_cons] at hs
    split at h
    · rename_i hu
      cases hr : insT t r with
      | none => rw [hr] at h; cases h
      | some q =>
        rw [hr] at h
        simp at h; subst h
        obtain ⟨h1, h2⟩ := insT_some t r q hr hs.2
        refine ⟨?_, (List.Perm.cons u h2).trans (List.Perm.swap t u r)⟩
        rw [Strict, List.pairwise_cons]
        refine ⟨fun x hx => ?_, h1⟩
        rcases List.mem_cons.1 (h2.mem_iff.1 hx) with rfl | hx
        · exact hu
        · exact hs.1 x hx
    · rename_i hu
      split at h
      · cases h
      · rename_i hn
        simp at h; subst h
        have htu : lessT t u = true := by
          rcases less_total (fun e => hn e.symm) with h1 | h1
          · exact h1
          · exact absurd h1 hu
        refine ⟨?_, List.Perm.refl _⟩
        rw [Strict, List.pairwise_cons]
        refine ⟨fun x hx => ?_, by rw [List.pairwise_cons]; exact hs⟩
        rcases List.mem_cons.1 hx with rfl | hx
        · exact htu
        · exact less_trans htu (hs.1 x hx)
theorem insT_none (t : TG) : ∀ (l : List TG), insT t l = none → nm t ∈ l.map nm
  | [], h => by simp [insT] at h
  | u :: r, h => by
    rw [insT] at h
    split at h
    · cases hr : insT t r with
      | none => exact List.mem_cons_of_mem _ (insT_none t r hr)
      | some q => rw [hr] at h; cases h
    · split at h
      · rename_i hn; rw [List.map_cons, hn]; exact List.mem_cons_self
      · cases h
theorem insAll_some : ∀ (l acc o : List TG), insAll acc l = some o → Strict acc → Strict o ∧ o.Perm (acc ++ l)
  | [], acc, o, h, hs => by
    simp [insAll] at h; subst h
    exact ⟨hs, by simp⟩
  | t :: l, acc, o, h, hs => by
    rw [insAll] at h
    cases hr : insT t acc with
    | none => rw [hr] at h; cases h
    | some q =>
      rw [hr] at h
      obtain ⟨h1, h2⟩ := insT_some t acc q hr hs
      obtain ⟨h3, h4⟩ := insAll_some l q o h h1
      refine ⟨h3, h4.trans ((h2.append_right l).trans ?_)⟩
      exact (List.perm_middle).symm
theorem insAll_none : ∀ (l acc : List TG), insAll acc l = none → Strict acc → ¬ ((acc ++ l).map nm).Nodup
  | [], acc, h, hs => by simp [insAll] at h
  | t :: l, acc, h, hs => by
    rw [insAll] at h
    cases hr : insT t acc with
    | none =>
      have hm := insT_none t acc hr
      intro hn
      rw [List.map_append, List.map_cons, List.nodup_append] at hn
      exact hn.2.2 _ hm _ List.mem_cons_self rfl
    | some q =>
      rw [hr] at h
      obtain ⟨h1, h2⟩ := insT_some t acc q hr hs
      have h3 := insAll_none l q h h1
      intro hn
      refine h3 ?_
      have hp : (q ++ l).Perm (acc ++ t :: l) := (h2.append_right l).trans (List.perm_middle).symm
      exact ((hp.map nm).nodup_iff).2 hn
theorem strict_unique : ∀ {a b : List TG}, Strict a → Strict b → a.Perm b → a = b
  | [], b, _, _, hp => by rw [List.nil_perm.1 hp]
  | x :: a, [], _, _, hp => by have := hp.length_eq; simp at this
  | x :: a, y :: b, ha, hb, hp => by
    rw [Strict, List.pairwise_cons] at ha hb
    have hxy : x = y := by
      rcases List.mem_cons.1 (hp.mem_iff.1 List.mem_cons_self) with h | h
      · exact h
      · rcases List.mem_cons.1 (hp.mem_iff.2 (List.mem_cons_self (a := y))) with h2 | h2
        · exact h2.symm
        · have h3 := hb.1 x h
          have h4 := ha.1 y h2
          rw [less_asymm h3] at h4; cases h4
    subst hxy
    rw [strict_unique ha.2 hb.2 (List.Perm.cons_inv hp)]
abbrev srt (l : List TG) : List TG := sl_SortTag_sorted l
theorem cf_lt (x y : TG) : Go.Proofs.ltOf sl_SortTag_cf x y = lessT x y := ltOf_text (fun t : TG => bl t.1) x y
theorem srt_spec (l : List TG) : (srt l).Perm l ∧ (srt l).Pairwise (fun a b => lessT b a = false) := by
  have h := Go.Sort.pdq_sorts (Go.Proofs.ltOf sl_SortTag_cf) sl_SortTag_swo l.toArray 0 l.toArray.size (Lib.bitLen l.toArray.size) true true (Nat.zero_le _) (Nat.le_refl _) (.inl rfl)
  unfold srt sl_SortTag_sorted
  generalize Go.Sort.pdq (Go.Proofs.ltOf sl_SortTag_cf) l.toArray 0 l.toArray.size (Lib.bitLen l.toArray.size) true true = q at h
  obtain ⟨⟨h1, h2, h3⟩, h4⟩ := h
  constructor
  · have e1 : q.extract 0 l.toArray.size = q := by rw [← h1]; simp
    have e2 : l.toArray.extract 0 l.toArray.size = l.toArray := by simp
    rw [e1, e2] at h3; simpa using h3
  · rw [List.pairwise_iff_getElem]
    intro i j hi hj hij
    have hi' : i < q.size := by simpa using hi
    have hj' : j < q.size := by simpa using hj
    have := h4 i j (Nat.zero_le _) hij (by rw [← h1]; exact hj')
    rw [getElem!_pos q j hj', getElem!_pos q i hi', cf_lt] at this
    simpa using this
def adj : List TG → Bool
  | a :: b :: r => decide (nm a = nm b) || adj (b :: r)
  | _ => false
theorem adj_strict : ∀ l : List TG, l.Pairwise (fun a b => lessT b a = false) → adj l = false → Strict l
  | [], _, _ => List.Pairwise.nil
  | [a], _, _ => List.pairwise_singleton _ _
  | a :: b :: r, h, ha => by
    rw [adj, Bool.or_eq_false_iff] at ha
    rw [List.pairwise_cons] at h
    have ih := adj_strict (b :: r) h.2 ha.2
    have hne : nm a ≠ nm b := by simpa using ha.1
    have hab : lessT a b = true := by
      rcases less_total hne with h1 | h1
      · exact h1
      · rw [h.1 b List.mem_cons_self] at h1; cases h1
    rw [Strict, List.pairwise_cons]
    refine ⟨fun x hx => ?_, ih⟩
    rcases List.mem_cons.1 hx with rfl | hx
    · exact hab
    · rw [Strict, List.pairwise_cons] at ih
      exact less_trans hab (ih.1 x hx)
theorem adj_dup : ∀ l : List TG, adj l = true → ¬ (l.map nm).Nodup
  | [], h => by simp [adj] at h
  | [a], h => by simp [adj] at h
  | a :: b :: r, h => by
    rw [adj, Bool.or_eq_true] at h
    intro hn
    rw [List.map_cons, List.nodup_cons] at hn
    rcases h with h | h
    · exact hn.1 (by rw [of_decide_eq_true h]; simp)
    · exact adj_dup (b :: r) h hn.2
theorem canon_scan (l : List TG) : (if adj (srt l) = true then (([] : List TG), (5 : Int)) else (srt l, 0)) = (match insAll [] l with | some o => (o, 0) | none => ([], 5)) := by
  obtain ⟨hp, hs⟩ := srt_spec l
  cases h : insAll [] l with
  | some o =>
    obtain ⟨h1, h2⟩ := insAll_some l [] o h List.Pairwise.nil
    rw [List.nil_append] at h2
    cases ha : adj (srt l) with
    | true =>
      exact absurd (((hp.trans h2.symm).map nm).nodup_iff.2 (strict_nodup h1)) (adj_dup _ ha)
    | false =>
      rw [if_neg (by simp), strict_unique (adj_strict _ hs ha) h1 (hp.trans h2.symm)]
  | none =>
    have hn := insAll_none l [] h List.Pairwise.nil
    rw [List.nil_append] at hn
    cases ha : adj (srt l) with
    | true => rw [if_pos rfl]
    | false => exact absurd ((hp.map nm).nodup_iff.1 (strict_nodup (adj_strict _ hs ha))) hn
theorem adj_drop (l : List TG) (i : Nat) (h : i + 1 < l.length) : adj (l.drop i) = (decide (nm l[i] = nm l[i + 1]) || adj (l.drop (i + 1))) := by
  rw [drop_cons l i (by omega), drop_cons l (i + 1) h, adj]
def mkB (l : List UInt8) : ByteArray := ⟨l.toArray⟩
theorem bl_mkB (l : List UInt8) : bl (mkB l) = l := rfl
theorem mkB_bl (s : ByteArray) : mkB (bl s) = s := rfl
theorem size_mkB (l : List UInt8) : (mkB l).size = l.length := by rw [← size_bl, bl_mkB]
def bigT (t : TG) : Bool := decide (100 < t.1.size) || decide (100 < t.2.1.size)
def greatT (l : List TG) : Bool := decide (20 < l.length) || l.any bigT
theorem not_great {l : List TG} (h : greatT l = false) : l.length ≤ 20 ∧ ∀ t ∈ l, t.1.size ≤ 100 ∧ t.2.1.size ≤ 100 := by
  unfold greatT at h
  rw [Bool.or_eq_false_iff, decide_eq_false_iff_not, List.any_eq_false] at h
  refine ⟨by omega, fun t ht => ?_⟩
  have := h.2 t ht
  unfold bigT at this
  simp at this; omega
def findT : List TG → ByteArray → ByteArray × Bool
  | [], _ => (⟨#[]⟩, false)
  | t :: l, key => if bl t.1 = bl key then (t.2.1, true) else findT l key
def hasT (ks : List ByteArray) (s : ByteArray) : Bool := ks.any fun x => decide (bl x = bl s)
def onlyT (l : List TG) (ks : List ByteArray) : List TG := l.filter fun t => hasT ks t.1
abbrev tl (sep : List UInt8) (l : List (List UInt8)) : List UInt8 := Lib.joinTail sep l
theorem tl_cons (sep x : List UInt8) (l : List (List UInt8)) : tl sep (x :: l) = sep ++ x ++ tl sep l := by simp [Lib.joinTail]
theorem joinB_nil (sep : ByteArray) : joinB sep [] = ⟨#[]⟩ := rfl
theorem joinB_cons (sep x : ByteArray) (l : List ByteArray) : bl (joinB sep (x :: l)) = bl x ++ tl (bl sep) (l.map bl) := by
  unfold joinB; rw [bl_mk, List.map_cons, Lib.join_cons]
theorem tl_len (sep : List UInt8) (B : Nat) : ∀ l : List (List UInt8), (∀ x ∈ l, x.length ≤ B) → (tl sep l).length ≤ l.length * (sep.length + B)
  | [], _ => by simp [Lib.joinTail]
  | x :: l, h => by
    have ih := tl_len sep B l (fun y hy => h y (List.mem_cons_of_mem _ hy))
    have h0 := h x List.mem_cons_self
    rw [tl_cons, List.length_append, List.length_append, List.length_cons, Nat.add_mul]; omega
theorem joinB_len (sep : ByteArray) (B : Nat) (l : List ByteArray) (h : ∀ x ∈ l, (bl x).length ≤ B) : (bl (joinB sep l)).length ≤ l.length * ((bl sep).length + B) := by
  cases l with
  | nil => simp [joinB_nil, empty_bl]
  | cons x l =>
    have ih := tl_len (bl sep) B (l.map bl) (by
      intro y hy
      obtain ⟨z, hz, rfl⟩ := List.mem_map.1 hy
      exact h z (List.mem_cons_of_mem _ hz))
    have h0 := h x List.mem_cons_self
    rw [joinB_cons, List.length_append, List.length_cons, Nat.add_mul]
    rw [List.length_map] at ih; omega
theorem join_split (c : UInt8) : ∀ l : List UInt8, Lib.join (splitL c l) [c] = l
  | [] => rfl
  | b :: l => by
    have ih := join_split c l
    rw [splitL]
    cases h : splitL c l with
    | nil => exact absurd h (splitL_ne c l)
    | cons x t =>
      rw [h, Lib.join_cons] at ih
      by_cases hb : b = c
      · subst hb
        rw [if_pos rfl, Lib.join_cons]
        show [] ++ tl [b] (x :: t) = _
        rw [tl_cons, List.append_assoc, ih]; rfl
      · rw [if_neg hb, Lib.join_cons, List.cons_append, ih]
theorem joinB_split (c : UInt8) (s : ByteArray) : joinB (mkB [c]) (splitB c s) = s := by
  apply bl_inj
  unfold joinB splitB
  rw [bl_mk, bl_mkB, List.map_map]
  have : (bl ∘ fun l : List UInt8 => (⟨l.toArray⟩ : ByteArray)) = id := by funext l; rfl
  rw [this, List.map_id, join_split]
def cutB (c : UInt8) (s : ByteArray) : ByteArray × ByteArray × Bool :=
  if Lib.indexByte (bl s) c < 0 then (s, ⟨#[]⟩, false) else (s.extract 0 (Lib.indexByte (bl s) c).toNat, s.extract ((Lib.indexByte (bl s) c).toNat + 1) s.size, true)
theorem split_cut (c : UInt8) (s : ByteArray) : splitB c s = if (cutB c s).2.2 = true then (cutB c s).1 :: splitB c (cutB c s).2.1 else [s] := by
  have e := splitL_idx c (bl s)
  unfold splitB cutB
  rw [e]
  by_cases h0 : Lib.indexByte (bl s) c < 0
  · rw [if_pos h0, if_pos h0]; rfl
  · rw [if_neg h0, if_neg h0, if_pos rfl, ext_take, ext_drop, bl_mk ((bl s).drop ((Lib.indexByte (bl s) c).toNat + 1))]; rfl
theorem cut_size (c : UInt8) (s : ByteArray) : (cutB c s).1.size ≤ s.size ∧ (cutB c s).2.1.size ≤ s.size := by
  unfold cutB
  split
  · exact ⟨Nat.le_refl _, Nat.zero_le _⟩
  · constructor
    · rw [← size_bl, bl_extract, ← size_bl s]; simp; omega
    · rw [← size_bl, bl_extract, ← size_bl s]; simp
theorem splitB_size (c : UInt8) (s : ByteArray) : ∀ x ∈ splitB c s, x.size ≤ s.size := by
  suffices h : ∀ (l : List UInt8), ∀ x ∈ splitL c l, x.length ≤ l.length by
    intro x hx
    unfold splitB at hx
    obtain ⟨y, hy, rfl⟩ := List.mem_map.1 hx
    have := h _ _ hy
    rw [size_bl] at this
    rw [← size_bl, bl_mk]; exact this
  intro l
  induction l with
  | nil => intro x hx; simp [splitL] at hx; subst hx; simp
  | cons b l ih =>
    intro x hx
    rw [splitL] at hx
    split at hx
    · rcases List.mem_cons.1 hx with rfl | hx
      · simp
      · have := ih x hx; simp; omega
    · split at hx
      · simp at hx; subst hx; simp
      · rename_i h t e
        rw [e] at ih
        rcases List.mem_cons.1 hx with rfl | hx
        · have := ih h List.mem_cons_self; simp; omega
        · have := ih x (List.mem_cons_of_mem _ hx); simp; omega
theorem splitB_len (c : UInt8) (s : ByteArray) : (splitB c s).length ≤ s.size + 1 := by
  unfold splitB
  rw [List.length_map, ← size_bl]; exact splitL_len c _
def pairB (t : TG) : ByteArray := joinB (mkB [61]) [t.1, t.2.1]
theorem bl_pairB (t : TG) : bl (pairB t) = bl t.1 ++ [61] ++ bl t.2.1 := by
  unfold pairB; rw [joinB_cons]; simp [Lib.joinTail, bl_mkB]
def textT (l : List TG) : ByteArray := joinB (mkB [44]) (l.map pairB)
def Fit (l : List TG) : Prop := l.length ≤ 1000 ∧ ∀ t ∈ l, t.1.size ≤ 1000000 ∧ t.2.1.size ≤ 1000000
theorem fit_pair {l : List TG} (h : Fit l) (t : TG) (ht : t ∈ l) : (bl (pairB t)).length ≤ 2000001 := by
  have := h.2 t ht
  rw [bl_pairB]; simp [size_bl]; omega
theorem fit_text {l : List TG} (h : Fit l) : (bl (textT l)).length ≤ 100000000000 := by
  have := joinB_len (mkB [44]) 2000001 (l.map pairB) (by
    intro x hx
    obtain ⟨t, ht, rfl⟩ := List.mem_map.1 hx
    exact fit_pair h t ht)
  rw [List.length_map] at this
  refine Nat.le_trans this (Nat.le_trans (Nat.mul_le_mul_right _ h.1) ?_)
  rw [bl_mkB]; simp
theorem not_great_fit {l : List TG} (h : greatT l = false) : Fit l := by
  have := not_great h
  refine ⟨by omega, fun t ht => ?_⟩
  have := this.2 t ht
  omega
def pairsT : List ByteArray → Option (List TG)
  | [] => some []
  | x :: r => if (cutB 61 x).2.2 = true then (pairsT r).map ((((cutB 61 x).1, (cutB 61 x).2.1, ()) : TG) :: ·) else none
def readT (acc : List TG) (o : Option (List TG)) : List TG × Int := o.elim ([], 2) fun ps => canonT (acc ++ ps)
def parseT (s : ByteArray) : List TG × Int := if bl s = [] then ([], 0) else readT [] (pairsT (splitB 44 s))
def chainT : List TG → Bool
  | a :: b :: r => lessT a b && chainT (b :: r)
  | _ => true
def rightT (l : List TG) : Bool := l.all mayT && (chainT l && decide (l.length ≤ 4))
theorem chain_strict : ∀ l : List TG, chainT l = true ↔ Strict l
  | [] => ⟨fun _ => List.Pairwise.nil, fun _ => rfl⟩
  | [a] => ⟨fun _ => List.pairwise_singleton _ _, fun _ => rfl⟩
  | a :: b :: r => by
    have ih := chain_strict (b :: r)
    rw [chainT, Bool.and_eq_true, ih, Strict, Strict, List.pairwise_cons (a := a)]
    constructor
    · rintro ⟨h1, h2⟩
      refine ⟨fun x hx => ?_, h2⟩
      rcases List.mem_cons.1 hx with rfl | hx
      · exact h1
      · rw [List.pairwise_cons] at h2
        exact less_trans h1 (h2.1 x hx)
    · rintro ⟨h1, h2⟩
      exact ⟨h1 b List.mem_cons_self, h2⟩
theorem right_iff (l : List TG) : rightT l = true ↔ (l.all mayT = true ∧ Strict l ∧ l.length ≤ 4) := by
  unfold rightT
  rw [Bool.and_eq_true, Bool.and_eq_true, chain_strict, decide_eq_true_eq]
theorem insAll_strict (l : List TG) (h : Strict l) : insAll [] l = some l := by
  cases hh : insAll [] l with
  | none =>
    have := insAll_none l [] hh List.Pairwise.nil
    rw [List.nil_append] at this
    exact absurd (strict_nodup h) this
  | some o =>
    obtain ⟨h1, h2⟩ := insAll_some l [] o hh List.Pairwise.nil
    rw [List.nil_append] at h2
    rw [strict_unique h1 h h2]
theorem canonT_eq (l : List TG) : canonT l = if l.all mayT = true then (if 4 < l.length then ([], 4) else (insAll [] l).elim ([], 5) fun o => (o, 0)) else ([], 2) := by
  unfold canonT
  cases insAll [] l <;> rfl
theorem canon_right (l : List TG) (h : rightT l = true) : canonT l = (l, 0) := by
  obtain ⟨h1, h2, h3⟩ := (right_iff l).1 h
  rw [canonT_eq, if_pos h1, if_neg (by omega), insAll_strict l h2]; rfl
theorem canon_out (l : List TG) : ((canonT l).2 = 0 ∧ rightT (canonT l).1 = true ∧ (canonT l).1.Perm l) ∨ ((canonT l).2 ≠ 0 ∧ (canonT l).1 = []) := by
  rw [canonT_eq]
  by_cases h1 : l.all mayT = true
  · rw [if_pos h1]
    by_cases h4 : 4 < l.length
    · rw [if_pos h4]; exact .inr ⟨by decide, rfl⟩
    · rw [if_neg h4]
      cases hh : insAll [] l with
      | none => exact .inr ⟨by decide, rfl⟩
      | some o =>
        obtain ⟨h2, h3⟩ := insAll_some l [] o hh List.Pairwise.nil
        rw [List.nil_append] at h3
        refine .inl ⟨rfl, (right_iff o).2 ⟨?_, h2, ?_⟩, h3⟩
        · rw [List.all_eq_true] at h1 ⊢
          exact fun x hx => h1 x (h3.mem_iff.1 hx)
        · have := h3.length_eq; omega
  · rw [if_neg h1]; exact .inr ⟨by decide, rfl⟩
theorem canon_perm {a b : List TG} (h : a.Perm b) : canonT a = canonT b := by
  rw [canonT_eq, canonT_eq]
  have e1 : (a.all mayT = true) = (b.all mayT = true) := by
    rw [List.all_eq_true, List.all_eq_true]
    exact propext ⟨fun k x hx => k x (h.mem_iff.2 hx), fun k x hx => k x (h.mem_iff.1 hx)⟩
  have e2 : insAll [] a = insAll [] b := by
    cases ha : insAll [] a with
    | none =>
      have h1 := insAll_none a [] ha List.Pairwise.nil
      cases hb : insAll [] b with
      | none => rfl
      | some o =>
        obtain ⟨h2, h3⟩ := insAll_some b [] o hb List.Pairwise.nil
        rw [List.nil_append] at h3 h1
        exact absurd (((h3.trans h.symm).map nm).nodup_iff.1 (strict_nodup h2)) h1
    | some o =>
      obtain ⟨h2, h3⟩ := insAll_some a [] o ha List.Pairwise.nil
      rw [List.nil_append] at h3
      cases hb : insAll [] b with
      | none =>
        have h1 := insAll_none b [] hb List.Pairwise.nil
        rw [List.nil_append] at h1
        exact absurd (((h3.trans h).map nm).nodup_iff.1 (strict_nodup h2)) h1
      | some q =>
        obtain ⟨h4, h5⟩ := insAll_some b [] q hb List.Pairwise.nil
        rw [List.nil_append] at h5
        rw [strict_unique h2 h4 (h3.trans (h.trans h5.symm))]
  simp only [e1, e2, h.length_eq]
theorem canon_same (l : List TG) : ((canonT l).2 = 0 ∧ (canonT l).1 = l) ↔ rightT l = true := by
  constructor
  · rintro ⟨h1, h2⟩
    rcases canon_out l with ⟨_, h3, _⟩ | ⟨h3, _⟩
    · rwa [h2] at h3
    · exact absurd h1 h3
  · intro h
    rw [canon_right l h]; exact ⟨rfl, rfl⟩
theorem chain_drop (l : List TG) (i : Nat) (h : i + 1 < l.length) : chainT (l.drop i) = (lessT l[i] l[i + 1] && chainT (l.drop (i + 1))) := by
  rw [drop_cons l i (by omega), drop_cons l (i + 1) h, chainT]
theorem name_no (l : List UInt8) (h : nameL l = true) (c : UInt8) (hc : inNameB c = false) : c ∉ l := by
  unfold nameL at h
  rw [Bool.and_eq_true, List.all_eq_true] at h
  intro hm
  have := h.2 c hm
  rw [hc] at this; cases this
theorem value_no (l : List UInt8) (h : valueL l = true) (c : UInt8) (hc : inValB c = false) : c ∉ l := by
  unfold valueL at h
  rw [Bool.and_eq_true, List.all_eq_true] at h
  intro hm
  have := h.2 c hm
  rw [hc] at this; cases this
theorem name_len (l : List UInt8) (h : nameL l = true) : 1 ≤ l.length ∧ l.length ≤ 12 := by
  unfold nameL at h
  simp only [Bool.and_eq_true, decide_eq_true_eq] at h
  exact ⟨h.1.1.1, h.1.1.2⟩
theorem value_len (l : List UInt8) (h : valueL l = true) : 1 ≤ l.length ∧ l.length ≤ 12 := by
  unfold valueL at h
  simp only [Bool.and_eq_true, decide_eq_true_eq] at h
  exact ⟨h.1.1, h.1.2⟩
theorem split_none (c : UInt8) : ∀ l : List UInt8, c ∉ l → splitL c l = [l]
  | [], _ => rfl
  | b :: l, h => by
    have hb : b ≠ c := fun e => h (by rw [e]; simp)
    rw [splitL, if_neg hb, split_none c l (fun k => h (List.mem_cons_of_mem _ k))]
theorem split_app (c : UInt8) (y : List UInt8) : ∀ x : List UInt8, c ∉ x → splitL c (x ++ c :: y) = x :: splitL c y
  | [], _ => by rw [List.nil_append, splitL, if_pos rfl]
  | b :: x, h => by
    have hb : b ≠ c := fun e => h (by rw [e]; simp)
    rw [List.cons_append, splitL, if_neg hb, split_app c y x (fun k => h (List.mem_cons_of_mem _ k))]
theorem split_join (c : UInt8) : ∀ (l : List (List UInt8)) (x : List UInt8), (∀ y ∈ x :: l, c ∉ y) → splitL c (Lib.join (x :: l) [c]) = x :: l
  | [], x, h => by
    rw [Lib.join_one]; exact split_none c x (h x List.mem_cons_self)
  | z :: l, x, h => by
    have ih := split_join c l z (fun y hy => h y (List.mem_cons_of_mem _ hy))
    rw [Lib.join_cons]
    show splitL c (x ++ tl [c] (z :: l)) = _
    rw [tl_cons, List.append_assoc, show [c] ++ (z ++ tl [c] l) = c :: (z ++ tl [c] l) from rfl, split_app c _ x (h x List.mem_cons_self)]
    rw [Lib.join_cons] at ih
    rw [ih]
theorem idx_app (c : UInt8) (y : List UInt8) : ∀ x : List UInt8, c ∉ x → Lib.indexByte (x ++ c :: y) c = (x.length : Int)
  | [], _ => by rw [List.nil_append, idx_cons, if_pos rfl]; rfl
  | b :: x, h => by
    have hb : b ≠ c := fun e => h (by rw [e]; simp)
    rw [List.cons_append, idx_cons, if_neg hb, idx_app c y x (fun k => h (List.mem_cons_of_mem _ k)), if_neg (by omega), List.length_cons]
    omega
theorem may_parts {t : TG} (h : mayT t = true) : nameL (bl t.1) = true ∧ valueL (bl t.2.1) = true := by
  unfold mayT at h; rwa [Bool.and_eq_true] at h
theorem cut_app (c : UInt8) (a b s : ByteArray) (hs : bl s = bl a ++ c :: bl b) (h : c ∉ bl a) : cutB c s = (a, b, true) := by
  have e : Lib.indexByte (bl s) c = ((bl a).length : Int) := by rw [hs]; exact idx_app c _ _ h
  unfold cutB
  rw [e, if_neg (by omega), ext_take, ext_drop, hs]
  simp only [Int.toNat_natCast, Prod.mk.injEq, and_true]
  constructor
  · apply bl_inj; rw [bl_mk]; simp
  · apply bl_inj; rw [bl_mk, List.drop_append]; simp
theorem pairs_back : ∀ l : List TG, l.all mayT = true → pairsT (l.map pairB) = some l
  | [], _ => rfl
  | t :: l, h => by
    rw [List.all_cons, Bool.and_eq_true] at h
    have hm := may_parts h.1
    have hc : cutB 61 (pairB t) = (t.1, t.2.1, true) := cut_app 61 t.1 t.2.1 (pairB t) (by rw [bl_pairB]; simp) (name_no _ hm.1 61 (by decide +kernel))
    rw [List.map_cons, pairsT, hc, if_pos rfl, pairs_back l h.2]; rfl
theorem pair_no {t : TG} (h : mayT t = true) : (44 : UInt8) ∉ bl (pairB t) := by
  have hm := may_parts h
  rw [bl_pairB]
  intro k
  rcases List.mem_append.1 k with k | k
  · rcases List.mem_append.1 k with k | k
    · exact name_no _ hm.1 44 (by decide +kernel) k
    · revert k; decide
  · exact value_no _ hm.2 44 (by decide +kernel) k
theorem parse_text (l : List TG) (h : rightT l = true) : parseT (textT l) = (l, 0) := by
  obtain ⟨h1, h2, h3⟩ := (right_iff l).1 h
  cases l with
  | nil => rfl
  | cons t r =>
    have hne : bl (textT (t :: r)) ≠ [] := by
      unfold textT
      rw [List.map_cons, joinB_cons, bl_pairB]; simp
    unfold parseT
    rw [if_neg hne]
    have e : splitB 44 (textT (t :: r)) = (t :: r).map pairB := by
      unfold splitB textT joinB
      rw [bl_mk, bl_mkB, List.map_cons, List.map_cons, split_join]
      · simp [mk_bl, Function.comp_def]
      · intro y hy
        rw [List.all_eq_true] at h1
        rcases List.mem_cons.1 hy with rfl | hy
        · exact pair_no (h1 t List.mem_cons_self)
        · rw [List.map_map] at hy
          obtain ⟨u, hu, rfl⟩ := List.mem_map.1 hy
          exact pair_no (h1 u (List.mem_cons_of_mem _ hu))
    rw [e, pairs_back _ h1]
    show canonT ([] ++ (t :: r)) = _
    rw [List.nil_append, canon_right _ h]
theorem parse_out (s : ByteArray) : ((parseT s).2 = 0 ∧ rightT (parseT s).1 = true) ∨ ((parseT s).2 ≠ 0 ∧ (parseT s).1 = []) := by
  unfold parseT
  split
  · exact .inl ⟨rfl, rfl⟩
  · cases h : pairsT (splitB 44 s) with
    | none => exact .inr ⟨by decide, rfl⟩
    | some ps =>
      show (canonT ([] ++ ps)).2 = 0 ∧ _ ∨ _
      rcases canon_out ([] ++ ps) with ⟨h1, h2, _⟩ | h1
      · exact .inl ⟨h1, h2⟩
      · exact .inr h1
theorem right_fit {l : List TG} (h : rightT l = true) : Fit l ∧ (bl (textT l)).length ≤ 1000 := by
  obtain ⟨h1, h2, h3⟩ := (right_iff l).1 h
  rw [List.all_eq_true] at h1
  have hs : ∀ t ∈ l, (bl t.1).length ≤ 12 ∧ (bl t.2.1).length ≤ 12 := fun t ht => ⟨(name_len _ (may_parts (h1 t ht)).1).2, (value_len _ (may_parts (h1 t ht)).2).2⟩
  refine ⟨⟨by omega, fun t ht => ?_⟩, ?_⟩
  · have := hs t ht
    rw [size_bl, size_bl] at this; omega
  · have := joinB_len (mkB [44]) 25 (l.map pairB) (by
      intro x hx
      obtain ⟨t, ht, rfl⟩ := List.mem_map.1 hx
      have := hs t ht
      rw [bl_pairB]; simp; omega)
    rw [List.length_map, bl_mkB] at this
    have h5 : l.length * ([44] : List UInt8).length + l.length * 25 ≤ 1000 := by simp; omega
    rw [Nat.mul_add] at this
    exact Nat.le_trans this h5
end Go.Proofs.YteaadaaghhojfaaGreatDoorE
end
section
namespace Go.Proofs.YteaadaaghhojfaaGreatDoorE
open Go Go.Proofs
set_option linter.unusedVariables false
set_option linter.unusedSimpArgs false
theorem sat_bl (s : ByteArray) (i : Nat) (h : i < (bl s).length) : sat s (i : Int) = (((bl s)[i]).toNat : Int) := by
  have h' : i < s.size := by rwa [size_bl] at h
  unfold sat
  rw [Int.toNat_natCast]
  show ((s.data[i]!).toNat : Int) = _
  rw [getElem!_pos s.data i h']
  rfl
theorem head_get (l : List UInt8) (h : 0 < l.length) : l[0] = l.headD 0 := by
  cases l with
  | nil => simp at h
  | cons a t => rfl
theorem sat_0 (s : ByteArray) (h : 1 ≤ (bl s).length) : sat s 0 = (((bl s).headD 0).toNat : Int) := by
  have := sat_bl s 0 (by omega)
  rw [show ((0 : Nat) : Int) = 0 from rfl] at this
  rw [this, head_get _ (by omega)]
@[simp] theorem scat_eq (a b : ByteArray) : scat a b = a ++ b := by unfold scat; rfl
@[simp] theorem sext_eq (a : ByteArray) (lo hi : Int) : sext a lo hi = a.extract lo.toNat hi.toNat := by unfold sext; rfl
theorem sfits_of {a b : ByteArray} (h : a.size + b.size ≤ 9000000000000000000) : sfits a b = true := by unfold sfits; rw [Nat.ble_eq]; omega
theorem bl_nil (s : ByteArray) : s = (⟨#[]⟩ : ByteArray) ↔ bl s = [] := ⟨fun h => by rw [h]; rfl, fun h => bl_inj h⟩
def smallI (k : Int) : Bool := decide (97 ≤ k) && decide (k ≤ 122)
def digitI (k : Int) : Bool := decide (48 ≤ k) && decide (k ≤ 57)
theorem smallI_b (b : UInt8) : smallI (b.toNat : Int) = smallB b := by
  unfold smallI smallB; rw [Bool.eq_iff_iff]; simp only [Bool.and_eq_true, decide_eq_true_eq]; omega
theorem digitI_b (b : UInt8) : digitI (b.toNat : Int) = digitB b := by
  unfold digitI digitB; rw [Bool.eq_iff_iff]; simp only [Bool.and_eq_true, decide_eq_true_eq]; omega
theorem small_v (n : Nat) (x : SgEl r02_small_sg) : r02_small n x = some ((smallI x.1, ()), ((), ())) := by
  unfold r02_small smallI
  by_cases h : (97 : Int) ≤ x.1 <;> simp [h]
theorem digit_v (n : Nat) (x : SgEl r02_digit_sg) : r02_digit n x = some ((digitI x.1, ()), ((), ())) := by
  unfold r02_digit digitI
  by_cases h : (48 : Int) ≤ x.1 <;> simp [h]
theorem all_any {α : Type} (l : List α) (p : α → Bool) : l.any (fun b => !p b) = !l.all p := by
  induction l with
  | nil => rfl
  | cons a t ih => simp only [List.any_cons, List.all_cons, ih]; cases p a <;> simp
theorem r02_Name_v0 {n : Nat} (hn : Big n) (s : ByteArray) : r02_Name n (s, ()) = some ((nameL (bl s), ()), ((), ())) := by
  have hz := size_bl s
  unfold r02_Name nameL
  by_cases h1 : s.size < 1
  · have h1' : (s.size : Int) < 1 := by omega
    have h2 : ¬ 1 ≤ (bl s).length := by omega
    simp [h1', h2]
  have h1' : ¬ (s.size : Int) < 1 := by omega
  have g1 : 1 ≤ (bl s).length := by omega
  by_cases h2 : 12 < s.size
  · have h2' : (12 : Int) < s.size := by omega
    have g2 : ¬ (bl s).length ≤ 12 := by omega
    simp [h1', h2', g2]
  have h2' : ¬ (12 : Int) < s.size := by omega
  have g2 : (bl s).length ≤ 12 := by omega
  have h3 : (0 : Int) < s.size := by omega
  have hL := any_loop (a := bl s) (fun b => !inNameB b) false (L := fun g i => r02_Name_l0 n g (s, i, ())) (fun g => by
      have : ¬ ((bl s).length : Int) < s.size := by omega
      simp only [r02_Name_l0, ilt_eq, ssize_eq, this, decide_false, cond_false]) (fun g i hi => by
    have k1 : (i : Int) < s.size := by omega
    have k2 : (0 : Int) ≤ i := by omega
    simp only [r02_Name_l0, ilt_eq, ile_eq, ieq_eq, ssize_eq, k1, k2, decide_true, cond_true, sat_bl s i hi, small_v, digit_v, smallI_b, digitI_b, bindN_s, iadd1 (i := i) (by omega), bindL_id, inNameB]
    by_cases q : (bl s)[i].toNat = 95
    · have q' : ((bl s)[i].toNat : Int) = 95 := by omega
      cases smallB (bl s)[i] <;> cases digitB (bl s)[i] <;> simp [q, q']
    · have q' : ¬ ((bl s)[i].toNat : Int) = 95 := by omega
      cases smallB (bl s)[i] <;> cases digitB (bl s)[i] <;> simp [q, q']) (g := n) (by unfold Big at hn; omega)
  simp only [ilt_eq, ile_eq, ssize_eq, h1', h2', h3, decide_false, decide_true, cond_false, cond_true, Int.le_refl, sat_0 s g1, small_v, smallI_b, bindN_s, hL, g1, g2, Bool.true_and, all_any]
  cases smallB ((bl s).headD 0) <;> cases (bl s).all inNameB <;> simp
theorem r02_Name_v {n : Nat} (hn : Big n) (x : SgEl r02_Name_sg) : r02_Name n x = some ((nameL (bl x.1), ()), ((), ())) := r02_Name_v0 hn x.1
theorem r02_Value_v0 {n : Nat} (hn : Big n) (s : ByteArray) : r02_Value n (s, ()) = some ((valueL (bl s), ()), ((), ())) := by
  have hz := size_bl s
  unfold r02_Value valueL
  by_cases h1 : s.size < 1
  · have h1' : (s.size : Int) < 1 := by omega
    have h2 : ¬ 1 ≤ (bl s).length := by omega
    simp [h1', h2]
  have h1' : ¬ (s.size : Int) < 1 := by omega
  have g1 : 1 ≤ (bl s).length := by omega
  by_cases h2 : 12 < s.size
  · have h2' : (12 : Int) < s.size := by omega
    have g2 : ¬ (bl s).length ≤ 12 := by omega
    simp [h1', h2', g2]
  have h2' : ¬ (12 : Int) < s.size := by omega
  have g2 : (bl s).length ≤ 12 := by omega
  have hL := any_loop (a := bl s) (fun b => !inValB b) false (L := fun g i => r02_Value_l0 n g (s, i, ())) (fun g => by
      have : ¬ ((bl s).length : Int) < s.size := by omega
      simp only [r02_Value_l0, ilt_eq, ssize_eq, this, decide_false, cond_false]) (fun g i hi => by
    have k1 : (i : Int) < s.size := by omega
    have k2 : (0 : Int) ≤ i := by omega
    simp only [r02_Value_l0, ilt_eq, ile_eq, ieq_eq, ssize_eq, k1, k2, decide_true, cond_true, sat_bl s i hi, small_v, digit_v, smallI_b, digitI_b, bindN_s, iadd1 (i := i) (by omega), bindL_id, inValB]
    have q1 : decide (((bl s)[i].toNat : Int) = 95) = decide ((bl s)[i].toNat = 95) := by rw [decide_eq_decide]; omega
    have q2 : decide (((bl s)[i].toNat : Int) = 45) = decide ((bl s)[i].toNat = 45) := by rw [decide_eq_decide]; omega
    have q3 : decide (((bl s)[i].toNat : Int) = 46) = decide ((bl s)[i].toNat = 46) := by rw [decide_eq_decide]; omega
    rw [q1, q2, q3]
    cases smallB (bl s)[i] <;> cases digitB (bl s)[i] <;> cases decide ((bl s)[i].toNat = 95) <;> cases decide ((bl s)[i].toNat = 45) <;> cases decide ((bl s)[i].toNat = 46) <;> rfl) (g := n) (by unfold Big at hn; omega)
  simp only [ilt_eq, ssize_eq, h1', h2', decide_false, cond_false, hL, g1, g2, decide_true, Bool.true_and, all_any]
  cases (bl s).all inValB <;> simp
theorem r02_Value_v {n : Nat} (hn : Big n) (x : SgEl r02_Value_sg) : r02_Value n x = some ((valueL (bl x.1), ()), ((), ())) := r02_Value_v0 hn x.1
/-! ### the program's words -/
theorem made_v (n : Nat) (s cs : ByteArray) (h1 : cs.size < 4294967281) (h2 : (cs.data.toList.all fun b => decide (b.toNat < 128)) = true) :
    word_made n (s, cs, ()) = some ((decide (1 ≤ (bl s).length) && decide ((bl s).length ≤ 12) && (bl s).all (fun b => cs.data.toList.contains b), ()), ((), (), ())) := by
  have hz := size_bl s
  unfold word_made
  by_cases h : bl s = []
  · simp [bl_nil, h]
  · have hl : 1 ≤ (bl s).length := by cases hh : bl s with
      | nil => exact absurd hh h
      | cons a t => simp
    by_cases hz' : s.size ≤ 12
    · have e1 : (s.size : Int) ≤ 12 := by omega
      have e2 : (bl s).length ≤ 12 := by omega
      have e3 : Nat.ble s.size 9223372036854775807 = true := by rw [Nat.ble_eq]; omega
      have e4 : Nat.blt cs.size 4294967281 = true := by unfold Nat.blt; rw [Nat.ble_eq]; omega
      have e5 := trim_nil (bl s) cs.data.toList
      simp only [seq_eq, bl_nil, h, decide_false, Bool.not_false, cond_true, ile_eq, ssize_eq, e1, decide_true, s_Trim, e3, e4, h2, Bool.and_self, bindN_s, hl, e2, Bool.true_and]
      congr 3
      rw [Bool.eq_iff_iff, decide_eq_true_eq]
      exact e5
    · have e1 : ¬ (s.size : Int) ≤ 12 := by omega
      have e2 : ¬ (bl s).length ≤ 12 := by omega
      simp [bl_nil, h, e1, e2]
theorem word_Name_v0 (n : Nat) (s : ByteArray) : word_Name n (s, ()) = some ((nameL (bl s), ()), ((), ())) := by
  have hz := size_bl s
  unfold word_Name
  rw [made_v n _ _ (by decide) (by decide +kernel)]
  simp only [bindN_s]
  have e : (bl s).all (fun b => (⟨#[97, 98, 99, 100, 101, 102, 103, 104, 105, 106, 107, 108, 109, 110, 111, 112, 113, 114, 115, 116, 117, 118, 119, 120, 121, 122, 48, 49, 50, 51, 52, 53, 54, 55, 56, 57, 95]⟩ : ByteArray).data.toList.contains b) = (bl s).all inNameB := by
    congr 1; funext b; exact in_name b
  rw [e]
  unfold nameL
  by_cases h : (decide (1 ≤ (bl s).length) && decide ((bl s).length ≤ 12) && (bl s).all inNameB) = true
  · have h' := h
    simp only [Bool.and_eq_true, decide_eq_true_eq] at h'
    have e0 : (0 : Int) < s.size := by omega
    have e2 := in_small ((bl s).headD 0)
    simp only [h, cond_true, ile_eq, Int.le_refl, decide_true, ilt_eq, ssize_eq, e0, sat_0 s h'.1.1, s_IndexByte, bindN_s]
    rw [show (((((bl s).headD 0).toNat : Nat) : Int).toNat).toUInt8 = (bl s).headD 0 by simp]
    rw [show (decide ((0 : Int) ≤ Lib.indexByte (⟨#[97, 98, 99, 100, 101, 102, 103, 104, 105, 106, 107, 108, 109, 110, 111, 112, 113, 114, 115, 116, 117, 118, 119, 120, 121, 122]⟩ : ByteArray).data.toList ((bl s).headD 0))) = smallB ((bl s).headD 0) from e2]
    rw [decide_eq_true h'.1.1, decide_eq_true h'.1.2, h'.2]; simp
  · have h' : (decide (1 ≤ (bl s).length) && decide ((bl s).length ≤ 12) && (bl s).all inNameB) = false := by simpa using h
    simp only [h', cond_false]
    clear e h
    revert h'
    generalize decide (1 ≤ (bl s).length) = a1
    generalize decide ((bl s).length ≤ 12) = a2
    generalize (bl s).all inNameB = a3
    generalize smallB ((bl s).headD 0) = a4
    cases a1 <;> cases a2 <;> cases a3 <;> cases a4 <;> simp
theorem word_Name_v (n : Nat) (x : SgEl word_Name_sg) : word_Name n x = some ((nameL (bl x.1), ()), ((), ())) := word_Name_v0 n x.1
theorem word_Value_v0 (n : Nat) (s : ByteArray) : word_Value n (s, ()) = some ((valueL (bl s), ()), ((), ())) := by
  unfold word_Value
  rw [made_v n _ _ (by decide) (by decide +kernel)]
  simp only [bindN_s]
  have e : (bl s).all (fun b => (⟨#[97, 98, 99, 100, 101, 102, 103, 104, 105, 106, 107, 108, 109, 110, 111, 112, 113, 114, 115, 116, 117, 118, 119, 120, 121, 122, 48, 49, 50, 51, 52, 53, 54, 55, 56, 57, 95, 45, 46]⟩ : ByteArray).data.toList.contains b) = (bl s).all inValB := by
    congr 1; funext b; exact in_val b
  rw [e]
  rfl
theorem word_Value_v (n : Nat) (x : SgEl word_Value_sg) : word_Value n x = some ((valueL (bl x.1), ()), ((), ())) := word_Value_v0 n x.1
theorem tag_may_v0 (n : Nat) (t : TG) : tag_may n (t, ()) = some ((mayT t, ()), ((), ())) := by
  obtain ⟨a, b, ⟨⟩⟩ := t
  unfold tag_may mayT
  simp only [word_Name_v, bindN_s]
  cases nameL (bl a) with
  | false => simp
  | true => simp [word_Value_v]
theorem tag_may_v (n : Nat) (x : SgEl tag_may_sg) : tag_may n x = some ((mayT x.1, ()), ((), ())) := tag_may_v0 n x.1
theorem r03_may_v0 {n : Nat} (hn : Big n) (t : TG) : r03_may n (t, ()) = some ((mayT t, ()), ((), ())) := by
  obtain ⟨a, b, ⟨⟩⟩ := t
  unfold r03_may mayT
  simp only [r02_Name_v hn, bindN_s]
  cases nameL (bl a) with
  | false => simp
  | true => simp [r02_Value_v hn]
theorem r03_may_v {n : Nat} (hn : Big n) (x : SgEl r03_may_sg) : r03_may n x = some ((mayT x.1, ()), ((), ())) := r03_may_v0 hn x.1
/-! ### parts -/
theorem split_loop {n : Nat} (c : UInt8) : ∀ (m : Nat) (s : ByteArray) (acc : List ByteArray) (g : Nat), s.size ≤ m → m < g → acc.length + s.size ≤ 1000000000 →
    word_Split_l0 n g (s, (c.toNat : Int), acc, ()) = some (.inr (acc ++ splitB c s, ())) := by
  intro m
  induction m with
  | zero =>
    intro s acc g hn hg hb
    obtain ⟨g, rfl⟩ : ∃ g', g = g' + 1 := ⟨g - 1, by omega⟩
    have hs : s = ⟨#[]⟩ := bl_inj (List.length_eq_zero_iff.1 (by rw [size_bl]; omega))
    subst hs
    have e : room (acc.length + 1) 16 = true := room_of (by omega)
    simp [word_Split_l0, s_IndexByte, Lib.indexByte, roomA, app, e]; rfl
  | succ m ih =>
    intro s acc g hn hg hb
    obtain ⟨g, rfl⟩ : ∃ g', g = g' + 1 := ⟨g - 1, by omega⟩
    have hlt := idx_lt (bl s) c
    rw [size_bl] at hlt
    have hc : ((c.toNat : Int).toNat).toUInt8 = c := by simp
    have e := splitL_idx c (bl s)
    have er : room (acc.length + 1) 16 = true := room_of (by omega)
    have ei : s_IndexByte n (s, (c.toNat : Int), ()) = some ((Lib.indexByte (bl s) c, ()), ((), (), ())) := by simp only [s_IndexByte, hc]; rfl
    by_cases h : Lib.indexByte (bl s) c < 0
    · simp only [word_Split_l0, ei, bindN_s, ilt_eq, h, decide_true, cond_true, roomA, List.length_singleton, er, app]
      rw [splitB, e, if_pos h]; rfl
    · obtain ⟨k, hk⟩ := Int.eq_ofNat_of_zero_le (show 0 ≤ Lib.indexByte (bl s) c by omega)
      rw [hk] at hlt e h ei
      have hsz : (s.extract (k + 1) s.size).size = s.size - (k + 1) := by rw [← size_bl, bl_extract]; simp [size_bl]
      have h1 : (k : Int) ≤ s.size := by omega
      have h2 : (0 : Int) ≤ ((k + 1 : Nat) : Int) := by omega
      have h3 : ((k + 1 : Nat) : Int) ≤ s.size := by omega
      have h4 : (0 : Int) ≤ k := by omega
      have := ih (s.extract (k + 1) s.size) (acc ++ [s.extract 0 k]) g (by rw [hsz]; omega) (by omega) (by rw [hsz, List.length_append]; simp; omega)
      simp only [word_Split_l0, ei, bindN_s, ilt_eq, ile_eq, ssize_eq, h, h1, h2, h3, h4, decide_false, decide_true, cond_false, cond_true, roomA, List.length_singleton, er, app, iadd1 (i := k) (by omega), Int.le_refl, sext_eq, Int.toNat_natCast, Int.toNat_zero, this, bindL_inr]
      have e2 : acc ++ splitB c s = acc ++ [s.extract 0 k] ++ splitB c (s.extract (k + 1) s.size) := by
        unfold splitB
        rw [e, if_neg h, List.append_assoc, ext_take, ext_drop, bl_mk ((bl s).drop (k + 1))]
        simp
      rw [e2]
theorem word_Split_v {n : Nat} (hn : Big n) (c : UInt8) (s : ByteArray) (hs : s.size ≤ 1000000) : word_Split n (s, (c.toNat : Int), ()) = some ((splitB c s, ()), ((), (), ())) := by
  have := split_loop (n := n) c s.size s [] n (Nat.le_refl _) (by unfold Big at hn; omega) (by simp; omega)
  simp only [word_Split, this, bindL_inr, List.nil_append]
theorem rsplit_loop {n : Nat} (c : UInt8) (s : ByteArray) (hs : s.size ≤ 1000000) : ∀ (d i f g : Nat) (acc : List ByteArray), i + d = s.size → f ≤ i → acc.length ≤ i → d < g →
    ∃ (acc' : List ByteArray) (f' : Nat), r02_Split_l0 n g (s, (c.toNat : Int), acc, (f : Int), (i : Int), ()) = some (.inl (s, acc', (f' : Int), ())) ∧ f' ≤ s.size ∧ acc'.length ≤ s.size ∧
      acc' ++ [s.extract f' s.size] = acc ++ (glue (((bl s).take i).drop f) (splitL c ((bl s).drop i))).map fun l => ⟨l.toArray⟩
  | 0, i, f, g, acc, hd, hf, ha, hg => by
    obtain ⟨g, rfl⟩ : ∃ g', g = g' + 1 := ⟨g - 1, by omega⟩
    have hi : i = s.size := by omega
    subst hi
    refine ⟨acc, f, ?_, hf, ha, ?_⟩
    · simp [r02_Split_l0]
    · rw [show (bl s).drop s.size = [] from List.drop_of_length_le (by rw [size_bl]; exact Nat.le_refl _), ext_mid]
      simp only [splitL, glue, List.append_nil, List.map_cons, List.map_nil]
  | d + 1, i, f, g, acc, hd, hf, ha, hg => by
    obtain ⟨g, rfl⟩ : ∃ g', g = g' + 1 := ⟨g - 1, by omega⟩
    have hi : i < (bl s).length := by rw [size_bl]; omega
    have k1 : (i : Int) < s.size := by omega
    have k2 : (0 : Int) ≤ i := by omega
    have k3 : (0 : Int) ≤ f := by omega
    have k4 : (f : Int) ≤ i := by omega
    have k5 : (i : Int) ≤ s.size := by omega
    have er : room (acc.length + 1) 16 = true := room_of (by omega)
    rw [drop_cons (bl s) i hi]
    by_cases hc : (bl s)[i] = c
    · obtain ⟨acc', f', h1, h2, h3, h4⟩ := rsplit_loop (n := n) c s hs d (i + 1) (i + 1) g (acc ++ [s.extract f i]) (by omega) (by omega) (by simp; omega) (by omega)
      refine ⟨acc', f', ?_, h2, h3, ?_⟩
      · simp only [r02_Split_l0, ilt_eq, ile_eq, ieq_eq, ssize_eq, k1, k2, k3, k4, k5, decide_true, cond_true, sat_bl s i hi, hc, roomA, List.length_singleton, er, app, sext_eq, Int.toNat_natCast, iadd1 (i := i) (by omega), h1, bindL_inl]
      · rw [h4, splitL, if_pos hc]
        have e1 : ((bl s).take (i + 1)).drop (i + 1) = [] := List.drop_of_length_le (by simp; omega)
        rw [e1]
        have e2 : glue [] (splitL c ((bl s).drop (i + 1))) = splitL c ((bl s).drop (i + 1)) := by
          cases h : splitL c ((bl s).drop (i + 1)) with
          | nil => exact absurd h (splitL_ne _ _)
          | cons a t => rfl
        rw [e2]
        simp [glue, ext_mid]
    · obtain ⟨acc', f', h1, h2, h3, h4⟩ := rsplit_loop (n := n) c s hs d (i + 1) f g acc (by omega) (by omega) (by omega) (by omega)
      have hc' : ¬ ((bl s)[i].toNat : Int) = (c.toNat : Int) := by rw [u8_int]; exact hc
      refine ⟨acc', f', ?_, h2, h3, ?_⟩
      · simp only [r02_Split_l0, ilt_eq, ile_eq, ieq_eq, ssize_eq, k1, k2, decide_true, cond_true, sat_bl s i hi, hc', decide_false, cond_false, iadd1 (i := i) (by omega), h1, bindL_inl]
      · rw [h4, splitL, if_neg hc]
        have e1 : ((bl s).take (i + 1)).drop f = ((bl s).take i).drop f ++ [(bl s)[i]] := by
          rw [List.take_succ_eq_append_getElem hi, List.drop_append_of_le_length (by simp; omega)]
        rw [e1]
        cases h : splitL c ((bl s).drop (i + 1)) with
        | nil => exact absurd h (splitL_ne _ _)
        | cons a t => simp [glue]
theorem r02_Split_v {n : Nat} (hn : Big n) (c : UInt8) (s : ByteArray) (hs : s.size ≤ 1000000) : r02_Split n (s, (c.toNat : Int), ()) = some ((splitB c s, ()), ((), (), ())) := by
  obtain ⟨acc', f', h1, h2, h3, h4⟩ := rsplit_loop (n := n) c s hs s.size 0 0 n [] (by omega) (by omega) (by simp) (by unfold Big at hn; omega)
  have k3 : (0 : Int) ≤ f' := by omega
  have k4 : (f' : Int) ≤ s.size := by omega
  have er : room (acc'.length + 1) 16 = true := room_of (by omega)
  have e : acc' ++ [s.extract f' s.size] = splitB c s := by
    rw [h4]
    unfold splitB
    cases h : splitL c (bl s) with
    | nil => exact absurd h (splitL_ne _ _)
    | cons a t => simp [glue, h]
  rw [show ((0 : Nat) : Int) = 0 from rfl] at h1
  simp only [r02_Split, h1, bindL_inl, ile_eq, ssize_eq, k3, k4, decide_true, cond_true, Int.le_refl, roomA, List.length_singleton, er, app, sext_eq, Int.toNat_natCast, e]
/-! ### texts joined -/
theorem word_Join_v (n : Nat) (sep : ByteArray) (l : List ByteArray) (h1 : l.length ≤ 1000000) (h2 : (bl (joinB sep l)).length ≤ 100000000000) : word_Join n (sep, l, ()) = some ((joinB sep l, ()), ((), (), ())) := by
  have e1 : Nat.ble l.length 140737488355328 = true := by rw [Nat.ble_eq]; omega
  have e2 : Nat.ble (Lib.join (l.map (·.data.toList)) sep.data.toList).length 140737488355328 = true := by
    have : (bl (joinB sep l)).length = (Lib.join (l.map (·.data.toList)) sep.data.toList).length := rfl
    rw [Nat.ble_eq]; omega
  simp only [word_Join, s_Join, e1, e2, Bool.and_self, cond_true, bindN_s]
  rfl
theorem rjoin_loop {n : Nat} (sep : ByteArray) (l : List ByteArray) (hl : l.length ≤ 1000000) : ∀ (d i g : Nat) (acc : ByteArray), i + 1 + d = l.length → d < g → (bl acc).length + (tl (bl sep) ((l.drop (i + 1)).map bl)).length ≤ 1000000000000 →
    r02_Join_l0 n g (sep, l, acc, ((i + 1 : Nat) : Int), ()) = some (.inl (mkB (bl acc ++ tl (bl sep) ((l.drop (i + 1)).map bl)), ()))
  | 0, i, g, acc, hd, hg, hb => by
    obtain ⟨g, rfl⟩ : ∃ g', g = g' + 1 := ⟨g - 1, by omega⟩
    have k : ¬ ((i + 1 : Nat) : Int) < (l.length : Int) := by omega
    rw [List.drop_of_length_le (by omega)]
    simp only [r02_Join_l0, ilt_eq, ilen, k, decide_false, cond_false]
    simp [Lib.joinTail, mkB_bl]
  | d + 1, i, g, acc, hd, hg, hb => by
    obtain ⟨g, rfl⟩ : ∃ g', g = g' + 1 := ⟨g - 1, by omega⟩
    have hi : i + 1 < l.length := by omega
    rw [drop_cons l (i + 1) hi, List.map_cons, tl_cons] at hb ⊢
    rw [List.length_append, List.length_append] at hb
    have h1 := size_bl acc
    have h2 := size_bl sep
    have h3 := size_bl l[i + 1]
    have k1 : ((i + 1 : Nat) : Int) < (l.length : Int) := by omega
    have k2 : (0 : Int) < ((i + 1 : Nat) : Int) := by omega
    have k3 : (0 : Int) ≤ ((i + 1 : Nat) : Int) := by omega
    have f1 : sfits acc sep = true := sfits_of (by omega)
    have f2 : sfits (acc ++ sep) l[i + 1] = true := sfits_of (by rw [ByteArray.size_append]; omega)
    have ih := rjoin_loop (n := n) sep l hl d (i + 1) g ((acc ++ sep) ++ l[i + 1]) (by omega) (by omega) (by rw [bl_append, bl_append, List.length_append, List.length_append]; omega)
    rw [bl_append, bl_append] at ih
    simp only [r02_Join_l0, ilt_eq, ile_eq, ilen, k1, k2, k3, decide_true, cond_true, f1, lat_eq, iN, Int.toNat_natCast, List.getElem?_eq_getElem hi, bindN_s, scat_eq, f2, iadd1 (i := i + 1) (by omega), ih, bindL_inl]
    simp [List.append_assoc]
theorem r02_Join_v {n : Nat} (hn : Big n) (sep : ByteArray) (l : List ByteArray) (hl : l.length ≤ 1000000) (hb : (bl (joinB sep l)).length ≤ 100000000000) : r02_Join n (sep, l, ()) = some ((joinB sep l, ()), ((), (), ())) := by
  obtain ⟨m, rfl⟩ : ∃ m, n = m + 1 := ⟨n - 1, by unfold Big at hn; omega⟩
  cases l with
  | nil => simp [r02_Join, r02_Join_l0]; rfl
  | cons x r =>
    rw [joinB_cons, List.length_append] at hb
    have h1 := size_bl x
    have f1 : sfits (⟨#[]⟩ : ByteArray) x = true := sfits_of (by show 0 + x.size ≤ _; omega)
    have := rjoin_loop (n := m + 1) sep (x :: r) hl r.length 0 m (⟨#[]⟩ ++ x) (by simp; omega) (by simp at hl; unfold Big at hn; omega) (by
        rw [bl_append, empty_bl]; simp only [List.nil_append, Nat.zero_add, List.drop_succ_cons, List.drop_zero]; omega)
    rw [bl_append, empty_bl] at this
    have e : joinB sep (x :: r) = mkB (bl x ++ tl (bl sep) (r.map bl)) := bl_inj (by rw [joinB_cons, bl_mkB])
    have k1 : (0 : Int) < ((x :: r).length : Int) := by simp only [List.length_cons]; omega
    have e1 : iadd .i64 (0 : Int) 1 = ((0 + 1 : Nat) : Int) := iadd1 (i := 0) (by omega)
    simp only [r02_Join, r02_Join_l0, ilt_eq, ile_eq, ilen, k1, decide_true, cond_true, Int.lt_irrefl, decide_false, cond_false, Int.le_refl, lat_eq, iN, Int.toNat_zero, List.getElem?_cons_zero, bindN_s, f1, scat_eq, e1, this, bindL_inl, e]
    simp
/-! ### a text cut in two -/
theorem s_Cut_v (n : Nat) (c : UInt8) (s : ByteArray) (hs : s.size ≤ 9000000000000) : s_Cut n (s, (⟨#[c]⟩ : ByteArray), ()) = some (((cutB c s).1, (cutB c s).2.1, (cutB c s).2.2, ()), ((), (), ())) := by
  have h := idx_lt (bl s) c
  rw [size_bl] at h
  have e : s_Index1 n (s, (⟨#[c]⟩ : ByteArray), ()) = some ((Lib.indexByte (bl s) c, ()), ((), (), ())) := rfl
  have e1 : (((⟨#[c]⟩ : ByteArray).size : Nat) : Int) = 1 := rfl
  unfold s_Cut s_slCut cutB
  simp only [e, bindN_s]
  by_cases h0 : Lib.indexByte (bl s) c < 0
  · have h0' : ¬ 0 ≤ Lib.indexByte (bl s) c := by omega
    simp [h0, h0']
  · obtain ⟨m, hm⟩ := Int.eq_ofNat_of_zero_le (show 0 ≤ Lib.indexByte (bl s) c by omega)
    rw [hm] at h h0 ⊢
    have k1 : (0 : Int) ≤ m := by omega
    have k2 : (m : Int) ≤ s.size := by omega
    have k3 : (0 : Int) ≤ ((m + 1 : Nat) : Int) := by omega
    have k4 : ((m + 1 : Nat) : Int) ≤ s.size := by omega
    simp only [ile_eq, ssize_eq, e1, iadd1 (i := m) (by omega), k1, k2, k3, k4, decide_true, cond_true, Int.le_refl, sext_eq, Int.toNat_natCast, Int.toNat_zero, bindN_s, if_neg h0]
end Go.Proofs.YteaadaaghhojfaaGreatDoorE
end
section
namespace Go.Proofs.YteaadaaghhojfaaGreatDoorE
open Go Go.Proofs
set_option linter.unusedVariables false
set_option linter.unusedSimpArgs false
/-- how many stand ahead of a tag -/
def pl (t : TG) (l : List TG) : Nat := (l.takeWhile fun u => lessT u t).length
theorem pl_le (t : TG) (l : List TG) : pl t l ≤ l.length := by
  unfold pl; have := (List.takeWhile_prefix (fun u => lessT u t) (l := l)).length_le; exact this
theorem pl_cons_t {t u : TG} {r : List TG} (h : lessT u t = true) : pl t (u :: r) = pl t r + 1 := by simp [pl, h]
theorem pl_cons_f {t u : TG} {r : List TG} (h : lessT u t = false) : pl t (u :: r) = 0 := by simp [pl, h]
theorem insT_pl (t : TG) : ∀ l : List TG, insT t l = match l[pl t l]? with | some u => if nm u = nm t then none else some (l.take (pl t l) ++ t :: l.drop (pl t l)) | none => some (l ++ [t])
  | [] => by simp [insT, pl]
  | u :: r => by
    rw [insT]
    cases h : lessT u t with
    | true =>
      rw [pl_cons_t h, if_pos rfl, insT_pl t r]
      simp only [List.getElem?_cons_succ, List.take_succ_cons, List.drop_succ_cons]
      cases r[pl t r]? with
      | none => simp
      | some v => simp only; split <;> simp
    | false =>
      rw [pl_cons_f h]
      simp
theorem canon_l2 {n : Nat} (l : List TG) (i : Nat) (hi : i < l.length) (hl : l.length ≤ 100) : ∀ (d j g : Nat) (acc : List TG), j + d = acc.length → acc.length ≤ 100 → d < g →
    r03_Canon_l2 n g (l, acc, (i : Int), (j : Int), ()) = some (.inl (l, acc, (i : Int), ((j + pl l[i] (acc.drop j) : Nat) : Int), ()))
  | 0, j, g, acc, hd, ha, hg => by
    obtain ⟨g, rfl⟩ : ∃ g', g = g' + 1 := ⟨g - 1, by omega⟩
    have k : ¬ (j : Int) < (acc.length : Int) := by omega
    rw [List.drop_of_length_le (by omega)]
    simp only [r03_Canon_l2, ilt_eq, ilen, k, decide_false, cond_false]
    rfl
  | d + 1, j, g, acc, hd, ha, hg => by
    obtain ⟨g, rfl⟩ : ∃ g', g = g' + 1 := ⟨g - 1, by omega⟩
    have hj : j < acc.length := by omega
    have k : (j : Int) < (acc.length : Int) := by omega
    have k0 : (0 : Int) ≤ j := by omega
    have k1 : (0 : Int) ≤ i := by omega
    rw [drop_cons acc j hj]
    have ih := canon_l2 (n := n) l i hi hl d (j + 1) g acc (by omega) ha (by omega)
    simp only [r03_Canon_l2, ilt_eq, ile_eq, ilen, k, k0, k1, decide_true, cond_true, lat_eq, iN, Int.toNat_natCast, List.getElem?_eq_getElem hj, List.getElem?_eq_getElem hi, bindN_s, slt_eq, iadd1 (i := j) (by omega), bindL_id2, ih]
    have e : Op.bytesLess (acc[j]).1.data.toList (l[i]).1.data.toList = lessT acc[j] l[i] := rfl
    rw [e]
    cases h : lessT acc[j] l[i] with
    | true => rw [pl_cons_t h, show j + (pl l[i] (acc.drop (j + 1)) + 1) = j + 1 + pl l[i] (acc.drop (j + 1)) by omega]; rfl
    | false => rw [pl_cons_f h]; simp
theorem canon_l1 {n : Nat} (hn : Big n) (l : List TG) (hl : l.length ≤ 4) : ∀ (d i g : Nat) (acc : List TG), i + d = l.length → acc.length = i → d < g →
    r03_Canon_l1 n g (l, acc, (i : Int), ()) = some (match insAll acc (l.drop i) with | some o => .inl (o, ()) | none => .inr ([], (5 : Int), ()))
  | 0, i, g, acc, hd, ha, hg => by
    obtain ⟨g, rfl⟩ : ∃ g', g = g' + 1 := ⟨g - 1, by omega⟩
    have k : ¬ (i : Int) < (l.length : Int) := by omega
    rw [List.drop_of_length_le (by omega)]
    simp [r03_Canon_l1, k, insAll]
  | d + 1, i, g, acc, hd, ha, hg => by
    obtain ⟨g, rfl⟩ : ∃ g', g = g' + 1 := ⟨g - 1, by omega⟩
    have hi : i < l.length := by omega
    have k : (i : Int) < (l.length : Int) := by omega
    have k1 : (0 : Int) ≤ i := by omega
    have h2 := canon_l2 (n := n) l i hi (by omega) acc.length 0 n acc (by omega) (by omega) (by unfold Big at hn; omega)
    rw [List.drop_zero, Nat.zero_add, show ((0 : Nat) : Int) = 0 from rfl] at h2
    have hpl := pl_le l[i] acc
    rw [drop_cons l i hi, insAll, insT_pl]
    generalize pl l[i] acc = q at h2 hpl
    have k2 : (0 : Int) ≤ q := by omega
    have k3 : (q : Int) ≤ (acc.length : Int) := by omega
    have e0 : ((acc.length : Int).toNat - q) = acc.length - q := by omega
    have e1 : (acc.drop q).take (acc.length - q) = acc.drop q := List.take_of_length_le (by simp)
    have r1 : room (acc.length - q) 32 = true := room_of (by omega)
    have r2 : room (q + 1) 32 = true := room_of (by omega)
    have r3 : room (q + 1 + (acc.length - q)) 32 = true := room_of (by omega)
    have e2 : min q acc.length = q := by omega
    by_cases hq : q < acc.length
    · have k4 : (q : Int) < (acc.length : Int) := by omega
      have e : (acc[q].1 = l[i].1) ↔ (nm acc[q] = nm l[i]) := ⟨fun h => by unfold nm; rw [h], fun h => bl_inj h⟩
      by_cases hnm : acc[q].1 = l[i].1
      · have hnm' := e.1 hnm
        simp [r03_Canon_l1, k, k1, k2, k4, h2, hq, hi, hnm, hnm']
      · have hnm' : ¬ nm acc[q] = nm l[i] := fun h => hnm (e.2 h)
        have ih := canon_l1 hn l hl d (i + 1) g (acc.take q ++ l[i] :: acc.drop q) (by omega) (by simp; omega) (by omega)
        rw [show ((i + 1 : Nat) : Int) = (i : Int) + 1 from rfl] at ih
        simp [r03_Canon_l1, k, k1, k2, k3, k4, h2, hq, hi, hnm, hnm', roomA, e0, e1, e2, r1, r2, r3, iadd1 (i := i) (by omega), ih]
    · have k4 : ¬ (q : Int) < (acc.length : Int) := by omega
      have eq : q = acc.length := by omega
      have ih := canon_l1 hn l hl d (i + 1) g (acc ++ [l[i]]) (by omega) (by simp; omega) (by omega)
      subst eq
      rw [show ((i + 1 : Nat) : Int) = (i : Int) + 1 from rfl] at ih
      have r0 : room 0 32 = true := room_of (by omega)
      simp [r03_Canon_l1, r0, k, k1, k2, k3, k4, h2, hq, hi, roomA, r1, r2, r3, iadd1 (i := i) (by omega), ih]
theorem r03_Canon_v {n : Nat} (hn : Big n) (l : List TG) (hl : l.length ≤ 1000000) : r03_Canon n (l, ()) = some (((canonT l).1, (canonT l).2, ()), ((), ())) := by
  have hL := any_loop' (a := l) (fun t => !mayT t) (l, ()) (([] : List TG), (2 : Int), ()) (L := fun g i => r03_Canon_l0 n g (l, i, ())) (fun g => by simp [r03_Canon_l0]) (fun g i hi => by
    have k : (i : Int) < (l.length : Int) := by omega
    have k1 : (0 : Int) ≤ i := by omega
    simp only [r03_Canon_l0, ilt_eq, ile_eq, ilen, k, k1, decide_true, cond_true, lat_eq, iN, Int.toNat_natCast, List.getElem?_eq_getElem hi, bindN_s, r03_may_v hn, iadd1 (i := i) (by omega), bindL_id1]) (g := n) (by unfold Big at hn; omega)
  rw [all_any] at hL
  rw [canonT_eq]
  unfold r03_Canon
  cases ha : l.all mayT with
  | false => rw [ha] at hL; simp at hL; simp [hL]
  | true =>
    rw [ha] at hL; simp at hL
    by_cases h4 : 4 < l.length
    · have h4' : (4 : Int) < l.length := by omega
      simp [hL, h4, h4']
    · have h4' : ¬ (4 : Int) < l.length := by omega
      have h1 := canon_l1 hn l (by omega) l.length 0 n [] (by omega) rfl (by unfold Big at hn; omega)
      rw [List.drop_zero, show ((0 : Nat) : Int) = 0 from rfl] at h1
      simp only [hL, bindL_inl, ilt_eq, ilen, h4', decide_false, cond_false, h1, if_true, if_neg h4]
      cases insAll [] l <;> simp
/-! ### the program's -/
theorem contains_bad {n : Nat} (hn : Big n) (l : List TG) (hl : l.length ≤ 1000000) : sl_ContainsTag n (l, (), ()) = some ((!l.all mayT, ()), ((), (), ())) := by
  have key : ∀ (d i g : Nat), i + d = l.length → d < g → ∃ r, sl_IndexTag_l0 n g (l, (), (l.length : Int), (i : Int), ()) = some r ∧
      ((l.drop i).all mayT = true ∧ r = .inl () ∨ (l.drop i).all mayT = false ∧ ∃ q : Nat, r = .inr ((q : Int), ())) := by
    intro d
    induction d with
    | zero =>
      intro i g hd hg
      obtain ⟨g, rfl⟩ : ∃ g', g = g' + 1 := ⟨g - 1, by omega⟩
      have k : ¬ (i : Int) < (l.length : Int) := by omega
      refine ⟨_, by simp only [sl_IndexTag_l0, ilt_eq, k, decide_false, cond_false], .inl ⟨?_, rfl⟩⟩
      rw [List.drop_of_length_le (by omega)]; rfl
    | succ d ih =>
      intro i g hd hg
      obtain ⟨g, rfl⟩ : ∃ g', g = g' + 1 := ⟨g - 1, by omega⟩
      have hi : i < l.length := by omega
      have k : (i : Int) < (l.length : Int) := by omega
      have k1 : (0 : Int) ≤ i := by omega
      obtain ⟨r, h1, h2⟩ := ih (i + 1) g (by omega) (by omega)
      rw [drop_cons l i hi, List.all_cons]
      cases hm : mayT l[i] with
      | false =>
        refine ⟨.inr ((i : Int), ()), ?_, .inr ⟨by simp, i, rfl⟩⟩
        simp only [sl_IndexTag_l0, ilt_eq, ile_eq, k, k1, decide_true, cond_true, lat_eq, iN, Int.toNat_natCast, List.getElem?_eq_getElem hi, bindN_s, tag_Canon1, tag_may_v, hm, Bool.not_false]
      | true =>
        refine ⟨r, ?_, by simpa using h2⟩
        simp only [sl_IndexTag_l0, ilt_eq, ile_eq, k, k1, decide_true, cond_true, lat_eq, iN, Int.toNat_natCast, List.getElem?_eq_getElem hi, bindN_s, tag_Canon1, tag_may_v, hm, Bool.not_true, cond_false, iadd1 (i := i) (by omega), h1]
        rcases r with ⟨⟨⟩⟩ | b <;> simp
  obtain ⟨r, h1, h2⟩ := key l.length 0 n (by omega) (by unfold Big at hn; omega)
  rw [List.drop_zero] at h2
  rw [show ((0 : Nat) : Int) = 0 from rfl] at h1
  unfold sl_ContainsTag sl_IndexTag
  rcases h2 with ⟨h2, rfl⟩ | ⟨h2, q, rfl⟩
  · simp [h1, h2]
  · have : (0 : Int) ≤ q := by omega
    simp [h1, h2, this]
theorem canon_l0 {n : Nat} (l : List TG) (hl : l.length ≤ 4) : ∀ (d i g : Nat), i + 1 + d = l.length → d < g → tag_Canon_l0 n g (l, ((i + 1 : Nat) : Int), ()) = some (if adj (l.drop i) = true then .inr ([], (5 : Int), ()) else .inl (l, ()))
  | 0, i, g, hd, hg => by
    obtain ⟨g, rfl⟩ : ∃ g', g = g' + 1 := ⟨g - 1, by omega⟩
    have hi : i < l.length := by omega
    have k : ¬ ((i + 1 : Nat) : Int) < (l.length : Int) := by omega
    rw [drop_cons l i hi, List.drop_of_length_le (by omega), show adj [l[i]] = false from rfl]
    simp only [tag_Canon_l0, ilt_eq, ilen, k, decide_false, cond_false]
    simp
  | d + 1, i, g, hd, hg => by
    obtain ⟨g, rfl⟩ : ∃ g', g = g' + 1 := ⟨g - 1, by omega⟩
    have hi0 : i < l.length := by omega
    have hi : i + 1 < l.length := by omega
    have k : ((i + 1 : Nat) : Int) < (l.length : Int) := by omega
    have k0 : (0 : Int) ≤ i := by omega
    have k1 : (0 : Int) ≤ ((i + 1 : Nat) : Int) := by omega
    have e0 : isub .i64 ((i + 1 : Nat) : Int) 1 = (i : Int) := by rw [isub64 (by omega) (by omega)]; omega
    have ih := canon_l0 (n := n) l hl d (i + 1) g (by omega) (by omega)
    rw [adj_drop l i hi]
    simp only [tag_Canon_l0, ilt_eq, ile_eq, ieq_eq, ilen, k, k0, k1, e0, decide_true, cond_true, lat_eq, iN, Int.toNat_natCast, List.getElem?_eq_getElem hi, List.getElem?_eq_getElem hi0, bindN_s, tag_order, s_Compare, iadd1 (i := i + 1) (by omega), bindL_id1, ih]
    have e : (Lib.compareBytes (l[i]).1.data.toList (l[i + 1]).1.data.toList = 0) ↔ nm l[i] = nm l[i + 1] := cmp_zero _ _
    by_cases h : nm l[i] = nm l[i + 1]
    · simp [e.2 h, h]
    · have : ¬ Lib.compareBytes (l[i]).1.data.toList (l[i + 1]).1.data.toList = 0 := fun q => h (e.1 q)
      simp [this, h]
theorem tag_Canon_v {n : Nat} (hn : Big n) (l : List TG) (hl : l.length ≤ 1000000) : tag_Canon n (l, ()) = some (((canonT l).1, (canonT l).2, ()), ((), ())) := by
  rw [canonT_eq]
  unfold tag_Canon
  simp only [contains_bad hn l hl, bindN_s]
  cases ha : l.all mayT with
  | false => simp
  | true =>
    by_cases h4 : 4 < l.length
    · have h4' : (4 : Int) < l.length := by omega
      simp [h4, h4']
    · have h4' : ¬ (4 : Int) < l.length := by omega
      have r1 : room l.length 32 = true := room_of (by omega)
      have b1 : Nat.blt l.length 4611686018427387904 = true := by unfold Nat.blt; rw [Nat.ble_eq]; omega
      have hlen : (srt l).length = l.length := (srt_spec l).1.length_eq
      have e := canon_scan l
      simp only [Bool.not_true, cond_false, ilt_eq, ilen, h4', decide_false, sl_CloneTag, r1, cond_true, bindN_s, sl_SortTag, b1, if_true, if_neg h4]
      have h0 : tag_Canon_l0 n n (srt l, (1 : Int), ()) = some (if adj (srt l) = true then .inr ([], (5 : Int), ()) else .inl (srt l, ())) := by
        by_cases hz : (srt l).length = 0
        · have e : srt l = [] := List.length_eq_zero_iff.1 hz
          obtain ⟨m, rfl⟩ : ∃ m, n = m + 1 := ⟨n - 1, by unfold Big at hn; omega⟩
          rw [e]
          simp [tag_Canon_l0, adj, ilen]
        · have := canon_l0 (n := n) (srt l) (by omega) ((srt l).length - 1) 0 n (by omega) (by unfold Big at hn; omega)
          simpa using this
      rw [show sl_SortTag_sorted l = srt l from rfl, h0]
      cases hadj : adj (srt l) <;> rw [hadj] at e <;> cases hin : insAll [] l <;> rw [hin] at e <;> simp at e ⊢ <;> simp [e]
/-! ### written -/
theorem bl_pair (t : TG) : (t.1 ++ (⟨#[61]⟩ : ByteArray)) ++ t.2.1 = pairB t := bl_inj (by rw [bl_pairB, bl_append, bl_append]; rfl)
theorem r03_Text_v {n : Nat} (hn : Big n) (l : List TG) (hf : Fit l) : r03_Text n (l, ()) = some ((textT l, ()), ((), ())) := by
  have h1 := hf.1
  have key : ∀ (d i g : Nat) (acc : List ByteArray), i + d = l.length → acc.length = i → d < g → r03_Text_l0 n g (l, acc, (i : Int), ()) = some (.inl (acc ++ (l.drop i).map pairB, ())) := by
    intro d
    induction d with
    | zero =>
      intro i g acc hd ha hg
      obtain ⟨g, rfl⟩ : ∃ g', g = g' + 1 := ⟨g - 1, by omega⟩
      have k : ¬ (i : Int) < (l.length : Int) := by omega
      rw [List.drop_of_length_le (by omega)]
      simp [r03_Text_l0, k]
    | succ d ih =>
      intro i g acc hd ha hg
      obtain ⟨g, rfl⟩ : ∃ g', g = g' + 1 := ⟨g - 1, by omega⟩
      have hi : i < l.length := by omega
      have k : (i : Int) < (l.length : Int) := by omega
      have k0 : (0 : Int) ≤ i := by omega
      have hft := hf.2 l[i] (List.getElem_mem hi)
      have f1 : sfits l[i].1 (⟨#[61]⟩ : ByteArray) = true := sfits_of (by show l[i].1.size + 1 ≤ _; omega)
      have f2 : sfits (l[i].1 ++ (⟨#[61]⟩ : ByteArray)) l[i].2.1 = true := sfits_of (by rw [ByteArray.size_append]; show l[i].1.size + 1 + l[i].2.1.size ≤ _; omega)
      have r1 : room (acc.length + 1) 16 = true := room_of (by omega)
      have ep := bl_pair l[i]
      rw [drop_cons l i hi]
      simp only [r03_Text_l0, ilt_eq, ile_eq, ilen, k, k0, decide_true, cond_true, lat_eq, iN, Int.toNat_natCast, List.getElem?_eq_getElem hi, bindN_s, f1, scat_eq, f2, roomA, List.length_singleton, r1, ep, app, iadd1 (i := i) (by omega), bindL_id2, ih (i + 1) g (acc ++ [pairB l[i]]) (by omega) (by simp; omega) (by omega)]
      simp only [List.map_cons, List.append_assoc, List.cons_append, List.nil_append]
  have h := key l.length 0 n [] (by omega) rfl (by unfold Big at hn; omega)
  rw [show ((0 : Nat) : Int) = 0 from rfl] at h
  have hj := r02_Join_v hn (mkB [44]) (l.map pairB) (by simp; omega) (fit_text hf)
  rw [show mkB [44] = (⟨#[44]⟩ : ByteArray) from rfl] at hj
  simp only [r03_Text, h, bindL_inl, List.nil_append, List.drop_zero, hj, bindN_s]
  rfl
theorem tag_Text_v {n : Nat} (hn : Big n) (l : List TG) (hf : Fit l) : tag_Text n (l, ()) = some ((textT l, ()), ((), ())) := by
  have h1 := hf.1
  have key : ∀ (d i g : Nat) (acc : List ByteArray), i + d = l.length → acc.length = i → d < g → tag_Text_l0 n g (acc, l, (l.length : Int), (i : Int), ()) = some (.inl (acc ++ (l.drop i).map pairB, ())) := by
    intro d
    induction d with
    | zero =>
      intro i g acc hd ha hg
      obtain ⟨g, rfl⟩ : ∃ g', g = g' + 1 := ⟨g - 1, by omega⟩
      have k : ¬ (i : Int) < (l.length : Int) := by omega
      rw [List.drop_of_length_le (by omega)]
      simp [tag_Text_l0, k]
    | succ d ih =>
      intro i g acc hd ha hg
      obtain ⟨g, rfl⟩ : ∃ g', g = g' + 1 := ⟨g - 1, by omega⟩
      have hi : i < l.length := by omega
      have k : (i : Int) < (l.length : Int) := by omega
      have k0 : (0 : Int) ≤ i := by omega
      have e := word_Join_v n (mkB [61]) [l[i].1, l[i].2.1] (by simp) (Nat.le_trans (fit_pair hf _ (List.getElem_mem hi)) (by omega))
      rw [show mkB [61] = (⟨#[61]⟩ : ByteArray) from rfl] at e
      have e' : joinB (⟨#[61]⟩ : ByteArray) [l[i].1, l[i].2.1] = pairB l[i] := rfl
      have r1 : room (acc.length + 1) 16 = true := room_of (by omega)
      rw [drop_cons l i hi]
      simp only [tag_Text_l0, ilt_eq, ile_eq, k, k0, decide_true, cond_true, lat_eq, iN, Int.toNat_natCast, List.getElem?_eq_getElem hi, bindN_s, e, e', roomA, List.length_singleton, r1, app, iadd1 (i := i) (by omega), bindL_id2, ih (i + 1) g (acc ++ [pairB l[i]]) (by omega) (by simp; omega) (by omega)]
      simp only [List.map_cons, List.append_assoc, List.cons_append, List.nil_append]
  have h := key l.length 0 n [] (by omega) rfl (by unfold Big at hn; omega)
  rw [show ((0 : Nat) : Int) = 0 from rfl] at h
  have hj := word_Join_v n (mkB [44]) (l.map pairB) (by simp; omega) (fit_text hf)
  rw [show mkB [44] = (⟨#[44]⟩ : ByteArray) from rfl] at hj
  simp only [tag_Text, ilen, h, bindL_inl, List.nil_append, List.drop_zero, hj, bindN_s]
  rfl
/-! ### read -/
theorem readT_step (acc : List TG) (x : ByteArray) (r : List ByteArray) (h : (cutB 61 x).2.2 = true) : readT acc (pairsT (x :: r)) = readT (acc ++ [((cutB 61 x).1, (cutB 61 x).2.1, ())]) (pairsT r) := by
  rw [pairsT, if_pos h]
  cases pairsT r <;> simp [readT]
theorem tag_parse_l0 {n : Nat} (ps : List ByteArray) (hl : ps.length ≤ 1000000) (hs : ∀ x ∈ ps, x.size ≤ 900000) : ∀ (d i g : Nat) (acc : List TG), i + d = ps.length → acc.length ≤ i → d < g →
    tag_Parse_l0 n g (acc, ps, (ps.length : Int), (i : Int), ()) = some (match pairsT (ps.drop i) with | some q => .inl (acc ++ q, ()) | none => .inr ([], (2 : Int), ()))
  | 0, i, g, acc, hd, ha, hg => by
    obtain ⟨g, rfl⟩ : ∃ g', g = g' + 1 := ⟨g - 1, by omega⟩
    have k : ¬ (i : Int) < (ps.length : Int) := by omega
    rw [List.drop_of_length_le (by omega)]
    simp [tag_Parse_l0, k, pairsT]
  | d + 1, i, g, acc, hd, ha, hg => by
    obtain ⟨g, rfl⟩ : ∃ g', g = g' + 1 := ⟨g - 1, by omega⟩
    have hi : i < ps.length := by omega
    have k : (i : Int) < (ps.length : Int) := by omega
    have k0 : (0 : Int) ≤ i := by omega
    have hx := hs ps[i] (List.getElem_mem hi)
    have r1 : room (acc.length + 1) 32 = true := room_of (by omega)
    have ih := tag_parse_l0 (n := n) ps hl hs d (i + 1) g (acc ++ [((cutB 61 ps[i]).1, (cutB 61 ps[i]).2.1, ())]) (by omega) (by simp; omega) (by omega)
    rw [drop_cons ps i hi, pairsT]
    simp only [tag_Parse_l0, ilt_eq, ile_eq, k, k0, decide_true, cond_true, lat_eq, iN, Int.toNat_natCast, List.getElem?_eq_getElem hi, bindN_s, s_Cut_v n 61 ps[i] (by omega), roomA, List.length_singleton, r1, app, iadd1 (i := i) (by omega), bindL_id1, ih]
    cases h : (cutB 61 ps[i]).2.2 with
    | false => simp
    | true => cases pairsT (ps.drop (i + 1)) <;> simp
theorem r03_parse_l0 {n : Nat} (hn : Big n) (ps : List ByteArray) (hl : ps.length ≤ 1000000) (hs : ∀ x ∈ ps, x.size ≤ 900000) : ∀ (d i g : Nat) (acc : List TG), i + d = ps.length → acc.length ≤ i → d < g →
    r03_Parse_l0 n g (acc, ps, (i : Int), ()) = some (match pairsT (ps.drop i) with | some q => .inl (acc ++ q, ()) | none => .inr ([], (2 : Int), ()))
  | 0, i, g, acc, hd, ha, hg => by
    obtain ⟨g, rfl⟩ : ∃ g', g = g' + 1 := ⟨g - 1, by omega⟩
    have k : ¬ (i : Int) < (ps.length : Int) := by omega
    rw [List.drop_of_length_le (by omega)]
    simp [r03_Parse_l0, k, pairsT]
  | d + 1, i, g, acc, hd, ha, hg => by
    obtain ⟨g, rfl⟩ : ∃ g', g = g' + 1 := ⟨g - 1, by omega⟩
    have hi : i < ps.length := by omega
    have k : (i : Int) < (ps.length : Int) := by omega
    have k0 : (0 : Int) ≤ i := by omega
    have hx := hs ps[i] (List.getElem_mem hi)
    have r1 : room (acc.length + 1) 32 = true := room_of (by omega)
    have ih := r03_parse_l0 hn ps hl hs d (i + 1) g (acc ++ [((cutB 61 ps[i]).1, (cutB 61 ps[i]).2.1, ())]) (by omega) (by simp; omega) (by omega)
    have hsp := r02_Split_v hn 61 ps[i] (by omega)
    rw [show (((61 : UInt8).toNat : Nat) : Int) = 61 from rfl] at hsp
    have hc := split_cut 61 ps[i]
    rw [drop_cons ps i hi, pairsT]
    cases h : (cutB 61 ps[i]).2.2 with
    | false =>
      rw [h, if_neg (by simp)] at hc
      simp [r03_Parse_l0, ilen, k, k0, hi, hsp, hc]
    | true =>
      rw [h, if_pos rfl] at hc
      have hne : 1 ≤ (splitB 61 (cutB 61 ps[i]).2.1).length := by
        have := splitL_ne 61 (bl (cutB 61 ps[i]).2.1)
        unfold splitB; rw [List.length_map]; exact List.length_pos_iff.2 this
      have hsz := (cut_size 61 ps[i]).2
      have hlen := splitB_len 61 (cutB 61 ps[i]).2.1
      have hj := joinB_split 61 (cutB 61 ps[i]).2.1
      have hjv := r02_Join_v hn (mkB [61]) (splitB 61 (cutB 61 ps[i]).2.1) (by omega) (by rw [hj, size_bl]; omega)
      rw [hj, show mkB [61] = (⟨#[61]⟩ : ByteArray) from rfl] at hjv
      generalize splitB 61 (cutB 61 ps[i]).2.1 = sp at hc hne hlen hjv
      have k2 : ¬ (sp.length : Int) + 1 < 2 := by omega
      have k3 : (1 : Int) ≤ (sp.length : Int) + 1 := by omega
      have k4 : ((sp.length : Int) + 1 - 1).toNat = sp.length := by omega
      rw [show ((i + 1 : Nat) : Int) = (i : Int) + 1 from rfl] at ih
      simp [r03_Parse_l0, ilen, app, k, k0, hi, hsp, hc, k2, k3, k4, hjv, roomA, r1, iadd1 (i := i) (by omega), ih]
      cases pairsT (ps.drop (i + 1)) <;> simp
theorem pairsT_len : ∀ (ps : List ByteArray) (q : List TG), pairsT ps = some q → q.length = ps.length
  | [], q, h => by simp [pairsT] at h; subst h; rfl
  | x :: r, q, h => by
    rw [pairsT] at h
    split at h
    · cases hr : pairsT r with
      | none => rw [hr] at h; cases h
      | some q' => rw [hr] at h; simp at h; subst h; simp [pairsT_len r q' hr]
    · cases h
theorem tag_Parse_v {n : Nat} (hn : Big n) (s : ByteArray) (hs : s.size ≤ 100000) : tag_Parse n (s, ()) = some (((parseT s).1, (parseT s).2, ()), ((), ())) := by
  have h1 := splitB_len 44 s
  unfold tag_Parse parseT
  by_cases hb : bl s = []
  · simp [bl_nil, hb]
  · have hsp := word_Split_v hn 44 s (by omega)
    rw [show (((44 : UInt8).toNat : Nat) : Int) = 44 from rfl] at hsp
    have h := tag_parse_l0 (n := n) (splitB 44 s) (by omega) (fun x hx => by have := splitB_size 44 s x hx; omega) (splitB 44 s).length 0 n [] (by omega) (by simp) (by unfold Big at hn; omega)
    rw [show ((0 : Nat) : Int) = 0 from rfl, List.drop_zero] at h
    simp only [seq_eq, bl_nil, hb, decide_false, cond_false, hsp, bindN_s, ilen, h, if_false]
    cases hp : pairsT (splitB 44 s) with
    | none => simp [readT]
    | some q =>
      have := pairsT_len _ _ hp
      simp [readT, tag_Canon_v hn q (by omega)]
theorem r03_Parse_v {n : Nat} (hn : Big n) (s : ByteArray) (hs : s.size ≤ 100000) : r03_Parse n (s, ()) = some (((parseT s).1, (parseT s).2, ()), ((), ())) := by
  have h1 := splitB_len 44 s
  unfold r03_Parse parseT
  by_cases hb : bl s = []
  · simp [bl_nil, hb]
  · have hsp := r02_Split_v hn 44 s (by omega)
    rw [show (((44 : UInt8).toNat : Nat) : Int) = 44 from rfl] at hsp
    have h := r03_parse_l0 hn (splitB 44 s) (by omega) (fun x hx => by have := splitB_size 44 s x hx; omega) (splitB 44 s).length 0 n [] (by omega) (by simp) (by unfold Big at hn; omega)
    rw [show ((0 : Nat) : Int) = 0 from rfl, List.drop_zero] at h
    simp only [seq_eq, bl_nil, hb, decide_false, cond_false, hsp, bindN_s, h, if_false]
    cases hp : pairsT (splitB 44 s) with
    | none => simp [readT]
    | some q =>
      have := pairsT_len _ _ hp
      simp [readT, r03_Canon_v hn q (by omega)]
end Go.Proofs.YteaadaaghhojfaaGreatDoorE
end
