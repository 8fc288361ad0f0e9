-- PRINTED by print.py (a twelfth state) out of the translation. Not trusted: Lean checks it.
import Derived.Test.YtnmjnchbdlllmaaPFrx0
import Derived.Test.YtnmjnchbdlllmaaPFrx2
namespace Go.Proofs.Ytnmjnchbdlllmaa.PFr
open Go.RowKit Go.Proofs.YtnmjnchbdlllmaaW.PrintWords Go.Proofs.YtnmjnchbdlllmaaW.PrintLast Go.Proofs.YtnmjnchbdlllmaaW.PrintMore
attribute [local go_sem] max2_int min2_int max_two min_two max_three min_three max_four min_four   -- for this text's walks alone
set_option linter.unusedVariables false
set_option linter.unusedSimpArgs false

/-! ### frame_Push: function 22 -/
def frame_Push.fin (p : List Int) (s : Bool) : S54 := if s = true then ⟨⟨#[]⟩, true⟩ else ⟨strOfNums (Go.Proofs.YtnmjnchbdlllmaaW.XW.fTrim p), false⟩
def frame_Push.f (l0_0 : List Int) (a0_1 : Bool) (l1 : List (List Int)) : Option (List Int × Bool × (List S54)) := if Go.Proofs.YtnmjnchbdlllmaaW.XW.fGood ((l0_0, a0_1, []) : Go.Proofs.YtnmjnchbdlllmaaW.XW.FSt S54) l1 = true then some (Go.Proofs.YtnmjnchbdlllmaaW.XW.fAll frame_Push.fin (l0_0, a0_1, []) l1) else none
def St (n g : Nat) (Q : Nat → Prop) (W : World) (lv : Value) (t : Go.Proofs.YtnmjnchbdlllmaaW.XW.FSt S54) : Prop :=
 ∃ A c, W.heap[g]? = some (.cells #[.slice A t.1.length c, .bool t.2.1, lv] 58 (0, 0)) ∧ Kd.V (Kd.int .u8) 5 W n (fun k => Q k ∧ k ≠ g ∧ some k ≠ lv.ownBlock) (.slice A t.1.length c) t.1 ∧ Kd.R k54 54 W n (fun k => n ≤ k ∧ k ≠ g) lv t.2.2 ∧ n ≤ g
set_option maxHeartbeats 2000000 in
set_option maxRecDepth 100000 in
theorem grow_skip (n g : Nat) (Q : Nat → Prop) (W : World) (lv : Value) (p : List Int) (l : List S54) (A1 : Option Addr) (c1 : Nat) (b : List Int) (hS : St n g Q W lv (p, true, l)) :
  Calls Try.prog 33 #[.pointer (some ⟨g, 0, none⟩), .slice A1 b.length c1] W fun e W' => e = .returned (.tuple #[]) ∧ W' = W := by
 obtain ⟨A, c, hb, hV, hR, hg⟩ := hS
 have hc1 : W.cell? ⟨g, 1, none⟩ = some (.bool true) := (blk_cell hb 1).trans rfl
 go_enter Try.func33, Try.ntmps33
 go_wp2
 first | (refine bodyPost_ret (results_none rfl _ _ _) rfl ?_) | go_end0
 exact ⟨rfl, rfl⟩
set_option maxHeartbeats 2000000 in
set_option maxRecDepth 100000 in
theorem grow_long (n g : Nat) (Q : Nat → Prop) (W : World) (lv : Value) (p : List Int) (l : List S54) (A1 : Option Addr) (c1 : Nat) (b : List Int) (hS : St n g Q W lv (p, false, l)) (h120 : 120 < p.length + b.length) (hp : p.length ≤ 120) (hbl : b.length ≤ 1000000000) :
  Calls Try.prog 33 #[.pointer (some ⟨g, 0, none⟩), .slice A1 b.length c1] W fun e W' => e = .returned (.tuple #[]) ∧ W' = (W.setCell ⟨g, 0, none⟩ (.slice none 0 0)).setCell ⟨g, 1, none⟩ (.bool true) := by
 obtain ⟨A, c, hb, hV, hR, hg⟩ := hS
 have hc0 : W.cell? ⟨g, 0, none⟩ = some (.slice A p.length c) := (blk_cell hb 0).trans rfl
 have hc1 : W.cell? ⟨g, 1, none⟩ = some (.bool false) := (blk_cell hb 1).trans rfl
 have hf0 := blk_frozen hb 0
 have hf1 := blk_frozen hb 1
 have hu38 := Try.underlying38
 have hu58 := Try.underlying58
 have hlt : (120 < p.length + b.length) = True := eq_true h120
 have hlt' : ((120 : Int) < (p.length : Int) + (b.length : Int)) = True := eq_true (by omega)
 go_enter Try.func33, Try.ntmps33
 go_wp2
 first | (refine bodyPost_ret (results_none rfl _ _ _) rfl ?_) | go_end0
 exact ⟨rfl, rfl⟩
theorem concat2 (p b : List Int) (h : p.length + b.length ≤ 2000000000) : slices_Concat_byte.f 6 [p, b] = some (p ++ b) := by
 have w0 : wrap64 ((0 : Int) + (p.length : Int)) = (p.length : Int) := by unfold wrap64; omega
 have w1 : wrap64 ((p.length : Int) + (b.length : Int)) = (p.length : Int) + (b.length : Int) := by unfold wrap64; omega
 have z1 : wrap64 ((0 : Int) + 1) = 1 := by unfold wrap64; omega
 have z2 : wrap64 ((1 : Int) + 1) = 2 := by unfold wrap64; omega
 have r0 : rd_L1 [p, b] 0 = p := rfl
 have r1 : rd_L1 [p, b] 1 = b := rfl
 have hl : (([p, b] : List (List Int)).length : Int) = 2 := rfl
 have hg : slices_Grow_byte.f [] ((p.length : Int) + (b.length : Int)) = some [] := by
  unfold slices_Grow_byte.f
  rw [if_pos (show ([] : List Int).length = 0 from rfl), if_pos (by omega), if_pos (by omega)]
 have s3 : slices_Concat_byte.l1 3 [] [p, b] 2 0 = some (p ++ b) := by
  simp only [slices_Concat_byte.l1, hl, r0, r1, z1, z2]
  rw [if_pos (by omega), if_pos (by omega), if_pos (by omega), if_pos (by simp only [List.length_nil]; omega), if_pos (by omega), if_pos (by omega), if_pos (by omega), if_pos (by simp only [List.length_append, List.length_nil]; omega), if_neg (by omega), List.nil_append]
 unfold slices_Concat_byte.f
 rw [hl]
 simp only [slices_Concat_byte.l0, hl, r0, r1, z1, z2, w0, w1]
 rw [if_pos (by omega), if_pos (by omega), if_pos (by omega), if_neg (by omega), if_pos (by omega), if_pos (by omega), if_pos (by omega), if_neg (by omega), if_neg (by omega), hg]
 exact s3
theorem rows2_C {W : World} {A A1 : Option Addr} {c c1 : Nat} {p b : List Int} (h1 : p.length ≤ c) (hp : Kd.C (Kd.int .u8) W A p.length p) (h2 : b.length ≤ c1) (hb : Kd.C (Kd.int .u8) W A1 b.length b) (e : Nat) :
  Kd.C (Kd.slice 5 (Kd.int .u8)) (W.alloc (.cells #[.slice A p.length c, .slice A1 b.length c1] e)) (some ⟨W.heap.size, 0, none⟩) ([p, b] : List (List Int)).length [p, b] := by
 have hnew := blk_new W (.cells #[.slice A p.length c, .slice A1 b.length c1] e)
 have e0 : ∀ j : Nat, (⟨W.heap.size, 0, none⟩ : Addr).add j = ⟨W.heap.size, j, none⟩ := by
  intro j
  unfold Addr.add
  split
  ·next h => rw [h]
  ·simp
 refine ⟨rfl, by simp, fun _ => ⟨⟨W.heap.size, 0, none⟩, rfl, fun j q hj => ?_⟩⟩
 have hsz : (Kd.slice 5 (Kd.int .u8)).sz = 1 := rfl
 match j, hj with
 | 0, hj =>
  cases hj
  refine ⟨[.slice A p.length c], rfl, ⟨A, c, rfl, h1, Kd.C_alloc hp _⟩, fun i u hu => ?_⟩
  obtain ⟨hi, hu⟩ := List.getElem?_eq_some_iff.1 hu
  have hi0 : i = 0 := by simpa using hi
  subst hi0
  rw [hsz, e0, blk_cell hnew]
  simpa using hu
 | 1, hj =>
  cases hj
  refine ⟨[.slice A1 b.length c1], rfl, ⟨A1, c1, rfl, h2, Kd.C_alloc hb _⟩, fun i u hu => ?_⟩
  obtain ⟨hi, hu⟩ := List.getElem?_eq_some_iff.1 hu
  have hi0 : i = 0 := by simpa using hi
  subst hi0
  rw [hsz, e0, blk_cell hnew]
  simpa using hu
 | j + 2, hj => simp at hj
theorem st_put {n g : Nat} {Q : Nat → Prop} {W : World} {lv : Value} {p : List Int} {s : Bool} {l : List S54} {A : Option Addr} {c : Nat} (hQ : ∀ k, n ≤ k → Q k) (hn : n ≤ W.heap.size)
  (hbk : W.heap[g]? = some (.cells #[.slice A p.length c, .bool s, lv] 58 (0, 0))) (hR : Kd.R k54 54 W n (fun k => n ≤ k ∧ k ≠ g) lv l) (hg : n ≤ g)
  {W1 w' : World} {v0 : Value} {q : List Int} (hW1 : Below W.heap.size W W1) (ho : Kd.R (Kd.int .u8) 5 w' W1.heap.size (fun _ => True) v0 q) (hbel : Below W1.heap.size W1 w') :
  St n g Q (w'.setCell ⟨g, 0, none⟩ v0) lv (q, s, l) ∧ Below n W (w'.setCell ⟨g, 0, none⟩ v0) := by
 have hlt := blk_lt hbk
 have hB : Below W.heap.size W w' := below_then hW1 hW1.size hbel
 have hbk' := blk_below hbk hB
 obtain ⟨Ao, co, rfl⟩ := Kd.R_slice ho
 have hb0 := Kd.R_base ho
 refine ⟨⟨Ao, co, blk_put hbk' 0 _ rfl, ?_, ?_, hg⟩, (hB.mono hn).setCell hg _⟩
 ·refine Kd.V_far (Kd.V_mono (Kd.R_V (Kd.R_tight rfl ho)) (fun k hk => ?_)) (fun k hk => hk.2.1) _
  have h1 := hb0 k hk.symm
  have h2 := hW1.size
  refine ⟨hQ k (by omega), by omega, fun hl => ?_⟩
  have := Kd.R_lt hR k hl.symm
  omega
 ·exact Kd.R_far (Kd.R_below hR hB) (fun k hk => hk.2) _
set_option maxHeartbeats 4000000 in
set_option maxRecDepth 100000 in
theorem grow_cat (n g : Nat) (Q : Nat → Prop) (W : World) (lv : Value) (p : List Int) (l : List S54) (A1 : Option Addr) (c1 : Nat) (b : List Int) (hQ : ∀ k, n ≤ k → Q k) (hS : St n g Q W lv (p, false, l)) (hn : n ≤ W.heap.size) (hb : Kd.F (Kd.int .u8) W (fun k => k < n) A1 b.length b) (hcb : b.length ≤ c1) (h120 : ¬ 120 < p.length + b.length) :
  Calls Try.prog 33 #[.pointer (some ⟨g, 0, none⟩), .slice A1 b.length c1] W fun e W' => e = .returned (.tuple #[]) ∧ St n g Q W' lv (p ++ b, false, l) ∧ Below n W W' := by
 obtain ⟨A, c, hbk, hV, hR, hg⟩ := hS
 have hbk0 := Aside0.mk hbk
 have hR0 := Aside0.mk hR
 have hc0 : W.cell? ⟨g, 0, none⟩ = some (.slice A p.length c) := (blk_cell hbk 0).trans rfl
 have hc1 : W.cell? ⟨g, 1, none⟩ = some (.bool false) := (blk_cell hbk 1).trans rfl
 have hf0 := blk_frozen hbk 0
 have hu38 := Try.underlying38
 have hu58 := Try.underlying58
 have hlt : (120 < p.length + b.length) = False := eq_false h120
 have hd : decide ((120 : Int) < wrap64 ((p.length : Int) + (b.length : Int))) = false := decide_eq_false (by unfold wrap64; omega)
 have hCC := Aside0.mk (rows2_C (Kd.V_reads' hV).2.1 (Kd.V_reads' hV).2.2 hcb (Kd.F_now hb) 35)
 have hf := Aside0.mk (concat2 p b (by omega))
 clear hV hR hb hbk h120
 go_enter Try.func33, Try.ntmps33
 go_wp2_with ((with_reducible refine gate_callee (f := 36) rfl ?_); refine goesL_ (some 31) rfl rfl Try.func36 qK rfl #[.slice (some ⟨W.heap.size, 0, none⟩) ([p, b] : List (List Int)).length 2] rfl qG ?_; ((refine (slices_Concat_byte.calls 6 _ 2 [p, b] (p ++ b) _ hCC.out (Nat.le_refl 2) hf.out).mono ?_); rintro e w' ⟨v0, rfl, ho, hbel⟩; refine ⟨_, rfl, ?_⟩; obtain ⟨Ao, co, eo⟩ := Kd.R_slice ho; subst eo; have hfin := Aside0.mk (st_put hQ hn hbk0.out hR0.out hg (below_alloc (Below.refl _ _) _) ho hbel); have hbk' := blk_below (blk_alloc hbk0.out _) hbel; have hc0' : w'.cell? ⟨g, 0, none⟩ = some (.slice A p.length c) := (blk_cell hbk' 0).trans rfl; have hf0' := blk_frozen hbk' 0; clear ho hbel hbk'))
 first | (refine bodyPost_ret (results_none rfl _ _ _) rfl ?_) | go_end0
 have h2 := hfin.out
 rw [List.length_append] at h2
 exact ⟨rfl, h2⟩
theorem grow_all (n g : Nat) (Q : Nat → Prop) (W : World) (lv : Value) (t : Go.Proofs.YtnmjnchbdlllmaaW.XW.FSt S54) (A1 : Option Addr) (c1 : Nat) (b : List Int) (hQ : ∀ k, n ≤ k → Q k) (hS : St n g Q W lv t) (hn : n ≤ W.heap.size) (hb : Kd.F (Kd.int .u8) W (fun k => k < n) A1 b.length b) (hcb : b.length ≤ c1) (ht : t.1.length ≤ 120) (hbl : b.length ≤ 1000000000) :
  Calls Try.prog 33 #[.pointer (some ⟨g, 0, none⟩), .slice A1 b.length c1] W fun e W' => e = .returned (.tuple #[]) ∧ St n g Q W' lv (Go.Proofs.YtnmjnchbdlllmaaW.XW.fGrow t b) ∧ Below n W W' := by
 obtain ⟨p, s, l⟩ := t
 unfold Go.Proofs.YtnmjnchbdlllmaaW.XW.fGrow
 simp only
 cases s with
 | true =>
  rw [if_pos rfl]
  refine (grow_skip n g Q W lv p l A1 c1 b hS).mono ?_
  rintro e W' ⟨rfl, rfl⟩
  exact ⟨rfl, hS, Below.refl _ _⟩
 | false =>
  rw [if_neg (by simp)]
  by_cases h120 : 120 < p.length + b.length
  ·rw [if_pos h120]
   refine (grow_long n g Q W lv p l A1 c1 b hS h120 ht hbl).mono ?_
   rintro e W' ⟨rfl, rfl⟩
   obtain ⟨A, c, hbk, hV, hR, hg⟩ := hS
   refine ⟨rfl, ⟨none, 0, blk_put (blk_put hbk 0 _ rfl) 1 _ rfl, Kd.V_nil _ _ _ _ _, Kd.R_far (Kd.R_far hR (fun k hk => hk.2) _) (fun k hk => hk.2) _, hg⟩, ((Below.refl n W).setCell hg _).setCell hg _⟩
  ·rw [if_neg h120]
   exact grow_cat n g Q W lv p l A1 c1 b hQ hS hn hb hcb h120
set_option maxHeartbeats 4000000 in
set_option maxRecDepth 100000 in
theorem end_skip (n g : Nat) (Q : Nat → Prop) (W : World) (lv : Value) (p : List Int) (l : List S54) (hS : St n g Q W lv (p, true, l)) (hn : n ≤ W.heap.size) (hl : l.length ≤ 2000000000) :
  Calls Try.prog 34 #[.pointer (some ⟨g, 0, none⟩)] W fun e W' => e = .returned (.tuple #[]) ∧ ∃ lv', St n g Q W' lv' ([], false, l ++ [⟨⟨#[]⟩, true⟩]) ∧ Below n W W' := by
 obtain ⟨A, c, hbk, hV, hR, hg⟩ := hS
 have hbk0 := Aside0.mk hbk
 have hR0 := Aside0.mk hR
 have hc1 : W.cell? ⟨g, 1, none⟩ = some (.bool true) := (blk_cell hbk 1).trans rfl
 have hu38 := Try.underlying38
 have hu58 := Try.underlying58
 have hu54 := Try.underlying54
 clear hV hR hbk
 go_enter Try.func34, Try.ntmps34
 go_wp2_with (((with_reducible refine gate_dst (N := 2) rfl ?_); refine box_event ?hg (N := 2) ?hd (cs := #[.string ⟨#[]⟩, .bool false]) (t := 54) ?hr ?_; (case hd => rfl); (case hg => rfl); (case hr => first | (go_simp; done) | (go_simp; rfl)); intro gb hgb w2 hbox hb; have BX := Aside0.mk hbox; have HB2 := Aside0.mk hb; have hx0 : w2.cell? ⟨gb, 0, none⟩ = some (.string ⟨#[]⟩) := (blk_cell hbox 0).trans rfl; have hx1 : w2.cell? ⟨gb, 1, none⟩ = some (.bool false) := (blk_cell hbox 1).trans rfl; have hfx0 := blk_frozen hbox 0; have hfx1 := blk_frozen hbox 1; have hgg : g ≠ gb := (by rw [hgb]; exact Nat.ne_of_lt (blk_lt hbk0.out)); have hc1 : w2.cell? ⟨g, 1, none⟩ = some (.bool true) := (blk_cell (blk_below hbk0.out hb) 1).trans rfl; have HG := Aside0.mk (Nat.le_of_eq hgb.symm); clear hbox hb hgb))
 have hnl : some gb ≠ lv.ownBlock := fun e => by have := Kd.R_lt hR0.out gb e.symm; have := HG.out; omega
 have BKx := Aside0.mk (blk_put (blk_put BX.out 0 (.string ⟨#[]⟩) rfl) 1 (.bool true) rfl)
 have HB := Aside0.mk (((HB2.out.mono hn).setCell (p := ⟨gb, 0, none⟩) (show n ≤ gb from Nat.le_trans hn HG.out) (.string ⟨#[]⟩)).setCell (p := ⟨gb, 1, none⟩) (show n ≤ gb from Nat.le_trans hn HG.out) (.bool true))
 have BKg := Aside0.mk (blk_far (p := ⟨gb, 1, none⟩) (blk_far (p := ⟨gb, 0, none⟩) (blk_below hbk0.out HB2.out) hgg (.string ⟨#[]⟩)) hgg (.bool true))
 have HR := Aside0.mk (Kd.R_far (p := ⟨gb, 1, none⟩) (Kd.R_far (p := ⟨gb, 0, none⟩) (Kd.R_mono (Kd.R_below (Kd.R_elderB hR0.out gb HG.out) HB2.out) (fun k hk => (hk : (n ≤ k ∧ k ≠ g) ∧ k ≠ gb))) (fun k hk => hk.2) (.string ⟨#[]⟩)) (fun k hk => hk.2) (.bool true))
 replace HR := Aside0.mk (Kd.R_mono HR.out (fun k hk => hk.1))
 generalize hw3 : (w2.setCell ⟨gb, 0, none⟩ (.string ⟨#[]⟩)).setCell ⟨gb, 1, none⟩ (.bool true) = w3 at BKx HB BKg HR ⊢
 refine start_ (n := 16) (S := fun w' => w'.cell? ⟨g, 2, none⟩ = some lv ∧ w'.cell? ⟨gb, 0, none⟩ = some (.string ⟨#[]⟩) ∧ w'.cell? ⟨gb, 1, none⟩ = some (.bool true)) (ds := [12, 15]) #[false, false, false, false, false, false, false, false, false, false, false, false, false, false, false, false] qK rfl rfl ⟨(blk_cell BKg.out 2).trans rfl, (blk_cell BKx.out 0).trans rfl, (blk_cell BKx.out 1).trans rfl⟩ (fun hHeld => ?_)
 have n0_ := Aside0.mk (blk_drew BKg.out); have n1_ := Aside0.mk (blk_drew BKx.out); have n2_ := Aside0.mk (Kd.R_drew HR.out); have n3_ := Aside0.mk (below_drew1 HB.out)
 clear BKg BKx HR HB; have BKg := n0_; have BKx := n1_; have HR := n2_; have HB := n3_; clear n0_ n1_ n2_ n3_
 generalize w3.drew = w5 at BKg BKx HR HB hHeld ⊢
 refine pure_ (i := 0) (N := some 25) (v := ?_) (a' := ?_) #[true, false, false, false, false, false, false, false, false, false, false, false, false, false, false, false] rfl rfl qK (fun _ _ _ h => h) (Or.inl ⟨by rfl, ?_⟩) ?_ ?_
 rotate_left
 ·intro w'; go_simp; with_reducible rfl
 rotate_left
 ·simp only [Act.put, List.setIfInBounds_toArray, List.set_cons_zero, List.set_cons_succ, i64_w, i32_w]; rfl
 refine pure_ (i := 1) (N := some 26) (v := ?_) (a' := ?_) #[true, true, false, false, false, false, false, false, false, false, false, false, false, false, false, false] rfl rfl qK (fun _ _ _ h => h) (Or.inl ⟨by rfl, ?_⟩) ?_ ?_
 rotate_left
 ·intro w'; go_simp; with_reducible rfl
 rotate_left
 ·simp only [Act.put, List.setIfInBounds_toArray, List.set_cons_zero, List.set_cons_succ, i64_w, i32_w]; rfl
 refine pure_ (i := 2) (N := some 27) (v := ?_) (a' := ?_) #[true, true, true, false, false, false, false, false, false, false, false, false, false, false, false, false] rfl rfl qK (fun _ _ _ h => h) (Or.inl ⟨by rfl, ?_⟩) ?_ ?_
 rotate_left
 ·intro w'; go_simp; with_reducible rfl
 rotate_left
 ·simp only [Act.put, List.setIfInBounds_toArray, List.set_cons_zero, List.set_cons_succ, i64_w, i32_w]; rfl
 refine pure_ (i := 3) (N := some 28) (v := ?_) (a' := ?_) #[true, true, true, true, false, false, false, false, false, false, false, false, false, false, false, false] rfl rfl qK (fun _ _ _ h => h) (Or.inl ⟨by rfl, ?_⟩) ?_ ?_
 rotate_left
 ·intro w'; go_simp; with_reducible rfl
 rotate_left
 ·simp only [Act.put, List.setIfInBounds_toArray, List.set_cons_zero, List.set_cons_succ, i64_w, i32_w]; rfl
 refine pure_ (i := 4) (N := some 29) (v := ?_) (a' := ?_) #[true, true, true, true, true, false, false, false, false, false, false, false, false, false, false, false] rfl rfl qK (fun _ _ _ h => h) (Or.inl ⟨by rfl, ?_⟩) ?_ ?_
 rotate_left
 ·intro w'; go_simp; with_reducible rfl
 rotate_left
 ·simp only [Act.put, List.setIfInBounds_toArray, List.set_cons_zero, List.set_cons_succ, i64_w, i32_w]; rfl
 refine pure_ (i := 9) (N := some 34) (v := ?_) (a' := ?_) #[true, true, true, true, true, false, false, false, false, true, false, false, false, false, false, false] rfl rfl qK (fun _ _ _ h => h) (Or.inl ⟨by rfl, ?_⟩) ?_ ?_
 rotate_left
 ·intro w'; go_simp; with_reducible rfl
 rotate_left
 ·simp only [Act.put, List.setIfInBounds_toArray, List.set_cons_zero, List.set_cons_succ, i64_w, i32_w]; rfl
 refine take_ (i := 5) (N := some 30) (v := ?_) (a' := ?_) #[true, true, true, true, true, true, false, false, false, true, false, false, false, false, false, false] rfl rfl qK (fun _ _ _ h => h) (Or.inl ⟨by rfl, ?_⟩) hHeld ?_ ?_
 rotate_left
 ·rintro w' ⟨s0, s1, s2⟩; go_simp; with_reducible rfl
 rotate_left
 ·simp only [Act.put, List.setIfInBounds_toArray, List.set_cons_zero, List.set_cons_succ, i64_w, i32_w]; rfl
 refine take_ (i := 6) (N := some 31) (v := ?_) (a' := ?_) #[true, true, true, true, true, true, true, false, false, true, false, false, false, false, false, false] rfl rfl qK (fun _ _ _ h => h) (Or.inl ⟨by rfl, ?_⟩) hHeld ?_ ?_
 rotate_left
 ·rintro w' ⟨s0, s1, s2⟩; go_simp; with_reducible rfl
 rotate_left
 ·simp only [Act.put, List.setIfInBounds_toArray, List.set_cons_zero, List.set_cons_succ, i64_w, i32_w]; rfl
 refine one_ (i := 7) (N := some 32) #[true, true, true, true, true, true, true, true, false, true, false, false, false, false, false, false] rfl rfl qK (by decide) (fun K hK => ?_)
 refine value_ (v := .slice (some ⟨w5.heap.size, 0, none⟩) 1 1) (w1 := w5.alloc (.cells #[.string ⟨#[]⟩, .bool true] 54)) (by rfl) rfl (by first | (go_simp; done) | (go_simp; rfl)) ?_
 refine hK.out _ _ ⟨(blk_cell (blk_alloc BKg.out _) 2).trans rfl, (blk_cell (blk_alloc BKx.out _) 0).trans rfl, (blk_cell (blk_alloc BKx.out _) 1).trans rfl⟩ (fun hHeld => ?_)
 clear hK K
 refine norm_ (a' := ?_) ?_ ?_
 rotate_left
 ·show Act.put _ (some 32) _ = _
  simp only [Act.put, List.setIfInBounds_toArray, List.set_cons_zero, List.set_cons_succ, i64_w, i32_w]
  rfl
 refine one_ (i := 8) (N := some 33) #[true, true, true, true, true, true, true, true, true, true, false, false, false, false, false, false] rfl rfl qK (by decide) (fun K hK => ?_)
 refine Kd.R_append_step k54 (w0 := W) n (by rfl) (.tmp 30) (.tmp 32) 41 54 (.agg #[(.string ⟨#[]⟩), (.bool false)]) 24 rfl Try.underlying41 info54 rfl (by decide) (by omega) lv l ⟨⟨#[]⟩, true⟩ [.string ⟨#[]⟩, .bool true] (fun k => n ≤ k ∧ k ≠ g) (fun _ => False) rfl rfl (k54_mkM _ _ _ _) (fun _ h => h.elim) ?aF HR.out HB.out ?aS ?aL ?_
 (case aS => exact Nat.le_trans hn HB.out.size)
 (case aF => exact (fun k hk => ⟨Nat.le_trans (Nat.le_trans hn HB.out.size) hk, by have := blk_lt BKg.out; omega⟩))
 (case aL => omega)
 intro v1 w6 ho hb hg_ hat
 have hng : some g ≠ lv.ownBlock := fun e => (HR.out.1 g e.symm).2 rfl
 have n0_ := Aside0.mk (blk_grown BKg.out hg_ hng); have n1_ := Aside0.mk (blk_grown BKx.out hg_ hnl)
 clear BKg BKx HR HB; have BKg := n0_; have BKx := n1_; have HR := Aside0.mk ho; have HB := Aside0.mk hb; clear n0_ n1_ ho hb hg_ hat
 obtain ⟨Al, cl, el⟩ := Kd.R_slice HR.out; obtain ⟨LL, hLL⟩ : ∃ LL : Nat, LL = (l ++ [(⟨⟨#[]⟩, true⟩ : S54)]).length := ⟨_, rfl⟩; rw [← hLL] at el; clear hLL; subst el
 refine hK.out _ _ ⟨(blk_cell BKg.out 2).trans rfl, (blk_cell BKx.out 0).trans rfl, (blk_cell BKx.out 1).trans rfl⟩ (fun hHeld => ?_)
 clear hK K
 refine norm_ (a' := ?_) ?_ ?_
 rotate_left
 ·show Act.put _ (some 33) _ = _
  simp only [Act.put, List.setIfInBounds_toArray, List.set_cons_zero, List.set_cons_succ, i64_w, i32_w]
  rfl
 refine pure_ (i := 10) (N := some 35) (v := ?_) (a' := ?_) #[true, true, true, true, true, true, true, true, true, true, true, false, false, false, false, false] rfl rfl qK (fun _ _ _ h => h) (Or.inl ⟨by rfl, ?_⟩) ?_ ?_
 rotate_left
 ·intro w'; go_simp; with_reducible rfl
 rotate_left
 ·simp only [Act.put, List.setIfInBounds_toArray, List.set_cons_zero, List.set_cons_succ, i64_w, i32_w]; rfl
 refine pure_ (i := 11) (N := some 36) (v := ?_) (a' := ?_) #[true, true, true, true, true, true, true, true, true, true, true, true, false, false, false, false] rfl rfl qK (fun _ _ _ h => h) (Or.inl ⟨by rfl, ?_⟩) ?_ ?_
 rotate_left
 ·intro w'; go_simp; with_reducible rfl
 rotate_left
 ·simp only [Act.put, List.setIfInBounds_toArray, List.set_cons_zero, List.set_cons_succ, i64_w, i32_w]; rfl
 refine last_ (i := 12) (N := none) #[true, true, true, true, true, true, true, true, true, true, true, true, true, false, false, false] rfl rfl qK (by decide) (fun K hK => ?_)
 have hs := hHeld.1; have hfs := blk_frozen BKg.out 2; have hu38 := Try.underlying38; have hu41 := Try.underlying41
 refine skip_ (w1 := w6.setCell ⟨g, 2, none⟩ (.slice Al LL cl)) (by rfl) rfl (by first | (go_simp; done) | (go_simp; rfl)) ?_
 refine hK.out _ _ ?_
 clear hK K
 refine pure_ (i := 13) (N := some 37) (v := ?_) (a' := ?_) #[true, true, true, true, true, true, true, true, true, true, true, true, true, true, false, false] rfl rfl qK (fun _ _ _ h => h) (Or.inl ⟨by rfl, ?_⟩) ?_ ?_
 rotate_left
 ·intro w'; go_simp; with_reducible rfl
 rotate_left
 ·simp only [Act.put, List.setIfInBounds_toArray, List.set_cons_zero, List.set_cons_succ, i64_w, i32_w]; rfl
 refine pure_ (i := 14) (N := some 38) (v := ?_) (a' := ?_) #[true, true, true, true, true, true, true, true, true, true, true, true, true, true, true, false] rfl rfl qK (fun _ _ _ h => h) (Or.inl ⟨by rfl, ?_⟩) ?_ ?_
 rotate_left
 ·intro w'; go_simp; with_reducible rfl
 rotate_left
 ·simp only [Act.put, List.setIfInBounds_toArray, List.set_cons_zero, List.set_cons_succ, i64_w, i32_w]; rfl
 refine last_ (i := 15) (N := none) #[true, true, true, true, true, true, true, true, true, true, true, true, true, true, true, true] rfl rfl qK (by decide) (fun K hK => ?_)
 have h70 := blk_put BKg.out 2 (.slice Al LL cl) rfl
 have hs0 := (blk_cell h70 0).trans rfl; have hs1 := (blk_cell h70 1).trans rfl; have hfs0 := blk_frozen h70 0; have hfs1 := blk_frozen h70 1
 refine skip_ (w1 := ((w6.setCell ⟨g, 2, none⟩ (.slice Al LL cl)).setCell ⟨g, 0, none⟩ (.slice none 0 0)).setCell ⟨g, 1, none⟩ (.bool false)) (by rfl) rfl (by first | (go_simp; done) | (go_simp; rfl)) ?_
 refine hK.out _ _ ?_
 clear hK K
 refine done_ qK ?_
 try go_wp2
 first | (refine bodyPost_ret (results_none rfl _ _ _) rfl ?_) | go_end0
 try subst htx
 exact ⟨rfl, _, ⟨none, 0, blk_put (blk_put (blk_put BKg.out 2 _ rfl) 0 _ rfl) 1 _ rfl, Kd.V_nil _ _ _ _ _, Kd.R_far (Kd.R_far (Kd.R_far HR.out (fun k hk => hk.2) _) (fun k hk => hk.2) _) (fun k hk => hk.2) _, hg⟩, ((HB.out.setCell hg _).setCell hg _).setCell hg _⟩
theorem bytesIn_of_C {w : World} {A : Option Addr} {xs : List Int} (h : Kd.C (Kd.int .u8) w A xs.length xs) : Lib.BytesIn w A xs.length xs := by
 obtain ⟨_, _, h1⟩ := h
 cases A with
 | none =>
  intro hn
  obtain ⟨ad, e, _⟩ := h1 hn
  cases e
 | some ad =>
  refine Lib.BytesIn.of_cells (fun i hi => ?_)
  obtain ⟨ad', e, h3⟩ := h1 (by omega)
  cases e
  obtain ⟨c, _, rfl, h2⟩ := h3 i _ (List.getElem?_eq_getElem hi)
  have h4 := h2 0 _ rfl
  rw [List.getD_eq_getElem?_getD, List.getElem?_eq_getElem hi]
  simpa [Kd.int, Kd.scalar] using h4
theorem fTrim_len (xs : List Int) : (Go.Proofs.YtnmjnchbdlllmaaW.XW.fTrim xs).length = if Lib.hasSuffix (Lib.bytesOf xs) [13] then xs.length - 1 else xs.length := by
 unfold Go.Proofs.YtnmjnchbdlllmaaW.XW.fTrim
 split
 ·simp
 ·rfl
theorem trimV {w : World} {A : Option Addr} {c : Nat} {xs : List Int} (h : Lib.BytesIn w A xs.length xs) : Lib.trimSuffixV A xs.length c xs [13] = .slice A (Go.Proofs.YtnmjnchbdlllmaaW.XW.fTrim xs).length c := by
 rw [fTrim_len]
 by_cases hn : 0 < xs.length
 ·obtain ⟨b, o, rfl, _⟩ := h hn
  show Lib.bytesTrimSuffix b o xs.length c xs [13] = _
  unfold Lib.bytesTrimSuffix
  show (if Lib.hasSuffix (Lib.bytesOf xs) [13] then _ else _) = _
  split <;> rfl
 ·obtain rfl : xs = [] := List.length_eq_zero_iff.1 (by omega)
  have h0 : Lib.hasSuffix (Lib.bytesOf []) [13] = false := rfl
  rw [h0]
  unfold Lib.trimSuffixV
  split
  ·unfold Lib.bytesTrimSuffix
   rfl
  ·rfl
theorem fTrim_C {w : World} {A : Option Addr} {xs : List Int} (h : Kd.C (Kd.int .u8) w A xs.length xs) : Kd.C (Kd.int .u8) w A (Go.Proofs.YtnmjnchbdlllmaaW.XW.fTrim xs).length (Go.Proofs.YtnmjnchbdlllmaaW.XW.fTrim xs) := by
 unfold Go.Proofs.YtnmjnchbdlllmaaW.XW.fTrim
 split
 ·exact Kd.C_take h (by omega)
 ·exact h
theorem trimCall {w : World} {A Az : Option Addr} {c cz : Nat} {p : List Int} (hpc : p.length ≤ c) (hp : p.length ≤ 120) (h1 : Kd.C (Kd.int .u8) w A p.length p) (h2 : Kd.C (Kd.int .u8) w Az ([13] : List Int).length [13]) :
  Calls Try.prog 37 #[.slice A p.length c, .slice Az ([13] : List Int).length cz] w fun e w' => e = .returned (.slice A (Go.Proofs.YtnmjnchbdlllmaaW.XW.fTrim p).length c) ∧ w' = w := by
 refine (Try.bytes_TrimSuffix_all A Az p.length c ([13] : List Int).length cz p [13] w rfl rfl hpc (by omega) (bytesIn_of_C h1) (bytesIn_of_C h2)).mono ?_
 rintro e w' ⟨rfl, rfl⟩
 exact ⟨by rw [trimV (bytesIn_of_C h1)], rfl⟩
set_option maxHeartbeats 4000000 in
set_option maxRecDepth 100000 in
theorem end_line (n g : Nat) (Q : Nat → Prop) (W : World) (lv : Value) (p : List Int) (l : List S54) (hS : St n g Q W lv (p, false, l)) (hn : n ≤ W.heap.size) (hl : l.length ≤ 2000000000) (hp : p.length ≤ 120) :
  Calls Try.prog 34 #[.pointer (some ⟨g, 0, none⟩)] W fun e W' => e = .returned (.tuple #[]) ∧ ∃ lv', St n g Q W' lv' ([], false, l ++ [⟨strOfNums (Go.Proofs.YtnmjnchbdlllmaaW.XW.fTrim p), false⟩]) ∧ Below n W W' := by
 obtain ⟨A, c, hbk, hV, hR, hg⟩ := hS
 have hbk0 := Aside0.mk hbk
 have hR0 := Aside0.mk hR
 have hV0 := Aside0.mk (Kd.V_reads' hV).2.2
 have hpc := Aside0.mk (Kd.V_reads' hV).2.1
 have hc1 : W.cell? ⟨g, 1, none⟩ = some (.bool false) := (blk_cell hbk 1).trans rfl
 have hu38 := Try.underlying38
 have hu58 := Try.underlying58
 have hu54 := Try.underlying54
 clear hV hR hbk
 go_enter Try.func34, Try.ntmps34
 go_wp2_with (first | ((with_reducible refine gate_dst (N := 2) rfl ?_); refine box_event ?hg (N := 2) ?hd (cs := #[.string ⟨#[]⟩, .bool false]) (t := 54) ?hr ?_; (case hd => rfl); (case hg => rfl); (case hr => first | (go_simp; done) | (go_simp; rfl)); intro gb hgb w2 hbox hb; have BX := Aside0.mk hbox; have HB2 := Aside0.mk hb; have hx0 : w2.cell? ⟨gb, 0, none⟩ = some (.string ⟨#[]⟩) := (blk_cell hbox 0).trans rfl; have hx1 : w2.cell? ⟨gb, 1, none⟩ = some (.bool false) := (blk_cell hbox 1).trans rfl; have hfx0 := blk_frozen hbox 0; have hfx1 := blk_frozen hbox 1; have hgg : g ≠ gb := (by rw [hgb]; exact Nat.ne_of_lt (blk_lt hbk0.out)); have hc1 : w2.cell? ⟨g, 1, none⟩ = some (.bool false) := (blk_cell (blk_below hbk0.out hb) 1).trans rfl; have hc0 : w2.cell? ⟨g, 0, none⟩ = some (.slice A p.length c) := (blk_cell (blk_below hbk0.out hb) 0).trans rfl; have HG := Aside0.mk (Nat.le_of_eq hgb.symm); clear hbox hb hgb) | ((with_reducible refine gate_dst (N := 21) rfl ?_); refine Go.Proofs.YtnmjnchbdlllmaaW.XW.lit_mark ?hg (N := 21) ?hd ([13] : List Int) 5 (t := 35) (x := ?ox21) (g := ?og21) ?ho ?hv ?hz Try.underlying35 Try.underlying5 (by decide) ?_; (case hd => rfl); (case hg => rfl); (case ho => exact rfl); (case hv => exact rfl); (case hz => first | rfl | (simp; done) | (go_simp; done)); intro v3 w3 ho3 hb3; obtain ⟨Az, cz, ez⟩ := Kd.V_slice ho3; subst ez; have HZ := Aside0.mk (Kd.V_reads' ho3).2.2; have HB3 := Aside0.mk (below_then (((HB2.out).setCell (p := ⟨gb, 0, none⟩) HG.out (.string ⟨#[]⟩)).setCell (p := ⟨gb, 1, none⟩) HG.out (.bool false)) (((HB2.out).setCell (p := ⟨gb, 0, none⟩) HG.out (.string ⟨#[]⟩)).setCell (p := ⟨gb, 1, none⟩) HG.out (.bool false)).size hb3); have BX3 := Aside0.mk (blk_below (blk_put (blk_put BX.out 0 (.string ⟨#[]⟩) rfl) 1 (.bool false) rfl) hb3); have HC3 := Aside0.mk (Kd.C_below hV0.out HB3.out); have hx30 : w3.cell? ⟨gb, 0, none⟩ = some (.string ⟨#[]⟩) := (blk_cell BX3.out 0).trans rfl; have hfx30 := blk_frozen BX3.out 0; clear ho3 hb3) | ((with_reducible refine gate_callee (f := 37) rfl ?_); refine goesL_ (some 22) rfl rfl Try.func37 qK rfl #[.slice A p.length c, .slice Az ([13] : List Int).length cz] rfl qG ?_; (refine (trimCall hpc.out hp HC3.out HZ.out).mono ?_); rintro e w' ⟨rfl, rfl⟩; refine ⟨_, rfl, ?_⟩; have hcv := Kd.C_string (P := Try.prog) (A := A) (c := c) Try.underlying35 Try.underlying5 Try.underlying9 (fTrim_C HC3.out)))
 have hnl : some gb ≠ lv.ownBlock := fun e => by have := Kd.R_lt hR0.out gb e.symm; have := HG.out; omega
 have BKx := Aside0.mk (blk_put BX3.out 0 (.string (strOfNums (Go.Proofs.YtnmjnchbdlllmaaW.XW.fTrim p))) rfl)
 have HB := Aside0.mk ((HB3.out.mono hn).setCell (p := ⟨gb, 0, none⟩) (show n ≤ gb from Nat.le_trans hn HG.out) (.string (strOfNums (Go.Proofs.YtnmjnchbdlllmaaW.XW.fTrim p))))
 have BKg := Aside0.mk (blk_far (p := ⟨gb, 0, none⟩) (blk_below hbk0.out HB3.out) hgg (.string (strOfNums (Go.Proofs.YtnmjnchbdlllmaaW.XW.fTrim p))))
 have HR := Aside0.mk (Kd.R_far (p := ⟨gb, 0, none⟩) (Kd.R_mono (Kd.R_below (Kd.R_elderB hR0.out gb HG.out) HB3.out) (fun k hk => (hk : (n ≤ k ∧ k ≠ g) ∧ k ≠ gb))) (fun k hk => hk.2) (.string (strOfNums (Go.Proofs.YtnmjnchbdlllmaaW.XW.fTrim p))))
 replace HR := Aside0.mk (Kd.R_mono HR.out (fun k hk => hk.1))
 obtain ⟨tx, htx⟩ : ∃ tx : ByteArray, tx = strOfNums (Go.Proofs.YtnmjnchbdlllmaaW.XW.fTrim p) := ⟨_, rfl⟩
 rw [← htx] at BKx HB BKg HR ⊢
 generalize hw3 : w'.setCell ⟨gb, 0, none⟩ (.string tx) = w4 at BKx HB BKg HR ⊢
 refine start_ (n := 16) (S := fun w' => w'.cell? ⟨g, 2, none⟩ = some lv ∧ w'.cell? ⟨gb, 0, none⟩ = some (.string tx) ∧ w'.cell? ⟨gb, 1, none⟩ = some (.bool false)) (ds := [12, 15]) #[false, false, false, false, false, false, false, false, false, false, false, false, false, false, false, false] qK rfl rfl ⟨(blk_cell BKg.out 2).trans rfl, (blk_cell BKx.out 0).trans rfl, (blk_cell BKx.out 1).trans rfl⟩ (fun hHeld => ?_)
 have n0_ := Aside0.mk (blk_drew BKg.out); have n1_ := Aside0.mk (blk_drew BKx.out); have n2_ := Aside0.mk (Kd.R_drew HR.out); have n3_ := Aside0.mk (below_drew1 HB.out)
 clear BKg BKx HR HB; have BKg := n0_; have BKx := n1_; have HR := n2_; have HB := n3_; clear n0_ n1_ n2_ n3_
 generalize w4.drew = w5 at BKg BKx HR HB hHeld ⊢
 refine pure_ (i := 0) (N := some 25) (v := ?_) (a' := ?_) #[true, false, false, false, false, false, false, false, false, false, false, false, false, false, false, false] rfl rfl qK (fun _ _ _ h => h) (Or.inl ⟨by rfl, ?_⟩) ?_ ?_
 rotate_left
 ·intro w'; go_simp; with_reducible rfl
 rotate_left
 ·simp only [Act.put, List.setIfInBounds_toArray, List.set_cons_zero, List.set_cons_succ, i64_w, i32_w]; rfl
 refine pure_ (i := 1) (N := some 26) (v := ?_) (a' := ?_) #[true, true, false, false, false, false, false, false, false, false, false, false, false, false, false, false] rfl rfl qK (fun _ _ _ h => h) (Or.inl ⟨by rfl, ?_⟩) ?_ ?_
 rotate_left
 ·intro w'; go_simp; with_reducible rfl
 rotate_left
 ·simp only [Act.put, List.setIfInBounds_toArray, List.set_cons_zero, List.set_cons_succ, i64_w, i32_w]; rfl
 refine pure_ (i := 2) (N := some 27) (v := ?_) (a' := ?_) #[true, true, true, false, false, false, false, false, false, false, false, false, false, false, false, false] rfl rfl qK (fun _ _ _ h => h) (Or.inl ⟨by rfl, ?_⟩) ?_ ?_
 rotate_left
 ·intro w'; go_simp; with_reducible rfl
 rotate_left
 ·simp only [Act.put, List.setIfInBounds_toArray, List.set_cons_zero, List.set_cons_succ, i64_w, i32_w]; rfl
 refine pure_ (i := 3) (N := some 28) (v := ?_) (a' := ?_) #[true, true, true, true, false, false, false, false, false, false, false, false, false, false, false, false] rfl rfl qK (fun _ _ _ h => h) (Or.inl ⟨by rfl, ?_⟩) ?_ ?_
 rotate_left
 ·intro w'; go_simp; with_reducible rfl
 rotate_left
 ·simp only [Act.put, List.setIfInBounds_toArray, List.set_cons_zero, List.set_cons_succ, i64_w, i32_w]; rfl
 refine pure_ (i := 4) (N := some 29) (v := ?_) (a' := ?_) #[true, true, true, true, true, false, false, false, false, false, false, false, false, false, false, false] rfl rfl qK (fun _ _ _ h => h) (Or.inl ⟨by rfl, ?_⟩) ?_ ?_
 rotate_left
 ·intro w'; go_simp; with_reducible rfl
 rotate_left
 ·simp only [Act.put, List.setIfInBounds_toArray, List.set_cons_zero, List.set_cons_succ, i64_w, i32_w]; rfl
 refine pure_ (i := 9) (N := some 34) (v := ?_) (a' := ?_) #[true, true, true, true, true, false, false, false, false, true, false, false, false, false, false, false] rfl rfl qK (fun _ _ _ h => h) (Or.inl ⟨by rfl, ?_⟩) ?_ ?_
 rotate_left
 ·intro w'; go_simp; with_reducible rfl
 rotate_left
 ·simp only [Act.put, List.setIfInBounds_toArray, List.set_cons_zero, List.set_cons_succ, i64_w, i32_w]; rfl
 refine take_ (i := 5) (N := some 30) (v := ?_) (a' := ?_) #[true, true, true, true, true, true, false, false, false, true, false, false, false, false, false, false] rfl rfl qK (fun _ _ _ h => h) (Or.inl ⟨by rfl, ?_⟩) hHeld ?_ ?_
 rotate_left
 ·rintro w' ⟨s0, s1, s2⟩; go_simp; with_reducible rfl
 rotate_left
 ·simp only [Act.put, List.setIfInBounds_toArray, List.set_cons_zero, List.set_cons_succ, i64_w, i32_w]; rfl
 refine take_ (i := 6) (N := some 31) (v := ?_) (a' := ?_) #[true, true, true, true, true, true, true, false, false, true, false, false, false, false, false, false] rfl rfl qK (fun _ _ _ h => h) (Or.inl ⟨by rfl, ?_⟩) hHeld ?_ ?_
 rotate_left
 ·rintro w' ⟨s0, s1, s2⟩; go_simp; with_reducible rfl
 rotate_left
 ·simp only [Act.put, List.setIfInBounds_toArray, List.set_cons_zero, List.set_cons_succ, i64_w, i32_w]; rfl
 refine one_ (i := 7) (N := some 32) #[true, true, true, true, true, true, true, true, false, true, false, false, false, false, false, false] rfl rfl qK (by decide) (fun K hK => ?_)
 refine value_ (v := .slice (some ⟨w5.heap.size, 0, none⟩) 1 1) (w1 := w5.alloc (.cells #[.string tx, .bool false] 54)) (by rfl) rfl (by first | (go_simp; done) | (go_simp; rfl)) ?_
 refine hK.out _ _ ⟨(blk_cell (blk_alloc BKg.out _) 2).trans rfl, (blk_cell (blk_alloc BKx.out _) 0).trans rfl, (blk_cell (blk_alloc BKx.out _) 1).trans rfl⟩ (fun hHeld => ?_)
 clear hK K
 refine norm_ (a' := ?_) ?_ ?_
 rotate_left
 ·show Act.put _ (some 32) _ = _
  simp only [Act.put, List.setIfInBounds_toArray, List.set_cons_zero, List.set_cons_succ, i64_w, i32_w]
  rfl
 refine one_ (i := 8) (N := some 33) #[true, true, true, true, true, true, true, true, true, true, false, false, false, false, false, false] rfl rfl qK (by decide) (fun K hK => ?_)
 refine Kd.R_append_step k54 (w0 := W) n (by rfl) (.tmp 30) (.tmp 32) 41 54 (.agg #[(.string ⟨#[]⟩), (.bool false)]) 24 rfl Try.underlying41 info54 rfl (by decide) (by omega) lv l ⟨tx, false⟩ [.string tx, .bool false] (fun k => n ≤ k ∧ k ≠ g) (fun _ => False) rfl rfl (k54_mkM _ _ _ _) (fun _ h => h.elim) ?aF HR.out HB.out ?aS ?aL ?_
 (case aS => exact Nat.le_trans hn HB.out.size)
 (case aF => exact (fun k hk => ⟨Nat.le_trans (Nat.le_trans hn HB.out.size) hk, by have := blk_lt BKg.out; omega⟩))
 (case aL => omega)
 intro v1 w6 ho hb hg_ hat
 have hng : some g ≠ lv.ownBlock := fun e => (HR.out.1 g e.symm).2 rfl
 have n0_ := Aside0.mk (blk_grown BKg.out hg_ hng); have n1_ := Aside0.mk (blk_grown BKx.out hg_ hnl)
 clear BKg BKx HR HB; have BKg := n0_; have BKx := n1_; have HR := Aside0.mk ho; have HB := Aside0.mk hb; clear n0_ n1_ ho hb hg_ hat
 obtain ⟨Al, cl, el⟩ := Kd.R_slice HR.out; obtain ⟨LL, hLL⟩ : ∃ LL : Nat, LL = (l ++ [(⟨tx, false⟩ : S54)]).length := ⟨_, rfl⟩; rw [← hLL] at el; clear hLL; subst el
 refine hK.out _ _ ⟨(blk_cell BKg.out 2).trans rfl, (blk_cell BKx.out 0).trans rfl, (blk_cell BKx.out 1).trans rfl⟩ (fun hHeld => ?_)
 clear hK K
 refine norm_ (a' := ?_) ?_ ?_
 rotate_left
 ·show Act.put _ (some 33) _ = _
  simp only [Act.put, List.setIfInBounds_toArray, List.set_cons_zero, List.set_cons_succ, i64_w, i32_w]
  rfl
 refine pure_ (i := 10) (N := some 35) (v := ?_) (a' := ?_) #[true, true, true, true, true, true, true, true, true, true, true, false, false, false, false, false] rfl rfl qK (fun _ _ _ h => h) (Or.inl ⟨by rfl, ?_⟩) ?_ ?_
 rotate_left
 ·intro w'; go_simp; with_reducible rfl
 rotate_left
 ·simp only [Act.put, List.setIfInBounds_toArray, List.set_cons_zero, List.set_cons_succ, i64_w, i32_w]; rfl
 refine pure_ (i := 11) (N := some 36) (v := ?_) (a' := ?_) #[true, true, true, true, true, true, true, true, true, true, true, true, false, false, false, false] rfl rfl qK (fun _ _ _ h => h) (Or.inl ⟨by rfl, ?_⟩) ?_ ?_
 rotate_left
 ·intro w'; go_simp; with_reducible rfl
 rotate_left
 ·simp only [Act.put, List.setIfInBounds_toArray, List.set_cons_zero, List.set_cons_succ, i64_w, i32_w]; rfl
 refine last_ (i := 12) (N := none) #[true, true, true, true, true, true, true, true, true, true, true, true, true, false, false, false] rfl rfl qK (by decide) (fun K hK => ?_)
 have hs := hHeld.1; have hfs := blk_frozen BKg.out 2; have hu38 := Try.underlying38; have hu41 := Try.underlying41
 refine skip_ (w1 := w6.setCell ⟨g, 2, none⟩ (.slice Al LL cl)) (by rfl) rfl (by first | (go_simp; done) | (go_simp; rfl)) ?_
 refine hK.out _ _ ?_
 clear hK K
 refine pure_ (i := 13) (N := some 37) (v := ?_) (a' := ?_) #[true, true, true, true, true, true, true, true, true, true, true, true, true, true, false, false] rfl rfl qK (fun _ _ _ h => h) (Or.inl ⟨by rfl, ?_⟩) ?_ ?_
 rotate_left
 ·intro w'; go_simp; with_reducible rfl
 rotate_left
 ·simp only [Act.put, List.setIfInBounds_toArray, List.set_cons_zero, List.set_cons_succ, i64_w, i32_w]; rfl
 refine pure_ (i := 14) (N := some 38) (v := ?_) (a' := ?_) #[true, true, true, true, true, true, true, true, true, true, true, true, true, true, true, false] rfl rfl qK (fun _ _ _ h => h) (Or.inl ⟨by rfl, ?_⟩) ?_ ?_
 rotate_left
 ·intro w'; go_simp; with_reducible rfl
 rotate_left
 ·simp only [Act.put, List.setIfInBounds_toArray, List.set_cons_zero, List.set_cons_succ, i64_w, i32_w]; rfl
 refine last_ (i := 15) (N := none) #[true, true, true, true, true, true, true, true, true, true, true, true, true, true, true, true] rfl rfl qK (by decide) (fun K hK => ?_)
 have h70 := blk_put BKg.out 2 (.slice Al LL cl) rfl
 have hs0 := (blk_cell h70 0).trans rfl; have hs1 := (blk_cell h70 1).trans rfl; have hfs0 := blk_frozen h70 0; have hfs1 := blk_frozen h70 1
 refine skip_ (w1 := ((w6.setCell ⟨g, 2, none⟩ (.slice Al LL cl)).setCell ⟨g, 0, none⟩ (.slice none 0 0)).setCell ⟨g, 1, none⟩ (.bool false)) (by rfl) rfl (by first | (go_simp; done) | (go_simp; rfl)) ?_
 refine hK.out _ _ ?_
 clear hK K
 refine done_ qK ?_
 try go_wp2
 first | (refine bodyPost_ret (results_none rfl _ _ _) rfl ?_) | go_end0
 try subst htx
 exact ⟨rfl, _, ⟨none, 0, blk_put (blk_put (blk_put BKg.out 2 _ rfl) 0 _ rfl) 1 _ rfl, Kd.V_nil _ _ _ _ _, Kd.R_far (Kd.R_far (Kd.R_far HR.out (fun k hk => hk.2) _) (fun k hk => hk.2) _) (fun k hk => hk.2) _, hg⟩, ((HB.out.setCell hg _).setCell hg _).setCell hg _⟩
theorem end_all (n g : Nat) (Q : Nat → Prop) (W : World) (lv : Value) (t : Go.Proofs.YtnmjnchbdlllmaaW.XW.FSt S54) (hS : St n g Q W lv t) (hn : n ≤ W.heap.size) (hl : t.2.2.length ≤ 2000000000) (hp : t.1.length ≤ 120) :
  Calls Try.prog 34 #[.pointer (some ⟨g, 0, none⟩)] W fun e W' => e = .returned (.tuple #[]) ∧ ∃ lv', St n g Q W' lv' (Go.Proofs.YtnmjnchbdlllmaaW.XW.fEnd frame_Push.fin t) ∧ Below n W W' := by
 obtain ⟨p, s, l⟩ := t
 cases s with
 | true => exact end_skip n g Q W lv p l hS hn hl
 | false => exact end_line n g Q W lv p l hS hn hl hp
theorem idx0 (A0 : Option Addr) (c0 : Nat) (l0 : List Int) (w : World) (hr0 : Kd.C (Kd.int .u8) w A0 l0.length l0) :
  Calls Try.prog 32 #[.slice A0 l0.length c0, .int .u8 10] w fun e w' => e = .returned (.int .i64 (Lib.indexByte (Lib.bytesOf l0) 10)) ∧ w' = w := by
 obtain ⟨_, _, h1⟩ := hr0
 cases A0 with
 | none =>
  have h0 : l0 = [] := by
   cases l0 with
   | nil => rfl
   | cons x t => obtain ⟨ad, e, _⟩ := h1 (by simp); cases e
  subst h0
  exact bytes_IndexByte.calls_none c0 10 w
 | some ad =>
  refine bytes_IndexByte.calls_some ad l0.length c0 l0 10 w rfl ?_
  intro i hi
  obtain ⟨ad', e, h3⟩ := h1 (by omega)
  cases e
  obtain ⟨c, _, rfl, h2⟩ := h3 i _ (List.getElem?_eq_getElem hi)
  have h4 := h2 0 _ rfl
  rw [List.getD_eq_getElem?_getD, List.getElem?_eq_getElem hi]
  simpa [Kd.int, Kd.scalar] using h4
theorem grow_lines2 {t : Go.Proofs.YtnmjnchbdlllmaaW.XW.FSt S54} {b : List Int} : (Go.Proofs.YtnmjnchbdlllmaaW.XW.fGrow t b).2.2.length = t.2.2.length := by
 unfold Go.Proofs.YtnmjnchbdlllmaaW.XW.fGrow
 split
 ·rfl
 split <;> rfl
theorem grow_lines {t : Go.Proofs.YtnmjnchbdlllmaaW.XW.FSt S54} {b b' : List Int} (h : t.2.2.length + b.length ≤ 1000000000) : (Go.Proofs.YtnmjnchbdlllmaaW.XW.fGrow t b').2.2.length ≤ 2000000000 := by
 rw [grow_lines2]; omega
set_option maxHeartbeats 4000000 in
set_option maxRecDepth 100000 in
theorem read_all (n g : Nat) (Q : Nat → Prop) (W : World) (lv : Value) (t : Go.Proofs.YtnmjnchbdlllmaaW.XW.FSt S54) (A : Option Addr) (c : Nat) (b : List Int) (hQ : ∀ k, n ≤ k → Q k) (hS : St n g Q W lv t) (hn : n ≤ W.heap.size) (hb : Kd.F (Kd.int .u8) W (fun k => k < n) A b.length b) (hcb : b.length ≤ c)
  (ht : Go.Proofs.YtnmjnchbdlllmaaW.XW.FOk t) (hl : t.2.2.length + b.length ≤ 1000000000) (hby : ∀ x ∈ b, 0 ≤ x ∧ x < 256) :
  Calls Try.prog 29 #[.pointer (some ⟨g, 0, none⟩), .slice A b.length c] W fun e W' => e = .returned (.tuple #[]) ∧ ∃ lv', St n g Q W' lv' (Go.Proofs.YtnmjnchbdlllmaaW.XW.fFold frame_Push.fin t b) ∧ Below n W W' := by
 have hB := Below.refl n W
 go_enter Try.func29, Try.ntmps29
 go_wp2
 go_loopg [1] (b.length + 1) (fun kq v1 w' => ∃ (A_ : Option Addr) (c_ : Nat) (b_ : List Int) (lv_ : Value) (t_ : Go.Proofs.YtnmjnchbdlllmaaW.XW.FSt S54), v1 = .slice A_ b_.length c_ ∧ Aside0 (b_.length < kq) ∧ Aside0 (b_.length ≤ c_) ∧ Aside0 (Kd.F (Kd.int .u8) w' (fun k => k < n) A_ b_.length b_) ∧ Aside0 (St n g Q w' lv_ t_) ∧ Aside0 (Go.Proofs.YtnmjnchbdlllmaaW.XW.FOk t_) ∧ Aside0 (t_.2.2.length + b_.length ≤ 1000000000) ∧ Aside0 (∀ x ∈ b_, 0 ≤ x ∧ x < 256) ∧ Aside0 (Go.Proofs.YtnmjnchbdlllmaaW.XW.fFold frame_Push.fin t_ b_ = Go.Proofs.YtnmjnchbdlllmaaW.XW.fFold frame_Push.fin t b) ∧ Aside0 (n ≤ w'.heap.size) ∧ Aside0 (Below n W w'))
 case atStart => exact ⟨A, c, b, lv, t, rfl, ⟨Nat.lt_succ_self _⟩, ⟨hcb⟩, ⟨hb⟩, ⟨hS⟩, ⟨ht⟩, ⟨hl⟩, ⟨hby⟩, ⟨rfl⟩, ⟨hn⟩, ⟨hB⟩⟩
 case round =>
  obtain ⟨A_, c_, b_, lv_, t_, rfl, hk, hc_, hb_, hS_, ht_, hl_, hby_, hR_, hn_, hB_⟩ := hrel
  cases gk with
  | zero => exact absurd hk.out (by omega)
  | succ k2 =>
   rcases Go.Proofs.YtnmjnchbdlllmaaW.XW.fIdx b_ hby_.out with ⟨hi, hno⟩ | ⟨o, hi, ho, hsp, hno⟩
   ·have hidx : ∀ w_ : World, Kd.C (Kd.int .u8) w_ A_ b_.length b_ → Calls Try.prog 32 #[.slice A_ b_.length c_, .int .u8 10] w_ fun e w' => e = .returned (.int .i64 (-1)) ∧ w' = w_ := fun w_ h => hi ▸ idx0 A_ c_ b_ w_ h
    have HI := Aside0.mk hidx
    have HN := Aside0.mk hno
    clear hidx hi hno hS hb
    go_wp2_with (first | ((with_reducible refine gate_callee (f := 32) rfl ?_); refine goesL_ (some 6) rfl rfl Try.func32 qK rfl #[.slice A_ b_.length c_, .int .u8 10] rfl qG ?_; (refine (HI.out _ (Kd.F_now hb_.out)).mono ?_); rintro e w' ⟨rfl, rfl⟩; refine ⟨_, rfl, ?_⟩) | ((with_reducible refine gate_callee (f := 33) rfl ?_); refine goesL_ (some 11) rfl rfl Try.func33 qK rfl #[.pointer (some ⟨g, 0, none⟩), .slice A_ b_.length c_] rfl qG ?_; (refine (grow_all n g Q _ lv_ t_ A_ c_ b_ hQ hS_.out hn_.out hb_.out hc_.out ht_.out.1 (by have := hl_.out; omega)).mono ?_); rintro e w' ⟨rfl, hS2, hB2⟩; refine ⟨_, rfl, ?_⟩; have HS2 := Aside0.mk hS2; have HB2 := Aside0.mk (hB_.out.trans hB2); clear hS2 hB2))
    first | (refine bodyPost_ret (results_none rfl _ _ _) rfl ?_) | go_end0
    refine ⟨rfl, lv_, ?_, HB2.out⟩
    rw [← hR_.out, Go.Proofs.YtnmjnchbdlllmaaW.XW.fFold_grow frame_Push.fin b_ t_ ht_.out HN.out]
    exact HS2.out
   ·have hidx : ∀ w_ : World, Kd.C (Kd.int .u8) w_ A_ b_.length b_ → Calls Try.prog 32 #[.slice A_ b_.length c_, .int .u8 10] w_ fun e w' => e = .returned (.int .i64 (o : Int)) ∧ w' = w_ := fun w_ h => hi ▸ idx0 A_ c_ b_ w_ h
    have HI := Aside0.mk hidx
    have HN := Aside0.mk hno
    have HSP := Aside0.mk hsp
    have HL := Aside0.mk ho
    obtain ⟨i05, hi05, _, hsz5, _⟩ := info_parts info5
    obtain ⟨hcutT, hAT, hCT⟩ := print_take_of (P := Try.prog) (Value.int .u8) 0 35 5 .i64 Try.underlying35 hi05 hsz5 A_ c_ b_ (o : Int) (by omega) (by omega) hc_.out
    obtain ⟨j, hj⟩ : ∃ j_ : Int, wrap64 ((o : Int) + 1) = j_ := ⟨_, rfl⟩
    have hjw : IntKind.i64.wrap ((o : Int) + 1) = j := (i64_w _).trans hj
    have hjv : j = ((o + 1 : Nat) : Int) := by
     have := hl_.out
     rw [← hj]; unfold wrap64; omega
    have HJ := Aside0.mk hjv
    obtain ⟨A', hcutD, hAD, hCD⟩ := print_drop_of (P := Try.prog) (Value.int .u8) 0 35 5 .i64 Try.underlying35 hi05 hsz5 A_ c_ b_ j (by omega) (by omega) hc_.out
    simp only [Int.toNat_natCast] at hcutT hCT
    have HAD := Aside0.mk hAD
    have HCD := Aside0.mk hCD
    have HCT := Aside0.mk hCT
    have hneg : decide ((o : Int) < 0) = false := decide_eq_false (by omega)
    clear hidx hi hno hsp ho hS hb hAT hCT hjv hAD hCD hi05 hsz5
    go_wp2_with (first | ((with_reducible refine gate_callee (f := 32) rfl ?_); refine goesL_ (some 6) rfl rfl Try.func32 qK rfl #[.slice A_ b_.length c_, .int .u8 10] rfl qG ?_; (refine (HI.out _ (Kd.F_now hb_.out)).mono ?_); rintro e w' ⟨rfl, rfl⟩; refine ⟨_, rfl, ?_⟩) | ((with_reducible refine gate_callee (f := 33) rfl ?_); refine goesL_ (some 16) rfl rfl Try.func33 qK rfl #[.pointer (some ⟨g, 0, none⟩), .slice A_ (b_.take o).length c_] rfl qG ?_; (refine (grow_all n g Q _ lv_ t_ A_ c_ (b_.take o) hQ hS_.out hn_.out (Kd.F_take hb_.out (Nat.le_of_lt HL.out)) HCT.out ht_.out.1 (by have := hl_.out; rw [List.length_take]; omega)).mono ?_); rintro e w' ⟨rfl, hS2, hB2⟩; refine ⟨_, rfl, ?_⟩; have HS2 := Aside0.mk hS2; have HB2 := Aside0.mk (hB_.out.trans hB2); have HF2 := Aside0.mk (Kd.F_step hb_.out (fun k hk _ => hB2.block k hk)); have HN2 := Aside0.mk (Nat.le_trans hn_.out hB2.size); clear hS2 hB2) | ((with_reducible refine gate_callee (f := 34) rfl ?_); refine goesL_ (some 18) rfl rfl Try.func34 qK rfl #[.pointer (some ⟨g, 0, none⟩)] rfl qG ?_; (refine (end_all n g Q _ lv_ (Go.Proofs.YtnmjnchbdlllmaaW.XW.fGrow t_ (b_.take o)) HS2.out HN2.out (grow_lines hl_.out) (Go.Proofs.YtnmjnchbdlllmaaW.XW.fGrow_ok ht_.out _).1).mono ?_); rintro e w' ⟨rfl, lv3, hS3, hB3⟩; refine ⟨_, rfl, ?_⟩; have HS3 := Aside0.mk hS3; have HB3 := Aside0.mk (HB2.out.trans hB3); have HF3 := Aside0.mk (Kd.F_step HF2.out (fun k hk _ => hB3.block k hk)); have HN3 := Aside0.mk (Nat.le_trans HN2.out hB3.size); clear hS3 hB3))
    go_roundg k2
    case measure => omega
    case rel =>
     have hjt : j.toNat = o + 1 := by have := HJ.out; omega
     refine ⟨A', c_ - j.toNat, b_.drop j.toNat, lv3, Go.Proofs.YtnmjnchbdlllmaaW.XW.fEnd frame_Push.fin (Go.Proofs.YtnmjnchbdlllmaaW.XW.fGrow t_ (b_.take o)), (by rw [List.length_drop]), ⟨?_⟩, ⟨HCD.out⟩, ⟨Kd.F_imp HF3.out (fun W_ h => Kd.C_of_reads (h1 := fun _ => rfl) (HAD.out _ (Kd.reads_of_C h)))⟩, HS3, ⟨?_⟩, ⟨?_⟩, ⟨?_⟩, ⟨?_⟩, HN3, HB3⟩
     ·have := hk.out; have := HL.out; rw [List.length_drop, hjt]; omega
     ·exact ⟨by simp [Go.Proofs.YtnmjnchbdlllmaaW.XW.fEnd], by simp [Go.Proofs.YtnmjnchbdlllmaaW.XW.fEnd]⟩
     ·have h1 := grow_lines2 (t := t_) (b := b_.take o)
      have := hl_.out
      have := HL.out
      rw [List.length_drop, hjt]
      simp only [Go.Proofs.YtnmjnchbdlllmaaW.XW.fEnd, List.length_append, List.length_cons, List.length_nil]
      omega
     ·exact fun x hx => hby_.out x (List.mem_of_mem_drop hx)
     ·rw [← hR_.out, hjt]
      conv => rhs; rw [HSP.out]
      rw [Go.Proofs.YtnmjnchbdlllmaaW.XW.fFold_feed frame_Push.fin t_ _ _ ht_.out HN.out]
set_option maxHeartbeats 4000000 in
set_option maxRecDepth 100000 in
theorem frame_Push.calls (P0_0_ : Nat → Prop) (A0_0 : Option Addr) (c0_0 : Nat) (l0_0 : List Int) (a0_1 : Bool) (A1 : Option Addr) (c1 : Nat) (l1 : List (List Int)) (r1 : List Int) (r2 : Bool) (r3 : List S54) (w : World) (hs0_0 : Kd.V (Kd.int .u8) 5 w w.heap.size (fun k_ => P0_0_ k_) (.slice A0_0 l0_0.length c0_0) l0_0) (hr1 : Kd.C (Kd.slice 5 (Kd.int .u8)) w A1 l1.length l1) (hc1 : l1.length ≤ c1) (h : frame_Push.f l0_0 a0_1 l1 = some (r1, r2, r3)) :
  Calls Try.prog 22 #[.agg #[.slice A0_0 l0_0.length c0_0, .bool a0_1], .slice A1 l1.length c1] w fun e w' => ∃ v0_ v2_ : Value, e = .returned (.tuple #[.agg #[v0_, .bool r2], v2_]) ∧ Kd.V (Kd.int .u8) 5 w' w.heap.size (fun k_ => (P0_0_ k_ ∨ w.heap.size ≤ k_) ∧ some k_ ≠ (v2_ : Value).ownBlock) v0_ r1 ∧ Kd.R k54 54 w' w.heap.size (fun k_ => (w.heap.size ≤ k_)) v2_ r3 ∧ Below w.heap.size w w' := by
 unfold frame_Push.f at h
 split at h
 case isFalse => cases h
 rename_i hgood
 obtain ⟨hok, hsum, hby⟩ := Go.Proofs.YtnmjnchbdlllmaaW.XW.fGood_ok hgood
 have HT := Aside0.mk (Option.some.inj h)
 have HV := Aside0.mk (Kd.V_bound hs0_0)
 have HR1 := Aside0.mk hr1
 have HOK := Aside0.mk hok
 have HSUM := Aside0.mk hsum
 have HBY := Aside0.mk hby
 have HB0 := Aside0.mk (Below.refl w.heap.size w)
 have hlen : l1.length ≤ 9223372036854775807 := hr1.2.1
 have HLEN := Aside0.mk hlen
 have hu38 := Try.underlying38
 have hu58 := Try.underlying58
 clear hs0_0 hr1 hgood h hok hsum hby hlen
 go_enter Try.func22, Try.ntmps22
 go_wp2_with (first | ((with_reducible refine gate_dst (N := 2) rfl ?_); refine box_event ?hg (N := 2) ?hd (cs := #[.slice A0_0 l0_0.length c0_0, .bool a0_1]) (t := 38) ?hr ?_; (case hd => rfl); (case hg => rfl); (case hr => first | (go_simp; done) | (go_simp; rfl)); intro gbf hgb w2 hbox hb; have BF := Aside0.mk hbox; have HB := Aside0.mk (below_step HB0.out hb); have hf0 : w2.cell? ⟨gbf, 0, none⟩ = some (.slice A0_0 l0_0.length c0_0) := (blk_cell hbox 0).trans rfl; have hf1 : w2.cell? ⟨gbf, 1, none⟩ = some (.bool a0_1) := (blk_cell hbox 1).trans rfl; clear hbox hb hgb) | ((with_reducible refine gate_dst (N := 4) rfl ?_); refine box_event ?hg (N := 4) ?hd (cs := #[.slice none 0 0, .bool false]) (t := 38) ?hr ?_; (case hd => rfl); (case hg => rfl); (case hr => first | (go_simp; done) | (go_simp; rfl)); intro gbr hgb w3 hbox hb; have BR := Aside0.mk hbox; have GR := Aside0.mk (hgb ▸ HB.out.size : w.heap.size ≤ gbr); have BF3 := Aside0.mk (blk_below BF.out hb); have HB3 := Aside0.mk (below_step HB.out hb); have hf30 : w3.cell? ⟨gbf, 0, none⟩ = some (.slice A0_0 l0_0.length c0_0) := (blk_cell BF3.out 0).trans rfl; have hf31 : w3.cell? ⟨gbf, 1, none⟩ = some (.bool a0_1) := (blk_cell BF3.out 1).trans rfl; clear hbox hb hgb) | ((with_reducible refine gate_dst (N := 11) rfl ?_); refine box_event ?hg (N := 11) ?hd (cs := #[.slice A0_0 l0_0.length c0_0, .bool a0_1, .slice none 0 0]) (t := 58) ?hr ?_; (case hd => rfl); (case hg => rfl); (case hr => first | (go_simp; done) | (go_simp; rfl)); intro g hgb w4 hbox hb; have BG := Aside0.mk hbox; have GG := Aside0.mk (hgb ▸ HB3.out.size : w.heap.size ≤ g); have GRG := Aside0.mk (hgb ▸ blk_lt BR.out : gbr < g); have BR4 := Aside0.mk (blk_below BR.out hb); have HB4 := Aside0.mk (below_step HB3.out hb); have HN4 := Aside0.mk (Nat.le_of_lt (blk_lt hbox)); clear hbox hb hgb))
 have HS4 : Aside0 (St g g (fun k => (P0_0_ k ∧ k < w.heap.size) ∨ g ≤ k) w4 (.slice none 0 0) (l0_0, a0_1, [])) := ⟨⟨A0_0, c0_0, BG.out, Kd.V_mono (Kd.V_step HV.out (fun k hk hlt => HB4.out.block k hlt)) (fun k hk => ⟨.inl hk, by have := GG.out; have := hk.2; omega, by simp [Value.ownBlock]⟩), Kd.R_nil _ _ _ _ _, Nat.le_refl _⟩⟩
 go_loopg [14] (l1.length + 1) (fun kq v14 w' => ∃ (i_ : Nat) (lv_ : Value) (t_ : Go.Proofs.YtnmjnchbdlllmaaW.XW.FSt S54), v14 = .int .i64 (i_ : Int) ∧ Aside0 (l1.length - i_ < kq) ∧ Aside0 (i_ ≤ l1.length) ∧ Aside0 (St g g (fun k => (P0_0_ k ∧ k < w.heap.size) ∨ g ≤ k) w' lv_ t_) ∧ Aside0 (Go.Proofs.YtnmjnchbdlllmaaW.XW.FOk t_) ∧ Aside0 (t_.2.2.length + ((l1.drop i_).map List.length).sum ≤ 1000000000) ∧ Aside0 (Go.Proofs.YtnmjnchbdlllmaaW.XW.fAll frame_Push.fin t_ (l1.drop i_) = (r1, r2, r3)) ∧ Aside0 (w'.heap[gbr]? = some (.cells #[.slice none 0 0, .bool false] 38 (0, 0))) ∧ Aside0 (g ≤ w'.heap.size) ∧ Aside0 (Below w.heap.size w w'))
 case atStart => exact ⟨0, .slice none 0 0, (l0_0, a0_1, []), rfl, ⟨by omega⟩, ⟨Nat.zero_le _⟩, HS4, HOK, ⟨by simpa using HSUM.out⟩, ⟨HT.out⟩, BR4, HN4, HB4⟩
 case round =>
  obtain ⟨i_, lv_, t_, rfl, hk, hi_, hS_, hok_, hsum_, hT_, hbr_, hn_, hB_⟩ := hrel
  cases gk with
  | zero => exact absurd hk.out (by omega)
  | succ k2 =>
   by_cases hlt : i_ < l1.length
   ·have hlti : decide ((i_ : Int) < (l1.length : Int)) = true := decide_eq_true (by omega)
    have hltn : decide (i_ < l1.length) = true := decide_eq_true hlt
    have hltp : (i_ < l1.length) = True := eq_true hlt
    have p5 : 0 ≤ (i_ : Int) := by omega
    have q5 : (i_ : Int) < (l1.length : Int) := by omega
    obtain ⟨ad5, A5, c5, e5, hx5, hl5, hC5⟩ := at_L1 HR1.out (i_ : Int) p5 q5
    subst e5
    have hw5 := World.block_lt_of_cell? w _ hx5
    replace hx5 := (hB_.out.cell hw5).trans hx5
    have hrd : rd_L1 l1 (i_ : Int) = l1[i_] := by show l1.getD _ _ = _; rw [Int.toNat_natCast, List.getD_eq_getElem?_getD, List.getElem?_eq_getElem hlt]; rfl
    rw [hrd] at hx5 hl5 hC5
    obtain ⟨b5, hb5⟩ : ∃ b5 : List Int, b5 = l1[i_] := ⟨_, rfl⟩
    rw [← hb5] at hx5 hl5 hC5
    have hdrop : l1.drop i_ = b5 :: l1.drop (i_ + 1) := by rw [List.drop_eq_getElem_cons hlt, hb5]
    have hs5 : t_.2.2.length + b5.length + ((l1.drop (i_ + 1)).map List.length).sum ≤ 1000000000 := by
     have := hsum_.out
     rw [hdrop, List.map_cons, List.sum_cons] at this
     omega
    rw [Int.toNat_natCast] at hx5
    have HF5 : Aside0 (Kd.F (Kd.int .u8) _ (fun k => k < g) A5 b5.length b5) := ⟨Kd.F_mono (Kd.F_step (Kd.C_F (Kd.heap_int .u8) hC5) (fun k hk_ _ => hB_.out.block k hk_)) (fun k hk_ => Nat.lt_of_lt_of_le hk_ GG.out)⟩
    have HL5 := Aside0.mk hl5
    have HBY5 := Aside0.mk (hb5 ▸ HBY.out l1[i_] (List.getElem_mem hlt) : ∀ x ∈ b5, 0 ≤ x ∧ x < 256)
    have HS5 := Aside0.mk hs5
    have HD5 := Aside0.mk hdrop
    have HLT := Aside0.mk hlt
    replace p5 := eq_true p5
    replace q5 := eq_true q5
    have hwr : wrap64 ((i_ : Int) + 1) = ((i_ + 1 : Nat) : Int) := by have := HLEN.out; unfold wrap64; omega
    clear hC5 hl5 hb5 hrd hdrop hs5 hlt
    go_wp2_with (first | ((with_reducible refine gate_callee (f := 29) rfl ?_); refine goesL_ (some 20) rfl rfl Try.func29 qK rfl #[.pointer (some ⟨g, 0, none⟩), .slice A5 b5.length c5] rfl qG ?_; (refine (read_all g g _ _ lv_ t_ A5 c5 b5 (fun k hk_ => .inr hk_) hS_.out hn_.out HF5.out HL5.out hok_.out (by have := HS5.out; omega) HBY5.out).mono ?_); rintro e w' ⟨rfl, lv6, hS6, hB6⟩; refine ⟨_, rfl, ?_⟩; have HS6 := Aside0.mk hS6; have HB6 := Aside0.mk (hB_.out.trans (hB6.mono GG.out)); have HBR6 := Aside0.mk ((hB6.block gbr GRG.out).trans hbr_.out); have HN6 := Aside0.mk (Nat.le_trans hn_.out hB6.size); clear hS6 hB6))
    go_roundg k2
    case measure => omega
    case rel =>
     refine ⟨i_ + 1, lv6, Go.Proofs.YtnmjnchbdlllmaaW.XW.fFold frame_Push.fin t_ b5, ?_, ⟨?_⟩, ⟨?_⟩, HS6, ⟨Go.Proofs.YtnmjnchbdlllmaaW.XW.fFold_ok _ _ hok_.out⟩, ⟨?_⟩, ⟨?_⟩, HBR6, HN6, HB6⟩
     ·first | rfl | (rw [← hwr]) | simp
     ·have := hk.out; have := HLT.out; omega
     ·have := HLT.out; omega
     ·have h1 := Go.Proofs.YtnmjnchbdlllmaaW.XW.fFold_len frame_Push.fin b5 t_
      have := HS5.out
      omega
     ·have h1 := hT_.out
      rw [HD5.out] at h1
      exact h1
   ·have hlti : decide ((i_ : Int) < (l1.length : Int)) = false := decide_eq_false (by omega)
    have hltn : decide (i_ < l1.length) = false := decide_eq_false hlt
    have hltp : (i_ < l1.length) = False := eq_false hlt
    have hie : i_ = l1.length := by have := hi_.out; omega
    have HTE : Aside0 (t_ = (r1, r2, r3)) := ⟨by have h1 := hT_.out; rw [hie, List.drop_length] at h1; exact h1⟩
    clear hlt hie
    obtain ⟨A6, c6, hbg, hv6, hr6, hgg6⟩ := hS_.out
    have BG6 := Aside0.mk hbg
    have HV6 := Aside0.mk hv6
    have HR6 := Aside0.mk hr6
    clear hbg hv6 hr6 hgg6
    go_wp2
    refine start_ (n := 10) (S := fun w' => w'.cell? ⟨g, 0, none⟩ = some (.slice A6 t_.1.length c6) ∧ w'.cell? ⟨g, 1, none⟩ = some (.bool t_.2.1) ∧ w'.cell? ⟨g, 2, none⟩ = some lv_) (ds := []) #[false, false, false, false, false, false, false, false, false, false] qK rfl rfl ⟨(blk_cell BG6.out 0).trans rfl, (blk_cell BG6.out 1).trans rfl, (blk_cell BG6.out 2).trans rfl⟩ (fun hHeld => ?_)
    have n0_ := Aside0.mk (blk_drew hbr_.out); have n1_ := Aside0.mk (Kd.V_drew HV6.out); have n2_ := Aside0.mk (Kd.R_drew HR6.out); have n3_ := Aside0.mk (below_drew1 hB_.out)
    generalize World.drew _ = w7 at n0_ n1_ n2_ n3_ hHeld ⊢
    refine pure_ (i := 0) (N := some 22) (v := ?_) (a' := ?_) #[true, false, false, false, false, false, false, false, false, false] rfl rfl qK (fun _ _ _ h => h) (Or.inl ⟨by rfl, ?_⟩) ?_ ?_
    rotate_left
    ·intro w'; go_simp; with_reducible rfl
    rotate_left
    ·simp only [Act.put, List.setIfInBounds_toArray, List.set_cons_zero, List.set_cons_succ, i64_w, i32_w]; rfl
    refine pure_ (i := 1) (N := some 23) (v := ?_) (a' := ?_) #[true, true, false, false, false, false, false, false, false, false] rfl rfl qK (fun _ _ _ h => h) (Or.inl ⟨by rfl, ?_⟩) ?_ ?_
    rotate_left
    ·intro w'; go_simp; with_reducible rfl
    rotate_left
    ·simp only [Act.put, List.setIfInBounds_toArray, List.set_cons_zero, List.set_cons_succ, i64_w, i32_w]; rfl
    refine pure_ (i := 2) (N := some 24) (v := ?_) (a' := ?_) #[true, true, true, false, false, false, false, false, false, false] rfl rfl qK (fun _ _ _ h => h) (Or.inl ⟨by rfl, ?_⟩) ?_ ?_
    rotate_left
    ·intro w'; go_simp; with_reducible rfl
    rotate_left
    ·simp only [Act.put, List.setIfInBounds_toArray, List.set_cons_zero, List.set_cons_succ, i64_w, i32_w]; rfl
    refine pure_ (i := 4) (N := some 26) (v := ?_) (a' := ?_) #[true, true, true, false, true, false, false, false, false, false] rfl rfl qK (fun _ _ _ h => h) (Or.inl ⟨by rfl, ?_⟩) ?_ ?_
    rotate_left
    ·intro w'; go_simp; with_reducible rfl
    rotate_left
    ·simp only [Act.put, List.setIfInBounds_toArray, List.set_cons_zero, List.set_cons_succ, i64_w, i32_w]; rfl
    refine pure_ (i := 5) (N := some 27) (v := ?_) (a' := ?_) #[true, true, true, false, true, true, false, false, false, false] rfl rfl qK (fun _ _ _ h => h) (Or.inl ⟨by rfl, ?_⟩) ?_ ?_
    rotate_left
    ·intro w'; go_simp; with_reducible rfl
    rotate_left
    ·simp only [Act.put, List.setIfInBounds_toArray, List.set_cons_zero, List.set_cons_succ, i64_w, i32_w]; rfl
    refine pure_ (i := 6) (N := some 28) (v := ?_) (a' := ?_) #[true, true, true, false, true, true, true, false, false, false] rfl rfl qK (fun _ _ _ h => h) (Or.inl ⟨by rfl, ?_⟩) ?_ ?_
    rotate_left
    ·intro w'; go_simp; with_reducible rfl
    rotate_left
    ·simp only [Act.put, List.setIfInBounds_toArray, List.set_cons_zero, List.set_cons_succ, i64_w, i32_w]; rfl
    refine take_ (i := 3) (N := some 25) (v := ?_) (a' := ?_) #[true, true, true, true, true, true, true, false, false, false] rfl rfl qK (fun _ _ _ h => h) (Or.inl ⟨by rfl, ?_⟩) hHeld ?_ ?_
    rotate_left
    ·rintro w' ⟨s0, s1, s2⟩; go_simp; with_reducible rfl
    rotate_left
    ·simp only [Act.put, List.setIfInBounds_toArray, List.set_cons_zero, List.set_cons_succ, i64_w, i32_w]; rfl
    refine take_ (i := 7) (N := some 29) (v := ?_) (a' := ?_) #[true, true, true, true, true, true, true, true, false, false] rfl rfl qK (fun _ _ _ h => h) (Or.inl ⟨by rfl, ?_⟩) hHeld ?_ ?_
    rotate_left
    ·rintro w' ⟨s0, s1, s2⟩; go_simp; with_reducible rfl
    rotate_left
    ·simp only [Act.put, List.setIfInBounds_toArray, List.set_cons_zero, List.set_cons_succ, i64_w, i32_w]; rfl
    refine one_ (i := 8) (N := none) #[true, true, true, true, true, true, true, true, true, false] rfl rfl qK (by decide) (fun K hK => ?_)
    have hs0 := (blk_cell n0_.out 0).trans rfl; have hs1 := (blk_cell n0_.out 1).trans rfl; have hfs0 := blk_frozen n0_.out 0; have hfs1 := blk_frozen n0_.out 1
    refine skip_ (w1 := (w7.setCell ⟨gbr, 0, none⟩ (.slice A6 t_.1.length c6)).setCell ⟨gbr, 1, none⟩ (.bool t_.2.1)) (by rfl) rfl (by first | (go_simp; done) | (go_simp; rfl)) ?_
    have hne : g ≠ gbr := (by have := GRG.out; omega)
    refine hK.out _ _ ⟨(cell_far (p := ⟨gbr, _, none⟩) hne _).trans ((cell_far (p := ⟨gbr, _, none⟩) hne _).trans hHeld.1), (cell_far (p := ⟨gbr, _, none⟩) hne _).trans ((cell_far (p := ⟨gbr, _, none⟩) hne _).trans hHeld.2.1), (cell_far (p := ⟨gbr, _, none⟩) hne _).trans ((cell_far (p := ⟨gbr, _, none⟩) hne _).trans hHeld.2.2)⟩ (fun hHeld => ?_)
    clear hK K
    refine pure_ (i := 9) (N := some 5) (v := ?_) (a' := ?_) #[true, true, true, true, true, true, true, true, true, true] rfl rfl qK (fun _ _ _ h => h) (Or.inl ⟨by rfl, ?_⟩) ?_ ?_
    rotate_left
    ·intro w'; go_simp; with_reducible rfl
    rotate_left
    ·simp only [Act.put, List.setIfInBounds_toArray, List.set_cons_zero, List.set_cons_succ, i64_w, i32_w]; rfl
    refine done_ qK ?_
    try go_wp2
    have hBR := blk_put (blk_put n0_.out 0 (.slice A6 t_.1.length c6) rfl) 1 (.bool t_.2.1) rfl
    refine bodyPost_ret (results_ct rfl _ _ gbr 38 #[.slice A6 t_.1.length c6, .bool t_.2.1] (0, 0) _ rfl hBR Try.underlying38 rfl qK) rfl ?_
    have hte := HTE.out; subst hte
    refine ⟨.slice A6 r1.length c6, lv_, rfl, ?_, ?_, (n3_.out.setCell GR.out _).setCell GR.out _⟩
    ·refine Kd.V_mono (Kd.V_far (p := ⟨gbr, 1, none⟩) (Kd.V_far (p := ⟨gbr, 0, none⟩) n1_.out (fun k hk => ?_) _) (fun k hk => ?_) _) (fun k hk => ⟨?_, hk.2.2⟩)
     ·have h1 := GR.out; have h2 := GRG.out; rcases hk.1 with h3 | h3 <;> (intro e_; change k = gbr at e_; omega)
     ·have h1 := GR.out; have h2 := GRG.out; rcases hk.1 with h3 | h3 <;> (intro e_; change k = gbr at e_; omega)
     ·rcases hk.1 with h3 | h3
      ·exact .inl h3.1
      ·exact .inr (Nat.le_trans GG.out h3)
    ·refine Kd.R_mono (Kd.R_lower (Kd.R_far (p := ⟨gbr, 1, none⟩) (Kd.R_far (p := ⟨gbr, 0, none⟩) n2_.out (fun k hk => ?_) _) (fun k hk => ?_) _) GG.out) (fun k hk => Nat.le_trans GG.out hk.1)
     ·have h2 := GRG.out; have h3 := hk.1; intro e_; change k = gbr at e_; omega
     ·have h2 := GRG.out; have h3 := hk.1; intro e_; change k = gbr at e_; omega

/-! ### lit_by_99_13: function 0 -/
def lit_by_99_13.f : Option (List Int) := some ([99, 13] : List Int)

/-! ### lit_by_10: function 0 -/
def lit_by_10.f : Option (List Int) := some ([10] : List Int)

/-! ### lit_by_120_10_10_121: function 0 -/
def lit_by_120_10_10_121.f : Option (List Int) := some ([120, 10, 10, 121] : List Int)

/-! ### frame_Lines: function 27 -/
def frame_Lines.f (l0 : List Int) : Option ((List (S54))) := (frame_Push.f ([] : List Int) false (([l0] : List (List Int)))).bind fun bt112 => (some bt112.2.2)
set_option maxHeartbeats 8000000 in
set_option maxRecDepth 100000 in
theorem frame_Lines.calls (P0_ : Nat → Prop) (A0 : Option Addr) (c0 : Nat) (l0 : List Int) (r : List (S54)) (w : World) (hs0 : Kd.V (Kd.int .u8) 5 w w.heap.size (fun k_ => P0_ k_) (.slice A0 l0.length c0) l0) (h : frame_Lines.f l0 = some r) :
  Calls Try.prog 27 #[.slice A0 l0.length c0] w fun e w' => ∃ v0_ : Value, e = .returned (v0_) ∧ Kd.R k54 54 w' w.heap.size (fun k_ => (w.heap.size ≤ k_)) v0_ r ∧ Below w.heap.size w w' := by
 have hu38 := Try.underlying38
 have HO0 := Aside0.mk (show Kd.V (Kd.int .u8) 5 w w.heap.size (fun k_ => (P0_ k_ ∨ w.heap.size ≤ k_)) (.slice A0 l0.length c0) l0 from Kd.V_mono hs0 (fun k_ hk => .inl hk))
 have HB := Aside0.mk (Below.refl w.heap.size w)
 have H : ((frame_Push.f ([] : List Int) false (([l0] : List (List Int)))).bind fun bt112 => (some bt112.2.2)) = some r := h
 clear h
 obtain ⟨y109, hy109⟩ : ∃ y_ : List (List Int), y_ = (([l0] : List (List Int))) := ⟨_, rfl⟩
 replace H : ((frame_Push.f ([] : List Int) false y109).bind fun bt112 => (some bt112.2.2)) = some r := by first | (rw [hy109]; with_reducible exact H) | (have H2_ := (Option.bind_some _ _).symm.trans H; rw [hy109]; with_reducible exact H2_) | (have H2_ := (Option.bind_some _ _).symm.trans H; with_reducible exact H2_) | with_reducible exact H | (rw [hy109]; exact H) | exact H
 have Ny109 := Aside0.mk hy109
 clear hy109
 replace H := Option.bind_eq_some_iff.mp H
 obtain ⟨⟨t112, t115, t116⟩, A20, H⟩ := H
 replace H : (some t116) = some r := H
 have A2 := Aside0.mk A20
 clear A20
 obtain rfl := Option.some.inj H
 go_enter Try.func27, Try.ntmps27
 go_wp2_with (first | ((with_reducible refine gate_dst (N := 8) rfl ?_); refine Kd.N_lit (Kd.slice 5 (Kd.int .u8)) _ 35 ?hg (N' := 8) ?hd (xs := ([l0] : List (List Int))) (inner := [.slice A0 l0.length c0]) (ok := (fun k_ => (P0_ k_ ∨ w.heap.size ≤ k_))) (okp := (fun k_ => (P0_ k_ ∨ w.heap.size ≤ k_))) ?hr ?hp (fun _ hk => hk) ((show ∀ k_, w.heap.size ≤ k_ → (fun k_ => (P0_ k_ ∨ w.heap.size ≤ k_)) k_ from fun k_ hk => (.inr (Nat.le_trans (below_size qB) hk))) _ (Nat.le_refl _)) (Below.refl _ _) (Nat.le_refl _) (by simp) ?_; (case hd => rfl); (case hg => rfl); (case hr => first | (go_simp; done) | (go_simp; rfl)); (case hp => exact (Reps.one (show Kd.FK (Kd.slice 5 (Kd.int .u8)) _ _ l0 [.slice A0 l0.length c0] from (Kd.FK_slice_mk (Kd.V_reads' (Kd.V_mono (ok' := (fun k_ => (P0_ k_ ∨ w.heap.size ≤ k_))) (HO0.out) (fun k_ hk => hk))).2.1 (Kd.V_F (Kd.V_mono (ok' := (fun k_ => (P0_ k_ ∨ w.heap.size ≤ k_))) (HO0.out) (fun k_ hk => hk))))) (Reps.none _ _))); intro v110 w3 ho4 hb hg_ hnew_; clear hg_ hnew_; (first | rw [← Ny109.out] at ho4 | (simp only [Int.reduceToNat] at ho4; rw [← Ny109.out] at ho4)); have n0_ := Aside0.mk (Kd.V_elder' (by (with_reducible repeat (first | apply Kd.V_alloc | apply Kd.V_drewN | apply Kd.V_drew)); exact HO0.out) (Kd.N_base ho4) hb); have n1_ := Aside0.mk (Kd.N_lower ho4 (below_size qB)); have n2_ := Aside0.mk (below_step qB hb); clear HO0; clear HB; have HO0 := n0_; have HO111 := n1_; have HB := n2_; clear n0_ n1_ n2_; clear hb ho4; obtain ⟨Ao5, co5, eo5⟩ := Kd.N_slice HO111.out; subst eo5) | ((with_reducible refine gate_callee (f := 22) rfl ?_); refine goesL_ (some 9) rfl rfl Try.func22 qK rfl #[.agg #[.slice none 0 0, .bool false], .slice Ao5 y109.length co5] rfl qG ?_; (refine (frame_Push.calls (fun k_ => False) _ _ ([] : List Int) false _ _ y109 t112 t115 t116 _ ?side1 ?side2 ?side3 A2.out).mono ?_); (case side1 => exact Kd.V_nil _ _ _ _ _); (case side2 => repeat (first | exact (Kd.N_reads' HO111.out).2.2 | (with_reducible refine Kd.C_alloc ?_ _) | (with_reducible refine Kd.C_drewN ?_ _) | (with_reducible refine Kd.C_drew ?_))); (case side3 => exact (Kd.N_reads' HO111.out).2.1); rintro e w6 ⟨v113, v117, rfl, ho0, ho1, hb⟩; refine ⟨_, rfl, ?_⟩; have n0_ := Aside0.mk (Kd.V_elder' (by (with_reducible repeat (first | apply Kd.V_alloc | apply Kd.V_drewN | apply Kd.V_drew)); exact HO0.out) (Kd.R_base ho1) hb); have n1_ := Aside0.mk (Kd.N_elder' (by (with_reducible repeat (first | apply Kd.N_alloc | apply Kd.N_drewN | apply Kd.N_drew)); exact HO111.out) (Kd.R_base ho1) hb); have n2_ := Aside0.mk (Kd.V_lower (Kd.V_mono (ok' := fun k_ => (P0_ k_ ∨ w.heap.size ≤ k_) ∧ some k_ ≠ (v117 : Value).ownBlock ∧ some k_ ≠ (.slice Ao5 y109.length co5 : Value).ownBlock) ho0 (fun k_ hk_ => ⟨Or.elim hk_.1 (fun hs_ => (hs_).elim) (fun hn_ => (.inr (Nat.le_trans (below_size qB) hn_))), hk_.2, Or.elim hk_.1 (fun hs_ => (hs_).elim) (fun hn_ => (Kd.fresh' (Kd.N_lt (by (with_reducible repeat (first | apply Kd.N_alloc | apply Kd.N_drewN | apply Kd.N_drew)); exact HO111.out)) k_ hn_))⟩)) (below_size qB)); have n3_ := Aside0.mk (Kd.R_lower (Kd.R_newM (M := fun k_ => (w.heap.size ≤ k_)) (Kd.R_mono (ok' := fun k_ => True) ho1 (fun _ hk_ => trivial)) (below_size qB) (fun k_ h_ => h_)) (below_size qB)); have n4_ := Aside0.mk (below_step qB hb); clear HO0; clear HO111; clear HB; have HO0 := n0_; have HO111 := n1_; have HO114 := n2_; have HO118 := n3_; have HB := n4_; clear n0_ n1_ n2_ n3_ n4_; (try clear hb); (try clear hb2); (try clear hk); (try clear hi); (try clear ho0); (try clear ho1)) | ((with_reducible refine gate_dst (N := 3) rfl ?_); refine box_event ?hg (N := 3) ?hd (cs := #[.slice none 0 0, .bool false]) (t := 38) ?hr ?_; (case hd => rfl); (case hg => rfl); (case hr => first | (go_simp; done) | (go_simp; rfl)); intro gb119 hg w7 hbox hb; have n0_ := Aside0.mk (Kd.V_below (Kd.V_elderB (by (with_reducible repeat (first | apply Kd.V_alloc | apply Kd.V_drewN | apply Kd.V_drew)); exact HO0.out) gb119 (Nat.le_of_eq hg.symm)) hb); have n1_ := Aside0.mk (Kd.N_below (Kd.N_elderB (by (with_reducible repeat (first | apply Kd.N_alloc | apply Kd.N_drewN | apply Kd.N_drew)); exact HO111.out) gb119 (Nat.le_of_eq hg.symm)) hb); have n2_ := Aside0.mk (Kd.V_below (Kd.V_elderB (by (with_reducible repeat (first | apply Kd.V_alloc | apply Kd.V_drewN | apply Kd.V_drew)); exact HO114.out) gb119 (Nat.le_of_eq hg.symm)) hb); have n3_ := Aside0.mk (Kd.R_below (qR HO118) hb); have n4_ := Aside0.mk (below_step qB hb); have n5_ := Aside0.mk (hbox); have n6_ := Aside0.mk ((by rw [hg]; exact (below_size qB) : w.heap.size ≤ gb119)); have n7_ := Aside0.mk ((by rw [hg]; exact (below_size qB) : w.heap.size ≤ gb119)); clear HO0; clear HO111; clear HO114; clear HO118; clear HB; have HO0 := n0_; have HO111 := n1_; have HO114 := n2_; have HO118 := n3_; have HB := n4_; have BK119 := n5_; have GW119 := n6_; have GE119 := n7_; clear n0_ n1_ n2_ n3_ n4_ n5_ n6_ n7_; clear hb hbox hg; obtain ⟨Ao8, co8, eo8⟩ := Kd.V_slice HO114.out; subst eo8; have hcz9_0 : w7.cell? ⟨gb119, 0, none⟩ = some (.slice none 0 0) := (blk_cell BK119.out 0).trans rfl; have hcz9_1 : w7.cell? ⟨gb119, 1, none⟩ = some (.bool false) := (blk_cell BK119.out 1).trans rfl; have hfz9_0 := blk_frozen BK119.out 0; have hfz9_1 := blk_frozen BK119.out 1))
 go_ret
 exact ⟨_, qE, by (with_reducible repeat (first | apply Kd.R_alloc | apply Kd.R_drewN | apply Kd.R_drew)); exact Kd.R_mono (Kd.R_far (p := ⟨gb119, 1, none⟩) (Kd.R_far (p := ⟨gb119, 0, none⟩) (Kd.R_types HO118.out BK119.out (by decide)) (fun _ hk => hk.2) (.slice Ao8 t112.length co8)) (fun _ hk => hk.2) (.bool t115)) (fun _ hk => hk.1.1), qC⟩

/-! ### bytes_Equal: function 31 -/
def bytes_Equal.f (l0 : List Int) (l1 : List Int) : Option (Bool) := some ((strOfNums l0).toList == (strOfNums l1).toList)
set_option maxHeartbeats 8000000 in
set_option maxRecDepth 100000 in
theorem bytes_Equal.calls (A0 : Option Addr) (c0 : Nat) (l0 : List Int) (A1 : Option Addr) (c1 : Nat) (l1 : List Int) (r : Bool) (w : World) (hr0 : Kd.C (Kd.int .u8) w A0 l0.length l0) (hc0 : l0.length ≤ c0) (hr1 : Kd.C (Kd.int .u8) w A1 l1.length l1) (hc1 : l1.length ≤ c1) (h : bytes_Equal.f l0 l1 = some r) :
  Calls Try.prog 31 #[.slice A0 l0.length c0, .slice A1 l1.length c1] w fun e w' => e = .returned (.bool r) ∧ Drawn0 w w' := by
 have HR0 := Aside0.mk hr0
 have HC0 := Aside0.mk hc0
 clear hr0 hc0
 have HR1 := Aside0.mk hr1
 have HC1 := Aside0.mk hc1
 clear hr1 hc1
 have H : (some ((strOfNums l0).toList == (strOfNums l1).toList)) = some r := h
 clear h
 obtain rfl := Option.some.inj H
 have hcv3 := Kd.C_string (P := Try.prog) (A := A0) (c := c0) Try.underlying35 Try.underlying5 Try.underlying9 HR0.out
 have hcv4 := Kd.C_string (P := Try.prog) (A := A1) (c := c1) Try.underlying35 Try.underlying5 Try.underlying9 HR1.out
 go_enter Try.func31, Try.ntmps31
 go_wp2
 go_ret
 exact ⟨qS, qD⟩

/-! ### frame_Same: function 26 -/
def frame_Same.f (l0_0 : List Int) (a0_1 : Bool) (l1_0 : List Int) (a1_1 : Bool) : Option (Bool) := if (a0_1 == a1_1) = true then ((bytes_Equal.f l0_0 l1_0).bind fun t122 => (some t122)) else (some false)
set_option maxHeartbeats 8000000 in
set_option maxRecDepth 100000 in
theorem frame_Same.calls (A0_0 : Option Addr) (c0_0 : Nat) (l0_0 : List Int) (a0_1 : Bool) (A1_0 : Option Addr) (c1_0 : Nat) (l1_0 : List Int) (a1_1 : Bool) (r : Bool) (w : World) (hr0_0 : Kd.C (Kd.int .u8) w A0_0 l0_0.length l0_0) (hc0_0 : l0_0.length ≤ c0_0) (hr1_0 : Kd.C (Kd.int .u8) w A1_0 l1_0.length l1_0) (hc1_0 : l1_0.length ≤ c1_0) (h : frame_Same.f l0_0 a0_1 l1_0 a1_1 = some r) :
  Calls Try.prog 26 #[.agg #[.slice A0_0 l0_0.length c0_0, .bool a0_1], .agg #[.slice A1_0 l1_0.length c1_0, .bool a1_1]] w fun e w' => e = .returned (.bool r) ∧ Below w.heap.size w w' := by
 have hu38 := Try.underlying38
 have HR0_0 := Aside0.mk hr0_0
 have HC0_0 := Aside0.mk hc0_0
 clear hr0_0 hc0_0
 have HR1_0 := Aside0.mk hr1_0
 have HC1_0 := Aside0.mk hc1_0
 clear hr1_0 hc1_0
 have HB := Aside0.mk (Below.refl w.heap.size w)
 have H : (if (a0_1 == a1_1) = true then ((bytes_Equal.f l0_0 l1_0).bind fun t122 => (some t122)) else (some false)) = some r := h
 clear h
 by_cases c3 : (a0_1 == a1_1) = true
 ·rw [if_pos c3] at H
  have c3b0 : (a0_1 == a1_1) = true := c3
  (try (have c3b1 : decide (a0_1 = a1_1) = true := by simpa using c3))
  (try (have c3b2 : (a0_1 == a1_1) = true := by simpa using c3))
  clear c3
  replace H := Option.bind_eq_some_iff.mp H
  obtain ⟨t122, A40, H⟩ := H
  replace H : (some t122) = some r := H
  have A4 := Aside0.mk A40
  clear A40
  obtain rfl := Option.some.inj H
  go_enter Try.func26, Try.ntmps26
  go_wp2_with (first | ((with_reducible refine gate_dst (N := 2) rfl ?_); refine box_event ?hg (N := 2) ?hd (cs := #[.slice A0_0 l0_0.length c0_0, .bool a0_1]) (t := 38) ?hr ?_; (case hd => rfl); (case hg => rfl); (case hr => first | (go_simp; done) | (go_simp; rfl)); intro gb120 hg w5 hbox hb; have n0_ := Aside0.mk (below_step qB hb); have n1_ := Aside0.mk (hbox); have n2_ := Aside0.mk ((by rw [hg]; exact (below_size qB) : w.heap.size ≤ gb120)); have n3_ := Aside0.mk ((by rw [hg]; exact (below_size qB) : w.heap.size ≤ gb120)); clear HB; have HB := n0_; have BK120 := n1_; have GW120 := n2_; have GE120 := n3_; clear n0_ n1_ n2_ n3_; clear hb hbox hg) | ((with_reducible refine gate_dst (N := 3) rfl ?_); refine box_event ?hg (N := 3) ?hd (cs := #[.slice A1_0 l1_0.length c1_0, .bool a1_1]) (t := 38) ?hr ?_; (case hd => rfl); (case hg => rfl); (case hr => first | (go_simp; done) | (go_simp; rfl)); intro gb121 hg w6 hbox hb; have n0_ := Aside0.mk (blk_below (g := gb120) (o := .cells #[.slice A0_0 l0_0.length c0_0, .bool a0_1] 38 (0, 0)) (qW BK120) hb); have n1_ := Aside0.mk (below_step qC hb); have n2_ := Aside0.mk (hbox); have n3_ := Aside0.mk ((by rw [hg]; exact (below_size qC) : w.heap.size ≤ gb121)); have n4_ := Aside0.mk ((by rw [hg]; exact (below_size qC) : w.heap.size ≤ gb121)); have n5_ := Aside0.mk ((by rw [hg]; exact Nat.ne_of_lt (blk_lt (g := gb120) (o := .cells #[.slice A0_0 l0_0.length c0_0, .bool a0_1] 38 (0, 0)) (qW BK120)) : gb120 ≠ gb121)); have n6_ := Aside0.mk ((by rw [hg]; exact Nat.ne_of_gt (blk_lt (g := gb120) (o := .cells #[.slice A0_0 l0_0.length c0_0, .bool a0_1] 38 (0, 0)) (qW BK120)) : gb121 ≠ gb120)); clear BK120; clear HB; have BK120 := n0_; have HB := n1_; have BK121 := n2_; have GW121 := n3_; have GE121 := n4_; have NB120_121 := n5_; have NB121_120 := n6_; clear n0_ n1_ n2_ n3_ n4_ n5_ n6_; clear hb hbox hg; have hnb7 := NB120_121.out; have hnc7 := NB121_120.out; have hcz8_0 : w6.cell? ⟨gb120, 0, none⟩ = some (.slice A0_0 l0_0.length c0_0) := (blk_cell BK120.out 0).trans rfl; have hcz8_1 : w6.cell? ⟨gb120, 1, none⟩ = some (.bool a0_1) := (blk_cell BK120.out 1).trans rfl; have hfz8_0 := blk_frozen BK120.out 0; have hfz8_1 := blk_frozen BK120.out 1; have hcz9_0 : w6.cell? ⟨gb121, 0, none⟩ = some (.slice A1_0 l1_0.length c1_0) := (blk_cell BK121.out 0).trans rfl; have hcz9_1 : w6.cell? ⟨gb121, 1, none⟩ = some (.bool a1_1) := (blk_cell BK121.out 1).trans rfl; have hfz9_0 := blk_frozen BK121.out 0; have hfz9_1 := blk_frozen BK121.out 1) | (go_at_call 31; (with_reducible refine (bytes_Equal.calls _ _ l0_0 _ _ l1_0 t122 _ ?side1 ?side2 ?side3 ?side4 A4.out).mono ?_); (case side1 => repeat (first | exact (Kd.C_below HR0_0.out HB.out) | (with_reducible refine Kd.C_alloc ?_ _) | (with_reducible refine Kd.C_drewN ?_ _) | (with_reducible refine Kd.C_drew ?_))); (case side2 => exact HC0_0.out); (case side3 => repeat (first | exact (Kd.C_below HR1_0.out HB.out) | (with_reducible refine Kd.C_alloc ?_ _) | (with_reducible refine Kd.C_drewN ?_ _) | (with_reducible refine Kd.C_drew ?_))); (case side4 => exact HC1_0.out); rintro e w' ⟨rfl, ⟨nd, rfl⟩⟩))
  go_ret
  exact ⟨qE, qC⟩
 ·rw [if_neg c3] at H
  have c3b0 : (a0_1 == a1_1) = false := by simpa using c3
  (try (have c3b1 : decide (a0_1 = a1_1) = false := by simpa using c3))
  (try (have c3b2 : (a0_1 == a1_1) = false := by simpa using c3))
  (try (have c3b3 : ¬ (a0_1 = a1_1) := by simpa using c3))
  clear c3
  obtain rfl := Option.some.inj H
  go_enter Try.func26, Try.ntmps26
  go_wp2_with (first | ((with_reducible refine gate_dst (N := 2) rfl ?_); refine box_event ?hg (N := 2) ?hd (cs := #[.slice A0_0 l0_0.length c0_0, .bool a0_1]) (t := 38) ?hr ?_; (case hd => rfl); (case hg => rfl); (case hr => first | (go_simp; done) | (go_simp; rfl)); intro gb120 hg w10 hbox hb; have n0_ := Aside0.mk (below_step qB hb); have n1_ := Aside0.mk (hbox); have n2_ := Aside0.mk ((by rw [hg]; exact (below_size qB) : w.heap.size ≤ gb120)); have n3_ := Aside0.mk ((by rw [hg]; exact (below_size qB) : w.heap.size ≤ gb120)); clear HB; have HB := n0_; have BK120 := n1_; have GW120 := n2_; have GE120 := n3_; clear n0_ n1_ n2_ n3_; clear hb hbox hg) | ((with_reducible refine gate_dst (N := 3) rfl ?_); refine box_event ?hg (N := 3) ?hd (cs := #[.slice A1_0 l1_0.length c1_0, .bool a1_1]) (t := 38) ?hr ?_; (case hd => rfl); (case hg => rfl); (case hr => first | (go_simp; done) | (go_simp; rfl)); intro gb121 hg w11 hbox hb; have n0_ := Aside0.mk (blk_below (g := gb120) (o := .cells #[.slice A0_0 l0_0.length c0_0, .bool a0_1] 38 (0, 0)) (qW BK120) hb); have n1_ := Aside0.mk (below_step qC hb); have n2_ := Aside0.mk (hbox); have n3_ := Aside0.mk ((by rw [hg]; exact (below_size qC) : w.heap.size ≤ gb121)); have n4_ := Aside0.mk ((by rw [hg]; exact (below_size qC) : w.heap.size ≤ gb121)); have n5_ := Aside0.mk ((by rw [hg]; exact Nat.ne_of_lt (blk_lt (g := gb120) (o := .cells #[.slice A0_0 l0_0.length c0_0, .bool a0_1] 38 (0, 0)) (qW BK120)) : gb120 ≠ gb121)); have n6_ := Aside0.mk ((by rw [hg]; exact Nat.ne_of_gt (blk_lt (g := gb120) (o := .cells #[.slice A0_0 l0_0.length c0_0, .bool a0_1] 38 (0, 0)) (qW BK120)) : gb121 ≠ gb120)); clear BK120; clear HB; have BK120 := n0_; have HB := n1_; have BK121 := n2_; have GW121 := n3_; have GE121 := n4_; have NB120_121 := n5_; have NB121_120 := n6_; clear n0_ n1_ n2_ n3_ n4_ n5_ n6_; clear hb hbox hg; have hnb12 := NB120_121.out; have hnc12 := NB121_120.out; have hcz13_0 : w11.cell? ⟨gb120, 0, none⟩ = some (.slice A0_0 l0_0.length c0_0) := (blk_cell BK120.out 0).trans rfl; have hcz13_1 : w11.cell? ⟨gb120, 1, none⟩ = some (.bool a0_1) := (blk_cell BK120.out 1).trans rfl; have hfz13_0 := blk_frozen BK120.out 0; have hfz13_1 := blk_frozen BK120.out 1; have hcz14_0 : w11.cell? ⟨gb121, 0, none⟩ = some (.slice A1_0 l1_0.length c1_0) := (blk_cell BK121.out 0).trans rfl; have hcz14_1 : w11.cell? ⟨gb121, 1, none⟩ = some (.bool a1_1) := (blk_cell BK121.out 1).trans rfl; have hfz14_0 := blk_frozen BK121.out 0; have hfz14_1 := blk_frozen BK121.out 1))
  go_ret
  exact ⟨qE, qC⟩

end Go.Proofs.Ytnmjnchbdlllmaa.PFr
