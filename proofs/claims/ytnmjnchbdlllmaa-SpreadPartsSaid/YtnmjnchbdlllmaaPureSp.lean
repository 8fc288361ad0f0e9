/- Plain laws of the shard's hash: the program's hash, shard and parts and the document's are the same folds over a text's bytes; of texts that fit in memory. -/
import Derived.Test.YtnmjnchbdlllmaaPSpx
namespace Go.Proofs.Ytnmjnchbdlllmaa.Pure
set_option linter.unusedVariables false
set_option linter.unusedSimpArgs false
open Go.RowKit Go.Proofs.Ytnmjnchbdlllmaa.PSp Go.Proofs.YtnmjnchbdlllmaaW.PrintWords Go.Proofs.YtnmjnchbdlllmaaW.PrintLast Go.Proofs.YtnmjnchbdlllmaaW.PrintMore

/-- A byte of a text, as a natural number. -/
def btn (s : ByteArray) (j : Nat) : Nat := (bt s j).toNat
theorem btn_lt (s : ByteArray) (j : Nat) : btn s j < 256 := by
  have := bt_range s j
  unfold btn; omega
theorem bt_btn (s : ByteArray) (j : Nat) : bt s (j : Int) = (btn s j : Int) := by
  have := bt_range s j
  unfold btn; omega
theorem wrap64_in {x : Int} (h0 : 0 ≤ x) (h1 : x ≤ 9223372036854775807) : wrap64 x = x := by unfold wrap64; omega
def stepH (h c : Nat) : Nat := ((h ^^^ c) * 16777619) % 4294967296
theorem stepH_lt (h c : Nat) : stepH h c < 4294967296 := Nat.mod_lt _ (by decide)
def hashFrom (s : ByteArray) : Nat → Nat → Nat → Nat
  | h, _, 0 => h
  | h, i, d + 1 => hashFrom s (stepH h (btn s i)) (i + 1) d
def hsh (s : ByteArray) : Nat := hashFrom s 2166136261 0 s.size
theorem hashFrom_lt (s : ByteArray) : ∀ d h i, h < 4294967296 → hashFrom s h i d < 4294967296
  | 0, _, _, hh => hh
  | d + 1, h, i, _ => hashFrom_lt s d _ _ (stepH_lt _ _)
theorem hsh_lt (s : ByteArray) : hsh s < 4294967296 := hashFrom_lt s _ _ _ (by decide)
theorem xor_lt (h c : Nat) (hh : h < 4294967296) (hc : c < 256) : h ^^^ c < 4294967296 := Nat.xor_lt_two_pow (n := 32) hh (by omega)
theorem bits_xor_u32 (a b : Nat) (ha : a < 4294967296) (hb : b < 4294967296) : Go.bits .xor .u32 (a : Int) (b : Int) = ((a ^^^ b : Nat) : Int) := by
  have hx : a ^^^ b < 2 ^ 32 := Nat.xor_lt_two_pow (by omega) (by omega)
  have h1 : (BitVec.ofInt 32 (a : Int)).toNat = a := by
    rw [BitVec.ofInt_natCast, BitVec.toNat_ofNat]; exact Nat.mod_eq_of_lt (by omega)
  have h2 : (BitVec.ofInt 32 (b : Int)).toNat = b := by
    rw [BitVec.ofInt_natCast, BitVec.toNat_ofNat]; exact Nat.mod_eq_of_lt (by omega)
  show IntKind.u32.wrap ((BitVec.ofInt 32 (a : Int) ^^^ BitVec.ofInt 32 (b : Int)).toNat : Int) = _
  rw [BitVec.toNat_xor, h1, h2, IntKind.wrap_u32]
  omega
theorem u64_wrap (n : Int) : IntKind.u64.wrap n = n % 18446744073709551616 := by simp [IntKind.wrap, IntKind.bits, IntKind.signed]
theorem bits_xor_u64 (a b : Nat) (ha : a < 4294967296) (hb : b < 4294967296) : Go.bits .xor .u64 (a : Int) (b : Int) = ((a ^^^ b : Nat) : Int) := by
  have hx : a ^^^ b < 2 ^ 32 := Nat.xor_lt_two_pow (by omega) (by omega)
  have h1 : (BitVec.ofInt 64 (a : Int)).toNat = a := by
    rw [BitVec.ofInt_natCast, BitVec.toNat_ofNat]; exact Nat.mod_eq_of_lt (by omega)
  have h2 : (BitVec.ofInt 64 (b : Int)).toNat = b := by
    rw [BitVec.ofInt_natCast, BitVec.toNat_ofNat]; exact Nat.mod_eq_of_lt (by omega)
  show IntKind.u64.wrap ((BitVec.ofInt 64 (a : Int) ^^^ BitVec.ofInt 64 (b : Int)).toNat : Int) = _
  rw [BitVec.toNat_xor, h1, h2, u64_wrap]
  omega
/-- One byte, as the program has it. -/
theorem step32 (h c : Nat) (hh : h < 4294967296) (hc : c < 256) : ((Go.bits .xor .u32 (h : Int) ((c : Int) % 4294967296)) * 16777619) % 4294967296 = (stepH h c : Int) := by
  rw [show (c : Int) % 4294967296 = (c : Int) by omega, bits_xor_u32 h c hh (by omega)]
  unfold stepH; omega
/-- One byte, as the document has it. -/
theorem step64 (h c : Nat) (hh : h < 4294967296) (hc : c < 256) : Int.tmod (IntKind.u64.wrap ((Go.bits .xor .u64 (h : Int) (IntKind.u64.wrap (c : Int))) * 16777619)) 4294967296 = (stepH h c : Int) := by
  have hx := xor_lt h c hh hc
  rw [u64_wrap (c : Int), show (c : Int) % 18446744073709551616 = (c : Int) by omega, bits_xor_u64 h c hh (by omega), u64_wrap]
  rw [Int.emod_eq_of_lt (by omega) (by omega), Int.tmod_eq_emod_of_nonneg (by omega)]
  unfold stepH; omega
theorem hash_loop (s : ByteArray) (hs : s.size ≤ 140737488355328) : ∀ (d i h : Nat), h < 4294967296 → i + d = s.size →
    Ev (fun k => spread_Hash.l0 k s (h : Int) (s.size : Int) (i : Int)) (hashFrom s h i d : Int)
  | 0, i, h, _, hd => by
    refine Ev.step (f := fun _ => some (h : Int)) (fun k => ?_) (Ev.now _)
    simp only [spread_Hash.l0]; rw [if_neg (by omega)]
  | d + 1, i, h, hh, hd => by
    refine Ev.step (f := fun k => spread_Hash.l0 k s ((stepH h (btn s i) : Nat) : Int) (s.size : Int) ((i + 1 : Nat) : Int)) (fun k => ?_) (hash_loop s hs d (i + 1) _ (stepH_lt _ _) (by omega))
    simp only [spread_Hash.l0]; rw [if_pos (by omega), if_pos (by omega), if_pos (by omega), bt_btn, step32 h _ hh (btn_lt s i), wrap64_in (by omega) (by omega)]
    rfl
theorem hash_ev (s : ByteArray) (hs : s.size ≤ 140737488355328) : Ev (fun k => spread_Hash.f k s) (hsh s : Int) :=
  hash_loop s hs s.size 0 2166136261 (by decide) (by omega)
theorem rhash_loop (s : ByteArray) (hs : s.size ≤ 140737488355328) : ∀ (d i h : Nat), h < 4294967296 → i + d = s.size →
    Ev (fun k => ebbtideref12_Hash.l0 k s (h : Int) (i : Int)) (hashFrom s h i d : Int)
  | 0, i, h, hh, hd => by
    refine Ev.step (f := fun _ => some (h : Int)) (fun k => ?_) (Ev.now _)
    simp only [ebbtideref12_Hash.l0]; rw [if_neg (by omega), show (h : Int) % 4294967296 = h by omega]
  | d + 1, i, h, hh, hd => by
    refine Ev.step (f := fun k => ebbtideref12_Hash.l0 k s ((stepH h (btn s i) : Nat) : Int) ((i + 1 : Nat) : Int)) (fun k => ?_) (rhash_loop s hs d (i + 1) _ (stepH_lt _ _) (by omega))
    simp only [ebbtideref12_Hash.l0]; rw [if_pos (by omega), if_pos (by omega), bt_btn, step64 h _ hh (btn_lt s i), wrap64_in (by omega) (by omega)]
    rfl
theorem rhash_ev (s : ByteArray) (hs : s.size ≤ 140737488355328) : Ev (fun k => ebbtideref12_Hash.f k s) (hsh s : Int) :=
  rhash_loop s hs s.size 0 2166136261 (by decide) (by omega)
/-- A text's shard. -/
def shd (s : ByteArray) (n : Int) : Nat := if 1 ≤ n ∧ n ≤ 4 then hsh s % n.toNat else 0
theorem shd_lt (s : ByteArray) (n : Int) : shd s n < 4 := by
  unfold shd
  split
  · have := Nat.mod_lt (hsh s) (y := n.toNat) (by omega); omega
  · omega
theorem right_eq (n : Int) : spread_right.f n = some (decide (1 ≤ n ∧ n ≤ 4)) := by
  unfold spread_right.f
  by_cases h : n ≥ 1
  · rw [if_pos h]; by_cases h4 : n ≤ 4 <;> simp [h, h4]
  · rw [if_neg h]; simp; omega
theorem tmod_cases (h : Nat) (hh : h < 4294967296) (n : Int) (h1 : 1 ≤ n) (h4 : n ≤ 4) : Int.tmod (h : Int) n = ((h % n.toNat : Nat) : Int) := by
  rw [Int.tmod_eq_emod_of_nonneg (by omega)]
  rcases (by omega : n = 1 ∨ n = 2 ∨ n = 3 ∨ n = 4) with rfl | rfl | rfl | rfl <;> simp <;> omega
theorem Ev.const {α : Type} {o : Option α} {r : α} (h : o = some r) : Ev (fun _ => o) r := ⟨0, fun _ _ => h⟩
theorem of_ev (s : ByteArray) (hs : s.size ≤ 140737488355328) (n : Int) : Ev (fun k => spread_Of.f k s n) (shd s n : Int) := by
  have hl := hsh_lt s
  unfold spread_Of.f
  rw [right_eq]
  simp only [Option.bind_some]
  by_cases h : 1 ≤ n ∧ n ≤ 4
  · simp only [h, decide_true, if_true]
    refine Ev.bind (hash_ev s hs) (Ev.const ?_)
    rw [show n % 4294967296 = n by omega, if_neg (by omega), tmod_cases _ hl n h.1 h.2]
    unfold shd; rw [if_pos h, wrap64_in (by omega) (by have := Nat.mod_le (hsh s) n.toNat; omega)]
  · simp only [h, decide_false]
    refine Ev.const ?_
    simp [shd, h]
theorem rof_ev (s : ByteArray) (hs : s.size ≤ 140737488355328) (n : Int) : Ev (fun k => ebbtideref12_Of.f k s n) (shd s n : Int) := by
  have hl := hsh_lt s
  unfold ebbtideref12_Of.f
  by_cases h1 : n < 1
  · simp only [h1, if_true]
    refine Ev.const ?_
    unfold shd; rw [if_neg (by omega)]; rfl
  by_cases h2 : n > 4
  · simp only [h1, h2, if_false, if_true]
    refine Ev.const ?_
    unfold shd; rw [if_neg (by omega)]; rfl
  simp only [h1, h2, if_false]
  refine Ev.bind (rhash_ev s hs) (Ev.const ?_)
  rw [if_neg (by omega), wrap64_in (by omega) (by omega), tmod_cases _ hl n (by omega) (by omega)]
  unfold shd; rw [if_pos (by omega)]
theorem alive_ev : Ev (fun k => ebbtidelaw12_alive.f k) true := Ev.of (fun k => ebbtidelaw12_alive.mono k) (k := 12) (by kernel_rfl)
end Go.Proofs.Ytnmjnchbdlllmaa.Pure
