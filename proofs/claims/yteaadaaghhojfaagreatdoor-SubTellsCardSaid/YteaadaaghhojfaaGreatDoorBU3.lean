/- A part of the proof: GT, Shelf, GE1, GE2, GE3, GE4, GL. No condition. -/
import Derived.Test.YteaadaaghhojfaaGreatDoorBU2
import Derived.Lib.Bytealg
import Derived.Sort.Statements
import Derived.Shelf.SlSortCmp.InsertionK
import Derived.Shelf.Strings.Builder1
import Derived.Shelf.Strings.Builder2
import Derived.Shelf.Strings.OnBuilder
import Derived.Shelf.Strings.Trim
import Derived.Shelf.Small.Utf8
import Derived.Shelf.Small.Bits
import Derived.Shelf.Small.Strs
import Derived.Shelf.Strconv.Itoa0
import Derived.Shelf.Strings.Search1
import Derived.Shelf.Strings.Search2
import Derived.Shelf.Strings.Cut
import Derived.Shelf.LaysM
import Derived.Shelf.Strings.Shaped
import Derived.Shelf.Strings.Runes
import Derived.Shelf.Strings.AsciiSet
import Derived.Shelf.Unicode.DecodeSlow
import Derived.Shelf.SlSortCmp.WholeK
import Derived.Shelf.SlSortCmp.NoneTotal
import Derived.Ground.SlsfProg
import Derived.Shelf.Spec.SlicesGrow
import Derived.Ground.Names8Prog
import Derived.Shelf.Strings.SlTrimAscii
import Derived.Test.YteaadaaghhojfaaGreatDoorProg
import Derived.Shelf.GgSortFunc.InsertionK
import Derived.WalkKit
import Derived.Maps.AppendAt
import Derived.Lib.SliceRun
import Derived.Lib.Walk
import Derived.Deep.LoopGhost
import Derived.Deep.DeepHandedRow
import Derived.Lib.LaidTab
import Derived.SevenTiedAt
section
namespace Go.Proofs.YteaadaaghhojfaaGreatDoorE
open Go
set_option linter.unusedVariables false
set_option linter.unusedSimpArgs false
theorem u8_lt_irrefl (a : UInt8) : ¬ a < a := by simp
theorem bl_cons (a b : UInt8) (x y : List UInt8) : Op.bytesLess (a :: x) (b :: y) = true ↔ a < b ∨ (a = b ∧ Op.bytesLess x y = true) := by
  simp [Op.bytesLess]
theorem cmp_lt : ∀ a b : List UInt8, Lib.compareBytes a b < 0 ↔ Op.bytesLess a b = true
  | [], [] => by simp [Lib.compareBytes, Op.bytesLess]
  | [], _ :: _ => by simp [Lib.compareBytes, Op.bytesLess]
  | _ :: _, [] => by simp [Lib.compareBytes, Op.bytesLess]
  | a :: x, b :: y => by
    rw [bl_cons, Lib.compareBytes]
    split
    · rename_i h; simp [h]
    · rename_i h
      split
      · rename_i h2
        have hne : a ≠ b := fun e => by subst e; exact u8_lt_irrefl _ h2
        simp [h, hne]
      · rename_i h2
        have e : a = b := by
          apply UInt8.toNat_inj.1
          rw [UInt8.lt_iff_toNat_lt] at h h2; omega
        subst e
        simp [cmp_lt x y]
theorem cmp_zero : ∀ a b : List UInt8, Lib.compareBytes a b = 0 ↔ a = b
  | [], [] => by simp [Lib.compareBytes]
  | [], _ :: _ => by simp [Lib.compareBytes]
  | _ :: _, [] => by simp [Lib.compareBytes]
  | a :: x, b :: y => by
    rw [Lib.compareBytes]
    split
    · rename_i h
      have hne : a ≠ b := fun e => by subst e; exact u8_lt_irrefl _ h
      simp [hne]
    · rename_i h
      split
      · rename_i h2
        have hne : a ≠ b := fun e => by subst e; exact u8_lt_irrefl _ h2
        simp [hne]
      · rename_i h2
        have e : a = b := by
          apply UInt8.toNat_inj.1
          rw [UInt8.lt_iff_toNat_lt] at h h2; omega
        subst e
        simp [cmp_zero x y]
theorem bl_irrefl : ∀ a : List UInt8, Op.bytesLess a a = false
  | [] => rfl
  | a :: x => by simp [Op.bytesLess, bl_irrefl x]
theorem bl_trans : ∀ a b c : List UInt8, Op.bytesLess a b = true → Op.bytesLess b c = true → Op.bytesLess a c = true
  | _, _, [], _, h => by simp [Op.bytesLess] at h
  | [], _, _ :: _, _, _ => rfl
  | _ :: _, [], _ :: _, h, _ => by simp [Op.bytesLess] at h
  | a :: x, b :: y, c :: z, h1, h2 => by
    rw [bl_cons] at *
    rcases h1 with h1 | ⟨rfl, h1⟩
    · rcases h2 with h2 | ⟨rfl, h2⟩
      · left; rw [UInt8.lt_iff_toNat_lt] at *; omega
      · exact .inl h1
    · rcases h2 with h2 | ⟨rfl, h2⟩
      · exact .inl h2
      · exact .inr ⟨rfl, bl_trans _ _ _ h1 h2⟩
theorem bl_total : ∀ a b : List UInt8, a ≠ b → Op.bytesLess a b = true ∨ Op.bytesLess b a = true
  | [], [], h => absurd rfl h
  | [], _ :: _, _ => .inl rfl
  | _ :: _, [], _ => .inr rfl
  | a :: x, b :: y, h => by
    rw [bl_cons, bl_cons]
    by_cases e : a = b
    · subst e
      rcases bl_total x y (fun e => h (by rw [e])) with h1 | h1
      · exact .inl (.inr ⟨rfl, h1⟩)
      · exact .inr (.inr ⟨rfl, h1⟩)
    · have : a.toNat ≠ b.toNat := fun h => e (UInt8.toNat_inj.1 h)
      rcases Nat.lt_or_gt_of_ne this with h1 | h1
      · exact .inl (.inl (UInt8.lt_iff_toNat_lt.2 h1))
      · exact .inr (.inl (UInt8.lt_iff_toNat_lt.2 h1))
theorem bl_asymm (a b : List UInt8) (h : Op.bytesLess a b = true) : Op.bytesLess b a = false := by
  cases h2 : Op.bytesLess b a with
  | false => rfl
  | true => have := bl_trans _ _ _ h h2; rw [bl_irrefl] at this; cases this
theorem ltOf_text {α : Type} (g : α → List UInt8) (x y : α) : ltOf (fun x y => Lib.compareBytes (g x) (g y)) x y = Op.bytesLess (g x) (g y) := by
  unfold ltOf
  rw [Bool.eq_iff_iff, decide_eq_true_iff]
  exact cmp_lt _ _
theorem swo_text {α : Type} (g : α → List UInt8) : Sort.SWO (ltOf (fun x y : α => Lib.compareBytes (g x) (g y))) where
  irrefl x := by rw [ltOf_text, bl_irrefl]
  trans x y z h1 h2 := by rw [ltOf_text] at *; exact bl_trans _ _ _ h1 h2
  ntrans x y z h1 h2 := by
    rw [ltOf_text] at *
    cases h : Op.bytesLess (g x) (g z) with
    | false => rfl
    | true =>
      by_cases e : g x = g y
      · rw [e] at h; rw [h] at h2; cases h2
      · rcases bl_total _ _ e with h3 | h3
        · rw [h3] at h1; cases h1
        · have := bl_trans _ _ _ h3 h; rw [this] at h2; cases h2
end Go.Proofs.YteaadaaghhojfaaGreatDoorE
end
section
namespace Go.Proofs
open Go.Shelf
def Tryz.lays156_ren : Go.Shelf.Ren := ⟨fun | 156 => 112 | 165 => 143 | 166 => 144 | 169 => 145 | 240 => 176 | 241 => 177 | 276 => 203 | 277 => 204 | n => n, fun | 31 => 23 | 9 => 9 | 3 => 3 | 4 => 4 | 0 => 0 | 20 => 20 | 72 => 162 | 76 => 166 | 70 => 159 | 37 => 160 | 75 => 165 | 127 => 197 | 164 => 218 | 5 => 5 | 80 => 142 | n => n, fun | n => n⟩
theorem Tryz.lays156 : Go.Proofs.Lays.n156 Tryz.prog Tryz.lays156_ren := {
  mixed := by kernel_rfl
  f156 := Tryz.func112.trans (congrArg some (by kernel_rfl))
  f165 := Tryz.func143.trans (congrArg some (by kernel_rfl))
  f166 := Tryz.func144.trans (congrArg some (by kernel_rfl))
  f169 := Tryz.func145.trans (congrArg some (by kernel_rfl))
  f240 := Tryz.func176.trans (congrArg some (by kernel_rfl))
  f241 := Tryz.func177.trans (congrArg some (by kernel_rfl))
  f276 := Tryz.func203.trans (congrArg some (by kernel_rfl))
  f277 := Tryz.func204.trans (congrArg some (by kernel_rfl))
  t0 := Tryz.underlying0
  a0 := Tryz.isAgg0
  z0 := Tryz.sizeOf0
  v0 := Tryz.zeroValue0
  t3 := Tryz.underlying3
  a3 := Tryz.isAgg3
  z3 := Tryz.sizeOf3
  v3 := Tryz.zeroValue3
  t4 := Tryz.underlying4
  a4 := Tryz.isAgg4
  z4 := Tryz.sizeOf4
  v4 := Tryz.zeroValue4
  t9 := Tryz.underlying9
  a9 := Tryz.isAgg9
  z9 := Tryz.sizeOf9
  v9 := Tryz.zeroValue9
  t20 := Tryz.underlying20
  a20 := Tryz.isAgg20
  z20 := Tryz.sizeOf20
  v20 := Tryz.zeroValue20
  t31 := Tryz.underlying23
  a31 := Tryz.isAgg23
  z31 := Tryz.sizeOf23
  v31 := Tryz.zeroValue23
  t37 := Tryz.underlying160
  a37 := Tryz.isAgg160
  z37 := Tryz.sizeOf160
  v37 := Tryz.zeroValue160
  t70 := Tryz.underlying159
  a70 := Tryz.isAgg159
  z70 := Tryz.sizeOf159
  v70 := Tryz.zeroValue159
  t72 := Tryz.underlying162
  a72 := Tryz.isAgg162
  z72 := Tryz.sizeOf162
  v72 := Tryz.zeroValue162
  t75 := Tryz.underlying165
  a75 := Tryz.isAgg165
  z75 := Tryz.sizeOf165
  v75 := Tryz.zeroValue165
  t76 := Tryz.underlying166
  a76 := Tryz.isAgg166
  z76 := Tryz.sizeOf166
  v76 := Tryz.zeroValue166
  t127 := Tryz.underlying197
  a127 := Tryz.isAgg197
  z127 := Tryz.sizeOf197
  v127 := Tryz.zeroValue197
  t164 := Tryz.underlying218
  a164 := Tryz.isAgg218
  z164 := Tryz.sizeOf218
  v164 := Tryz.zeroValue218 }
theorem Tryz.Builder_Extra_156 : Builder.Extra Tryz.prog Tryz.lays156_ren := {
  sizeBuilder := by kernel_rfl
  liesBuilder := by kernel_rfl
  t5 := Tryz.underlying5
  a5 := Tryz.isAgg5
  z5 := Tryz.sizeOf5
  v5 := Tryz.zeroValue5
  infoByte := by kernel_rfl
  cellsByte := by kernel_rfl
  sizeByte := by kernel_rfl
  neB5 := by decide }
open Go.RowKit in
/-- No element: the empty string; the world is as it was. (Whatever the slice's address and capacity: a nil slice too.) (LAID: no walk: one application.) -/
theorem Tryz.strings_Join_none (a : Option Addr) (c : Nat) (sep : ByteArray) (w : World) :
    Calls Tryz.prog 112 #[.slice a 0 c, .string sep] w fun e w' => e = .returned (.string ⟨#[]⟩) ∧ w' = w := Any.strings_Join_none Tryz.lays156 Tryz.Builder_Extra_156 a c sep w
open Go.RowKit in
/-- strings.Join: "Join concatenates the elements of its first argument to create a single string. The separator string sep is placed between elements in the resulting string.": HOWEVER MANY ELEMENTS. Below the heap's end the world is as it was. (LAID: no walk: one application.) -/
theorem Tryz.strings_Join (bk o c : Nat) (xs : List ByteArray) (sep : ByteArray) (w : World) (hcells : ∀ (j : Nat) x, xs[j]? = some x → w.cell? ⟨bk, o + j, none⟩ = some (.string x)) (hbk : bk < w.heap.size) (hN : xs.length ≤ 140737488355328) (hcap : xs.length ≤ c) (hlen : (Lib.join (xs.map (·.data.toList)) sep.data.toList).length ≤ 140737488355328) :
    Calls Tryz.prog 112 #[.slice (some ⟨bk, o, none⟩) xs.length c, .string sep] w fun e w' => e = .returned (.string ⟨(Lib.join (xs.map (·.data.toList)) sep.data.toList).toArray⟩) ∧ Below w.heap.size w w' := Any.strings_Join Tryz.lays156 Tryz.Builder_Extra_156 bk o c xs sep w hcells hbk hN hcap hlen
def Tryz.lays160_ren : Go.Shelf.Ren := ⟨fun | 160 => 134 | 232 => 166 | 231 => 165 | 227 => 167 | 234 => 169 | 233 => 168 | 236 => 171 | 235 => 170 | 228 => 188 | 271 => 191 | 151 => 190 | 197 => 189 | 120 => 212 | 152 => 211 | 260 => 210 | 137 => 100 | 119 => 229 | 224 => 220 | 225 => 219 | 217 => 135 | 266 => 172 | n => n, fun | 9 => 9 | 4 => 4 | 3 => 3 | 5 => 5 | 117 => 189 | 116 => 188 | 0 => 0 | 124 => 192 | 21 => 21 | 105 => 203 | 46 => 196 | 119 => 235 | 139 => 238 | 138 => 237 | n => n, fun | 3 => 1 | 4 => 2 | n => n⟩
theorem Tryz.lays160 : Go.Proofs.Lays.n160 Tryz.prog Tryz.lays160_ren := {
  mixed := by kernel_rfl
  f119 := Tryz.func229.trans (congrArg some (by kernel_rfl))
  f120 := Tryz.func212.trans (congrArg some (by kernel_rfl))
  f137 := Tryz.func100.trans (congrArg some (by kernel_rfl))
  f151 := Tryz.func190.trans (congrArg some (by kernel_rfl))
  f152 := Tryz.func211.trans (congrArg some (by kernel_rfl))
  f160 := Tryz.func134.trans (congrArg some (by kernel_rfl))
  f197 := Tryz.func189.trans (congrArg some (by kernel_rfl))
  f217 := Tryz.func135.trans (congrArg some (by kernel_rfl))
  f224 := Tryz.func220.trans (congrArg some (by kernel_rfl))
  f225 := Tryz.func219.trans (congrArg some (by kernel_rfl))
  f227 := Tryz.func167.trans (congrArg some (by kernel_rfl))
  f228 := Tryz.func188.trans (congrArg some (by kernel_rfl))
  f231 := Tryz.func165.trans (congrArg some (by kernel_rfl))
  f232 := Tryz.func166.trans (congrArg some (by kernel_rfl))
  f233 := Tryz.func168.trans (congrArg some (by kernel_rfl))
  f234 := Tryz.func169.trans (congrArg some (by kernel_rfl))
  f235 := Tryz.func170.trans (congrArg some (by kernel_rfl))
  f236 := Tryz.func171.trans (congrArg some (by kernel_rfl))
  f260 := Tryz.func210.trans (congrArg some (by kernel_rfl))
  f266 := Tryz.func172.trans (congrArg some (by kernel_rfl))
  f271 := Tryz.func191.trans (congrArg some (by kernel_rfl))
  t0 := Tryz.underlying0
  a0 := Tryz.isAgg0
  z0 := Tryz.sizeOf0
  v0 := Tryz.zeroValue0
  t3 := Tryz.underlying3
  a3 := Tryz.isAgg3
  z3 := Tryz.sizeOf3
  v3 := Tryz.zeroValue3
  t4 := Tryz.underlying4
  a4 := Tryz.isAgg4
  z4 := Tryz.sizeOf4
  v4 := Tryz.zeroValue4
  t5 := Tryz.underlying5
  a5 := Tryz.isAgg5
  z5 := Tryz.sizeOf5
  v5 := Tryz.zeroValue5
  t9 := Tryz.underlying9
  a9 := Tryz.isAgg9
  z9 := Tryz.sizeOf9
  v9 := Tryz.zeroValue9
  t21 := Tryz.underlying21
  a21 := Tryz.isAgg21
  z21 := Tryz.sizeOf21
  v21 := Tryz.zeroValue21
  t46 := Tryz.underlying196
  a46 := Tryz.isAgg196
  z46 := Tryz.sizeOf196
  v46 := Tryz.zeroValue196
  t105 := Tryz.underlying203
  a105 := Tryz.isAgg203
  z105 := Tryz.sizeOf203
  v105 := Tryz.zeroValue203
  t116 := Tryz.underlying188
  a116 := Tryz.isAgg188
  z116 := Tryz.sizeOf188
  t117 := Tryz.underlying189
  a117 := Tryz.isAgg189
  z117 := Tryz.sizeOf189
  v117 := Tryz.zeroValue189
  t119 := Tryz.underlying235
  a119 := Tryz.isAgg235
  z119 := Tryz.sizeOf235
  t124 := Tryz.underlying192
  a124 := Tryz.isAgg192
  z124 := Tryz.sizeOf192
  v124 := Tryz.zeroValue192
  t138 := Tryz.underlying237
  a138 := Tryz.isAgg237
  z138 := Tryz.sizeOf237
  v138 := Tryz.zeroValue237
  t139 := Tryz.underlying238
  a139 := Tryz.isAgg238
  z139 := Tryz.sizeOf238
  v139 := Tryz.zeroValue238
  g3 := by kernel_rfl
  g4 := by kernel_rfl }
def Tryz.lays213_ren : Go.Shelf.Ren := ⟨fun | 213 => 209 | 265 => 228 | n => n, fun | 9 => 9 | 3 => 3 | n => n, fun | n => n⟩
theorem Tryz.lays213 : Go.Proofs.Lays.n213 Tryz.prog Tryz.lays213_ren := {
  mixed := by kernel_rfl
  f213 := Tryz.func209.trans (congrArg some (by kernel_rfl))
  f265 := Tryz.func228.trans (congrArg some (by kernel_rfl))
  t3 := Tryz.underlying3
  a3 := Tryz.isAgg3
  z3 := Tryz.sizeOf3
  v3 := Tryz.zeroValue3
  t9 := Tryz.underlying9
  a9 := Tryz.isAgg9
  z9 := Tryz.sizeOf9
  v9 := Tryz.zeroValue9 }
open Go.RowKit in
/-- internal/bytealg.CompareString (what strings.Compare calls): IT RETURNS 'Lib.compareBytes a b'; the world is as it was. (LAID: no walk: one application.) -/
theorem Tryz.bytealg_CompareString (a b : ByteArray) (w : World) :
    Calls Tryz.prog 209 #[.string a, .string b] w fun e w' => e = .returned (.int .i64 (Lib.compareBytes a.data.toList b.data.toList)) ∧ w' = w := Any.bytealg_CompareString Tryz.lays213 a b w
def Tryz.lays106_ren : Go.Shelf.Ren := ⟨fun | 106 => 186 | 213 => 209 | 265 => 228 | n => n, fun | 9 => 9 | 3 => 3 | n => n, fun | n => n⟩
theorem Tryz.lays106 : Go.Proofs.Lays.n106 Tryz.prog Tryz.lays106_ren := {
  mixed := by kernel_rfl
  f106 := Tryz.func186.trans (congrArg some (by kernel_rfl))
  f213 := Tryz.func209.trans (congrArg some (by kernel_rfl))
  f265 := Tryz.func228.trans (congrArg some (by kernel_rfl))
  t3 := Tryz.underlying3
  a3 := Tryz.isAgg3
  z3 := Tryz.sizeOf3
  v3 := Tryz.zeroValue3
  t9 := Tryz.underlying9
  a9 := Tryz.isAgg9
  z9 := Tryz.sizeOf9
  v9 := Tryz.zeroValue9 }
open Go.RowKit in
/-- strings.Compare: "Compare returns an integer comparing two strings lexicographically. The result will be 0 if a == b, -1 if a < b, and +1 if a > b.": IT RETURNS 'Lib.compareBytes a b'; the world is as it was. (LAID: no walk: one application.) -/
theorem Tryz.strings_Compare (a b : ByteArray) (w : World) :
    Calls Tryz.prog 186 #[.string a, .string b] w fun e w' => e = .returned (.int .i64 (Lib.compareBytes a.data.toList b.data.toList)) ∧ w' = w := Any.strings_Compare Tryz.lays106 a b w
def Tryz.lays137_ren : Go.Shelf.Ren := ⟨fun | 137 => 100 | 217 => 135 | 266 => 172 | n => n, fun | 9 => 9 | 5 => 5 | 3 => 3 | n => n, fun | n => n⟩
theorem Tryz.lays137 : Go.Proofs.Lays.n137 Tryz.prog Tryz.lays137_ren := {
  mixed := by kernel_rfl
  f137 := Tryz.func100.trans (congrArg some (by kernel_rfl))
  f217 := Tryz.func135.trans (congrArg some (by kernel_rfl))
  f266 := Tryz.func172.trans (congrArg some (by kernel_rfl))
  t3 := Tryz.underlying3
  a3 := Tryz.isAgg3
  z3 := Tryz.sizeOf3
  v3 := Tryz.zeroValue3
  t5 := Tryz.underlying5
  a5 := Tryz.isAgg5
  z5 := Tryz.sizeOf5
  v5 := Tryz.zeroValue5
  t9 := Tryz.underlying9
  a9 := Tryz.isAgg9
  z9 := Tryz.sizeOf9
  v9 := Tryz.zeroValue9 }
open Go.RowKit in
/-- strings.IndexByte: "IndexByte returns the index of the first instance of c in s, or -1 if c is not present in s.": IT RETURNS 'Lib.indexByte s c'; the world is as it was. (LAID: no walk: one application.) -/
theorem Tryz.strings_IndexByte (s : ByteArray) (c : Int) (w : World) :
    Calls Tryz.prog 100 #[.string s, .int .u8 c] w fun e w' => e = .returned (.int .i64 (Lib.indexByte s.data.toList c.toNat.toUInt8)) ∧ w' = w := Any.strings_IndexByte Tryz.lays137 s c w
def Tryz.lays217_ren : Go.Shelf.Ren := ⟨fun | 217 => 135 | 266 => 172 | n => n, fun | 9 => 9 | 5 => 5 | 3 => 3 | n => n, fun | n => n⟩
theorem Tryz.lays217 : Go.Proofs.Lays.n217 Tryz.prog Tryz.lays217_ren := {
  mixed := by kernel_rfl
  f217 := Tryz.func135.trans (congrArg some (by kernel_rfl))
  f266 := Tryz.func172.trans (congrArg some (by kernel_rfl))
  t3 := Tryz.underlying3
  a3 := Tryz.isAgg3
  z3 := Tryz.sizeOf3
  v3 := Tryz.zeroValue3
  t5 := Tryz.underlying5
  a5 := Tryz.isAgg5
  z5 := Tryz.sizeOf5
  v5 := Tryz.zeroValue5
  t9 := Tryz.underlying9
  a9 := Tryz.isAgg9
  z9 := Tryz.sizeOf9
  v9 := Tryz.zeroValue9 }
open Go.RowKit Go.Lib in
/-- internal/stringslite.IndexByte (what strings.IndexByte calls): IT RETURNS 'Lib.indexByte s c'; the world is as it was. (LAID: no walk: one application.) -/
theorem Tryz.stringslite_IndexByte (s : ByteArray) (c : Int) (w : World) :
    Calls Tryz.prog 135 #[.string s, .int .u8 c] w fun e w' => e = .returned (.int .i64 (Lib.indexByte s.data.toList c.toNat.toUInt8)) ∧ w' = w := Any.stringslite_IndexByte Tryz.lays217 s c w
def Tryz.lays219_ren : Go.Shelf.Ren := ⟨fun | 219 => 205 | 217 => 135 | 225 => 219 | 224 => 220 | 267 => 221 | 266 => 172 | 314 => 231 | n => n, fun | 9 => 9 | 3 => 3 | 4 => 4 | 5 => 5 | 46 => 196 | 146 => 243 | 51 => 215 | n => n, fun | 1 => 0 | n => n⟩
theorem Tryz.lays219 : Go.Proofs.Lays.n219 Tryz.prog Tryz.lays219_ren := {
  mixed := by kernel_rfl
  f217 := Tryz.func135.trans (congrArg some (by kernel_rfl))
  f219 := Tryz.func205.trans (congrArg some (by kernel_rfl))
  f224 := Tryz.func220.trans (congrArg some (by kernel_rfl))
  f225 := Tryz.func219.trans (congrArg some (by kernel_rfl))
  f266 := Tryz.func172.trans (congrArg some (by kernel_rfl))
  f267 := Tryz.func221.trans (congrArg some (by kernel_rfl))
  f314 := Tryz.func231.trans (congrArg some (by kernel_rfl))
  t3 := Tryz.underlying3
  a3 := Tryz.isAgg3
  z3 := Tryz.sizeOf3
  v3 := Tryz.zeroValue3
  t4 := Tryz.underlying4
  a4 := Tryz.isAgg4
  z4 := Tryz.sizeOf4
  v4 := Tryz.zeroValue4
  t5 := Tryz.underlying5
  a5 := Tryz.isAgg5
  z5 := Tryz.sizeOf5
  v5 := Tryz.zeroValue5
  t9 := Tryz.underlying9
  a9 := Tryz.isAgg9
  z9 := Tryz.sizeOf9
  v9 := Tryz.zeroValue9
  t46 := Tryz.underlying196
  a46 := Tryz.isAgg196
  z46 := Tryz.sizeOf196
  v46 := Tryz.zeroValue196
  t51 := Tryz.underlying215
  a51 := Tryz.isAgg215
  z51 := Tryz.sizeOf215
  v51 := Tryz.zeroValue215
  t146 := Tryz.underlying243
  a146 := Tryz.isAgg243
  z146 := Tryz.sizeOf243
  v146 := Tryz.zeroValue243
  g1 := by kernel_rfl }
open Go.RowKit Go.Lib in
/-- internal/stringslite.Index (what strings.Index calls) AT A substr OF ONE BYTE c: IT RETURNS 'Lib.indexByte s c'; the world is as it was. (LAID: no walk: one application.) -/
theorem Tryz.stringslite_Index_one (s : ByteArray) (c : UInt8) (w : World) :
    Calls Tryz.prog 205 #[.string s, .string ⟨#[c]⟩] w fun e w' => e = .returned (.int .i64 (Lib.indexByte s.data.toList c)) ∧ w' = w := Any.stringslite_Index_one Tryz.lays219 s c w
open Go.RowKit Go.Lib in
/-- internal/stringslite.Index (what strings.Index calls) AT A substr OF WHATEVER LENGTH: IT RETURNS 'Lib.index s substr'; the world is as it was. 'm': what internal/bytealg.MaxLen holds: whatever. (LAID: no walk: one application.) -/
theorem Tryz.stringslite_Index (s sub : ByteArray) (m : Int) (w : World) (hs : s.size < 4294967281) (hm : w.cell? ⟨0, 0, none⟩ = some (.int .i64 m)) :
    Calls Tryz.prog 205 #[.string s, .string sub] w fun e w' => e = .returned (.int .i64 (Lib.index s.data.toList sub.data.toList)) ∧ w' = w := Any.stringslite_Index Tryz.lays219 s sub m w hs hm
def Tryz.laysM219_ren : Go.Shelf.Ren := ⟨fun | 219 => 205 | 217 => 135 | 225 => 219 | 224 => 220 | 267 => 221 | 266 => 172 | 314 => 231 | n => n, fun | 9 => 9 | 3 => 3 | 4 => 4 | 5 => 5 | 46 => 196 | 146 => 243 | 51 => 215 | n => n, fun | 1 => 0 | n => n⟩
theorem Tryz.laysM219 : Go.Proofs.LaysM.n219 Tryz.prog Tryz.laysM219_ren := {
  mixed := by kernel_rfl
  f217 := Tryz.func135.trans (congrArg some (by kernel_rfl))
  f219 := Tryz.func205.trans (congrArg some (by kernel_rfl))
  f224 := Tryz.func220.trans (congrArg some (by kernel_rfl))
  f225 := Tryz.func219.trans (congrArg some (by kernel_rfl))
  f266 := Tryz.func172.trans (congrArg some (by kernel_rfl))
  f267 := Tryz.func221.trans (congrArg some (by kernel_rfl))
  f314 := Tryz.func231.trans (congrArg some (by kernel_rfl))
  t3 := Tryz.underlying3
  a3 := Tryz.isAgg3
  z3 := Tryz.sizeOf3
  v3 := Tryz.zeroValue3
  t4 := Tryz.underlying4
  a4 := Tryz.isAgg4
  z4 := Tryz.sizeOf4
  v4 := Tryz.zeroValue4
  t5 := Tryz.underlying5
  a5 := Tryz.isAgg5
  z5 := Tryz.sizeOf5
  v5 := Tryz.zeroValue5
  t9 := Tryz.underlying9
  a9 := Tryz.isAgg9
  z9 := Tryz.sizeOf9
  v9 := Tryz.zeroValue9
  t46 := Tryz.underlying196
  a46 := Tryz.isAgg196
  z46 := Tryz.sizeOf196
  v46 := Tryz.zeroValue196
  t51 := Tryz.underlying215
  a51 := Tryz.isAgg215
  z51 := Tryz.sizeOf215
  v51 := Tryz.zeroValue215
  t146 := Tryz.underlying243
  a146 := Tryz.isAgg243
  z146 := Tryz.sizeOf243
  v146 := Tryz.zeroValue243
  g1 := by kernel_rfl
  i3 := by kernel_rfl
  i4 := by kernel_rfl
  i5 := by kernel_rfl
  i9 := by kernel_rfl
  i46 := by kernel_rfl
  i51 := by kernel_rfl
  i146 := by kernel_rfl
  m1 := by kernel_rfl
  s1_3 := fun w h => Go.Proofs.cell_of_shapedOpen_int (zero := #[.int .i64 0]) (t := 3) h (of_decide_eq_true (by kernel_rfl)) (by kernel_rfl) rfl (by kernel_rfl) (by kernel_rfl) Tryz.underlying3 }
open Go.RowKit Go.Lib in
theorem Tryz.stringslite_Index_shaped (s sub : ByteArray) (w : World) (h : w.ShapedOpen Tryz.prog) (hs : s.size < 4294967281) :
    Calls Tryz.prog 205 #[.string s, .string sub] w fun e w' => e = .returned (.int .i64 (Lib.index s.data.toList sub.data.toList)) ∧ w' = w := Any.stringslite_Index_shaped Tryz.laysM219 s sub w h hs
def Tryz.sort226_ren : Go.Shelf.Ren := ⟨fun | 6 => 226 | 15 => 175 | 14 => 233 | 28 => 201 | 29 => 202 | 20 => 234 | 21 => 235 | 22 => 236 | 23 => 237 | 24 => 238 | 25 => 239 | 26 => 240 | 27 => 241 | 46 => 242 | 47 => 214 | 48 => 215 | 49 => 243 | 50 => 244 | 57 => 245 | n => n, fun | 22 => 34 | 24 => 93 | 25 => 234 | 3 => 3 | 39 => 196 | 0 => 0 | 53 => 215 | 55 => 217 | 4 => 4 | 46 => 208 | 45 => 207 | 50 => 212 | 5 => 5 | 9 => 9 | 66 => 224 | 70 => 228 | 76 => 240 | 77 => 241 | n => n, fun | n => n⟩
theorem Tryz.sort226 : Go.Proofs.SlLaysF0.n6 Tryz.prog Tryz.sort226_ren := {
  mixed := by kernel_rfl
  f6 := ⟨Tryz.f226.name, by decide, Tryz.func226.trans (congrArg some (by kernel_rfl))⟩
  f14 := ⟨Tryz.f233.name, by decide, Tryz.func233.trans (congrArg some (by kernel_rfl))⟩
  f15 := Tryz.func175.trans (congrArg some (by kernel_rfl))
  f20 := ⟨Tryz.f234.name, by decide, Tryz.func234.trans (congrArg some (by kernel_rfl))⟩
  f21 := ⟨Tryz.f235.name, by decide, Tryz.func235.trans (congrArg some (by kernel_rfl))⟩
  f22 := ⟨Tryz.f236.name, by decide, Tryz.func236.trans (congrArg some (by kernel_rfl))⟩
  f23 := ⟨Tryz.f237.name, by decide, Tryz.func237.trans (congrArg some (by kernel_rfl))⟩
  f24 := ⟨Tryz.f238.name, by decide, Tryz.func238.trans (congrArg some (by kernel_rfl))⟩
  f25 := ⟨Tryz.f239.name, by decide, Tryz.func239.trans (congrArg some (by kernel_rfl))⟩
  f26 := ⟨Tryz.f240.name, by decide, Tryz.func240.trans (congrArg some (by kernel_rfl))⟩
  f27 := ⟨Tryz.f241.name, by decide, Tryz.func241.trans (congrArg some (by kernel_rfl))⟩
  f28 := Tryz.func201.trans (congrArg some (by kernel_rfl))
  f29 := Tryz.func202.trans (congrArg some (by kernel_rfl))
  f46 := ⟨Tryz.f242.name, by decide, Tryz.func242.trans (congrArg some (by kernel_rfl))⟩
  f47 := Tryz.func214.trans (congrArg some (by kernel_rfl))
  f48 := Tryz.func215.trans (congrArg some (by kernel_rfl))
  f49 := ⟨Tryz.f243.name, by decide, Tryz.func243.trans (congrArg some (by kernel_rfl))⟩
  f50 := ⟨Tryz.f244.name, by decide, Tryz.func244.trans (congrArg some (by kernel_rfl))⟩
  f57 := ⟨Tryz.f245.name, by decide, Tryz.func245.trans (congrArg some (by kernel_rfl))⟩
  t0 := Tryz.underlying0
  a0 := Tryz.isAgg0
  z0 := Tryz.sizeOf0
  v0 := Tryz.zeroValue0
  t3 := Tryz.underlying3
  a3 := Tryz.isAgg3
  z3 := Tryz.sizeOf3
  v3 := Tryz.zeroValue3
  t4 := Tryz.underlying4
  a4 := Tryz.isAgg4
  z4 := Tryz.sizeOf4
  v4 := Tryz.zeroValue4
  t5 := Tryz.underlying5
  a5 := Tryz.isAgg5
  z5 := Tryz.sizeOf5
  v5 := Tryz.zeroValue5
  t9 := Tryz.underlying9
  a9 := Tryz.isAgg9
  z9 := Tryz.sizeOf9
  v9 := Tryz.zeroValue9
  t22 := Tryz.underlying34
  a22 := Tryz.isAgg34
  z22 := Tryz.sizeOf34
  v22 := Tryz.zeroValue34
  t25 := Tryz.underlying234
  a25 := Tryz.isAgg234
  z25 := Tryz.sizeOf234
  v25 := Tryz.zeroValue234
  t39 := Tryz.underlying196
  a39 := Tryz.isAgg196
  z39 := Tryz.sizeOf196
  v39 := Tryz.zeroValue196
  t45 := Tryz.underlying207
  a45 := Tryz.isAgg207
  z45 := Tryz.sizeOf207
  v45 := Tryz.zeroValue207
  t46 := Tryz.underlying208
  a46 := Tryz.isAgg208
  z46 := Tryz.sizeOf208
  v46 := Tryz.zeroValue208
  t50 := Tryz.underlying212
  a50 := Tryz.isAgg212
  z50 := Tryz.sizeOf212
  v50 := Tryz.zeroValue212
  t53 := Tryz.underlying215
  a53 := Tryz.isAgg215
  z53 := Tryz.sizeOf215
  v53 := Tryz.zeroValue215
  t55 := Tryz.underlying217
  a55 := Tryz.isAgg217
  z55 := Tryz.sizeOf217
  v55 := Tryz.zeroValue217
  t66 := Tryz.underlying224
  a66 := Tryz.isAgg224
  z66 := Tryz.sizeOf224
  v66 := Tryz.zeroValue224
  t70 := Tryz.underlying228
  a70 := Tryz.isAgg228
  z70 := Tryz.sizeOf228
  v70 := Tryz.zeroValue228
  t76 := Tryz.underlying240
  a76 := Tryz.isAgg240
  z76 := Tryz.sizeOf240
  v76 := Tryz.zeroValue240
  t77 := Tryz.underlying241
  a77 := Tryz.isAgg241
  z77 := Tryz.sizeOf241
  v77 := Tryz.zeroValue241 }
def Tryz.grow187_ren : Go.Shelf.Ren := ⟨fun | 4 => 187 | n => n, fun | 22 => 42 | 25 => 57 | 3 => 3 | 4 => 4 | 9 => 9 | 20 => 20 | 0 => 0 | n => n, fun | n => n⟩
theorem Tryz.grow187 : Go.Proofs.Lays8.n4 Tryz.prog Tryz.grow187_ren := {
  mixed := by kernel_rfl
  f4 := ⟨Tryz.f187.name, by decide, Tryz.func187.trans (congrArg some (by kernel_rfl))⟩
  t0 := Tryz.underlying0
  a0 := Tryz.isAgg0
  z0 := Tryz.sizeOf0
  v0 := Tryz.zeroValue0
  t3 := Tryz.underlying3
  a3 := Tryz.isAgg3
  z3 := Tryz.sizeOf3
  v3 := Tryz.zeroValue3
  t4 := Tryz.underlying4
  a4 := Tryz.isAgg4
  z4 := Tryz.sizeOf4
  v4 := Tryz.zeroValue4
  t9 := Tryz.underlying9
  a9 := Tryz.isAgg9
  z9 := Tryz.sizeOf9
  v9 := Tryz.zeroValue9
  t20 := Tryz.underlying20
  a20 := Tryz.isAgg20
  z20 := Tryz.sizeOf20
  v20 := Tryz.zeroValue20
  t22 := Tryz.underlying42
  a22 := Tryz.isAgg42
  z22 := Tryz.sizeOf42
  v22 := Tryz.zeroValue42 }
end Go.Proofs
end
section
namespace Go.Proofs.YteaadaaghhojfaaGreatDoorE
open Go Go.RowKit Go.Shelf
set_option linter.unusedVariables false
abbrev s_IndexByte_sg : List Sg := [.tree .str, .tree (.int .u8)]
abbrev s_IndexByte_rs : List Rt := [.tree (.int .i64)]
def s_IndexByte (n : Nat) (x : SgEl s_IndexByte_sg) : Option (RtEl s_IndexByte_rs × OutEl s_IndexByte_sg) := some ((Lib.indexByte x.1.data.toList x.2.1.toNat.toUInt8, ()), ((), (), ()))
abbrev s_IndexByte_ent (n : Nat) : Ent := ⟨100, s_IndexByte_sg, s_IndexByte_rs, s_IndexByte n⟩
theorem s_IndexByte_ok (n : Nat) : EntOk Tryz.prog (s_IndexByte_ent n) :=
  ent_scal (tys := [.str, .int .u8]) (rs := [.int .i64]) rfl rfl (enters Tryz.func100 (by kernel_rfl) (by kernel_rfl)) fun x y h w => by
    cases h; exact kept (Tryz.strings_IndexByte x.1 x.2.1 w)
abbrev s_Compare_sg : List Sg := [.tree .str, .tree .str]
abbrev s_Compare_rs : List Rt := [.tree (.int .i64)]
def s_Compare (n : Nat) (x : SgEl s_Compare_sg) : Option (RtEl s_Compare_rs × OutEl s_Compare_sg) := some ((Lib.compareBytes x.1.data.toList x.2.1.data.toList, ()), ((), (), ()))
abbrev s_Compare_ent (n : Nat) : Ent := ⟨186, s_Compare_sg, s_Compare_rs, s_Compare n⟩
theorem s_Compare_ok (n : Nat) : EntOk Tryz.prog (s_Compare_ent n) :=
  ent_scal (tys := [.str, .str]) (rs := [.int .i64]) rfl rfl (enters Tryz.func186 (by kernel_rfl) (by kernel_rfl)) fun x y h w => by
    cases h; exact kept (Tryz.strings_Compare x.1 x.2.1 w)
/-- strings' index of a text of one byte -/
abbrev s_Index1_sg : List Sg := [.tree .str, .tree .str]
abbrev s_Index1_rs : List Rt := [.tree (.int .i64)]
def s_Index1 (n : Nat) (x : SgEl s_Index1_sg) : Option (RtEl s_Index1_rs × OutEl s_Index1_sg) :=
  match x.2.1.data.toList with
  | [c] => some ((Lib.indexByte x.1.data.toList c, ()), ((), (), ()))
  | _ => none
abbrev s_Index1_ent (n : Nat) : Ent := ⟨205, s_Index1_sg, s_Index1_rs, s_Index1 n⟩
theorem s_Index1_ok (n : Nat) : EntOk Tryz.prog (s_Index1_ent n) :=
  ent_scal (tys := [.str, .str]) (rs := [.int .i64]) rfl rfl (enters Tryz.func205 (by kernel_rfl) (by kernel_rfl)) fun x y h w => by
    obtain ⟨s, ⟨⟨l⟩⟩, u⟩ := x
    unfold s_Index1 at h
    split at h
    · rename_i c hc
      simp only at hc
      subst hc
      cases h; exact kept (Tryz.stringslite_Index_one s c w)
    · cases h
abbrev s_Trim_sg : List Sg := [.tree .str, .tree .str]
abbrev s_Trim_rs : List Rt := [.tree .str]
def s_Trim (n : Nat) (x : SgEl s_Trim_sg) : Option (RtEl s_Trim_rs × OutEl s_Trim_sg) :=
  bif Nat.ble x.1.size 9223372036854775807 && Nat.blt x.2.1.size 4294967281 && x.2.1.data.toList.all (fun b => decide (b.toNat < 128)) then some ((⟨(Lib.trimS x.1.data.toList x.2.1.data.toList).toArray⟩, ()), ((), (), ())) else none
abbrev s_Trim_ent (n : Nat) : Ent := ⟨134, s_Trim_sg, s_Trim_rs, s_Trim n⟩
theorem s_Trim_ok (n : Nat) : EntOk Tryz.prog (s_Trim_ent n) :=
  ent_scal (tys := [.str, .str]) (rs := [.str]) rfl rfl (enters Tryz.func134 (by kernel_rfl) (by kernel_rfl)) fun x y h w => by
    obtain ⟨h0, h⟩ := cond_some h
    simp only [Bool.and_eq_true] at h0
    cases h
    exact Any.strings_Trim_laid Tryz.lays160 (by kernel_rfl) x.1 x.2.1 w (Nat.le_of_ble_eq_true h0.1.1) (Nat.le_of_ble_eq_true h0.1.2) (ascii_of_all h0.2)
end Go.Proofs.YteaadaaghhojfaaGreatDoorE
end
section
namespace Go.Proofs.YteaadaaghhojfaaGreatDoorE
open Go Go.RowKit Go.Shelf
set_option linter.unusedVariables false
set_option linter.unusedSimpArgs false
/-- a function of data that is read, whose contract tells numbers, bools, texts, and that it leaves all as it was -/
theorem ent_flat {P : Program} {f : FuncId} {tys rs : List Ty} (hr : rs.all flatTy = true) (hE : Enters P f) {G : SgEl (tys.map Sg.tree) → Option (RtEl (rs.map Rt.tree) × OutEl (tys.map Sg.tree))}
    (h : ∀ x y, G x = some y → ∀ (S : Nat → SL) (F : Nat → Prop) (w : World) (vs : Array Value), (∀ k, F k → k < w.heap.size) → Args S F w (argsOf (tys.map Sg.tree) x 0) vs → Calls P f vs w fun e w' => e = .returned (resV rs y.1) ∧ Below w.heap.size w w') : EntOk P ⟨f, tys.map Sg.tree, rs.map Rt.tree, G⟩ := by
  intro x y hy
  refine ⟨hE, ?_⟩
  intro S F w vs hR hA
  refine (h x y hy S F w vs hR.fsz hA).mono ?_
  rintro e w' ⟨rfl, bel⟩
  have hh := heap_trees tys x
  rw [hh] at hR
  obtain ⟨g1, g2⟩ := res_val (S := S) (F := F) (w := w') hr y.1 (nIds (tys.map Sg.tree))
  have e2 : (encOut (tys.map Sg.tree) (rs.map Rt.tree) x y).2 = [] := by
    unfold encOut
    generalize resOfT (rs.map Rt.tree) y.1 (nIds (tys.map Sg.tree)) = q at g2
    obtain ⟨q1, q2⟩ := q
    simp only at g2 ⊢
    rw [g2, outHeap_trees]; rfl
  have e1 : (encOut (tys.map Sg.tree) (rs.map Rt.tree) x y).1 = (resOfT (rs.map Rt.tree) y.1 (nIds (tys.map Sg.tree))).1 := by
    unfold encOut
    generalize resOfT (rs.map Rt.tree) y.1 (nIds (tys.map Sg.tree)) = q
    rfl
  have hS : ∀ b, S b = .unused := fun b => unused_S hR (by simp [hget])
  have hno : ∀ k, ¬ WR S ([] : Heap) k := by rintro k ⟨b, z, hz, _⟩; simp [hget] at hz
  refine ⟨_, S, F, rfl, ?_, by rw [e1]; exact g1, ?_⟩
  · rw [e2]
    exact ⟨fun b => by rw [hS]; simp [hget, SlotOk], fun b b' k h1 => (by rw [hS] at h1; simp [blkOf] at h1), fun k hk => Nat.lt_of_lt_of_le (hR.fsz k hk) bel.size⟩
  · rw [e2, hh]
    exact ⟨fun _ h => h, fun b hb => absurd (hS b) hb, bel.size, fun k hk _ => bel.block k hk, fun k hk => absurd hk (hno k), fun _ h => .inl h, bel.os, bel.tape, bel.output⟩
abbrev s_Join_sg : List Sg := [.tree (.slice .str), .tree .str]
abbrev s_Join_rs : List Rt := [.tree .str]
def joinX (xs : List ByteArray) (sep : ByteArray) : ByteArray := ⟨(Lib.join (xs.map (·.data.toList)) sep.data.toList).toArray⟩
def s_Join (n : Nat) (x : SgEl s_Join_sg) : Option (RtEl s_Join_rs × OutEl s_Join_sg) :=
  bif Nat.ble x.1.length 140737488355328 && Nat.ble (Lib.join (x.1.map (·.data.toList)) x.2.1.data.toList).length 140737488355328 then some ((joinX x.1 x.2.1, ()), ((), (), ())) else none
abbrev s_Join_ent (n : Nat) : Ent := ⟨112, s_Join_sg, s_Join_rs, s_Join n⟩
theorem s_Join_ok (n : Nat) : EntOk Tryz.prog (s_Join_ent n) :=
  ent_flat (tys := [.slice .str, .str]) (rs := [.str]) rfl (enters Tryz.func112 (by kernel_rfl) (by kernel_rfl)) fun x y h S F w vs hF hA => by
    obtain ⟨xs, sep, u⟩ := x
    obtain ⟨h0, h⟩ := cond_some h
    simp only [Bool.and_eq_true] at h0
    cases h
    have hn := Nat.le_of_ble_eq_true h0.1
    have hl := Nat.le_of_ble_eq_true h0.2
    have hlen : vs.size = 2 := hA.1
    obtain ⟨v0, v1, rfl⟩ : ∃ v0 v1, vs = #[v0, v1] := by
      obtain ⟨l⟩ := vs
      match l, hlen with
      | [a, b], _ => exact ⟨a, b, rfl⟩
    have a0 : Val S F w (.lst .str xs) v0 := hA.2 0 _ v0 rfl rfl
    have a1 : Val S F w (.str sep) v1 := hA.2 1 _ v1 rfl rfl
    have e1 := val_str a1
    subst e1
    cases a0 with
    | lst _ _ a cap vf hc ha hs hcell hv =>
      by_cases hx : xs = []
      · subst hx
        exact (Tryz.strings_Join_none a cap sep w).mono fun e w' hh => ⟨hh.1, hh.2 ▸ Below.refl _ _⟩
      · obtain ⟨ad, rfl⟩ := ha hx
        have hsp := hs hx ad rfl
        obtain ⟨bk, o, sp⟩ := ad
        simp only at hsp
        subst hsp
        have hcs : ∀ (j : Nat) (x : ByteArray), xs[j]? = some x → w.cell? ⟨bk, o + j, none⟩ = some (.string x) := by
          intro j x hj
          have h1 := (hcell _ j x 0 (.str x) rfl hj rfl).2
          have h2 := val_str (hv j x 0 (.str x) hj rfl)
          rw [h2] at h1
          simpa [Ty.size] using h1
        have hbk : bk < w.heap.size := by
          cases xs with
          | nil => exact absurd rfl hx
          | cons x r => exact hF _ (hcell _ 0 x 0 (.str x) rfl rfl rfl).1
        exact Tryz.strings_Join bk o cap xs sep w hcs hbk hn hc hl
end Go.Proofs.YteaadaaghhojfaaGreatDoorE
end
section
namespace Go.Proofs.YteaadaaghhojfaaGreatDoorE
open Go Go.RowKit Go.Shelf
open Go.Sort (HoldsK flatK get_flatK size_flatK putCells)
set_option linter.unusedVariables false
set_option linter.unusedSimpArgs false
section
variable {P : Program} {S : Nat → SL} {F : Nat → Prop} {w w' : World} {H : Heap}
/-- where the world has grown -/
theorem below_rel (hr : Rel S F w H) (bel : Below w.heap.size w w') : Rel S F w' H ∧ Adv S F w H S F w' H := by
  have hlive : ∀ b k, blkOf (S b) = some k → k < w.heap.size := by
    intro b k hb
    cases hg : hget H b with
    | unused => rw [unused_S hr hg] at hb; cases hb
    | dead =>
      have := hr.slots b; rw [hg] at this
      cases hs : S b <;> rw [hs] at this hb <;> simp only [SlotOk] at this
      cases hb
    | live y => exact blkOf_lt hr hg hb
  exact ⟨⟨fun b => (hr.slots b).mono (fun _ h => h) (fun k hk => bel.block k (hr.fsz k hk)) (fun _ _ => .inl rfl) (fun k hk => bel.block k (hlive b k hk)) (fun _ _ h => h), hr.inj, fun k hk => Nat.lt_of_lt_of_le (hr.fsz k hk) bel.size⟩,
    ⟨fun _ h => h, fun _ _ => .inl rfl, bel.size, fun k hk _ => bel.block k hk, fun k hk => .inl hk, fun k h => .inl h, bel.os, bel.tape, bel.output⟩⟩
/-- a copy, appended to nothing -/
theorem app_copy {t : Ty} {xs : List (El t)} {v : Value} {tS e ty : TypeId} {z : List PV} {bytes : Nat} (hr : Rel S F w []) (hv : Val S F w (.lst t xs) v) (ht : P.underlying tS = some (.slice e)) (hz : zeroPV P e = some z) (hs : szOf P e = some t.size) (hby : 0 < bytes) (hbe : P.bytesOf e = bytes)
    (hroom : room xs.length bytes = true) (a : Option Addr) :
    ∃ u' w' S' F', (Builtin.append_ #[tS, tS] ty #[.slice a 0 0, v]).run P w = .ok u' w' ∧ Rel S' F' w' [.live (.arr t xs true)] ∧ Val S' F' w' (.own 0) u' ∧ Adv S F w [] S' F' w' [.live (.arr t xs true)] := by
  have h : appendV 0 [] t.size bytes (.emp t) (.lst t xs) (fun p H => some (p, H)) = some (.own 0, [.live (.arr t xs true)]) := by
    simp [appendV, elsOf, castL, optK, hroom, fresh, fH_eq, hset, hget]
  obtain ⟨u', w', h1, p, H', S', F', h2, h3, h4, h5⟩ := ok_appendE (nb := 0) (ty := ty) hr (.emp t a) hv ht hz hs hby hbe (.inl ⟨e, ht⟩) (by simp [ht]) h
  simp only [Option.some.injEq, Prod.mk.injEq] at h2
  obtain ⟨rfl, rfl⟩ := h2
  exact ⟨u', w', S', F', h1, h3, h4, h5⟩
/-- nothing, and a world that has grown: a row of one's own -/
theorem own_none (hr : Rel S F w []) (bel : Below w.heap.size w w') (t : Ty) (a : Option Addr) :
    ∃ S' F', Rel S' F' w' [.live (.arr t [] true)] ∧ Val S' F' w' (.own 0) (.slice a 0 0) ∧ Adv S F w [] S' F' w' [.live (.arr t [] true)] := by
  obtain ⟨h1, h2⟩ := below_rel hr bel
  obtain ⟨S', n1, n2, n3⟩ := new_none (nb := 0) h1 (by simp [hget]) t a
  exact ⟨S', F, n1, n3, h2.trans' n2⟩
/-! ### a sort of a row of one's own -/
def pvVal : PV → Value
  | .int k n => .int k n
  | .bool b => .bool b
  | .str s => .string s
  | _ => undef
def flatY : Ty → Bool
  | .int _ | .bool | .str | .unit => true
  | .pair a b => flatY a && flatY b
  | _ => false
def encT (t : Ty) (x : El t) : List Value := (cellsOf t x).map pvVal
theorem flat_pv : ∀ (t : Ty), flatY t = true → ∀ (x : El t) (p : PV), p ∈ cellsOf t x → (pvVal p).oneCell = true ∧ ∀ (S : Nat → SL) (F : Nat → Prop) (w : World), Val S F w p (pvVal p) ∧ ∀ v, Val S F w p v → v = pvVal p
  | .int k, _, n, p, h => by simp [cellsOf] at h; subst h; exact ⟨rfl, fun S F w => ⟨.int _ _, fun v hv => val_int hv⟩⟩
  | .bool, _, b, p, h => by simp [cellsOf] at h; subst h; exact ⟨rfl, fun S F w => ⟨.bool _, fun v hv => val_bool hv⟩⟩
  | .str, _, s, p, h => by simp [cellsOf] at h; subst h; exact ⟨rfl, fun S F w => ⟨.str _, fun v hv => val_str hv⟩⟩
  | .unit, _, _, p, h => by simp [cellsOf] at h
  | .slice t, h, _, _, _ => by cases h
  | .none, h, _, _, _ => by cases h
  | .pair a b, hf, x, p, h => by
    simp only [flatY, Bool.and_eq_true] at hf
    simp only [cellsOf, List.mem_append] at h
    rcases h with h | h
    · exact flat_pv a hf.1 _ p h
    · exact flat_pv b hf.2 _ p h
theorem encT_len (t : Ty) (x : El t) : (encT t x).length = t.size := by simp [encT, cellsOf_size]
theorem encT_one {t : Ty} (h : flatY t = true) (x : El t) : ∀ v ∈ encT t x, v.oneCell' = true := by
  intro v hv
  obtain ⟨p, hp, rfl⟩ := List.mem_map.1 hv
  exact one' (flat_pv t h x p hp).1
theorem place_lt {j i k n : Nat} (hj : j < n) (hi : i < k) : j * k + i < n * k := by
  have h1 : (j + 1) * k ≤ n * k := Nat.mul_le_mul_right k hj
  rw [Nat.succ_mul] at h1; omega
theorem place_div {j i k : Nat} (hi : i < k) : (j * k + i) / k = j := by
  rw [Nat.mul_comm, Nat.mul_add_div (by omega), Nat.div_eq_of_lt hi, Nat.add_zero]
theorem place_mod {j i k : Nat} (hi : i < k) : (j * k + i) % k = i := by
  rw [Nat.mul_comm, Nat.mul_add_mod, Nat.mod_eq_of_lt hi]
/-- an element's cell in the flat row -/
theorem flat_get {t : Ty} [Inhabited (El t)] {r : List (El t)} {i j : Nat} {x : El t} {p : PV} (hx : r[i]? = some x) (hp : (cellsOf t x)[j]? = some p) :
    i * t.size + j < (flatK (encT t) t.size r.toArray).size ∧ (flatK (encT t) t.size r.toArray)[i * t.size + j]! = pvVal p := by
  have hi := (List.getElem?_eq_some_iff.1 hx).1
  have hj : j < t.size := by have := (List.getElem?_eq_some_iff.1 hp).1; rwa [cellsOf_size] at this
  have hT : i * t.size + j < r.toArray.size * t.size := by simpa using place_lt hi hj
  refine ⟨by rw [size_flatK]; exact hT, ?_⟩
  rw [get_flatK _ _ _ _ hT, place_div hj, place_mod hj]
  have e1 : r.toArray[i]! = x := by rw [getElem!_pos r.toArray i (by simpa using hi)]; simpa using (List.getElem?_eq_some_iff.1 hx).2
  rw [e1, getElem!_pos (encT t x) j (by rw [encT_len]; exact hj)]
  simp only [encT, List.getElem_map]
  rw [(List.getElem?_eq_some_iff.1 hp).2]
theorem ent_sort {f g : FuncId} {t : Ty} [Inhabited (El t)] (hfl : flatY t = true) (hE : Enters P f) (sorted : List (El t) → List (El t)) (hlen : ∀ l, (sorted l).length = l.length)
    (hcell : ∀ (l : List (El t)) (blk off cap : Nat) (w : World), HoldsK (encT t) t.size w blk off l.toArray → blk < w.heap.size → l.length < 4611686018427387904 →
      Calls P f #[.slice (some ⟨blk, off, none⟩) l.length cap, .func (.func g) #[] #[]] w fun e w' => e = .returned (.tuple #[]) ∧ ∃ n os, w' = sortWorldK (encT t) t.size w blk off n (sorted l).toArray os)
    (hnone : ∀ A c w, Calls P f #[.slice A 0 c, .func (.func g) #[] #[]] w fun e w' => e = .returned (.tuple #[]) ∧ w' = w) :
    EntOk P ⟨f, [.own t, .fnv g []], [], fun x => bif Nat.blt x.1.length 4611686018427387904 then some ((), (sorted x.1, ((), ()))) else none⟩ := by
  intro x y hy
  obtain ⟨l, cs, u⟩ := x
  obtain ⟨h0, hy⟩ := cond_some hy
  simp only [Option.some.injEq] at hy
  subst hy
  refine ⟨hE, ?_⟩
  intro S F w vs hr hA
  have hlt : l.length < 4611686018427387904 := Nat.le_of_ble_eq_true h0
  have hsz : vs.size = 2 := hA.1
  obtain ⟨v0, v1, rfl⟩ : ∃ v0 v1, vs = #[v0, v1] := by
    obtain ⟨q⟩ := vs
    match q, hsz with
    | [a, b], _ => exact ⟨a, b, rfl⟩
  have a0 : Val S F w (.own 0) v0 := hA.2 0 _ v0 rfl rfl
  have a1 : Val S F w (.fn g [] []) v1 := hA.2 1 _ v1 rfl rfl
  obtain rfl : v1 = .func (.func g) #[] #[] := by
    cases a1 with
    | fn _ _ _ va vb la lb _ _ => rw [Array.eq_empty_of_size_eq_zero la, Array.eq_empty_of_size_eq_zero lb]
  have hH : heapOf [.own t, .fnv g []] (l, cs, u) = [.live (.arr t l true)] := rfl
  rw [hH] at hr
  have hb : hget [Slot.live (.arr t l true)] 0 = .live (.arr t l true) := rfl
  have hres : encOut [.own t, .fnv g []] [] (l, cs, u) ((), (sorted l, ((), ()))) = (.tup [], [.live (.arr t (sorted l) true)]) := rfl
  rw [hres]
  show Calls P f #[v0, .func (.func g) #[] #[]] w fun e w' => ∃ v S' F', e = .returned v ∧ Rel S' F' w' [.live (.arr t (sorted l) true)] ∧ Val S' F' w' (.tup []) v ∧ Adv S F w (heapOf [.own t, .fnv g []] (l, cs, u)) S' F' w' [.live (.arr t (sorted l) true)]
  rw [hH]
  have hT : ∀ (S : Nat → SL) (F : Nat → Prop) (w : World), Val S F w (.tup []) (.tuple #[]) := fun S F w => .tup _ _ rfl fun i p v hp => by simp at hp
  obtain ⟨a, cap, hS, hcap, hor, hsp⟩ := hget_arr hr hb
  obtain rfl : v0 = .slice a l.length cap := by
    cases a0 with
    | own _ _ _ _ _ h => rw [hS] at h; cases h; rfl
    | ownd _ _ h _ => rw [hS] at h; cases h
  by_cases hl : l = []
  · subst hl
    have : sorted [] = [] := List.length_eq_zero_iff.1 (hlen [])
    rw [this]
    refine (hnone a cap w).mono ?_
    rintro e w' ⟨rfl, rfl⟩
    exact ⟨_, S, F, rfl, hr, hT _ _ _, Adv.refl _ _ _ _⟩
  · have hpos : 0 < l.length := List.length_pos_iff.2 hl
    rcases hor with h0 | ⟨ad, rfl, hAr, hF1, hF2⟩
    · omega
    obtain ⟨g0, c, tt, fr, g1, g2, g3, g4, g5⟩ := hAr
    obtain ⟨blk, off, sp⟩ := ad
    simp only at g0 g1 g2 g5 hF1
    subst g0
    have hbk : blk < w.heap.size := (Array.getElem?_eq_some_iff.1 g1).1
    have hcapk : l.length * t.size ≤ cap * t.size := Nat.mul_le_mul_right _ hcap
    have hHo : HoldsK (encT t) t.size w blk off l.toArray := by
      intro T hT'
      have hT2 : T < l.length * t.size := by simpa [size_flatK] using hT'
      obtain ⟨e1, e2, e3⟩ := split_lt hT2
      have hx := List.getElem?_eq_getElem e1
      have hl2 : T % t.size < (cellsOf t l[T / t.size]).length := by rw [cellsOf_size]; exact e2
      have hp := List.getElem?_eq_getElem hl2
      obtain ⟨v, k1, k2⟩ := g5 _ _ _ _ hx hp
      obtain ⟨k3, k4⟩ := flat_get (t := t) hx hp
      rw [e3] at k4
      have k5 := ((flat_pv t hfl _ _ (List.mem_of_getElem? hp)).2 S F w).2 v k2
      have e4 : off + T / t.size * t.size + T % t.size = off + T := by omega
      rw [e4] at k1
      refine ⟨?_, ?_⟩
      · show w.cell? ⟨blk, off + T, none⟩ = some (id (flatK (encT t) t.size l.toArray)[T]!)
        rw [k4]
        simp [World.cell?, g1, k1, k5]
      · have := g3 (off + T)
        simp only [World.frozen?, g1]
        have q0 : off + T < c.size := by omega
        have q3 := this q0
        by_cases q1 : fr.1 ≤ off + T
        · have q2 : ¬ off + T < fr.2 := fun h => q3 ⟨q1, h⟩
          simp [q1, q2]
        · simp [q1]
    refine (hcell l blk off cap w hHo hbk hlt).mono ?_
    rintro e w' ⟨rfl, n, os, rfl⟩
    generalize hr' : sorted l = r
    have hrl : r.length = l.length := hr' ▸ hlen l
    let c' : Array Value := putCells id off (flatK (encT t) t.size r.toArray) c
    let w1 : World := Go.Sort.putRowK (encT t) t.size (Go.Sort.ahead w n) blk off r.toArray
    have hw1 : ∀ k, w1.heap[k]? = if blk = k then some (.cells c' tt fr) else w.heap[k]? := by
      intro k
      show (w.heap.modify blk _)[k]? = _
      rw [Array.getElem?_modify]
      by_cases hk : blk = k
      · subst hk
        rw [if_pos rfl, if_pos rfl, g1]; rfl
      · rw [if_neg hk, if_neg hk]
    have hs1 : w1.heap.size = w.heap.size := by show (w.heap.modify blk _).size = _; simp
    have hc's : c'.size = c.size := by simp [c', putCells]
    have hfs : (flatK (encT t) t.size r.toArray).size = l.length * t.size := by rw [size_flatK]; simp [hrl]
    have hbo : blkOf (S 0) = some blk := by rw [hS]; simp [blkOf]; omega
    have hx1 : Blk.wr (.arr t l true) = true := rfl
    have hin : ∀ i x j p, r[i]? = some x → (cellsOf t x)[j]? = some p → c'[off + i * t.size + j]? = some (pvVal p) := by
      intro i x j p hx hp
      obtain ⟨k3, k4⟩ := flat_get (t := t) hx hp
      rw [hfs] at k3
      simp only [c', putCells, Array.getElem?_mapIdx]
      rw [Array.getElem?_eq_getElem (by omega : off + i * t.size + j < c.size), Option.map_some, if_pos ⟨by omega, by rw [hfs]; omega⟩]
      rw [show off + i * t.size + j - off = i * t.size + j by omega, k4]; rfl
    have hok : SlotOk S F w1 (.live (.arr t r true)) (S 0) := by
      rw [hS]
      simp only [SlotOk]
      refine ⟨by rw [hrl], trivial, hcap, fun _ ad h => by cases h; rfl, .inr ⟨_, rfl, ⟨rfl, c', tt, fr, by rw [hw1, if_pos rfl], by rw [hc's]; exact g2, by rw [hc's]; exact g3, fun j v hv => ?_, fun i x j p hx hp => ⟨_, hin i x j p hx hp, ((flat_pv t hfl _ _ (List.mem_of_getElem? hp)).2 S F w1).1⟩⟩, hF1, hF2⟩⟩
      simp only [c', putCells, Array.getElem?_mapIdx] at hv
      cases hcj : c[j]? with
      | none => rw [hcj] at hv; cases hv
      | some q =>
        rw [hcj] at hv
        simp only [Option.map_some, Option.some.injEq] at hv
        split at hv
        · subst hv
          rename_i hj
          have hT2 : j - off < r.length * t.size := by rw [hrl]; rw [hfs] at hj; omega
          obtain ⟨e1, e2, e3⟩ := split_lt hT2
          have hx := List.getElem?_eq_getElem e1
          have hl2 : (j - off) % t.size < (cellsOf t r[(j - off) / t.size]).length := by rw [cellsOf_size]; exact e2
          have hp := List.getElem?_eq_getElem hl2
          obtain ⟨_, k4⟩ := flat_get (t := t) hx hp
          rw [e3] at k4
          rw [k4]
          exact (flat_pv t hfl _ _ (List.mem_of_getElem? hp)).1
        · subst hv; exact g4 j _ hcj
    obtain ⟨q1, q2⟩ := upd_rel (w' := w1) (y := .arr t r true) hr hb hx1 rfl hbo hs1 (fun k' hk' => by rw [hw1, if_neg (fun h => hk' h.symm)]) ⟨rfl, rfl, rfl⟩ hok
    have bel : Below w1.heap.size w1 (sortWorldK (encT t) t.size w blk off n r.toArray os) := by
      refine ⟨rfl, rfl, rfl, ?_, fun k hk => ?_⟩
      · show w1.heap.size ≤ (w1.heap ++ os).size
        rw [Array.size_append]; omega
      · show (w1.heap ++ os)[k]? = _
        rw [Array.getElem?_append_left hk]
    obtain ⟨q3, q4⟩ := below_rel q1 bel
    exact ⟨_, S, F, rfl, q3, hT _ _ _, q2.trans' q4⟩
/-- slices.Grow of nothing -/
theorem ent_grow {ρ : Ren} (L : Lays8.n4 P ρ) {t : Ty} {bytes : Nat} {zp : List PV} (hz : zeroPV P (ρ.t 25) = some zp) (hs : szOf P (ρ.t 25) = some t.size) (ht : 0 < t.size) (hb : P.bytesOf (ρ.t 25) = bytes) (hb0 : 0 < bytes) (hE : Enters P (ρ.f 4)) :
    EntOk P ⟨ρ.f 4, [.nl t, .tree (.int .i64)], [.own t], fun x => bif ile 0 x.2.1 && room x.2.1.toNat bytes then some (([], ()), ((), ((), ()))) else none⟩ := by
  intro x y hy
  obtain ⟨u0, n, u⟩ := x
  obtain ⟨h0, hy⟩ := cond_some hy
  simp only [Option.some.injEq] at hy
  subst hy
  simp only [Bool.and_eq_true] at h0
  have hn0 : 0 ≤ n := by have := h0.1; unfold ile at this; simpa using this
  obtain ⟨k, rfl⟩ := Int.eq_ofNat_of_zero_le hn0
  have hk : k * bytes ≤ 70368744177664 := by have := h0.2; unfold room at this; simpa using this
  have hk' : k ≤ 70368744177664 := Nat.le_trans (Nat.le_mul_of_pos_right k hb0) hk
  refine ⟨hE, ?_⟩
  intro S F w vs hr hA
  have hsz : vs.size = 2 := hA.1
  obtain ⟨v0, v1, rfl⟩ : ∃ v0 v1, vs = #[v0, v1] := by
    obtain ⟨q⟩ := vs
    match q, hsz with
    | [a, b], _ => exact ⟨a, b, rfl⟩
  have a0 : Val S F w (.nil t) v0 := hA.2 0 _ v0 rfl rfl
  have a1 : Val S F w (.int .i64 (k : Int)) v1 := hA.2 1 _ v1 rfl rfl
  have e1 := val_int a1
  subst e1
  cases a0
  have hr' : Rel S F w [] := hr
  show Calls P (ρ.f 4) #[.slice none 0 0, .int .i64 k] w fun e w' => ∃ v S' F', e = .returned v ∧ Rel S' F' w' [.live (.arr t [] true)] ∧ Val S' F' w' (.own 0) v ∧ Adv S F w [] S' F' w' [.live (.arr t [] true)]
  obtain ⟨i0, z, hi, hz0, hzs, hzf⟩ := zeroPV_spec hz
  have hisz : i0.size = t.size := by unfold szOf at hs; rw [hi] at hs; simpa using hs
  have hib : i0.bytes = bytes := by unfold Program.bytesOf at hb; rw [hi] at hb; simpa using hb
  by_cases hk0 : k = 0
  · subst hk0
    refine (Any8.slices_Grow_room L none 0 0 0 w (Nat.le_refl _) (by omega) (by omega) (by omega)).mono ?_
    rintro e w' ⟨rfl, rfl⟩
    obtain ⟨S', F', n1, n2, n3⟩ := own_none hr' (Below.refl _ _) t none
    exact ⟨_, S', F', rfl, n1, n2, n3⟩
  · refine (Any8.slices_Grow_grow L i0 z hi hz0 (by omega) none 0 0 k [] w (Nat.le_refl _) (by omega) (by rw [hib, Nat.zero_add]; omega) (by omega) (by simp) (fun _ => rfl) (fun a h => by cases h)).mono ?_
    rintro e w' ⟨rfl, rfl⟩
    have hG := grownCap_ge w (0 + k) 0 (ρ.t 25)
    generalize grownCap w (0 + k) 0 (ρ.t 25) = G at hG ⊢
    have hdr : (w.drew).heap = w.heap := rfl
    have hr2 : Rel S F w.drew [] := hr'.heap hdr
    obtain ⟨S', n1, n2, n3⟩ := new_arr (nb := 0) (t := t) (xs := []) (c := (([] : List Value).toArray ++ Builtin.zeroCells z.cells (0 + k - 0) ++ Builtin.zeroCells z.cells (G - (0 + k)))) (e := ρ.t 25) (cap := G) (fr := (0, 0)) hr2 (by simp [hget])
      (by simp) (by
        simp only [Array.size_append, size_zeroCells, List.size_toArray, List.length_nil, hzs, hisz]
        rw [Nat.zero_add, Nat.sub_zero, Nat.zero_add, ← Nat.add_mul]; exact Nat.mul_le_mul_right _ (by omega)) (fun k _ hh => by simp at hh) (fun i x j p a b => by simp at a)
      (fun j vv hvv => by
        rw [Array.getElem?_append] at hvv
        split at hvv
        · rw [Array.getElem?_append] at hvv
          split at hvv
          · simp at hvv
          · exact zeroCells_get (hzf S F w).2.2 hvv
        · exact zeroCells_get (hzf S F w).2.2 hvv)
    have := (Adv.heap hdr ⟨rfl, rfl, rfl⟩ S F []).trans' n2
    exact ⟨_, S', F, rfl, n1, n3, this⟩
end
end Go.Proofs.YteaadaaghhojfaaGreatDoorE
end
section
namespace Go.Proofs.YteaadaaghhojfaaGreatDoorE
open Go Go.RowKit Go.Shelf Go.Proofs
set_option linter.unusedVariables false
set_option linter.unusedSimpArgs false
theorem wpList_app {P : Program} {w : World} {ops : Array Oper} {rest : List Oper} {o : Oper} {a : Act} {Q : Exit → Act → World → Prop} (hgd : o.guard = none) (s x : Operand) (t t' : TypeId) (ho : o.op = .call { callee := .builtin .append, args := #[s, x], argTypes := #[t, t'] })
    (v y u : Value) (w' : World) (hs : a.eval s = v) (hx : a.eval x = y) (hr : (Builtin.append_ #[t, t'] o.type #[v, y]).run P w = .ok u w') (h : wpList P ops Q rest (a.put o.dst u) w') : wpList P ops Q (o :: rest) a w := by
  refine wpList_plain hgd fun K hK => ?_
  unfold Oper.wp execOp
  simp only [ho, resolve, invoke, builtin, Sem.run_bind, Sem.run_pure, Result.andThen_ok, List.map_toArray, List.map_cons, List.map_nil, hs, hx, hr]
  exact hK _ _ h
/-- a copy of a row -/
theorem ent_clone {P : Program} {f : FuncId} {t : Ty} {tS e : TypeId} {z : List PV} {bytes : Nat} (ht : P.underlying tS = some (.slice e)) (hz : zeroPV P e = some z) (hs : szOf P e = some t.size) (hby : 0 < bytes) (hbe : P.bytesOf e = bytes) (hE : Enters P f)
    (hnone : ∀ c w, Calls P f #[.slice none 0 c] w fun e w' => e = .returned (.slice none 0 0) ∧ w' = w)
    (hsome : ∀ ad n c w u w', (Builtin.append_ #[tS, tS] tS #[.slice (some ⟨w.heap.size, 0, none⟩) 0 0, .slice (some ad) n c]).run P (w.alloc (.cells #[] e)) = .ok u w' → Calls P f #[.slice (some ad) n c] w fun e W => e = .returned u ∧ W = w') :
    EntOk P ⟨f, [.tree (.slice t)], [.own t], fun x => bif room x.1.length bytes then some ((x.1, ()), ((), ())) else none⟩ := by
  intro x y hy
  obtain ⟨xs, u⟩ := x
  obtain ⟨h0, hy⟩ := cond_some hy
  simp only [Option.some.injEq] at hy
  subst hy
  refine ⟨hE, ?_⟩
  intro S F w vs hr hA
  have hsz : vs.size = 1 := hA.1
  obtain ⟨v0, rfl⟩ : ∃ v0, vs = #[v0] := by
    obtain ⟨q⟩ := vs
    match q, hsz with
    | [a], _ => exact ⟨a, rfl⟩
  have a0 : Val S F w (.lst t xs) v0 := hA.2 0 _ v0 rfl rfl
  have hr' : Rel S F w [] := hr
  show Calls P f #[v0] w fun e w' => ∃ v S' F', e = .returned v ∧ Rel S' F' w' [.live (.arr t xs true)] ∧ Val S' F' w' (.own 0) v ∧ Adv S F w [] S' F' w' [.live (.arr t xs true)]
  have a0' := a0
  cases a0 with
  | lst _ _ a cap vf hc ha hsp hcell hv =>
    cases a with
    | none =>
      have : xs = [] := by
        cases xs with
        | nil => rfl
        | cons x r => obtain ⟨_, h⟩ := ha (by simp); cases h
      subst this
      refine (hnone cap w).mono ?_
      rintro e w' ⟨rfl, rfl⟩
      obtain ⟨S', F', n1, n2, n3⟩ := own_none hr' (Below.refl _ _) t none
      exact ⟨_, S', F', rfl, n1, n2, n3⟩
    | some ad =>
      have bel : Below w.heap.size w (w.alloc (.cells #[] e)) := (Below.refl _ w).alloc (Nat.le_refl _) _
      obtain ⟨g1, g2⟩ := below_rel hr' bel
      obtain ⟨u', w', S', F', k1, k2, k3, k4⟩ := app_copy (ty := tS) g1 (a0'.adv hr' g2) ht hz hs hby hbe h0 (some ⟨w.heap.size, 0, none⟩)
      refine (hsome ad _ _ w u' w' k1).mono ?_
      rintro e w'' ⟨rfl, rfl⟩
      exact ⟨_, S', F', rfl, k2, k3, g2.trans' k4⟩
abbrev sl_CloneTag_sg : List Sg := [.tree (.slice tTag)]
abbrev sl_CloneTag_rs : List Rt := [.own tTag]
def sl_CloneTag (n : Nat) (x : SgEl sl_CloneTag_sg) : Option (RtEl sl_CloneTag_rs × OutEl sl_CloneTag_sg) := bif room x.1.length 32 then some ((x.1, ()), ((), ())) else none
abbrev sl_CloneTag_ent (n : Nat) : Ent := ⟨225, sl_CloneTag_sg, sl_CloneTag_rs, sl_CloneTag n⟩
theorem sl_CloneTag_none (c : Nat) (w : World) : Calls Tryz.prog 225 #[.slice none 0 c] w fun e w' => e = .returned (.slice none 0 0) ∧ w' = w := by
  have hnil := fun (W : World) => Go.Lib.run_eql_slice_nil (P := Tryz.prog) W 34 93 none 0 c 0 0 Tryz.underlying34
  simp only [Option.isNone_none] at hnil
  go_enter Tryz.func225, Tryz.ntmps225
  go_wp2
  go_ret
  exact ⟨rfl, rfl⟩
theorem sl_CloneTag_some (ad : Addr) (n c : Nat) (w : World) (u : Value) (w' : World) (h : (Builtin.append_ #[34, 34] 34 #[.slice (some ⟨w.heap.size, 0, none⟩) 0 0, .slice (some ad) n c]).run Tryz.prog (w.alloc (.cells #[] 93)) = .ok u w') :
    Calls Tryz.prog 225 #[.slice (some ad) n c] w fun e W => e = .returned u ∧ W = w' := by
  have hnil := fun (W : World) => Go.Lib.run_eql_slice_nil (P := Tryz.prog) W 34 93 (some ad) n c 0 0 Tryz.underlying34
  simp only [Option.isNone_some] at hnil
  have A : Aside ((Builtin.append_ #[34, 34] 34 #[.slice (some ⟨w.heap.size, 0, none⟩) 0 0, .slice (some ad) n c]).run Tryz.prog (w.alloc (.cells #[] 93)) = .ok u w') := h
  clear h
  go_enter Tryz.func225, Tryz.ntmps225
  go_wp2_with (at_builtin; refine wpList_app rfl _ _ _ _ rfl _ _ _ _ rfl rfl A.out ?_)
  go_wp2
  go_ret
  exact ⟨rfl, rfl⟩
theorem sl_CloneTag_ok (n : Nat) : EntOk Tryz.prog (sl_CloneTag_ent n) :=
  ent_clone (t := tTag) (z := (zeroPV Tryz.prog 93).getD []) Tryz.underlying34 (by kernel_rfl) (by kernel_rfl) (by decide) (by kernel_rfl) (enters Tryz.func225 (by kernel_rfl) (by kernel_rfl)) sl_CloneTag_none sl_CloneTag_some
abbrev sl_CloneRow_sg : List Sg := [.tree (.slice tRow)]
abbrev sl_CloneRow_rs : List Rt := [.own tRow]
def sl_CloneRow (n : Nat) (x : SgEl sl_CloneRow_sg) : Option (RtEl sl_CloneRow_rs × OutEl sl_CloneRow_sg) := bif room x.1.length 40 then some ((x.1, ()), ((), ())) else none
abbrev sl_CloneRow_ent (n : Nat) : Ent := ⟨82, sl_CloneRow_sg, sl_CloneRow_rs, sl_CloneRow n⟩
theorem sl_CloneRow_none (c : Nat) (w : World) : Calls Tryz.prog 82 #[.slice none 0 c] w fun e w' => e = .returned (.slice none 0 0) ∧ w' = w := by
  have hnil := fun (W : World) => Go.Lib.run_eql_slice_nil (P := Tryz.prog) W 41 104 none 0 c 0 0 Tryz.underlying41
  simp only [Option.isNone_none] at hnil
  go_enter Tryz.func82, Tryz.ntmps82
  go_wp2
  go_ret
  exact ⟨rfl, rfl⟩
theorem sl_CloneRow_some (ad : Addr) (n c : Nat) (w : World) (u : Value) (w' : World) (h : (Builtin.append_ #[41, 41] 41 #[.slice (some ⟨w.heap.size, 0, none⟩) 0 0, .slice (some ad) n c]).run Tryz.prog (w.alloc (.cells #[] 104)) = .ok u w') :
    Calls Tryz.prog 82 #[.slice (some ad) n c] w fun e W => e = .returned u ∧ W = w' := by
  have hnil := fun (W : World) => Go.Lib.run_eql_slice_nil (P := Tryz.prog) W 41 104 (some ad) n c 0 0 Tryz.underlying41
  simp only [Option.isNone_some] at hnil
  have A : Aside ((Builtin.append_ #[41, 41] 41 #[.slice (some ⟨w.heap.size, 0, none⟩) 0 0, .slice (some ad) n c]).run Tryz.prog (w.alloc (.cells #[] 104)) = .ok u w') := h
  clear h
  go_enter Tryz.func82, Tryz.ntmps82
  go_wp2_with (at_builtin; refine wpList_app rfl _ _ _ _ rfl _ _ _ _ rfl rfl A.out ?_)
  go_wp2
  go_ret
  exact ⟨rfl, rfl⟩
theorem sl_CloneRow_ok (n : Nat) : EntOk Tryz.prog (sl_CloneRow_ent n) :=
  ent_clone (t := tRow) (z := (zeroPV Tryz.prog 104).getD []) Tryz.underlying41 (by kernel_rfl) (by kernel_rfl) (by decide) (by kernel_rfl) (enters Tryz.func82 (by kernel_rfl) (by kernel_rfl)) sl_CloneRow_none sl_CloneRow_some
abbrev sl_CloneMsg_sg : List Sg := [.tree (.slice tMessage)]
abbrev sl_CloneMsg_rs : List Rt := [.own tMessage]
def sl_CloneMsg (n : Nat) (x : SgEl sl_CloneMsg_sg) : Option (RtEl sl_CloneMsg_rs × OutEl sl_CloneMsg_sg) := bif room x.1.length 72 then some ((x.1, ()), ((), ())) else none
abbrev sl_CloneMsg_ent (n : Nat) : Ent := ⟨85, sl_CloneMsg_sg, sl_CloneMsg_rs, sl_CloneMsg n⟩
theorem sl_CloneMsg_none (c : Nat) (w : World) : Calls Tryz.prog 85 #[.slice none 0 c] w fun e w' => e = .returned (.slice none 0 0) ∧ w' = w := by
  have hnil := fun (W : World) => Go.Lib.run_eql_slice_nil (P := Tryz.prog) W 42 57 none 0 c 0 0 Tryz.underlying42
  simp only [Option.isNone_none] at hnil
  go_enter Tryz.func85, Tryz.ntmps85
  go_wp2
  go_ret
  exact ⟨rfl, rfl⟩
theorem sl_CloneMsg_some (ad : Addr) (n c : Nat) (w : World) (u : Value) (w' : World) (h : (Builtin.append_ #[42, 42] 42 #[.slice (some ⟨w.heap.size, 0, none⟩) 0 0, .slice (some ad) n c]).run Tryz.prog (w.alloc (.cells #[] 57)) = .ok u w') :
    Calls Tryz.prog 85 #[.slice (some ad) n c] w fun e W => e = .returned u ∧ W = w' := by
  have hnil := fun (W : World) => Go.Lib.run_eql_slice_nil (P := Tryz.prog) W 42 57 (some ad) n c 0 0 Tryz.underlying42
  simp only [Option.isNone_some] at hnil
  have A : Aside ((Builtin.append_ #[42, 42] 42 #[.slice (some ⟨w.heap.size, 0, none⟩) 0 0, .slice (some ad) n c]).run Tryz.prog (w.alloc (.cells #[] 57)) = .ok u w') := h
  clear h
  go_enter Tryz.func85, Tryz.ntmps85
  go_wp2_with (at_builtin; refine wpList_app rfl _ _ _ _ rfl _ _ _ _ rfl rfl A.out ?_)
  go_wp2
  go_ret
  exact ⟨rfl, rfl⟩
theorem sl_CloneMsg_ok (n : Nat) : EntOk Tryz.prog (sl_CloneMsg_ent n) :=
  ent_clone (t := tMessage) (z := (zeroPV Tryz.prog 57).getD []) Tryz.underlying42 (by kernel_rfl) (by kernel_rfl) (by decide) (by kernel_rfl) (enters Tryz.func85 (by kernel_rfl) (by kernel_rfl)) sl_CloneMsg_none sl_CloneMsg_some
abbrev sl_GrowMsg_sg : List Sg := [.nl tMessage, .tree (.int .i64)]
abbrev sl_GrowMsg_rs : List Rt := [.own tMessage]
def sl_GrowMsg (n : Nat) (x : SgEl sl_GrowMsg_sg) : Option (RtEl sl_GrowMsg_rs × OutEl sl_GrowMsg_sg) := bif ile 0 x.2.1 && room x.2.1.toNat 72 then some (([], ()), ((), ((), ()))) else none
abbrev sl_GrowMsg_ent (n : Nat) : Ent := ⟨187, sl_GrowMsg_sg, sl_GrowMsg_rs, sl_GrowMsg n⟩
theorem sl_GrowMsg_ok (n : Nat) : EntOk Tryz.prog (sl_GrowMsg_ent n) :=
  ent_grow (t := tMessage) (bytes := 72) (zp := (zeroPV Tryz.prog 57).getD []) Tryz.grow187 (by kernel_rfl) (by kernel_rfl) (by decide) (by kernel_rfl) (by decide) (enters Tryz.func187 (by kernel_rfl) (by kernel_rfl))
abbrev sl_SortTag_sg : List Sg := [.own tTag, .fnv 227 []]
abbrev sl_SortTag_rs : List Rt := []
def sl_SortTag_cf (x y : El tTag) : Int := Lib.compareBytes x.1.data.toList y.1.data.toList
instance sl_SortTag_inh : Inhabited (El tTag) := by unfold tTag; infer_instance
theorem sl_SortTag_swo : Go.Sort.SWO (ltOf sl_SortTag_cf) := swo_text (fun x : El tTag => x.1.data.toList)
def sl_SortTag_sorted (l : List (El tTag)) : List (El tTag) := (Go.Sort.pdq (ltOf sl_SortTag_cf) l.toArray 0 l.toArray.size (Lib.bitLen l.toArray.size) true true).toList
def sl_SortTag (n : Nat) (x : SgEl sl_SortTag_sg) : Option (RtEl sl_SortTag_rs × OutEl sl_SortTag_sg) := bif Nat.blt x.1.length 4611686018427387904 then some ((), (sl_SortTag_sorted x.1, ((), ()))) else none
abbrev sl_SortTag_ent (n : Nat) : Ent := ⟨226, sl_SortTag_sg, sl_SortTag_rs, sl_SortTag n⟩
theorem sl_SortTag_len (l : List (El tTag)) : (sl_SortTag_sorted l).length = l.length := by
  have h := Go.Sort.pdq_sorts (ltOf sl_SortTag_cf) sl_SortTag_swo l.toArray 0 l.toArray.size (Lib.bitLen l.toArray.size) true true (Nat.zero_le _) (Nat.le_refl _) (Or.inl rfl)
  have := h.1.1
  unfold sl_SortTag_sorted
  rw [Array.length_toList, this]; simp
set_option maxHeartbeats 1000000 in
theorem sl_SortTag_order (x y : El tTag) (W : World) : Calls Tryz.prog 227 #[.agg #[.string x.1, .string x.2.1], .agg #[.string y.1, .string y.2.1]] W fun e w' => e = .returned (.int .i64 (sl_SortTag_cf x y)) ∧ ∃ q os', w' = Go.Sort.grow (W.drewN q) os' := by
  have hcon := fun W' => Tryz.strings_Compare x.1 y.1 W'
  unfold sl_SortTag_cf
  generalize Lib.compareBytes x.1.data.toList y.1.data.toList = r at hcon ⊢
  go_enter Tryz.func227, Tryz.ntmps227
  go_wp2_with (go_at_call 186; refine (hcon _).mono ?_; rintro e w' ⟨rfl, rfl⟩)
  go_ret
  exact ⟨rfl, 0, _, by rw [Go.Sort.alloc_eq_grow, Go.Sort.alloc_eq_grow, Go.Sort.grow_grow]; rfl⟩
theorem sl_SortTag_ok (n : Nat) : EntOk Tryz.prog (sl_SortTag_ent n) :=
  ent_sort rfl (enters Tryz.func226 (by kernel_rfl) (by kernel_rfl)) sl_SortTag_sorted sl_SortTag_len (fun l blk off cap w hH hblk hlt => by
    have eg : ∀ args w, (callFunc 227 args).run Tryz.prog w = .ok (.enter 227 args) w := enters_of Tryz.func227 (by kernel_rfl) rfl
    have e : l.toArray.size = l.length := by simp
    have hcon := AnyQ.slices_SortFunc_eq Tryz.sort226 (Ty.size tTag) Tryz.isAgg93 Tryz.sizeOf93 (encT tTag) (encT_len tTag) (encT_one rfl) sl_SortTag_cf sl_SortTag_swo 227 #[] blk off cap l.toArray w eg (fun _ _ _ _ x y => sl_SortTag_order x y _) hH hblk (by rw [e]; exact hlt)
    rw [e] at hcon
    refine hcon.mono ?_
    rintro e' w' ⟨rfl, n, os, rfl⟩
    exact ⟨rfl, n, os, by unfold sl_SortTag_sorted; rw [Array.toArray_toList, e]⟩) fun A c w => AnyF.slices_SortFunc_none Tryz.sort226 A c _ w
end Go.Proofs.YteaadaaghhojfaaGreatDoorE
end
section
namespace Go.Proofs.YteaadaaghhojfaaGreatDoorE
open Go Go.ChangeShapes Go.WideShapes Go.ChangeAt Go.RowKit
set_option linter.unusedVariables false
/-- the cells of a datum of numbers, as a table lays them -/
def cells_of : DataW Unit → List Value
  | .lit (.int k n) => [.int k n]
  | .agg l => go l
  | _ => []
where go : List (DataW Unit) → List Value
  | [] => []
  | d :: r => cells_of d ++ go r
theorem law_walk {X : Type} {enc : TypeId × Value → X} {P : Program} {f : FuncId} {tys : List Ty} {F : SgEl (tys.map Sg.tree) → Option (RtEl [.tree .bool] × OutEl (tys.map Sg.tree))} (hl : laidOutB P = true) {params : Array TypeId}
    (hp : params.toList.all (fun t => P.readableRec t && decide (t < P.types.size)) = true) (hg : params.toList.all (tyGood P 20) = true) (htys : params.toList.map (tyOf P 20) = tys) (hE : EntOk P ⟨f, tys.map Sg.tree, [.tree .bool], F⟩)
    (hX : ∀ x, okArgs tys x → ∃ o, F x = some ((true, ()), o)) {W : World} {base : Nat} {args : Array Value} {ds gs : List (DataW X)} {before : List MemPlace} (hval : ∀ (j : Nat) t v, params[j]? = some t → args[j]? = some v → Value.okWide P W .any base t v)
    (hW : DataW.Whole enc P params.toList [] false W args.toList ds gs before) (hsz : (DataW.weightsEach P (params.toList ++ []) (ds ++ gs)).all (· ≤ reachBytes) = true) :
    gs = [] ∧ ds.length = params.toList.length ∧ Calls P f args W fun e W' => e = .returned (.bool true) ∧ Below W.heap.size W W' ∧ DataW.TrodAll enc P W' 0 (fun b => decide (b < W.heap.size)) true params.toList args.toList ds before := by
  subst htys
  obtain ⟨p, q, hA, hV, rfl, hfz, hnd⟩ := hW
  obtain ⟨rfl, rfl⟩ := trodVars_none hV
  obtain ⟨l1, l2⟩ := trodAll_len hA
  refine ⟨rfl, l2, ?_⟩
  obtain ⟨x, hx, hlen, hv⟩ := args_open (r := .any) (b0 := base) params.toList args.toList ds p hg hA (fun j t v a b => hval j t v (by simpa using a) (by simpa using b)) (weights_each (us := []) (gs := []) l2 hsz)
  obtain ⟨o, ho⟩ := hX x hx
  refine (law_calls hE ho hlen hv).mono ?_
  rintro e W' ⟨rfl, bel⟩
  refine ⟨rfl, bel, ?_⟩
  rw [List.append_nil]
  exact trodAll_below hl bel hp hA
end Go.Proofs.YteaadaaghhojfaaGreatDoorE
end
