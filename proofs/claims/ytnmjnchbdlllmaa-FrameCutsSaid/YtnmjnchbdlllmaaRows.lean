/-
  No cell of these rows narrows 'for every input' (looked for: loops, veiled, ifaces, maps, wideKeys, modest, calm, conditions, laid).
  DERIVED. THE GIVEN ROWS OF THIS SEAT. 8 by the template 'for every input the law returns true; each argument reads behind the call as it read before'; 0 by the template 'total and deterministic' (their statements: YtnmjnchbdlllmaaTotals.lean).
  GIVEN WITH THE SEED: the statements are not yours to turn. If you find one false, say at which input.
  Laid BY PROGRAM, IN A SANDBOX (cutbox-rows.mjs): the forced cells as the released guide's own fill.sh prints them over the translation c015727b2959dba6… (all of the seat's roots in one cut). By AI agents, Wed Nov 11 2026. No macro, syntax, notation, axiom, sorry.
-/
import Derived.Test.YtnmjnchbdlllmaaChecked
import GoSem.Claim
import GoSem.ClaimJoined
import GoSem.ClaimMapViews
import Derived.JoinedTies
import Derived.KernelRfl
namespace Go.Proofs.Ytnmjnchbdlllmaa
/- THE CELL 'sum', in the pinned program and in every row, IS THE sha256 OF THE DUMP (.gsa) THAT YtnmjnchbdlllmaaProg.lean LOADS. Nothing in Lean hashes anything: it is a label: what it is worth is what the hold of that sum in a sandbox is worth. -/
noncomputable def Try.pinned : Pinned := { name := "ytnmjnchbdlllmaa", sum := "c015727b2959dba6759e8a10f27281124730a84d75c80ff85fba0ac6cde0a940", checked := Try.checked }
namespace Rows
def none {H : Type} : Left H := { results := [], args := [] }

/-- 'ebbtidelaw12.SpreadHashes': WHATEVER THE INPUT: true; the input reads as it did. -/
def spreadHashesSpec : ChangeSpec := { name := "spreadHashes", fn := fun _ => fun
  | [d1, d2] => { results := [.lit (.bool true)], args := [d1, d2] }
  | _ => none }
def spreadHashesRow : OpenClaim := { program := "ytnmjnchbdlllmaa", sum := "c015727b2959dba6759e8a10f27281124730a84d75c80ff85fba0ac6cde0a940", func := "ebbtide/ebbtidelaw12.SpreadHashes", spec := "spreadHashes", apart := false }
def SpreadHashesSaid : Prop := spreadHashesRow.holds Try.pinned (OpenSpec.ofChange spreadHashesSpec)

/-- ITS FALSE NEIGHBOUR: 'it returns false'. Refute it at one input. -/
def spreadHashesWrong : ChangeSpec := { name := "spreadHashes", fn := fun _ => fun
  | [d1, d2] => { results := [.lit (.bool false)], args := [d1, d2] }
  | _ => none }
def SpreadHashesWrongFalsely : Prop := spreadHashesRow.holds Try.pinned (OpenSpec.ofChange spreadHashesWrong)

/-- 'ebbtidelaw12.SpreadParts': WHATEVER THE INPUT: true; the input reads as it did. -/
def spreadPartsSpec : ChangeSpec := { name := "spreadParts", fn := fun _ => fun
  | [d1, d2] => { results := [.lit (.bool true)], args := [d1, d2] }
  | _ => none }
def spreadPartsRow : OpenClaim := { program := "ytnmjnchbdlllmaa", sum := "c015727b2959dba6759e8a10f27281124730a84d75c80ff85fba0ac6cde0a940", func := "ebbtide/ebbtidelaw12.SpreadParts", spec := "spreadParts", apart := false }
def SpreadPartsSaid : Prop := spreadPartsRow.holds Try.pinned (OpenSpec.ofChange spreadPartsSpec)

/-- ITS FALSE NEIGHBOUR: 'it returns false'. Refute it at one input. -/
def spreadPartsWrong : ChangeSpec := { name := "spreadParts", fn := fun _ => fun
  | [d1, d2] => { results := [.lit (.bool false)], args := [d1, d2] }
  | _ => none }
def SpreadPartsWrongFalsely : Prop := spreadPartsRow.holds Try.pinned (OpenSpec.ofChange spreadPartsWrong)

/-- 'ebbtidelaw12.SpreadOnce': WHATEVER THE INPUT: true; the input reads as it did. -/
def spreadOnceSpec : ChangeSpec := { name := "spreadOnce", fn := fun _ => fun
  | [d1, d2] => { results := [.lit (.bool true)], args := [d1, d2] }
  | _ => none }
def spreadOnceRow : OpenClaim := { program := "ytnmjnchbdlllmaa", sum := "c015727b2959dba6759e8a10f27281124730a84d75c80ff85fba0ac6cde0a940", func := "ebbtide/ebbtidelaw12.SpreadOnce", spec := "spreadOnce", apart := false }
def SpreadOnceSaid : Prop := spreadOnceRow.holds Try.pinned (OpenSpec.ofChange spreadOnceSpec)

/-- ITS FALSE NEIGHBOUR: 'it returns false'. Refute it at one input. -/
def spreadOnceWrong : ChangeSpec := { name := "spreadOnce", fn := fun _ => fun
  | [d1, d2] => { results := [.lit (.bool false)], args := [d1, d2] }
  | _ => none }
def SpreadOnceWrongFalsely : Prop := spreadOnceRow.holds Try.pinned (OpenSpec.ofChange spreadOnceWrong)

/-- 'ebbtidelaw12.SpreadGrows': WHATEVER THE INPUT: true; the input reads as it did. -/
def spreadGrowsSpec : ChangeSpec := { name := "spreadGrows", fn := fun _ => fun
  | [d1, d2] => { results := [.lit (.bool true)], args := [d1, d2] }
  | _ => none }
def spreadGrowsRow : OpenClaim := { program := "ytnmjnchbdlllmaa", sum := "c015727b2959dba6759e8a10f27281124730a84d75c80ff85fba0ac6cde0a940", func := "ebbtide/ebbtidelaw12.SpreadGrows", spec := "spreadGrows", apart := false }
def SpreadGrowsSaid : Prop := spreadGrowsRow.holds Try.pinned (OpenSpec.ofChange spreadGrowsSpec)

/-- ITS FALSE NEIGHBOUR: 'it returns false'. Refute it at one input. -/
def spreadGrowsWrong : ChangeSpec := { name := "spreadGrows", fn := fun _ => fun
  | [d1, d2] => { results := [.lit (.bool false)], args := [d1, d2] }
  | _ => none }
def SpreadGrowsWrongFalsely : Prop := spreadGrowsRow.holds Try.pinned (OpenSpec.ofChange spreadGrowsWrong)

/-- 'ebbtidelaw21.FramePushes': WHATEVER THE INPUT: true; the input reads as it did. -/
def framePushesSpec : ChangeSpec := { name := "framePushes", fn := fun _ => fun
  | [d1, d2, d3] => { results := [.lit (.bool true)], args := [d1, d2, d3] }
  | _ => none }
def framePushesRow : OpenClaim := { program := "ytnmjnchbdlllmaa", sum := "c015727b2959dba6759e8a10f27281124730a84d75c80ff85fba0ac6cde0a940", func := "ebbtide/ebbtidelaw21.FramePushes", spec := "framePushes", inPlace := ["internal/bytealg.IndexByte"], apart := false }
def FramePushesSaid : Prop := framePushesRow.holds Try.pinned (OpenSpec.ofChange framePushesSpec)

/-- ITS FALSE NEIGHBOUR: 'it returns false'. Refute it at one input. -/
def framePushesWrong : ChangeSpec := { name := "framePushes", fn := fun _ => fun
  | [d1, d2, d3] => { results := [.lit (.bool false)], args := [d1, d2, d3] }
  | _ => none }
def FramePushesWrongFalsely : Prop := framePushesRow.holds Try.pinned (OpenSpec.ofChange framePushesWrong)

/-- 'ebbtidelaw21.FrameLines': WHATEVER THE INPUT: true; the input reads as it did. -/
def frameLinesSpec : ChangeSpec := { name := "frameLines", fn := fun _ => fun
  | [d] => { results := [.lit (.bool true)], args := [d] }
  | _ => none }
def frameLinesRow : OpenClaim := { program := "ytnmjnchbdlllmaa", sum := "c015727b2959dba6759e8a10f27281124730a84d75c80ff85fba0ac6cde0a940", func := "ebbtide/ebbtidelaw21.FrameLines", spec := "frameLines", inPlace := ["internal/bytealg.IndexByte"], apart := false }
def FrameLinesSaid : Prop := frameLinesRow.holds Try.pinned (OpenSpec.ofChange frameLinesSpec)

/-- ITS FALSE NEIGHBOUR: 'it returns false'. Refute it at one input. -/
def frameLinesWrong : ChangeSpec := { name := "frameLines", fn := fun _ => fun
  | [d] => { results := [.lit (.bool false)], args := [d] }
  | _ => none }
def FrameLinesWrongFalsely : Prop := frameLinesRow.holds Try.pinned (OpenSpec.ofChange frameLinesWrong)

/-- 'ebbtidelaw21.FrameCuts': WHATEVER THE INPUT: true; the input reads as it did. -/
def frameCutsSpec : ChangeSpec := { name := "frameCuts", fn := fun _ => fun
  | [d1, d2] => { results := [.lit (.bool true)], args := [d1, d2] }
  | _ => none }
def frameCutsRow : OpenClaim := { program := "ytnmjnchbdlllmaa", sum := "c015727b2959dba6759e8a10f27281124730a84d75c80ff85fba0ac6cde0a940", func := "ebbtide/ebbtidelaw21.FrameCuts", spec := "frameCuts", inPlace := ["internal/bytealg.IndexByte"], apart := false }
def FrameCutsSaid : Prop := frameCutsRow.holds Try.pinned (OpenSpec.ofChange frameCutsSpec)

/-- ITS FALSE NEIGHBOUR: 'it returns false'. Refute it at one input. -/
def frameCutsWrong : ChangeSpec := { name := "frameCuts", fn := fun _ => fun
  | [d1, d2] => { results := [.lit (.bool false)], args := [d1, d2] }
  | _ => none }
def FrameCutsWrongFalsely : Prop := frameCutsRow.holds Try.pinned (OpenSpec.ofChange frameCutsWrong)

/-- 'ebbtidelaw21.FrameCounts': WHATEVER THE INPUT: true; the input reads as it did. -/
def frameCountsSpec : ChangeSpec := { name := "frameCounts", fn := fun _ => fun
  | [d] => { results := [.lit (.bool true)], args := [d] }
  | _ => none }
def frameCountsRow : OpenClaim := { program := "ytnmjnchbdlllmaa", sum := "c015727b2959dba6759e8a10f27281124730a84d75c80ff85fba0ac6cde0a940", func := "ebbtide/ebbtidelaw21.FrameCounts", spec := "frameCounts", inPlace := ["internal/bytealg.IndexByte"], apart := false }
def FrameCountsSaid : Prop := frameCountsRow.holds Try.pinned (OpenSpec.ofChange frameCountsSpec)

/-- ITS FALSE NEIGHBOUR: 'it returns false'. Refute it at one input. -/
def frameCountsWrong : ChangeSpec := { name := "frameCounts", fn := fun _ => fun
  | [d] => { results := [.lit (.bool false)], args := [d] }
  | _ => none }
def FrameCountsWrongFalsely : Prop := frameCountsRow.holds Try.pinned (OpenSpec.ofChange frameCountsWrong)

/- THE SECOND FORM. 'bulk': how many values and letters a reading holds, each counted each time it is reached (what is shared counts as often as it is met; a slice's spare places count too). A statement '..UptoSaid' is the law's where the arguments, and the package variables that the reading takes, are together of bulk at most 1048576: NARROWER than '..Said'. Prove '..Said' where nothing that the law and all that it calls make is longer than what came in: it says more and counts as full. Else prove '..UptoSaid'. A law counts once. -/
mutual
def uptoBulk {H : Type} : DataW H → Nat
  | .lit (.string bytes) => bytes.length + 1
  | .lit _ => 1
  | .nil => 1
  | .ptr d => uptoBulk d + 1
  | .slice elems spare => uptoBulkAll elems + uptoBulkAll spare + 1
  | .agg parts => uptoBulkAll parts + 1
  | .iface _ d => uptoBulk d + 1
  | .map entries => uptoBulkEntries entries + 1
  | .held _ => 1
def uptoBulkAll {H : Type} : List (DataW H) → Nat
  | [] => 0
  | d :: r => uptoBulk d + uptoBulkAll r
def uptoBulkEntries {H : Type} : List (Lit × DataW H) → Nat
  | [] => 0
  | x :: r => uptoBulkEntry x + uptoBulkEntries r
def uptoBulkEntry {H : Type} : Lit × DataW H → Nat
  | (.string bytes, d) => bytes.length + uptoBulk d + 1
  | (_, d) => uptoBulk d + 1
 end
def uptoSmall : (H : Type) → List (DataW H) → Bool := fun _ ds => decide (uptoBulkAll ds ≤ 1048576)
def OpenSpec.upto (s : _root_.Go.ChangeSpec) : _root_.Go.OpenSpec := { _root_.Go.OpenSpec.ofChange s with cond := some uptoSmall }

/-- 'ebbtidelaw12.SpreadHashes', WHERE WHAT IT READS IS OF BULK AT MOST 1048576: true; the input reads as it did. -/
def spreadHashesUptoRow : OpenClaim := { program := "ytnmjnchbdlllmaa", sum := "c015727b2959dba6759e8a10f27281124730a84d75c80ff85fba0ac6cde0a940", func := "ebbtide/ebbtidelaw12.SpreadHashes", spec := "spreadHashes", apart := false, narrowed := true }
def SpreadHashesUptoSaid : Prop := spreadHashesUptoRow.holds Try.pinned (OpenSpec.upto spreadHashesSpec)

/-- 'ebbtidelaw12.SpreadParts', WHERE WHAT IT READS IS OF BULK AT MOST 1048576: true; the input reads as it did. -/
def spreadPartsUptoRow : OpenClaim := { program := "ytnmjnchbdlllmaa", sum := "c015727b2959dba6759e8a10f27281124730a84d75c80ff85fba0ac6cde0a940", func := "ebbtide/ebbtidelaw12.SpreadParts", spec := "spreadParts", apart := false, narrowed := true }
def SpreadPartsUptoSaid : Prop := spreadPartsUptoRow.holds Try.pinned (OpenSpec.upto spreadPartsSpec)

/-- 'ebbtidelaw12.SpreadOnce', WHERE WHAT IT READS IS OF BULK AT MOST 1048576: true; the input reads as it did. -/
def spreadOnceUptoRow : OpenClaim := { program := "ytnmjnchbdlllmaa", sum := "c015727b2959dba6759e8a10f27281124730a84d75c80ff85fba0ac6cde0a940", func := "ebbtide/ebbtidelaw12.SpreadOnce", spec := "spreadOnce", apart := false, narrowed := true }
def SpreadOnceUptoSaid : Prop := spreadOnceUptoRow.holds Try.pinned (OpenSpec.upto spreadOnceSpec)

/-- 'ebbtidelaw12.SpreadGrows', WHERE WHAT IT READS IS OF BULK AT MOST 1048576: true; the input reads as it did. -/
def spreadGrowsUptoRow : OpenClaim := { program := "ytnmjnchbdlllmaa", sum := "c015727b2959dba6759e8a10f27281124730a84d75c80ff85fba0ac6cde0a940", func := "ebbtide/ebbtidelaw12.SpreadGrows", spec := "spreadGrows", apart := false, narrowed := true }
def SpreadGrowsUptoSaid : Prop := spreadGrowsUptoRow.holds Try.pinned (OpenSpec.upto spreadGrowsSpec)

/-- 'ebbtidelaw21.FramePushes', WHERE WHAT IT READS IS OF BULK AT MOST 1048576: true; the input reads as it did. -/
def framePushesUptoRow : OpenClaim := { program := "ytnmjnchbdlllmaa", sum := "c015727b2959dba6759e8a10f27281124730a84d75c80ff85fba0ac6cde0a940", func := "ebbtide/ebbtidelaw21.FramePushes", spec := "framePushes", inPlace := ["internal/bytealg.IndexByte"], apart := false, narrowed := true }
def FramePushesUptoSaid : Prop := framePushesUptoRow.holds Try.pinned (OpenSpec.upto framePushesSpec)

/-- 'ebbtidelaw21.FrameLines', WHERE WHAT IT READS IS OF BULK AT MOST 1048576: true; the input reads as it did. -/
def frameLinesUptoRow : OpenClaim := { program := "ytnmjnchbdlllmaa", sum := "c015727b2959dba6759e8a10f27281124730a84d75c80ff85fba0ac6cde0a940", func := "ebbtide/ebbtidelaw21.FrameLines", spec := "frameLines", inPlace := ["internal/bytealg.IndexByte"], apart := false, narrowed := true }
def FrameLinesUptoSaid : Prop := frameLinesUptoRow.holds Try.pinned (OpenSpec.upto frameLinesSpec)

/-- 'ebbtidelaw21.FrameCuts', WHERE WHAT IT READS IS OF BULK AT MOST 1048576: true; the input reads as it did. -/
def frameCutsUptoRow : OpenClaim := { program := "ytnmjnchbdlllmaa", sum := "c015727b2959dba6759e8a10f27281124730a84d75c80ff85fba0ac6cde0a940", func := "ebbtide/ebbtidelaw21.FrameCuts", spec := "frameCuts", inPlace := ["internal/bytealg.IndexByte"], apart := false, narrowed := true }
def FrameCutsUptoSaid : Prop := frameCutsUptoRow.holds Try.pinned (OpenSpec.upto frameCutsSpec)

/-- 'ebbtidelaw21.FrameCounts', WHERE WHAT IT READS IS OF BULK AT MOST 1048576: true; the input reads as it did. -/
def frameCountsUptoRow : OpenClaim := { program := "ytnmjnchbdlllmaa", sum := "c015727b2959dba6759e8a10f27281124730a84d75c80ff85fba0ac6cde0a940", func := "ebbtide/ebbtidelaw21.FrameCounts", spec := "frameCounts", inPlace := ["internal/bytealg.IndexByte"], apart := false, narrowed := true }
def FrameCountsUptoSaid : Prop := frameCountsUptoRow.holds Try.pinned (OpenSpec.upto frameCountsSpec)

end Rows
end Go.Proofs.Ytnmjnchbdlllmaa
