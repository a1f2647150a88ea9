/-
  No cell of these rows narrows 'for every input' (looked for: loops, veiled, ifaces, maps, wideKeys, modest, calm, conditions, laid).
  DERIVED. THE GIVEN ROWS OF THIS SEAT. 7 by the template 'for every input the law returns true; each argument reads behind the call as it read before'; 0 by the template 'total and deterministic' (their statements: YtlnojddenddemaaTotals.lean).
  GIVEN WITH THE SEED: the statements are not yours to turn. If you find one false, say at which input.
  Laid BY PROGRAM, IN A SANDBOX (cutbox-rows.mjs): the forced cells as the released guide's own fill.sh prints them over the translation 40303fde1d9b89d9… (all of the seat's roots in one cut). By AI agents, Wed Nov 11 2026. No macro, syntax, notation, axiom, sorry.
-/
import Derived.Test.YtlnojddenddemaaChecked
import GoSem.Claim
import GoSem.ClaimJoined
import GoSem.ClaimMapViews
import Derived.JoinedTies
import Derived.KernelRfl
namespace Go.Proofs.Ytlnojddenddemaa
/- THE CELL 'sum', in the pinned program and in every row, IS THE sha256 OF THE DUMP (.gsa) THAT YtlnojddenddemaaProg.lean LOADS. Nothing in Lean hashes anything: it is a label: what it is worth is what the hold of that sum in a sandbox is worth. -/
noncomputable def Try.pinned : Pinned := { name := "ytlnojddenddemaa", sum := "40303fde1d9b89d9e1501bb4500afbd8284c98301fcf426ee5ecd9a5a8e151ca", checked := Try.checked }
namespace Rows
def none {H : Type} : Left H := { results := [], args := [] }

/-- 'lemmatalaw4.NfaAll': WHATEVER THE INPUT: true; the input reads as it did. -/
def nfaAllSpec : ChangeSpec := { name := "nfaAll", fn := fun _ => fun
  | [d1, d2, d3] => { results := [.lit (.bool true)], args := [d1, d2, d3] }
  | _ => none }
def nfaAllRow : OpenClaim := { program := "ytlnojddenddemaa", sum := "40303fde1d9b89d9e1501bb4500afbd8284c98301fcf426ee5ecd9a5a8e151ca", func := "lemmata/lemmatalaw4.NfaAll", spec := "nfaAll", recurses := true, apart := false }
def NfaAllSaid : Prop := nfaAllRow.holds Try.pinned (OpenSpec.ofChange nfaAllSpec)

/-- ITS FALSE NEIGHBOUR: 'it returns false'. Refute it at one input. -/
def nfaAllWrong : ChangeSpec := { name := "nfaAll", fn := fun _ => fun
  | [d1, d2, d3] => { results := [.lit (.bool false)], args := [d1, d2, d3] }
  | _ => none }
def NfaAllWrongFalsely : Prop := nfaAllRow.holds Try.pinned (OpenSpec.ofChange nfaAllWrong)

/-- 'lemmatalaw4.NfaEach': WHATEVER THE INPUT: true; the input reads as it did. -/
def nfaEachSpec : ChangeSpec := { name := "nfaEach", fn := fun _ => fun
  | [d1, d2] => { results := [.lit (.bool true)], args := [d1, d2] }
  | _ => none }
def nfaEachRow : OpenClaim := { program := "ytlnojddenddemaa", sum := "40303fde1d9b89d9e1501bb4500afbd8284c98301fcf426ee5ecd9a5a8e151ca", func := "lemmata/lemmatalaw4.NfaEach", spec := "nfaEach", recurses := true, apart := false }
def NfaEachSaid : Prop := nfaEachRow.holds Try.pinned (OpenSpec.ofChange nfaEachSpec)

/-- ITS FALSE NEIGHBOUR: 'it returns false'. Refute it at one input. -/
def nfaEachWrong : ChangeSpec := { name := "nfaEach", fn := fun _ => fun
  | [d1, d2] => { results := [.lit (.bool false)], args := [d1, d2] }
  | _ => none }
def NfaEachWrongFalsely : Prop := nfaEachRow.holds Try.pinned (OpenSpec.ofChange nfaEachWrong)

/-- 'lemmatalaw4.NfaMore': WHATEVER THE INPUT: true; the input reads as it did. -/
def nfaMoreSpec : ChangeSpec := { name := "nfaMore", fn := fun _ => fun
  | [d1, d2] => { results := [.lit (.bool true)], args := [d1, d2] }
  | _ => none }
def nfaMoreRow : OpenClaim := { program := "ytlnojddenddemaa", sum := "40303fde1d9b89d9e1501bb4500afbd8284c98301fcf426ee5ecd9a5a8e151ca", func := "lemmata/lemmatalaw4.NfaMore", spec := "nfaMore", recurses := true, apart := false }
def NfaMoreSaid : Prop := nfaMoreRow.holds Try.pinned (OpenSpec.ofChange nfaMoreSpec)

/-- ITS FALSE NEIGHBOUR: 'it returns false'. Refute it at one input. -/
def nfaMoreWrong : ChangeSpec := { name := "nfaMore", fn := fun _ => fun
  | [d1, d2] => { results := [.lit (.bool false)], args := [d1, d2] }
  | _ => none }
def NfaMoreWrongFalsely : Prop := nfaMoreRow.holds Try.pinned (OpenSpec.ofChange nfaMoreWrong)

/-- 'lemmatalaw5.DfaAll': WHATEVER THE INPUT: true; the input reads as it did. -/
def dfaAllSpec : ChangeSpec := { name := "dfaAll", fn := fun _ => fun
  | [d1, d2, d3] => { results := [.lit (.bool true)], args := [d1, d2, d3] }
  | _ => none }
def dfaAllRow : OpenClaim := { program := "ytlnojddenddemaa", sum := "40303fde1d9b89d9e1501bb4500afbd8284c98301fcf426ee5ecd9a5a8e151ca", func := "lemmata/lemmatalaw5.DfaAll", spec := "dfaAll", recurses := true, apart := false }
def DfaAllSaid : Prop := dfaAllRow.holds Try.pinned (OpenSpec.ofChange dfaAllSpec)

/-- ITS FALSE NEIGHBOUR: 'it returns false'. Refute it at one input. -/
def dfaAllWrong : ChangeSpec := { name := "dfaAll", fn := fun _ => fun
  | [d1, d2, d3] => { results := [.lit (.bool false)], args := [d1, d2, d3] }
  | _ => none }
def DfaAllWrongFalsely : Prop := dfaAllRow.holds Try.pinned (OpenSpec.ofChange dfaAllWrong)

/-- 'lemmatalaw5.DfaWays': WHATEVER THE INPUT: true; the input reads as it did. -/
def dfaWaysSpec : ChangeSpec := { name := "dfaWays", fn := fun _ => fun
  | [d] => { results := [.lit (.bool true)], args := [d] }
  | _ => none }
def dfaWaysRow : OpenClaim := { program := "ytlnojddenddemaa", sum := "40303fde1d9b89d9e1501bb4500afbd8284c98301fcf426ee5ecd9a5a8e151ca", func := "lemmata/lemmatalaw5.DfaWays", spec := "dfaWays", recurses := true, apart := false }
def DfaWaysSaid : Prop := dfaWaysRow.holds Try.pinned (OpenSpec.ofChange dfaWaysSpec)

/-- ITS FALSE NEIGHBOUR: 'it returns false'. Refute it at one input. -/
def dfaWaysWrong : ChangeSpec := { name := "dfaWays", fn := fun _ => fun
  | [d] => { results := [.lit (.bool false)], args := [d] }
  | _ => none }
def DfaWaysWrongFalsely : Prop := dfaWaysRow.holds Try.pinned (OpenSpec.ofChange dfaWaysWrong)

/-- 'lemmatalaw5.DfaMany': WHATEVER THE INPUT: true; the input reads as it did. -/
def dfaManySpec : ChangeSpec := { name := "dfaMany", fn := fun _ => fun
  | [d] => { results := [.lit (.bool true)], args := [d] }
  | _ => none }
def dfaManyRow : OpenClaim := { program := "ytlnojddenddemaa", sum := "40303fde1d9b89d9e1501bb4500afbd8284c98301fcf426ee5ecd9a5a8e151ca", func := "lemmata/lemmatalaw5.DfaMany", spec := "dfaMany", recurses := true, apart := false }
def DfaManySaid : Prop := dfaManyRow.holds Try.pinned (OpenSpec.ofChange dfaManySpec)

/-- ITS FALSE NEIGHBOUR: 'it returns false'. Refute it at one input. -/
def dfaManyWrong : ChangeSpec := { name := "dfaMany", fn := fun _ => fun
  | [d] => { results := [.lit (.bool false)], args := [d] }
  | _ => none }
def DfaManyWrongFalsely : Prop := dfaManyRow.holds Try.pinned (OpenSpec.ofChange dfaManyWrong)

/-- 'lemmatalaw5.DfaWild': WHATEVER THE INPUT: true; the input reads as it did. -/
def dfaWildSpec : ChangeSpec := { name := "dfaWild", fn := fun _ => fun
  | [d1, d2] => { results := [.lit (.bool true)], args := [d1, d2] }
  | _ => none }
def dfaWildRow : OpenClaim := { program := "ytlnojddenddemaa", sum := "40303fde1d9b89d9e1501bb4500afbd8284c98301fcf426ee5ecd9a5a8e151ca", func := "lemmata/lemmatalaw5.DfaWild", spec := "dfaWild", apart := false }
def DfaWildSaid : Prop := dfaWildRow.holds Try.pinned (OpenSpec.ofChange dfaWildSpec)

/-- ITS FALSE NEIGHBOUR: 'it returns false'. Refute it at one input. -/
def dfaWildWrong : ChangeSpec := { name := "dfaWild", fn := fun _ => fun
  | [d1, d2] => { results := [.lit (.bool false)], args := [d1, d2] }
  | _ => none }
def DfaWildWrongFalsely : Prop := dfaWildRow.holds Try.pinned (OpenSpec.ofChange dfaWildWrong)

/- THE SECOND FORM. 'bulk': how many values and letters a reading holds, each counted each time it is reached (what is shared counts as often as it is met; a slice's spare places count too). A statement '..UptoSaid' is the law's where the arguments, and the package variables that the reading takes, are together of bulk at most 1048576: NARROWER than '..Said'. Prove '..Said' where nothing that the law and all that it calls make is longer than what came in: it says more and counts as full. Else prove '..UptoSaid'. A law counts once. -/
mutual
def uptoBulk {H : Type} : DataW H → Nat
  | .lit (.string bytes) => bytes.length + 1
  | .lit _ => 1
  | .nil => 1
  | .ptr d => uptoBulk d + 1
  | .slice elems spare => uptoBulkAll elems + uptoBulkAll spare + 1
  | .agg parts => uptoBulkAll parts + 1
  | .iface _ d => uptoBulk d + 1
  | .map entries => uptoBulkEntries entries + 1
  | .held _ => 1
def uptoBulkAll {H : Type} : List (DataW H) → Nat
  | [] => 0
  | d :: r => uptoBulk d + uptoBulkAll r
def uptoBulkEntries {H : Type} : List (Lit × DataW H) → Nat
  | [] => 0
  | x :: r => uptoBulkEntry x + uptoBulkEntries r
def uptoBulkEntry {H : Type} : Lit × DataW H → Nat
  | (.string bytes, d) => bytes.length + uptoBulk d + 1
  | (_, d) => uptoBulk d + 1
 end
def uptoSmall : (H : Type) → List (DataW H) → Bool := fun _ ds => decide (uptoBulkAll ds ≤ 1048576)
def OpenSpec.upto (s : _root_.Go.ChangeSpec) : _root_.Go.OpenSpec := { _root_.Go.OpenSpec.ofChange s with cond := some uptoSmall }

/-- 'lemmatalaw4.NfaAll', WHERE WHAT IT READS IS OF BULK AT MOST 1048576: true; the input reads as it did. -/
def nfaAllUptoRow : OpenClaim := { program := "ytlnojddenddemaa", sum := "40303fde1d9b89d9e1501bb4500afbd8284c98301fcf426ee5ecd9a5a8e151ca", func := "lemmata/lemmatalaw4.NfaAll", spec := "nfaAll", recurses := true, apart := false, narrowed := true }
def NfaAllUptoSaid : Prop := nfaAllUptoRow.holds Try.pinned (OpenSpec.upto nfaAllSpec)

/-- 'lemmatalaw4.NfaEach', WHERE WHAT IT READS IS OF BULK AT MOST 1048576: true; the input reads as it did. -/
def nfaEachUptoRow : OpenClaim := { program := "ytlnojddenddemaa", sum := "40303fde1d9b89d9e1501bb4500afbd8284c98301fcf426ee5ecd9a5a8e151ca", func := "lemmata/lemmatalaw4.NfaEach", spec := "nfaEach", recurses := true, apart := false, narrowed := true }
def NfaEachUptoSaid : Prop := nfaEachUptoRow.holds Try.pinned (OpenSpec.upto nfaEachSpec)

/-- 'lemmatalaw4.NfaMore', WHERE WHAT IT READS IS OF BULK AT MOST 1048576: true; the input reads as it did. -/
def nfaMoreUptoRow : OpenClaim := { program := "ytlnojddenddemaa", sum := "40303fde1d9b89d9e1501bb4500afbd8284c98301fcf426ee5ecd9a5a8e151ca", func := "lemmata/lemmatalaw4.NfaMore", spec := "nfaMore", recurses := true, apart := false, narrowed := true }
def NfaMoreUptoSaid : Prop := nfaMoreUptoRow.holds Try.pinned (OpenSpec.upto nfaMoreSpec)

/-- 'lemmatalaw5.DfaAll', WHERE WHAT IT READS IS OF BULK AT MOST 1048576: true; the input reads as it did. -/
def dfaAllUptoRow : OpenClaim := { program := "ytlnojddenddemaa", sum := "40303fde1d9b89d9e1501bb4500afbd8284c98301fcf426ee5ecd9a5a8e151ca", func := "lemmata/lemmatalaw5.DfaAll", spec := "dfaAll", recurses := true, apart := false, narrowed := true }
def DfaAllUptoSaid : Prop := dfaAllUptoRow.holds Try.pinned (OpenSpec.upto dfaAllSpec)

/-- 'lemmatalaw5.DfaWays', WHERE WHAT IT READS IS OF BULK AT MOST 1048576: true; the input reads as it did. -/
def dfaWaysUptoRow : OpenClaim := { program := "ytlnojddenddemaa", sum := "40303fde1d9b89d9e1501bb4500afbd8284c98301fcf426ee5ecd9a5a8e151ca", func := "lemmata/lemmatalaw5.DfaWays", spec := "dfaWays", recurses := true, apart := false, narrowed := true }
def DfaWaysUptoSaid : Prop := dfaWaysUptoRow.holds Try.pinned (OpenSpec.upto dfaWaysSpec)

/-- 'lemmatalaw5.DfaMany', WHERE WHAT IT READS IS OF BULK AT MOST 1048576: true; the input reads as it did. -/
def dfaManyUptoRow : OpenClaim := { program := "ytlnojddenddemaa", sum := "40303fde1d9b89d9e1501bb4500afbd8284c98301fcf426ee5ecd9a5a8e151ca", func := "lemmata/lemmatalaw5.DfaMany", spec := "dfaMany", recurses := true, apart := false, narrowed := true }
def DfaManyUptoSaid : Prop := dfaManyUptoRow.holds Try.pinned (OpenSpec.upto dfaManySpec)

/-- 'lemmatalaw5.DfaWild', WHERE WHAT IT READS IS OF BULK AT MOST 1048576: true; the input reads as it did. -/
def dfaWildUptoRow : OpenClaim := { program := "ytlnojddenddemaa", sum := "40303fde1d9b89d9e1501bb4500afbd8284c98301fcf426ee5ecd9a5a8e151ca", func := "lemmata/lemmatalaw5.DfaWild", spec := "dfaWild", apart := false, narrowed := true }
def DfaWildUptoSaid : Prop := dfaWildUptoRow.holds Try.pinned (OpenSpec.upto dfaWildSpec)

end Rows
end Go.Proofs.Ytlnojddenddemaa
