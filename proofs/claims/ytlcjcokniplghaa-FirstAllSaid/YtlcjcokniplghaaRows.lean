/-
  No cell of these rows narrows 'for every input' (looked for: loops, veiled, ifaces, maps, wideKeys, modest, calm, conditions, laid).
  DERIVED. THE GIVEN ROWS OF THIS SEAT. 11 by the template 'for every input the law returns true; each argument reads behind the call as it read before'; 0 by the template 'total and deterministic' (their statements: YtlcjcokniplghaaTotals.lean).
  GIVEN WITH THE SEED: the statements are not yours to turn. If you find one false, say at which input.
  Laid BY PROGRAM, IN A SANDBOX (cutbox-rows.mjs): the forced cells as the released guide's own fill.sh prints them over the translation bd7cfa0b8806b1f0… (all of the seat's roots in one cut). By AI agents, Wed Nov 11 2026. No macro, syntax, notation, axiom, sorry.
-/
import Derived.Test.YtlcjcokniplghaaChecked
import GoSem.Claim
import GoSem.ClaimJoined
import GoSem.ClaimMapViews
import Derived.JoinedTies
import Derived.KernelRfl
namespace Go.Proofs.Ytlcjcokniplghaa
/- THE CELL 'sum', in the pinned program and in every row, IS THE sha256 OF THE DUMP (.gsa) THAT YtlcjcokniplghaaProg.lean LOADS. Nothing in Lean hashes anything: it is a label: what it is worth is what the hold of that sum in a sandbox is worth. -/
noncomputable def Try.pinned : Pinned := { name := "ytlcjcokniplghaa", sum := "bd7cfa0b8806b1f01425dbd20bd7941f0a1a6dfb5f9ba24390d780bae3e68356", checked := Try.checked }
namespace Rows
def none {H : Type} : Left H := { results := [], args := [] }

/-- 'lemmatalaw11.GramOffset': WHATEVER THE INPUT: true; the input reads as it did. -/
def gramOffsetSpec : ChangeSpec := { name := "gramOffset", fn := fun _ => fun
  | [d] => { results := [.lit (.bool true)], args := [d] }
  | _ => none }
def gramOffsetRow : OpenClaim := { program := "ytlcjcokniplghaa", sum := "bd7cfa0b8806b1f01425dbd20bd7941f0a1a6dfb5f9ba24390d780bae3e68356", func := "lemmata/lemmatalaw11.GramOffset", spec := "gramOffset", unfollowed := true, recurses := true, plainKeys := false, apart := false }
def GramOffsetSaid : Prop := gramOffsetRow.holds Try.pinned (OpenSpec.ofChange gramOffsetSpec)

/-- ITS FALSE NEIGHBOUR: 'it returns false'. Refute it at one input. -/
def gramOffsetWrong : ChangeSpec := { name := "gramOffset", fn := fun _ => fun
  | [d] => { results := [.lit (.bool false)], args := [d] }
  | _ => none }
def GramOffsetWrongFalsely : Prop := gramOffsetRow.holds Try.pinned (OpenSpec.ofChange gramOffsetWrong)

/-- 'lemmatalaw16.MatchAll': WHATEVER THE INPUT: true; the input reads as it did. -/
def matchAllSpec : ChangeSpec := { name := "matchAll", fn := fun _ => fun
  | [d1, d2, d3] => { results := [.lit (.bool true)], args := [d1, d2, d3] }
  | _ => none }
def matchAllRow : OpenClaim := { program := "ytlcjcokniplghaa", sum := "bd7cfa0b8806b1f01425dbd20bd7941f0a1a6dfb5f9ba24390d780bae3e68356", func := "lemmata/lemmatalaw16.MatchAll", spec := "matchAll", unfollowed := true, recurses := true, plainKeys := false, apart := false }
def MatchAllSaid : Prop := matchAllRow.holds Try.pinned (OpenSpec.ofChange matchAllSpec)

/-- ITS FALSE NEIGHBOUR: 'it returns false'. Refute it at one input. -/
def matchAllWrong : ChangeSpec := { name := "matchAll", fn := fun _ => fun
  | [d1, d2, d3] => { results := [.lit (.bool false)], args := [d1, d2, d3] }
  | _ => none }
def MatchAllWrongFalsely : Prop := matchAllRow.holds Try.pinned (OpenSpec.ofChange matchAllWrong)

/-- 'lemmatalaw16.MatchTrue': WHATEVER THE INPUT: true; the input reads as it did. -/
def matchTrueSpec : ChangeSpec := { name := "matchTrue", fn := fun _ => fun
  | [d1, d2, d3] => { results := [.lit (.bool true)], args := [d1, d2, d3] }
  | _ => none }
def matchTrueRow : OpenClaim := { program := "ytlcjcokniplghaa", sum := "bd7cfa0b8806b1f01425dbd20bd7941f0a1a6dfb5f9ba24390d780bae3e68356", func := "lemmata/lemmatalaw16.MatchTrue", spec := "matchTrue", unfollowed := true, recurses := true, plainKeys := false, apart := false }
def MatchTrueSaid : Prop := matchTrueRow.holds Try.pinned (OpenSpec.ofChange matchTrueSpec)

/-- ITS FALSE NEIGHBOUR: 'it returns false'. Refute it at one input. -/
def matchTrueWrong : ChangeSpec := { name := "matchTrue", fn := fun _ => fun
  | [d1, d2, d3] => { results := [.lit (.bool false)], args := [d1, d2, d3] }
  | _ => none }
def MatchTrueWrongFalsely : Prop := matchTrueRow.holds Try.pinned (OpenSpec.ofChange matchTrueWrong)

/-- 'lemmatalaw16.MatchSame': WHATEVER THE INPUT: true; the input reads as it did. -/
def matchSameSpec : ChangeSpec := { name := "matchSame", fn := fun _ => fun
  | [d1, d2, d3] => { results := [.lit (.bool true)], args := [d1, d2, d3] }
  | _ => none }
def matchSameRow : OpenClaim := { program := "ytlcjcokniplghaa", sum := "bd7cfa0b8806b1f01425dbd20bd7941f0a1a6dfb5f9ba24390d780bae3e68356", func := "lemmata/lemmatalaw16.MatchSame", spec := "matchSame", unfollowed := true, recurses := true, plainKeys := false, apart := false }
def MatchSameSaid : Prop := matchSameRow.holds Try.pinned (OpenSpec.ofChange matchSameSpec)

/-- ITS FALSE NEIGHBOUR: 'it returns false'. Refute it at one input. -/
def matchSameWrong : ChangeSpec := { name := "matchSame", fn := fun _ => fun
  | [d1, d2, d3] => { results := [.lit (.bool false)], args := [d1, d2, d3] }
  | _ => none }
def MatchSameWrongFalsely : Prop := matchSameRow.holds Try.pinned (OpenSpec.ofChange matchSameWrong)

/-- 'lemmatalaw16.MatchForms': WHATEVER THE INPUT: true; the input reads as it did. -/
def matchFormsSpec : ChangeSpec := { name := "matchForms", fn := fun _ => fun
  | [] => { results := [.lit (.bool true)], args := [] }
  | _ => none }
def matchFormsRow : OpenClaim := { program := "ytlcjcokniplghaa", sum := "bd7cfa0b8806b1f01425dbd20bd7941f0a1a6dfb5f9ba24390d780bae3e68356", func := "lemmata/lemmatalaw16.MatchForms", spec := "matchForms", unfollowed := true, recurses := true, plainKeys := false, apart := false }
def MatchFormsSaid : Prop := matchFormsRow.holds Try.pinned (OpenSpec.ofChange matchFormsSpec)

/-- ITS FALSE NEIGHBOUR: 'it returns false'. Refute it at one input. -/
def matchFormsWrong : ChangeSpec := { name := "matchForms", fn := fun _ => fun
  | [] => { results := [.lit (.bool false)], args := [] }
  | _ => none }
def MatchFormsWrongFalsely : Prop := matchFormsRow.holds Try.pinned (OpenSpec.ofChange matchFormsWrong)

/-- 'lemmatalaw16.MatchNone': WHATEVER THE INPUT: true; the input reads as it did. -/
def matchNoneSpec : ChangeSpec := { name := "matchNone", fn := fun _ => fun
  | [d1, d2] => { results := [.lit (.bool true)], args := [d1, d2] }
  | _ => none }
def matchNoneRow : OpenClaim := { program := "ytlcjcokniplghaa", sum := "bd7cfa0b8806b1f01425dbd20bd7941f0a1a6dfb5f9ba24390d780bae3e68356", func := "lemmata/lemmatalaw16.MatchNone", spec := "matchNone", unfollowed := true, recurses := true, plainKeys := false, apart := false }
def MatchNoneSaid : Prop := matchNoneRow.holds Try.pinned (OpenSpec.ofChange matchNoneSpec)

/-- ITS FALSE NEIGHBOUR: 'it returns false'. Refute it at one input. -/
def matchNoneWrong : ChangeSpec := { name := "matchNone", fn := fun _ => fun
  | [d1, d2] => { results := [.lit (.bool false)], args := [d1, d2] }
  | _ => none }
def MatchNoneWrongFalsely : Prop := matchNoneRow.holds Try.pinned (OpenSpec.ofChange matchNoneWrong)

/-- 'lemmatalaw12.FirstAll': WHATEVER THE INPUT: true; the input reads as it did. -/
def firstAllSpec : ChangeSpec := { name := "firstAll", fn := fun _ => fun
  | [d1, d2] => { results := [.lit (.bool true)], args := [d1, d2] }
  | _ => none }
def firstAllRow : OpenClaim := { program := "ytlcjcokniplghaa", sum := "bd7cfa0b8806b1f01425dbd20bd7941f0a1a6dfb5f9ba24390d780bae3e68356", func := "lemmata/lemmatalaw12.FirstAll", spec := "firstAll", unfollowed := true, recurses := true, plainKeys := false, apart := false }
def FirstAllSaid : Prop := firstAllRow.holds Try.pinned (OpenSpec.ofChange firstAllSpec)

/-- ITS FALSE NEIGHBOUR: 'it returns false'. Refute it at one input. -/
def firstAllWrong : ChangeSpec := { name := "firstAll", fn := fun _ => fun
  | [d1, d2] => { results := [.lit (.bool false)], args := [d1, d2] }
  | _ => none }
def FirstAllWrongFalsely : Prop := firstAllRow.holds Try.pinned (OpenSpec.ofChange firstAllWrong)

/-- 'lemmatalaw12.FirstTrue': WHATEVER THE INPUT: true; the input reads as it did. -/
def firstTrueSpec : ChangeSpec := { name := "firstTrue", fn := fun _ => fun
  | [d1, d2] => { results := [.lit (.bool true)], args := [d1, d2] }
  | _ => none }
def firstTrueRow : OpenClaim := { program := "ytlcjcokniplghaa", sum := "bd7cfa0b8806b1f01425dbd20bd7941f0a1a6dfb5f9ba24390d780bae3e68356", func := "lemmata/lemmatalaw12.FirstTrue", spec := "firstTrue", unfollowed := true, recurses := true, plainKeys := false, apart := false }
def FirstTrueSaid : Prop := firstTrueRow.holds Try.pinned (OpenSpec.ofChange firstTrueSpec)

/-- ITS FALSE NEIGHBOUR: 'it returns false'. Refute it at one input. -/
def firstTrueWrong : ChangeSpec := { name := "firstTrue", fn := fun _ => fun
  | [d1, d2] => { results := [.lit (.bool false)], args := [d1, d2] }
  | _ => none }
def FirstTrueWrongFalsely : Prop := firstTrueRow.holds Try.pinned (OpenSpec.ofChange firstTrueWrong)

/-- 'lemmatalaw12.FirstMore': WHATEVER THE INPUT: true; the input reads as it did. -/
def firstMoreSpec : ChangeSpec := { name := "firstMore", fn := fun _ => fun
  | [d1, d2] => { results := [.lit (.bool true)], args := [d1, d2] }
  | _ => none }
def firstMoreRow : OpenClaim := { program := "ytlcjcokniplghaa", sum := "bd7cfa0b8806b1f01425dbd20bd7941f0a1a6dfb5f9ba24390d780bae3e68356", func := "lemmata/lemmatalaw12.FirstMore", spec := "firstMore", unfollowed := true, recurses := true, plainKeys := false, apart := false }
def FirstMoreSaid : Prop := firstMoreRow.holds Try.pinned (OpenSpec.ofChange firstMoreSpec)

/-- ITS FALSE NEIGHBOUR: 'it returns false'. Refute it at one input. -/
def firstMoreWrong : ChangeSpec := { name := "firstMore", fn := fun _ => fun
  | [d1, d2] => { results := [.lit (.bool false)], args := [d1, d2] }
  | _ => none }
def FirstMoreWrongFalsely : Prop := firstMoreRow.holds Try.pinned (OpenSpec.ofChange firstMoreWrong)

/-- 'lemmatalaw12.FirstRow': WHATEVER THE INPUT: true; the input reads as it did. -/
def firstRowSpec : ChangeSpec := { name := "firstRow", fn := fun _ => fun
  | [d1, d2, d3] => { results := [.lit (.bool true)], args := [d1, d2, d3] }
  | _ => none }
def firstRowRow : OpenClaim := { program := "ytlcjcokniplghaa", sum := "bd7cfa0b8806b1f01425dbd20bd7941f0a1a6dfb5f9ba24390d780bae3e68356", func := "lemmata/lemmatalaw12.FirstRow", spec := "firstRow", unfollowed := true, recurses := true, plainKeys := false, apart := false }
def FirstRowSaid : Prop := firstRowRow.holds Try.pinned (OpenSpec.ofChange firstRowSpec)

/-- ITS FALSE NEIGHBOUR: 'it returns false'. Refute it at one input. -/
def firstRowWrong : ChangeSpec := { name := "firstRow", fn := fun _ => fun
  | [d1, d2, d3] => { results := [.lit (.bool false)], args := [d1, d2, d3] }
  | _ => none }
def FirstRowWrongFalsely : Prop := firstRowRow.holds Try.pinned (OpenSpec.ofChange firstRowWrong)

/-- 'lemmatalaw13.LlAll': WHATEVER THE INPUT: true; the input reads as it did. -/
def llAllSpec : ChangeSpec := { name := "llAll", fn := fun _ => fun
  | [d1, d2] => { results := [.lit (.bool true)], args := [d1, d2] }
  | _ => none }
def llAllRow : OpenClaim := { program := "ytlcjcokniplghaa", sum := "bd7cfa0b8806b1f01425dbd20bd7941f0a1a6dfb5f9ba24390d780bae3e68356", func := "lemmata/lemmatalaw13.LlAll", spec := "llAll", unfollowed := true, recurses := true, plainKeys := false, apart := false }
def LlAllSaid : Prop := llAllRow.holds Try.pinned (OpenSpec.ofChange llAllSpec)

/-- ITS FALSE NEIGHBOUR: 'it returns false'. Refute it at one input. -/
def llAllWrong : ChangeSpec := { name := "llAll", fn := fun _ => fun
  | [d1, d2] => { results := [.lit (.bool false)], args := [d1, d2] }
  | _ => none }
def LlAllWrongFalsely : Prop := llAllRow.holds Try.pinned (OpenSpec.ofChange llAllWrong)

/- THE SECOND FORM. 'bulk': how many values and letters a reading holds, each counted each time it is reached (what is shared counts as often as it is met; a slice's spare places count too). A statement '..UptoSaid' is the law's where the arguments, and the package variables that the reading takes, are together of bulk at most 1048576: NARROWER than '..Said'. Prove '..Said' where nothing that the law and all that it calls make is longer than what came in: it says more and counts as full. Else prove '..UptoSaid'. A law counts once. -/
mutual
def uptoBulk {H : Type} : DataW H → Nat
  | .lit (.string bytes) => bytes.length + 1
  | .lit _ => 1
  | .nil => 1
  | .ptr d => uptoBulk d + 1
  | .slice elems spare => uptoBulkAll elems + uptoBulkAll spare + 1
  | .agg parts => uptoBulkAll parts + 1
  | .iface _ d => uptoBulk d + 1
  | .map entries => uptoBulkEntries entries + 1
  | .held _ => 1
def uptoBulkAll {H : Type} : List (DataW H) → Nat
  | [] => 0
  | d :: r => uptoBulk d + uptoBulkAll r
def uptoBulkEntries {H : Type} : List (Lit × DataW H) → Nat
  | [] => 0
  | x :: r => uptoBulkEntry x + uptoBulkEntries r
def uptoBulkEntry {H : Type} : Lit × DataW H → Nat
  | (.string bytes, d) => bytes.length + uptoBulk d + 1
  | (_, d) => uptoBulk d + 1
 end
def uptoSmall : (H : Type) → List (DataW H) → Bool := fun _ ds => decide (uptoBulkAll ds ≤ 1048576)
def OpenSpec.upto (s : _root_.Go.ChangeSpec) : _root_.Go.OpenSpec := { _root_.Go.OpenSpec.ofChange s with cond := some uptoSmall }

/-- 'lemmatalaw11.GramOffset', WHERE WHAT IT READS IS OF BULK AT MOST 1048576: true; the input reads as it did. -/
def gramOffsetUptoRow : OpenClaim := { program := "ytlcjcokniplghaa", sum := "bd7cfa0b8806b1f01425dbd20bd7941f0a1a6dfb5f9ba24390d780bae3e68356", func := "lemmata/lemmatalaw11.GramOffset", spec := "gramOffset", unfollowed := true, recurses := true, plainKeys := false, apart := false, narrowed := true }
def GramOffsetUptoSaid : Prop := gramOffsetUptoRow.holds Try.pinned (OpenSpec.upto gramOffsetSpec)

/-- 'lemmatalaw16.MatchAll', WHERE WHAT IT READS IS OF BULK AT MOST 1048576: true; the input reads as it did. -/
def matchAllUptoRow : OpenClaim := { program := "ytlcjcokniplghaa", sum := "bd7cfa0b8806b1f01425dbd20bd7941f0a1a6dfb5f9ba24390d780bae3e68356", func := "lemmata/lemmatalaw16.MatchAll", spec := "matchAll", unfollowed := true, recurses := true, plainKeys := false, apart := false, narrowed := true }
def MatchAllUptoSaid : Prop := matchAllUptoRow.holds Try.pinned (OpenSpec.upto matchAllSpec)

/-- 'lemmatalaw16.MatchTrue', WHERE WHAT IT READS IS OF BULK AT MOST 1048576: true; the input reads as it did. -/
def matchTrueUptoRow : OpenClaim := { program := "ytlcjcokniplghaa", sum := "bd7cfa0b8806b1f01425dbd20bd7941f0a1a6dfb5f9ba24390d780bae3e68356", func := "lemmata/lemmatalaw16.MatchTrue", spec := "matchTrue", unfollowed := true, recurses := true, plainKeys := false, apart := false, narrowed := true }
def MatchTrueUptoSaid : Prop := matchTrueUptoRow.holds Try.pinned (OpenSpec.upto matchTrueSpec)

/-- 'lemmatalaw16.MatchSame', WHERE WHAT IT READS IS OF BULK AT MOST 1048576: true; the input reads as it did. -/
def matchSameUptoRow : OpenClaim := { program := "ytlcjcokniplghaa", sum := "bd7cfa0b8806b1f01425dbd20bd7941f0a1a6dfb5f9ba24390d780bae3e68356", func := "lemmata/lemmatalaw16.MatchSame", spec := "matchSame", unfollowed := true, recurses := true, plainKeys := false, apart := false, narrowed := true }
def MatchSameUptoSaid : Prop := matchSameUptoRow.holds Try.pinned (OpenSpec.upto matchSameSpec)

/-- 'lemmatalaw16.MatchForms', WHERE WHAT IT READS IS OF BULK AT MOST 1048576: true; the input reads as it did. -/
def matchFormsUptoRow : OpenClaim := { program := "ytlcjcokniplghaa", sum := "bd7cfa0b8806b1f01425dbd20bd7941f0a1a6dfb5f9ba24390d780bae3e68356", func := "lemmata/lemmatalaw16.MatchForms", spec := "matchForms", unfollowed := true, recurses := true, plainKeys := false, apart := false, narrowed := true }
def MatchFormsUptoSaid : Prop := matchFormsUptoRow.holds Try.pinned (OpenSpec.upto matchFormsSpec)

/-- 'lemmatalaw16.MatchNone', WHERE WHAT IT READS IS OF BULK AT MOST 1048576: true; the input reads as it did. -/
def matchNoneUptoRow : OpenClaim := { program := "ytlcjcokniplghaa", sum := "bd7cfa0b8806b1f01425dbd20bd7941f0a1a6dfb5f9ba24390d780bae3e68356", func := "lemmata/lemmatalaw16.MatchNone", spec := "matchNone", unfollowed := true, recurses := true, plainKeys := false, apart := false, narrowed := true }
def MatchNoneUptoSaid : Prop := matchNoneUptoRow.holds Try.pinned (OpenSpec.upto matchNoneSpec)

/-- 'lemmatalaw12.FirstAll', WHERE WHAT IT READS IS OF BULK AT MOST 1048576: true; the input reads as it did. -/
def firstAllUptoRow : OpenClaim := { program := "ytlcjcokniplghaa", sum := "bd7cfa0b8806b1f01425dbd20bd7941f0a1a6dfb5f9ba24390d780bae3e68356", func := "lemmata/lemmatalaw12.FirstAll", spec := "firstAll", unfollowed := true, recurses := true, plainKeys := false, apart := false, narrowed := true }
def FirstAllUptoSaid : Prop := firstAllUptoRow.holds Try.pinned (OpenSpec.upto firstAllSpec)

/-- 'lemmatalaw12.FirstTrue', WHERE WHAT IT READS IS OF BULK AT MOST 1048576: true; the input reads as it did. -/
def firstTrueUptoRow : OpenClaim := { program := "ytlcjcokniplghaa", sum := "bd7cfa0b8806b1f01425dbd20bd7941f0a1a6dfb5f9ba24390d780bae3e68356", func := "lemmata/lemmatalaw12.FirstTrue", spec := "firstTrue", unfollowed := true, recurses := true, plainKeys := false, apart := false, narrowed := true }
def FirstTrueUptoSaid : Prop := firstTrueUptoRow.holds Try.pinned (OpenSpec.upto firstTrueSpec)

/-- 'lemmatalaw12.FirstMore', WHERE WHAT IT READS IS OF BULK AT MOST 1048576: true; the input reads as it did. -/
def firstMoreUptoRow : OpenClaim := { program := "ytlcjcokniplghaa", sum := "bd7cfa0b8806b1f01425dbd20bd7941f0a1a6dfb5f9ba24390d780bae3e68356", func := "lemmata/lemmatalaw12.FirstMore", spec := "firstMore", unfollowed := true, recurses := true, plainKeys := false, apart := false, narrowed := true }
def FirstMoreUptoSaid : Prop := firstMoreUptoRow.holds Try.pinned (OpenSpec.upto firstMoreSpec)

/-- 'lemmatalaw12.FirstRow', WHERE WHAT IT READS IS OF BULK AT MOST 1048576: true; the input reads as it did. -/
def firstRowUptoRow : OpenClaim := { program := "ytlcjcokniplghaa", sum := "bd7cfa0b8806b1f01425dbd20bd7941f0a1a6dfb5f9ba24390d780bae3e68356", func := "lemmata/lemmatalaw12.FirstRow", spec := "firstRow", unfollowed := true, recurses := true, plainKeys := false, apart := false, narrowed := true }
def FirstRowUptoSaid : Prop := firstRowUptoRow.holds Try.pinned (OpenSpec.upto firstRowSpec)

/-- 'lemmatalaw13.LlAll', WHERE WHAT IT READS IS OF BULK AT MOST 1048576: true; the input reads as it did. -/
def llAllUptoRow : OpenClaim := { program := "ytlcjcokniplghaa", sum := "bd7cfa0b8806b1f01425dbd20bd7941f0a1a6dfb5f9ba24390d780bae3e68356", func := "lemmata/lemmatalaw13.LlAll", spec := "llAll", unfollowed := true, recurses := true, plainKeys := false, apart := false, narrowed := true }
def LlAllUptoSaid : Prop := llAllUptoRow.holds Try.pinned (OpenSpec.upto llAllSpec)

end Rows
end Go.Proofs.Ytlcjcokniplghaa
