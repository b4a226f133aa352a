/-
  No cell of these rows narrows 'for every input' (looked for: loops, veiled, ifaces, maps, wideKeys, modest, calm, conditions, laid).
  DERIVED. THE GIVEN ROWS OF THIS SEAT. 10 by the template 'for every input the law returns true; each argument reads behind the call as it read before'; 0 by the template 'total and deterministic' (their statements: YtebbdkcocbampaaTotals.lean).
  GIVEN WITH THE SEED: the statements are not yours to turn. If you find one false, say at which input.
  Laid BY PROGRAM, IN A SANDBOX (cutbox-rows.mjs): the forced cells as the released guide's own fill.sh prints them over the translation 309f8e8a5edf158d… (all of the seat's roots in one cut). By AI agents, Wed Nov 11 2026. No macro, syntax, notation, axiom, sorry.
-/
import Derived.Test.YtebbdkcocbampaaChecked
import GoSem.Claim
import GoSem.ClaimJoined
import GoSem.ClaimMapViews
import Derived.JoinedTies
import Derived.KernelRfl
namespace Go.Proofs.Ytebbdkcocbampaa
/- THE CELL 'sum', in the pinned program and in every row, IS THE sha256 OF THE DUMP (.gsa) THAT YtebbdkcocbampaaProg.lean LOADS. Nothing in Lean hashes anything: it is a label: what it is worth is what the hold of that sum in a sandbox is worth. -/
noncomputable def Try.pinned : Pinned := { name := "ytebbdkcocbampaa", sum := "309f8e8a5edf158d6008f1717daa4b715597803c96b2368a774cbd4341832785", checked := Try.checked }
namespace Rows
def none {H : Type} : Left H := { results := [], args := [] }

/-- 'deckhandlaw28.ReplyEncodes': WHATEVER THE INPUT: true; the input reads as it did. -/
def replyEncodesSpec : ChangeSpec := { name := "replyEncodes", fn := fun _ => fun
  | [d] => { results := [.lit (.bool true)], args := [d] }
  | _ => none }
def replyEncodesRow : OpenClaim := { program := "ytebbdkcocbampaa", sum := "309f8e8a5edf158d6008f1717daa4b715597803c96b2368a774cbd4341832785", func := "deckhand/deckhandlaw28.ReplyEncodes", spec := "replyEncodes", unfollowed := true, recurses := true, apart := false }
def ReplyEncodesSaid : Prop := replyEncodesRow.holds Try.pinned (OpenSpec.ofChange replyEncodesSpec)

/-- ITS FALSE NEIGHBOUR: 'it returns false'. Refute it at one input. -/
def replyEncodesWrong : ChangeSpec := { name := "replyEncodes", fn := fun _ => fun
  | [d] => { results := [.lit (.bool false)], args := [d] }
  | _ => none }
def ReplyEncodesWrongFalsely : Prop := replyEncodesRow.holds Try.pinned (OpenSpec.ofChange replyEncodesWrong)

/-- 'deckhandlaw28.ReplyDecodes': WHATEVER THE INPUT: true; the input reads as it did. -/
def replyDecodesSpec : ChangeSpec := { name := "replyDecodes", fn := fun _ => fun
  | [d] => { results := [.lit (.bool true)], args := [d] }
  | _ => none }
def replyDecodesRow : OpenClaim := { program := "ytebbdkcocbampaa", sum := "309f8e8a5edf158d6008f1717daa4b715597803c96b2368a774cbd4341832785", func := "deckhand/deckhandlaw28.ReplyDecodes", spec := "replyDecodes", unfollowed := true, recurses := true, apart := false }
def ReplyDecodesSaid : Prop := replyDecodesRow.holds Try.pinned (OpenSpec.ofChange replyDecodesSpec)

/-- ITS FALSE NEIGHBOUR: 'it returns false'. Refute it at one input. -/
def replyDecodesWrong : ChangeSpec := { name := "replyDecodes", fn := fun _ => fun
  | [d] => { results := [.lit (.bool false)], args := [d] }
  | _ => none }
def ReplyDecodesWrongFalsely : Prop := replyDecodesRow.holds Try.pinned (OpenSpec.ofChange replyDecodesWrong)

/-- 'deckhandlaw28.ReplyBack': WHATEVER THE INPUT: true; the input reads as it did. -/
def replyBackSpec : ChangeSpec := { name := "replyBack", fn := fun _ => fun
  | [d1, d2] => { results := [.lit (.bool true)], args := [d1, d2] }
  | _ => none }
def replyBackRow : OpenClaim := { program := "ytebbdkcocbampaa", sum := "309f8e8a5edf158d6008f1717daa4b715597803c96b2368a774cbd4341832785", func := "deckhand/deckhandlaw28.ReplyBack", spec := "replyBack", unfollowed := true, recurses := true, apart := false }
def ReplyBackSaid : Prop := replyBackRow.holds Try.pinned (OpenSpec.ofChange replyBackSpec)

/-- ITS FALSE NEIGHBOUR: 'it returns false'. Refute it at one input. -/
def replyBackWrong : ChangeSpec := { name := "replyBack", fn := fun _ => fun
  | [d1, d2] => { results := [.lit (.bool false)], args := [d1, d2] }
  | _ => none }
def ReplyBackWrongFalsely : Prop := replyBackRow.holds Try.pinned (OpenSpec.ofChange replyBackWrong)

/-- 'deckhandlaw05.SpanTwo': WHATEVER THE INPUT: true; the input reads as it did. -/
def spanTwoSpec : ChangeSpec := { name := "spanTwo", fn := fun _ => fun
  | [d1, d2, d3] => { results := [.lit (.bool true)], args := [d1, d2, d3] }
  | _ => none }
def spanTwoRow : OpenClaim := { program := "ytebbdkcocbampaa", sum := "309f8e8a5edf158d6008f1717daa4b715597803c96b2368a774cbd4341832785", func := "deckhand/deckhandlaw05.SpanTwo", spec := "spanTwo", unfollowed := true, recurses := true, apart := false }
def SpanTwoSaid : Prop := spanTwoRow.holds Try.pinned (OpenSpec.ofChange spanTwoSpec)

/-- ITS FALSE NEIGHBOUR: 'it returns false'. Refute it at one input. -/
def spanTwoWrong : ChangeSpec := { name := "spanTwo", fn := fun _ => fun
  | [d1, d2, d3] => { results := [.lit (.bool false)], args := [d1, d2, d3] }
  | _ => none }
def SpanTwoWrongFalsely : Prop := spanTwoRow.holds Try.pinned (OpenSpec.ofChange spanTwoWrong)

/-- 'deckhandlaw05.SpanJoins': WHATEVER THE INPUT: true; the input reads as it did. -/
def spanJoinsSpec : ChangeSpec := { name := "spanJoins", fn := fun _ => fun
  | [d1, d2] => { results := [.lit (.bool true)], args := [d1, d2] }
  | _ => none }
def spanJoinsRow : OpenClaim := { program := "ytebbdkcocbampaa", sum := "309f8e8a5edf158d6008f1717daa4b715597803c96b2368a774cbd4341832785", func := "deckhand/deckhandlaw05.SpanJoins", spec := "spanJoins", unfollowed := true, recurses := true, apart := false }
def SpanJoinsSaid : Prop := spanJoinsRow.holds Try.pinned (OpenSpec.ofChange spanJoinsSpec)

/-- ITS FALSE NEIGHBOUR: 'it returns false'. Refute it at one input. -/
def spanJoinsWrong : ChangeSpec := { name := "spanJoins", fn := fun _ => fun
  | [d1, d2] => { results := [.lit (.bool false)], args := [d1, d2] }
  | _ => none }
def SpanJoinsWrongFalsely : Prop := spanJoinsRow.holds Try.pinned (OpenSpec.ofChange spanJoinsWrong)

/-- 'deckhandlaw05.SpanGaps': WHATEVER THE INPUT: true; the input reads as it did. -/
def spanGapsSpec : ChangeSpec := { name := "spanGaps", fn := fun _ => fun
  | [d1, d2, d3] => { results := [.lit (.bool true)], args := [d1, d2, d3] }
  | _ => none }
def spanGapsRow : OpenClaim := { program := "ytebbdkcocbampaa", sum := "309f8e8a5edf158d6008f1717daa4b715597803c96b2368a774cbd4341832785", func := "deckhand/deckhandlaw05.SpanGaps", spec := "spanGaps", unfollowed := true, recurses := true, apart := false }
def SpanGapsSaid : Prop := spanGapsRow.holds Try.pinned (OpenSpec.ofChange spanGapsSpec)

/-- ITS FALSE NEIGHBOUR: 'it returns false'. Refute it at one input. -/
def spanGapsWrong : ChangeSpec := { name := "spanGaps", fn := fun _ => fun
  | [d1, d2, d3] => { results := [.lit (.bool false)], args := [d1, d2, d3] }
  | _ => none }
def SpanGapsWrongFalsely : Prop := spanGapsRow.holds Try.pinned (OpenSpec.ofChange spanGapsWrong)

/-- 'deckhandlaw09.ZoneSpans': WHATEVER THE INPUT: true; the input reads as it did. -/
def zoneSpansSpec : ChangeSpec := { name := "zoneSpans", fn := fun _ => fun
  | [d1, d2] => { results := [.lit (.bool true)], args := [d1, d2] }
  | _ => none }
def zoneSpansRow : OpenClaim := { program := "ytebbdkcocbampaa", sum := "309f8e8a5edf158d6008f1717daa4b715597803c96b2368a774cbd4341832785", func := "deckhand/deckhandlaw09.ZoneSpans", spec := "zoneSpans", inPlace := ["math.Float64bits", "math.Float64frombits"], unfollowed := true, recurses := true, apart := false }
def ZoneSpansSaid : Prop := zoneSpansRow.holds Try.pinned (OpenSpec.ofChange zoneSpansSpec)

/-- ITS FALSE NEIGHBOUR: 'it returns false'. Refute it at one input. -/
def zoneSpansWrong : ChangeSpec := { name := "zoneSpans", fn := fun _ => fun
  | [d1, d2] => { results := [.lit (.bool false)], args := [d1, d2] }
  | _ => none }
def ZoneSpansWrongFalsely : Prop := zoneSpansRow.holds Try.pinned (OpenSpec.ofChange zoneSpansWrong)

/-- 'deckhandlaw09.ZoneChecks': WHATEVER THE INPUT: true; the input reads as it did. -/
def zoneChecksSpec : ChangeSpec := { name := "zoneChecks", fn := fun _ => fun
  | [d] => { results := [.lit (.bool true)], args := [d] }
  | _ => none }
def zoneChecksRow : OpenClaim := { program := "ytebbdkcocbampaa", sum := "309f8e8a5edf158d6008f1717daa4b715597803c96b2368a774cbd4341832785", func := "deckhand/deckhandlaw09.ZoneChecks", spec := "zoneChecks", inPlace := ["math.Float64bits", "math.Float64frombits"], unfollowed := true, recurses := true, apart := false }
def ZoneChecksSaid : Prop := zoneChecksRow.holds Try.pinned (OpenSpec.ofChange zoneChecksSpec)

/-- ITS FALSE NEIGHBOUR: 'it returns false'. Refute it at one input. -/
def zoneChecksWrong : ChangeSpec := { name := "zoneChecks", fn := fun _ => fun
  | [d] => { results := [.lit (.bool false)], args := [d] }
  | _ => none }
def ZoneChecksWrongFalsely : Prop := zoneChecksRow.holds Try.pinned (OpenSpec.ofChange zoneChecksWrong)

/-- 'deckhandlaw09.ZoneNeeds': WHATEVER THE INPUT: true; the input reads as it did. -/
def zoneNeedsSpec : ChangeSpec := { name := "zoneNeeds", fn := fun _ => fun
  | [d1, d2] => { results := [.lit (.bool true)], args := [d1, d2] }
  | _ => none }
def zoneNeedsRow : OpenClaim := { program := "ytebbdkcocbampaa", sum := "309f8e8a5edf158d6008f1717daa4b715597803c96b2368a774cbd4341832785", func := "deckhand/deckhandlaw09.ZoneNeeds", spec := "zoneNeeds", inPlace := ["math.Float64bits", "math.Float64frombits"], unfollowed := true, recurses := true, apart := false }
def ZoneNeedsSaid : Prop := zoneNeedsRow.holds Try.pinned (OpenSpec.ofChange zoneNeedsSpec)

/-- ITS FALSE NEIGHBOUR: 'it returns false'. Refute it at one input. -/
def zoneNeedsWrong : ChangeSpec := { name := "zoneNeeds", fn := fun _ => fun
  | [d1, d2] => { results := [.lit (.bool false)], args := [d1, d2] }
  | _ => none }
def ZoneNeedsWrongFalsely : Prop := zoneNeedsRow.holds Try.pinned (OpenSpec.ofChange zoneNeedsWrong)

/-- 'deckhandlaw09.ZoneClash': WHATEVER THE INPUT: true; the input reads as it did. -/
def zoneClashSpec : ChangeSpec := { name := "zoneClash", fn := fun _ => fun
  | [d1, d2, d3] => { results := [.lit (.bool true)], args := [d1, d2, d3] }
  | _ => none }
def zoneClashRow : OpenClaim := { program := "ytebbdkcocbampaa", sum := "309f8e8a5edf158d6008f1717daa4b715597803c96b2368a774cbd4341832785", func := "deckhand/deckhandlaw09.ZoneClash", spec := "zoneClash", inPlace := ["math.Float64bits", "math.Float64frombits"], unfollowed := true, recurses := true, apart := false }
def ZoneClashSaid : Prop := zoneClashRow.holds Try.pinned (OpenSpec.ofChange zoneClashSpec)

/-- ITS FALSE NEIGHBOUR: 'it returns false'. Refute it at one input. -/
def zoneClashWrong : ChangeSpec := { name := "zoneClash", fn := fun _ => fun
  | [d1, d2, d3] => { results := [.lit (.bool false)], args := [d1, d2, d3] }
  | _ => none }
def ZoneClashWrongFalsely : Prop := zoneClashRow.holds Try.pinned (OpenSpec.ofChange zoneClashWrong)

/- THE SECOND FORM. 'bulk': how many values and letters a reading holds, each counted each time it is reached (what is shared counts as often as it is met; a slice's spare places count too). A statement '..UptoSaid' is the law's where the arguments, and the package variables that the reading takes, are together of bulk at most 1048576: NARROWER than '..Said'. Prove '..Said' where nothing that the law and all that it calls make is longer than what came in: it says more and counts as full. Else prove '..UptoSaid'. A law counts once. -/
mutual
def uptoBulk {H : Type} : DataW H → Nat
  | .lit (.string bytes) => bytes.length + 1
  | .lit _ => 1
  | .nil => 1
  | .ptr d => uptoBulk d + 1
  | .slice elems spare => uptoBulkAll elems + uptoBulkAll spare + 1
  | .agg parts => uptoBulkAll parts + 1
  | .iface _ d => uptoBulk d + 1
  | .map entries => uptoBulkEntries entries + 1
  | .held _ => 1
def uptoBulkAll {H : Type} : List (DataW H) → Nat
  | [] => 0
  | d :: r => uptoBulk d + uptoBulkAll r
def uptoBulkEntries {H : Type} : List (Lit × DataW H) → Nat
  | [] => 0
  | x :: r => uptoBulkEntry x + uptoBulkEntries r
def uptoBulkEntry {H : Type} : Lit × DataW H → Nat
  | (.string bytes, d) => bytes.length + uptoBulk d + 1
  | (_, d) => uptoBulk d + 1
 end
def uptoSmall : (H : Type) → List (DataW H) → Bool := fun _ ds => decide (uptoBulkAll ds ≤ 1048576)
def OpenSpec.upto (s : _root_.Go.ChangeSpec) : _root_.Go.OpenSpec := { _root_.Go.OpenSpec.ofChange s with cond := some uptoSmall }

/-- 'deckhandlaw28.ReplyEncodes', WHERE WHAT IT READS IS OF BULK AT MOST 1048576: true; the input reads as it did. -/
def replyEncodesUptoRow : OpenClaim := { program := "ytebbdkcocbampaa", sum := "309f8e8a5edf158d6008f1717daa4b715597803c96b2368a774cbd4341832785", func := "deckhand/deckhandlaw28.ReplyEncodes", spec := "replyEncodes", unfollowed := true, recurses := true, apart := false, narrowed := true }
def ReplyEncodesUptoSaid : Prop := replyEncodesUptoRow.holds Try.pinned (OpenSpec.upto replyEncodesSpec)

/-- 'deckhandlaw28.ReplyDecodes', WHERE WHAT IT READS IS OF BULK AT MOST 1048576: true; the input reads as it did. -/
def replyDecodesUptoRow : OpenClaim := { program := "ytebbdkcocbampaa", sum := "309f8e8a5edf158d6008f1717daa4b715597803c96b2368a774cbd4341832785", func := "deckhand/deckhandlaw28.ReplyDecodes", spec := "replyDecodes", unfollowed := true, recurses := true, apart := false, narrowed := true }
def ReplyDecodesUptoSaid : Prop := replyDecodesUptoRow.holds Try.pinned (OpenSpec.upto replyDecodesSpec)

/-- 'deckhandlaw28.ReplyBack', WHERE WHAT IT READS IS OF BULK AT MOST 1048576: true; the input reads as it did. -/
def replyBackUptoRow : OpenClaim := { program := "ytebbdkcocbampaa", sum := "309f8e8a5edf158d6008f1717daa4b715597803c96b2368a774cbd4341832785", func := "deckhand/deckhandlaw28.ReplyBack", spec := "replyBack", unfollowed := true, recurses := true, apart := false, narrowed := true }
def ReplyBackUptoSaid : Prop := replyBackUptoRow.holds Try.pinned (OpenSpec.upto replyBackSpec)

/-- 'deckhandlaw05.SpanTwo', WHERE WHAT IT READS IS OF BULK AT MOST 1048576: true; the input reads as it did. -/
def spanTwoUptoRow : OpenClaim := { program := "ytebbdkcocbampaa", sum := "309f8e8a5edf158d6008f1717daa4b715597803c96b2368a774cbd4341832785", func := "deckhand/deckhandlaw05.SpanTwo", spec := "spanTwo", unfollowed := true, recurses := true, apart := false, narrowed := true }
def SpanTwoUptoSaid : Prop := spanTwoUptoRow.holds Try.pinned (OpenSpec.upto spanTwoSpec)

/-- 'deckhandlaw05.SpanJoins', WHERE WHAT IT READS IS OF BULK AT MOST 1048576: true; the input reads as it did. -/
def spanJoinsUptoRow : OpenClaim := { program := "ytebbdkcocbampaa", sum := "309f8e8a5edf158d6008f1717daa4b715597803c96b2368a774cbd4341832785", func := "deckhand/deckhandlaw05.SpanJoins", spec := "spanJoins", unfollowed := true, recurses := true, apart := false, narrowed := true }
def SpanJoinsUptoSaid : Prop := spanJoinsUptoRow.holds Try.pinned (OpenSpec.upto spanJoinsSpec)

/-- 'deckhandlaw05.SpanGaps', WHERE WHAT IT READS IS OF BULK AT MOST 1048576: true; the input reads as it did. -/
def spanGapsUptoRow : OpenClaim := { program := "ytebbdkcocbampaa", sum := "309f8e8a5edf158d6008f1717daa4b715597803c96b2368a774cbd4341832785", func := "deckhand/deckhandlaw05.SpanGaps", spec := "spanGaps", unfollowed := true, recurses := true, apart := false, narrowed := true }
def SpanGapsUptoSaid : Prop := spanGapsUptoRow.holds Try.pinned (OpenSpec.upto spanGapsSpec)

/-- 'deckhandlaw09.ZoneSpans', WHERE WHAT IT READS IS OF BULK AT MOST 1048576: true; the input reads as it did. -/
def zoneSpansUptoRow : OpenClaim := { program := "ytebbdkcocbampaa", sum := "309f8e8a5edf158d6008f1717daa4b715597803c96b2368a774cbd4341832785", func := "deckhand/deckhandlaw09.ZoneSpans", spec := "zoneSpans", inPlace := ["math.Float64bits", "math.Float64frombits"], unfollowed := true, recurses := true, apart := false, narrowed := true }
def ZoneSpansUptoSaid : Prop := zoneSpansUptoRow.holds Try.pinned (OpenSpec.upto zoneSpansSpec)

/-- 'deckhandlaw09.ZoneChecks', WHERE WHAT IT READS IS OF BULK AT MOST 1048576: true; the input reads as it did. -/
def zoneChecksUptoRow : OpenClaim := { program := "ytebbdkcocbampaa", sum := "309f8e8a5edf158d6008f1717daa4b715597803c96b2368a774cbd4341832785", func := "deckhand/deckhandlaw09.ZoneChecks", spec := "zoneChecks", inPlace := ["math.Float64bits", "math.Float64frombits"], unfollowed := true, recurses := true, apart := false, narrowed := true }
def ZoneChecksUptoSaid : Prop := zoneChecksUptoRow.holds Try.pinned (OpenSpec.upto zoneChecksSpec)

/-- 'deckhandlaw09.ZoneNeeds', WHERE WHAT IT READS IS OF BULK AT MOST 1048576: true; the input reads as it did. -/
def zoneNeedsUptoRow : OpenClaim := { program := "ytebbdkcocbampaa", sum := "309f8e8a5edf158d6008f1717daa4b715597803c96b2368a774cbd4341832785", func := "deckhand/deckhandlaw09.ZoneNeeds", spec := "zoneNeeds", inPlace := ["math.Float64bits", "math.Float64frombits"], unfollowed := true, recurses := true, apart := false, narrowed := true }
def ZoneNeedsUptoSaid : Prop := zoneNeedsUptoRow.holds Try.pinned (OpenSpec.upto zoneNeedsSpec)

/-- 'deckhandlaw09.ZoneClash', WHERE WHAT IT READS IS OF BULK AT MOST 1048576: true; the input reads as it did. -/
def zoneClashUptoRow : OpenClaim := { program := "ytebbdkcocbampaa", sum := "309f8e8a5edf158d6008f1717daa4b715597803c96b2368a774cbd4341832785", func := "deckhand/deckhandlaw09.ZoneClash", spec := "zoneClash", inPlace := ["math.Float64bits", "math.Float64frombits"], unfollowed := true, recurses := true, apart := false, narrowed := true }
def ZoneClashUptoSaid : Prop := zoneClashUptoRow.holds Try.pinned (OpenSpec.upto zoneClashSpec)

end Rows
end Go.Proofs.Ytebbdkcocbampaa
