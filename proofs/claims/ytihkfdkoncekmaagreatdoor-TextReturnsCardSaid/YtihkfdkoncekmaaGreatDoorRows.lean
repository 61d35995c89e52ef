/-
  NARROWER THAN 'FOR EVERY INPUT', by the rows' own cells (each row's printed sentence says how): TextReplaces: laid · TextParses: laid · TextChecks: loops, laid · TextReturns: loops, laid · TextSettles: laid · TextPoints: laid.
  DERIVED. THE GIVEN ROWS OF THIS SEAT. 6 by the template 'for every input the law returns true; each argument reads behind the call as it read before'; 0 by the template 'total and deterministic' (their statements: YtihkfdkoncekmaaGreatDoorTotals.lean).
  GIVEN WITH THE SEED: the statements are not yours to turn. If you find one false, say at which input.
  Laid BY PROGRAM, IN A SANDBOX (cutbox-rows.mjs): the forced cells as the released guide's own fill.sh prints them over the translation 6ce2406f811ecde9… (all of the seat's roots in one cut). By AI agents, Wed Nov 11 2026. No macro, syntax, notation, axiom, sorry.
-/
import Derived.Test.YtihkfdkoncekmaaGreatDoorChecked
import GoSem.PinnedTables
import GoSem.Claim
import GoSem.ClaimJoined
import GoSem.ClaimMapViews
import Derived.JoinedTies
import Derived.KernelRfl
namespace Go.Proofs.YtihkfdkoncekmaaGreatDoor
/- THE CELL 'sum', in the pinned program and in every row, IS THE sha256 OF THE DUMP (.gsa) THAT YtihkfdkoncekmaaGreatDoorProg.lean LOADS. Nothing in Lean hashes anything: it is a label: what it is worth is what the hold of that sum in a sandbox is worth. -/
noncomputable def Tryz.pinned : Pinned := { name := "ytihkfdkoncekmaagreatdoor", sum := "6ce2406f811ecde9c60646dcf988a463a29637e574ef22ee30e52a1247120027", checked := Tryz.checked }
namespace Rows
def none {H : Type} : Left H := { results := [], args := [] }

/- WHAT THE LISTED PACKAGE-LEVEL VARIABLES READ AS WHEN THE CALL BEGINS. Each datum BY PROGRAM (the guide's laid-datum.mjs) off the statement by which the dump's own 'gosem.cut.vars' lays the variable. In a bare row this is a premise. The card (YtihkfdkoncekmaaGreatDoorCards.lean) ties it to the program's text. -/
def laid_unicode_utf8_acceptRanges {H : Type} : DataW H := .agg [.agg [.lit (.int .u8 128), .lit (.int .u8 191)], .agg [.lit (.int .u8 160), .lit (.int .u8 191)], .agg [.lit (.int .u8 128), .lit (.int .u8 159)], .agg [.lit (.int .u8 144), .lit (.int .u8 191)], .agg [.lit (.int .u8 128), .lit (.int .u8 143)], .agg [.lit (.int .u8 0), .lit (.int .u8 0)], .agg [.lit (.int .u8 0), .lit (.int .u8 0)], .agg [.lit (.int .u8 0), .lit (.int .u8 0)], .agg [.lit (.int .u8 0), .lit (.int .u8 0)], .agg [.lit (.int .u8 0), .lit (.int .u8 0)], .agg [.lit (.int .u8 0), .lit (.int .u8 0)], .agg [.lit (.int .u8 0), .lit (.int .u8 0)], .agg [.lit (.int .u8 0), .lit (.int .u8 0)], .agg [.lit (.int .u8 0), .lit (.int .u8 0)], .agg [.lit (.int .u8 0), .lit (.int .u8 0)], .agg [.lit (.int .u8 0), .lit (.int .u8 0)]]
def laid_bowline_text_short {H : Type} : DataW H := .agg [.agg [.lit (.int .u8 34), .lit (.int .u8 34)], .agg [.lit (.int .u8 92), .lit (.int .u8 92)], .agg [.lit (.int .u8 47), .lit (.int .u8 47)], .agg [.lit (.int .u8 98), .lit (.int .u8 8)], .agg [.lit (.int .u8 102), .lit (.int .u8 12)], .agg [.lit (.int .u8 110), .lit (.int .u8 10)], .agg [.lit (.int .u8 114), .lit (.int .u8 13)], .agg [.lit (.int .u8 116), .lit (.int .u8 9)]]
def laid_bowline_text_leads {H : Type} : DataW H := .iface "func table" (.agg [.agg [.lit (.int .u8 0), .lit (.int .u8 127), .lit (.int .i64 1), .agg [.lit (.int .u8 0), .lit (.int .u8 0)], .iface "func" (.lit (.string [98, 111, 119, 108, 105, 110, 101, 47, 116, 101, 120, 116, 46, 115, 101, 118, 101, 110]))], .agg [.lit (.int .u8 194), .lit (.int .u8 223), .lit (.int .i64 2), .agg [.lit (.int .u8 128), .lit (.int .u8 191)], .iface "func" (.lit (.string [98, 111, 119, 108, 105, 110, 101, 47, 116, 101, 120, 116, 46, 102, 105, 118, 101]))], .agg [.lit (.int .u8 224), .lit (.int .u8 224), .lit (.int .i64 3), .agg [.lit (.int .u8 160), .lit (.int .u8 191)], .iface "func" (.lit (.string [98, 111, 119, 108, 105, 110, 101, 47, 116, 101, 120, 116, 46, 102, 111, 117, 114]))], .agg [.lit (.int .u8 225), .lit (.int .u8 236), .lit (.int .i64 3), .agg [.lit (.int .u8 128), .lit (.int .u8 191)], .iface "func" (.lit (.string [98, 111, 119, 108, 105, 110, 101, 47, 116, 101, 120, 116, 46, 102, 111, 117, 114]))], .agg [.lit (.int .u8 237), .lit (.int .u8 237), .lit (.int .i64 3), .agg [.lit (.int .u8 128), .lit (.int .u8 159)], .iface "func" (.lit (.string [98, 111, 119, 108, 105, 110, 101, 47, 116, 101, 120, 116, 46, 102, 111, 117, 114]))], .agg [.lit (.int .u8 238), .lit (.int .u8 239), .lit (.int .i64 3), .agg [.lit (.int .u8 128), .lit (.int .u8 191)], .iface "func" (.lit (.string [98, 111, 119, 108, 105, 110, 101, 47, 116, 101, 120, 116, 46, 102, 111, 117, 114]))], .agg [.lit (.int .u8 240), .lit (.int .u8 240), .lit (.int .i64 4), .agg [.lit (.int .u8 144), .lit (.int .u8 191)], .iface "func" (.lit (.string [98, 111, 119, 108, 105, 110, 101, 47, 116, 101, 120, 116, 46, 116, 104, 114, 101, 101]))], .agg [.lit (.int .u8 241), .lit (.int .u8 243), .lit (.int .i64 4), .agg [.lit (.int .u8 128), .lit (.int .u8 191)], .iface "func" (.lit (.string [98, 111, 119, 108, 105, 110, 101, 47, 116, 101, 120, 116, 46, 116, 104, 114, 101, 101]))], .agg [.lit (.int .u8 244), .lit (.int .u8 244), .lit (.int .i64 4), .agg [.lit (.int .u8 128), .lit (.int .u8 143)], .iface "func" (.lit (.string [98, 111, 119, 108, 105, 110, 101, 47, 116, 101, 120, 116, 46, 116, 104, 114, 101, 101]))]])
/-- One of Go's own tables, pinned by name: the form's constant. -/
def laid_unicode_utf8_first : DataW Unit := Go.Pinned.utf8First

/-- 'bowlinelaw38.TextReplaces': WHATEVER THE INPUT: true; the input reads as it did. -/
def textReplacesSpec : ChangeSpec := { name := "textReplaces", fn := fun _ => fun
  | [d] => { results := [.lit (.bool true)], args := [d] }
  | _ => none }
def textReplacesRow : OpenClaim := { program := "ytihkfdkoncekmaagreatdoor", sum := "6ce2406f811ecde9c60646dcf988a463a29637e574ef22ee30e52a1247120027", func := "bowline/bowlinelaw38.TextReplaces", spec := "textReplaces", inPlace := ["internal/bytealg.IndexByteString", "internal/bytealg.abigen_runtime_cmpstring", "internal/abi.NoEscape", "internal/bytealg.MakeNoZero", "internal/bytealg.CountString", "internal/bytealg.IndexString"], unfollowed := true, recurses := true, named := ["bowline/text.leads", "bowline/text.short", "unicode/utf8.first", "unicode/utf8.acceptRanges", "internal/bytealg.MaxLen"], apart := false, laid := [("unicode/utf8.acceptRanges", laid_unicode_utf8_acceptRanges), ("bowline/text.short", laid_bowline_text_short), ("bowline/text.leads", laid_bowline_text_leads), ("unicode/utf8.first", laid_unicode_utf8_first)] }
def TextReplacesSaid : Prop := textReplacesRow.holds Tryz.pinned (OpenSpec.ofChange textReplacesSpec)

/-- ITS FALSE NEIGHBOUR: 'it returns false'. Refute it at one input. -/
def textReplacesWrong : ChangeSpec := { name := "textReplaces", fn := fun _ => fun
  | [d] => { results := [.lit (.bool false)], args := [d] }
  | _ => none }
def TextReplacesWrongFalsely : Prop := textReplacesRow.holds Tryz.pinned (OpenSpec.ofChange textReplacesWrong)

/-- 'bowlinelaw38.TextParses': WHATEVER THE INPUT: true; the input reads as it did. -/
def textParsesSpec : ChangeSpec := { name := "textParses", fn := fun _ => fun
  | [d] => { results := [.lit (.bool true)], args := [d] }
  | _ => none }
def textParsesRow : OpenClaim := { program := "ytihkfdkoncekmaagreatdoor", sum := "6ce2406f811ecde9c60646dcf988a463a29637e574ef22ee30e52a1247120027", func := "bowline/bowlinelaw38.TextParses", spec := "textParses", inPlace := ["internal/bytealg.IndexByteString", "internal/bytealg.abigen_runtime_cmpstring", "internal/abi.NoEscape", "internal/bytealg.MakeNoZero", "internal/bytealg.CountString", "internal/bytealg.IndexString"], unfollowed := true, recurses := true, named := ["bowline/text.leads", "bowline/text.short", "unicode/utf8.first", "unicode/utf8.acceptRanges", "internal/bytealg.MaxLen"], apart := false, laid := [("unicode/utf8.acceptRanges", laid_unicode_utf8_acceptRanges), ("bowline/text.short", laid_bowline_text_short), ("bowline/text.leads", laid_bowline_text_leads), ("unicode/utf8.first", laid_unicode_utf8_first)] }
def TextParsesSaid : Prop := textParsesRow.holds Tryz.pinned (OpenSpec.ofChange textParsesSpec)

/-- ITS FALSE NEIGHBOUR: 'it returns false'. Refute it at one input. -/
def textParsesWrong : ChangeSpec := { name := "textParses", fn := fun _ => fun
  | [d] => { results := [.lit (.bool false)], args := [d] }
  | _ => none }
def TextParsesWrongFalsely : Prop := textParsesRow.holds Tryz.pinned (OpenSpec.ofChange textParsesWrong)

/-- 'bowlinelaw38.TextChecks': WHATEVER THE INPUT: true; the input reads as it did. -/
def textChecksSpec : ChangeSpec := { name := "textChecks", fn := fun _ => fun
  | [d] => { results := [.lit (.bool true)], args := [d] }
  | _ => none }
def textChecksRow : OpenClaim := { program := "ytihkfdkoncekmaagreatdoor", sum := "6ce2406f811ecde9c60646dcf988a463a29637e574ef22ee30e52a1247120027", func := "bowline/bowlinelaw38.TextChecks", spec := "textChecks", inPlace := ["internal/bytealg.IndexByteString", "internal/bytealg.abigen_runtime_cmpstring", "internal/abi.NoEscape", "internal/bytealg.MakeNoZero", "internal/bytealg.CountString", "internal/bytealg.IndexString"], unfollowed := true, recurses := true, named := ["bowline/text.leads", "bowline/text.short", "unicode/utf8.first", "unicode/utf8.acceptRanges", "internal/bytealg.MaxLen"], loops := true, apart := false, laid := [("unicode/utf8.acceptRanges", laid_unicode_utf8_acceptRanges), ("bowline/text.short", laid_bowline_text_short), ("bowline/text.leads", laid_bowline_text_leads), ("unicode/utf8.first", laid_unicode_utf8_first)] }
def TextChecksSaid : Prop := textChecksRow.holds Tryz.pinned (OpenSpec.ofChange textChecksSpec)

/-- ITS FALSE NEIGHBOUR: 'it returns false'. Refute it at one input. -/
def textChecksWrong : ChangeSpec := { name := "textChecks", fn := fun _ => fun
  | [d] => { results := [.lit (.bool false)], args := [d] }
  | _ => none }
def TextChecksWrongFalsely : Prop := textChecksRow.holds Tryz.pinned (OpenSpec.ofChange textChecksWrong)

/-- 'bowlinelaw38.TextReturns': WHATEVER THE INPUT: true; the input reads as it did. -/
def textReturnsSpec : ChangeSpec := { name := "textReturns", fn := fun _ => fun
  | [d1, d2] => { results := [.lit (.bool true)], args := [d1, d2] }
  | _ => none }
def textReturnsRow : OpenClaim := { program := "ytihkfdkoncekmaagreatdoor", sum := "6ce2406f811ecde9c60646dcf988a463a29637e574ef22ee30e52a1247120027", func := "bowline/bowlinelaw38.TextReturns", spec := "textReturns", inPlace := ["internal/bytealg.IndexByteString", "internal/bytealg.abigen_runtime_cmpstring", "internal/abi.NoEscape", "internal/bytealg.MakeNoZero", "internal/bytealg.CountString", "internal/bytealg.IndexString"], unfollowed := true, recurses := true, named := ["bowline/text.leads", "bowline/text.short", "unicode/utf8.first", "unicode/utf8.acceptRanges", "internal/bytealg.MaxLen"], loops := true, apart := false, laid := [("unicode/utf8.acceptRanges", laid_unicode_utf8_acceptRanges), ("bowline/text.short", laid_bowline_text_short), ("bowline/text.leads", laid_bowline_text_leads), ("unicode/utf8.first", laid_unicode_utf8_first)] }
def TextReturnsSaid : Prop := textReturnsRow.holds Tryz.pinned (OpenSpec.ofChange textReturnsSpec)

/-- ITS FALSE NEIGHBOUR: 'it returns false'. Refute it at one input. -/
def textReturnsWrong : ChangeSpec := { name := "textReturns", fn := fun _ => fun
  | [d1, d2] => { results := [.lit (.bool false)], args := [d1, d2] }
  | _ => none }
def TextReturnsWrongFalsely : Prop := textReturnsRow.holds Tryz.pinned (OpenSpec.ofChange textReturnsWrong)

/-- 'bowlinelaw38.TextSettles': WHATEVER THE INPUT: true; the input reads as it did. -/
def textSettlesSpec : ChangeSpec := { name := "textSettles", fn := fun _ => fun
  | [d] => { results := [.lit (.bool true)], args := [d] }
  | _ => none }
def textSettlesRow : OpenClaim := { program := "ytihkfdkoncekmaagreatdoor", sum := "6ce2406f811ecde9c60646dcf988a463a29637e574ef22ee30e52a1247120027", func := "bowline/bowlinelaw38.TextSettles", spec := "textSettles", inPlace := ["internal/bytealg.IndexByteString", "internal/bytealg.abigen_runtime_cmpstring", "internal/abi.NoEscape", "internal/bytealg.MakeNoZero", "internal/bytealg.CountString", "internal/bytealg.IndexString"], unfollowed := true, recurses := true, named := ["bowline/text.leads", "bowline/text.short", "unicode/utf8.first", "unicode/utf8.acceptRanges", "internal/bytealg.MaxLen"], apart := false, laid := [("unicode/utf8.acceptRanges", laid_unicode_utf8_acceptRanges), ("bowline/text.short", laid_bowline_text_short), ("bowline/text.leads", laid_bowline_text_leads), ("unicode/utf8.first", laid_unicode_utf8_first)] }
def TextSettlesSaid : Prop := textSettlesRow.holds Tryz.pinned (OpenSpec.ofChange textSettlesSpec)

/-- ITS FALSE NEIGHBOUR: 'it returns false'. Refute it at one input. -/
def textSettlesWrong : ChangeSpec := { name := "textSettles", fn := fun _ => fun
  | [d] => { results := [.lit (.bool false)], args := [d] }
  | _ => none }
def TextSettlesWrongFalsely : Prop := textSettlesRow.holds Tryz.pinned (OpenSpec.ofChange textSettlesWrong)

/-- 'bowlinelaw38.TextPoints': WHATEVER THE INPUT: true; the input reads as it did. -/
def textPointsSpec : ChangeSpec := { name := "textPoints", fn := fun _ => fun
  | [d1, d2] => { results := [.lit (.bool true)], args := [d1, d2] }
  | _ => none }
def textPointsRow : OpenClaim := { program := "ytihkfdkoncekmaagreatdoor", sum := "6ce2406f811ecde9c60646dcf988a463a29637e574ef22ee30e52a1247120027", func := "bowline/bowlinelaw38.TextPoints", spec := "textPoints", inPlace := ["internal/bytealg.IndexByteString", "internal/bytealg.abigen_runtime_cmpstring", "internal/abi.NoEscape", "internal/bytealg.MakeNoZero", "internal/bytealg.CountString", "internal/bytealg.IndexString"], unfollowed := true, recurses := true, named := ["bowline/text.leads", "bowline/text.short", "unicode/utf8.first", "unicode/utf8.acceptRanges", "internal/bytealg.MaxLen"], apart := false, laid := [("unicode/utf8.acceptRanges", laid_unicode_utf8_acceptRanges), ("bowline/text.short", laid_bowline_text_short), ("bowline/text.leads", laid_bowline_text_leads), ("unicode/utf8.first", laid_unicode_utf8_first)] }
def TextPointsSaid : Prop := textPointsRow.holds Tryz.pinned (OpenSpec.ofChange textPointsSpec)

/-- ITS FALSE NEIGHBOUR: 'it returns false'. Refute it at one input. -/
def textPointsWrong : ChangeSpec := { name := "textPoints", fn := fun _ => fun
  | [d1, d2] => { results := [.lit (.bool false)], args := [d1, d2] }
  | _ => none }
def TextPointsWrongFalsely : Prop := textPointsRow.holds Tryz.pinned (OpenSpec.ofChange textPointsWrong)

/- THE SECOND FORM. 'bulk': how many values and letters a reading holds, each counted each time it is reached (what is shared counts as often as it is met; a slice's spare places count too). A statement '..UptoSaid' is the law's where the arguments, and the package variables that the reading takes, are together of bulk at most 1048576: NARROWER than '..Said'. Prove '..Said' where nothing that the law and all that it calls make is longer than what came in: it says more and counts as full. Else prove '..UptoSaid'. A law counts once. -/
mutual
def uptoBulk {H : Type} : DataW H → Nat
  | .lit (.string bytes) => bytes.length + 1
  | .lit _ => 1
  | .nil => 1
  | .ptr d => uptoBulk d + 1
  | .slice elems spare => uptoBulkAll elems + uptoBulkAll spare + 1
  | .agg parts => uptoBulkAll parts + 1
  | .iface _ d => uptoBulk d + 1
  | .map entries => uptoBulkEntries entries + 1
  | .held _ => 1
def uptoBulkAll {H : Type} : List (DataW H) → Nat
  | [] => 0
  | d :: r => uptoBulk d + uptoBulkAll r
def uptoBulkEntries {H : Type} : List (Lit × DataW H) → Nat
  | [] => 0
  | x :: r => uptoBulkEntry x + uptoBulkEntries r
def uptoBulkEntry {H : Type} : Lit × DataW H → Nat
  | (.string bytes, d) => bytes.length + uptoBulk d + 1
  | (_, d) => uptoBulk d + 1
 end
def uptoSmall : (H : Type) → List (DataW H) → Bool := fun _ ds => decide (uptoBulkAll ds ≤ 1048576)
def OpenSpec.upto (s : _root_.Go.ChangeSpec) : _root_.Go.OpenSpec := { _root_.Go.OpenSpec.ofChange s with cond := some uptoSmall }

/-- 'bowlinelaw38.TextReplaces', WHERE WHAT IT READS IS OF BULK AT MOST 1048576: true; the input reads as it did. -/
def textReplacesUptoRow : OpenClaim := { program := "ytihkfdkoncekmaagreatdoor", sum := "6ce2406f811ecde9c60646dcf988a463a29637e574ef22ee30e52a1247120027", func := "bowline/bowlinelaw38.TextReplaces", spec := "textReplaces", inPlace := ["internal/bytealg.IndexByteString", "internal/bytealg.abigen_runtime_cmpstring", "internal/abi.NoEscape", "internal/bytealg.MakeNoZero", "internal/bytealg.CountString", "internal/bytealg.IndexString"], unfollowed := true, recurses := true, named := ["bowline/text.leads", "bowline/text.short", "unicode/utf8.first", "unicode/utf8.acceptRanges", "internal/bytealg.MaxLen"], apart := false, laid := [("unicode/utf8.acceptRanges", laid_unicode_utf8_acceptRanges), ("bowline/text.short", laid_bowline_text_short), ("bowline/text.leads", laid_bowline_text_leads), ("unicode/utf8.first", laid_unicode_utf8_first)], narrowed := true }
def TextReplacesUptoSaid : Prop := textReplacesUptoRow.holds Tryz.pinned (OpenSpec.upto textReplacesSpec)

/-- 'bowlinelaw38.TextParses', WHERE WHAT IT READS IS OF BULK AT MOST 1048576: true; the input reads as it did. -/
def textParsesUptoRow : OpenClaim := { program := "ytihkfdkoncekmaagreatdoor", sum := "6ce2406f811ecde9c60646dcf988a463a29637e574ef22ee30e52a1247120027", func := "bowline/bowlinelaw38.TextParses", spec := "textParses", inPlace := ["internal/bytealg.IndexByteString", "internal/bytealg.abigen_runtime_cmpstring", "internal/abi.NoEscape", "internal/bytealg.MakeNoZero", "internal/bytealg.CountString", "internal/bytealg.IndexString"], unfollowed := true, recurses := true, named := ["bowline/text.leads", "bowline/text.short", "unicode/utf8.first", "unicode/utf8.acceptRanges", "internal/bytealg.MaxLen"], apart := false, laid := [("unicode/utf8.acceptRanges", laid_unicode_utf8_acceptRanges), ("bowline/text.short", laid_bowline_text_short), ("bowline/text.leads", laid_bowline_text_leads), ("unicode/utf8.first", laid_unicode_utf8_first)], narrowed := true }
def TextParsesUptoSaid : Prop := textParsesUptoRow.holds Tryz.pinned (OpenSpec.upto textParsesSpec)

/-- 'bowlinelaw38.TextChecks', WHERE WHAT IT READS IS OF BULK AT MOST 1048576: true; the input reads as it did. -/
def textChecksUptoRow : OpenClaim := { program := "ytihkfdkoncekmaagreatdoor", sum := "6ce2406f811ecde9c60646dcf988a463a29637e574ef22ee30e52a1247120027", func := "bowline/bowlinelaw38.TextChecks", spec := "textChecks", inPlace := ["internal/bytealg.IndexByteString", "internal/bytealg.abigen_runtime_cmpstring", "internal/abi.NoEscape", "internal/bytealg.MakeNoZero", "internal/bytealg.CountString", "internal/bytealg.IndexString"], unfollowed := true, recurses := true, named := ["bowline/text.leads", "bowline/text.short", "unicode/utf8.first", "unicode/utf8.acceptRanges", "internal/bytealg.MaxLen"], loops := true, apart := false, laid := [("unicode/utf8.acceptRanges", laid_unicode_utf8_acceptRanges), ("bowline/text.short", laid_bowline_text_short), ("bowline/text.leads", laid_bowline_text_leads), ("unicode/utf8.first", laid_unicode_utf8_first)], narrowed := true }
def TextChecksUptoSaid : Prop := textChecksUptoRow.holds Tryz.pinned (OpenSpec.upto textChecksSpec)

/-- 'bowlinelaw38.TextReturns', WHERE WHAT IT READS IS OF BULK AT MOST 1048576: true; the input reads as it did. -/
def textReturnsUptoRow : OpenClaim := { program := "ytihkfdkoncekmaagreatdoor", sum := "6ce2406f811ecde9c60646dcf988a463a29637e574ef22ee30e52a1247120027", func := "bowline/bowlinelaw38.TextReturns", spec := "textReturns", inPlace := ["internal/bytealg.IndexByteString", "internal/bytealg.abigen_runtime_cmpstring", "internal/abi.NoEscape", "internal/bytealg.MakeNoZero", "internal/bytealg.CountString", "internal/bytealg.IndexString"], unfollowed := true, recurses := true, named := ["bowline/text.leads", "bowline/text.short", "unicode/utf8.first", "unicode/utf8.acceptRanges", "internal/bytealg.MaxLen"], loops := true, apart := false, laid := [("unicode/utf8.acceptRanges", laid_unicode_utf8_acceptRanges), ("bowline/text.short", laid_bowline_text_short), ("bowline/text.leads", laid_bowline_text_leads), ("unicode/utf8.first", laid_unicode_utf8_first)], narrowed := true }
def TextReturnsUptoSaid : Prop := textReturnsUptoRow.holds Tryz.pinned (OpenSpec.upto textReturnsSpec)

/-- 'bowlinelaw38.TextSettles', WHERE WHAT IT READS IS OF BULK AT MOST 1048576: true; the input reads as it did. -/
def textSettlesUptoRow : OpenClaim := { program := "ytihkfdkoncekmaagreatdoor", sum := "6ce2406f811ecde9c60646dcf988a463a29637e574ef22ee30e52a1247120027", func := "bowline/bowlinelaw38.TextSettles", spec := "textSettles", inPlace := ["internal/bytealg.IndexByteString", "internal/bytealg.abigen_runtime_cmpstring", "internal/abi.NoEscape", "internal/bytealg.MakeNoZero", "internal/bytealg.CountString", "internal/bytealg.IndexString"], unfollowed := true, recurses := true, named := ["bowline/text.leads", "bowline/text.short", "unicode/utf8.first", "unicode/utf8.acceptRanges", "internal/bytealg.MaxLen"], apart := false, laid := [("unicode/utf8.acceptRanges", laid_unicode_utf8_acceptRanges), ("bowline/text.short", laid_bowline_text_short), ("bowline/text.leads", laid_bowline_text_leads), ("unicode/utf8.first", laid_unicode_utf8_first)], narrowed := true }
def TextSettlesUptoSaid : Prop := textSettlesUptoRow.holds Tryz.pinned (OpenSpec.upto textSettlesSpec)

/-- 'bowlinelaw38.TextPoints', WHERE WHAT IT READS IS OF BULK AT MOST 1048576: true; the input reads as it did. -/
def textPointsUptoRow : OpenClaim := { program := "ytihkfdkoncekmaagreatdoor", sum := "6ce2406f811ecde9c60646dcf988a463a29637e574ef22ee30e52a1247120027", func := "bowline/bowlinelaw38.TextPoints", spec := "textPoints", inPlace := ["internal/bytealg.IndexByteString", "internal/bytealg.abigen_runtime_cmpstring", "internal/abi.NoEscape", "internal/bytealg.MakeNoZero", "internal/bytealg.CountString", "internal/bytealg.IndexString"], unfollowed := true, recurses := true, named := ["bowline/text.leads", "bowline/text.short", "unicode/utf8.first", "unicode/utf8.acceptRanges", "internal/bytealg.MaxLen"], apart := false, laid := [("unicode/utf8.acceptRanges", laid_unicode_utf8_acceptRanges), ("bowline/text.short", laid_bowline_text_short), ("bowline/text.leads", laid_bowline_text_leads), ("unicode/utf8.first", laid_unicode_utf8_first)], narrowed := true }
def TextPointsUptoSaid : Prop := textPointsUptoRow.holds Tryz.pinned (OpenSpec.upto textPointsSpec)

end Rows
end Go.Proofs.YtihkfdkoncekmaaGreatDoor
