/-
  NARROWER THAN 'FOR EVERY INPUT', by the rows' own cells (each row's printed sentence says how): QueueNone: laid · LinkNone: laid · SenderNone: laid · ReceiverNone: laid · SessionNone: laid.
  DERIVED. THE GIVEN ROWS OF THIS SEAT. 5 by the template 'for every input the law returns true; each argument reads behind the call as it read before'; 0 by the template 'total and deterministic' (their statements: YtincemehblfipaaGreatDoorTotals.lean).
  GIVEN WITH THE SEED: the statements are not yours to turn. If you find one false, say at which input.
  Laid BY PROGRAM, IN A SANDBOX (cutbox-rows.mjs): the forced cells as the released guide's own fill.sh prints them over the translation 44801ea8cb99ec23… (all of the seat's roots in one cut). By AI agents, Wed Nov 11 2026. No macro, syntax, notation, axiom, sorry.
-/
import Derived.Test.YtincemehblfipaaGreatDoorChecked
import GoSem.PinnedTables
import GoSem.Claim
import GoSem.ClaimJoined
import GoSem.ClaimMapViews
import Derived.JoinedTies
import Derived.KernelRfl
namespace Go.Proofs.YtincemehblfipaaGreatDoor
/- THE CELL 'sum', in the pinned program and in every row, IS THE sha256 OF THE DUMP (.gsa) THAT YtincemehblfipaaGreatDoorProg.lean LOADS. Nothing in Lean hashes anything: it is a label: what it is worth is what the hold of that sum in a sandbox is worth. -/
noncomputable def Tryz.pinned : Pinned := { name := "ytincemehblfipaagreatdoor", sum := "44801ea8cb99ec23b680f26cb7c35fa69743191b5922ffdef95b8bd40eed44fa", checked := Tryz.checked }
namespace Rows
def none {H : Type} : Left H := { results := [], args := [] }

/- WHAT THE LISTED PACKAGE-LEVEL VARIABLES READ AS WHEN THE CALL BEGINS. Each datum BY PROGRAM (the guide's laid-datum.mjs) off the statement by which the dump's own 'gosem.cut.vars' lays the variable. In a bare row this is a premise. The card (YtincemehblfipaaGreatDoorCards.lean) ties it to the program's text. -/
def laid_unicode_utf8_acceptRanges {H : Type} : DataW H := .agg [.agg [.lit (.int .u8 128), .lit (.int .u8 191)], .agg [.lit (.int .u8 160), .lit (.int .u8 191)], .agg [.lit (.int .u8 128), .lit (.int .u8 159)], .agg [.lit (.int .u8 144), .lit (.int .u8 191)], .agg [.lit (.int .u8 128), .lit (.int .u8 143)], .agg [.lit (.int .u8 0), .lit (.int .u8 0)], .agg [.lit (.int .u8 0), .lit (.int .u8 0)], .agg [.lit (.int .u8 0), .lit (.int .u8 0)], .agg [.lit (.int .u8 0), .lit (.int .u8 0)], .agg [.lit (.int .u8 0), .lit (.int .u8 0)], .agg [.lit (.int .u8 0), .lit (.int .u8 0)], .agg [.lit (.int .u8 0), .lit (.int .u8 0)], .agg [.lit (.int .u8 0), .lit (.int .u8 0)], .agg [.lit (.int .u8 0), .lit (.int .u8 0)], .agg [.lit (.int .u8 0), .lit (.int .u8 0)], .agg [.lit (.int .u8 0), .lit (.int .u8 0)]]
/-- One of Go's own tables, pinned by name: the form's constant. -/
def laid_unicode_utf8_first : DataW Unit := Go.Pinned.utf8First

/-- 'postmarklaw21.QueueNone': WHATEVER THE INPUT: true; the input reads as it did. -/
def queueNoneSpec : ChangeSpec := { name := "queueNone", fn := fun _ => fun
  | [] => { results := [.lit (.bool true)], args := [] }
  | _ => none }
def queueNoneRow : OpenClaim := { program := "ytincemehblfipaagreatdoor", sum := "44801ea8cb99ec23b680f26cb7c35fa69743191b5922ffdef95b8bd40eed44fa", func := "postmark/postmarklaw21.QueueNone", spec := "queueNone", inPlace := ["internal/abi.NoEscape", "internal/bytealg.abigen_runtime_cmpstring", "internal/reflectlite.ValueOf", "internal/reflectlite.Swapper", "(internal/reflectlite.Value).Len"], unfollowed := true, recurses := true, named := ["unicode/utf8.first", "unicode/utf8.acceptRanges"], apart := false, laid := [("unicode/utf8.acceptRanges", laid_unicode_utf8_acceptRanges), ("unicode/utf8.first", laid_unicode_utf8_first)] }
def QueueNoneSaid : Prop := queueNoneRow.holds Tryz.pinned (OpenSpec.ofChange queueNoneSpec)

/-- ITS FALSE NEIGHBOUR: 'it returns false'. Refute it at one input. -/
def queueNoneWrong : ChangeSpec := { name := "queueNone", fn := fun _ => fun
  | [] => { results := [.lit (.bool false)], args := [] }
  | _ => none }
def QueueNoneWrongFalsely : Prop := queueNoneRow.holds Tryz.pinned (OpenSpec.ofChange queueNoneWrong)

/-- 'postmarklaw22.LinkNone': WHATEVER THE INPUT: true; the input reads as it did. -/
def linkNoneSpec : ChangeSpec := { name := "linkNone", fn := fun _ => fun
  | [] => { results := [.lit (.bool true)], args := [] }
  | _ => none }
def linkNoneRow : OpenClaim := { program := "ytincemehblfipaagreatdoor", sum := "44801ea8cb99ec23b680f26cb7c35fa69743191b5922ffdef95b8bd40eed44fa", func := "postmark/postmarklaw22.LinkNone", spec := "linkNone", inPlace := ["internal/abi.NoEscape", "internal/bytealg.abigen_runtime_cmpstring", "internal/reflectlite.ValueOf", "internal/reflectlite.Swapper", "(internal/reflectlite.Value).Len"], unfollowed := true, recurses := true, named := ["unicode/utf8.first", "unicode/utf8.acceptRanges"], apart := false, laid := [("unicode/utf8.acceptRanges", laid_unicode_utf8_acceptRanges), ("unicode/utf8.first", laid_unicode_utf8_first)] }
def LinkNoneSaid : Prop := linkNoneRow.holds Tryz.pinned (OpenSpec.ofChange linkNoneSpec)

/-- ITS FALSE NEIGHBOUR: 'it returns false'. Refute it at one input. -/
def linkNoneWrong : ChangeSpec := { name := "linkNone", fn := fun _ => fun
  | [] => { results := [.lit (.bool false)], args := [] }
  | _ => none }
def LinkNoneWrongFalsely : Prop := linkNoneRow.holds Tryz.pinned (OpenSpec.ofChange linkNoneWrong)

/-- 'postmarklaw24.SenderNone': WHATEVER THE INPUT: true; the input reads as it did. -/
def senderNoneSpec : ChangeSpec := { name := "senderNone", fn := fun _ => fun
  | [] => { results := [.lit (.bool true)], args := [] }
  | _ => none }
def senderNoneRow : OpenClaim := { program := "ytincemehblfipaagreatdoor", sum := "44801ea8cb99ec23b680f26cb7c35fa69743191b5922ffdef95b8bd40eed44fa", func := "postmark/postmarklaw24.SenderNone", spec := "senderNone", inPlace := ["internal/abi.NoEscape", "internal/bytealg.abigen_runtime_cmpstring", "internal/reflectlite.ValueOf", "internal/reflectlite.Swapper", "(internal/reflectlite.Value).Len"], unfollowed := true, recurses := true, named := ["unicode/utf8.first", "unicode/utf8.acceptRanges"], apart := false, laid := [("unicode/utf8.acceptRanges", laid_unicode_utf8_acceptRanges), ("unicode/utf8.first", laid_unicode_utf8_first)] }
def SenderNoneSaid : Prop := senderNoneRow.holds Tryz.pinned (OpenSpec.ofChange senderNoneSpec)

/-- ITS FALSE NEIGHBOUR: 'it returns false'. Refute it at one input. -/
def senderNoneWrong : ChangeSpec := { name := "senderNone", fn := fun _ => fun
  | [] => { results := [.lit (.bool false)], args := [] }
  | _ => none }
def SenderNoneWrongFalsely : Prop := senderNoneRow.holds Tryz.pinned (OpenSpec.ofChange senderNoneWrong)

/-- 'postmarklaw25.ReceiverNone': WHATEVER THE INPUT: true; the input reads as it did. -/
def receiverNoneSpec : ChangeSpec := { name := "receiverNone", fn := fun _ => fun
  | [] => { results := [.lit (.bool true)], args := [] }
  | _ => none }
def receiverNoneRow : OpenClaim := { program := "ytincemehblfipaagreatdoor", sum := "44801ea8cb99ec23b680f26cb7c35fa69743191b5922ffdef95b8bd40eed44fa", func := "postmark/postmarklaw25.ReceiverNone", spec := "receiverNone", inPlace := ["internal/abi.NoEscape", "internal/bytealg.abigen_runtime_cmpstring", "math/bits.Add64", "internal/reflectlite.ValueOf", "internal/reflectlite.Swapper", "(internal/reflectlite.Value).Len"], unfollowed := true, recurses := true, named := ["unicode/utf8.first", "unicode/utf8.acceptRanges"], apart := false, laid := [("unicode/utf8.acceptRanges", laid_unicode_utf8_acceptRanges), ("unicode/utf8.first", laid_unicode_utf8_first)] }
def ReceiverNoneSaid : Prop := receiverNoneRow.holds Tryz.pinned (OpenSpec.ofChange receiverNoneSpec)

/-- ITS FALSE NEIGHBOUR: 'it returns false'. Refute it at one input. -/
def receiverNoneWrong : ChangeSpec := { name := "receiverNone", fn := fun _ => fun
  | [] => { results := [.lit (.bool false)], args := [] }
  | _ => none }
def ReceiverNoneWrongFalsely : Prop := receiverNoneRow.holds Tryz.pinned (OpenSpec.ofChange receiverNoneWrong)

/-- 'postmarklaw26.SessionNone': WHATEVER THE INPUT: true; the input reads as it did. -/
def sessionNoneSpec : ChangeSpec := { name := "sessionNone", fn := fun _ => fun
  | [] => { results := [.lit (.bool true)], args := [] }
  | _ => none }
def sessionNoneRow : OpenClaim := { program := "ytincemehblfipaagreatdoor", sum := "44801ea8cb99ec23b680f26cb7c35fa69743191b5922ffdef95b8bd40eed44fa", func := "postmark/postmarklaw26.SessionNone", spec := "sessionNone", inPlace := ["internal/abi.NoEscape", "internal/bytealg.abigen_runtime_cmpstring", "math/bits.Add64", "internal/reflectlite.ValueOf", "internal/reflectlite.Swapper", "(internal/reflectlite.Value).Len"], unfollowed := true, recurses := true, named := ["unicode/utf8.first", "unicode/utf8.acceptRanges"], apart := false, laid := [("unicode/utf8.acceptRanges", laid_unicode_utf8_acceptRanges), ("unicode/utf8.first", laid_unicode_utf8_first)] }
def SessionNoneSaid : Prop := sessionNoneRow.holds Tryz.pinned (OpenSpec.ofChange sessionNoneSpec)

/-- ITS FALSE NEIGHBOUR: 'it returns false'. Refute it at one input. -/
def sessionNoneWrong : ChangeSpec := { name := "sessionNone", fn := fun _ => fun
  | [] => { results := [.lit (.bool false)], args := [] }
  | _ => none }
def SessionNoneWrongFalsely : Prop := sessionNoneRow.holds Tryz.pinned (OpenSpec.ofChange sessionNoneWrong)

/- THE SECOND FORM. 'bulk': how many values and letters a reading holds, each counted each time it is reached (what is shared counts as often as it is met; a slice's spare places count too). A statement '..UptoSaid' is the law's where the arguments, and the package variables that the reading takes, are together of bulk at most 1048576: NARROWER than '..Said'. Prove '..Said' where nothing that the law and all that it calls make is longer than what came in: it says more and counts as full. Else prove '..UptoSaid'. A law counts once. -/
mutual
def uptoBulk {H : Type} : DataW H → Nat
  | .lit (.string bytes) => bytes.length + 1
  | .lit _ => 1
  | .nil => 1
  | .ptr d => uptoBulk d + 1
  | .slice elems spare => uptoBulkAll elems + uptoBulkAll spare + 1
  | .agg parts => uptoBulkAll parts + 1
  | .iface _ d => uptoBulk d + 1
  | .map entries => uptoBulkEntries entries + 1
  | .held _ => 1
def uptoBulkAll {H : Type} : List (DataW H) → Nat
  | [] => 0
  | d :: r => uptoBulk d + uptoBulkAll r
def uptoBulkEntries {H : Type} : List (Lit × DataW H) → Nat
  | [] => 0
  | x :: r => uptoBulkEntry x + uptoBulkEntries r
def uptoBulkEntry {H : Type} : Lit × DataW H → Nat
  | (.string bytes, d) => bytes.length + uptoBulk d + 1
  | (_, d) => uptoBulk d + 1
 end
def uptoSmall : (H : Type) → List (DataW H) → Bool := fun _ ds => decide (uptoBulkAll ds ≤ 1048576)
def OpenSpec.upto (s : _root_.Go.ChangeSpec) : _root_.Go.OpenSpec := { _root_.Go.OpenSpec.ofChange s with cond := some uptoSmall }

/-- 'postmarklaw21.QueueNone', WHERE WHAT IT READS IS OF BULK AT MOST 1048576: true; the input reads as it did. -/
def queueNoneUptoRow : OpenClaim := { program := "ytincemehblfipaagreatdoor", sum := "44801ea8cb99ec23b680f26cb7c35fa69743191b5922ffdef95b8bd40eed44fa", func := "postmark/postmarklaw21.QueueNone", spec := "queueNone", inPlace := ["internal/abi.NoEscape", "internal/bytealg.abigen_runtime_cmpstring", "internal/reflectlite.ValueOf", "internal/reflectlite.Swapper", "(internal/reflectlite.Value).Len"], unfollowed := true, recurses := true, named := ["unicode/utf8.first", "unicode/utf8.acceptRanges"], apart := false, laid := [("unicode/utf8.acceptRanges", laid_unicode_utf8_acceptRanges), ("unicode/utf8.first", laid_unicode_utf8_first)], narrowed := true }
def QueueNoneUptoSaid : Prop := queueNoneUptoRow.holds Tryz.pinned (OpenSpec.upto queueNoneSpec)

/-- 'postmarklaw22.LinkNone', WHERE WHAT IT READS IS OF BULK AT MOST 1048576: true; the input reads as it did. -/
def linkNoneUptoRow : OpenClaim := { program := "ytincemehblfipaagreatdoor", sum := "44801ea8cb99ec23b680f26cb7c35fa69743191b5922ffdef95b8bd40eed44fa", func := "postmark/postmarklaw22.LinkNone", spec := "linkNone", inPlace := ["internal/abi.NoEscape", "internal/bytealg.abigen_runtime_cmpstring", "internal/reflectlite.ValueOf", "internal/reflectlite.Swapper", "(internal/reflectlite.Value).Len"], unfollowed := true, recurses := true, named := ["unicode/utf8.first", "unicode/utf8.acceptRanges"], apart := false, laid := [("unicode/utf8.acceptRanges", laid_unicode_utf8_acceptRanges), ("unicode/utf8.first", laid_unicode_utf8_first)], narrowed := true }
def LinkNoneUptoSaid : Prop := linkNoneUptoRow.holds Tryz.pinned (OpenSpec.upto linkNoneSpec)

/-- 'postmarklaw24.SenderNone', WHERE WHAT IT READS IS OF BULK AT MOST 1048576: true; the input reads as it did. -/
def senderNoneUptoRow : OpenClaim := { program := "ytincemehblfipaagreatdoor", sum := "44801ea8cb99ec23b680f26cb7c35fa69743191b5922ffdef95b8bd40eed44fa", func := "postmark/postmarklaw24.SenderNone", spec := "senderNone", inPlace := ["internal/abi.NoEscape", "internal/bytealg.abigen_runtime_cmpstring", "internal/reflectlite.ValueOf", "internal/reflectlite.Swapper", "(internal/reflectlite.Value).Len"], unfollowed := true, recurses := true, named := ["unicode/utf8.first", "unicode/utf8.acceptRanges"], apart := false, laid := [("unicode/utf8.acceptRanges", laid_unicode_utf8_acceptRanges), ("unicode/utf8.first", laid_unicode_utf8_first)], narrowed := true }
def SenderNoneUptoSaid : Prop := senderNoneUptoRow.holds Tryz.pinned (OpenSpec.upto senderNoneSpec)

/-- 'postmarklaw25.ReceiverNone', WHERE WHAT IT READS IS OF BULK AT MOST 1048576: true; the input reads as it did. -/
def receiverNoneUptoRow : OpenClaim := { program := "ytincemehblfipaagreatdoor", sum := "44801ea8cb99ec23b680f26cb7c35fa69743191b5922ffdef95b8bd40eed44fa", func := "postmark/postmarklaw25.ReceiverNone", spec := "receiverNone", inPlace := ["internal/abi.NoEscape", "internal/bytealg.abigen_runtime_cmpstring", "math/bits.Add64", "internal/reflectlite.ValueOf", "internal/reflectlite.Swapper", "(internal/reflectlite.Value).Len"], unfollowed := true, recurses := true, named := ["unicode/utf8.first", "unicode/utf8.acceptRanges"], apart := false, laid := [("unicode/utf8.acceptRanges", laid_unicode_utf8_acceptRanges), ("unicode/utf8.first", laid_unicode_utf8_first)], narrowed := true }
def ReceiverNoneUptoSaid : Prop := receiverNoneUptoRow.holds Tryz.pinned (OpenSpec.upto receiverNoneSpec)

/-- 'postmarklaw26.SessionNone', WHERE WHAT IT READS IS OF BULK AT MOST 1048576: true; the input reads as it did. -/
def sessionNoneUptoRow : OpenClaim := { program := "ytincemehblfipaagreatdoor", sum := "44801ea8cb99ec23b680f26cb7c35fa69743191b5922ffdef95b8bd40eed44fa", func := "postmark/postmarklaw26.SessionNone", spec := "sessionNone", inPlace := ["internal/abi.NoEscape", "internal/bytealg.abigen_runtime_cmpstring", "math/bits.Add64", "internal/reflectlite.ValueOf", "internal/reflectlite.Swapper", "(internal/reflectlite.Value).Len"], unfollowed := true, recurses := true, named := ["unicode/utf8.first", "unicode/utf8.acceptRanges"], apart := false, laid := [("unicode/utf8.acceptRanges", laid_unicode_utf8_acceptRanges), ("unicode/utf8.first", laid_unicode_utf8_first)], narrowed := true }
def SessionNoneUptoSaid : Prop := sessionNoneUptoRow.holds Tryz.pinned (OpenSpec.upto sessionNoneSpec)

end Rows
end Go.Proofs.YtincemehblfipaaGreatDoor
