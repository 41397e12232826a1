/-
  NARROWER THAN 'FOR EVERY INPUT', by the rows' own cells (each row's printed sentence says how): PpredBack: laid · PpredStrength: laid · PpredBad: laid · PpatBack: laid · PpatBent: laid · PpatBad: laid.
  DERIVED. THE GIVEN ROWS OF THIS SEAT. 6 by the template 'for every input the law returns true; each argument reads behind the call as it read before'; 0 by the template 'total and deterministic' (their statements: YtpijgeijflbmhaaDoorTotals.lean).
  GIVEN WITH THE SEED: the statements are not yours to turn. If you find one false, say at which input.
  Laid BY PROGRAM, IN A SANDBOX (cutbox-rows.mjs): the forced cells as the released guide's own fill.sh prints them over the translation 601e97ff20ed0683… (all of the seat's roots in one cut). By AI agents, Wed Nov 11 2026. No macro, syntax, notation, axiom, sorry.
-/
import Derived.Test.YtpijgeijflbmhaaDoorChecked
import GoSem.PinnedTables
import GoSem.Claim
import GoSem.ClaimJoined
import GoSem.ClaimMapViews
import Derived.JoinedTies
import Derived.KernelRfl
namespace Go.Proofs.YtpijgeijflbmhaaDoor
/- THE CELL 'sum', in the pinned program and in every row, IS THE sha256 OF THE DUMP (.gsa) THAT YtpijgeijflbmhaaDoorProg.lean LOADS. Nothing in Lean hashes anything: it is a label: what it is worth is what the hold of that sum in a sandbox is worth. -/
noncomputable def Tryd.pinned : Pinned := { name := "ytpijgeijflbmhaadoor", sum := "601e97ff20ed0683e62f0e19679e1a450b5f295312e8936534c7881443b020df", checked := Tryd.checked }
namespace Rows
def none {H : Type} : Left H := { results := [], args := [] }

/- WHAT THE LISTED PACKAGE-LEVEL VARIABLES READ AS WHEN THE CALL BEGINS. Each datum BY PROGRAM (the guide's laid-datum.mjs) off the statement by which the dump's own 'gosem.cut.vars' lays the variable. In a bare row this is a premise. The card (YtpijgeijflbmhaaDoorCards.lean) ties it to the program's text. -/
def laid_unicode_utf8_acceptRanges {H : Type} : DataW H := .agg [.agg [.lit (.int .u8 128), .lit (.int .u8 191)], .agg [.lit (.int .u8 160), .lit (.int .u8 191)], .agg [.lit (.int .u8 128), .lit (.int .u8 159)], .agg [.lit (.int .u8 144), .lit (.int .u8 191)], .agg [.lit (.int .u8 128), .lit (.int .u8 143)], .agg [.lit (.int .u8 0), .lit (.int .u8 0)], .agg [.lit (.int .u8 0), .lit (.int .u8 0)], .agg [.lit (.int .u8 0), .lit (.int .u8 0)], .agg [.lit (.int .u8 0), .lit (.int .u8 0)], .agg [.lit (.int .u8 0), .lit (.int .u8 0)], .agg [.lit (.int .u8 0), .lit (.int .u8 0)], .agg [.lit (.int .u8 0), .lit (.int .u8 0)], .agg [.lit (.int .u8 0), .lit (.int .u8 0)], .agg [.lit (.int .u8 0), .lit (.int .u8 0)], .agg [.lit (.int .u8 0), .lit (.int .u8 0)], .agg [.lit (.int .u8 0), .lit (.int .u8 0)]]
def laid_lamplighter_lex_words {H : Type} : DataW H := .agg [.lit (.string [83, 69, 81]), .lit (.string [87, 72, 69, 82, 69]), .lit (.string [87, 73, 84, 72, 73, 78]), .lit (.string [67, 65, 80]), .lit (.string [97, 110, 100]), .lit (.string [111, 114]), .lit (.string [110, 111, 116]), .lit (.string [116, 114, 117, 101]), .lit (.string [102, 97, 108, 115, 101])]
def laid_lamplighter_lex_twos {H : Type} : DataW H := .agg [.lit (.string [33, 61]), .lit (.string [60, 61]), .lit (.string [62, 61])]
/-- One of Go's own tables, pinned by name: the form's constant. -/
def laid_unicode_utf8_first : DataW Unit := Go.Pinned.utf8First

/-- 'lamplighterlaw15.PpredBack': WHATEVER THE INPUT: true; the input reads as it did. -/
def ppredBackSpec : ChangeSpec := { name := "ppredBack", fn := fun _ => fun
  | [d] => { results := [.lit (.bool true)], args := [d] }
  | _ => none }
def ppredBackRow : OpenClaim := { program := "ytpijgeijflbmhaadoor", sum := "601e97ff20ed0683e62f0e19679e1a450b5f295312e8936534c7881443b020df", func := "lamplighter/lamplighterlaw15.PpredBack", spec := "ppredBack", inPlace := ["internal/bytealg.IndexByteString", "internal/bytealg.CountString", "internal/bytealg.IndexString", "internal/abi.NoEscape", "internal/bytealg.MakeNoZero"], recurses := true, named := ["lamplighter/lex.words", "internal/bytealg.MaxLen", "unicode/utf8.first", "unicode/utf8.acceptRanges", "lamplighter/lex.twos"], apart := false, laid := [("unicode/utf8.acceptRanges", laid_unicode_utf8_acceptRanges), ("lamplighter/lex.words", laid_lamplighter_lex_words), ("lamplighter/lex.twos", laid_lamplighter_lex_twos), ("unicode/utf8.first", laid_unicode_utf8_first)] }
def PpredBackSaid : Prop := ppredBackRow.holds Tryd.pinned (OpenSpec.ofChange ppredBackSpec)

/-- ITS FALSE NEIGHBOUR: 'it returns false'. Refute it at one input. -/
def ppredBackWrong : ChangeSpec := { name := "ppredBack", fn := fun _ => fun
  | [d] => { results := [.lit (.bool false)], args := [d] }
  | _ => none }
def PpredBackWrongFalsely : Prop := ppredBackRow.holds Tryd.pinned (OpenSpec.ofChange ppredBackWrong)

/-- 'lamplighterlaw15.PpredStrength': WHATEVER THE INPUT: true; the input reads as it did. -/
def ppredStrengthSpec : ChangeSpec := { name := "ppredStrength", fn := fun _ => fun
  | [d] => { results := [.lit (.bool true)], args := [d] }
  | _ => none }
def ppredStrengthRow : OpenClaim := { program := "ytpijgeijflbmhaadoor", sum := "601e97ff20ed0683e62f0e19679e1a450b5f295312e8936534c7881443b020df", func := "lamplighter/lamplighterlaw15.PpredStrength", spec := "ppredStrength", inPlace := ["internal/bytealg.IndexByteString", "internal/bytealg.CountString", "internal/bytealg.IndexString", "internal/abi.NoEscape", "internal/bytealg.MakeNoZero"], recurses := true, named := ["lamplighter/lex.words", "internal/bytealg.MaxLen", "unicode/utf8.first", "unicode/utf8.acceptRanges", "lamplighter/lex.twos"], apart := false, laid := [("unicode/utf8.acceptRanges", laid_unicode_utf8_acceptRanges), ("lamplighter/lex.words", laid_lamplighter_lex_words), ("lamplighter/lex.twos", laid_lamplighter_lex_twos), ("unicode/utf8.first", laid_unicode_utf8_first)] }
def PpredStrengthSaid : Prop := ppredStrengthRow.holds Tryd.pinned (OpenSpec.ofChange ppredStrengthSpec)

/-- ITS FALSE NEIGHBOUR: 'it returns false'. Refute it at one input. -/
def ppredStrengthWrong : ChangeSpec := { name := "ppredStrength", fn := fun _ => fun
  | [d] => { results := [.lit (.bool false)], args := [d] }
  | _ => none }
def PpredStrengthWrongFalsely : Prop := ppredStrengthRow.holds Tryd.pinned (OpenSpec.ofChange ppredStrengthWrong)

/-- 'lamplighterlaw15.PpredBad': WHATEVER THE INPUT: true; the input reads as it did. -/
def ppredBadSpec : ChangeSpec := { name := "ppredBad", fn := fun _ => fun
  | [d1, d2] => { results := [.lit (.bool true)], args := [d1, d2] }
  | _ => none }
def ppredBadRow : OpenClaim := { program := "ytpijgeijflbmhaadoor", sum := "601e97ff20ed0683e62f0e19679e1a450b5f295312e8936534c7881443b020df", func := "lamplighter/lamplighterlaw15.PpredBad", spec := "ppredBad", inPlace := ["internal/bytealg.IndexByteString", "internal/bytealg.CountString", "internal/bytealg.IndexString", "internal/abi.NoEscape", "internal/bytealg.MakeNoZero"], recurses := true, named := ["lamplighter/lex.words", "internal/bytealg.MaxLen", "unicode/utf8.first", "unicode/utf8.acceptRanges", "lamplighter/lex.twos"], apart := false, laid := [("unicode/utf8.acceptRanges", laid_unicode_utf8_acceptRanges), ("lamplighter/lex.words", laid_lamplighter_lex_words), ("lamplighter/lex.twos", laid_lamplighter_lex_twos), ("unicode/utf8.first", laid_unicode_utf8_first)] }
def PpredBadSaid : Prop := ppredBadRow.holds Tryd.pinned (OpenSpec.ofChange ppredBadSpec)

/-- ITS FALSE NEIGHBOUR: 'it returns false'. Refute it at one input. -/
def ppredBadWrong : ChangeSpec := { name := "ppredBad", fn := fun _ => fun
  | [d1, d2] => { results := [.lit (.bool false)], args := [d1, d2] }
  | _ => none }
def PpredBadWrongFalsely : Prop := ppredBadRow.holds Tryd.pinned (OpenSpec.ofChange ppredBadWrong)

/-- 'lamplighterlaw17.PpatBack': WHATEVER THE INPUT: true; the input reads as it did. -/
def ppatBackSpec : ChangeSpec := { name := "ppatBack", fn := fun _ => fun
  | [d] => { results := [.lit (.bool true)], args := [d] }
  | _ => none }
def ppatBackRow : OpenClaim := { program := "ytpijgeijflbmhaadoor", sum := "601e97ff20ed0683e62f0e19679e1a450b5f295312e8936534c7881443b020df", func := "lamplighter/lamplighterlaw17.PpatBack", spec := "ppatBack", inPlace := ["internal/bytealg.IndexByteString", "internal/bytealg.CountString", "internal/bytealg.IndexString", "internal/abi.NoEscape", "internal/bytealg.MakeNoZero"], unfollowed := true, recurses := true, named := ["lamplighter/lex.words", "internal/bytealg.MaxLen", "unicode/utf8.first", "unicode/utf8.acceptRanges", "lamplighter/lex.twos"], apart := false, laid := [("unicode/utf8.acceptRanges", laid_unicode_utf8_acceptRanges), ("lamplighter/lex.words", laid_lamplighter_lex_words), ("lamplighter/lex.twos", laid_lamplighter_lex_twos), ("unicode/utf8.first", laid_unicode_utf8_first)] }
def PpatBackSaid : Prop := ppatBackRow.holds Tryd.pinned (OpenSpec.ofChange ppatBackSpec)

/-- ITS FALSE NEIGHBOUR: 'it returns false'. Refute it at one input. -/
def ppatBackWrong : ChangeSpec := { name := "ppatBack", fn := fun _ => fun
  | [d] => { results := [.lit (.bool false)], args := [d] }
  | _ => none }
def PpatBackWrongFalsely : Prop := ppatBackRow.holds Tryd.pinned (OpenSpec.ofChange ppatBackWrong)

/-- 'lamplighterlaw17.PpatBent': WHATEVER THE INPUT: true; the input reads as it did. -/
def ppatBentSpec : ChangeSpec := { name := "ppatBent", fn := fun _ => fun
  | [d1, d2, d3] => { results := [.lit (.bool true)], args := [d1, d2, d3] }
  | _ => none }
def ppatBentRow : OpenClaim := { program := "ytpijgeijflbmhaadoor", sum := "601e97ff20ed0683e62f0e19679e1a450b5f295312e8936534c7881443b020df", func := "lamplighter/lamplighterlaw17.PpatBent", spec := "ppatBent", inPlace := ["internal/bytealg.IndexByteString", "internal/bytealg.CountString", "internal/bytealg.IndexString", "internal/abi.NoEscape", "internal/bytealg.MakeNoZero"], unfollowed := true, recurses := true, named := ["lamplighter/lex.words", "internal/bytealg.MaxLen", "unicode/utf8.first", "unicode/utf8.acceptRanges", "lamplighter/lex.twos"], apart := false, laid := [("unicode/utf8.acceptRanges", laid_unicode_utf8_acceptRanges), ("lamplighter/lex.words", laid_lamplighter_lex_words), ("lamplighter/lex.twos", laid_lamplighter_lex_twos), ("unicode/utf8.first", laid_unicode_utf8_first)] }
def PpatBentSaid : Prop := ppatBentRow.holds Tryd.pinned (OpenSpec.ofChange ppatBentSpec)

/-- ITS FALSE NEIGHBOUR: 'it returns false'. Refute it at one input. -/
def ppatBentWrong : ChangeSpec := { name := "ppatBent", fn := fun _ => fun
  | [d1, d2, d3] => { results := [.lit (.bool false)], args := [d1, d2, d3] }
  | _ => none }
def PpatBentWrongFalsely : Prop := ppatBentRow.holds Tryd.pinned (OpenSpec.ofChange ppatBentWrong)

/-- 'lamplighterlaw17.PpatBad': WHATEVER THE INPUT: true; the input reads as it did. -/
def ppatBadSpec : ChangeSpec := { name := "ppatBad", fn := fun _ => fun
  | [d] => { results := [.lit (.bool true)], args := [d] }
  | _ => none }
def ppatBadRow : OpenClaim := { program := "ytpijgeijflbmhaadoor", sum := "601e97ff20ed0683e62f0e19679e1a450b5f295312e8936534c7881443b020df", func := "lamplighter/lamplighterlaw17.PpatBad", spec := "ppatBad", inPlace := ["internal/bytealg.IndexByteString", "internal/bytealg.CountString", "internal/bytealg.IndexString", "internal/abi.NoEscape", "internal/bytealg.MakeNoZero"], unfollowed := true, recurses := true, named := ["lamplighter/lex.words", "internal/bytealg.MaxLen", "unicode/utf8.first", "unicode/utf8.acceptRanges", "lamplighter/lex.twos"], apart := false, laid := [("unicode/utf8.acceptRanges", laid_unicode_utf8_acceptRanges), ("lamplighter/lex.words", laid_lamplighter_lex_words), ("lamplighter/lex.twos", laid_lamplighter_lex_twos), ("unicode/utf8.first", laid_unicode_utf8_first)] }
def PpatBadSaid : Prop := ppatBadRow.holds Tryd.pinned (OpenSpec.ofChange ppatBadSpec)

/-- ITS FALSE NEIGHBOUR: 'it returns false'. Refute it at one input. -/
def ppatBadWrong : ChangeSpec := { name := "ppatBad", fn := fun _ => fun
  | [d] => { results := [.lit (.bool false)], args := [d] }
  | _ => none }
def PpatBadWrongFalsely : Prop := ppatBadRow.holds Tryd.pinned (OpenSpec.ofChange ppatBadWrong)

/- THE SECOND FORM. 'bulk': how many values and letters a reading holds, each counted each time it is reached (what is shared counts as often as it is met; a slice's spare places count too). A statement '..UptoSaid' is the law's where the arguments, and the package variables that the reading takes, are together of bulk at most 1048576: NARROWER than '..Said'. Prove '..Said' where nothing that the law and all that it calls make is longer than what came in: it says more and counts as full. Else prove '..UptoSaid'. A law counts once. -/
mutual
def uptoBulk {H : Type} : DataW H → Nat
  | .lit (.string bytes) => bytes.length + 1
  | .lit _ => 1
  | .nil => 1
  | .ptr d => uptoBulk d + 1
  | .slice elems spare => uptoBulkAll elems + uptoBulkAll spare + 1
  | .agg parts => uptoBulkAll parts + 1
  | .iface _ d => uptoBulk d + 1
  | .map entries => uptoBulkEntries entries + 1
  | .held _ => 1
def uptoBulkAll {H : Type} : List (DataW H) → Nat
  | [] => 0
  | d :: r => uptoBulk d + uptoBulkAll r
def uptoBulkEntries {H : Type} : List (Lit × DataW H) → Nat
  | [] => 0
  | x :: r => uptoBulkEntry x + uptoBulkEntries r
def uptoBulkEntry {H : Type} : Lit × DataW H → Nat
  | (.string bytes, d) => bytes.length + uptoBulk d + 1
  | (_, d) => uptoBulk d + 1
 end
def uptoSmall : (H : Type) → List (DataW H) → Bool := fun _ ds => decide (uptoBulkAll ds ≤ 1048576)
def OpenSpec.upto (s : _root_.Go.ChangeSpec) : _root_.Go.OpenSpec := { _root_.Go.OpenSpec.ofChange s with cond := some uptoSmall }

/-- 'lamplighterlaw15.PpredBack', WHERE WHAT IT READS IS OF BULK AT MOST 1048576: true; the input reads as it did. -/
def ppredBackUptoRow : OpenClaim := { program := "ytpijgeijflbmhaadoor", sum := "601e97ff20ed0683e62f0e19679e1a450b5f295312e8936534c7881443b020df", func := "lamplighter/lamplighterlaw15.PpredBack", spec := "ppredBack", inPlace := ["internal/bytealg.IndexByteString", "internal/bytealg.CountString", "internal/bytealg.IndexString", "internal/abi.NoEscape", "internal/bytealg.MakeNoZero"], recurses := true, named := ["lamplighter/lex.words", "internal/bytealg.MaxLen", "unicode/utf8.first", "unicode/utf8.acceptRanges", "lamplighter/lex.twos"], apart := false, laid := [("unicode/utf8.acceptRanges", laid_unicode_utf8_acceptRanges), ("lamplighter/lex.words", laid_lamplighter_lex_words), ("lamplighter/lex.twos", laid_lamplighter_lex_twos), ("unicode/utf8.first", laid_unicode_utf8_first)], narrowed := true }
def PpredBackUptoSaid : Prop := ppredBackUptoRow.holds Tryd.pinned (OpenSpec.upto ppredBackSpec)

/-- 'lamplighterlaw15.PpredStrength', WHERE WHAT IT READS IS OF BULK AT MOST 1048576: true; the input reads as it did. -/
def ppredStrengthUptoRow : OpenClaim := { program := "ytpijgeijflbmhaadoor", sum := "601e97ff20ed0683e62f0e19679e1a450b5f295312e8936534c7881443b020df", func := "lamplighter/lamplighterlaw15.PpredStrength", spec := "ppredStrength", inPlace := ["internal/bytealg.IndexByteString", "internal/bytealg.CountString", "internal/bytealg.IndexString", "internal/abi.NoEscape", "internal/bytealg.MakeNoZero"], recurses := true, named := ["lamplighter/lex.words", "internal/bytealg.MaxLen", "unicode/utf8.first", "unicode/utf8.acceptRanges", "lamplighter/lex.twos"], apart := false, laid := [("unicode/utf8.acceptRanges", laid_unicode_utf8_acceptRanges), ("lamplighter/lex.words", laid_lamplighter_lex_words), ("lamplighter/lex.twos", laid_lamplighter_lex_twos), ("unicode/utf8.first", laid_unicode_utf8_first)], narrowed := true }
def PpredStrengthUptoSaid : Prop := ppredStrengthUptoRow.holds Tryd.pinned (OpenSpec.upto ppredStrengthSpec)

/-- 'lamplighterlaw15.PpredBad', WHERE WHAT IT READS IS OF BULK AT MOST 1048576: true; the input reads as it did. -/
def ppredBadUptoRow : OpenClaim := { program := "ytpijgeijflbmhaadoor", sum := "601e97ff20ed0683e62f0e19679e1a450b5f295312e8936534c7881443b020df", func := "lamplighter/lamplighterlaw15.PpredBad", spec := "ppredBad", inPlace := ["internal/bytealg.IndexByteString", "internal/bytealg.CountString", "internal/bytealg.IndexString", "internal/abi.NoEscape", "internal/bytealg.MakeNoZero"], recurses := true, named := ["lamplighter/lex.words", "internal/bytealg.MaxLen", "unicode/utf8.first", "unicode/utf8.acceptRanges", "lamplighter/lex.twos"], apart := false, laid := [("unicode/utf8.acceptRanges", laid_unicode_utf8_acceptRanges), ("lamplighter/lex.words", laid_lamplighter_lex_words), ("lamplighter/lex.twos", laid_lamplighter_lex_twos), ("unicode/utf8.first", laid_unicode_utf8_first)], narrowed := true }
def PpredBadUptoSaid : Prop := ppredBadUptoRow.holds Tryd.pinned (OpenSpec.upto ppredBadSpec)

/-- 'lamplighterlaw17.PpatBack', WHERE WHAT IT READS IS OF BULK AT MOST 1048576: true; the input reads as it did. -/
def ppatBackUptoRow : OpenClaim := { program := "ytpijgeijflbmhaadoor", sum := "601e97ff20ed0683e62f0e19679e1a450b5f295312e8936534c7881443b020df", func := "lamplighter/lamplighterlaw17.PpatBack", spec := "ppatBack", inPlace := ["internal/bytealg.IndexByteString", "internal/bytealg.CountString", "internal/bytealg.IndexString", "internal/abi.NoEscape", "internal/bytealg.MakeNoZero"], unfollowed := true, recurses := true, named := ["lamplighter/lex.words", "internal/bytealg.MaxLen", "unicode/utf8.first", "unicode/utf8.acceptRanges", "lamplighter/lex.twos"], apart := false, laid := [("unicode/utf8.acceptRanges", laid_unicode_utf8_acceptRanges), ("lamplighter/lex.words", laid_lamplighter_lex_words), ("lamplighter/lex.twos", laid_lamplighter_lex_twos), ("unicode/utf8.first", laid_unicode_utf8_first)], narrowed := true }
def PpatBackUptoSaid : Prop := ppatBackUptoRow.holds Tryd.pinned (OpenSpec.upto ppatBackSpec)

/-- 'lamplighterlaw17.PpatBent', WHERE WHAT IT READS IS OF BULK AT MOST 1048576: true; the input reads as it did. -/
def ppatBentUptoRow : OpenClaim := { program := "ytpijgeijflbmhaadoor", sum := "601e97ff20ed0683e62f0e19679e1a450b5f295312e8936534c7881443b020df", func := "lamplighter/lamplighterlaw17.PpatBent", spec := "ppatBent", inPlace := ["internal/bytealg.IndexByteString", "internal/bytealg.CountString", "internal/bytealg.IndexString", "internal/abi.NoEscape", "internal/bytealg.MakeNoZero"], unfollowed := true, recurses := true, named := ["lamplighter/lex.words", "internal/bytealg.MaxLen", "unicode/utf8.first", "unicode/utf8.acceptRanges", "lamplighter/lex.twos"], apart := false, laid := [("unicode/utf8.acceptRanges", laid_unicode_utf8_acceptRanges), ("lamplighter/lex.words", laid_lamplighter_lex_words), ("lamplighter/lex.twos", laid_lamplighter_lex_twos), ("unicode/utf8.first", laid_unicode_utf8_first)], narrowed := true }
def PpatBentUptoSaid : Prop := ppatBentUptoRow.holds Tryd.pinned (OpenSpec.upto ppatBentSpec)

/-- 'lamplighterlaw17.PpatBad', WHERE WHAT IT READS IS OF BULK AT MOST 1048576: true; the input reads as it did. -/
def ppatBadUptoRow : OpenClaim := { program := "ytpijgeijflbmhaadoor", sum := "601e97ff20ed0683e62f0e19679e1a450b5f295312e8936534c7881443b020df", func := "lamplighter/lamplighterlaw17.PpatBad", spec := "ppatBad", inPlace := ["internal/bytealg.IndexByteString", "internal/bytealg.CountString", "internal/bytealg.IndexString", "internal/abi.NoEscape", "internal/bytealg.MakeNoZero"], unfollowed := true, recurses := true, named := ["lamplighter/lex.words", "internal/bytealg.MaxLen", "unicode/utf8.first", "unicode/utf8.acceptRanges", "lamplighter/lex.twos"], apart := false, laid := [("unicode/utf8.acceptRanges", laid_unicode_utf8_acceptRanges), ("lamplighter/lex.words", laid_lamplighter_lex_words), ("lamplighter/lex.twos", laid_lamplighter_lex_twos), ("unicode/utf8.first", laid_unicode_utf8_first)], narrowed := true }
def PpatBadUptoSaid : Prop := ppatBadUptoRow.holds Tryd.pinned (OpenSpec.upto ppatBadSpec)

end Rows
end Go.Proofs.YtpijgeijflbmhaaDoor
