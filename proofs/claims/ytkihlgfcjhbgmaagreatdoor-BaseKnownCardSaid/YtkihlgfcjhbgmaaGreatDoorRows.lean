/-
  NARROWER THAN 'FOR EVERY INPUT', by the rows' own cells (each row's printed sentence says how): BaseKnown: laid · BaseNone: laid · ScriptKnown: laid · ScriptNone: laid.
  DERIVED. THE GIVEN ROWS OF THIS SEAT. 4 by the template 'for every input the law returns true; each argument reads behind the call as it read before'; 0 by the template 'total and deterministic' (their statements: YtkihlgfcjhbgmaaGreatDoorTotals.lean).
  GIVEN WITH THE SEED: the statements are not yours to turn. If you find one false, say at which input.
  Laid BY PROGRAM, IN A SANDBOX (cutbox-rows.mjs): the forced cells as the released guide's own fill.sh prints them over the translation 994b5adf8db8f3e8… (all of the seat's roots in one cut). By AI agents, Wed Nov 11 2026. No macro, syntax, notation, axiom, sorry.
-/
import Derived.Test.YtkihlgfcjhbgmaaGreatDoorChecked
import GoSem.PinnedTables
import GoSem.Claim
import GoSem.ClaimJoined
import GoSem.ClaimMapViews
import Derived.JoinedTies
import Derived.KernelRfl
namespace Go.Proofs.YtkihlgfcjhbgmaaGreatDoor
/- THE CELL 'sum', in the pinned program and in every row, IS THE sha256 OF THE DUMP (.gsa) THAT YtkihlgfcjhbgmaaGreatDoorProg.lean LOADS. Nothing in Lean hashes anything: it is a label: what it is worth is what the hold of that sum in a sandbox is worth. -/
noncomputable def Tryz.pinned : Pinned := { name := "ytkihlgfcjhbgmaagreatdoor", sum := "994b5adf8db8f3e89aee073027286bef5f75fb14f2c01f9d77a9519377a89431", checked := Tryz.checked }
namespace Rows
def none {H : Type} : Left H := { results := [], args := [] }

/- WHAT THE LISTED PACKAGE-LEVEL VARIABLES READ AS WHEN THE CALL BEGINS. Each datum BY PROGRAM (the guide's laid-datum.mjs) off the statement by which the dump's own 'gosem.cut.vars' lays the variable. In a bare row this is a premise. The card (YtkihlgfcjhbgmaaGreatDoorCards.lean) ties it to the program's text. -/
/-- One of Go's own tables, pinned by name: the form's constant. -/
def laid_unicode_utf8_first : DataW Unit := Go.Pinned.utf8First
def laid_unicode_utf8_acceptRanges {H : Type} : DataW H := .agg [.agg [.lit (.int .u8 128), .lit (.int .u8 191)], .agg [.lit (.int .u8 160), .lit (.int .u8 191)], .agg [.lit (.int .u8 128), .lit (.int .u8 159)], .agg [.lit (.int .u8 144), .lit (.int .u8 191)], .agg [.lit (.int .u8 128), .lit (.int .u8 143)], .agg [.lit (.int .u8 0), .lit (.int .u8 0)], .agg [.lit (.int .u8 0), .lit (.int .u8 0)], .agg [.lit (.int .u8 0), .lit (.int .u8 0)], .agg [.lit (.int .u8 0), .lit (.int .u8 0)], .agg [.lit (.int .u8 0), .lit (.int .u8 0)], .agg [.lit (.int .u8 0), .lit (.int .u8 0)], .agg [.lit (.int .u8 0), .lit (.int .u8 0)], .agg [.lit (.int .u8 0), .lit (.int .u8 0)], .agg [.lit (.int .u8 0), .lit (.int .u8 0)], .agg [.lit (.int .u8 0), .lit (.int .u8 0)], .agg [.lit (.int .u8 0), .lit (.int .u8 0)]]
def laid_caulker_uber_errField {H : Type} : DataW H := .iface "*errors.errorString" (.ptr (.agg [.lit (.string [97, 32, 102, 105, 101, 108, 100])]))
def laid_caulker_uber_errRoot {H : Type} : DataW H := .iface "*errors.errorString" (.ptr (.agg [.lit (.string [97, 32, 114, 111, 111, 116])]))

/-- 'caulkerlaw29.BaseKnown': WHATEVER THE INPUT: true; the input reads as it did. -/
def baseKnownSpec : ChangeSpec := { name := "baseKnown", fn := fun _ => fun
  | [] => { results := [.lit (.bool true)], args := [] }
  | _ => none }
def baseKnownRow : OpenClaim := { program := "ytkihlgfcjhbgmaagreatdoor", sum := "994b5adf8db8f3e89aee073027286bef5f75fb14f2c01f9d77a9519377a89431", func := "caulker/caulkerlaw29.BaseKnown", spec := "baseKnown", inPlace := ["internal/reflectlite.TypeOf", "internal/bytealg.IndexByteString", "internal/bytealg.IndexString", "internal/bytealg.abigen_runtime_cmpstring", "slices.overlaps[caulker/api.Record]", "slices.overlaps[int]"], unfollowed := true, recurses := true, named := ["internal/bytealg.MaxLen", "unicode/utf8.first", "unicode/utf8.acceptRanges"], plainKeys := false, apart := false, laid := [("unicode/utf8.first", laid_unicode_utf8_first), ("unicode/utf8.acceptRanges", laid_unicode_utf8_acceptRanges)] }
def BaseKnownSaid : Prop := baseKnownRow.holds Tryz.pinned (OpenSpec.ofChange baseKnownSpec)

/-- ITS FALSE NEIGHBOUR: 'it returns false'. Refute it at one input. -/
def baseKnownWrong : ChangeSpec := { name := "baseKnown", fn := fun _ => fun
  | [] => { results := [.lit (.bool false)], args := [] }
  | _ => none }
def BaseKnownWrongFalsely : Prop := baseKnownRow.holds Tryz.pinned (OpenSpec.ofChange baseKnownWrong)

/-- 'caulkerlaw29.BaseNone': WHATEVER THE INPUT: true; the input reads as it did. -/
def baseNoneSpec : ChangeSpec := { name := "baseNone", fn := fun _ => fun
  | [d] => { results := [.lit (.bool true)], args := [d] }
  | _ => none }
def baseNoneRow : OpenClaim := { program := "ytkihlgfcjhbgmaagreatdoor", sum := "994b5adf8db8f3e89aee073027286bef5f75fb14f2c01f9d77a9519377a89431", func := "caulker/caulkerlaw29.BaseNone", spec := "baseNone", inPlace := ["internal/reflectlite.TypeOf", "internal/bytealg.IndexByteString", "internal/bytealg.IndexString", "internal/bytealg.abigen_runtime_cmpstring", "slices.overlaps[caulker/api.Record]", "slices.overlaps[int]", "internal/bytealg.Compare"], unfollowed := true, recurses := true, named := ["internal/bytealg.MaxLen", "unicode/utf8.first", "unicode/utf8.acceptRanges", "caulker/uber.errField", "caulker/uber.errRoot"], plainKeys := false, apart := false, laid := [("unicode/utf8.first", laid_unicode_utf8_first), ("unicode/utf8.acceptRanges", laid_unicode_utf8_acceptRanges), ("caulker/uber.errField", laid_caulker_uber_errField), ("caulker/uber.errRoot", laid_caulker_uber_errRoot)] }
def BaseNoneSaid : Prop := baseNoneRow.holds Tryz.pinned (OpenSpec.ofChange baseNoneSpec)

/-- ITS FALSE NEIGHBOUR: 'it returns false'. Refute it at one input. -/
def baseNoneWrong : ChangeSpec := { name := "baseNone", fn := fun _ => fun
  | [d] => { results := [.lit (.bool false)], args := [d] }
  | _ => none }
def BaseNoneWrongFalsely : Prop := baseNoneRow.holds Tryz.pinned (OpenSpec.ofChange baseNoneWrong)

/-- 'caulkerlaw31.ScriptKnown': WHATEVER THE INPUT: true; the input reads as it did. -/
def scriptKnownSpec : ChangeSpec := { name := "scriptKnown", fn := fun _ => fun
  | [] => { results := [.lit (.bool true)], args := [] }
  | _ => none }
def scriptKnownRow : OpenClaim := { program := "ytkihlgfcjhbgmaagreatdoor", sum := "994b5adf8db8f3e89aee073027286bef5f75fb14f2c01f9d77a9519377a89431", func := "caulker/caulkerlaw31.ScriptKnown", spec := "scriptKnown", inPlace := ["internal/reflectlite.TypeOf", "internal/bytealg.IndexByteString", "internal/bytealg.IndexString", "internal/bytealg.abigen_runtime_cmpstring", "slices.overlaps[caulker/api.Record]", "slices.overlaps[int]", "internal/bytealg.Compare"], unfollowed := true, recurses := true, named := ["internal/bytealg.MaxLen", "unicode/utf8.first", "unicode/utf8.acceptRanges", "caulker/uber.errField", "caulker/uber.errRoot"], plainKeys := false, apart := false, laid := [("unicode/utf8.first", laid_unicode_utf8_first), ("unicode/utf8.acceptRanges", laid_unicode_utf8_acceptRanges), ("caulker/uber.errField", laid_caulker_uber_errField), ("caulker/uber.errRoot", laid_caulker_uber_errRoot)] }
def ScriptKnownSaid : Prop := scriptKnownRow.holds Tryz.pinned (OpenSpec.ofChange scriptKnownSpec)

/-- ITS FALSE NEIGHBOUR: 'it returns false'. Refute it at one input. -/
def scriptKnownWrong : ChangeSpec := { name := "scriptKnown", fn := fun _ => fun
  | [] => { results := [.lit (.bool false)], args := [] }
  | _ => none }
def ScriptKnownWrongFalsely : Prop := scriptKnownRow.holds Tryz.pinned (OpenSpec.ofChange scriptKnownWrong)

/-- 'caulkerlaw31.ScriptNone': WHATEVER THE INPUT: true; the input reads as it did. -/
def scriptNoneSpec : ChangeSpec := { name := "scriptNone", fn := fun _ => fun
  | [d] => { results := [.lit (.bool true)], args := [d] }
  | _ => none }
def scriptNoneRow : OpenClaim := { program := "ytkihlgfcjhbgmaagreatdoor", sum := "994b5adf8db8f3e89aee073027286bef5f75fb14f2c01f9d77a9519377a89431", func := "caulker/caulkerlaw31.ScriptNone", spec := "scriptNone", inPlace := ["internal/reflectlite.TypeOf", "internal/bytealg.IndexByteString", "internal/bytealg.IndexString", "internal/bytealg.abigen_runtime_cmpstring", "slices.overlaps[caulker/api.Record]", "slices.overlaps[int]", "internal/bytealg.Compare"], unfollowed := true, recurses := true, named := ["internal/bytealg.MaxLen", "unicode/utf8.first", "unicode/utf8.acceptRanges", "caulker/uber.errField", "caulker/uber.errRoot"], plainKeys := false, apart := false, laid := [("unicode/utf8.first", laid_unicode_utf8_first), ("unicode/utf8.acceptRanges", laid_unicode_utf8_acceptRanges), ("caulker/uber.errField", laid_caulker_uber_errField), ("caulker/uber.errRoot", laid_caulker_uber_errRoot)] }
def ScriptNoneSaid : Prop := scriptNoneRow.holds Tryz.pinned (OpenSpec.ofChange scriptNoneSpec)

/-- ITS FALSE NEIGHBOUR: 'it returns false'. Refute it at one input. -/
def scriptNoneWrong : ChangeSpec := { name := "scriptNone", fn := fun _ => fun
  | [d] => { results := [.lit (.bool false)], args := [d] }
  | _ => none }
def ScriptNoneWrongFalsely : Prop := scriptNoneRow.holds Tryz.pinned (OpenSpec.ofChange scriptNoneWrong)

/- THE SECOND FORM. 'bulk': how many values and letters a reading holds, each counted each time it is reached (what is shared counts as often as it is met; a slice's spare places count too). A statement '..UptoSaid' is the law's where the arguments, and the package variables that the reading takes, are together of bulk at most 1048576: NARROWER than '..Said'. Prove '..Said' where nothing that the law and all that it calls make is longer than what came in: it says more and counts as full. Else prove '..UptoSaid'. A law counts once. -/
mutual
def uptoBulk {H : Type} : DataW H → Nat
  | .lit (.string bytes) => bytes.length + 1
  | .lit _ => 1
  | .nil => 1
  | .ptr d => uptoBulk d + 1
  | .slice elems spare => uptoBulkAll elems + uptoBulkAll spare + 1
  | .agg parts => uptoBulkAll parts + 1
  | .iface _ d => uptoBulk d + 1
  | .map entries => uptoBulkEntries entries + 1
  | .held _ => 1
def uptoBulkAll {H : Type} : List (DataW H) → Nat
  | [] => 0
  | d :: r => uptoBulk d + uptoBulkAll r
def uptoBulkEntries {H : Type} : List (Lit × DataW H) → Nat
  | [] => 0
  | x :: r => uptoBulkEntry x + uptoBulkEntries r
def uptoBulkEntry {H : Type} : Lit × DataW H → Nat
  | (.string bytes, d) => bytes.length + uptoBulk d + 1
  | (_, d) => uptoBulk d + 1
 end
def uptoSmall : (H : Type) → List (DataW H) → Bool := fun _ ds => decide (uptoBulkAll ds ≤ 1048576)
def OpenSpec.upto (s : _root_.Go.ChangeSpec) : _root_.Go.OpenSpec := { _root_.Go.OpenSpec.ofChange s with cond := some uptoSmall }

/-- 'caulkerlaw29.BaseKnown', WHERE WHAT IT READS IS OF BULK AT MOST 1048576: true; the input reads as it did. -/
def baseKnownUptoRow : OpenClaim := { program := "ytkihlgfcjhbgmaagreatdoor", sum := "994b5adf8db8f3e89aee073027286bef5f75fb14f2c01f9d77a9519377a89431", func := "caulker/caulkerlaw29.BaseKnown", spec := "baseKnown", inPlace := ["internal/reflectlite.TypeOf", "internal/bytealg.IndexByteString", "internal/bytealg.IndexString", "internal/bytealg.abigen_runtime_cmpstring", "slices.overlaps[caulker/api.Record]", "slices.overlaps[int]"], unfollowed := true, recurses := true, named := ["internal/bytealg.MaxLen", "unicode/utf8.first", "unicode/utf8.acceptRanges"], plainKeys := false, apart := false, laid := [("unicode/utf8.first", laid_unicode_utf8_first), ("unicode/utf8.acceptRanges", laid_unicode_utf8_acceptRanges)], narrowed := true }
def BaseKnownUptoSaid : Prop := baseKnownUptoRow.holds Tryz.pinned (OpenSpec.upto baseKnownSpec)

/-- 'caulkerlaw29.BaseNone', WHERE WHAT IT READS IS OF BULK AT MOST 1048576: true; the input reads as it did. -/
def baseNoneUptoRow : OpenClaim := { program := "ytkihlgfcjhbgmaagreatdoor", sum := "994b5adf8db8f3e89aee073027286bef5f75fb14f2c01f9d77a9519377a89431", func := "caulker/caulkerlaw29.BaseNone", spec := "baseNone", inPlace := ["internal/reflectlite.TypeOf", "internal/bytealg.IndexByteString", "internal/bytealg.IndexString", "internal/bytealg.abigen_runtime_cmpstring", "slices.overlaps[caulker/api.Record]", "slices.overlaps[int]", "internal/bytealg.Compare"], unfollowed := true, recurses := true, named := ["internal/bytealg.MaxLen", "unicode/utf8.first", "unicode/utf8.acceptRanges", "caulker/uber.errField", "caulker/uber.errRoot"], plainKeys := false, apart := false, laid := [("unicode/utf8.first", laid_unicode_utf8_first), ("unicode/utf8.acceptRanges", laid_unicode_utf8_acceptRanges), ("caulker/uber.errField", laid_caulker_uber_errField), ("caulker/uber.errRoot", laid_caulker_uber_errRoot)], narrowed := true }
def BaseNoneUptoSaid : Prop := baseNoneUptoRow.holds Tryz.pinned (OpenSpec.upto baseNoneSpec)

/-- 'caulkerlaw31.ScriptKnown', WHERE WHAT IT READS IS OF BULK AT MOST 1048576: true; the input reads as it did. -/
def scriptKnownUptoRow : OpenClaim := { program := "ytkihlgfcjhbgmaagreatdoor", sum := "994b5adf8db8f3e89aee073027286bef5f75fb14f2c01f9d77a9519377a89431", func := "caulker/caulkerlaw31.ScriptKnown", spec := "scriptKnown", inPlace := ["internal/reflectlite.TypeOf", "internal/bytealg.IndexByteString", "internal/bytealg.IndexString", "internal/bytealg.abigen_runtime_cmpstring", "slices.overlaps[caulker/api.Record]", "slices.overlaps[int]", "internal/bytealg.Compare"], unfollowed := true, recurses := true, named := ["internal/bytealg.MaxLen", "unicode/utf8.first", "unicode/utf8.acceptRanges", "caulker/uber.errField", "caulker/uber.errRoot"], plainKeys := false, apart := false, laid := [("unicode/utf8.first", laid_unicode_utf8_first), ("unicode/utf8.acceptRanges", laid_unicode_utf8_acceptRanges), ("caulker/uber.errField", laid_caulker_uber_errField), ("caulker/uber.errRoot", laid_caulker_uber_errRoot)], narrowed := true }
def ScriptKnownUptoSaid : Prop := scriptKnownUptoRow.holds Tryz.pinned (OpenSpec.upto scriptKnownSpec)

/-- 'caulkerlaw31.ScriptNone', WHERE WHAT IT READS IS OF BULK AT MOST 1048576: true; the input reads as it did. -/
def scriptNoneUptoRow : OpenClaim := { program := "ytkihlgfcjhbgmaagreatdoor", sum := "994b5adf8db8f3e89aee073027286bef5f75fb14f2c01f9d77a9519377a89431", func := "caulker/caulkerlaw31.ScriptNone", spec := "scriptNone", inPlace := ["internal/reflectlite.TypeOf", "internal/bytealg.IndexByteString", "internal/bytealg.IndexString", "internal/bytealg.abigen_runtime_cmpstring", "slices.overlaps[caulker/api.Record]", "slices.overlaps[int]", "internal/bytealg.Compare"], unfollowed := true, recurses := true, named := ["internal/bytealg.MaxLen", "unicode/utf8.first", "unicode/utf8.acceptRanges", "caulker/uber.errField", "caulker/uber.errRoot"], plainKeys := false, apart := false, laid := [("unicode/utf8.first", laid_unicode_utf8_first), ("unicode/utf8.acceptRanges", laid_unicode_utf8_acceptRanges), ("caulker/uber.errField", laid_caulker_uber_errField), ("caulker/uber.errRoot", laid_caulker_uber_errRoot)], narrowed := true }
def ScriptNoneUptoSaid : Prop := scriptNoneUptoRow.holds Tryz.pinned (OpenSpec.upto scriptNoneSpec)

end Rows
end Go.Proofs.YtkihlgfcjhbgmaaGreatDoor
