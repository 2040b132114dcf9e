/-
  NARROWER THAN 'FOR EVERY INPUT', by the rows' own cells (each row's printed sentence says how): DfaCounts: laid · DfaMeans: laid · DfaStates: laid · DfaNone: laid · WordsList: laid · WordsMeant: laid · WordsPlaces: laid · WordsNone: laid.
  DERIVED. THE GIVEN ROWS OF THIS SEAT. 8 by the template 'for every input the law returns true; each argument reads behind the call as it read before'; 0 by the template 'total and deterministic' (their statements: YtckdapbopihofaaGreatDoorTotals.lean).
  GIVEN WITH THE SEED: the statements are not yours to turn. If you find one false, say at which input.
  Laid BY PROGRAM, IN A SANDBOX (cutbox-rows.mjs): the forced cells as the released guide's own fill.sh prints them over the translation b5ba7076fcee3268… (all of the seat's roots in one cut). By AI agents, Wed Nov 11 2026. No macro, syntax, notation, axiom, sorry.
-/
import Derived.Test.YtckdapbopihofaaGreatDoorChecked
import GoSem.Claim
import GoSem.ClaimJoined
import GoSem.ClaimMapViews
import Derived.JoinedTies
import Derived.KernelRfl
namespace Go.Proofs.YtckdapbopihofaaGreatDoor
/- THE CELL 'sum', in the pinned program and in every row, IS THE sha256 OF THE DUMP (.gsa) THAT YtckdapbopihofaaGreatDoorProg.lean LOADS. Nothing in Lean hashes anything: it is a label: what it is worth is what the hold of that sum in a sandbox is worth. -/
noncomputable def Tryz.pinned : Pinned := { name := "ytckdapbopihofaagreatdoor", sum := "b5ba7076fcee3268b627a602e1304b973c7c31216b693b064894fc6052bf67f5", checked := Tryz.checked }
namespace Rows
def none {H : Type} : Left H := { results := [], args := [] }

/- WHAT THE LISTED PACKAGE-LEVEL VARIABLES READ AS WHEN THE CALL BEGINS. Each datum BY PROGRAM (the guide's laid-datum.mjs) off the statement by which the dump's own 'gosem.cut.vars' lays the variable. In a bare row this is a premise. The card (YtckdapbopihofaaGreatDoorCards.lean) ties it to the program's text. -/
def laid_math_bits_deBruijn32tab {H : Type} : DataW H := .agg [.lit (.int .u8 0), .lit (.int .u8 1), .lit (.int .u8 28), .lit (.int .u8 2), .lit (.int .u8 29), .lit (.int .u8 14), .lit (.int .u8 24), .lit (.int .u8 3), .lit (.int .u8 30), .lit (.int .u8 22), .lit (.int .u8 20), .lit (.int .u8 15), .lit (.int .u8 25), .lit (.int .u8 17), .lit (.int .u8 4), .lit (.int .u8 8), .lit (.int .u8 31), .lit (.int .u8 27), .lit (.int .u8 13), .lit (.int .u8 23), .lit (.int .u8 21), .lit (.int .u8 19), .lit (.int .u8 16), .lit (.int .u8 7), .lit (.int .u8 26), .lit (.int .u8 12), .lit (.int .u8 18), .lit (.int .u8 6), .lit (.int .u8 11), .lit (.int .u8 5), .lit (.int .u8 10), .lit (.int .u8 9)]
def laid_math_bits_deBruijn64tab {H : Type} : DataW H := .agg [.lit (.int .u8 0), .lit (.int .u8 1), .lit (.int .u8 56), .lit (.int .u8 2), .lit (.int .u8 57), .lit (.int .u8 49), .lit (.int .u8 28), .lit (.int .u8 3), .lit (.int .u8 61), .lit (.int .u8 58), .lit (.int .u8 42), .lit (.int .u8 50), .lit (.int .u8 38), .lit (.int .u8 29), .lit (.int .u8 17), .lit (.int .u8 4), .lit (.int .u8 62), .lit (.int .u8 47), .lit (.int .u8 59), .lit (.int .u8 36), .lit (.int .u8 45), .lit (.int .u8 43), .lit (.int .u8 51), .lit (.int .u8 22), .lit (.int .u8 53), .lit (.int .u8 39), .lit (.int .u8 33), .lit (.int .u8 30), .lit (.int .u8 24), .lit (.int .u8 18), .lit (.int .u8 12), .lit (.int .u8 5), .lit (.int .u8 63), .lit (.int .u8 55), .lit (.int .u8 48), .lit (.int .u8 27), .lit (.int .u8 60), .lit (.int .u8 41), .lit (.int .u8 37), .lit (.int .u8 16), .lit (.int .u8 46), .lit (.int .u8 35), .lit (.int .u8 44), .lit (.int .u8 21), .lit (.int .u8 52), .lit (.int .u8 32), .lit (.int .u8 23), .lit (.int .u8 11), .lit (.int .u8 54), .lit (.int .u8 26), .lit (.int .u8 40), .lit (.int .u8 15), .lit (.int .u8 34), .lit (.int .u8 20), .lit (.int .u8 31), .lit (.int .u8 10), .lit (.int .u8 25), .lit (.int .u8 14), .lit (.int .u8 19), .lit (.int .u8 9), .lit (.int .u8 13), .lit (.int .u8 8), .lit (.int .u8 7), .lit (.int .u8 6)]
def laid_internal_strconv_uint64pow10 {H : Type} : DataW H := .agg [.lit (.int .u64 1), .lit (.int .u64 10), .lit (.int .u64 100), .lit (.int .u64 1000), .lit (.int .u64 10000), .lit (.int .u64 100000), .lit (.int .u64 1000000), .lit (.int .u64 10000000), .lit (.int .u64 100000000), .lit (.int .u64 1000000000), .lit (.int .u64 10000000000), .lit (.int .u64 100000000000), .lit (.int .u64 1000000000000), .lit (.int .u64 10000000000000), .lit (.int .u64 100000000000000), .lit (.int .u64 1000000000000000), .lit (.int .u64 10000000000000000), .lit (.int .u64 100000000000000000), .lit (.int .u64 1000000000000000000), .lit (.int .u64 10000000000000000000)]

/-- 'caltroplaw26.DfaCounts': WHATEVER THE INPUT: true; the input reads as it did. -/
def dfaCountsSpec : ChangeSpec := { name := "dfaCounts", fn := fun _ => fun
  | [d1, d2, d3] => { results := [.lit (.bool true)], args := [d1, d2, d3] }
  | _ => none }
def dfaCountsRow : OpenClaim := { program := "ytckdapbopihofaagreatdoor", sum := "b5ba7076fcee3268b627a602e1304b973c7c31216b693b064894fc6052bf67f5", func := "caltrop/caltroplaw26.DfaCounts", spec := "dfaCounts", inPlace := ["internal/bytealg.IndexByteString", "math/bits.Add64", "internal/abi.NoEscape"], unfollowed := true, recurses := true, named := ["math/bits.deBruijn64tab", "internal/strconv.uint64pow10", "math/bits.deBruijn32tab"], plainKeys := false, apart := false, laid := [("math/bits.deBruijn32tab", laid_math_bits_deBruijn32tab), ("math/bits.deBruijn64tab", laid_math_bits_deBruijn64tab), ("internal/strconv.uint64pow10", laid_internal_strconv_uint64pow10)] }
def DfaCountsSaid : Prop := dfaCountsRow.holds Tryz.pinned (OpenSpec.ofChange dfaCountsSpec)

/-- ITS FALSE NEIGHBOUR: 'it returns false'. Refute it at one input. -/
def dfaCountsWrong : ChangeSpec := { name := "dfaCounts", fn := fun _ => fun
  | [d1, d2, d3] => { results := [.lit (.bool false)], args := [d1, d2, d3] }
  | _ => none }
def DfaCountsWrongFalsely : Prop := dfaCountsRow.holds Tryz.pinned (OpenSpec.ofChange dfaCountsWrong)

/-- 'caltroplaw26.DfaMeans': WHATEVER THE INPUT: true; the input reads as it did. -/
def dfaMeansSpec : ChangeSpec := { name := "dfaMeans", fn := fun _ => fun
  | [d1, d2, d3, d4] => { results := [.lit (.bool true)], args := [d1, d2, d3, d4] }
  | _ => none }
def dfaMeansRow : OpenClaim := { program := "ytckdapbopihofaagreatdoor", sum := "b5ba7076fcee3268b627a602e1304b973c7c31216b693b064894fc6052bf67f5", func := "caltrop/caltroplaw26.DfaMeans", spec := "dfaMeans", inPlace := ["internal/bytealg.IndexByteString", "math/bits.Add64", "internal/abi.NoEscape"], unfollowed := true, recurses := true, named := ["math/bits.deBruijn64tab", "internal/strconv.uint64pow10", "math/bits.deBruijn32tab"], plainKeys := false, apart := false, laid := [("math/bits.deBruijn32tab", laid_math_bits_deBruijn32tab), ("math/bits.deBruijn64tab", laid_math_bits_deBruijn64tab), ("internal/strconv.uint64pow10", laid_internal_strconv_uint64pow10)] }
def DfaMeansSaid : Prop := dfaMeansRow.holds Tryz.pinned (OpenSpec.ofChange dfaMeansSpec)

/-- ITS FALSE NEIGHBOUR: 'it returns false'. Refute it at one input. -/
def dfaMeansWrong : ChangeSpec := { name := "dfaMeans", fn := fun _ => fun
  | [d1, d2, d3, d4] => { results := [.lit (.bool false)], args := [d1, d2, d3, d4] }
  | _ => none }
def DfaMeansWrongFalsely : Prop := dfaMeansRow.holds Tryz.pinned (OpenSpec.ofChange dfaMeansWrong)

/-- 'caltroplaw26.DfaStates': WHATEVER THE INPUT: true; the input reads as it did. -/
def dfaStatesSpec : ChangeSpec := { name := "dfaStates", fn := fun _ => fun
  | [d1, d2, d3] => { results := [.lit (.bool true)], args := [d1, d2, d3] }
  | _ => none }
def dfaStatesRow : OpenClaim := { program := "ytckdapbopihofaagreatdoor", sum := "b5ba7076fcee3268b627a602e1304b973c7c31216b693b064894fc6052bf67f5", func := "caltrop/caltroplaw26.DfaStates", spec := "dfaStates", inPlace := ["internal/bytealg.IndexByteString", "math/bits.Add64", "internal/abi.NoEscape"], unfollowed := true, recurses := true, named := ["math/bits.deBruijn64tab", "internal/strconv.uint64pow10", "math/bits.deBruijn32tab"], plainKeys := false, apart := false, laid := [("math/bits.deBruijn32tab", laid_math_bits_deBruijn32tab), ("math/bits.deBruijn64tab", laid_math_bits_deBruijn64tab), ("internal/strconv.uint64pow10", laid_internal_strconv_uint64pow10)] }
def DfaStatesSaid : Prop := dfaStatesRow.holds Tryz.pinned (OpenSpec.ofChange dfaStatesSpec)

/-- ITS FALSE NEIGHBOUR: 'it returns false'. Refute it at one input. -/
def dfaStatesWrong : ChangeSpec := { name := "dfaStates", fn := fun _ => fun
  | [d1, d2, d3] => { results := [.lit (.bool false)], args := [d1, d2, d3] }
  | _ => none }
def DfaStatesWrongFalsely : Prop := dfaStatesRow.holds Tryz.pinned (OpenSpec.ofChange dfaStatesWrong)

/-- 'caltroplaw26.DfaNone': WHATEVER THE INPUT: true; the input reads as it did. -/
def dfaNoneSpec : ChangeSpec := { name := "dfaNone", fn := fun _ => fun
  | [d1, d2, d3] => { results := [.lit (.bool true)], args := [d1, d2, d3] }
  | _ => none }
def dfaNoneRow : OpenClaim := { program := "ytckdapbopihofaagreatdoor", sum := "b5ba7076fcee3268b627a602e1304b973c7c31216b693b064894fc6052bf67f5", func := "caltrop/caltroplaw26.DfaNone", spec := "dfaNone", inPlace := ["internal/bytealg.IndexByteString", "math/bits.Add64", "internal/abi.NoEscape"], unfollowed := true, recurses := true, named := ["math/bits.deBruijn64tab", "internal/strconv.uint64pow10", "math/bits.deBruijn32tab"], plainKeys := false, apart := false, laid := [("math/bits.deBruijn32tab", laid_math_bits_deBruijn32tab), ("math/bits.deBruijn64tab", laid_math_bits_deBruijn64tab), ("internal/strconv.uint64pow10", laid_internal_strconv_uint64pow10)] }
def DfaNoneSaid : Prop := dfaNoneRow.holds Tryz.pinned (OpenSpec.ofChange dfaNoneSpec)

/-- ITS FALSE NEIGHBOUR: 'it returns false'. Refute it at one input. -/
def dfaNoneWrong : ChangeSpec := { name := "dfaNone", fn := fun _ => fun
  | [d1, d2, d3] => { results := [.lit (.bool false)], args := [d1, d2, d3] }
  | _ => none }
def DfaNoneWrongFalsely : Prop := dfaNoneRow.holds Tryz.pinned (OpenSpec.ofChange dfaNoneWrong)

/-- 'caltroplaw31.WordsList': WHATEVER THE INPUT: true; the input reads as it did. -/
def wordsListSpec : ChangeSpec := { name := "wordsList", fn := fun _ => fun
  | [d1, d2, d3, d4] => { results := [.lit (.bool true)], args := [d1, d2, d3, d4] }
  | _ => none }
def wordsListRow : OpenClaim := { program := "ytckdapbopihofaagreatdoor", sum := "b5ba7076fcee3268b627a602e1304b973c7c31216b693b064894fc6052bf67f5", func := "caltrop/caltroplaw31.WordsList", spec := "wordsList", inPlace := ["internal/bytealg.IndexByteString", "math/bits.Add64", "internal/abi.NoEscape"], unfollowed := true, recurses := true, named := ["math/bits.deBruijn64tab", "internal/strconv.uint64pow10", "math/bits.deBruijn32tab"], plainKeys := false, apart := false, laid := [("math/bits.deBruijn32tab", laid_math_bits_deBruijn32tab), ("math/bits.deBruijn64tab", laid_math_bits_deBruijn64tab), ("internal/strconv.uint64pow10", laid_internal_strconv_uint64pow10)] }
def WordsListSaid : Prop := wordsListRow.holds Tryz.pinned (OpenSpec.ofChange wordsListSpec)

/-- ITS FALSE NEIGHBOUR: 'it returns false'. Refute it at one input. -/
def wordsListWrong : ChangeSpec := { name := "wordsList", fn := fun _ => fun
  | [d1, d2, d3, d4] => { results := [.lit (.bool false)], args := [d1, d2, d3, d4] }
  | _ => none }
def WordsListWrongFalsely : Prop := wordsListRow.holds Tryz.pinned (OpenSpec.ofChange wordsListWrong)

/-- 'caltroplaw31.WordsMeant': WHATEVER THE INPUT: true; the input reads as it did. -/
def wordsMeantSpec : ChangeSpec := { name := "wordsMeant", fn := fun _ => fun
  | [d1, d2, d3, d4] => { results := [.lit (.bool true)], args := [d1, d2, d3, d4] }
  | _ => none }
def wordsMeantRow : OpenClaim := { program := "ytckdapbopihofaagreatdoor", sum := "b5ba7076fcee3268b627a602e1304b973c7c31216b693b064894fc6052bf67f5", func := "caltrop/caltroplaw31.WordsMeant", spec := "wordsMeant", inPlace := ["internal/bytealg.IndexByteString", "math/bits.Add64", "internal/abi.NoEscape"], unfollowed := true, recurses := true, named := ["math/bits.deBruijn64tab", "internal/strconv.uint64pow10", "math/bits.deBruijn32tab"], plainKeys := false, apart := false, laid := [("math/bits.deBruijn32tab", laid_math_bits_deBruijn32tab), ("math/bits.deBruijn64tab", laid_math_bits_deBruijn64tab), ("internal/strconv.uint64pow10", laid_internal_strconv_uint64pow10)] }
def WordsMeantSaid : Prop := wordsMeantRow.holds Tryz.pinned (OpenSpec.ofChange wordsMeantSpec)

/-- ITS FALSE NEIGHBOUR: 'it returns false'. Refute it at one input. -/
def wordsMeantWrong : ChangeSpec := { name := "wordsMeant", fn := fun _ => fun
  | [d1, d2, d3, d4] => { results := [.lit (.bool false)], args := [d1, d2, d3, d4] }
  | _ => none }
def WordsMeantWrongFalsely : Prop := wordsMeantRow.holds Tryz.pinned (OpenSpec.ofChange wordsMeantWrong)

/-- 'caltroplaw31.WordsPlaces': WHATEVER THE INPUT: true; the input reads as it did. -/
def wordsPlacesSpec : ChangeSpec := { name := "wordsPlaces", fn := fun _ => fun
  | [d1, d2, d3, d4, d5] => { results := [.lit (.bool true)], args := [d1, d2, d3, d4, d5] }
  | _ => none }
def wordsPlacesRow : OpenClaim := { program := "ytckdapbopihofaagreatdoor", sum := "b5ba7076fcee3268b627a602e1304b973c7c31216b693b064894fc6052bf67f5", func := "caltrop/caltroplaw31.WordsPlaces", spec := "wordsPlaces", inPlace := ["internal/bytealg.IndexByteString", "math/bits.Add64", "internal/abi.NoEscape"], unfollowed := true, recurses := true, named := ["math/bits.deBruijn64tab", "internal/strconv.uint64pow10", "math/bits.deBruijn32tab"], plainKeys := false, apart := false, laid := [("math/bits.deBruijn32tab", laid_math_bits_deBruijn32tab), ("math/bits.deBruijn64tab", laid_math_bits_deBruijn64tab), ("internal/strconv.uint64pow10", laid_internal_strconv_uint64pow10)] }
def WordsPlacesSaid : Prop := wordsPlacesRow.holds Tryz.pinned (OpenSpec.ofChange wordsPlacesSpec)

/-- ITS FALSE NEIGHBOUR: 'it returns false'. Refute it at one input. -/
def wordsPlacesWrong : ChangeSpec := { name := "wordsPlaces", fn := fun _ => fun
  | [d1, d2, d3, d4, d5] => { results := [.lit (.bool false)], args := [d1, d2, d3, d4, d5] }
  | _ => none }
def WordsPlacesWrongFalsely : Prop := wordsPlacesRow.holds Tryz.pinned (OpenSpec.ofChange wordsPlacesWrong)

/-- 'caltroplaw31.WordsNone': WHATEVER THE INPUT: true; the input reads as it did. -/
def wordsNoneSpec : ChangeSpec := { name := "wordsNone", fn := fun _ => fun
  | [d1, d2, d3] => { results := [.lit (.bool true)], args := [d1, d2, d3] }
  | _ => none }
def wordsNoneRow : OpenClaim := { program := "ytckdapbopihofaagreatdoor", sum := "b5ba7076fcee3268b627a602e1304b973c7c31216b693b064894fc6052bf67f5", func := "caltrop/caltroplaw31.WordsNone", spec := "wordsNone", inPlace := ["internal/bytealg.IndexByteString", "math/bits.Add64", "internal/abi.NoEscape"], unfollowed := true, recurses := true, named := ["math/bits.deBruijn64tab", "internal/strconv.uint64pow10", "math/bits.deBruijn32tab"], plainKeys := false, apart := false, laid := [("math/bits.deBruijn32tab", laid_math_bits_deBruijn32tab), ("math/bits.deBruijn64tab", laid_math_bits_deBruijn64tab), ("internal/strconv.uint64pow10", laid_internal_strconv_uint64pow10)] }
def WordsNoneSaid : Prop := wordsNoneRow.holds Tryz.pinned (OpenSpec.ofChange wordsNoneSpec)

/-- ITS FALSE NEIGHBOUR: 'it returns false'. Refute it at one input. -/
def wordsNoneWrong : ChangeSpec := { name := "wordsNone", fn := fun _ => fun
  | [d1, d2, d3] => { results := [.lit (.bool false)], args := [d1, d2, d3] }
  | _ => none }
def WordsNoneWrongFalsely : Prop := wordsNoneRow.holds Tryz.pinned (OpenSpec.ofChange wordsNoneWrong)

/- THE SECOND FORM. 'bulk': how many values and letters a reading holds, each counted each time it is reached (what is shared counts as often as it is met; a slice's spare places count too). A statement '..UptoSaid' is the law's where the arguments, and the package variables that the reading takes, are together of bulk at most 1048576: NARROWER than '..Said'. Prove '..Said' where nothing that the law and all that it calls make is longer than what came in: it says more and counts as full. Else prove '..UptoSaid'. A law counts once. -/
mutual
def uptoBulk {H : Type} : DataW H → Nat
  | .lit (.string bytes) => bytes.length + 1
  | .lit _ => 1
  | .nil => 1
  | .ptr d => uptoBulk d + 1
  | .slice elems spare => uptoBulkAll elems + uptoBulkAll spare + 1
  | .agg parts => uptoBulkAll parts + 1
  | .iface _ d => uptoBulk d + 1
  | .map entries => uptoBulkEntries entries + 1
  | .held _ => 1
def uptoBulkAll {H : Type} : List (DataW H) → Nat
  | [] => 0
  | d :: r => uptoBulk d + uptoBulkAll r
def uptoBulkEntries {H : Type} : List (Lit × DataW H) → Nat
  | [] => 0
  | x :: r => uptoBulkEntry x + uptoBulkEntries r
def uptoBulkEntry {H : Type} : Lit × DataW H → Nat
  | (.string bytes, d) => bytes.length + uptoBulk d + 1
  | (_, d) => uptoBulk d + 1
 end
def uptoSmall : (H : Type) → List (DataW H) → Bool := fun _ ds => decide (uptoBulkAll ds ≤ 1048576)
def OpenSpec.upto (s : _root_.Go.ChangeSpec) : _root_.Go.OpenSpec := { _root_.Go.OpenSpec.ofChange s with cond := some uptoSmall }

/-- 'caltroplaw26.DfaCounts', WHERE WHAT IT READS IS OF BULK AT MOST 1048576: true; the input reads as it did. -/
def dfaCountsUptoRow : OpenClaim := { program := "ytckdapbopihofaagreatdoor", sum := "b5ba7076fcee3268b627a602e1304b973c7c31216b693b064894fc6052bf67f5", func := "caltrop/caltroplaw26.DfaCounts", spec := "dfaCounts", inPlace := ["internal/bytealg.IndexByteString", "math/bits.Add64", "internal/abi.NoEscape"], unfollowed := true, recurses := true, named := ["math/bits.deBruijn64tab", "internal/strconv.uint64pow10", "math/bits.deBruijn32tab"], plainKeys := false, apart := false, laid := [("math/bits.deBruijn32tab", laid_math_bits_deBruijn32tab), ("math/bits.deBruijn64tab", laid_math_bits_deBruijn64tab), ("internal/strconv.uint64pow10", laid_internal_strconv_uint64pow10)], narrowed := true }
def DfaCountsUptoSaid : Prop := dfaCountsUptoRow.holds Tryz.pinned (OpenSpec.upto dfaCountsSpec)

/-- 'caltroplaw26.DfaMeans', WHERE WHAT IT READS IS OF BULK AT MOST 1048576: true; the input reads as it did. -/
def dfaMeansUptoRow : OpenClaim := { program := "ytckdapbopihofaagreatdoor", sum := "b5ba7076fcee3268b627a602e1304b973c7c31216b693b064894fc6052bf67f5", func := "caltrop/caltroplaw26.DfaMeans", spec := "dfaMeans", inPlace := ["internal/bytealg.IndexByteString", "math/bits.Add64", "internal/abi.NoEscape"], unfollowed := true, recurses := true, named := ["math/bits.deBruijn64tab", "internal/strconv.uint64pow10", "math/bits.deBruijn32tab"], plainKeys := false, apart := false, laid := [("math/bits.deBruijn32tab", laid_math_bits_deBruijn32tab), ("math/bits.deBruijn64tab", laid_math_bits_deBruijn64tab), ("internal/strconv.uint64pow10", laid_internal_strconv_uint64pow10)], narrowed := true }
def DfaMeansUptoSaid : Prop := dfaMeansUptoRow.holds Tryz.pinned (OpenSpec.upto dfaMeansSpec)

/-- 'caltroplaw26.DfaStates', WHERE WHAT IT READS IS OF BULK AT MOST 1048576: true; the input reads as it did. -/
def dfaStatesUptoRow : OpenClaim := { program := "ytckdapbopihofaagreatdoor", sum := "b5ba7076fcee3268b627a602e1304b973c7c31216b693b064894fc6052bf67f5", func := "caltrop/caltroplaw26.DfaStates", spec := "dfaStates", inPlace := ["internal/bytealg.IndexByteString", "math/bits.Add64", "internal/abi.NoEscape"], unfollowed := true, recurses := true, named := ["math/bits.deBruijn64tab", "internal/strconv.uint64pow10", "math/bits.deBruijn32tab"], plainKeys := false, apart := false, laid := [("math/bits.deBruijn32tab", laid_math_bits_deBruijn32tab), ("math/bits.deBruijn64tab", laid_math_bits_deBruijn64tab), ("internal/strconv.uint64pow10", laid_internal_strconv_uint64pow10)], narrowed := true }
def DfaStatesUptoSaid : Prop := dfaStatesUptoRow.holds Tryz.pinned (OpenSpec.upto dfaStatesSpec)

/-- 'caltroplaw26.DfaNone', WHERE WHAT IT READS IS OF BULK AT MOST 1048576: true; the input reads as it did. -/
def dfaNoneUptoRow : OpenClaim := { program := "ytckdapbopihofaagreatdoor", sum := "b5ba7076fcee3268b627a602e1304b973c7c31216b693b064894fc6052bf67f5", func := "caltrop/caltroplaw26.DfaNone", spec := "dfaNone", inPlace := ["internal/bytealg.IndexByteString", "math/bits.Add64", "internal/abi.NoEscape"], unfollowed := true, recurses := true, named := ["math/bits.deBruijn64tab", "internal/strconv.uint64pow10", "math/bits.deBruijn32tab"], plainKeys := false, apart := false, laid := [("math/bits.deBruijn32tab", laid_math_bits_deBruijn32tab), ("math/bits.deBruijn64tab", laid_math_bits_deBruijn64tab), ("internal/strconv.uint64pow10", laid_internal_strconv_uint64pow10)], narrowed := true }
def DfaNoneUptoSaid : Prop := dfaNoneUptoRow.holds Tryz.pinned (OpenSpec.upto dfaNoneSpec)

/-- 'caltroplaw31.WordsList', WHERE WHAT IT READS IS OF BULK AT MOST 1048576: true; the input reads as it did. -/
def wordsListUptoRow : OpenClaim := { program := "ytckdapbopihofaagreatdoor", sum := "b5ba7076fcee3268b627a602e1304b973c7c31216b693b064894fc6052bf67f5", func := "caltrop/caltroplaw31.WordsList", spec := "wordsList", inPlace := ["internal/bytealg.IndexByteString", "math/bits.Add64", "internal/abi.NoEscape"], unfollowed := true, recurses := true, named := ["math/bits.deBruijn64tab", "internal/strconv.uint64pow10", "math/bits.deBruijn32tab"], plainKeys := false, apart := false, laid := [("math/bits.deBruijn32tab", laid_math_bits_deBruijn32tab), ("math/bits.deBruijn64tab", laid_math_bits_deBruijn64tab), ("internal/strconv.uint64pow10", laid_internal_strconv_uint64pow10)], narrowed := true }
def WordsListUptoSaid : Prop := wordsListUptoRow.holds Tryz.pinned (OpenSpec.upto wordsListSpec)

/-- 'caltroplaw31.WordsMeant', WHERE WHAT IT READS IS OF BULK AT MOST 1048576: true; the input reads as it did. -/
def wordsMeantUptoRow : OpenClaim := { program := "ytckdapbopihofaagreatdoor", sum := "b5ba7076fcee3268b627a602e1304b973c7c31216b693b064894fc6052bf67f5", func := "caltrop/caltroplaw31.WordsMeant", spec := "wordsMeant", inPlace := ["internal/bytealg.IndexByteString", "math/bits.Add64", "internal/abi.NoEscape"], unfollowed := true, recurses := true, named := ["math/bits.deBruijn64tab", "internal/strconv.uint64pow10", "math/bits.deBruijn32tab"], plainKeys := false, apart := false, laid := [("math/bits.deBruijn32tab", laid_math_bits_deBruijn32tab), ("math/bits.deBruijn64tab", laid_math_bits_deBruijn64tab), ("internal/strconv.uint64pow10", laid_internal_strconv_uint64pow10)], narrowed := true }
def WordsMeantUptoSaid : Prop := wordsMeantUptoRow.holds Tryz.pinned (OpenSpec.upto wordsMeantSpec)

/-- 'caltroplaw31.WordsPlaces', WHERE WHAT IT READS IS OF BULK AT MOST 1048576: true; the input reads as it did. -/
def wordsPlacesUptoRow : OpenClaim := { program := "ytckdapbopihofaagreatdoor", sum := "b5ba7076fcee3268b627a602e1304b973c7c31216b693b064894fc6052bf67f5", func := "caltrop/caltroplaw31.WordsPlaces", spec := "wordsPlaces", inPlace := ["internal/bytealg.IndexByteString", "math/bits.Add64", "internal/abi.NoEscape"], unfollowed := true, recurses := true, named := ["math/bits.deBruijn64tab", "internal/strconv.uint64pow10", "math/bits.deBruijn32tab"], plainKeys := false, apart := false, laid := [("math/bits.deBruijn32tab", laid_math_bits_deBruijn32tab), ("math/bits.deBruijn64tab", laid_math_bits_deBruijn64tab), ("internal/strconv.uint64pow10", laid_internal_strconv_uint64pow10)], narrowed := true }
def WordsPlacesUptoSaid : Prop := wordsPlacesUptoRow.holds Tryz.pinned (OpenSpec.upto wordsPlacesSpec)

/-- 'caltroplaw31.WordsNone', WHERE WHAT IT READS IS OF BULK AT MOST 1048576: true; the input reads as it did. -/
def wordsNoneUptoRow : OpenClaim := { program := "ytckdapbopihofaagreatdoor", sum := "b5ba7076fcee3268b627a602e1304b973c7c31216b693b064894fc6052bf67f5", func := "caltrop/caltroplaw31.WordsNone", spec := "wordsNone", inPlace := ["internal/bytealg.IndexByteString", "math/bits.Add64", "internal/abi.NoEscape"], unfollowed := true, recurses := true, named := ["math/bits.deBruijn64tab", "internal/strconv.uint64pow10", "math/bits.deBruijn32tab"], plainKeys := false, apart := false, laid := [("math/bits.deBruijn32tab", laid_math_bits_deBruijn32tab), ("math/bits.deBruijn64tab", laid_math_bits_deBruijn64tab), ("internal/strconv.uint64pow10", laid_internal_strconv_uint64pow10)], narrowed := true }
def WordsNoneUptoSaid : Prop := wordsNoneUptoRow.holds Tryz.pinned (OpenSpec.upto wordsNoneSpec)

end Rows
end Go.Proofs.YtckdapbopihofaaGreatDoor
