/-
  NARROWER THAN 'FOR EVERY INPUT', by the rows' own cells (each row's printed sentence says how): SerialiseInvertsParse: laid · ChecksumIsOnesComplementSum: laid · IncrementalEqualsFull: laid · IncrementalKeepsVerdict: laid.
  DERIVED. THE GIVEN ROWS OF THIS SEAT. 4 by the template 'for every input the law returns true; each argument reads behind the call as it read before'; 0 by the template 'total and deterministic' (their statements: Qxb6500841aDoorTotals.lean).
  GIVEN WITH THE SEED: the statements are not yours to turn. If you find one false, say at which input.
  Laid BY PROGRAM, IN A SANDBOX (cutbox-rows.mjs): the forced cells as the released guide's own fill.sh prints them over the translation 2001a3dab45d1335… (all of the seat's roots in one cut). By AI agents, Wed Nov 11 2026. No macro, syntax, notation, axiom, sorry.
-/
import Derived.Test.Qxb6500841aDoorChecked
import GoSem.PinnedTables
import GoSem.Claim
import GoSem.ClaimJoined
import GoSem.ClaimMapViews
import Derived.JoinedTies
import Derived.KernelRfl
namespace Go.Proofs.Qxb6500841aDoor
/- THE CELL 'sum', in the pinned program and in every row, IS THE sha256 OF THE DUMP (.gsa) THAT Qxb6500841aDoorProg.lean LOADS. Nothing in Lean hashes anything: it is a label: what it is worth is what the hold of that sum in a sandbox is worth. -/
noncomputable def Tryd.pinned : Pinned := { name := "qxb6500841adoor", sum := "2001a3dab45d1335be99b0873baf24f524deeed0c38c43bd5e8af6382c6eb13a", checked := Tryd.checked }
namespace Rows
def none {H : Type} : Left H := { results := [], args := [] }

/- WHAT THE LISTED PACKAGE-LEVEL VARIABLES READ AS WHEN THE CALL BEGINS. Each datum BY PROGRAM (the guide's laid-datum.mjs) off the statement by which the dump's own 'gosem.cut.vars' lays the variable. In a bare row this is a premise. The card (Qxb6500841aDoorCards.lean) ties it to the program's text. -/
def laid_e2e_api_ErrShortEth {H : Type} : DataW H := .iface "*errors.errorString" (.ptr (.agg [.lit (.string [119, 105, 114, 101, 58, 32, 102, 114, 97, 109, 101, 32, 115, 104, 111, 114, 116, 101, 114, 32, 116, 104, 97, 110, 32, 97, 110, 32, 69, 116, 104, 101, 114, 110, 101, 116, 32, 104, 101, 97, 100, 101, 114])]))
def laid_e2e_api_ErrShortIPv4 {H : Type} : DataW H := .iface "*errors.errorString" (.ptr (.agg [.lit (.string [119, 105, 114, 101, 58, 32, 73, 80, 118, 52, 32, 104, 101, 97, 100, 101, 114, 32, 99, 117, 116, 32, 115, 104, 111, 114, 116])]))
def laid_e2e_api_ErrIPVersion {H : Type} : DataW H := .iface "*errors.errorString" (.ptr (.agg [.lit (.string [119, 105, 114, 101, 58, 32, 73, 80, 32, 118, 101, 114, 115, 105, 111, 110, 32, 105, 115, 32, 110, 111, 116, 32, 52])]))
def laid_e2e_api_ErrIPHeaderLen {H : Type} : DataW H := .iface "*errors.errorString" (.ptr (.agg [.lit (.string [119, 105, 114, 101, 58, 32, 73, 80, 118, 52, 32, 104, 101, 97, 100, 101, 114, 32, 108, 101, 110, 103, 116, 104, 32, 98, 101, 108, 111, 119, 32, 102, 105, 118, 101, 32, 119, 111, 114, 100, 115])]))
def laid_e2e_api_ErrIPTotalLen {H : Type} : DataW H := .iface "*errors.errorString" (.ptr (.agg [.lit (.string [119, 105, 114, 101, 58, 32, 73, 80, 118, 52, 32, 116, 111, 116, 97, 108, 32, 108, 101, 110, 103, 116, 104, 32, 98, 101, 108, 111, 119, 32, 116, 104, 101, 32, 104, 101, 97, 100, 101, 114, 32, 108, 101, 110, 103, 116, 104])]))
def laid_e2e_api_ErrIPCut {H : Type} : DataW H := .iface "*errors.errorString" (.ptr (.agg [.lit (.string [119, 105, 114, 101, 58, 32, 102, 114, 97, 109, 101, 32, 101, 110, 100, 115, 32, 98, 101, 102, 111, 114, 101, 32, 116, 104, 101, 32, 73, 80, 118, 52, 32, 116, 111, 116, 97, 108, 32, 108, 101, 110, 103, 116, 104])]))
def laid_e2e_api_ErrShortTCP {H : Type} : DataW H := .iface "*errors.errorString" (.ptr (.agg [.lit (.string [119, 105, 114, 101, 58, 32, 84, 67, 80, 32, 104, 101, 97, 100, 101, 114, 32, 99, 117, 116, 32, 115, 104, 111, 114, 116])]))
def laid_e2e_api_ErrTCPOffset {H : Type} : DataW H := .iface "*errors.errorString" (.ptr (.agg [.lit (.string [119, 105, 114, 101, 58, 32, 84, 67, 80, 32, 100, 97, 116, 97, 32, 111, 102, 102, 115, 101, 116, 32, 111, 117, 116, 115, 105, 100, 101, 32, 116, 104, 101, 32, 115, 101, 103, 109, 101, 110, 116])]))
def laid_e2e_api_ErrShortICMP {H : Type} : DataW H := .iface "*errors.errorString" (.ptr (.agg [.lit (.string [119, 105, 114, 101, 58, 32, 73, 67, 77, 80, 32, 104, 101, 97, 100, 101, 114, 32, 99, 117, 116, 32, 115, 104, 111, 114, 116])]))
def laid_e2e_api_ErrICMPQuote {H : Type} : DataW H := .iface "*errors.errorString" (.ptr (.agg [.lit (.string [119, 105, 114, 101, 58, 32, 73, 67, 77, 80, 32, 101, 114, 114, 111, 114, 32, 113, 117, 111, 116, 101, 115, 32, 110, 111, 32, 119, 104, 111, 108, 101, 32, 104, 101, 97, 100, 101, 114, 32, 97, 110, 100, 32, 101, 105, 103, 104, 116, 32, 98, 121, 116, 101, 115])]))
def laid_e2e_api_ErrKind {H : Type} : DataW H := .iface "*errors.errorString" (.ptr (.agg [.lit (.string [119, 105, 114, 101, 58, 32, 117, 110, 107, 110, 111, 119, 110, 32, 102, 114, 97, 109, 101, 32, 107, 105, 110, 100])]))
def laid_e2e_api_ErrStray {H : Type} : DataW H := .iface "*errors.errorString" (.ptr (.agg [.lit (.string [119, 105, 114, 101, 58, 32, 97, 32, 112, 97, 114, 116, 32, 98, 101, 121, 111, 110, 100, 32, 116, 104, 101, 32, 102, 114, 97, 109, 101, 39, 115, 32, 107, 105, 110, 100, 32, 105, 115, 32, 110, 111, 116, 32, 122, 101, 114, 111])]))
def laid_e2e_api_ErrShallow {H : Type} : DataW H := .iface "*errors.errorString" (.ptr (.agg [.lit (.string [119, 105, 114, 101, 58, 32, 116, 104, 101, 32, 102, 114, 97, 109, 101, 39, 115, 32, 107, 105, 110, 100, 32, 115, 116, 111, 112, 115, 32, 115, 104, 111, 114, 116, 32, 111, 102, 32, 119, 104, 97, 116, 32, 105, 116, 115, 32, 104, 101, 97, 100, 101, 114, 115, 32, 97, 110, 110, 111, 117, 110, 99, 101])]))
def laid_e2e_api_ErrField {H : Type} : DataW H := .iface "*errors.errorString" (.ptr (.agg [.lit (.string [119, 105, 114, 101, 58, 32, 97, 32, 102, 105, 101, 108, 100, 32, 101, 120, 99, 101, 101, 100, 115, 32, 105, 116, 115, 32, 119, 105, 100, 116, 104])]))
def laid_e2e_api_ErrOptions {H : Type} : DataW H := .iface "*errors.errorString" (.ptr (.agg [.lit (.string [119, 105, 114, 101, 58, 32, 111, 112, 116, 105, 111, 110, 115, 32, 110, 111, 116, 32, 97, 32, 109, 117, 108, 116, 105, 112, 108, 101, 32, 111, 102, 32, 102, 111, 117, 114, 32, 98, 121, 116, 101, 115, 32, 111, 114, 32, 111, 118, 101, 114, 32, 102, 111, 114, 116, 121])]))
def laid_e2e_api_ErrLength {H : Type} : DataW H := .iface "*errors.errorString" (.ptr (.agg [.lit (.string [119, 105, 114, 101, 58, 32, 73, 80, 118, 52, 32, 116, 111, 116, 97, 108, 32, 108, 101, 110, 103, 116, 104, 32, 100, 105, 115, 97, 103, 114, 101, 101, 115, 32, 119, 105, 116, 104, 32, 116, 104, 101, 32, 99, 111, 110, 116, 101, 110, 116])]))
def laid_e2e_api_ErrProto {H : Type} : DataW H := .iface "*errors.errorString" (.ptr (.agg [.lit (.string [119, 105, 114, 101, 58, 32, 111, 117, 116, 101, 114, 32, 104, 101, 97, 100, 101, 114, 32, 100, 111, 101, 115, 32, 110, 111, 116, 32, 97, 110, 110, 111, 117, 110, 99, 101, 32, 116, 104, 101, 32, 105, 110, 110, 101, 114, 32, 111, 110, 101])]))
def laid_e2e_api_ErrICMPType {H : Type} : DataW H := .iface "*errors.errorString" (.ptr (.agg [.lit (.string [119, 105, 114, 101, 58, 32, 73, 67, 77, 80, 32, 116, 121, 112, 101, 32, 105, 115, 32, 110, 111, 116, 32, 97, 110, 32, 101, 114, 114, 111, 114, 32, 116, 121, 112, 101])]))
def laid_e2e_api_ErrFragment {H : Type} : DataW H := .iface "*errors.errorString" (.ptr (.agg [.lit (.string [119, 105, 114, 101, 58, 32, 97, 32, 102, 114, 97, 103, 109, 101, 110, 116, 32, 99, 97, 110, 110, 111, 116, 32, 99, 97, 114, 114, 121, 32, 97, 32, 112, 97, 114, 115, 101, 100, 32, 105, 110, 110, 101, 114, 32, 104, 101, 97, 100, 101, 114])]))
def laid_e2e_api_ErrQuoteSize {H : Type} : DataW H := .iface "*errors.errorString" (.ptr (.agg [.lit (.string [119, 105, 114, 101, 58, 32, 102, 101, 119, 101, 114, 32, 116, 104, 97, 110, 32, 101, 105, 103, 104, 116, 32, 113, 117, 111, 116, 101, 100, 32, 98, 121, 116, 101, 115])]))
def laid_unicode_utf8_acceptRanges {H : Type} : DataW H := .agg [.agg [.lit (.int .u8 128), .lit (.int .u8 191)], .agg [.lit (.int .u8 160), .lit (.int .u8 191)], .agg [.lit (.int .u8 128), .lit (.int .u8 159)], .agg [.lit (.int .u8 144), .lit (.int .u8 191)], .agg [.lit (.int .u8 128), .lit (.int .u8 143)], .agg [.lit (.int .u8 0), .lit (.int .u8 0)], .agg [.lit (.int .u8 0), .lit (.int .u8 0)], .agg [.lit (.int .u8 0), .lit (.int .u8 0)], .agg [.lit (.int .u8 0), .lit (.int .u8 0)], .agg [.lit (.int .u8 0), .lit (.int .u8 0)], .agg [.lit (.int .u8 0), .lit (.int .u8 0)], .agg [.lit (.int .u8 0), .lit (.int .u8 0)], .agg [.lit (.int .u8 0), .lit (.int .u8 0)], .agg [.lit (.int .u8 0), .lit (.int .u8 0)], .agg [.lit (.int .u8 0), .lit (.int .u8 0)], .agg [.lit (.int .u8 0), .lit (.int .u8 0)]]
/-- One of Go's own tables, pinned by name: the form's constant. -/
def laid_unicode_utf8_first : DataW Unit := Go.Pinned.utf8First

/-- 'wirelaw.SerialiseInvertsParse': WHATEVER THE INPUT: true; the input reads as it did. -/
def serialiseInvertsParseSpec : ChangeSpec := { name := "serialiseInvertsParse", fn := fun _ => fun
  | [d] => { results := [.lit (.bool true)], args := [d] }
  | _ => none }
def serialiseInvertsParseRow : OpenClaim := { program := "qxb6500841adoor", sum := "2001a3dab45d1335be99b0873baf24f524deeed0c38c43bd5e8af6382c6eb13a", func := "e2e/wirelaw.SerialiseInvertsParse", spec := "serialiseInvertsParse", unfollowed := true, recurses := true, named := ["e2e/api.ErrLength", "e2e/api.ErrKind", "e2e/api.ErrStray", "e2e/api.ErrShallow", "e2e/api.ErrProto", "e2e/api.ErrField", "e2e/api.ErrOptions", "e2e/api.ErrFragment", "e2e/api.ErrICMPType", "e2e/api.ErrQuoteSize", "encoding/binary.BigEndian", "e2e/api.ErrIPCut", "e2e/api.ErrShortEth", "e2e/api.ErrShortIPv4", "e2e/api.ErrIPVersion", "e2e/api.ErrIPHeaderLen", "e2e/api.ErrIPTotalLen", "e2e/api.ErrShortTCP", "e2e/api.ErrTCPOffset", "e2e/api.ErrShortICMP", "e2e/api.ErrICMPQuote"], apart := false, laid := [("e2e/api.ErrShortEth", laid_e2e_api_ErrShortEth), ("e2e/api.ErrShortIPv4", laid_e2e_api_ErrShortIPv4), ("e2e/api.ErrIPVersion", laid_e2e_api_ErrIPVersion), ("e2e/api.ErrIPHeaderLen", laid_e2e_api_ErrIPHeaderLen), ("e2e/api.ErrIPTotalLen", laid_e2e_api_ErrIPTotalLen), ("e2e/api.ErrIPCut", laid_e2e_api_ErrIPCut), ("e2e/api.ErrShortTCP", laid_e2e_api_ErrShortTCP), ("e2e/api.ErrTCPOffset", laid_e2e_api_ErrTCPOffset), ("e2e/api.ErrShortICMP", laid_e2e_api_ErrShortICMP), ("e2e/api.ErrICMPQuote", laid_e2e_api_ErrICMPQuote), ("e2e/api.ErrKind", laid_e2e_api_ErrKind), ("e2e/api.ErrStray", laid_e2e_api_ErrStray), ("e2e/api.ErrShallow", laid_e2e_api_ErrShallow), ("e2e/api.ErrField", laid_e2e_api_ErrField), ("e2e/api.ErrOptions", laid_e2e_api_ErrOptions), ("e2e/api.ErrLength", laid_e2e_api_ErrLength), ("e2e/api.ErrProto", laid_e2e_api_ErrProto), ("e2e/api.ErrICMPType", laid_e2e_api_ErrICMPType), ("e2e/api.ErrFragment", laid_e2e_api_ErrFragment), ("e2e/api.ErrQuoteSize", laid_e2e_api_ErrQuoteSize)] }
def SerialiseInvertsParseSaid : Prop := serialiseInvertsParseRow.holds Tryd.pinned (OpenSpec.ofChange serialiseInvertsParseSpec)

/-- ITS FALSE NEIGHBOUR: 'it returns false'. Refute it at one input. -/
def serialiseInvertsParseWrong : ChangeSpec := { name := "serialiseInvertsParse", fn := fun _ => fun
  | [d] => { results := [.lit (.bool false)], args := [d] }
  | _ => none }
def SerialiseInvertsParseWrongFalsely : Prop := serialiseInvertsParseRow.holds Tryd.pinned (OpenSpec.ofChange serialiseInvertsParseWrong)

/-- 'wirelaw.ChecksumIsOnesComplementSum': WHATEVER THE INPUT: true; the input reads as it did. -/
def checksumIsOnesComplementSumSpec : ChangeSpec := { name := "checksumIsOnesComplementSum", fn := fun _ => fun
  | [d] => { results := [.lit (.bool true)], args := [d] }
  | _ => none }
def checksumIsOnesComplementSumRow : OpenClaim := { program := "qxb6500841adoor", sum := "2001a3dab45d1335be99b0873baf24f524deeed0c38c43bd5e8af6382c6eb13a", func := "e2e/wirelaw.ChecksumIsOnesComplementSum", spec := "checksumIsOnesComplementSum", unfollowed := true, recurses := true, named := ["e2e/api.ErrLength", "e2e/api.ErrKind", "e2e/api.ErrStray", "e2e/api.ErrShallow", "e2e/api.ErrProto", "e2e/api.ErrField", "e2e/api.ErrOptions", "e2e/api.ErrFragment", "e2e/api.ErrICMPType", "e2e/api.ErrQuoteSize", "encoding/binary.BigEndian", "e2e/api.ErrIPCut", "e2e/api.ErrShortEth", "e2e/api.ErrShortIPv4", "e2e/api.ErrIPVersion", "e2e/api.ErrIPHeaderLen", "e2e/api.ErrIPTotalLen", "e2e/api.ErrShortTCP", "e2e/api.ErrTCPOffset", "e2e/api.ErrShortICMP", "e2e/api.ErrICMPQuote"], apart := false, laid := [("e2e/api.ErrShortEth", laid_e2e_api_ErrShortEth), ("e2e/api.ErrShortIPv4", laid_e2e_api_ErrShortIPv4), ("e2e/api.ErrIPVersion", laid_e2e_api_ErrIPVersion), ("e2e/api.ErrIPHeaderLen", laid_e2e_api_ErrIPHeaderLen), ("e2e/api.ErrIPTotalLen", laid_e2e_api_ErrIPTotalLen), ("e2e/api.ErrIPCut", laid_e2e_api_ErrIPCut), ("e2e/api.ErrShortTCP", laid_e2e_api_ErrShortTCP), ("e2e/api.ErrTCPOffset", laid_e2e_api_ErrTCPOffset), ("e2e/api.ErrShortICMP", laid_e2e_api_ErrShortICMP), ("e2e/api.ErrICMPQuote", laid_e2e_api_ErrICMPQuote), ("e2e/api.ErrKind", laid_e2e_api_ErrKind), ("e2e/api.ErrStray", laid_e2e_api_ErrStray), ("e2e/api.ErrShallow", laid_e2e_api_ErrShallow), ("e2e/api.ErrField", laid_e2e_api_ErrField), ("e2e/api.ErrOptions", laid_e2e_api_ErrOptions), ("e2e/api.ErrLength", laid_e2e_api_ErrLength), ("e2e/api.ErrProto", laid_e2e_api_ErrProto), ("e2e/api.ErrICMPType", laid_e2e_api_ErrICMPType), ("e2e/api.ErrFragment", laid_e2e_api_ErrFragment), ("e2e/api.ErrQuoteSize", laid_e2e_api_ErrQuoteSize)] }
def ChecksumIsOnesComplementSumSaid : Prop := checksumIsOnesComplementSumRow.holds Tryd.pinned (OpenSpec.ofChange checksumIsOnesComplementSumSpec)

/-- ITS FALSE NEIGHBOUR: 'it returns false'. Refute it at one input. -/
def checksumIsOnesComplementSumWrong : ChangeSpec := { name := "checksumIsOnesComplementSum", fn := fun _ => fun
  | [d] => { results := [.lit (.bool false)], args := [d] }
  | _ => none }
def ChecksumIsOnesComplementSumWrongFalsely : Prop := checksumIsOnesComplementSumRow.holds Tryd.pinned (OpenSpec.ofChange checksumIsOnesComplementSumWrong)

/-- 'wirelaw.IncrementalEqualsFull': WHATEVER THE INPUT: true; the input reads as it did. -/
def incrementalEqualsFullSpec : ChangeSpec := { name := "incrementalEqualsFull", fn := fun _ => fun
  | [d] => { results := [.lit (.bool true)], args := [d] }
  | _ => none }
def incrementalEqualsFullRow : OpenClaim := { program := "qxb6500841adoor", sum := "2001a3dab45d1335be99b0873baf24f524deeed0c38c43bd5e8af6382c6eb13a", func := "e2e/wirelaw.IncrementalEqualsFull", spec := "incrementalEqualsFull", unfollowed := true, recurses := true, named := ["e2e/api.ErrLength", "e2e/api.ErrKind", "e2e/api.ErrStray", "e2e/api.ErrShallow", "e2e/api.ErrProto", "e2e/api.ErrField", "e2e/api.ErrOptions", "e2e/api.ErrFragment", "e2e/api.ErrICMPType", "e2e/api.ErrQuoteSize", "encoding/binary.BigEndian", "unicode/utf8.first", "unicode/utf8.acceptRanges"], apart := false, laid := [("unicode/utf8.acceptRanges", laid_unicode_utf8_acceptRanges), ("e2e/api.ErrKind", laid_e2e_api_ErrKind), ("e2e/api.ErrStray", laid_e2e_api_ErrStray), ("e2e/api.ErrShallow", laid_e2e_api_ErrShallow), ("e2e/api.ErrField", laid_e2e_api_ErrField), ("e2e/api.ErrOptions", laid_e2e_api_ErrOptions), ("e2e/api.ErrLength", laid_e2e_api_ErrLength), ("e2e/api.ErrProto", laid_e2e_api_ErrProto), ("e2e/api.ErrICMPType", laid_e2e_api_ErrICMPType), ("e2e/api.ErrFragment", laid_e2e_api_ErrFragment), ("e2e/api.ErrQuoteSize", laid_e2e_api_ErrQuoteSize), ("unicode/utf8.first", laid_unicode_utf8_first)] }
def IncrementalEqualsFullSaid : Prop := incrementalEqualsFullRow.holds Tryd.pinned (OpenSpec.ofChange incrementalEqualsFullSpec)

/-- ITS FALSE NEIGHBOUR: 'it returns false'. Refute it at one input. -/
def incrementalEqualsFullWrong : ChangeSpec := { name := "incrementalEqualsFull", fn := fun _ => fun
  | [d] => { results := [.lit (.bool false)], args := [d] }
  | _ => none }
def IncrementalEqualsFullWrongFalsely : Prop := incrementalEqualsFullRow.holds Tryd.pinned (OpenSpec.ofChange incrementalEqualsFullWrong)

/-- 'wirelaw.IncrementalKeepsVerdict': WHATEVER THE INPUT: true; the input reads as it did. -/
def incrementalKeepsVerdictSpec : ChangeSpec := { name := "incrementalKeepsVerdict", fn := fun _ => fun
  | [d] => { results := [.lit (.bool true)], args := [d] }
  | _ => none }
def incrementalKeepsVerdictRow : OpenClaim := { program := "qxb6500841adoor", sum := "2001a3dab45d1335be99b0873baf24f524deeed0c38c43bd5e8af6382c6eb13a", func := "e2e/wirelaw.IncrementalKeepsVerdict", spec := "incrementalKeepsVerdict", unfollowed := true, recurses := true, named := ["e2e/api.ErrLength", "e2e/api.ErrKind", "e2e/api.ErrStray", "e2e/api.ErrShallow", "e2e/api.ErrProto", "e2e/api.ErrField", "e2e/api.ErrOptions", "e2e/api.ErrFragment", "e2e/api.ErrICMPType", "e2e/api.ErrQuoteSize", "encoding/binary.BigEndian", "unicode/utf8.first", "unicode/utf8.acceptRanges"], apart := false, laid := [("unicode/utf8.acceptRanges", laid_unicode_utf8_acceptRanges), ("e2e/api.ErrKind", laid_e2e_api_ErrKind), ("e2e/api.ErrStray", laid_e2e_api_ErrStray), ("e2e/api.ErrShallow", laid_e2e_api_ErrShallow), ("e2e/api.ErrField", laid_e2e_api_ErrField), ("e2e/api.ErrOptions", laid_e2e_api_ErrOptions), ("e2e/api.ErrLength", laid_e2e_api_ErrLength), ("e2e/api.ErrProto", laid_e2e_api_ErrProto), ("e2e/api.ErrICMPType", laid_e2e_api_ErrICMPType), ("e2e/api.ErrFragment", laid_e2e_api_ErrFragment), ("e2e/api.ErrQuoteSize", laid_e2e_api_ErrQuoteSize), ("unicode/utf8.first", laid_unicode_utf8_first)] }
def IncrementalKeepsVerdictSaid : Prop := incrementalKeepsVerdictRow.holds Tryd.pinned (OpenSpec.ofChange incrementalKeepsVerdictSpec)

/-- ITS FALSE NEIGHBOUR: 'it returns false'. Refute it at one input. -/
def incrementalKeepsVerdictWrong : ChangeSpec := { name := "incrementalKeepsVerdict", fn := fun _ => fun
  | [d] => { results := [.lit (.bool false)], args := [d] }
  | _ => none }
def IncrementalKeepsVerdictWrongFalsely : Prop := incrementalKeepsVerdictRow.holds Tryd.pinned (OpenSpec.ofChange incrementalKeepsVerdictWrong)

end Rows
end Go.Proofs.Qxb6500841aDoor
