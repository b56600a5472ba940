/-
  DERIVED. GIVEN WITH THE SEED: THE PROGRAM's TIES (one call each: nine closed facts by the kernel) AND EACH ROW's TIE, after the 31st guide's Derived/Test/Toyas{Tie, Card}.lean. No idea stands in it: it is a product of the set-up. Laid BY PROGRAM, IN A SANDBOX (cutbox-door.mjs). By AI agents, Wed Nov 11 2026. No macro, syntax, notation, axiom, sorry.
-/
import Derived.Test.Qxb6500841aDoorRows
import Derived.LaidByTextLater
import Derived.SevenTiedAt
import Derived.LaidSub
import Derived.LaidOnce
namespace Go.Proofs.Qxb6500841aDoor
open Go
set_option maxRecDepth 100000
theorem seatTie1 : Tryd.prog.laidByTextLater [("unicode/utf8.acceptRanges", Rows.laid_unicode_utf8_acceptRanges), ("e2e/api.ErrShortEth", Rows.laid_e2e_api_ErrShortEth), ("e2e/api.ErrShortIPv4", Rows.laid_e2e_api_ErrShortIPv4), ("e2e/api.ErrIPVersion", Rows.laid_e2e_api_ErrIPVersion), ("e2e/api.ErrIPHeaderLen", Rows.laid_e2e_api_ErrIPHeaderLen), ("e2e/api.ErrIPTotalLen", Rows.laid_e2e_api_ErrIPTotalLen), ("e2e/api.ErrIPCut", Rows.laid_e2e_api_ErrIPCut), ("e2e/api.ErrShortTCP", Rows.laid_e2e_api_ErrShortTCP), ("e2e/api.ErrTCPOffset", Rows.laid_e2e_api_ErrTCPOffset), ("e2e/api.ErrShortICMP", Rows.laid_e2e_api_ErrShortICMP), ("e2e/api.ErrICMPQuote", Rows.laid_e2e_api_ErrICMPQuote), ("e2e/api.ErrKind", Rows.laid_e2e_api_ErrKind), ("e2e/api.ErrStray", Rows.laid_e2e_api_ErrStray), ("e2e/api.ErrShallow", Rows.laid_e2e_api_ErrShallow), ("e2e/api.ErrField", Rows.laid_e2e_api_ErrField), ("e2e/api.ErrOptions", Rows.laid_e2e_api_ErrOptions), ("e2e/api.ErrLength", Rows.laid_e2e_api_ErrLength), ("e2e/api.ErrProto", Rows.laid_e2e_api_ErrProto), ("e2e/api.ErrICMPType", Rows.laid_e2e_api_ErrICMPType), ("e2e/api.ErrFragment", Rows.laid_e2e_api_ErrFragment), ("e2e/api.ErrQuoteSize", Rows.laid_e2e_api_ErrQuoteSize)] [.data, .called, .called, .called, .called, .called, .called, .called, .called, .called, .called, .called, .called, .called, .called, .called, .called, .called, .called, .called, .called] true :=
  Program.laidByTextLater_by_one 399 8 33 (by kernel_rfl) (by kernel_rfl) (by kernel_rfl) (by kernel_rfl) (by kernel_rfl) (by kernel_rfl) (fun _ _ => by kernel_rfl)
theorem pin_laid_unicode_utf8_first : Tryd.pinned.checked.prog.pinnedFits "unicode/utf8.first" = true := by kernel_rfl
theorem noOwnUnsafe : Tryd.pinned.checked.prog.headLifts.contains "ownunsafe" = false := by kernel_rfl
theorem tie : Tryd.prog.laidByTextLater [("e2e/api.ErrShortEth", Rows.laid_e2e_api_ErrShortEth), ("e2e/api.ErrShortIPv4", Rows.laid_e2e_api_ErrShortIPv4), ("e2e/api.ErrIPVersion", Rows.laid_e2e_api_ErrIPVersion), ("e2e/api.ErrIPHeaderLen", Rows.laid_e2e_api_ErrIPHeaderLen), ("e2e/api.ErrIPTotalLen", Rows.laid_e2e_api_ErrIPTotalLen), ("e2e/api.ErrIPCut", Rows.laid_e2e_api_ErrIPCut), ("e2e/api.ErrShortTCP", Rows.laid_e2e_api_ErrShortTCP), ("e2e/api.ErrTCPOffset", Rows.laid_e2e_api_ErrTCPOffset), ("e2e/api.ErrShortICMP", Rows.laid_e2e_api_ErrShortICMP), ("e2e/api.ErrICMPQuote", Rows.laid_e2e_api_ErrICMPQuote), ("e2e/api.ErrKind", Rows.laid_e2e_api_ErrKind), ("e2e/api.ErrStray", Rows.laid_e2e_api_ErrStray), ("e2e/api.ErrShallow", Rows.laid_e2e_api_ErrShallow), ("e2e/api.ErrField", Rows.laid_e2e_api_ErrField), ("e2e/api.ErrOptions", Rows.laid_e2e_api_ErrOptions), ("e2e/api.ErrLength", Rows.laid_e2e_api_ErrLength), ("e2e/api.ErrProto", Rows.laid_e2e_api_ErrProto), ("e2e/api.ErrICMPType", Rows.laid_e2e_api_ErrICMPType), ("e2e/api.ErrFragment", Rows.laid_e2e_api_ErrFragment), ("e2e/api.ErrQuoteSize", Rows.laid_e2e_api_ErrQuoteSize)] [.called, .called, .called, .called, .called, .called, .called, .called, .called, .called, .called, .called, .called, .called, .called, .called, .called, .called, .called, .called] true :=
  Program.laidByTextLater.sub seatTie1 ["e2e/api.ErrShortEth", "e2e/api.ErrShortIPv4", "e2e/api.ErrIPVersion", "e2e/api.ErrIPHeaderLen", "e2e/api.ErrIPTotalLen", "e2e/api.ErrIPCut", "e2e/api.ErrShortTCP", "e2e/api.ErrTCPOffset", "e2e/api.ErrShortICMP", "e2e/api.ErrICMPQuote", "e2e/api.ErrKind", "e2e/api.ErrStray", "e2e/api.ErrShallow", "e2e/api.ErrField", "e2e/api.ErrOptions", "e2e/api.ErrLength", "e2e/api.ErrProto", "e2e/api.ErrICMPType", "e2e/api.ErrFragment", "e2e/api.ErrQuoteSize"] (by kernel_rfl) (by kernel_rfl)
theorem serialiseInvertsParse_row_tie : Rows.serialiseInvertsParseRow.laidByTextAt .later Tryd.pinned [.called, .called, .called, .called, .called, .called, .called, .called, .called, .called, .called, .called, .called, .called, .called, .called, .called, .called, .called, .called] true :=
  OpenClaim.laidByTextAt_later rfl rfl tie noOwnUnsafe
theorem checksumIsOnesComplementSum_row_tie : Rows.checksumIsOnesComplementSumRow.laidByTextAt .later Tryd.pinned [.called, .called, .called, .called, .called, .called, .called, .called, .called, .called, .called, .called, .called, .called, .called, .called, .called, .called, .called, .called] true :=
  OpenClaim.laidByTextAt_later rfl rfl tie noOwnUnsafe
theorem fits2 : Tryd.pinned.checked.prog.listedFits [("unicode/utf8.acceptRanges", Rows.laid_unicode_utf8_acceptRanges), ("e2e/api.ErrKind", Rows.laid_e2e_api_ErrKind), ("e2e/api.ErrStray", Rows.laid_e2e_api_ErrStray), ("e2e/api.ErrShallow", Rows.laid_e2e_api_ErrShallow), ("e2e/api.ErrField", Rows.laid_e2e_api_ErrField), ("e2e/api.ErrOptions", Rows.laid_e2e_api_ErrOptions), ("e2e/api.ErrLength", Rows.laid_e2e_api_ErrLength), ("e2e/api.ErrProto", Rows.laid_e2e_api_ErrProto), ("e2e/api.ErrICMPType", Rows.laid_e2e_api_ErrICMPType), ("e2e/api.ErrFragment", Rows.laid_e2e_api_ErrFragment), ("e2e/api.ErrQuoteSize", Rows.laid_e2e_api_ErrQuoteSize), ("unicode/utf8.first", Rows.laid_unicode_utf8_first)] = true := by
  unfold Program.listedFits
  rw [noOwnUnsafe]
  kernel_rfl
theorem tie2 : Tryd.prog.laidByTextLater [("unicode/utf8.acceptRanges", Rows.laid_unicode_utf8_acceptRanges), ("e2e/api.ErrKind", Rows.laid_e2e_api_ErrKind), ("e2e/api.ErrStray", Rows.laid_e2e_api_ErrStray), ("e2e/api.ErrShallow", Rows.laid_e2e_api_ErrShallow), ("e2e/api.ErrField", Rows.laid_e2e_api_ErrField), ("e2e/api.ErrOptions", Rows.laid_e2e_api_ErrOptions), ("e2e/api.ErrLength", Rows.laid_e2e_api_ErrLength), ("e2e/api.ErrProto", Rows.laid_e2e_api_ErrProto), ("e2e/api.ErrICMPType", Rows.laid_e2e_api_ErrICMPType), ("e2e/api.ErrFragment", Rows.laid_e2e_api_ErrFragment), ("e2e/api.ErrQuoteSize", Rows.laid_e2e_api_ErrQuoteSize)] [.data, .called, .called, .called, .called, .called, .called, .called, .called, .called, .called] true :=
  Program.laidByTextLater.sub seatTie1 ["unicode/utf8.acceptRanges", "e2e/api.ErrKind", "e2e/api.ErrStray", "e2e/api.ErrShallow", "e2e/api.ErrField", "e2e/api.ErrOptions", "e2e/api.ErrLength", "e2e/api.ErrProto", "e2e/api.ErrICMPType", "e2e/api.ErrFragment", "e2e/api.ErrQuoteSize"] (by kernel_rfl) (by kernel_rfl)
theorem incrementalEqualsFull_row_tie : Rows.incrementalEqualsFullRow.laidByTextAt .later Tryd.pinned [.data, .called, .called, .called, .called, .called, .called, .called, .called, .called, .called, .pinned] true :=
  OpenClaim.laidByTextAt_pinned rfl rfl tie2 rfl rfl rfl rfl (fun y hy _e => by
    simp only [Rows.incrementalEqualsFullRow, List.zip_cons_cons, List.zip_nil_right, List.mem_cons, List.mem_nil_iff, or_false] at hy
    rcases hy with rfl | rfl | rfl | rfl | rfl | rfl | rfl | rfl | rfl | rfl | rfl | rfl
    · cases _e
    · cases _e
    · cases _e
    · cases _e
    · cases _e
    · cases _e
    · cases _e
    · cases _e
    · cases _e
    · cases _e
    · cases _e
    · exact ⟨pin_laid_unicode_utf8_first, by kernel_rfl⟩) fits2
theorem incrementalKeepsVerdict_row_tie : Rows.incrementalKeepsVerdictRow.laidByTextAt .later Tryd.pinned [.data, .called, .called, .called, .called, .called, .called, .called, .called, .called, .called, .pinned] true :=
  OpenClaim.laidByTextAt_pinned rfl rfl tie2 rfl rfl rfl rfl (fun y hy _e => by
    simp only [Rows.incrementalKeepsVerdictRow, List.zip_cons_cons, List.zip_nil_right, List.mem_cons, List.mem_nil_iff, or_false] at hy
    rcases hy with rfl | rfl | rfl | rfl | rfl | rfl | rfl | rfl | rfl | rfl | rfl | rfl
    · cases _e
    · cases _e
    · cases _e
    · cases _e
    · cases _e
    · cases _e
    · cases _e
    · cases _e
    · cases _e
    · cases _e
    · cases _e
    · exact ⟨pin_laid_unicode_utf8_first, by kernel_rfl⟩) fits2
end Go.Proofs.Qxb6500841aDoor
