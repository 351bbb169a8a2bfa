/-
  DERIVED. GIVEN WITH THE SEED: THE PROGRAM's TIES (one call each: nine closed facts by the kernel) AND EACH ROW's TIE, after the 31st guide's Derived/Test/Toyas{Tie, Card}.lean. No idea stands in it: it is a product of the set-up. Laid BY PROGRAM, IN A SANDBOX (cutbox-door.mjs). By AI agents, Wed Nov 11 2026. No macro, syntax, notation, axiom, sorry.
-/
import Derived.Test.YtggpepeiedkbbaaGreatDoorRows
import Derived.LaidByTextLater
import Derived.SevenTiedAt
import Derived.LaidSub
import Derived.LaidOnce
namespace Go.Proofs.YtggpepeiedkbbaaGreatDoor
open Go
set_option maxRecDepth 100000
theorem seatTie1 : Tryz.prog.laidByTextLater [("math/bits.deBruijn32tab", Rows.laid_math_bits_deBruijn32tab), ("math/bits.deBruijn64tab", Rows.laid_math_bits_deBruijn64tab), ("internal/strconv.uint64pow10", Rows.laid_internal_strconv_uint64pow10), ("ribband/offsets.mosts", Rows.laid_ribband_offsets_mosts), ("ribband/offsets.halves", Rows.laid_ribband_offsets_halves)] [.data, .data, .data, .data, .funcsDeep] true :=
  Program.laidByTextLater_by_one 36 8 65 (by kernel_rfl) (by kernel_rfl) (by kernel_rfl) (by kernel_rfl) (by kernel_rfl) (by kernel_rfl) (fun _ _ => by kernel_rfl)
theorem noOwnUnsafe : Tryz.pinned.checked.prog.headLifts.contains "ownunsafe" = false := by kernel_rfl
theorem tie : Tryz.prog.laidByTextLater [("math/bits.deBruijn32tab", Rows.laid_math_bits_deBruijn32tab), ("math/bits.deBruijn64tab", Rows.laid_math_bits_deBruijn64tab), ("internal/strconv.uint64pow10", Rows.laid_internal_strconv_uint64pow10), ("ribband/offsets.mosts", Rows.laid_ribband_offsets_mosts), ("ribband/offsets.halves", Rows.laid_ribband_offsets_halves)] [.data, .data, .data, .data, .funcsDeep] true :=
  Program.laidByTextLater.sub seatTie1 ["math/bits.deBruijn32tab", "math/bits.deBruijn64tab", "internal/strconv.uint64pow10", "ribband/offsets.mosts", "ribband/offsets.halves"] (by kernel_rfl) (by kernel_rfl)
theorem offsetsBetween_row_tie : Rows.offsetsBetweenRow.laidByTextAt .later Tryz.pinned [.data, .data, .data, .data, .funcsDeep] true :=
  OpenClaim.laidByTextAt_later rfl rfl tie noOwnUnsafe
theorem offsetsSplit_row_tie : Rows.offsetsSplitRow.laidByTextAt .later Tryz.pinned [.data, .data, .data, .data, .funcsDeep] true :=
  OpenClaim.laidByTextAt_later rfl rfl tie noOwnUnsafe
theorem offsetsRising_row_tie : Rows.offsetsRisingRow.laidByTextAt .later Tryz.pinned [.data, .data, .data, .data, .funcsDeep] true :=
  OpenClaim.laidByTextAt_later rfl rfl tie noOwnUnsafe
theorem offsetsTurned_row_tie : Rows.offsetsTurnedRow.laidByTextAt .later Tryz.pinned [.data, .data, .data, .data, .funcsDeep] true :=
  OpenClaim.laidByTextAt_later rfl rfl tie noOwnUnsafe
theorem offsetsApart_row_tie : Rows.offsetsApartRow.laidByTextAt .later Tryz.pinned [.data, .data, .data, .data, .funcsDeep] true :=
  OpenClaim.laidByTextAt_later rfl rfl tie noOwnUnsafe
theorem offsetsFewest_row_tie : Rows.offsetsFewestRow.laidByTextAt .later Tryz.pinned [.data, .data, .data, .data, .funcsDeep] true :=
  OpenClaim.laidByTextAt_later rfl rfl tie noOwnUnsafe
theorem offsetsClashes_row_tie : Rows.offsetsClashesRow.laidByTextAt .later Tryz.pinned [.data, .data, .data, .data, .funcsDeep] true :=
  OpenClaim.laidByTextAt_later rfl rfl tie noOwnUnsafe
theorem offsetsAsked_row_tie : Rows.offsetsAskedRow.laidByTextAt .later Tryz.pinned [.data, .data, .data, .data, .funcsDeep] true :=
  OpenClaim.laidByTextAt_later rfl rfl tie noOwnUnsafe
theorem offsetsRead_row_tie : Rows.offsetsReadRow.laidByTextAt .later Tryz.pinned [.data, .data, .data, .data, .funcsDeep] true :=
  OpenClaim.laidByTextAt_later rfl rfl tie noOwnUnsafe
theorem offsetsPut_row_tie : Rows.offsetsPutRow.laidByTextAt .later Tryz.pinned [.data, .data, .data, .data, .funcsDeep] true :=
  OpenClaim.laidByTextAt_later rfl rfl tie noOwnUnsafe
theorem offsetsRound_row_tie : Rows.offsetsRoundRow.laidByTextAt .later Tryz.pinned [.data, .data, .data, .data, .funcsDeep] true :=
  OpenClaim.laidByTextAt_later rfl rfl tie noOwnUnsafe
theorem offsetsFigures_row_tie : Rows.offsetsFiguresRow.laidByTextAt .later Tryz.pinned [.data, .data, .data, .data, .funcsDeep] true :=
  OpenClaim.laidByTextAt_later rfl rfl tie noOwnUnsafe
theorem offsetsNews_row_tie : Rows.offsetsNewsRow.laidByTextAt .later Tryz.pinned [.data, .data, .data, .data, .funcsDeep] true :=
  OpenClaim.laidByTextAt_later rfl rfl tie noOwnUnsafe
theorem offsetsDropped_row_tie : Rows.offsetsDroppedRow.laidByTextAt .later Tryz.pinned [.data, .data, .data, .data, .funcsDeep] true :=
  OpenClaim.laidByTextAt_later rfl rfl tie noOwnUnsafe
theorem offsetsBoats_row_tie : Rows.offsetsBoatsRow.laidByTextAt .later Tryz.pinned [.data, .data, .data, .data, .funcsDeep] true :=
  OpenClaim.laidByTextAt_later rfl rfl tie noOwnUnsafe
theorem offsetsReal_row_tie : Rows.offsetsRealRow.laidByTextAt .later Tryz.pinned [.data, .data, .data, .data, .funcsDeep] true :=
  OpenClaim.laidByTextAt_later rfl rfl tie noOwnUnsafe
theorem offsetsBetweenUpto_row_tie : Rows.offsetsBetweenUptoRow.laidByTextAt .later Tryz.pinned [.data, .data, .data, .data, .funcsDeep] true :=
  OpenClaim.laidByTextAt_later rfl rfl tie noOwnUnsafe
theorem offsetsSplitUpto_row_tie : Rows.offsetsSplitUptoRow.laidByTextAt .later Tryz.pinned [.data, .data, .data, .data, .funcsDeep] true :=
  OpenClaim.laidByTextAt_later rfl rfl tie noOwnUnsafe
theorem offsetsRisingUpto_row_tie : Rows.offsetsRisingUptoRow.laidByTextAt .later Tryz.pinned [.data, .data, .data, .data, .funcsDeep] true :=
  OpenClaim.laidByTextAt_later rfl rfl tie noOwnUnsafe
theorem offsetsTurnedUpto_row_tie : Rows.offsetsTurnedUptoRow.laidByTextAt .later Tryz.pinned [.data, .data, .data, .data, .funcsDeep] true :=
  OpenClaim.laidByTextAt_later rfl rfl tie noOwnUnsafe
theorem offsetsApartUpto_row_tie : Rows.offsetsApartUptoRow.laidByTextAt .later Tryz.pinned [.data, .data, .data, .data, .funcsDeep] true :=
  OpenClaim.laidByTextAt_later rfl rfl tie noOwnUnsafe
theorem offsetsFewestUpto_row_tie : Rows.offsetsFewestUptoRow.laidByTextAt .later Tryz.pinned [.data, .data, .data, .data, .funcsDeep] true :=
  OpenClaim.laidByTextAt_later rfl rfl tie noOwnUnsafe
theorem offsetsClashesUpto_row_tie : Rows.offsetsClashesUptoRow.laidByTextAt .later Tryz.pinned [.data, .data, .data, .data, .funcsDeep] true :=
  OpenClaim.laidByTextAt_later rfl rfl tie noOwnUnsafe
theorem offsetsAskedUpto_row_tie : Rows.offsetsAskedUptoRow.laidByTextAt .later Tryz.pinned [.data, .data, .data, .data, .funcsDeep] true :=
  OpenClaim.laidByTextAt_later rfl rfl tie noOwnUnsafe
theorem offsetsReadUpto_row_tie : Rows.offsetsReadUptoRow.laidByTextAt .later Tryz.pinned [.data, .data, .data, .data, .funcsDeep] true :=
  OpenClaim.laidByTextAt_later rfl rfl tie noOwnUnsafe
theorem offsetsPutUpto_row_tie : Rows.offsetsPutUptoRow.laidByTextAt .later Tryz.pinned [.data, .data, .data, .data, .funcsDeep] true :=
  OpenClaim.laidByTextAt_later rfl rfl tie noOwnUnsafe
theorem offsetsRoundUpto_row_tie : Rows.offsetsRoundUptoRow.laidByTextAt .later Tryz.pinned [.data, .data, .data, .data, .funcsDeep] true :=
  OpenClaim.laidByTextAt_later rfl rfl tie noOwnUnsafe
theorem offsetsFiguresUpto_row_tie : Rows.offsetsFiguresUptoRow.laidByTextAt .later Tryz.pinned [.data, .data, .data, .data, .funcsDeep] true :=
  OpenClaim.laidByTextAt_later rfl rfl tie noOwnUnsafe
theorem offsetsNewsUpto_row_tie : Rows.offsetsNewsUptoRow.laidByTextAt .later Tryz.pinned [.data, .data, .data, .data, .funcsDeep] true :=
  OpenClaim.laidByTextAt_later rfl rfl tie noOwnUnsafe
theorem offsetsDroppedUpto_row_tie : Rows.offsetsDroppedUptoRow.laidByTextAt .later Tryz.pinned [.data, .data, .data, .data, .funcsDeep] true :=
  OpenClaim.laidByTextAt_later rfl rfl tie noOwnUnsafe
theorem offsetsBoatsUpto_row_tie : Rows.offsetsBoatsUptoRow.laidByTextAt .later Tryz.pinned [.data, .data, .data, .data, .funcsDeep] true :=
  OpenClaim.laidByTextAt_later rfl rfl tie noOwnUnsafe
theorem offsetsRealUpto_row_tie : Rows.offsetsRealUptoRow.laidByTextAt .later Tryz.pinned [.data, .data, .data, .data, .funcsDeep] true :=
  OpenClaim.laidByTextAt_later rfl rfl tie noOwnUnsafe
end Go.Proofs.YtggpepeiedkbbaaGreatDoor
