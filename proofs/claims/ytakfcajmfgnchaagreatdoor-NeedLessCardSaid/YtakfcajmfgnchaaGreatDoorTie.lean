/-
  DERIVED. GIVEN WITH THE SEED: THE PROGRAM's TIES (one call each: nine closed facts by the kernel) AND EACH ROW's TIE, after the 31st guide's Derived/Test/Toyas{Tie, Card}.lean. No idea stands in it: it is a product of the set-up. Laid BY PROGRAM, IN A SANDBOX (cutbox-door.mjs). By AI agents, Wed Nov 11 2026. No macro, syntax, notation, axiom, sorry.
-/
import Derived.Test.YtakfcajmfgnchaaGreatDoorRows
import Derived.LaidByTextLater
import Derived.SevenTiedAt
import Derived.LaidSub
import Derived.LaidOnce
namespace Go.Proofs.YtakfcajmfgnchaaGreatDoor
open Go
set_option maxRecDepth 100000
theorem seatTie1 : Tryz.prog.laidByTextLater [("math/bits.deBruijn32tab", Rows.laid_math_bits_deBruijn32tab), ("math/bits.deBruijn64tab", Rows.laid_math_bits_deBruijn64tab), ("internal/strconv.uint64pow10", Rows.laid_internal_strconv_uint64pow10), ("mailroom/code.key", Rows.laid_mailroom_code_key), ("mailroom/tlsa.takes", Rows.laid_mailroom_tlsa_takes), ("mailroom/tlsa.makes", Rows.laid_mailroom_tlsa_makes)] [.data, .data, .data, .data, .funcs, .funcs] true :=
  Program.laidByTextLater_by_one 39 8 65 (by kernel_rfl) (by kernel_rfl) (by kernel_rfl) (by kernel_rfl) (by kernel_rfl) (by kernel_rfl) (fun _ _ => by kernel_rfl)
theorem noOwnUnsafe : Tryz.pinned.checked.prog.headLifts.contains "ownunsafe" = false := by kernel_rfl
theorem tie : Tryz.prog.laidByTextLater [("mailroom/code.key", Rows.laid_mailroom_code_key), ("mailroom/tlsa.takes", Rows.laid_mailroom_tlsa_takes), ("mailroom/tlsa.makes", Rows.laid_mailroom_tlsa_makes)] [.data, .funcs, .funcs] true :=
  Program.laidByTextLater.sub seatTie1 ["mailroom/code.key", "mailroom/tlsa.takes", "mailroom/tlsa.makes"] (by kernel_rfl) (by kernel_rfl)
theorem needResult_row_tie : Rows.needResultRow.laidByTextAt .later Tryz.pinned [.data, .funcs, .funcs] true :=
  OpenClaim.laidByTextAt_later rfl rfl tie noOwnUnsafe
theorem needMore_row_tie : Rows.needMoreRow.laidByTextAt .later Tryz.pinned [.data, .funcs, .funcs] true :=
  OpenClaim.laidByTextAt_later rfl rfl tie noOwnUnsafe
theorem needKeys_row_tie : Rows.needKeysRow.laidByTextAt .later Tryz.pinned [.data, .funcs, .funcs] true :=
  OpenClaim.laidByTextAt_later rfl rfl tie noOwnUnsafe
theorem needLess_row_tie : Rows.needLessRow.laidByTextAt .later Tryz.pinned [.data, .funcs, .funcs] true :=
  OpenClaim.laidByTextAt_later rfl rfl tie noOwnUnsafe
theorem needPlain_row_tie : Rows.needPlainRow.laidByTextAt .later Tryz.pinned [.data, .funcs, .funcs] true :=
  OpenClaim.laidByTextAt_later rfl rfl tie noOwnUnsafe
theorem tie2 : Tryz.prog.laidByTextLater [("math/bits.deBruijn32tab", Rows.laid_math_bits_deBruijn32tab), ("math/bits.deBruijn64tab", Rows.laid_math_bits_deBruijn64tab), ("internal/strconv.uint64pow10", Rows.laid_internal_strconv_uint64pow10), ("mailroom/code.key", Rows.laid_mailroom_code_key), ("mailroom/tlsa.takes", Rows.laid_mailroom_tlsa_takes), ("mailroom/tlsa.makes", Rows.laid_mailroom_tlsa_makes)] [.data, .data, .data, .data, .funcs, .funcs] true :=
  Program.laidByTextLater.sub seatTie1 ["math/bits.deBruijn32tab", "math/bits.deBruijn64tab", "internal/strconv.uint64pow10", "mailroom/code.key", "mailroom/tlsa.takes", "mailroom/tlsa.makes"] (by kernel_rfl) (by kernel_rfl)
theorem tlsaMore_row_tie : Rows.tlsaMoreRow.laidByTextAt .later Tryz.pinned [.data, .data, .data, .data, .funcs, .funcs] true :=
  OpenClaim.laidByTextAt_later rfl rfl tie2 noOwnUnsafe
theorem needResultUpto_row_tie : Rows.needResultUptoRow.laidByTextAt .later Tryz.pinned [.data, .funcs, .funcs] true :=
  OpenClaim.laidByTextAt_later rfl rfl tie noOwnUnsafe
theorem needMoreUpto_row_tie : Rows.needMoreUptoRow.laidByTextAt .later Tryz.pinned [.data, .funcs, .funcs] true :=
  OpenClaim.laidByTextAt_later rfl rfl tie noOwnUnsafe
theorem needKeysUpto_row_tie : Rows.needKeysUptoRow.laidByTextAt .later Tryz.pinned [.data, .funcs, .funcs] true :=
  OpenClaim.laidByTextAt_later rfl rfl tie noOwnUnsafe
theorem needLessUpto_row_tie : Rows.needLessUptoRow.laidByTextAt .later Tryz.pinned [.data, .funcs, .funcs] true :=
  OpenClaim.laidByTextAt_later rfl rfl tie noOwnUnsafe
theorem needPlainUpto_row_tie : Rows.needPlainUptoRow.laidByTextAt .later Tryz.pinned [.data, .funcs, .funcs] true :=
  OpenClaim.laidByTextAt_later rfl rfl tie noOwnUnsafe
theorem tlsaMoreUpto_row_tie : Rows.tlsaMoreUptoRow.laidByTextAt .later Tryz.pinned [.data, .data, .data, .data, .funcs, .funcs] true :=
  OpenClaim.laidByTextAt_later rfl rfl tie2 noOwnUnsafe
end Go.Proofs.YtakfcajmfgnchaaGreatDoor
