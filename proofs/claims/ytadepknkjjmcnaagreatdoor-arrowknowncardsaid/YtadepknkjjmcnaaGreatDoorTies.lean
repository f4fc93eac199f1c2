import Derived.Test.YtadepknkjjmcnaaGreatDoorRows
import Derived.LaidByTextLater
import Derived.SevenTiedAt
/- Part of the proof. -/
namespace Go.Proofs.YtadepknkjjmcnaaGreatDoor
open Go
abbrev laidL : List (String × DataW Unit) := [("unicode/utf8.acceptRanges", Rows.laid_unicode_utf8_acceptRanges), ("internal/strconv.uint64pow10", Rows.laid_internal_strconv_uint64pow10), ("math/bits.deBruijn32tab", Rows.laid_math_bits_deBruijn32tab), ("math/bits.deBruijn64tab", Rows.laid_math_bits_deBruijn64tab), ("errors.errorType", Rows.laid_errors_errorType)]
theorem tdone (os : Os) (tape : Tape) : varsDone Tryz.prog 400 (varsId Tryz.prog) os tape = true := by kernel_rfl
theorem trun1 (os : Os) (tape : Tape) : (DataW.laidRun Tryz.prog (varsWorld Tryz.prog 400 (varsId Tryz.prog) os tape).memory 8 ((laidL.filter fun x => x.2.handleName?.isNone).map (·.1))).map (·.1) = some (laidL.filter fun x => x.2.handleName?.isNone) := by kernel_rfl
theorem trun2 (os : Os) (tape : Tape) : (DataW.laidRun Tryz.prog (varsWorld Tryz.prog 400 (varsId Tryz.prog) os tape).memory 8 ((laidL.filter fun x => x.2.handleName?.isNone).map (·.1))).map (fun x => decide x.2.Nodup && laidRowsB Tryz.prog (varsWorld Tryz.prog 400 (varsId Tryz.prog) os tape).memory x.2) = some true := by kernel_rfl
theorem trun3 (os : Os) (tape : Tape) : (laidL.filter fun x => x.2.handleName?.isSome).all (handleAtB Tryz.prog (varsWorld Tryz.prog 400 (varsId Tryz.prog) os tape).memory) = true := by kernel_rfl
theorem tnamed : varsNamedLaterB Tryz.prog (varsId Tryz.prog) laidL = true := by kernel_rfl
theorem tworded : Tryz.prog.worded (varsWordLater true) = true ∧ Tryz.prog.worded (varsWordLater !true) = false ∧ Tryz.prog.worded rootWordLater = true := ⟨by kernel_rfl, by kernel_rfl, by kernel_rfl⟩
theorem tkinds : laidL.map (fun x => Tryz.prog.kindOfLater x.1) = [LaidKind.data, .data, .data, .data, .handle].map some := by kernel_rfl
theorem tfn : (Tryz.prog.funcNamed "gosem.cut.vars").isSome = true := by kernel_rfl
theorem tie : Tryz.prog.laidByTextLater laidL [.data, .data, .data, .data, .handle] true :=
  Program.laidByTextLater_by_run_h 400 8 tworded.1 tworded.2.1 tworded.2.2 tkinds tfn tnamed tdone trun1 trun2 trun3
theorem pin_laid_unicode_utf8_first : Tryz.pinned.checked.prog.pinnedFits "unicode/utf8.first" = true := by kernel_rfl
theorem noOwnUnsafe : Tryz.pinned.checked.prog.headLifts.contains "ownunsafe" = false := by kernel_rfl
theorem fits1 : Tryz.pinned.checked.prog.listedFits (("unicode/utf8.first", Rows.laid_unicode_utf8_first) :: laidL) = true := by
  unfold Program.listedFits
  rw [noOwnUnsafe]
  kernel_rfl
theorem arrowKnown_row_tie : Rows.arrowKnownRow.laidByTextAt .later Tryz.pinned [.pinned, .data, .data, .data, .data, .handle] true :=
  OpenClaim.laidByTextAt_pinned rfl rfl tie rfl rfl rfl rfl (fun y hy _e => by
    simp only [Rows.arrowKnownRow, List.zip_cons_cons, List.zip_nil_right, List.mem_cons, List.mem_nil_iff, or_false] at hy
    rcases hy with rfl | rfl | rfl | rfl | rfl | rfl
    · exact ⟨pin_laid_unicode_utf8_first, by kernel_rfl⟩
    · cases _e
    · cases _e
    · cases _e
    · cases _e
    · cases _e) fits1
end Go.Proofs.YtadepknkjjmcnaaGreatDoor
