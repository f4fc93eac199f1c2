import Derived.Test.YtadepknkjjmcnaaGreatDoorRows
import Derived.ProofKit
/- The row names the variables that the code names. No premise. -/
namespace Go.Proofs.YtadepknkjjmcnaaGreatDoor
open Go
set_option maxRecDepth 100000
theorem fv1 : (((Tryz.prog.closure 3).take 300).flatMap fun g => ((Tryz.prog.funcs[g]?).bind (·.body)).elim [] Code.globalsNamed) = [5, 6, 2, 3, 4] := by kernel_rfl
theorem fv2 : (((Tryz.prog.closure 3).drop 300).flatMap fun g => ((Tryz.prog.funcs[g]?).bind (·.body)).elim [] Code.globalsNamed) = [1] := by kernel_rfl
theorem fv3 : ((Tryz.prog.closure 3).filterMap fun g => (Tryz.prog.funcs[g]?).bind fun fn => if fn.body.isNone then entryReads.lookup fn.name else none) = ["internal/bytealg.MaxLen"] := by kernel_rfl
theorem fv : ((Tryz.prog.closure 3).flatMap fun g => ((Tryz.prog.funcs[g]?).bind (·.body)).elim [] Code.globalsNamed) = [5, 6, 2, 3, 4, 1] := by
  rw [← List.take_append_drop 300 (Tryz.prog.closure 3), List.flatMap_append, fv1, fv2]; rfl
theorem fac4 : (Rows.arrowKnownRow.named == Tryz.prog.varsNamed 3) = true := by
  unfold Program.varsNamed
  rw [fv, fv3]
  kernel_rfl
end Go.Proofs.YtadepknkjjmcnaaGreatDoor
