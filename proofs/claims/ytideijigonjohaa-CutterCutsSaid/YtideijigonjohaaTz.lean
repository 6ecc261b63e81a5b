import Derived.Test.YtideijigonjohaaTy
set_option linter.unusedVariables false
namespace Go.Proofs.Ytideijigonjohaa
open Go Go.Lf Go.Proofs
theorem zv147 : (Try.prog.info? 147).bind (fun i => i.zero.map fun z => z.cells.toList) = some (Value.cells (Value.slice none 0 0)).toList := by kernel_rfl
theorem eo147 : EO Try.prog 147 1 24 (Value.slice none 0 0) := ⟨by kernel_rfl, rfl, by decide⟩
theorem zv207 : (Try.prog.info? 207).bind (fun i => i.zero.map fun z => z.cells.toList) = some (Value.cells (Value.agg #[Value.slice none 0 0, Value.slice none 0 0])).toList := by kernel_rfl
theorem eo207 : EO Try.prog 207 2 48 (Value.agg #[Value.slice none 0 0, Value.slice none 0 0]) := ⟨by kernel_rfl, rfl, by decide⟩
end Go.Proofs.Ytideijigonjohaa
