import Derived.Test.YtlimicfffmacgaaGBy5
import Derived.Test.YtlimicfffmacgaaSlk
namespace Go.Proofs.Ytlimicfffmacgaa.NewI13
open Go Go.RowKit Go.Proofs.Ytlimicfffmacgaa.Slc Go.Proofs.Ytlimicfffmacgaa.Slk Go.Proofs.YtlimicfffmacgaaW.PrintWords Go.Proofs.Ytlimicfffmacgaa.GB
abbrev dS : Kd (List Int) := Kd.slice 3 (Kd.int .i64)
def Z : List (List Int) := List.replicate 4 (List.replicate 16 0)
theorem implNew (w : World) : Calls Try.prog 20 #[] w fun e w' => ∃ v, e = .returned (.agg #[v, .int .i64 0]) ∧ Kd.S dS 68 w' w.heap.size (fun _ => True) v Z ∧ Below w.heap.size w w' :=
  impl_NewSketch.calls 10 Z 0 w (by kernel_rfl)
end Go.Proofs.Ytlimicfffmacgaa.NewI13
