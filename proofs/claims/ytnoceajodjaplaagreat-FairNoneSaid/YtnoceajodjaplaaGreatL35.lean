import Derived.Test.YtnoceajodjaplaaGreatCrc
/- The closed part of the laws of layer 35 is true; no condition. -/
namespace Go.Tw.A
open Go Go.Tw Go.Proofs
theorem lives35 : call Alg.prop Tryz.prog true sp2 100000000 10 [] ⟨0, .nil⟩ (fun v _ => v = .bool true) = (AV.bool true = AV.bool true) := by kernel_rfl
end Go.Tw.A
