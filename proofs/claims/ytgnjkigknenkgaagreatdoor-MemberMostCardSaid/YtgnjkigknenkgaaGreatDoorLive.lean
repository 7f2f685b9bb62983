/- The program's check of itself answers true; no condition. -/
import Derived.Test.YtgnjkigknenkgaaGreatDoorTable
import Derived.KernelRfl
section
/- A closed run: the program's own check of itself. -/
namespace Go.Ev.P
def isTrue : Option (AV × Heap × Nat) → Bool
  | some (.bool b, _, _) => b
  | _ => false
theorem live20 : isTrue (evCall T 10000 20 [] [] 0) = true := by kernel_rfl
end Go.Ev.P
end
