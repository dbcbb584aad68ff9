/- The parts of the proof that this law needs, in the order of their texts: the logic of walks, the plain laws, the walks. -/
import Derived.Test.YtndhhdoeopjecaaGreatDoorQT02
namespace Go.Proofs.YtndhhdoeopjecaaGreatDoor
set_option maxRecDepth 100000
theorem seat_main : Tryz.prog.mainIs = some ((true, "b332d728116609f5520001c20b9cde00f676bf43d119166f745cd25bcb26e50e").1, (true, "b332d728116609f5520001c20b9cde00f676bf43d119166f745cd25bcb26e50e").2.toList) := by kernel_rfl
theorem seat_looks : true = Tryz.prog.looks [] := by kernel_rfl
end Go.Proofs.YtndhhdoeopjecaaGreatDoor
