/- A great list of zeros under a name that nothing unfolds. -/
import Derived.Test.YtddjlnoafakijaaQ0
namespace Go.Proofs.Ytddjlnoafakijaa.Q
@[irreducible] def zerosK (n : Nat) : List Int := List.replicate n 0
theorem zerosK_eq (n : Nat) : List.replicate n (0 : Int) = zerosK n := by unfold zerosK; rfl
theorem zerosK_length (n : Nat) : (zerosK n).length = n := by unfold zerosK; exact List.length_replicate ..
end Go.Proofs.Ytddjlnoafakijaa.Q
