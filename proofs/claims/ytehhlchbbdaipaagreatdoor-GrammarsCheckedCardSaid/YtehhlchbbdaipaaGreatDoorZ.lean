/- GrammarsChecked: Check, Lefts, Nullable, Barren, Unreached and Loops of the program answer as the reference's for every grammar that a list of numbers draws; conditions: those of the card. -/
import Derived.Test.YtehhlchbbdaipaaGreatDoorQ
import Derived.Test.YtehhlchbbdaipaaGreatDoorY
import Derived.Test.YtehhlchbbdaipaaGreatDoorW9
section
namespace Go.Am
open Go Go.Proofs
theorem sound : Qd1 G := ⟨fol, fun f fn h => Qpg h, fun f g h => Qwb h⟩
theorem gives : Qhs 3 := fun v zs h => by
 have hv : Q0s v zs := by
  rcases h with ⟨rfl, rfl⟩ | ⟨t, rfl⟩
  ·exact ⟨⟨.inl ⟨rfl, rfl⟩⟩⟩
  ·exact ⟨⟨.inr ⟨t, rfl⟩⟩⟩
 exact Quj hv
end Go.Am
namespace Go.Proofs.YtehhlchbbdaipaaGreatDoor
open Go Go.Proofs
theorem grammarsChecked_holds : Rows.GrammarsCheckedCardSaid := Go.Am.grammarsChecked_card Go.Am.sound Go.Am.gives
end Go.Proofs.YtehhlchbbdaipaaGreatDoor
#print axioms Go.Proofs.YtehhlchbbdaipaaGreatDoor.grammarsChecked_holds
end
