/- beginningsTold: the program answers as the reference, for every list of numbers; conditions: those of the card. -/
import Derived.Test.YtehhlchbbdaipaaGreatDoorQ
import Derived.Test.YtehhlchbbdaipaaGreatDoorY
import Derived.Test.YtehhlchbbdaipaaGreatDoorB5
namespace Go.Am
open Go Go.Proofs
theorem sound:Sound G:=⟨wV,fun f fn h=>rD h,fun f g h=>uY h⟩
theorem uZ:dA 4:=fun v zs h=>by
 have hv:CZ v zs:=by
  rcases h with⟨rfl,rfl⟩|⟨t,rfl⟩
  ·exact⟨⟨.inl ⟨rfl,rfl⟩⟩⟩
  ·exact⟨⟨.inr ⟨t,rfl⟩⟩⟩
 exact qw hv
end Go.Am
namespace Go.Proofs.YtehhlchbbdaipaaGreatDoor
open Go Go.Proofs
theorem beginningsTold_holds:Rows.BeginningsToldCardSaid:=Go.Am.Ni Go.Am.sound Go.Am.uZ
end Go.Proofs.YtehhlchbbdaipaaGreatDoor
#print axioms Go.Proofs.YtehhlchbbdaipaaGreatDoor.beginningsTold_holds
