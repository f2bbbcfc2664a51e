/- GrammarsComeBack: a grammar that is written is read as it was, and what is read is written so, for every list of numbers; conditions: those of the card. -/
import Derived.Test.YtmnlpahaihiegaaGreatDoorQ
import Derived.Test.YtmnlpahaihiegaaGreatDoorY
import Derived.Test.YtmnlpahaihiegaaGreatDoorT6
namespace Go.Am
open Go Go.Proofs
theorem sound:Sound G:=⟨pK,fun f fn h=>kF h,fun f g h=>mh h⟩
theorem mi:YT 3:=fun v zs h=>by
 have hv:CB v zs:=by
  rcases h with⟨rfl,rfl⟩|⟨t,rfl⟩
  ·exact⟨⟨.inl ⟨rfl,rfl⟩⟩⟩
  ·exact⟨⟨.inr ⟨t,rfl⟩⟩⟩
 exact fQ hv
end Go.Am
namespace Go.Proofs.YtmnlpahaihiegaaGreatDoor
open Go Go.Proofs
theorem grammarsComeBack_holds:Rows.GrammarsComeBackCardSaid:=Go.Am.LG Go.Am.sound Go.Am.mi
end Go.Proofs.YtmnlpahaihiegaaGreatDoor
#print axioms Go.Proofs.YtmnlpahaihiegaaGreatDoor.grammarsComeBack_holds
