/- grammarTexts: the program answers as the reference, for every list of numbers; conditions: those of the card. -/
import Derived.Test.YtehhlchbbdaipaaGreatDoorQ
import Derived.Test.YtehhlchbbdaipaaGreatDoorY
import Derived.Test.YtehhlchbbdaipaaGreatDoorT6
namespace Go.Am
open Go Go.Proofs
theorem sound:Sound G:=⟨mi,fun f fn h=>iV h,fun f g h=>kQ h⟩
theorem kR:Xi 5:=fun v zs h=>by
 have hv:Bv v zs:=by
  rcases h with⟨rfl,rfl⟩|⟨t,rfl⟩
  ·exact⟨⟨.inl ⟨rfl,rfl⟩⟩⟩
  ·exact⟨⟨.inr ⟨t,rfl⟩⟩⟩
 exact iR hv
end Go.Am
namespace Go.Proofs.YtehhlchbbdaipaaGreatDoor
open Go Go.Proofs
theorem grammarTexts_holds:Rows.GrammarTextsCardSaid:=Go.Am.NL Go.Am.sound Go.Am.kR
end Go.Proofs.YtehhlchbbdaipaaGreatDoor
#print axioms Go.Proofs.YtehhlchbbdaipaaGreatDoor.grammarTexts_holds
