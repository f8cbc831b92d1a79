/- FilterTexts and FilterBack, both. -/
import Derived.Test.YtbgldbmgjcgepaaGreatDoorGa14
import Derived.Test.YtbgldbmgjcgepaaGreatDoorGa16
set_option linter.all false
namespace Go.Proofs.YtbgldbmgjcgepaaGreatDoor
theorem both_hold : Rows.FilterTextsCardSaid ∧ Rows.FilterBackCardSaid := ⟨texts_card_holds, back_card_holds⟩
end Go.Proofs.YtbgldbmgjcgepaaGreatDoor
