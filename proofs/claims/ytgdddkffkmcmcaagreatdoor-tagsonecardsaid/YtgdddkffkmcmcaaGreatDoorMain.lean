import Derived.Test.YtgdddkffkmcmcaaGreatDoorZBj
import Derived.Test.YtgdddkffkmcmcaaGreatDoorOk
import Derived.Test.YtgdddkffkmcmcaaGreatDoorRow
/- TagsOne answers true, whatever bytes and number it is given, and leaves all that there was as it was; its card, tied. Conditions: none beyond the row (the listed variables are as the card ties them). -/
set_option linter.all false
namespace Go.Proofs.YtgdddkffkmcmcaaGreatDoor
open Go.Eng
theorem Ql:Law:=fun hg hbv hk hR hv hB=>by
 obtain⟨r,s',he,rfl,h5⟩:=TR 0 hg hbv hk
 refine(ac6 (Y0 _) CV Tryz.func3 rfl he hR (.cons hv (.cons (.int _ _) .nil))).mono fun e w' ⟨u,ρ',he,hu,Dn,hS⟩=>?_
 cases hu
 exact⟨he,hB _ _ _ h5 Dn hS⟩
theorem tagsOne_proved:Rows.TagsOneCardSaid:=TV Ql
#print axioms tagsOne_proved
end Go.Proofs.YtgdddkffkmcmcaaGreatDoor
