/- A part of an abstract machine, its walks, their tie. -/
import Derived.Test.YteglhhgmfnbalaaGreatDoorK12
import Derived.Test.YteglhhgmfnbalaaGreatDoorK13
import Derived.Test.YteglhhgmfnbalaaGreatDoorK14
import Derived.Test.YteglhhgmfnbalaaGreatDoorK15
import Derived.Test.YteglhhgmfnbalaaGreatDoorK16
set_option linter.all false
