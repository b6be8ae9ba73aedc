/- A part of an abstract machine, its walks, their tie. -/
import Derived.Test.YtkffggdjdmimgaaGreatDoorA11
import Derived.Test.YtkffggdjdmimgaaGreatDoorA12
import Derived.Test.YtkffggdjdmimgaaGreatDoorA13
import Derived.Test.YtkffggdjdmimgaaGreatDoorA14
import Derived.Test.YtkffggdjdmimgaaGreatDoorA15
set_option linter.all false
