/- A part of an abstract machine, its walks, their tie. -/
import Derived.Test.YtpolalhffkhimaaGreatDoorE11
import Derived.Test.YtpolalhffkhimaaGreatDoorE12
import Derived.Test.YtpolalhffkhimaaGreatDoorE13
import Derived.Test.YtpolalhffkhimaaGreatDoorE14
import Derived.Test.YtpolalhffkhimaaGreatDoorE15
set_option linter.all false
