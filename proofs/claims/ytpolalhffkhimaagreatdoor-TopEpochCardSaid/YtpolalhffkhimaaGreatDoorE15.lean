/- A part of an abstract machine, its walks, their tie. -/
import Derived.Test.YtpolalhffkhimaaGreatDoorE9
set_option linter.all false
