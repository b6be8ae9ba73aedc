/- A part of an abstract machine, its walks, their tie. -/
import Derived.Test.YtekghmfbgbhobaaGreatDoorD11
import Derived.Test.YtekghmfbgbhobaaGreatDoorD12
import Derived.Test.YtekghmfbgbhobaaGreatDoorD13
import Derived.Test.YtekghmfbgbhobaaGreatDoorD14
import Derived.Test.YtekghmfbgbhobaaGreatDoorD15
set_option linter.all false
