/- A part of an abstract machine, its walks, their tie. -/
import Derived.Test.YtekghmfbgbhobaaGreatDoorS14
import Derived.Test.YtekghmfbgbhobaaGreatDoorS15
import Derived.Test.YtekghmfbgbhobaaGreatDoorS16
import Derived.Test.YtekghmfbgbhobaaGreatDoorS17
import Derived.Test.YtekghmfbgbhobaaGreatDoorS18
import Derived.Test.YtekghmfbgbhobaaGreatDoorS19
import Derived.Test.YtekghmfbgbhobaaGreatDoorS20
import Derived.Test.YtekghmfbgbhobaaGreatDoorS21
set_option linter.all false
