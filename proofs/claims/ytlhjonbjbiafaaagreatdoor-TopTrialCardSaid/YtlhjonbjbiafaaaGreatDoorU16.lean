/- A part of an abstract machine, its walks, their tie. -/
import Derived.Test.YtlhjonbjbiafaaaGreatDoorU11
import Derived.Test.YtlhjonbjbiafaaaGreatDoorU12
import Derived.Test.YtlhjonbjbiafaaaGreatDoorU13
import Derived.Test.YtlhjonbjbiafaaaGreatDoorU14
import Derived.Test.YtlhjonbjbiafaaaGreatDoorU15
set_option linter.all false
