/- A part of an abstract machine, its walks, their tie. -/
import Derived.Test.YtekghmfbgbhobaaGreatDoorD28
import Derived.Test.YtekghmfbgbhobaaGreatDoorD26
set_option linter.all false
section
set_option maxHeartbeats 64000000
set_option maxRecDepth 20000
namespace Go.Eng
variable (tab:Tab) (gl:Gl)
variable {vv:V} {oo:List Ob}
theorem zSv {s y:St}{e m:Int}(h:s.Ok)(on:s.on=true)(hm:m=0∨m=1)(hy:y=(qZ2 s m).1)(he:e=(qZ2 s m).2):e=0∧y.Ok∧s.up 0 y∧y.a.res=s.a.res∧y.a.rst=s.a.rst:=by
 have e0:(qZ2 s m).2=0:=by rcases hm with rfl | rfl<;>simp[qZ2,on]
 have g:=zSu h e0;have hr:(qZ2 s m).1.a.res=s.a.res∧(qZ2 s m).1.a.rst=s.a.rst:=by rcases hm with rfl | rfl<;>simp[qZ2,on,zXv,qAf]
 rw[he,hy];exact⟨e0,g.1,g.2,hr⟩
end Go.Eng
end
