/- Functions of the program, and what they come to. -/
import Derived.Test.YtgmadfpnljibhaaGreatBlocksBentF22
namespace Go.Tf
open Go.Proofs
set_option synthInstance.maxHeartbeats 400000
set_option synthInstance.maxSize 10000
set_option linter.unusedVariables false
set_option linter.unusedSimpArgs false
set_option maxRecDepth 100000
section
end
section
end
section
end
section
end
section
end
section
theorem y58 {d:List dW} {a:dA} (s:Int) (data:List Int) (h:yl9 d a):yl9 d (yac a s data).2:=by
 have hc:yl9 d (yad a):=by
  unfold yad
  cases leb 4 (IntKind.i64.wrap (a.2.2.2.2.2.1 - a.2.2.2.2.2.2.1))
  ·exact h
  ·exact y57 h
 unfold yac
 have hr:=y64 ((yad a).2.2.2.2.2.1,s,data) hc
 generalize yam (yad a) ((yad a).2.2.2.2.2.1,s,data)=R at hr ⊢
 have hq:yl9 d (yE (yak R) s data):=y6C (a:=yak R) _ _ hr
 generalize yE (yak R) s data=Q at hq ⊢
 cases ye (yad a)
 ·cases ye R
  ·exact hq
  ·exact hr
 ·exact hc
end
end Go.Tf
