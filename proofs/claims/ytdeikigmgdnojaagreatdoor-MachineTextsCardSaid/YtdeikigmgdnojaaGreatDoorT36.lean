import Derived.Test.YtdeikigmgdnojaaGreatDoorT34
import Derived.Test.YtdeikigmgdnojaaGreatDoorT09
import Derived.Test.YtdeikigmgdnojaaGreatDoorT31
import Derived.Test.YtdeikigmgdnojaaGreatDoorT30
import Derived.Test.YtdeikigmgdnojaaGreatDoorT32
/- A part of the proof of one law. -/
set_option maxRecDepth 100000
set_option maxHeartbeats 8000000
set_option linter.unusedVariables false
set_option linter.unusedSimpArgs false
namespace Go.Ab
open Go
theorem aA2 {P:Program} {e:aW} {σ:aA} {n:Nat} {src t:TypeId} {x:Operand} {kd kd':IntKind} {m:Int} (hs:(P.underlying src).isSome=true) (ht:P.underlying t=some (.int kd)) (hx:e.ev x=some (.d (.sc (.int kd' m)))):Ev P (.convert src t x) e σ n (.d (.sc (.int kd (kd.wrap m)))) σ :=
 eY rfl (by simp only [aK,hs,ht,hx,if_true])
theorem aBi {P:Program} {nt:Nat} {e:aW} {σ:aA} {ops:Array Oper} {dst:Option Nat} {ty:TypeId} {pos:String} {after:Array Edge} {rest:List Oper} {K:aW→aA→Prop} {s t:TypeId} {x:Operand} (k:WS P nt ops (⟨dst,.convert s t x,ty,pos,after,none⟩::rest) e σ K):WS P nt ops (⟨dst,.convert s t x,ty,pos,after,none⟩::rest) e σ K:=k
section
variable {c:List Fc} {t:Fm} {r ts:List Fm} {u:Tn}
end
section
variable {P:Program} {X:Nat→Prop} {ι:bZ} {σ:aA} {w:World}
variable {nt:Nat} {Q:Exit→aW→aA→Prop} {e:aW}
end
end Go.Ab
namespace Go.Ab
open Go Go.Ab.Tryz Go.Proofs
end Go.Ab
