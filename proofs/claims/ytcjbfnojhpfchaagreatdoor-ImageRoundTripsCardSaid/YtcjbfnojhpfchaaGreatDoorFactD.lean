/- Closed facts. -/
import Derived.Test.YtcjbfnojhpfchaaGreatDoorCards
import Derived.Test.YtcjbfnojhpfchaaGreatDoorTie
import Derived.Deep.DeepHandedRow
namespace Go.Proofs.YtcjbfnojhpfchaaGreatDoor.ImageRoundTrips
open Go.ChangeShapes
theorem noGoes{P:Program}(h:P.funcs.toList.any Func.goes=false)(f:FuncId):P.goes f=false:=by
  have h2:P.funcs.any Func.goes=false:=by rw[<-Array.any_toList];exact h
  unfold Program.goes
  rw[h2,Bool.and_false,Bool.or_false,List.any_eq_false]
  intro g _
  cases hg:P.funcs[g]? with
  |none=>simp
  |some fn=>simpa using List.any_eq_false.1 h fn (List.mem_of_getElem? (by rw[<-Array.getElem?_toList]at hg;exact hg))
theorem ng:Tryz.pinned.checked.prog.funcs.toList.any Func.goes=false:=by kernel_rfl
theorem j32:false=Rows.imageRoundTripsRow.goesBy Tryz.pinned.checked.prog:=by
  unfold OpenClaim.goesBy Program.goesAt Program.goesFrom
  have h:∀o:Option FuncId,o.any Tryz.pinned.checked.prog.goes=false:=λo=>by cases o<;>simp[noGoes ng]
  have h3:∀l:List FuncId,l.any Tryz.pinned.checked.prog.goes=false:=λl=>by simp[noGoes ng]
  rw[h,h3];split<;>rfl
end Go.Proofs.YtcjbfnojhpfchaaGreatDoor.ImageRoundTrips
