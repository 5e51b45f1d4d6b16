import Derived.Conc.HoldsTime
import Derived.KernelRfl
import Derived.Test.YtlabjopijpkiaaaGreatRows
set_option maxHeartbeats 16000000
set_option maxRecDepth 20000
set_option linter.unusedSectionVars false
set_option linter.unusedSimpArgs false
set_option linter.unusedVariables false
namespace Go.TL
open Go.Proofs.Tryz
open Go.Proofs
theorem ri:(laidOutB prog)=true:=by kernel_rfl
theorem rh:(mapsRowed prog)=true:=by kernel_rfl
theorem rf:((prog.stops==[]))=true:=by kernel_rfl
theorem re:((prog.stopKnobs==[]))=true:=by kernel_rfl
theorem rb:(prog.stopsHeard)=true:=by kernel_rfl
theorem ra:(prog.mayEnter)=true:=by kernel_rfl
end Go.TL
