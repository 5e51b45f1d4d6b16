import Derived.Conc.HoldsTime
import Derived.KernelRfl
import Derived.Test.YtkndbcflmgogjaaGreatRows
set_option maxHeartbeats 16000000
set_option maxRecDepth 20000
set_option linter.unusedSectionVars false
set_option linter.unusedSimpArgs false
set_option linter.unusedVariables false
namespace Go.TL
open Go.Proofs.Tryz
open Go.Proofs
theorem ks:(laidOutB prog)=true:=by kernel_rfl
theorem kr:(mapsRowed prog)=true:=by kernel_rfl
theorem kq:((prog.stops==[]))=true:=by kernel_rfl
theorem kp:((prog.stopKnobs==[]))=true:=by kernel_rfl
theorem ko:(prog.stopsHeard)=true:=by kernel_rfl
theorem kn:(prog.mayEnter)=true:=by kernel_rfl
end Go.TL
