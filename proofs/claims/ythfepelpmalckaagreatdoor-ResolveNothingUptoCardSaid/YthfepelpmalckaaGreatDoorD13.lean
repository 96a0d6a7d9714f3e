import Derived.KernelRfl
import Derived.Test.YthfepelpmalckaaGreatDoorD12
set_option linter.all false
namespace Go.Proofs.YthfepelpmalckaaGreatDoor
open Go Go.Pv
theorem run40:okV (runV tab.ti fnsT 60 5 [] Tr.e 0)=true:=by kernel_rfl
theorem alive40:Pv.Fn Tryz.prog glF 5 [] (fun u=>u=.sb true):=fn_of_run (T:=tab) tabOK wf rfl (fun _=>rfl) fnsTOK run40
end Go.Proofs.YthfepelpmalckaaGreatDoor
