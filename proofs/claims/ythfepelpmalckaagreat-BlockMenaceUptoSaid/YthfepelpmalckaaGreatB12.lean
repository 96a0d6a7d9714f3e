import Derived.KernelRfl
import Derived.Test.YthfepelpmalckaaGreatB11
set_option linter.all false
namespace Go.Proofs.YthfepelpmalckaaGreat
open Go Go.Pv
theorem run46:okV (runV tab.ti fnsT 60 4 [] Tr.e 0)=true:=by kernel_rfl
theorem alive46:Pv.Fn Tryz.prog glF 4 [] (fun u=>u=.sb true):=fn_of_run (T:=tab) tabOK wf rfl (fun _=>rfl) fnsTOK run46
end Go.Proofs.YthfepelpmalckaaGreat
