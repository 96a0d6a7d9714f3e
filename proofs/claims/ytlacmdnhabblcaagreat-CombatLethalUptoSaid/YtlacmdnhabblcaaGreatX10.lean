import Derived.KernelRfl
import Derived.Test.YtlacmdnhabblcaaGreatX08
set_option linter.all false
namespace Go.Proofs.YtlacmdnhabblcaaGreat
open Go Go.Pv
theorem run47:okV (runV tab.ti fnsT 60 26 [] Tr.e 0)=true:=by kernel_rfl
theorem alive47:Pv.Fn Tryz.prog glF 26 [] (fun u=>u=.sb true):=fn_of_run (T:=tab) tabOK wf rfl (fun _=>rfl) fnsTOK run47
end Go.Proofs.YtlacmdnhabblcaaGreat
