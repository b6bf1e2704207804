/- The machine's side of FnStats, written by wip/tools/hyb.py of this repo: each Go function as a plain Lean function, and the proof that the call comes to just its answer. No condition. -/
import Derived.Test.YtnlgodcbnlbdkaaPFnStatsx0
import Derived.Test.YtnlgodcbnlbdkaaPFnStatsx1
import Derived.Test.YtnlgodcbnlbdkaaPFnStatsx2
import Derived.Test.YtnlgodcbnlbdkaaPFnStatsx3
import Derived.Test.YtnlgodcbnlbdkaaPFnStatsx4
import Derived.Test.YtnlgodcbnlbdkaaPFnStatsx5
import Derived.Test.YtnlgodcbnlbdkaaPFnStatsx6
import Derived.Test.YtnlgodcbnlbdkaaPFnStatsx7
import Derived.Test.YtnlgodcbnlbdkaaPFnStatsx8
import Derived.Test.YtnlgodcbnlbdkaaPFnStatsx9
import Derived.Test.YtnlgodcbnlbdkaaPFnStatsx10
import Derived.Test.YtnlgodcbnlbdkaaPFnStatsx11
import Derived.Test.YtnlgodcbnlbdkaaPFnStatsx12
import Derived.Test.YtnlgodcbnlbdkaaPFnStatsx13
import Derived.Test.YtnlgodcbnlbdkaaPFnStatsx14
import Derived.Test.YtnlgodcbnlbdkaaPFnStatsx15
import Derived.Test.YtnlgodcbnlbdkaaPFnStatsx16
import Derived.Test.YtnlgodcbnlbdkaaPFnStatsx17
import Derived.Test.YtnlgodcbnlbdkaaPFnStatsx18
import Derived.Test.YtnlgodcbnlbdkaaPFnStatsx19
import Derived.Test.YtnlgodcbnlbdkaaPFnStatsx20
namespace Go.Proofs.Ytnlgodcbnlbdkaa.PFnStats
open Go.RowKit Go.Proofs.YtnlgodcbnlbdkaaW.PrintWords Go.Proofs.YtnlgodcbnlbdkaaW.PrintLast Go.Proofs.YtnlgodcbnlbdkaaW.PrintMore Go.Proofs.YtnlgodcbnlbdkaaW.PrintMore2
attribute [local go_sem] max2_int min2_int max_two min_two max_three min_three max_four min_four   -- for this text's walks alone
set_option linter.unusedVariables false
set_option linter.unusedSimpArgs false

end Go.Proofs.Ytnlgodcbnlbdkaa.PFnStats
