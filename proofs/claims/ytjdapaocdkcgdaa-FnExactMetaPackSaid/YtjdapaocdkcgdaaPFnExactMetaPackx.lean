/- The machine's side of FnExactMetaPack, written by wip/tools/hyb.py of this repo: each Go function as a plain Lean function, and the proof that the call comes to just its answer. No condition. -/
import Derived.Test.YtjdapaocdkcgdaaPFnExactMetaPackx0
import Derived.Test.YtjdapaocdkcgdaaPFnExactMetaPackx1
import Derived.Test.YtjdapaocdkcgdaaPFnExactMetaPackx2
import Derived.Test.YtjdapaocdkcgdaaPFnExactMetaPackx3
import Derived.Test.YtjdapaocdkcgdaaPFnExactMetaPackx4
import Derived.Test.YtjdapaocdkcgdaaPFnExactMetaPackx5
import Derived.Test.YtjdapaocdkcgdaaPFnExactMetaPackx6
import Derived.Test.YtjdapaocdkcgdaaPFnExactMetaPackx7
import Derived.Test.YtjdapaocdkcgdaaPFnExactMetaPackx8
import Derived.Test.YtjdapaocdkcgdaaPFnExactMetaPackx9
import Derived.Test.YtjdapaocdkcgdaaPFnExactMetaPackx10
import Derived.Test.YtjdapaocdkcgdaaPFnExactMetaPackx11
import Derived.Test.YtjdapaocdkcgdaaPFnExactMetaPackx12
import Derived.Test.YtjdapaocdkcgdaaPFnExactMetaPackx13
import Derived.Test.YtjdapaocdkcgdaaPFnExactMetaPackx14
import Derived.Test.YtjdapaocdkcgdaaPFnExactMetaPackx15
import Derived.Test.YtjdapaocdkcgdaaPFnExactMetaPackx16
import Derived.Test.YtjdapaocdkcgdaaPFnExactMetaPackx17
import Derived.Test.YtjdapaocdkcgdaaPFnExactMetaPackx18
import Derived.Test.YtjdapaocdkcgdaaPFnExactMetaPackx19
import Derived.Test.YtjdapaocdkcgdaaPFnExactMetaPackx20
import Derived.Test.YtjdapaocdkcgdaaPFnExactMetaPackx21
namespace Go.Proofs.Ytjdapaocdkcgdaa.PFnExactMetaPack
open Go.RowKit Go.Proofs.YtjdapaocdkcgdaaW.PrintWords Go.Proofs.YtjdapaocdkcgdaaW.PrintLast Go.Proofs.YtjdapaocdkcgdaaW.PrintMore Go.Proofs.YtjdapaocdkcgdaaW.PrintMore2
attribute [local go_sem] max2_int min2_int max_two min_two max_three min_three max_four min_four   -- for this text's walks alone
set_option linter.unusedVariables false
set_option linter.unusedSimpArgs false

end Go.Proofs.Ytjdapaocdkcgdaa.PFnExactMetaPack
