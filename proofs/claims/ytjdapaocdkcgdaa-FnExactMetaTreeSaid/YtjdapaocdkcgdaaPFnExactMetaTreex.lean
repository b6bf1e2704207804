/- The machine's side of FnExactMetaTree, written by wip/tools/hyb.py of this repo: each Go function as a plain Lean function, and the proof that the call comes to just its answer. No condition. -/
import Derived.Test.YtjdapaocdkcgdaaPFnExactMetaTreex0
import Derived.Test.YtjdapaocdkcgdaaPFnExactMetaTreex1
import Derived.Test.YtjdapaocdkcgdaaPFnExactMetaTreex2
import Derived.Test.YtjdapaocdkcgdaaPFnExactMetaTreex3
import Derived.Test.YtjdapaocdkcgdaaPFnExactMetaTreex4
import Derived.Test.YtjdapaocdkcgdaaPFnExactMetaTreex5
import Derived.Test.YtjdapaocdkcgdaaPFnExactMetaTreex6
import Derived.Test.YtjdapaocdkcgdaaPFnExactMetaTreex7
import Derived.Test.YtjdapaocdkcgdaaPFnExactMetaTreex8
import Derived.Test.YtjdapaocdkcgdaaPFnExactMetaTreex9
import Derived.Test.YtjdapaocdkcgdaaPFnExactMetaTreex10
import Derived.Test.YtjdapaocdkcgdaaPFnExactMetaTreex11
import Derived.Test.YtjdapaocdkcgdaaPFnExactMetaTreex12
import Derived.Test.YtjdapaocdkcgdaaPFnExactMetaTreex13
import Derived.Test.YtjdapaocdkcgdaaPFnExactMetaTreex14
import Derived.Test.YtjdapaocdkcgdaaPFnExactMetaTreex15
import Derived.Test.YtjdapaocdkcgdaaPFnExactMetaTreex16
import Derived.Test.YtjdapaocdkcgdaaPFnExactMetaTreex17
import Derived.Test.YtjdapaocdkcgdaaPFnExactMetaTreex18
import Derived.Test.YtjdapaocdkcgdaaPFnExactMetaTreex19
import Derived.Test.YtjdapaocdkcgdaaPFnExactMetaTreex20
namespace Go.Proofs.Ytjdapaocdkcgdaa.PFnExactMetaTree
open Go.RowKit Go.Proofs.YtjdapaocdkcgdaaW.PrintWords Go.Proofs.YtjdapaocdkcgdaaW.PrintLast Go.Proofs.YtjdapaocdkcgdaaW.PrintMore Go.Proofs.YtjdapaocdkcgdaaW.PrintMore2
attribute [local go_sem] max2_int min2_int max_two min_two max_three min_three max_four min_four   -- for this text's walks alone
set_option linter.unusedVariables false
set_option linter.unusedSimpArgs false

end Go.Proofs.Ytjdapaocdkcgdaa.PFnExactMetaTree
