/- The pure statement of FnExactSplitWide: the printed functions answer as the law says, for all arguments. No condition. -/
import Derived.Test.YtjbilohbkhogkaaCore
import Derived.Test.YtjbilohbkhogkaaPFnExactSplitWidex
namespace Go.Proofs.Ytjbilohbkhogkaa.Pure
open Go.RowKit Go.Proofs.Ytjbilohbkhogkaa.PFnExactSplitWide Go.Proofs.Ytjbilohbkhogkaa.Core Go.Proofs.YtjbilohbkhogkaaW.PrintWords Go.Proofs.YtjbilohbkhogkaaW.PrintLast Go.Proofs.YtjbilohbkhogkaaW.PrintMore
set_option linter.unusedVariables false
set_option linter.unusedSimpArgs false
theorem FnExactSplitWide : laws_FnExactSplitWide.Pure := by
  intro t _
  unfold laws_FnExactSplitWide.f impl_SplitWide.f spec_SplitWide.f impl_wideOf.f
  (repeat' split) <;> simp_all
end Go.Proofs.Ytjbilohbkhogkaa.Pure
