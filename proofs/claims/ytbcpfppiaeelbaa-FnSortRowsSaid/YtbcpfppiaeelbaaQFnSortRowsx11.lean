/- Out of a copy of the print, with function values told: nothing is claimed here. -/
import Derived.Test.YtbcpfppiaeelbaaQFnSortRowsx0
import Derived.Test.YtbcpfppiaeelbaaQFnSortRowsx1
import Derived.Test.YtbcpfppiaeelbaaQFnSortRowsx2
import Derived.Test.YtbcpfppiaeelbaaQFnSortRowsx6
import Derived.Test.YtbcpfppiaeelbaaQFnSortRowsx7
import Derived.Test.YtbcpfppiaeelbaaQFnSortRowsx8
import Derived.Test.YtbcpfppiaeelbaaQFnSortRowsx9
import Derived.Test.YtbcpfppiaeelbaaQFnSortRowsx10
import Derived.Test.YtbcpfppiaeelbaaShort
namespace Go.Proofs.Ytbcpfppiaeelbaa.PFnSortRows
open Go.RowKit Go.Proofs.YtbcpfppiaeelbaaW.PrintWords Go.Proofs.YtbcpfppiaeelbaaW.PrintLast Go.Proofs.YtbcpfppiaeelbaaW.PrintMore Go.Proofs.Ytbcpfppiaeelbaa.Short
attribute [local go_sem] max2_int min2_int max_two min_two max_three min_three max_four min_four   -- for this text's walks alone
set_option linter.unusedVariables false
set_option linter.unusedSimpArgs false

attribute [local go_sem high] eqA36
end Go.Proofs.Ytbcpfppiaeelbaa.PFnSortRows
