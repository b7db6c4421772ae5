-- written by a program of this session out of the kit's print (its words and its form)
import Derived.Test.YtamkjpjibkabaaaPMkx0
import Derived.Test.YtamkjpjibkabaaaPMkx1
import Derived.Test.YtamkjpjibkabaaaPMkx2
import Derived.Test.YtamkjpjibkabaaaPMkx3
import Derived.Test.YtamkjpjibkabaaaPMkx4
import Derived.Test.YtamkjpjibkabaaaPMkx5
import Derived.Test.YtamkjpjibkabaaaPMkx6
import Derived.Test.YtamkjpjibkabaaaPMkx7
import Derived.Test.YtamkjpjibkabaaaPMkx8
import Derived.Test.YtamkjpjibkabaaaPMkx9
import Derived.Test.YtamkjpjibkabaaaPMkx10
import Derived.Test.YtamkjpjibkabaaaPMkx11
import Derived.Test.YtamkjpjibkabaaaPMkx12
import Derived.Test.YtamkjpjibkabaaaPMkx13
import Derived.Test.YtamkjpjibkabaaaPMkx14
import Derived.Test.YtamkjpjibkabaaaPMkx15
import Derived.Test.YtamkjpjibkabaaaPMkx16
namespace Go.Proofs.Ytamkjpjibkabaaa.PMk
open Go.RowKit Go.Proofs.YtamkjpjibkabaaaW.PrintWords Go.Proofs.YtamkjpjibkabaaaW.PrintLast Go.Proofs.YtamkjpjibkabaaaW.PrintMore
attribute [local go_sem] max2_int min2_int max_two min_two max_three min_three max_four min_four   -- for this text's walks alone
set_option linter.unusedVariables false
set_option linter.unusedSimpArgs false

end Go.Proofs.Ytamkjpjibkabaaa.PMk
