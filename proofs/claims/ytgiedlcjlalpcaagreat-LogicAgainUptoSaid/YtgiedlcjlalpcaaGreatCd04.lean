/- LogicAgain: for every input of bulk at most 1048576 the law returns true, and the arguments read as they did. -/
import Derived.Test.YtgiedlcjlalpcaaGreatCd01
import Derived.Test.YtgiedlcjlalpcaaGreatCd03
set_option linter.all false
namespace Go.Proofs.YtgiedlcjlalpcaaGreat
theorem logicAgainUpto:Rows.LogicAgainUptoSaid:=over3 law8
end Go.Proofs.YtgiedlcjlalpcaaGreat
