/- LogicConditions: for every input of bulk at most 1048576 the law returns true, and the arguments read as they did. -/
import Derived.Test.YtgiedlcjlalpcaaGreatCb01
import Derived.Test.YtgiedlcjlalpcaaGreatCb03
set_option linter.all false
namespace Go.Proofs.YtgiedlcjlalpcaaGreat
theorem logicConditionsUpto:Rows.LogicConditionsUptoSaid:=over3 law4
end Go.Proofs.YtgiedlcjlalpcaaGreat
