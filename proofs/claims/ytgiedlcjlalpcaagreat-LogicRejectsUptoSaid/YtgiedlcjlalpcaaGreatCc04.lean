/- LogicRejects: for every input of bulk at most 1048576 the law returns true, and the arguments read as they did. -/
import Derived.Test.YtgiedlcjlalpcaaGreatCc01
import Derived.Test.YtgiedlcjlalpcaaGreatCc03
set_option linter.all false
namespace Go.Proofs.YtgiedlcjlalpcaaGreat
theorem logicRejectsUpto:Rows.LogicRejectsUptoSaid:=over3 law5
end Go.Proofs.YtgiedlcjlalpcaaGreat
