/- LogicKeeps: for every input of bulk at most 1048576 the law returns true, and the arguments read as they did. -/
import Derived.Test.YtgiedlcjlalpcaaGreatCe02
import Derived.Test.YtgiedlcjlalpcaaGreatCe03
set_option linter.all false
namespace Go.Proofs.YtgiedlcjlalpcaaGreat
theorem logicKeepsUpto:Rows.LogicKeepsUptoSaid:=over3 fun e l r h ht=>law7 e l r h.1 h.2.1 h.2.2 ht
end Go.Proofs.YtgiedlcjlalpcaaGreat
