/- PART 26. LogicSimplifies: for every input of bulk at most 1048576 the law returns true, and the arguments read as they did. -/
import Derived.Test.YtgiedlcjlalpcaaGreatPk22
import Derived.Test.YtgiedlcjlalpcaaGreatPk25
set_option linter.all false
namespace Go.Proofs.YtgiedlcjlalpcaaGreat
theorem logicSimplifiesUpto : Rows.LogicSimplifiesUptoSaid := over3 law3a
end Go.Proofs.YtgiedlcjlalpcaaGreat
