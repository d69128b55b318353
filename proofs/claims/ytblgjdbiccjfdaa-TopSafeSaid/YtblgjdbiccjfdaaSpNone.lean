/- Elements of which none is ever told: a row of them is empty. -/
import Derived.Test.YtblgjdbiccjfdaaSpMore
namespace Go.Sp
open Go
end Go.Sp
