/- Sets as bits, in both kinds of whole numbers. -/
import Derived.Test.YtafbcffccnjgfaaM10
namespace Go.Ai.Sx
end Go.Ai.Sx
