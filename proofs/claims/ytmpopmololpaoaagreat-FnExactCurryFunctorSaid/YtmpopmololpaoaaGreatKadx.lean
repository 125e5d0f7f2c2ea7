/- A link of the chain. -/
import Derived.Test.YtmpopmololpaoaaGreatKacx
namespace Go.Eng
end Go.Eng
