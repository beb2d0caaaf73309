/- Queries as texts: the plain law. No program in sight. -/
import Derived.Test.YtogcmkphibegbaaGreatDoorPl
import Derived.Lib.Join
namespace Go.Eng.Md
open Go Go.Eng
end Go.Eng.Md
