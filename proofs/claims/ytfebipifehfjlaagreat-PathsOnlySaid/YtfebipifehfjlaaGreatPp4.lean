/- Parts of the proof: Pp4: each statement bears its own conditions. -/
import Derived.Test.YtfebipifehfjlaaGreatPp3
namespace Go.Ax
open Go
set_option linter.unusedSimpArgs false
set_option linter.unusedVariables false
section
variable {P : Program} {orc : Orc} {s : Bool}
end
end Go.Ax
