/- Part of the proof that wellspringlaw27's MarginTells answers true whatever the input reads, and leaves it as it was; no condition. -/
import Derived.Test.YtmadbodaleaaeaaGreatTabA
import Derived.Test.YtmadbodaleaaeaaGreatTabB
import Derived.Test.YtmadbodaleaaeaaGreatTabC
set_option linter.unusedVariables false
set_option linter.unusedSimpArgs false

