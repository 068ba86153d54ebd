/- Part of the proofs that wellspringlaw30's laws answer true whatever the input reads, and leave it as it was; no condition. -/
import Derived.Test.YtmaknfkhibljfaaGreatTabA
import Derived.Test.YtmaknfkhibljfaaGreatTabB
import Derived.Test.YtmaknfkhibljfaaGreatTabC
import Derived.Test.YtmaknfkhibljfaaGreatTabD
import Derived.Test.YtmaknfkhibljfaaGreatTabE
set_option linter.unusedVariables false
set_option linter.unusedSimpArgs false

