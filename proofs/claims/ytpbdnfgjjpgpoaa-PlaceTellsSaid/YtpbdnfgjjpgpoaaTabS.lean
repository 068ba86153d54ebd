/- Part of the proofs that wellspringlaw25's laws answer true whatever the input reads, and leave it as it was; no condition. -/
import Derived.Test.YtpbdnfgjjpgpoaaTabA
set_option linter.unusedVariables false
set_option linter.unusedSimpArgs false

