/- Printed by decomp.py: all certificates. -/
import Derived.Test.YtednehploaffcaaGreatDoorDCert12Z
set_option linter.all false

