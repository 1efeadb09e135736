/- Printed by decomp.py: all certificates. -/
import Derived.Test.YtomaojndejpfgaaGreatDoorDCert12Z
set_option linter.all false

