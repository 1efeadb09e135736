/- Printed by decomp.py: all certificates. -/
import Derived.Test.YtmkegegjcihooaaGreatDCert18Z
set_option linter.all false

