/- Printed by decomp.py: all certificates. -/
import Derived.Test.YtkjlgmgfhgamlaaGreatDCert1Z
import Derived.Test.YtkjlgmgfhgamlaaGreatDCert18Z
set_option linter.all false

