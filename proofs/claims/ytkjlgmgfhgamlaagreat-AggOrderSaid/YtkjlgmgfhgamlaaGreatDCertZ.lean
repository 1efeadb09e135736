/- Printed by decomp.py: all certificates. -/
import Derived.Test.YtkjlgmgfhgamlaaGreatDCert12Z
set_option linter.all false

