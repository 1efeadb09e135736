/- Printed by decomp.py: all certificates. -/
import Derived.Test.YtkjlgmgfhgamlaaGreatDCert13Z
set_option linter.all false

