/- Printed by decomp.py: all certificates. -/
import Derived.Test.YtkjlgmgfhgamlaaGreatDCert14Z
set_option linter.all false

