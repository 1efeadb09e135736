/- Printed by decomp.py: all certificates. -/
import Derived.Test.YtkjlgmgfhgamlaaGreatDCert11Z
set_option linter.all false

