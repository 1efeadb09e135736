/- Printed by decomp.py: all certificates. -/
import Derived.Test.YtnfamdbgcgjlaaaGreatDoorDCert9Z
set_option linter.all false

