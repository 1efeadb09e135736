/- Printed by decomp.py: all certificates. -/
import Derived.Test.YtnkfdamiiejfdaaGreatDoorDCert12Z
set_option linter.all false

