/- Printed by decomp.py: all certificates. -/
import Derived.Test.YtioookhnoobpgaaDCert1
set_option linter.all false
