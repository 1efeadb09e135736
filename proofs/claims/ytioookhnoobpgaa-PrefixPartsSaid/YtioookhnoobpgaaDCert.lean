/- Printed by decomp.py: all certificates. -/
import Derived.Test.YtioookhnoobpgaaDCert0
set_option linter.all false
