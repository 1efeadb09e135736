/- Printed by decomp.py: all certificates. -/
import Derived.Test.YtioookhnoobpgaaDCert1
