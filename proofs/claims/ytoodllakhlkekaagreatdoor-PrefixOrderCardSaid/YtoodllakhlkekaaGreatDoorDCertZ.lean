/- Printed by decomp.py: all certificates. -/
import Derived.Test.YtoodllakhlkekaaGreatDoorDCert2Z
set_option linter.all false

