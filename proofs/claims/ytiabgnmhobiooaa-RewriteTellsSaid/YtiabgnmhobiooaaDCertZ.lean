/- Printed by decomp.py: all certificates. -/
import Derived.Test.YtiabgnmhobiooaaDCert11Z
set_option linter.all false

