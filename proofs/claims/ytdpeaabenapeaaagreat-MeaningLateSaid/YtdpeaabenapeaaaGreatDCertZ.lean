/- Printed by decomp.py: all certificates. -/
import Derived.Test.YtdpeaabenapeaaaGreatDCert14Z
set_option linter.all false

