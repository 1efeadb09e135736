/- Printed by decomp.py: all certificates. -/
import Derived.Test.YtoadgjfleafafaaGreatDCert15A
set_option linter.all false

