/- Printed by decomp.py: all certificates. -/
import Derived.Test.YtfdfgobnpnoomaaGreatDCert13Z
set_option linter.all false

