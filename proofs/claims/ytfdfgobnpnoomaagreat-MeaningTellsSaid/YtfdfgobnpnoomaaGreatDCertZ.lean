/- Printed by decomp.py: all certificates. -/
import Derived.Test.YtfdfgobnpnoomaaGreatDCert15Z
set_option linter.all false

