/- Printed by decomp.py: all certificates. -/
import Derived.Test.YtfdfgobnpnoomaaGreatDCert21Z
set_option linter.all false
