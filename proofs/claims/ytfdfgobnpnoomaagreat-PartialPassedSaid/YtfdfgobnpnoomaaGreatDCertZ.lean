/- Printed by decomp.py: all certificates. -/
import Derived.Test.YtfdfgobnpnoomaaGreatDCert18Z
set_option linter.all false

