/- Printed by decomp.py: all certificates. -/
import Derived.Test.YtfdfgobnpnoomaaGreatDCert24Z
import Derived.Test.YtfdfgobnpnoomaaGreatDCert27Z
import Derived.Test.YtfdfgobnpnoomaaGreatDCert30Z
set_option linter.all false

