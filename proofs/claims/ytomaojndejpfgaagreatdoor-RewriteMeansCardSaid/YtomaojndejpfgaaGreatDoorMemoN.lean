/- A closed run, in parts: the last. -/
import Derived.Test.YtomaojndejpfgaaGreatDoorMemo4a
set_option linter.all false

