/- A closed run, in parts: the last. -/
import Derived.Test.YtmodjehiebcejaaGreatDoorMemo5a
set_option linter.all false

