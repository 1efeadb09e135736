/- A closed run, in parts: the last. -/
import Derived.Test.YtmodjehiebcejaaGreatDoorMemo7a
set_option linter.all false

