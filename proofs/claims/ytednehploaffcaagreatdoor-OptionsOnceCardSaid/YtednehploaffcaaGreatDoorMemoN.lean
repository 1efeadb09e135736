/- A closed run, in parts: the last. -/
import Derived.Test.YtednehploaffcaaGreatDoorMemo5a
set_option linter.all false

