/- A closed run, in parts: the last. -/
import Derived.Test.YtnkfdamiiejfdaaGreatDoorMemo5a
set_option linter.all false

