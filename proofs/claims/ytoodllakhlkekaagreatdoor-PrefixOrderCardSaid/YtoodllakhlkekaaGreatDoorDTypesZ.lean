/- DTypesZ. -/
import Derived.Test.YtoodllakhlkekaaGreatDoorDTypesO
set_option linter.all false

