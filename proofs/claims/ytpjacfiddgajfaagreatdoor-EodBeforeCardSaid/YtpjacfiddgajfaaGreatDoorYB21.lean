/- Part 21 of the proof: CbA51sa. -/
import Derived.Test.YtpjacfiddgajfaaGreatDoorYB7
import Derived.Test.YtpjacfiddgajfaaGreatDoorYB8
import Derived.Test.YtpjacfiddgajfaaGreatDoorYB9


