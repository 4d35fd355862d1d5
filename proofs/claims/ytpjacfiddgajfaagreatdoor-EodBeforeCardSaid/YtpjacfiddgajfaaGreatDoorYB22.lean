/- Part 22 of the proof: CbA51sb. -/
import Derived.Test.YtpjacfiddgajfaaGreatDoorYB7
import Derived.Test.YtpjacfiddgajfaaGreatDoorYB8
import Derived.Test.YtpjacfiddgajfaaGreatDoorYB9


