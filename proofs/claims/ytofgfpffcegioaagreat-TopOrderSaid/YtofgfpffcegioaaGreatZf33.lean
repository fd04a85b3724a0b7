/- A part of the proof. -/
import Derived.Test.YtofgfpffcegioaaGreatZf04
set_option maxRecDepth 100000
set_option maxHeartbeats 8000000
