/-
  What the laws of layer 21 have in common (seat D): the print's parts, auth.Hear by hand.
-/
import Derived.Test.YtgadhmoifhoilaaDoorPAuthBasex1
import Derived.Test.YtgadhmoifhoilaaDoorPAuthBasex2
import Derived.Test.YtgadhmoifhoilaaDoorPAuthBasex4
import Derived.Test.YtgadhmoifhoilaaDoorPAuthBasex5
import Derived.Test.YtgadhmoifhoilaaDoorHearP
import Derived.Test.YtgadhmoifhoilaaDoorAuthEqD

