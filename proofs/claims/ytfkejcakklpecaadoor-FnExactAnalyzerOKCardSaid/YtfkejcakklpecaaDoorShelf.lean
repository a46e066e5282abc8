/- This seat's dump has no library function of which the shelf tells: nothing is laid. -/
import Derived.Test.YtfkejcakklpecaaDoorProg
