/- The contracts of chapter 13 that are proved by hand, gathered. -/
import Derived.Test.YtfbcjeknibfjcaaG7
