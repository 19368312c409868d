/- (Hex).need: its contract lies in GNeedX. -/
import Derived.Test.YtcfdlbjngpmcaaaGNeedX
