/- Part of the proof of a law of the image. -/
import Derived.Test.YtfgfjgbggkdobaaGreatQJF
import Derived.Test.YtfgfjgbggkdobaaGreatQKK
import Derived.Test.YtfgfjgbggkdobaaGreatQR4
import Derived.Test.YtfgfjgbggkdobaaGreatQRR
set_option linter.all false
set_option maxRecDepth 100000
set_option maxHeartbeats 0
namespace Go.Am
open Go
noncomputable section
theorem asked : Asked where
  check := rcheck_ok
  brok := fun m n r h hn hc hk => ibrokerRec_ok m r (h.brok hn (rec_b hc)) (fun t ht p hp => (h.small t ht p hp).1) hk
theorem imageWhole_ok (l : List Record) : ACall pg 3 [.sl (l.map encR)] (B true) := whole_walk asked (works_ok asked) l
theorem imageReigns_ok (l : List Record) : ACall pg 4 [.sl (l.map encR)] (B true) := reigns_walk asked (works_ok asked) l
end
end Go.Am
