/- The closed statement's run, in parts. Conditions: none. -/
import Derived.Test.YtcipkemddanppaaGreatLoopsKnownDefs1
import Derived.Test.YtcipkemddanppaaGreatAmSeven
set_option maxRecDepth 100000
namespace Go.Proofs.AmEnv
open Go Go.AM
theorem t6 : ev env 99990 c4.r.r.l.r.l.l.r.l.l.r (.node d18 (.bool false) d26) h2 = .ok .normal (.node d18 (.bool false) d26) h2 := nfC_of (by kernel_rfl)
theorem t14 : evOps env (callA env (ev env 99988)) (dropX c4.r.r.l.r.l.l.r.l.l.l.ol 6) (.node d52 (.bool false) d55) h4 = .ok .normal (.node d52 (.bool false) d55) h4 := nfC_of (by kernel_rfl)
theorem t23 : ev env 99991 c4.r.r.l.r.l.l.r.r (.node d52 (.bool false) d55) h4 = .ok .normal (.node d59 (.bool false) d61) h4 := nfC_of (by kernel_rfl)
theorem t32 : ev env 99988 c4.r.r.l.r.l.l.r.l.l.r (.node d68 (.bool false) d71) h6 = .ok .normal (.node d68 (.bool false) d71) h6 := nfC_of (by kernel_rfl)
theorem t40 : evOps env (callA env (ev env 99986)) (dropX c4.r.r.l.r.l.l.r.l.l.l.ol 6) (.node d84 (.bool false) d87) h8 = .ok .normal (.node d84 (.bool false) d87) h8 := nfC_of (by kernel_rfl)
theorem t49 : ev env 99989 c4.r.r.l.r.l.l.r.r (.node d84 (.bool false) d87) h8 = .ok .normal (.node d91 (.bool false) d93) h8 := nfC_of (by kernel_rfl)
theorem t61 : callA env (ev env 99994) 15 [(.agg d105), .nilsl] h11 = .ok (.bool true) h12 := nfR_of (by kernel_rfl)
theorem t70 : ev env 99995 c4.r.r.r.l.r (.node d130 (.bool false) d132) h12 = .ok .normal (.node d130 (.bool false) d132) h12 := nfC_of (by kernel_rfl)
theorem t78 : callA env (ev env 99989) 19 [(.agg d256)] h16 = .ok (.agg d260) h17 := nfR_of (by kernel_rfl)
theorem t86 : callA env (ev env 99982) 23 [] h26 = .ok (.bool true) h27 := nfR_of (by kernel_rfl)
theorem t93 : runD env (callA env (ev env 99982)) (takeX (dropX c22.r.r.r.r.r.l.ol 22) 4) d470 h25 [] = .ok d459 h25 [] := nfDS_of (by kernel_rfl)
theorem t102 : ev env 99989 (XC.pre 5 c22) d502 h29 = .ok .normal d498 h22 := nfC_of (by kernel_rfl)
theorem t110 : evOps env (callA env (ev env 99989)) (takeX (dropX c4.r.r.r.r.r.r.r.r.r.l.ol 54) 2) d588 h31 = .ok .normal d581 h31 := nfC_of (by kernel_rfl)
theorem t119 : ev env 99996 (XC.pre 2 c4.r.r.r.r) (.node d130 (.bool false) d132) h12 = .ok .normal (.node d253 (.bool false) d255) h13 := nfC_of (by kernel_rfl)
end Go.Proofs.AmEnv
