/- The closed statement's run, in parts. Conditions: none. -/
import Derived.Test.YtcipkemddanppaaGreatLoopsKnownDefs1
import Derived.Test.YtcipkemddanppaaGreatAmSeven
set_option maxRecDepth 100000
namespace Go.Proofs.AmEnv
open Go Go.AM
theorem t0 : callA env (ev env 99989) 15 [(.agg d6), .nilsl] h1 = .ok (.bool true) h2 := nfR_of (by kernel_rfl)
theorem t9 : ev env 99993 c4.r.r.l.r.l.l.l (.node d38 (.bool false) d41) h0 = .ok .normal (.node d31 (.bool false) d35) h0 := nfC_of (by kernel_rfl)
theorem t16 : evOps env (callA env (ev env 99988)) (takeX c4.r.r.l.r.l.l.r.l.l.l.ol 5) (.node d43 (.bool false) d57) h2 = .ok .normal (.node d52 (.bool false) d55) h3 := nfC_of (by kernel_rfl)
theorem t26 : callA env (ev env 99987) 15 [(.agg d62), .nilsl] h5 = .ok (.bool true) h6 := nfR_of (by kernel_rfl)
theorem t35 : ev env 99991 c4.r.r.l.r.l.l.l (.node d59 (.bool false) d61) h4 = .ok .normal (.node d59 (.bool false) d73) h4 := nfC_of (by kernel_rfl)
theorem t42 : evOps env (callA env (ev env 99986)) (takeX c4.r.r.l.r.l.l.r.l.l.l.ol 5) (.node d75 (.bool false) d89) h6 = .ok .normal (.node d84 (.bool false) d87) h7 := nfC_of (by kernel_rfl)
theorem t52 : ev env 99991 c4.r.r.l.r.l (.node d91 (.bool false) d93) h8 = .ok (.exit 0) (.node d95 (.bool false) d97) h8 := nfC_of (by kernel_rfl)
theorem t62 : evOps env (callA env (ev env 99994)) (dropX c4.r.r.r.l.l.ol 17) (.node d120 (.bool false) d128) h12 = .ok .normal (.node d130 (.bool false) d132) h12 := nfC_of (by kernel_rfl)
theorem t72 : callA env (ev env 99992) 19 [(.agg d154)] h13 = .ok (.agg d168) h14 := nfR_of (by kernel_rfl)
theorem t79 : evOpsD env (callA env (ev env 99989)) (dropX c4.r.r.r.r.r.r.r.r.l.l.ol 38) (.node d294 (.bool false) d320) h19 [] = .ok .normal (.node d332 (.bool false) d345) h20 := nfC_of (by kernel_rfl)
theorem t87 : evOpsD env (callA env (ev env 99982)) (dropX c22.r.r.r.r.r.l.ol 31) d443 h27 [] = .ok .normal d445 h27 := nfC_of (by kernel_rfl)
theorem t95 : runD env (callA env (ev env 99982)) (takeX (dropX c22.r.r.r.r.r.l.ol 14) 8) d482 h24 [] = .ok d470 h25 [] := nfDS_of (by kernel_rfl)
theorem t103 : ev env 99983 c22.r.r.r.r.r.r d445 h27 = .ok .ret d445 h27 := nfC_of (by kernel_rfl)
theorem t113 : evOps env (callA env (ev env 99989)) (takeX (dropX c4.r.r.r.r.r.r.r.r.r.l.ol 42) 11) d614 h20 = .ok .normal d592 h30 := nfC_of (by kernel_rfl)
theorem t120 : ev env 99992 c4.r.r.r.r.r.r.r.l (.node d251 (.bool false) d250) h15 = .ok .normal (.node d362 (.bool false) d372) h21 := nfC_of (by kernel_rfl)
end Go.Proofs.AmEnv
