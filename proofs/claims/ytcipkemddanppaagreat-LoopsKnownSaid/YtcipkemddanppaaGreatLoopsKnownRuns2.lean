/- The closed statement's run, in parts. Conditions: none. -/
import Derived.Test.YtcipkemddanppaaGreatLoopsKnownDefs1
import Derived.Test.YtcipkemddanppaaGreatAmSeven
set_option maxRecDepth 100000
namespace Go.Proofs.AmEnv
open Go Go.AM
theorem t3 : evOps env (callA env (ev env 99989)) (takeX c4.r.r.l.r.l.l.r.l.l.l.ol 5) (.node d31 (.bool false) d35) h0 = .ok .normal (.node d28 (.bool false) d23) h1 := nfC_of (by kernel_rfl)
theorem t13 : callA env (ev env 99988) 15 [(.agg d46), .nilsl] h3 = .ok (.bool true) h4 := nfR_of (by kernel_rfl)
theorem t22 : ev env 99992 c4.r.r.l.r.l.l.l (.node d43 (.bool false) d45) h2 = .ok .normal (.node d43 (.bool false) d57) h2 := nfC_of (by kernel_rfl)
theorem t29 : evOps env (callA env (ev env 99987)) (takeX c4.r.r.l.r.l.l.r.l.l.l.ol 5) (.node d59 (.bool false) d73) h4 = .ok .normal (.node d68 (.bool false) d71) h5 := nfC_of (by kernel_rfl)
theorem t39 : callA env (ev env 99986) 15 [(.agg d78), .nilsl] h7 = .ok (.bool true) h8 := nfR_of (by kernel_rfl)
theorem t48 : ev env 99990 c4.r.r.l.r.l.l.l (.node d75 (.bool false) d77) h6 = .ok .normal (.node d75 (.bool false) d89) h6 := nfC_of (by kernel_rfl)
theorem t60 : callA env (ev env 99994) 15 [(.agg d99), (.msl 1306 0 2 8)] h9 = .ok (.bool true) h10 := nfR_of (by kernel_rfl)
theorem t67 : evOps env (callA env (ev env 99994)) (takeX c4.r.r.r.l.l.ol 8) (.node d95 (.bool false) d97) h8 = .ok .normal (.node d145 (.bool false) d143) h9 := nfC_of (by kernel_rfl)
theorem t75 : evOps env (callA env (ev env 99992)) (takeX c4.r.r.r.r.r.r.l.ol 1) (.node d253 (.bool false) d255) h13 = .ok .normal (.node d253 (.bool false) d250) h13 := nfC_of (by kernel_rfl)
theorem t84 : ev env 99990 c4.r.r.r.r.r.r.r.r.l.r (.node d332 (.bool false) d345) h20 = .ok .normal (.node d332 (.bool false) d345) h20 := nfC_of (by kernel_rfl)
theorem t91 : runD env (callA env (ev env 99982)) (takeX (dropX c22.r.r.r.r.r.l.ol 26) 1) d459 h25 [] = .ok d456 h28 [] := nfDS_of (by kernel_rfl)
theorem t99 : runD env (callA env (ev env 99982)) (takeX c22.r.r.r.r.r.l.ol 13) d498 h22 [] = .ok d485 h23 [] := nfDS_of (by kernel_rfl)
theorem t108 : evOps env (callA env (ev env 99989)) (dropX c4.r.r.r.r.r.r.r.r.r.l.ol 57) d573 h32 = .ok .normal d577 h32 := nfC_of (by kernel_rfl)
theorem t118 : ev env 100000 (XC.pre 2 c4) (.node d616 .und d616) Heap.empty = .ok .normal (.node d38 (.bool false) d98) h0 := nfC_of (by kernel_rfl)
end Go.Proofs.AmEnv
