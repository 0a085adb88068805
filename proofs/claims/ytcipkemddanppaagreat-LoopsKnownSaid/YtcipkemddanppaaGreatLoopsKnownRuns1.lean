/- The closed statement's run, in parts. Conditions: none. -/
import Derived.Test.YtcipkemddanppaaGreatLoopsKnownDefs1
import Derived.Test.YtcipkemddanppaaGreatAmSeven
set_option maxRecDepth 100000
namespace Go.Proofs.AmEnv
open Go Go.AM
theorem t1 : evOps env (callA env (ev env 99989)) (dropX c4.r.r.l.r.l.l.r.l.l.l.ol 6) (.node d18 (.bool false) d23) h2 = .ok .normal (.node d18 (.bool false) d26) h2 := nfC_of (by kernel_rfl)
theorem t10 : ev env 99992 c4.r.r.l.r.l.l.r.r (.node d18 (.bool false) d26) h2 = .ok .normal (.node d43 (.bool false) d45) h2 := nfC_of (by kernel_rfl)
theorem t19 : ev env 99989 c4.r.r.l.r.l.l.r.l.l.r (.node d52 (.bool false) d55) h4 = .ok .normal (.node d52 (.bool false) d55) h4 := nfC_of (by kernel_rfl)
theorem t27 : evOps env (callA env (ev env 99987)) (dropX c4.r.r.l.r.l.l.r.l.l.l.ol 6) (.node d68 (.bool false) d71) h6 = .ok .normal (.node d68 (.bool false) d71) h6 := nfC_of (by kernel_rfl)
theorem t36 : ev env 99990 c4.r.r.l.r.l.l.r.r (.node d68 (.bool false) d71) h6 = .ok .normal (.node d75 (.bool false) d77) h6 := nfC_of (by kernel_rfl)
theorem t45 : ev env 99987 c4.r.r.l.r.l.l.r.l.l.r (.node d84 (.bool false) d87) h8 = .ok .normal (.node d84 (.bool false) d87) h8 := nfC_of (by kernel_rfl)
theorem t58 : ev env 99996 c4.r.r.l.l (.node d38 (.bool false) d98) h0 = .ok .normal (.node d38 (.bool false) d41) h0 := nfC_of (by kernel_rfl)
theorem t64 : evOps env (callA env (ev env 99994)) (takeX (dropX c4.r.r.r.l.l.ol 9) 7) (.node d138 (.bool false) d143) h10 = .ok .normal (.node d134 (.bool false) d128) h11 := nfC_of (by kernel_rfl)
theorem t73 : evOps env (callA env (ev env 99992)) (dropX c4.r.r.r.r.r.r.l.ol 2) (.node d230 (.bool false) d250) h14 = .ok .normal (.node d251 (.bool false) d250) h15 := nfC_of (by kernel_rfl)
theorem t81 : runD env (callA env (ev env 99989)) (takeX c4.r.r.r.r.r.r.r.r.l.l.ol 37) (.node d362 (.bool false) d372) h21 [] = .ok (.node d294 (.bool false) d353) h18 [] := nfDS_of (by kernel_rfl)
theorem t89 : runD env (callA env (ev env 99982)) (takeX (dropX c22.r.r.r.r.r.l.ol 27) 3) d456 h28 [] = .ok d448 h26 [] := nfDS_of (by kernel_rfl)
theorem t97 : runD env (callA env (ev env 99982)) (takeX (dropX c22.r.r.r.r.r.l.ol 13) 1) d485 h23 [] = .ok d482 h24 [] := nfDS_of (by kernel_rfl)
theorem t107 : callA env (ev env 99989) 23 [] h31 = .ok (.bool true) h32 := nfR_of (by kernel_rfl)
theorem t115 : evOps env (callA env (ev env 99989)) (takeX c4.r.r.r.r.r.r.r.r.r.l.ol 42) (.node d332 (.bool false) d345) h20 = .ok .normal d614 h20 := nfC_of (by kernel_rfl)
theorem t121 : ev env 99990 c4.r.r.r.r.r.r.r.r.r.r d577 h32 = .ok .ret d577 h32 := nfC_of (by kernel_rfl)
end Go.Proofs.AmEnv
