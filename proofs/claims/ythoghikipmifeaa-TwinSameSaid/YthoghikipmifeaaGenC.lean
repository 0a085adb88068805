/- What this program's functions do, at any data. Conditions: none. -/
import Derived.Test.YthoghikipmifeaaGenB
set_option linter.unusedVariables false
set_option linter.unusedSimpArgs false
set_option linter.unusedSectionVars false
set_option linter.defProp false
set_option maxRecDepth 100000
set_option maxHeartbeats 4000000
noncomputable section
namespace Go.Proofs.AmEnv
open Go Go.AM
section
variable {H:Type}{enc:TypeId×Value->H}{P:Program}{W:World}{base:Nat}{spare:Nat->Bool}{held:Bool}
variable (hE:EnvOk A0 P)
include hE
theorem mod_see{n:Nat}{cs:List Value}{d:DataW H}{ps:List MemPlace}(h:DataW.trod enc P W base spare held n 25 cs=some (d,ps))(hw:Wt P 25 d):∃acs,∃M:Modl,R8 P 9 25 d=some acs/\acs.length=2/\(∀Z h,Fz Z h (.agg acs) M.F)/\M.ok:=by
 obtain⟨gv,fv,M,h1,h2,h3⟩:=yZ hE h hw;refine⟨[gv,fv],M,h1,rfl,fun Z h=>?_,EX hE h2 h3⟩;refine fS rfl rfl fun p hp=>?_
 simp only[List.zip_cons_cons,List.zip_nil_left,List.mem_cons,List.not_mem_nil,or_false]at hp;rcases hp with rfl|rfl
 . exact h2.fz fun r X hr=>EW hE hr
 . exact h3.fz fun r X hr=>EV hE hr
theorem ints_see{n:Nat}{cs:List Value}{d:DataW H}{ps:List MemPlace}(h:DataW.trod enc P W base spare held n 26 cs=some (d,ps))(hw:Wt P 26 d):∃v l,R8 P 9 26 d=some [v]/\(∀Z h,Fz Z h v (fslN (ints l)))/\l.length*8<=bigN:=by
 obtain⟨s,h1,_,v,l,rfl,h2⟩:=Uc hE (m:=7) h hw;exact⟨v,l,h1,fun Z h=>kG hE h2,Ho hE h2.2 (vS hE)⟩
theorem int_see{n:Nat}{cs:List Value}{d:DataW H}{ps:List MemPlace}(h:DataW.trod enc P W base spare held n 3 cs=some (d,ps))(hw:Wt P 3 d):∃z,R8 P 9 3 d=some [.int .i64 z]:=by
 obtain⟨s,h1,_,z,rfl⟩:=Ca hE (m:=8) h hw;exact⟨z,h1⟩
end
theorem vW{f:Nat}{T:Nat->Option (List AV->Option (List AV))}(hP:PEok ⟨A0,T,A1⟩){as1 xs:List AV}(H:AM.Comes ⟨A0,T,A1⟩ f as1 [.bool true])(hl:xs.length=as1.length)(hz:∀(i:Nat) u v,xs[i]?=some u->as1[i]?=some v->Fz (fun _=>False) Heap.empty u v):∃h',callω A0 f xs Heap.empty=.ok (.bool true) h':=by
 obtain⟨vcs,h1,Z1,ow1,e,_,l,_⟩:=Eo hP H (Z:=fun _=>False) (h:=Heap.empty) (xs:=xs) hl hz (fun id h=>h.elim);have l:VL Z1 ow1 h1 (openTs 0 [AV.bool true]).2 vcs [.bool true]:=l
 match vcs,l.1 with
 | [v],_ =>
  have hv:=l.2 0 v (.bool true) rfl rfl
  have:v=.bool true:=by
   cases hv with
   |fz h=>cases h;rfl
  subst this;exact⟨h1,e⟩
theorem TwinSame_ok(hP:PEok ⟨A0,T0,A1⟩){m:Modl}{inp:List Int}{st:Int}(hm:m.ok){x y:AV}(hx:∀Z h,Fz Z h x m.F)(hy:∀Z h,Fz Z h y (fslN (ints inp))):∃h',callω A0 5 [x,y,.int .i64 st] Heap.empty=.ok (.bool true) h':=by
 refine vW (P61 hP) (Ee (T:=T61) (m:=m) (inp:=inp) (st:=st) rfl rfl rfl rfl rfl rfl rfl hm) rfl fun i u v hu hv=>?_
 rcases i with _|_|_|i
 . cases hu;cases hv;exact hx _ _
 . cases hu;cases hv;exact hy _ _
 . cases hu;cases hv;exact .int _ _
 . simp at hu
end Go.Proofs.AmEnv
