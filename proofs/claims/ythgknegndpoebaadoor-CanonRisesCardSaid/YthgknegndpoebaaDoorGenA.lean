/- The abstract machine without fuel, and rules for lists, memory of one's own, and loops. Conditions: none. -/
import Derived.Test.YthgknegndpoebaaDoorAmEight
set_option linter.unusedVariables false
set_option linter.unusedSimpArgs false
namespace Go.AM
def Le {α:Type} (bad r r':α):Prop:=r=bad∨r'=r
section
variable {α β:Type} {b r r':α} {c:β}
theorem Le.same:Le b r r:=.inr rfl
theorem Le.none:Le b b r:=.inl rfl
theorem Le.bind {k k':α→β} (h:Le b r r') (hk:k b=c) (hkk:∀x,Le c (k x) (k' x)):Le c (k r) (k' r'):=by
 rcases h with h | h
 · subst h; exact .inl hk
 · subst h; exact hkk r'
theorem Le.map {k:α→β} (h:Le b r r') (hk:k b=c):Le c (k r) (k r'):=h.bind hk fun _=>.same
theorem Le.cond {t:Bool} {x y x' y':α} (h1:Le b x x') (h2:Le b y y'):Le b (bif t then x else y) (bif t then x' else y'):=by
 cases t <;> assumption
theorem Le.of_ne (h:Le b r r') (hn:r≠b):r'=r:=h.elim (fun e=>absurd e hn) id
theorem Le.and {x x' y y':Bool} (h1:Le false x x') (h2:Le false y y'):Le false (x && y) (x' && y'):=by
 rcases h1 with h | h <;> subst h
 · exact .inl rfl
 · rcases h2 with h | h <;> subst h
   · left; cases x' <;> rfl
   · exact .same
end
section
variable {E:Env} {call call':CallF} {ih ih':CodeF}
def LeC (call call':CallF):Prop:=∀f l h,Le Res.bad (call f l h) (call' f l h)
def LeF (ih ih':CodeF):Prop:=∀c fr h,Le CRes.bad (ih c fr h) (ih' c fr h)
theorem evOp_le (hc:LeC call call') (op:Op) (fr:Tr) (h:Heap):Le .bad (evOp E call op fr h) (evOp E call' op fr h):=by
 cases op with
 | call c =>
   obtain⟨callee,args,ts⟩:=c
   cases callee with
   | value f =>
     show Le _ (callFn call (opv E f fr) (opvs E args.toList fr) h) (callFn call' (opv E f fr) (opvs E args.toList fr) h)
     cases opv E f fr with
     | fn g first caps =>
       cases g with
       | func n=>exact hc _ _ _
       | _=>exact .same
     | _=>exact .same
   | _=>exact .same
 | _=>exact .same
theorem onOB_le {α:Type} {b:α} {o:Option Bool} {t t' f f':α} (h1:Le b t t') (h2:Le b f f'):Le b (onOB o b t f) (onOB o b t' f'):=by
 cases o with
 | none=>exact .same
 | some x=>cases x <;> assumption
theorem evOps_le (hc:LeC call call'):∀(l:List XOp) (fr:Tr) (h:Heap),Le .bad (evOps E call l fr h) (evOps E call' l fr h)
 | [],_,_=>.same
 | o::l,fr,h=>onOB_le ((evOp_le hc o.op fr h).bind (k:=evThen o.dst (evOps E call l) fr) (k':=evThen o.dst (evOps E call' l) fr) rfl fun x=>by
     cases x with
     | ok v h'=>exact evOps_le hc l _ _
     | _=>exact .same) (evOps_le hc l _ _)
theorem evOpD_le (hc:LeC call call') (o:XOp) (fr:Tr) (h:Heap) (d:List Nat):Le .bad (evOpD E call o fr h d) (evOpD E call' o fr h d):=by
 unfold evOpD
 exact .cond ((evOp_le hc o.op fr _).map rfl) (.cond (.cond ((evOp_le hc o.op fr h).map rfl) .same) ((evOp_le hc o.op fr h).map rfl))
theorem virtD_le (hc:LeC call call'):∀(l:List XOp) (late:List Bool) (fr:Tr) (h:Heap) (d:List Nat),Le false (virtD E call l late fr h d) (virtD E call' l late fr h d)
 | [],_,_,_,_=>.same
 | o::l,[],fr,h,d=>.same
 | o::l,true::late,fr,h,d=>virtD_le hc l late _ h d
 | o::l,false::late,fr,h,d=>onOB_le ((evOpD_le hc o fr h d).bind (k:=virtThen o.dst (virtD E call l late) fr) (k':=virtThen o.dst (virtD E call' l late) fr) rfl fun x=>by
     cases x with
     | ok v h' d'=>exact virtD_le hc l late _ _ _
     | _=>exact .same) (virtD_le hc l late _ h d)
theorem evOpsD_le (hc:LeC call call'):∀(l:List XOp) (fr:Tr) (h:Heap) (d:List Nat),Le .bad (evOpsD E call l fr h d) (evOpsD E call' l fr h d)
 | [],_,_,_=>.same
 | o::l,fr,h,d=>onOB_le ((evOpD_le hc o fr h d).bind (k:=evThenD o.dst (evOpsD E call l) (virtD E call l o.late (setDst o.dst skipped fr) h d) fr) (k':=evThenD o.dst (evOpsD E call' l) (virtD E call' l o.late (setDst o.dst skipped fr) h d) fr) rfl fun x=>by
     cases x with
     | ok v h' d'=>exact evOpsD_le hc l _ _ _
     | pan v h'=>exact (virtD_le hc l o.late (setDst o.dst skipped fr) h d).map (k:=fun w=>bif w then CRes.pan v h' else .bad) rfl
     | bad=>exact .same) (evOpsD_le hc l _ _ _)
theorem rcvM_le (hi:LeF ih ih') (m:FM) (nt:Nat) (caps:List AV) (p:AV) (h:Heap):Le .bad (rcvM ih m nt caps p h) (rcvM ih' m nt caps p h):=by
 cases m with
 | rcv d d2 rest=>exact .cond ((hi _ _ _).map rfl) .same
 | _=>exact .same
theorem rcvF_le (hi:LeF ih ih') (f:Nat) (caps:List AV) (p:AV) (h:Heap):Le .bad (rcvF E ih f caps p h) (rcvF E ih' f caps p h):=by
 unfold rcvF
 cases E.fn f with
 | none=>exact .same
 | some fi=>exact .cond (rcvM_le hi _ _ _ _ _) .same
theorem rcvA_le (hi:LeF ih ih') (x p:AV) (h:Heap):Le .bad (rcvA E ih x p h) (rcvA E ih' x p h):=by
 cases x with
 | fn f first caps =>
   cases f with
   | func n=>exact .cond (rcvF_le hi _ _ _ _) .same
   | _=>exact .same
 | _=>exact .same
theorem dfrEnd_le (hi:LeF ih ih') (x:AV) (rs:List ResultVar) (fr:Tr) (r:CRes):Le .bad (dfrEnd E ih x rs fr r) (dfrEnd E ih' x rs fr r):=by
 cases r with
 | ok e fr2 h =>
   cases e with
   | exit _=>exact .same
   | _=>exact (rcvA_le hi _ _ _).map (k:=leaveA E rs fr2) rfl
 | pan v h=>exact (rcvA_le hi _ _ _).map (k:=leaveA E rs fr) rfl
 | bad=>exact .same
theorem dfrA_le (hi:LeF ih ih') (g:Operand) (rest:XC) (rs:List ResultVar):∀(pre:List XC) (fr:Tr) (h:Heap),Le .bad (dfrA E ih g rest rs pre fr h) (dfrA E ih' g rest rs pre fr h)
 | [],fr,h=>(hi rest fr h).bind (k:=dfrEnd E ih (opv E g fr) rs fr) (k':=dfrEnd E ih' (opv E g fr) rs fr) rfl fun r=>dfrEnd_le hi _ _ _ r
 | p::pre,fr,h=>(hi p fr h).bind (k:=thenR (dfrA E ih g rest rs pre)) (k':=thenR (dfrA E ih' g rest rs pre)) rfl fun r=>by
   cases r with
   | ok e fr2 h2=>cases e with
     | normal=>exact dfrA_le hi g rest rs pre fr2 h2
     | _=>exact .same
   | _=>exact .same
theorem callPm_le (hi:LeF ih ih') (fi:FI) (args:List AV) (h:Heap):Le .bad (callPm E ih fi args h) (callPm E ih' fi args h):=by
 unfold callPm
 cases fi.mode with
 | plain=>exact (hi fi.code _ h).map (k:=afterBody E fi.results) rfl
 | _=>exact .same
theorem callPl_le (hi:LeF ih ih') (f:Nat) (args:List AV) (h:Heap):Le .bad (callPl E ih f args h) (callPl E ih' f args h):=by
 unfold callPl
 cases E.fn f with
 | none=>exact .same
 | some fi=>exact .cond (callPm_le hi _ _ _) .same
theorem obind_le {α β:Type} {x x':Option α} {f f':α→Option β} (h:Le none x x') (hf:∀a,Le none (f a) (f' a)):Le none (obind x f) (obind x' f') :=
 h.bind (k:=fun x=>obind x f) (k':=fun x=>obind x f') rfl fun x=>by
   cases x with
   | none=>exact .same
   | some a=>exact hf a
theorem guardO_le {α:Type} {t:Bool} {x x':Option α} (h:Le none x x'):Le none (guardO t x) (guardO t x'):=by
 cases t with
 | false=>exact .same
 | true=>exact h
theorem dlfE_le (ks:List Nat) {c c':AV × AV→Option Bool} (hc:∀q,Le none (c q) (c' q)):∀(es:List (AV × AV)),Le none (dlfE ks c es) (dlfE ks c' es)
 | []=>.same
 | q::es=>guardO_le (obind_le (hc q) fun b=>obind_le (dlfE_le ks hc es) fun r=>.same)
theorem dlfA_le (hi:LeF ih ih') (ks:List Nat) (args:List AV) (h:Heap):Le .bad (dlfA E ih ks args h) (dlfA E ih' ks args h):=by
 cases args with
 | nil=>exact .same
 | cons m r =>
   cases r with
   | nil=>exact .same
   | cons g r =>
     refine .cond ?_ .same
     cases m with
     | map id =>
       show Le .bad (dlfG E ih ks id g h) (dlfG E ih' ks id g h)
       cases g with
       | fn f first caps =>
         cases f with
         | func n =>
           refine .cond ?_ .same
           unfold dlfM
           cases h.get id with
           | none=>exact .same
           | some o =>
             cases o with
             | row _ _=>exact .same
             | mapo es =>
               refine .cond ?_ .same
               exact (dlfE_le ks (fun q=>(callPl_le hi n (q.1::q.2::caps) (hide h id)).map (k:=predR h.next) rfl) es).map (k:=fun x=>match x with | some es'=>Res.ok (.tup []) (h.set id (.mapo es')) | none=>.bad) rfl
         | _=>exact .same
       | _=>exact .same
     | _=>exact .same
theorem callM_le (hi:LeF ih ih') (fi:FI) (args:List AV) (h:Heap):Le .bad (callM E ih fi args h) (callM E ih' fi args h):=by
 unfold callM
 cases fi.mode with
 | plain=>exact (hi fi.code _ h).map (k:=afterBody E fi.results) rfl
 | dfr pre g rest=>exact dfrA_le hi _ _ _ _ _ _
 | rcv _ _ _=>exact .same
 | itf _=>exact (hi fi.code _ h).map (k:=afterBody E fi.results) rfl
theorem callA0_le (hi:LeF ih ih') (f:Nat) (args:List AV) (h:Heap):Le .bad (callA0 E ih f args h) (callA0 E ih' f args h):=by
 unfold callA0
 refine .cond .same ?_
 cases E.dlf f with
 | some ks=>exact dlfA_le hi ks args h
 | none =>
   dsimp only
   cases srtA E f args h with
   | some r=>exact .same
   | none =>
     dsimp only
     cases E.fn f with
     | none=>exact .same
     | some fi=>exact .cond (callM_le hi fi args h) .same
theorem callA_le (hi:LeF ih ih'):LeC (callA E ih) (callA E ih'):=fun f l h=>by
 unfold callA
 exact .cond ((callA0_le hi f l _).map rfl) (callA0_le hi f l h)
theorem thenI_le {k k':Tr→Heap→IRes} (hk:∀fr h,Le .bad (k fr h) (k' fr h)) {r r':CRes} (h:Le .bad r r'):Le .bad (thenI k r) (thenI k' r') :=
 h.bind (k:=thenI k) (k':=thenI k') rfl fun x=>by
   cases x with
   | ok e fr h=>cases e with
     | normal=>exact hk fr h
     | _=>exact .same
   | _=>exact .same
def LeY (Y Y':List AV→Heap→CRes):Prop:=∀l h,Le .bad (Y l h) (Y' l h)
theorem thenC_le {k k':Tr→Heap→CRes} (hk:∀fr h,Le .bad (k fr h) (k' fr h)) {r r':CRes} (h:Le .bad r r'):Le .bad (thenC k r) (thenC k' r') :=
 h.bind (k:=thenC k) (k':=thenC k') rfl fun x=>by
   cases x with
   | ok e fr h=>cases e with
     | normal=>exact hk fr h
     | _=>exact .same
   | _=>exact .same
theorem roundY_le (hi:LeF ih ih') (ps:List Tmp) (a b:XC) (fr:Tr):LeY (roundY ih ps a b fr) (roundY ih' ps a b fr):=fun l h =>
 .cond (thenC_le (fun fr h=>hi b fr h) (hi a _ h)) .same
theorem yldI_le (hi:LeF ih ih') (p2:XC) (yd:Tmp) (fr:Tr) {r r':CRes} (h:Le .bad r r'):Le .bad (yldI ih p2 yd fr r) (yldI ih' p2 yd fr r') :=
 h.bind (k:=yldI ih p2 yd fr) (k':=yldI ih' p2 yd fr) rfl fun x=>by
   cases x with
   | ok e fr h=>cases e <;> exact thenI_le (fun _ _=>.same) (hi _ _ _)
   | _=>exact .same
theorem yesI_le (hi:LeF ih ih') {Y Y':List AV→Heap→CRes} (hY:LeY Y Y') (nt:Nat) (gd:Option (Option Tmp × Bool)) (yt:Tmp) (p1:XC) (yd:Tmp) (args:List Operand) (p2:XC) (p:Option Ex) (fr:Tr) (h:Heap) :
   Le .bad (yesI E ih nt Y gd yt p1 yd args p2 p fr h) (yesI E ih' nt Y' gd yt p1 yd args p2 p fr h):=by
 unfold yesI
 cases p with
 | some _=>exact .same
 | none=>exact .cond (thenI_le (fun fr h=>onOB_le (yldI_le hi p2 yd fr (hY _ _)) .same) (hi _ _ _)) .same
theorem noI_le (hi:LeF ih ih') (gd:Option (Option Tmp × Bool)) (yt:Tmp) (p1:XC) (yd:Tmp) (p2:XC) (p:Option Ex) (fr:Tr) (h:Heap) :
   Le .bad (noI ih gd yt p1 yd p2 p fr h) (noI ih' gd yt p1 yd p2 p fr h):=by
 unfold noI
 exact thenI_le (fun fr h=>onOB_le .same (thenI_le (fun _ _=>.same) (hi _ _ _))) (hi _ _ _)
theorem seqI_le {b b':Option Ex→Tr→Heap→IRes} (hb:∀p fr h,Le .bad (b p fr h) (b' p fr h)) {r r':IRes} (h:Le .bad r r'):Le .bad (seqI b r) (seqI b' r') :=
 h.bind (k:=seqI b) (k':=seqI b') rfl fun x=>by
   cases x with
   | ok e p fr h=>cases e with
     | normal=>exact hb p fr h
     | _=>exact .same
   | bad=>exact .same
theorem evI_le (hi:LeF ih ih') {Y Y':List AV→Heap→CRes} (hY:LeY Y Y') (nt:Nat):∀(m:Nat) (c:IC) (p:Option Ex) (fr:Tr) (h:Heap),Le .bad (evI E ih nt Y m c p fr h) (evI E ih' nt Y' m c p fr h)
 | 0,c,p,fr,h=>.same
 | m+1,c,p,fr,h=>by
   have hm:=evI_le hi hY nt m
   show Le .bad (stepI E ih nt Y (evI E ih nt Y m) c p fr h) (stepI E ih' nt Y' (evI E ih' nt Y' m) c p fr h)
   cases c with
   | skip=>exact .same
   | reg x=>exact thenI_le (fun _ _=>.same) (hi _ _ _)
   | yreg p0 gd yt p1 yd args p2=>exact thenI_le (fun fr h=>onOB_le (yesI_le hi hY nt gd yt p1 yd args p2 p fr h) (noI_le hi gd yt p1 yd p2 p fr h)) (hi _ _ _)
   | seq a b=>exact seqI_le (fun p fr h=>hm b p fr h) (hm a p fr h)
   | cond x a b =>
     show Le .bad ((opv E x fr).onBool .bad fun t=>match t with | true=>evI E ih nt Y m a p fr h | false=>evI E ih nt Y m b p fr h) ((opv E x fr).onBool .bad fun t=>match t with | true=>evI E ih' nt Y' m a p fr h | false=>evI E ih' nt Y' m b p fr h)
     cases opv E x fr with
     | bool t=>cases t; exact hm b p fr h; exact hm a p fr h
     | _=>exact .same
   | block id c=>exact (hm c p fr h).map (k:=blockI id) rfl
   | loop c=>exact seqI_le (fun p fr h=>hm (.loop c) p fr h) (hm c p fr h)
   | exit i=>exact .same
   | ret=>exact .same
theorem itM_le (hi:LeF ih ih') {Y Y':List AV→Heap→CRes} (hY:LeY Y Y') (m:FM) (nt:Nat) (caps:List AV) (h:Heap):Le .bad (itM E ih m nt caps Y h) (itM E ih' m nt caps Y' h):=by
 cases m with
 | itf c=>exact (evI_le hi hY nt itMax c none _ h).map (k:=finI) rfl
 | _=>exact .same
theorem itF_le (hi:LeF ih ih') {Y Y':List AV→Heap→CRes} (hY:LeY Y Y') (f:Nat) (caps:List AV) (h:Heap):Le .bad (itF E ih f caps Y h) (itF E ih' f caps Y' h):=by
 unfold itF
 cases E.fn f with
 | none=>exact .same
 | some fi=>exact .cond (itM_le hi hY _ _ _ _) .same
theorem rfnA_le (hi:LeF ih ih') (ps:List Tmp) (a b:XC) (fr:Tr) (h:Heap) (g:AV):Le .bad (rfnA E ih ps a b fr h g) (rfnA E ih' ps a b fr h g):=by
 cases g with
 | fn f first caps =>
   cases f with
   | func n=>exact .cond ((itF_le hi (roundY_le hi ps a b fr) n caps h).map (k:=backA fr) rfl) .same
   | _=>exact .same
 | _=>exact .same
theorem seqA_le {b b':Tr→Heap→CRes} (hb:∀fr h,Le .bad (b fr h) (b' fr h)) {r r':CRes} (h:Le .bad r r'):Le .bad (seqA b r) (seqA b' r') :=
 h.bind (k:=seqA b) (k':=seqA b') rfl fun x=>by
   cases x with
   | ok e fr h=>cases e with
     | normal=>exact hb fr h
     | _=>exact .same
   | _=>exact .same
theorem rngStep_le (hi:LeF ih ih') (R:RngD) (B:XC) (frU:Tr) (w:Option Nat) (h0:Heap) (s:Nat × List (Int × Int)) (k:Int):Le none (rngStep ih R B frU w h0 s k) (rngStep ih' R B frU w h0 s k):=by
 unfold rngStep
 exact (hi _ _ _).map (b:=CRes.bad) (k:=fun r=>match r with | .ok e _ h1=>guardO (endOk R.i1 e && okTch s.1 w h1.tch) (rngRead w h1) | .pan _ _=>none | .bad=>none) rfl
theorem rngH_le {st st':Nat × List (Int × Int)→Int→Option (Nat × List (Int × Int))} (hs:∀s k,Le none (st s k) (st' s k)):∀(ks:List Int) (bs:List Bool) (s:Nat × List (Int × Int)),Le none (rngH st ks bs s) (rngH st' ks bs s)
 | [],bs,s=>.same
 | k::ks,[],s=>.same
 | k::ks,true::bs,s=>obind_le (hs s k) fun s'=>rngH_le hs ks bs s'
 | k::ks,false::bs,s=>rngH_le hs ks bs s
theorem eqO_le {a a' b b':Option (Nat × List (Int × Int))} (h1:Le none a a') (h2:Le none b b'):Le false (eqO a b) (eqO a' b'):=by
 rcases h1 with h | h <;> subst h
 · exact .inl rfl
 · rcases h2 with h | h <;> subst h
   · left; cases a' <;> rfl
   · exact .same
theorem all_le {α:Type} {p p':α→Bool} (h:∀x,Le false (p x) (p' x)):∀l:List α,Le false (l.all p) (l.all p')
 | []=>.same
 | x::l=>(h x).and (all_le h l)
theorem rngCk_le {st st':Nat × List (Int × Int)→Int→Option (Nat × List (Int × Int))} (hs:∀s k,Le none (st s k) (st' s k)) (ks:List Int) (s0:Nat × List (Int × Int)):Le false (rngCk st ks s0) (rngCk st' ks s0):=by
 unfold rngCk
 refine all_le (fun m=>all_le (fun i=>?_) _) _
 cases m[i]? with
 | none=>exact .same
 | some t =>
   cases t with
   | true=>exact .same
   | false =>
     dsimp only
     cases ks[i]? with
     | none=>exact .same
     | some k=>exact eqO_le (obind_le (rngH_le hs ks m s0) fun s=>hs s k) (rngH_le hs ks _ s0)
theorem rngW_le (hi:LeF ih ih') (R:RngD) (B:XC) (frU:Tr) (h0:Heap):∀ks:List Int,Le none (rngW ih R B frU h0 ks) (rngW ih' R B frU h0 ks)
 | []=>.same
 | k::ks=>(hi B (frU.set R.d7 (.int .i64 k)) h0).bind (b:=CRes.bad)
     (k:=fun r=>match r with | .ok _ _ h1=>obind (rngW ih R B frU h0 ks) fun r=>some (match firstBelow h0.next h1.tch with | some w=>some w | none=>r) | _=>none)
     (k':=fun r=>match r with | .ok _ _ h1=>obind (rngW ih' R B frU h0 ks) fun r=>some (match firstBelow h0.next h1.tch with | some w=>some w | none=>r) | _=>none) rfl fun x=>by
   cases x with
   | ok e fr h1=>exact obind_le (rngW_le hi R B frU h0 ks) fun _=>.same
   | _=>exact .same
theorem rngEv_le (hi:LeF ih ih') (R:RngD) (y:XC) (fr:Tr) (h:Heap):Le .bad (rngEv E ih R y fr h) (rngEv E ih' R y fr h):=by
 unfold rngEv
 cases opv E R.m fr with
 | map id =>
   dsimp only
   unfold rngM Heap.onMapo
   cases h.get id with
   | none=>exact .same
   | some o =>
     cases o with
     | row _ _=>exact .same
     | mapo es =>
       dsimp only
       cases keysI es with
       | none=>exact .same
       | some ks =>
         refine .cond ?_ .same
         refine (rngW_le hi R (projB y) (undAll R.ws fr) (hide h id) ks).bind (k:=rngG ih R (projB y) fr h id ks) (k':=rngG ih' R (projB y) fr h id ks) rfl fun w=>?_
         cases w with
         | none=>exact .same
         | some w =>
           show Le .bad (rngGo ih R (projB y) fr h id ks w) (rngGo ih' R (projB y) fr h id ks w)
           unfold rngGo
           cases rngInit (hide h id) w with
           | none=>exact .same
           | some s0 =>
             have hst:=rngStep_le hi R (projB y) (undAll R.ws fr) w (hide h id)
             refine (rngCk_le hst ks s0).bind (k:=fun c=>bif c then _ else CRes.bad) (k':=fun c=>bif c then _ else CRes.bad) rfl fun c=>.cond ?_ .same
             exact (rngH_le hst ks _ s0).map (k:=fun x=>match x with | none=>CRes.bad | some s=>bif Nat.ble h.next s.1 then .ok .normal (undAll R.ws fr) (rngOut h w s) else .bad) rfl
 | _=>exact .same
theorem step_le (hi:LeF ih ih') (c:XC) (fr:Tr) (h:Heap):Le .bad (step E ih c fr h) (step E ih' c fr h):=by
 have hcall:=callA_le (E:=E) hi
 cases c with
 | reg d l =>
   cases d with
   | false=>exact evOps_le hcall l fr h
   | true=>exact evOpsD_le hcall l fr h []
 | seq a b=>exact seqA_le (hi b) (hi a fr h)
 | loop a=>exact seqA_le (hi (.loop a)) (hi a fr h)
 | scope a=>exact hi a fr h
 | block id a=>exact (hi a fr h).map (k:=blockA id) rfl
 | cond x a b =>
   show Le .bad (condA (ih a) (ih b) (opv E x fr) fr h) (condA (ih' a) (ih' b) (opv E x fr) fr h)
   cases opv E x fr with
   | bool t=>cases t; exact hi b fr h; exact hi a fr h
   | _=>exact .same
 | rfn g ps a b=>exact rfnA_le hi ps a b fr h _
 | rngm R y=>exact rngEv_le hi R y fr h
 | _=>exact .same
theorem ev_le1:∀n:Nat,LeF (ev E n) (ev E (n+1))
 | 0=>fun c fr h=>.none
 | n+1=>fun c fr h=>step_le (ev_le1 n) c fr h
theorem ev_le (n k:Nat):LeF (ev E n) (ev E (n+k)):=by
 induction k with
 | zero=>exact fun _ _ _=>.same
 | succ k ih =>
   intro c fr h
   rcases ih c fr h with e | e
   · exact .inl e
   · rcases ev_le1 (E:=E) (n+k) c fr h with e2 | e2
     · exact .inl (e.symm.trans e2)
     · exact .inr (e2.trans e)
theorem call_le (n k:Nat):LeC (callA E (ev E n)) (callA E (ev E (n+k))):=callA_le (ev_le n k)
end
end Go.AM
namespace Go.AM
structure Lim {R:Type} (bad:R) (g:Nat→R) (r:R):Prop where
 ok:r≠bad→∃n,∀m,n≤m→g m=r
 no:r=bad→∀m,g m=bad
 early:∀n,g n=bad∨g n=r
open Classical in
noncomputable def limOf {R:Type} (bad:R) (g:Nat→R):R:=if hx:∃n,g n≠bad then g hx.choose else bad
theorem limOf_lim {R:Type} {bad:R} {g:Nat→R} (hm:∀n k,Le bad (g n) (g (n+k))):Lim bad g (limOf bad g):=by
 unfold limOf
 by_cases hx:∃n,g n≠bad
 · rw[dif_pos hx]
   have key:∀n,g n≠bad→∀m,n≤m→g m=g n:=fun n hn m hm'=>by
     have:=(hm n (m - n)).of_ne hn
     rwa [show n+(m - n)=m by omega] at this
   refine⟨fun _=>⟨hx.choose,key _ hx.choose_spec⟩,fun e=>absurd e hx.choose_spec,fun n=>?_⟩
   by_cases e:g n=bad
   · exact .inl e
   · refine .inr ?_
     rw[← key n e (n+hx.choose) (by omega),key _ hx.choose_spec (n+hx.choose) (by omega)]
 · rw[dif_neg hx]
   have:∀n,g n=bad:=fun n=>Classical.byContradiction fun hn=>hx ⟨n,hn⟩
   exact⟨fun e=>absurd rfl e,fun _ m=>this m,fun n=>.inl (this n)⟩
theorem Lim.unique {R:Type} {bad:R} {g:Nat→R} {r r':R} (h:Lim bad g r) (h':Lim bad g r'):r=r':=by
 by_cases e:r=bad
 · by_cases e':r'=bad
   · rw[e,e']
   · obtain⟨n,hn⟩:=h'.ok e'
     exact absurd ((hn n (Nat.le_refl _)).symm.trans (h.no e n)) e'
 · by_cases e':r'=bad
   · obtain⟨n,hn⟩:=h.ok e
     exact absurd ((hn n (Nat.le_refl _)).symm.trans (h'.no e' n)) e
   · obtain⟨n,hn⟩:=h.ok e
     obtain⟨m,hm⟩:=h'.ok e'
     exact (hn (n+m) (by omega)).symm.trans (hm (n+m) (by omega))
theorem Lim.const {R:Type} {bad r:R}:Lim bad (fun _=>r) r:=⟨fun _=>⟨0,fun _ _=>rfl⟩,fun e _=>e,fun _=>.inr rfl⟩
theorem Lim.shift {R:Type} {bad:R} {g:Nat→R} {r:R} (h:Lim bad (fun n=>g (n+1)) r) (h0:g 0=bad):Lim bad g r:=by
 refine⟨fun e=>?_,fun e m=>?_,fun m=>?_⟩
 · obtain⟨n,hn⟩:=h.ok e
   exact⟨n+1,fun m hm=>by have:=hn (m - 1) (by omega); rwa [show m - 1+1=m by omega] at this⟩
 · cases m with
   | succ m=>exact h.no e m
   | zero=>exact h0
 · cases m with
   | succ m=>exact h.early m
   | zero=>exact .inl h0
theorem Lim.bind {R S:Type} {bad:R} {bad':S} {g:Nat→R} {r:R} {k:Nat→R→S} {s:R→S} (hg:Lim bad g r) (hk:∀n,k n bad=bad') (hs:s bad=bad') (hl:r≠bad→Lim bad' (fun n=>k n r) (s r)):Lim bad' (fun n=>k n (g n)) (s r):=by
 by_cases e:r=bad
 · subst e
   have:∀n,k n (g n)=bad':=fun n=>by rw[hg.no rfl n]; exact hk n
   exact⟨fun e=>absurd hs e,fun _ m=>this m,fun n=>.inl (this n)⟩
 · have hl:=hl e
   refine⟨fun e'=>?_,fun e' m=>?_,fun m=>?_⟩
   · obtain⟨n,hn⟩:=hg.ok e
     obtain⟨m,hm⟩:=hl.ok e'
     exact⟨n+m,fun q hq=>by show k q (g q)=_; rw[hn q (by omega)]; exact hm q (by omega)⟩
   · show k m (g m)=bad'
     rcases hg.early m with h | h
     · rw[h]; exact hk m
     · rw[h]; exact hl.no e' m
   · rcases hg.early m with h | h
     · exact .inl (by show k m (g m)=bad'; rw[h]; exact hk m)
     · show k m (g m)=bad'∨k m (g m)=s r
       rw[h]; exact hl.early m
section
variable {E:Env}
noncomputable def evω (E:Env):CodeF:=fun c fr h=>limOf .bad fun n=>ev E n c fr h
noncomputable def callω (E:Env):CallF:=fun f l h=>limOf .bad fun n=>callA E (ev E n) f l h
theorem ev_lim (c:XC) (fr:Tr) (h:Heap):Lim .bad (fun n=>ev E n c fr h) (evω E c fr h):=limOf_lim fun n k=>ev_le n k c fr h
theorem callA_lim (f:Nat) (l:List AV) (h:Heap):Lim .bad (fun n=>callA E (ev E n) f l h) (callω E f l h):=limOf_lim fun n k=>call_le n k f l h
theorem evOp_lim (op:Op) (fr:Tr) (h:Heap):Lim .bad (fun n=>evOp E (callA E (ev E n)) op fr h) (evOp E (callω E) op fr h):=by
 cases op with
 | call c =>
   obtain⟨callee,args,ts⟩:=c
   cases callee with
   | value f =>
     show Lim .bad (fun n=>callFn (callA E (ev E n)) (opv E f fr) (opvs E args.toList fr) h) (callFn (callω E) (opv E f fr) (opvs E args.toList fr) h)
     cases opv E f fr with
     | fn g first caps =>
       cases g with
       | func n=>exact callA_lim _ _ _
       | _=>exact .const
     | _=>exact .const
   | _=>exact .const
 | _=>exact .const
theorem evOps_lim:∀(l:List XOp) (fr:Tr) (h:Heap),Lim .bad (fun n=>evOps E (callA E (ev E n)) l fr h) (evOps E (callω E) l fr h)
 | [],fr,h=>.const
 | o::l,fr,h=>by
   have e:∀call:CallF,evOps E call (o::l) fr h=onOB (guardOk o.gd fr) .bad (evThen o.dst (evOps E call l) fr (evOp E call o.op fr h)) (evOps E call l (setDst o.dst skipped fr) h):=fun _=>rfl
   simp only[e]
   cases guardOk o.gd fr with
   | none=>exact .const
   | some b =>
     cases b with
     | false=>exact evOps_lim l _ _
     | true =>
       show Lim .bad (fun n=>evThen o.dst (evOps E (callA E (ev E n)) l) fr (evOp E (callA E (ev E n)) o.op fr h)) (evThen o.dst (evOps E (callω E) l) fr (evOp E (callω E) o.op fr h))
       refine (evOp_lim (E:=E) o.op fr h).bind (k:=fun n r=>evThen o.dst (evOps E (callA E (ev E n)) l) fr r) (s:=fun r=>evThen o.dst (evOps E (callω E) l) fr r) (fun _=>rfl) rfl (fun hne=>?_)
       generalize evOp E (callω E) o.op fr h=r at hne
       cases r with
       | ok v h'=>exact evOps_lim l _ _
       | pan v h'=>exact .const
       | bad=>exact .const
theorem evOpD_lim (o:XOp) (fr:Tr) (h:Heap) (d:List Nat):Lim .bad (fun n=>evOpD E (callA E (ev E n)) o fr h d) (evOpD E (callω E) o fr h d):=by
 unfold evOpD
 cases o.quiet with
 | true =>
   simp only[cond_true]
   exact (evOp_lim (E:=E) o.op fr { h with tch:=[] }).bind (k:=fun _ r=>quietD h.next h.tch d r) (s:=fun r=>quietD h.next h.tch d r) (fun _=>rfl) rfl (fun _=>.const)
 | false =>
   simp only[cond_false]
   have key:=(evOp_lim (E:=E) o.op fr h).bind (k:=fun _ r=>plainD' d r) (s:=fun r=>plainD' d r) (fun _=>rfl) rfl (fun _=>.const)
   cases o.careful with
   | false=>exact key
   | true =>
     simp only[cond_true]
     cases readOk (readO E o.op fr) d with
     | false=>exact .const
     | true=>exact key
theorem virtD_lim:∀(l:List XOp) (late:List Bool) (fr:Tr) (h:Heap) (d:List Nat),Lim false (fun n=>virtD E (callA E (ev E n)) l late fr h d) (virtD E (callω E) l late fr h d)
 | [],_,_,_,_=>.const
 | o::l,[],fr,h,d=>.const
 | o::l,true::late,fr,h,d=>virtD_lim l late _ h d
 | o::l,false::late,fr,h,d=>by
   show Lim false (fun n=>onOB (guardOk o.gd fr) false (virtThen o.dst (virtD E (callA E (ev E n)) l late) fr (evOpD E (callA E (ev E n)) o fr h d)) (virtD E (callA E (ev E n)) l late (setDst o.dst skipped fr) h d)) (onOB (guardOk o.gd fr) false (virtThen o.dst (virtD E (callω E) l late) fr (evOpD E (callω E) o fr h d)) (virtD E (callω E) l late (setDst o.dst skipped fr) h d))
   cases guardOk o.gd fr with
   | none=>exact .const
   | some b =>
     cases b with
     | false=>exact virtD_lim l late _ h d
     | true =>
       refine (evOpD_lim (E:=E) o fr h d).bind (k:=fun n r=>virtThen o.dst (virtD E (callA E (ev E n)) l late) fr r) (s:=fun r=>virtThen o.dst (virtD E (callω E) l late) fr r) (fun _=>rfl) rfl (fun hne=>?_)
       generalize evOpD E (callω E) o fr h d=r at hne
       cases r with
       | ok v h' d'=>exact virtD_lim l late _ _ _
       | pan v h'=>exact .const
       | bad=>exact .const
theorem evOpsD_lim:∀(l:List XOp) (fr:Tr) (h:Heap) (d:List Nat),Lim .bad (fun n=>evOpsD E (callA E (ev E n)) l fr h d) (evOpsD E (callω E) l fr h d)
 | [],fr,h,d=>.const
 | o::l,fr,h,d=>by
   have e:∀call:CallF,evOpsD E call (o::l) fr h d=onOB (guardOk o.gd fr) .bad (evThenD o.dst (evOpsD E call l) (virtD E call l o.late (setDst o.dst skipped fr) h d) fr (evOpD E call o fr h d)) (evOpsD E call l (setDst o.dst skipped fr) h d):=fun _=>rfl
   simp only[e]
   cases guardOk o.gd fr with
   | none=>exact .const
   | some b =>
     cases b with
     | false=>exact evOpsD_lim l _ _ _
     | true =>
       refine (evOpD_lim (E:=E) o fr h d).bind (k:=fun n r=>evThenD o.dst (evOpsD E (callA E (ev E n)) l) (virtD E (callA E (ev E n)) l o.late (setDst o.dst skipped fr) h d) fr r) (s:=fun r=>evThenD o.dst (evOpsD E (callω E) l) (virtD E (callω E) l o.late (setDst o.dst skipped fr) h d) fr r) (fun _=>rfl) rfl (fun hne=>?_)
       generalize evOpD E (callω E) o fr h d=r at hne
       cases r with
       | ok v h' d'=>exact evOpsD_lim l _ _ _
       | pan v h'=>exact (virtD_lim l o.late (setDst o.dst skipped fr) h d).bind (k:=fun _ w=>bif w then CRes.pan v h' else .bad) (s:=fun w=>bif w then CRes.pan v h' else .bad) (fun _=>rfl) rfl (fun _=>.const)
       | bad=>exact .const
theorem seqA_lim (a b:XC) (fr:Tr) (h:Heap):Lim .bad (fun n=>seqA (ev E n b) (ev E n a fr h)) (seqA (evω E b) (evω E a fr h)):=by
 refine (ev_lim (E:=E) a fr h).bind (k:=fun n r=>seqA (ev E n b) r) (s:=fun r=>seqA (evω E b) r) (fun _=>rfl) rfl (fun hne=>?_)
 generalize evω E a fr h=r at hne
 cases r with
 | ok e fr' h'=>cases e with
   | normal=>exact ev_lim b fr' h'
   | _=>exact .const
 | pan v h'=>exact .const
 | bad=>exact .const
theorem evω_of {c:XC} {fr:Tr} {h:Heap} {r:CRes} (hl:Lim .bad (fun n=>ev E (n+1) c fr h) r):evω E c fr h=r:=(ev_lim (E:=E) c fr h).unique (Lim.shift hl rfl)
theorem w_skip {fr:Tr} {h:Heap}:evω E .skip fr h=.ok .normal fr h:=evω_of .const
theorem w_ret {fr:Tr} {h:Heap}:evω E .ret fr h=.ok .ret fr h:=evω_of .const
theorem w_exit {fr:Tr} {h:Heap} (i:Nat):evω E (.exit i) fr h=.ok (.exit i) fr h:=evω_of .const
theorem w_seq {fr:Tr} {h:Heap} (a b:XC):evω E (.seq a b) fr h=seqA (evω E b) (evω E a fr h):=evω_of (seqA_lim a b fr h)
theorem w_reg {fr:Tr} {h:Heap} (l:List XOp):evω E (.reg false l) fr h=evOps E (callω E) l fr h:=evω_of (evOps_lim l fr h)
theorem w_regD {fr:Tr} {h:Heap} (l:List XOp):evω E (.reg true l) fr h=evOpsD E (callω E) l fr h []:=evω_of (evOpsD_lim l fr h [])
theorem w_cond {fr:Tr} {h:Heap} (x:Operand) (a b:XC):evω E (.cond x a b) fr h=condA (evω E a) (evω E b) (opv E x fr) fr h:=evω_of (by
 show Lim .bad (fun n=>condA (ev E n a) (ev E n b) (opv E x fr) fr h) (condA (evω E a) (evω E b) (opv E x fr) fr h)
 cases opv E x fr with
 | bool t=>cases t; exact ev_lim b fr h; exact ev_lim a fr h
 | _=>exact .const)
theorem w_block {fr:Tr} {h:Heap} (i:Nat) (a:XC):evω E (.block i a) fr h=blockA i (evω E a fr h) :=
 evω_of ((ev_lim (E:=E) a fr h).bind (k:=fun _ r=>blockA i r) (s:=fun r=>blockA i r) (fun _=>rfl) rfl (fun _=>.const))
theorem w_loop {fr:Tr} {h:Heap} (a:XC):evω E (.loop a) fr h=seqA (evω E (.loop a)) (evω E a fr h):=evω_of (seqA_lim a (.loop a) fr h)
theorem w_scope {fr:Tr} {h:Heap} (a:XC):evω E (.scope a) fr h=evω E a fr h:=evω_of (ev_lim a fr h)
theorem call_eq {f:Nat} {args:List AV} {h:Heap} {c:XC} {n:Nat} {rs:List ResultVar} (hg:E.gc f=false) (ht:E.told f=false) (hd:E.dlf f=none) (hs:∀args h,srtA E f args h=none) (hf:E.fn f=some ⟨c,n,rs,.plain⟩) (hn:args.length≤n) :
   callω E f args h=afterBody E rs (evω E c (Tr.enter n args) h):=by
 refine (callA_lim (E:=E) f args h).unique ?_
 have e:∀m,callA E (ev E m) f args h=afterBody E rs (ev E m c (Tr.enter n args) h):=fun m=>by
   unfold callA
   rw[hg]
   show callA0 E (ev E m) f args h=_
   unfold callA0
   rw[ht,hd,hs,hf]
   show (bif Nat.ble (lenL args) n then callM E (ev E m) ⟨c,n,rs,.plain⟩ args h else .bad)=_
   rw[lenL_eq,Nat.ble_eq_true_of_le hn]
   rfl
 simp only[e]
 exact (ev_lim (E:=E) c (Tr.enter n args) h).bind (k:=fun _ r=>afterBody E rs r) (s:=afterBody E rs) (fun _=>rfl) rfl (fun _=>.const)
theorem run_of_callω {f:Nat} {l:List AV} {h:Heap} {r:Res} (hc:callω E f l h=r) (hb:r≠.bad):∃n,run E n f l h=r:=by
 obtain⟨n,hn⟩:=(callA_lim (E:=E) f l h).ok (by rw[hc]; exact hb)
 exact⟨n,(hn n (Nat.le_refl _)).trans hc⟩
end
end Go.AM
namespace Go.AM
theorem Tr.has_mk':∀(f n i:Nat),n < 2 ^ f→(Tr.mk f n).has i=decide (i < n)
 | 0,n,i,h=>by
   have:n=0:=by simpa using h
   subst this; simp[Tr.mk_zero]; rfl
 | f+1,0,i,_=>by simp[Tr.mk_succ_zero]; rfl
 | f+1,k+1,0,_=>by rw[Tr.mk_succ]; simp[Tr.has_zero]
 | f+1,k+1,i+1,h=>by
   rw[Tr.mk_succ,Tr.has_succ]
   have e1:Nat.shiftRight i 1=i / 2:=Nat.shiftRight_eq_div_pow i 1
   have e2:Nat.land i 1=i % 2:=Nat.and_one_is_mod i
   have e3:Nat.div (k+1) 2=(k+1) / 2:=rfl
   have e4:Nat.div k 2=k / 2:=rfl
   rw[e1,e2,e3,e4]
   rw[Nat.pow_succ] at h
   rcases Nat.mod_two_eq_zero_or_one i with hi | hi <;> rw[hi]
   · show (Tr.mk f ((k+1) / 2)).has (i / 2)=_
     rw[Tr.has_mk' f _ _ (by omega),decide_eq_decide]; omega
   · show (Tr.mk f (k / 2)).has (i / 2)=_
     rw[Tr.has_mk' f _ _ (by omega),decide_eq_decide]; omega
noncomputable def fset (n:Nat) (l:List (Nat × AV)):Tr:=List.rec (motive:=fun _=>Tr) (Tr.mk 20 n) (fun p _ t=>t.set p.1 p.2) l
def look (l:List (Nat × AV)) (i:Nat):AV:=match l with | []=>.und | p::r=>if p.1=i then p.2 else look r i
theorem fset_has (n i:Nat) (h:n < 1048576):∀l,(fset n l).has i=decide (i < n)
 | []=>Tr.has_mk' 20 n i h
 | p::l=>by show ((fset n l).set p.1 p.2).has i=_; rw[Tr.has_set]; exact fset_has n i h l
theorem fset_get {n i:Nat} (h:n < 1048576) (hi:i < n):∀l,(fset n l).get i=look l i
 | []=>Tr.get_mk 20 n i
 | p::l=>by
   show ((fset n l).set p.1 p.2).get i=if p.1=i then p.2 else look l i
   by_cases e:p.1=i
   · subst e; rw[Tr.get_set_eq,fset_has n _ h,if_pos rfl]; simp[hi]
   · rw[Tr.get_set_ne _ _ _ _ e,if_neg e]; exact fset_get h hi l
theorem setDst_fset (n i:Nat) (v:AV) (l:List (Nat × AV)):setDst (some i) v (fset n l)=fset n ((i,v)::l):=rfl
theorem setDst_none (v:AV) (fr:Tr):setDst none v fr=fr:=rfl
theorem look_cons (j:Nat) (v:AV) (l:List (Nat × AV)) (i:Nat):look ((j,v)::l) i=if j=i then v else look l i:=rfl
theorem look_nil (i:Nat):look [] i=.und:=rfl
theorem enter_eq (n:Nat) (l:List AV):Tr.enter n l=Tr.setAll l 0 (fset n []):=rfl
theorem setAll_nil (i:Nat) (t:Tr):Tr.setAll [] i t=t:=rfl
theorem setAll_cons (v:AV) (l:List AV) (i n:Nat) (m:List (Nat × AV)):Tr.setAll (v::l) i (fset n m)=Tr.setAll l (i+1) (fset n ((i,v)::m)):=rfl
section
variable {E:Env} {fr:Tr} {h:Heap}
theorem seqA_normal (b:Tr→Heap→CRes) (fr:Tr) (h:Heap):seqA b (.ok .normal fr h)=b fr h:=rfl
theorem seqA_ret (b:Tr→Heap→CRes) (fr:Tr) (h:Heap):seqA b (.ok .ret fr h)=.ok .ret fr h:=rfl
theorem seqA_exit (b:Tr→Heap→CRes) (i:Nat) (fr:Tr) (h:Heap):seqA b (.ok (.exit i) fr h)=.ok (.exit i) fr h:=rfl
theorem blockA_normal (i:Nat) (fr:Tr) (h:Heap):blockA i (.ok .normal fr h)=.ok .normal fr h:=rfl
theorem blockA_ret (i:Nat) (fr:Tr) (h:Heap):blockA i (.ok .ret fr h)=.ok .ret fr h:=rfl
theorem blockA_exit (i j:Nat) (fr:Tr) (h:Heap):blockA i (.ok (.exit j) fr h)=if j=i then .ok .normal fr h else .ok (.exit j) fr h:=by
 show (bif Nat.beq j i then CRes.ok .normal fr h else .ok (.exit j) fr h)=_
 by_cases e:j=i
 · subst e; simp
 · rw[Heap.beq_false e,if_neg e]; rfl
theorem condA_true (t f:Tr→Heap→CRes):condA t f (.bool true) fr h=t fr h:=rfl
theorem condA_false (t f:Tr→Heap→CRes):condA t f (.bool false) fr h=f fr h:=rfl
variable {call:CallF}
theorem o_nil:evOps E call [] fr h=.ok .normal fr h:=rfl
theorem o_plain (d:Option Tmp) (op:Op) (q:Bool) (s:List Bool) (c:Bool) (l:List XOp):evOps E call (⟨d,op,none,q,s,c⟩::l) fr h=evThen d (evOps E call l) fr (evOp E call op fr h):=rfl
theorem o_guard (d:Option Tmp) (op:Op) (t:Tmp) (w q:Bool) (s:List Bool) (c:Bool) (l:List XOp) :
   evOps E call (⟨d,op,some (some t,w),q,s,c⟩::l) fr h=onOB (isWant w (fr.get t)) .bad (evThen d (evOps E call l) fr (evOp E call op fr h)) (evOps E call l (setDst d skipped fr) h):=rfl
theorem o_skip {d:Option Tmp} {op:Op} {t:Tmp} {w q:Bool} {s:List Bool} {c:Bool} {l:List XOp} (hg:isWant w (fr.get t)=some false):evOps E call (⟨d,op,some (some t,w),q,s,c⟩::l) fr h=evOps E call l (setDst d skipped fr) h:=by
 rw[o_guard,hg]; rfl
theorem o_done {d:Option Tmp} {op:Op} {t:Tmp} {w q:Bool} {s:List Bool} {c:Bool} {l:List XOp} (hg:isWant w (fr.get t)=some true):evOps E call (⟨d,op,some (some t,w),q,s,c⟩::l) fr h=evThen d (evOps E call l) fr (evOp E call op fr h):=by
 rw[o_guard,hg]; rfl
theorem evThen_ok (d:Option Tmp) (k:Tr→Heap→CRes) (v:AV) (h:Heap):evThen d k fr (.ok v h)=k (setDst d v fr) h:=rfl
theorem isWant_true (b:Bool):isWant true (.bool b)=some b:=rfl
theorem isWant_false (b:Bool):isWant false (.bool b)=some (!b):=rfl
theorem isWant_skipped (w:Bool):isWant w skipped=some false:=rfl
theorem p_move (x:Operand):evOp E call (.move x) fr h=.ok (opv E x fr) h:=rfl
theorem p_assign (x:Operand):evOp E call (.assign x) fr h=.ok (opv E x fr) h:=rfl
def pickA (c a b:AV) (h:Heap):Res:=match c with | .bool t=>(match t with | true=>.ok a h | false=>.ok b h) | _=>.bad
theorem p_pick (c a b:Operand):evOp E call (.pick c a b) fr h=pickA (opv E c fr) (opv E a fr) (opv E b fr) h:=by
 show (opv E c fr).onBool .bad (fun t=>match t with | true=>Res.ok (opv E a fr) h | false=>.ok (opv E b fr) h)=_
 cases opv E c fr with
 | bool b=>cases b <;> rfl
 | _=>rfl
theorem pickA_true (a b:AV):pickA (.bool true) a b h=.ok a h:=rfl
theorem pickA_false (a b:AV):pickA (.bool false) a b h=.ok b h:=rfl
noncomputable def binO (E:Env) (op:BinOp) (t:Nat) (x y:AV):Option AV:=orO (ptrB E op t x y) (binOpA op (flatOf E t) x y)
theorem p_binOp (op:BinOp) (t u:Nat) (x y:Operand):evOp E call (.binOp op t x y u) fr h=lift (binO E op t (opv E x fr) (opv E y fr)) h:=rfl
theorem bo_int (op:BinOp) (t:Nat) (k:IntKind) (a:Int) (y:AV):binO E op t (.int k a) y=binOpA op (flatOf E t) (.int k a) y:=by cases op <;> rfl
theorem bo_bool (op:BinOp) (t:Nat) (a:Bool) (y:AV):binO E op t (.bool a) y=binOpA op (flatOf E t) (.bool a) y:=by cases op <;> rfl
theorem bo_str (op:BinOp) (t:Nat) (a:List UInt8) (y:AV):binO E op t (.str a) y=binOpA op (flatOf E t) (.str a) y:=by cases op <;> rfl
theorem bo_agg (op:BinOp) (t:Nat) (a:List AV) (y:AV):binO E op t (.agg a) y=binOpA op (flatOf E t) (.agg a) y:=by cases op <;> rfl
theorem p_unOp (op:UnOp) (t:Nat) (x:Operand):evOp E call (.unOp op t x) fr h=lift (unOpA op (opv E x fr)) h:=rfl
noncomputable def exA (x:AV) (i:Nat) (h:Heap):Res:=match x with | .tup vs=>lift vs[i]? h | _=>.bad
theorem p_extract (t:Operand) (i:Nat):evOp E call (.extract t i) fr h=exA (opv E t fr) i h:=by
 show (opv E t fr).onTup .bad (fun vs=>lift (nthL vs i) h)=_
 cases opv E t fr with
 | tup vs=>show lift (nthL vs i) h=lift vs[i]? h; rw[nthL_eq]
 | _=>rfl
theorem exA_tup (vs:List AV) (i:Nat):exA (.tup vs) i h=lift vs[i]? h:=rfl
theorem p_call (f:Nat) (args:Array Operand) (ts:Array TypeId):evOp E call (.call ⟨.value (.func f),args,ts⟩) fr h=call f (opvs E args.toList fr) h:=by
 show call f (appL [] (appL (opvs E args.toList fr) [])) h=_
 rw[appL_eq,appL_eq]; simp
theorem lift_some' (v:AV):lift (some v) h=.ok v h:=rfl
theorem opvs_nil:opvs E [] fr=[]:=rfl
theorem opvs_cons (x:Operand) (l:List Operand):opvs E (x::l) fr=opv E x fr::opvs E l fr:=rfl
theorem v_tmp {n i:Nat} (l:List (Nat × AV)) (h:n < 1048576) (hi:i < n):opv E (.tmp i) (fset n l)=look l i:=fset_get h hi l
theorem v_int (k:IntKind) (n:Int):opv E (.const (.int k n)) fr=.int k n:=rfl
theorem v_bool (b:Bool):opv E (.const (.bool b)) fr=.bool b:=rfl
theorem v_str (s:List UInt8):opv E (.const (.string ⟨⟨s⟩⟩)) fr=.str s:=rfl
theorem mkInt_eq (k:IntKind) (n:Int):mkInt k n=some (.int k n):=forceI_eq _ _
theorem mkWrap_eq (k:IntKind) (n:Int):mkWrap k n=some (.int k (k.wrap n)):=by unfold mkWrap; rw[mkInt_eq,wrapK_eq]
theorem mkBool_eq (b:Bool):mkBool b=some (.bool b):=by cases b <;> rfl
theorem kindEq_refl (k:IntKind):kindEq k k=true:=(kindEq_iff k k).2 rfl
theorem int2_eq (k:IntKind) (a b:Int) (f:IntKind→Int→Int→Option AV):int2 (.int k a) (.int k b) f=f k a b:=by
 show (bif kindEq k k then f k a b else none)=_
 rw[kindEq_refl]; rfl
theorem b_add (fl:EqK) (k:IntKind) (a b:Int):binOpA .add fl (.int k a) (.int k b)=some (.int k (k.wrap (a+b))):=by
 show int2 (.int k a) (.int k b) (fun k a b=>mkWrap k (a+b))=_; rw[int2_eq,mkWrap_eq]
theorem b_sub (fl:EqK) (k:IntKind) (a b:Int):binOpA .sub fl (.int k a) (.int k b)=some (.int k (k.wrap (a - b))):=by
 show int2 _ _ _=_; rw[int2_eq,mkWrap_eq]
theorem b_mul (fl:EqK) (k:IntKind) (a b:Int):binOpA .mul fl (.int k a) (.int k b)=some (.int k (k.wrap (a * b))):=by
 show int2 _ _ _=_; rw[int2_eq,mkWrap_eq]
theorem b_eql (fl:EqK) (k:IntKind) (a b:Int):binOpA .eql fl (.int k a) (.int k b)=some (.bool (decide (a=b))):=by
 show obind (bif kindEq k k then some (intEq a b) else none) mkBool=_
 rw[kindEq_refl,intEq_eq]
 show mkBool (a == b)=_
 rw[mkBool_eq]; congr 2
theorem b_neq (fl:EqK) (k:IntKind) (a b:Int):binOpA .neq fl (.int k a) (.int k b)=some (.bool (!decide (a=b))):=by
 show obind (bif kindEq k k then some (intEq a b) else none) (fun b=>mkBool (!b))=_
 rw[kindEq_refl,intEq_eq]
 show mkBool (!(a == b))=_
 rw[mkBool_eq]; congr 2
theorem b_eqlS (fl:EqK) (a b:List UInt8):binOpA .eql fl (.str a) (.str b)=some (.bool (decide (a=b))):=by
 show obind (some (strEq a b)) mkBool=_
 rw[strEq_eq]
 show mkBool (a == b)=_
 rw[mkBool_eq]; congr 2; by_cases e:a=b <;> simp[e]
theorem b_neqS (fl:EqK) (a b:List UInt8):binOpA .neq fl (.str a) (.str b)=some (.bool (!decide (a=b))):=by
 show obind (some (strEq a b)) (fun b=>mkBool (!b))=_
 rw[strEq_eq]
 show mkBool (!(a == b))=_
 rw[mkBool_eq]; congr 2; by_cases e:a=b <;> simp[e]
theorem b_eqlB (a b:Bool):binOpA .eql .bool (.bool a) (.bool b)=some (.bool (decide (a=b))):=by
 show obind (some (a == b)) mkBool=_
 show mkBool (a == b)=_
 rw[mkBool_eq]; cases a <;> cases b <;> rfl
theorem b_lss (fl:EqK) (k:IntKind) (a b:Int):binOpA .lss fl (.int k a) (.int k b)=some (.bool (decide (a < b))):=by
 show int2 _ _ _=_; rw[int2_eq,mkBool_eq,intLe_eq]; congr 2; by_cases h:a < b <;> simp[h] <;> omega
theorem b_leq (fl:EqK) (k:IntKind) (a b:Int):binOpA .leq fl (.int k a) (.int k b)=some (.bool (decide (a≤b))):=by
 show int2 _ _ _=_; rw[int2_eq,mkBool_eq,intLe_eq]
theorem b_gtr (fl:EqK) (k:IntKind) (a b:Int):binOpA .gtr fl (.int k a) (.int k b)=some (.bool (decide (b < a))):=by
 show int2 _ _ _=_; rw[int2_eq,mkBool_eq,intLe_eq]; congr 2; by_cases h:b < a <;> simp[h] <;> omega
theorem b_geq (fl:EqK) (k:IntKind) (a b:Int):binOpA .geq fl (.int k a) (.int k b)=some (.bool (decide (b≤a))):=by
 show int2 _ _ _=_; rw[int2_eq,mkBool_eq,intLe_eq]
theorem u_neg (k:IntKind) (a:Int):unOpA .neg (.int k a)=some (.int k (k.wrap (0 - a))):=mkWrap_eq _ _
theorem u_not (a:Bool):unOpA .not (.bool a)=some (.bool (!a)):=mkBool_eq _
theorem c_int (k j:IntKind) (n:Int):convertA (.int k) (.int j n)=some (.int k (k.wrap n)):=mkWrap_eq _ _
theorem after_ret (rs:List ResultVar):afterBody E rs (.ok .ret fr h)=resOf (resultsA E rs fr h) h:=rfl
theorem after_normal (rs:List ResultVar):afterBody E rs (.ok .normal fr h)=resOf (resultsA E rs fr h) h:=rfl
theorem res_nil:resultsA E [] fr h=some []:=rfl
theorem res_tmp (t:Tmp) (l:List ResultVar):resultsA E (.tmp t::l) fr h=obind (resultsA E l fr h) fun vs=>some (fr.get t::vs):=rfl
theorem obind_some' {α β:Type} (a:α) (f:α→Option β):obind (some a) f=f a:=rfl
theorem resOf_some (vs:List AV):resOf (some vs) h=.ok (oneOrTup vs) h:=rfl
theorem one_one (v:AV):oneOrTup [v]=v:=rfl
theorem one_two (v w:AV):oneOrTup [v,w]=.tup [v,w]:=rfl
theorem one_nil:oneOrTup []=.tup []:=rfl
theorem get_fset {n i:Nat} (l:List (Nat × AV)) (h:n < 1048576) (hi:i < n):(fset n l).get i=look l i:=fset_get h hi l
end
end Go.AM
namespace Go.AM
def idIn (I:Nat→Prop) (v:AV):Prop:=match v with | .msl id _ _ _=>I id | .fsl _ b=>b=false | _=>True
structure Sl (I:Nat→Prop) (h:Heap) (sz:Nat) (v:AV) (es:List AV):Prop where
 el:elems v h=some es
 szE:∀id off n s,v=.msl id off n s→s=sz
 cl:∀(i:Nat) x,es[i]?=some x→x.cells.length=sz
 ids:idIn I v
def pIx (v:AV) (i:Nat):AV:=match v with | .fsl es _=>(match es[i]? with | some x=>.fptr x 0 | none=>.und) | .msl id off _ _=>.ptr id (off+i) 0 | _=>.und
def pOff (p:AV) (d:Nat):AV:=match p with | .fptr v o=>.fptr v (o+d) | .ptr id i o=>.ptr id i (o+d) | _=>.und
def At (h:Heap) (p:AV) (x:AV) (o:Nat):Prop:=p=.fptr x o∨∃id i es sz,p=.ptr id i o∧h.get id=some (.row es sz)∧es[i]?=some x
theorem onRow_eq {α:Type} {h:Heap} {id:Nat} {es:List AV} {sz:Nat} {d:α} {f:List AV→Nat→α} (hg:h.get id=some (.row es sz)):h.onRow id d f=f es sz:=by
 unfold Heap.onRow; rw[hg]
theorem At.load {h:Heap} {p x:AV} {o:Nat} (ha:At h p x o) (t:TI):loadA t p h=partOf t x.cells o:=by
 rcases ha with rfl | ⟨id,i,es,sz,rfl,hg,hx⟩
 · rfl
 · show h.onRow id none (fun es _=>obind (nthL es i) fun v=>partOf t v.cells o)=_
   rw[onRow_eq hg,nthL_eq,hx]; rfl
theorem At.off {h:Heap} {p x:AV} {o:Nat} (ha:At h p x o) (d:Nat):plusOff p d=some (pOff p d)∧At h (pOff p d) x (o+d):=by
 rcases ha with rfl | ⟨id,i,es,sz,rfl,hg,hx⟩
 · exact⟨forceN_eq (Nat.add o d) (fun o=>some (AV.fptr x o)),.inl rfl⟩
 · exact⟨forceN_eq (Nat.add o d) (fun o=>some (AV.ptr id i o)),.inr ⟨id,i,es,sz,rfl,hg,hx⟩⟩
theorem At.mono {h h':Heap} {p x:AV} {o:Nat} (ha:At h p x o) (hm:∀id i,p=.ptr id i o→h'.get id=h.get id):At h' p x o:=by
 rcases ha with rfl | ⟨id,i,es,sz,rfl,hg,hx⟩
 · exact .inl rfl
 · exact .inr ⟨id,i,es,sz,rfl,(hm id i rfl).trans hg,hx⟩
section
variable {E:Env} {I:Nat→Prop} {h h':Heap} {sz:Nat} {v x:AV} {es:List AV}
theorem elems_msl {id off n s:Nat} {row:List AV} {sz:Nat} (hg:h.get id=some (.row row sz)) (hn:off+n≤row.length):elems (.msl id off n s) h=some ((row.drop off).take n):=by
 show h.onRow id none (fun es _=>bif Nat.ble (Nat.add off n) (lenL es) then some (takeL (dropL es off) n) else none)=_
 rw[onRow_eq hg,lenL_eq]
 have:Nat.ble (Nat.add off n) row.length=true:=Nat.ble_eq_true_of_le hn
 rw[this,takeL_eq,dropL_eq]; rfl
theorem Sl.cases (hs:Sl I h sz v es):(v=.nilsl∧es=[])∨(∃b,v=.fsl es b)∨∃id off n row z,v=.msl id off n sz∧I id∧h.get id=some (.row row z)∧off+n≤row.length∧es=(row.drop off).take n:=by
 obtain⟨h1,h2,h3,h4⟩:=hs
 cases v with
 | nilsl=>cases h1; exact .inl ⟨rfl,rfl⟩
 | fsl l b=>cases h1; exact .inr (.inl ⟨b,rfl⟩)
 | msl id off n s =>
   refine .inr (.inr ?_)
   have hz:=h2 id off n s rfl
   subst hz
   have h1:h.onRow id none (fun es _=>bif Nat.ble (Nat.add off n) (lenL es) then some (takeL (dropL es off) n) else none)=some es:=h1
   obtain⟨row,z,hg,h1⟩:=Heap.onRow_some h1
   cases hn:Nat.ble (Nat.add off n) (lenL row) with
   | false=>rw[hn] at h1; cases h1
   | true =>
     rw[hn] at h1
     cases h1
     rw[lenL_eq] at hn
     exact⟨id,off,n,row,z,rfl,h4,hg,Nat.le_of_ble_eq_true hn,by rw[takeL_eq,dropL_eq]⟩
 | _=>cases h1
theorem Sl.part {b:Bool} {x':List AV} (hs:Sl I h sz (.fsl es b) x'):b=false:=hs.ids
theorem Sl.len (hs:Sl I h sz v es):lenSl v=some es.length:=by
 rcases hs.cases with ⟨rfl,rfl⟩ | ⟨b,rfl⟩ | ⟨id,off,n,row,z,rfl,_,hg,hn,rfl⟩
 · rfl
 · show some (lenL es)=_; rw[lenL_eq]
 · show some n=_
   rw[List.length_take,List.length_drop]
   have:min n (row.length - off)=n:=by omega
   rw[this]
theorem Sl.at (hs:Sl I h sz v es) {i:Nat} (hx:es[i]?=some x):At h (pIx v i) x 0:=by
 rcases hs.cases with ⟨rfl,rfl⟩ | ⟨b,rfl⟩ | ⟨id,off,n,row,z,rfl,_,hg,hn,rfl⟩
 · cases hx
 · have:pIx (.fsl es b) i=.fptr x 0:=by show (match es[i]? with | some x=>AV.fptr x 0 | none=>.und)=_; rw[hx]
   rw[this]; exact .inl rfl
 · refine .inr ⟨id,off+i,row,z,rfl,hg,?_⟩
   rw[List.getElem?_take] at hx
   split at hx
   · rwa [List.getElem?_drop] at hx
   · cases hx
theorem Sl.idx (hs:Sl I h sz v es) {i e:Nat} (hx:es[i]?=some x) {te:TI} (hte:E.ti e=some te) (hz:te.size=sz):indexAddrA E (.slice e) i v=some (pIx v i):=by
 have hc:=hs.cl i x hx
 show onTI E e none (fun te=>idxS te i v)=_
 unfold onTI; rw[hte]
 show idxS te i v=_
 rcases hs.cases with ⟨rfl,rfl⟩ | ⟨b,rfl⟩ | ⟨id,off,n,row,z,rfl,_,hg,hn,rfl⟩
 · cases hx
 · show obind (nthL es i) (fun v=>guardO (Nat.beq (lenL v.cells) te.size) (some (AV.fptr v 0)))=_
   rw[nthL_eq,hx]
   show guardO (Nat.beq (lenL x.cells) te.size) (some (AV.fptr x 0))=_
   rw[lenL_eq,hc,hz,Nat.beq_refl]
   show some (AV.fptr x 0)=some (match es[i]? with | some x=>AV.fptr x 0 | none=>.und)
   rw[hx]
 · have hin:i < n:=by
     rw[List.getElem?_take] at hx
     split at hx
     · assumption
     · cases hx
   show guardO (Nat.blt i n && Nat.beq sz te.size) (forceN (Nat.add off i) fun o=>some (AV.ptr id o 0))=_
   have h1:Nat.blt i n=true:=by
     show Nat.ble (i+1) n=true
     exact Nat.ble_eq_true_of_le hin
   rw[h1,hz,Nat.beq_refl,forceN_eq]; rfl
theorem Sl.mono (hs:Sl I h sz v es) (hm:∀id,I id→h'.get id=h.get id):Sl I h' sz v es:=by
 refine⟨?_,hs.szE,hs.cl,hs.ids⟩
 have:=hs.ids
 have he:=hs.el
 cases v with
 | msl id off n s =>
   have:h'.get id=h.get id:=hm id this
   rw[← he]
   show h'.onRow id none _=h.onRow id none _
   unfold Heap.onRow; rw[this]
 | _=>exact he
theorem Sl.wide {J:Nat→Prop} (hs:Sl I h sz v es) (hm:∀id,I id→J id):Sl J h sz v es:=by
 refine⟨hs.el,hs.szE,hs.cl,?_⟩
 have:=hs.ids
 cases v <;> first | trivial | exact hm _ this | exact this
theorem Sl.nil:Sl I h sz .nilsl []:=⟨rfl,(fun _ _ _ _ e=>by cases e),(fun i x hx=>by simp at hx),trivial⟩
theorem Sl.row {id n:Nat} {row:List AV} (hg:h.get id=some (.row row sz)) (hn:row.length=n) (hI:I id) (hc:∀(i:Nat) x,row[i]?=some x→x.cells.length=sz):Sl I h sz (.msl id 0 n sz) row:=by
 refine⟨?_,(fun _ _ _ _ e=>by cases e; rfl),hc,hI⟩
 rw[elems_msl hg (by omega)]
 rw[List.drop_zero,← hn,List.take_length]
end
def All2 {α β:Type} (R:α→β→Prop) (l:List α) (m:List β):Prop:=l.length=m.length∧∀(i:Nat) x y,l[i]?=some x→m[i]?=some y→R x y
section
variable {α β:Type} {R:α→β→Prop} {l:List α} {m:List β}
theorem All2.nil:All2 R [] []:=⟨rfl,(fun i x y hx=>by simp at hx)⟩
theorem All2.len (ha:All2 R l m):l.length=m.length:=ha.1
theorem All2.get (ha:All2 R l m) {i:Nat} {y:β} (hy:m[i]?=some y):∃x,l[i]?=some x∧R x y:=by
 have hi:i < l.length:=by
   rw[ha.1]
   rcases Nat.lt_or_ge i m.length with h | h
   · exact h
   · rw[List.getElem?_eq_none h] at hy; cases hy
 exact⟨l[i],List.getElem?_eq_getElem hi,ha.2 i _ _ (List.getElem?_eq_getElem hi) hy⟩
theorem All2.imp {S:α→β→Prop} (ha:All2 R l m) (hi:∀x y,R x y→S x y):All2 S l m:=⟨ha.1,fun i x y h1 h2=>hi x y (ha.2 i x y h1 h2)⟩
end
end Go.AM
namespace Go.AM
section
variable {E:Env} {fr:Tr} {h:Heap} {call:CallF} {D:List Nat}
theorem d_nil:evOpsD E call [] fr h D=.ok .normal fr h:=rfl
theorem d_plain (d:Option Tmp) (op:Op) (s:List Bool) (l:List XOp):evOpsD E call (⟨d,op,none,false,s,false⟩::l) fr h D=evThenD d (evOpsD E call l) (virtD E call l s (setDst d skipped fr) h D) fr (plainD' D (evOp E call op fr h)):=rfl
theorem d_quiet (d:Option Tmp) (op:Op) (s:List Bool) (c:Bool) (l:List XOp):evOpsD E call (⟨d,op,none,true,s,c⟩::l) fr h D=evThenD d (evOpsD E call l) (virtD E call l s (setDst d skipped fr) h D) fr (quietD h.next h.tch D (evOp E call op fr { h with tch:=[] })):=rfl
theorem d_skip {d:Option Tmp} {op:Op} {t:Tmp} {w:Bool} {s:List Bool} {l:List XOp} (hg:isWant w (fr.get t)=some false):evOpsD E call (⟨d,op,some (some t,w),false,s,false⟩::l) fr h D=evOpsD E call l (setDst d skipped fr) h D:=by
 show onOB (isWant w (fr.get t)) .bad (evThenD d (evOpsD E call l) (virtD E call l s (setDst d skipped fr) h D) fr (plainD' D (evOp E call op fr h))) (evOpsD E call l (setDst d skipped fr) h D)=_
 rw[hg]; rfl
theorem d_done {d:Option Tmp} {op:Op} {t:Tmp} {w:Bool} {s:List Bool} {l:List XOp} (hg:isWant w (fr.get t)=some true):evOpsD E call (⟨d,op,some (some t,w),false,s,false⟩::l) fr h D=evThenD d (evOpsD E call l) (virtD E call l s (setDst d skipped fr) h D) fr (plainD' D (evOp E call op fr h)):=by
 show onOB (isWant w (fr.get t)) .bad (evThenD d (evOpsD E call l) (virtD E call l s (setDst d skipped fr) h D) fr (plainD' D (evOp E call op fr h))) (evOpsD E call l (setDst d skipped fr) h D)=_
 rw[hg]; rfl
theorem plainD_ok (v:AV):plainD' D (.ok v h)=.ok v h D:=rfl
theorem evThenD_ok (d:Option Tmp) (k:Tr→Heap→List Nat→CRes) (w:Bool) (v:AV):evThenD d k w fr (.ok v h D)=k (setDst d v fr) h D:=rfl
noncomputable def idxR (E:Env) (te:Nat) (x i:AV) (h:Heap):Res:=lift (obind (asNat i) fun i=>indexAddrA E (.slice te) i x) h
theorem p_idx {ts te:Nat} {ti:TI} (ht:E.ti ts=some ti) (hd:ti.desc=.slice te) (x i:Operand):evOp E call (.indexAddr ts x i) fr h=idxR E te (opv E x fr) (opv E i fr) h:=by
 show onTI E ts .bad (fun ti=>lift (obind (asNat (opv E i fr)) fun i=>indexAddrA E ti.desc i (opv E x fr)) h)=_
 unfold onTI; rw[ht]; dsimp only; rw[hd]; rfl
theorem idxR_nat (te:Nat) (x:AV) (k:IntKind) (i:Nat):idxR E te x (.int k (i:Int)) h=lift (indexAddrA E (.slice te) i x) h:=rfl
theorem p_load {t:Nat} {ti:TI} (ht:E.ti t=some ti) (x:Operand):evOp E call (.load t x) fr h=lift (loadA ti (opv E x fr) h) h:=by
 show onTI E t .bad (fun ti=>lift (loadA ti (opv E x fr) h) h)=_
 unfold onTI; rw[ht]
def lenR (n:Option Nat) (h:Heap):Res:=match n with | some n=>.ok (.int .i64 (n:Int)) h | none=>.bad
theorem p_len {ts te:Nat} {ti:TI} (ht:E.ti ts=some ti) (hd:ti.desc=.slice te) (x:Operand):evOp E call (.call ⟨.builtin .len,#[x],#[ts]⟩) fr h=lenR (lenSl (opv E x fr)) h:=by
 show lift2 (onTI E ts none fun ti=>obind (lenA ti.desc (opv E x fr) h) fun n=>forceN n fun n=>some (AV.int .i64 (Int.ofNat n),h))=_
 unfold onTI; rw[ht]; dsimp only; rw[hd]
 show lift2 (obind (lenSl (opv E x fr)) fun n=>forceN n fun n=>some (AV.int .i64 (Int.ofNat n),h))=_
 cases lenSl (opv E x fr) with
 | none=>rfl
 | some n=>show lift2 (forceN n fun n=>some (AV.int .i64 (Int.ofNat n),h))=_; rw[forceN_eq]; rfl
theorem lenR_some (n:Nat):lenR (some n) h=.ok (.int .i64 (n:Int)) h:=rfl
theorem v_nilsl:opv E (.const (.slice none 0 0)) fr=.nilsl:=rfl
end
end Go.AM
namespace Go.AM
structure Plain (E:Env) (f:Nat) (c:XC) (n:Nat) (rs:List ResultVar):Prop where
 gc:E.gc f=false
 told:E.told f=false
 dlf:E.dlf f=none
 srt:∀n,E.srt f n=false
 fn:E.fn f=some ⟨c,n,rs,.plain⟩
theorem Plain.call {E:Env} {f:Nat} {c:XC} {n:Nat} {rs:List ResultVar} (hp:Plain E f c n rs) {args:List AV} (h:Heap) (hn:args.length≤n):callω E f args h=afterBody E rs (evω E c (Tr.enter n args) h):=by
 refine call_eq hp.gc hp.told hp.dlf (fun args h=>?_) hp.fn hn
 unfold srtA
 cases args with
 | nil=>rfl
 | cons g r =>
   dsimp only
   cases isSrt g with
   | none=>rfl
   | some n=>dsimp only; rw[hp.srt]; rfl
end Go.AM
namespace Go.AM
structure Grow (h h':Heap):Prop where
 nx:h.next≤h'.next
 get:∀id,id < h.next→h'.get id=h.get id
 tch:∃l,h'.tch=l++h.tch∧∀i∈l,h.next≤i
theorem Grow.refl (h:Heap):Grow h h:=⟨Nat.le_refl _,fun _ _=>rfl,[],rfl,fun _ hi=>by cases hi⟩
theorem Grow.trans {h h1 h2:Heap} (a:Grow h h1) (b:Grow h1 h2):Grow h h2:=by
 obtain⟨l1,e1,f1⟩:=a.tch
 obtain⟨l2,e2,f2⟩:=b.tch
 refine⟨Nat.le_trans a.nx b.nx,fun id hid=>(b.get id (Nat.lt_of_lt_of_le hid a.nx)).trans (a.get id hid),l2++l1,by rw[e2,e1,List.append_assoc],fun i hi=>?_⟩
 rcases List.mem_append.1 hi with hi | hi
 · exact Nat.le_trans a.nx (f2 i hi)
 · exact f1 i hi
theorem Grow.push (h:Heap) (x:AObj):Grow h (h.push x):=⟨Nat.le_succ _,fun id hid=>Heap.get_push_ne h x (by omega),[],rfl,fun _ hi=>by cases hi⟩
theorem Grow.set {h h1:Heap} (a:Grow h h1) {i:Nat} (x:AObj) (hi:h.next≤i):Grow h (h1.set i x):=by
 obtain⟨l1,e1,f1⟩:=a.tch
 refine⟨a.nx,fun id hid=>(Heap.get_set_ne h1 x (by omega)).trans (a.get id hid),i::l1,?_,fun j hj=>?_⟩
 · show i::h1.tch=_; rw[e1]; rfl
 · rcases List.mem_cons.1 hj with e | hj
   · omega
   · exact f1 j hj
theorem Grow.del {h h1:Heap} (a:Grow h h1) {i:Nat} (hi:h.next≤i):Grow h (h1.del i):=by
 obtain⟨l1,e1,f1⟩:=a.tch
 refine⟨a.nx,fun id hid=>(Heap.get_del_ne h1 (by omega)).trans (a.get id hid),i::l1,?_,fun j hj=>?_⟩
 · show i::h1.tch=_; rw[e1]; rfl
 · rcases List.mem_cons.1 hj with e | hj
   · omega
   · exact f1 j hj
theorem belowN_none {n:Nat}:∀{l:List Nat},(∀i∈l,n≤i)→belowN n l=[]
 | [],_=>rfl
 | i::l,hl=>by
   show (bif Nat.blt i n then i::belowN n l else belowN n l)=[]
   have h1:=hl i (List.mem_cons_self ..)
   have:Nat.blt i n=false:=by
     cases e:Nat.blt i n with
     | false=>rfl
     | true=>have:i+1≤n:=Nat.le_of_ble_eq_true e; omega
   rw[this]; exact belowN_none fun j hj=>hl j (List.mem_cons_of_mem _ hj)
abbrev SlH (h:Heap) (sz:Nat) (v:AV) (es:List AV):Prop:=Sl (fun id=>id < h.next) h sz v es
structure Kp (h h':Heap):Prop where
 nx:h.next≤h'.next
 get:∀id,id < h.next→h'.get id=h.get id
theorem Grow.kp {h h':Heap} (g:Grow h h'):Kp h h':=⟨g.nx,g.get⟩
theorem Kp.tch (h:Heap) (t:List Nat):Kp h { h with tch:=t }:=⟨Nat.le_refl _,fun _ _=>rfl⟩
theorem Kp.trans {h h1 h2:Heap} (a:Kp h h1) (b:Kp h1 h2):Kp h h2:=⟨Nat.le_trans a.nx b.nx,fun id hid=>(b.get id (Nat.lt_of_lt_of_le hid a.nx)).trans (a.get id hid)⟩
theorem Kp.sl {h h':Heap} (g:Kp h h') {sz:Nat} {v:AV} {es:List AV} (hs:SlH h sz v es):SlH h' sz v es :=
 (hs.mono (h':=h') fun id hid=>g.get id hid).wide fun id hid=>Nat.lt_of_lt_of_le hid g.nx
theorem Grow.sl {h h':Heap} (g:Grow h h') {sz:Nat} {v:AV} {es:List AV} (hs:SlH h sz v es):SlH h' sz v es:=g.kp.sl hs
def Stays {α:Type} (R:Heap→AV→α→Prop):Prop:=∀{h h':Heap},Kp h h'→∀{x:AV} {X:α},R h x X→R h' x X
structure Ls {α:Type} (R:Heap→AV→α→Prop) (sz bz:Nat) (h:Heap) (v:AV) (l:List α):Prop where
 mk ::
 ex:∃es,SlH h sz v es∧All2 (R h) es l
 sm:l.length * bz≤140737488355328
 le:l.length≤140737488355328
theorem Ls.stays {α:Type} {R:Heap→AV→α→Prop} (hR:Stays R) {sz bz:Nat}:Stays (Ls R sz bz):=fun g _ _ hl=>by
 obtain⟨es,h1,h2⟩:=hl.ex
 exact⟨⟨es,g.sl h1,h2.imp fun x y hxy=>hR g hxy⟩,hl.sm,hl.le⟩
end Go.AM
namespace Go.AM
theorem XS:type_of% (And.intro @w_regD (And.intro @d_nil (And.intro @d_plain (And.intro @d_skip (And.intro @d_done (And.intro @plainD_ok (And.intro @evThenD_ok (And.intro @idxR_nat (And.intro @lenR_some (And.intro @v_nilsl (And.intro @bo_int (And.intro @bo_bool (And.intro @bo_str (And.intro @bo_agg (And.intro @enter_eq (And.intro @setAll_cons (And.intro @setAll_nil (And.intro @w_seq (And.intro @w_reg (And.intro @o_nil (And.intro @o_plain (And.intro @o_skip (And.intro @o_done (And.intro @p_assign (And.intro @p_move (And.intro @p_pick (And.intro @pickA_true (And.intro @pickA_false (And.intro @p_extract (And.intro @exA_tup (And.intro @p_call (And.intro @opvs_nil (And.intro @opvs_cons (And.intro @v_int (And.intro @v_bool (And.intro @v_str (And.intro @v_tmp (And.intro @evThen_ok (And.intro @setDst_fset (And.intro @setDst_none (And.intro @seqA_normal (And.intro @seqA_ret (And.intro @seqA_exit (And.intro @w_block (And.intro @blockA_normal (And.intro @blockA_ret (And.intro @blockA_exit (And.intro @w_cond (And.intro @condA_true (And.intro @condA_false (And.intro @w_ret (And.intro @w_skip (And.intro @w_exit (And.intro @w_scope (And.intro @p_binOp (And.intro @b_add (And.intro @b_sub (And.intro @b_mul (And.intro @b_eql (And.intro @b_neq (And.intro @b_eqlS (And.intro @b_neqS (And.intro @b_lss (And.intro @b_leq (And.intro @b_gtr (And.intro @b_geq (And.intro @p_unOp (And.intro @u_neg (And.intro @u_not (And.intro @c_int (And.intro @lift_some' (And.intro @look_cons (And.intro @look_nil (And.intro @isWant_true (And.intro @isWant_false (And.intro @isWant_skipped (And.intro (@Option.some.injEq Bool) (And.intro @Bool.true_eq_false (And.intro @Bool.false_eq_true (And.intro @after_ret (And.intro @after_normal (And.intro @res_tmp (And.intro @res_nil (And.intro @obind_some' (And.intro @get_fset (And.intro @resOf_some (And.intro @one_one (And.intro @one_two (And.intro @one_nil (And.intro @decide_true (And.intro @decide_false (And.intro @Bool.not_true (And.intro @Bool.not_false (And.intro (@List.getElem?_cons_zero AV) (And.intro (@List.getElem?_cons_succ AV) ((@List.getElem?_nil AV))))))))))))))))))))))))))))))))))))))))))))))))))))))))))))))))))))))))))))))))))))))))))))))))):=And.intro @w_regD (And.intro @d_nil (And.intro @d_plain (And.intro @d_skip (And.intro @d_done (And.intro @plainD_ok (And.intro @evThenD_ok (And.intro @idxR_nat (And.intro @lenR_some (And.intro @v_nilsl (And.intro @bo_int (And.intro @bo_bool (And.intro @bo_str (And.intro @bo_agg (And.intro @enter_eq (And.intro @setAll_cons (And.intro @setAll_nil (And.intro @w_seq (And.intro @w_reg (And.intro @o_nil (And.intro @o_plain (And.intro @o_skip (And.intro @o_done (And.intro @p_assign (And.intro @p_move (And.intro @p_pick (And.intro @pickA_true (And.intro @pickA_false (And.intro @p_extract (And.intro @exA_tup (And.intro @p_call (And.intro @opvs_nil (And.intro @opvs_cons (And.intro @v_int (And.intro @v_bool (And.intro @v_str (And.intro @v_tmp (And.intro @evThen_ok (And.intro @setDst_fset (And.intro @setDst_none (And.intro @seqA_normal (And.intro @seqA_ret (And.intro @seqA_exit (And.intro @w_block (And.intro @blockA_normal (And.intro @blockA_ret (And.intro @blockA_exit (And.intro @w_cond (And.intro @condA_true (And.intro @condA_false (And.intro @w_ret (And.intro @w_skip (And.intro @w_exit (And.intro @w_scope (And.intro @p_binOp (And.intro @b_add (And.intro @b_sub (And.intro @b_mul (And.intro @b_eql (And.intro @b_neq (And.intro @b_eqlS (And.intro @b_neqS (And.intro @b_lss (And.intro @b_leq (And.intro @b_gtr (And.intro @b_geq (And.intro @p_unOp (And.intro @u_neg (And.intro @u_not (And.intro @c_int (And.intro @lift_some' (And.intro @look_cons (And.intro @look_nil (And.intro @isWant_true (And.intro @isWant_false (And.intro @isWant_skipped (And.intro (@Option.some.injEq Bool) (And.intro @Bool.true_eq_false (And.intro @Bool.false_eq_true (And.intro @after_ret (And.intro @after_normal (And.intro @res_tmp (And.intro @res_nil (And.intro @obind_some' (And.intro @get_fset (And.intro @resOf_some (And.intro @one_one (And.intro @one_two (And.intro @one_nil (And.intro @decide_true (And.intro @decide_false (And.intro @Bool.not_true (And.intro @Bool.not_false (And.intro (@List.getElem?_cons_zero AV) (And.intro (@List.getElem?_cons_succ AV) ((@List.getElem?_nil AV))))))))))))))))))))))))))))))))))))))))))))))))))))))))))))))))))))))))))))))))))))))))))))))))
end Go.AM
namespace Go.AM
theorem wrap64_bmod (n:Int):IntKind.wrap .i64 n=n.bmod 18446744073709551616:=by
 have:IntKind.wrap .i64 n=if n % 18446744073709551616 ≥ 9223372036854775808 then n % 18446744073709551616 - 18446744073709551616 else n % 18446744073709551616:=by
   simp[IntKind.wrap,IntKind.bits,IntKind.signed]
 rw[this,Int.bmod]; split <;> split <;> omega
theorem wrap_small {n:Nat} (h:n < 9223372036854775808):IntKind.wrap .i64 (n:Int)=n:=by
 rw[wrap64_bmod,Int.bmod]; split <;> omega
noncomputable def sameBody (ts q:Nat) (rg:List XOp):XC :=
 .seq
 (.seq
 (.reg false [
 ⟨some 11,.move (.tmp 5),none,false,[],false⟩,
 ⟨some 12,.move (.tmp 0),none,false,[],false⟩,
 ⟨some 13,.call ⟨.builtin .len,#[.tmp 12],#[ts]⟩,none,false,[],false⟩,
 ⟨some 14,.binOp .lss 3 (.tmp 11) (.tmp 13) 3,none,false,[],false⟩])
 (.cond (.tmp 14)
 .skip
 (.exit 0)))
 (.seq
 (.block 1
 (.seq
 (.reg true rg)
 (.cond (.tmp q)
 (.seq
 (.reg false [
 ⟨some 4,.assign (.const (.bool false)),none,false,[],false⟩])
 .ret)
 .skip)))
 (.reg false [
 ⟨some 15,.move (.tmp 5),none,false,[],false⟩,
 ⟨some 16,.binOp .add 3 (.tmp 15) (.const (.int .i64 1)) 3,none,false,[],false⟩,
 ⟨some 5,.assign (.tmp 16),none,false,[],false⟩]))
noncomputable def sameC (ts q:Nat) (rg:List XOp):XC :=
 .seq
 (.reg false [
 ⟨some 4,.assign (.const (.bool false)),none,false,[],false⟩])
 (.seq
 (.seq
 (.reg false [
 ⟨some 6,.move (.tmp 0),none,false,[],false⟩,
 ⟨some 7,.call ⟨.builtin .len,#[.tmp 6],#[ts]⟩,none,false,[],false⟩,
 ⟨some 8,.move (.tmp 1),none,false,[],false⟩,
 ⟨some 9,.call ⟨.builtin .len,#[.tmp 8],#[ts]⟩,none,false,[],false⟩,
 ⟨some 10,.binOp .neq 3 (.tmp 7) (.tmp 9) 3,none,false,[],false⟩])
 (.cond (.tmp 10)
 (.seq
 (.reg false [
 ⟨some 4,.assign (.const (.bool false)),none,false,[],false⟩])
 .ret)
 .skip))
 (.seq
 (.seq
 (.reg false [
 ⟨some 5,.assign (.const (.int .i64 0)),none,false,[],false⟩])
 (.block 0
 (.loop (sameBody ts q rg))))
 (.seq
 (.reg false [
 ⟨some 4,.assign (.const (.bool true)),none,false,[],false⟩])
 .ret)))
def cmpRg (ts te:Nat) (cmp:XOp):List XOp:=[
 ⟨some 17,.move (.tmp 0),none,false,[],false⟩,
 ⟨some 18,.move (.tmp 5),none,false,[],false⟩,
 ⟨some 19,.indexAddr ts (.tmp 17) (.tmp 18),none,false,[],false⟩,
 ⟨some 20,.load te (.tmp 19),none,false,[],false⟩,
 ⟨some 21,.move (.tmp 1),none,false,[],false⟩,
 ⟨some 22,.move (.tmp 5),none,false,[],false⟩,
 ⟨some 23,.indexAddr ts (.tmp 21) (.tmp 22),none,false,[],false⟩,
 ⟨some 24,.load te (.tmp 23),none,false,[],false⟩,
 cmp,
 ⟨some 26,.unOp .not 4 (.tmp 25),none,false,[],false⟩]
section
variable {E:Env} {h:Heap} {ts te nt q:Nat} {tis tie:TI} {α:Type} [DecidableEq α] {R:Heap→AV→α→Prop} {cmp:XOp} {rg:List XOp} {sz bz:Nat}
structure SameAt (a b:AV) (k:Nat) (l:List (Nat × AV)):Prop where
 l0:look l 0=a
 l1:look l 1=b
 l5:look l 5=.int .i64 (k:Int)
def RgOk (E:Env) (R:Heap→AV→α→Prop) (sz nt q:Nat) (rg:List XOp):Prop :=
 ∀(h:Heap) (l:List (Nat × AV)) (a b:AV) (xs ys:List AV) (k:Nat) (x y:AV) (X Y:α),SlH h sz a xs→SlH h sz b ys→xs[k]?=some x→ys[k]?=some y→R h x X→R h y Y→SameAt a b k l →
   ∃h' l',Grow h h'∧evOpsD E (callω E) rg (fset nt l) h []=.ok .normal (fset nt l') h'∧look l' q=.bool (!decide (X=Y))∧SameAt a b k l'
def CmpOk (E:Env) (R:Heap→AV→α→Prop) (cmp:XOp):Prop :=
 ∀(h:Heap) (l:List (Nat × AV)) (r:List XOp) (x y:AV) (X Y:α),R h x X→R h y Y→look l 20=x→look l 24=y →
   ∃h',Grow h h'∧evOpsD E (callω E) (cmp::r) (fset 27 l) h []=evOpsD E (callω E) r (fset 27 ((25,.bool (decide (X=Y)))::l)) h' []
theorem rg_of_cmp (hts:E.ti ts=some tis) (hd:tis.desc=.slice te) (hte:E.ti te=some tie) (hR:∀{h x X},R h x X→partOf tie x.cells 0=some x) (hcmp:CmpOk E R cmp):RgOk E R tie.size 27 26 (cmpRg ts te cmp):=by
 intro h l a b xs ys k x y X Y ha hb hx hy hxR hyR hat
 obtain⟨l0,l1,l5⟩:=hat
 have i1:=ha.idx hx hte rfl
 have i2:=hb.idx hy hte rfl
 have e1:=(ha.at hx).load tie
 have e2:=(hb.at hy).load tie
 rw[hR hxR] at e1
 rw[hR hyR] at e2
 have key:∃l2,look l2 20=x∧look l2 24=y∧SameAt a b k l2∧evOpsD E (callω E) (cmpRg ts te cmp) (fset 27 l) h []=evOpsD E (callω E) (cmp::[⟨some 26,.unOp .not 4 (.tmp 25),none,false,[],false⟩]) (fset 27 l2) h []:=by
   apply Exists.intro
   refine And.intro ?_ (And.intro ?_ (And.intro ?_ ?_))
   rotate_left 3
   · conv=>lhs; unfold cmpRg
     simp -implicitDefEqProofs (maxSteps:=1000000) only[p_idx hts hd,p_load hte,l0,l1,l5,i1,i2,e1,e2,d_plain,p_move,plainD_ok,evThenD_ok,setDst_fset,lift_some',idxR_nat,v_tmp,look_cons,Nat.reduceLT,Nat.reduceEqDiff,↓reduceIte]
     rfl
   · simp[look]
   · simp[look]
   · exact⟨by simp[look,l0],by simp[look,l1],by simp[look,l5]⟩
 obtain⟨l2,k20,k24,⟨k0,k1,k5⟩,hgo⟩:=key
 obtain⟨h1,hg,hC⟩:=hcmp h l2 [⟨some 26,.unOp .not 4 (.tmp 25),none,false,[],false⟩] x y _ _ hxR hyR k20 k24
 refine⟨h1,(26,.bool (!decide (X=Y)))::(25,.bool (decide (X=Y)))::l2,hg,?_,by simp[look],⟨by simp[look,k0],by simp[look,k1],by simp[look,k5]⟩⟩
 rw[hgo,hC]
 simp -implicitDefEqProofs (maxSteps:=1000000) only[XS,Nat.reduceAdd,Nat.reduceLT,Nat.reduceEqDiff,↓reduceIte]
set_option maxHeartbeats 1000000 in
theorem same_loop (hn1:26 < nt) (hn2:nt < 1048576) (hq:q < nt) (hts:E.ti ts=some tis) (hd:tis.desc=.slice te) (hst:Stays R) (hrg:RgOk E R sz nt q rg) {la lb:List α} (hl:la.length=lb.length) (h63:la.length < 9223372036854775807) :
   ∀(m k:Nat) (l:List (Nat × AV)) (h:Heap) {a b:AV} {xs ys:List AV} (ha:SlH h sz a xs) (hb:SlH h sz b ys) (hxs:All2 (R h) xs la) (hys:All2 (R h) ys lb),k+m=la.length→SameAt a b k l →
     ∃h',Grow h h'∧((la.drop k=lb.drop k∧∃l',evω E (.loop (sameBody ts q rg)) (fset nt l) h=.ok (.exit 0) (fset nt l') h')∨(la.drop k≠lb.drop k∧∃l',evω E (.loop (sameBody ts q rg)) (fset nt l) h=.ok .ret (fset nt l') h'∧look l' 4=.bool false))
 | 0,k,l,h,a,b,xs,ys,ha,hb,hxs,hys,hk,hat=>by
   obtain⟨l0,l1,l5⟩:=hat
   have hlen:=ha.len
   have hn:xs.length=la.length:=hxs.len
   have hc:¬ ((k:Int) < (xs.length:Int)):=by omega
   have b0:0 < nt:=by omega
   have b5:5 < nt:=by omega
   have b11:11 < nt:=by omega
   have b12:12 < nt:=by omega
   have b13:13 < nt:=by omega
   have b14:14 < nt:=by omega
   refine⟨h,.refl h,.inl ⟨by rw[List.drop_eq_nil_of_le (by omega),List.drop_eq_nil_of_le (by omega)],?_⟩⟩
   apply Exists.intro
   conv=>lhs; rw[w_loop]; unfold sameBody
   simp -implicitDefEqProofs (maxSteps:=1000000) only[b0,b5,b11,b12,b13,b14,hn2,p_len hts hd,l0,l1,l5,hlen,hc,XS,Nat.reduceAdd,Nat.reduceLT,Nat.reduceEqDiff,↓reduceIte]
   rfl
 | m+1,k,l,h,a,b,xs,ys,ha,hb,hxs,hys,hk,hat=>by
   have hat0:=hat
   obtain⟨l0,l1,l5⟩:=hat
   have hlen:=ha.len
   have hn:xs.length=la.length:=hxs.len
   have hc:((k:Int) < (xs.length:Int)):=by omega
   have hka:k < la.length:=by omega
   have hkb:k < lb.length:=by omega
   have b0:0 < nt:=by omega
   have b1:1 < nt:=by omega
   have b4:4 < nt:=by omega
   have b5:5 < nt:=by omega
   have b11:11 < nt:=by omega
   have b12:12 < nt:=by omega
   have b13:13 < nt:=by omega
   have b14:14 < nt:=by omega
   have b15:15 < nt:=by omega
   have b16:16 < nt:=by omega
   obtain⟨x,hx,hxR⟩:=hxs.get (List.getElem?_eq_getElem hka)
   obtain⟨y,hy,hyR⟩:=hys.get (List.getElem?_eq_getElem hkb)
   have w1:IntKind.wrap .i64 ((k:Int)+1)=((k+1:Nat):Int):=wrap_small (n:=k+1) (by omega)
   have hdr:la.drop k=lb.drop k↔la[k]=lb[k]∧la.drop (k+1)=lb.drop (k+1):=by
     rw[List.drop_eq_getElem_cons hka,List.drop_eq_getElem_cons hkb,List.cons.injEq]
   have key:∃l2,SameAt a b k l2∧evω E (.loop (sameBody ts q rg)) (fset nt l) h =
       seqA (evω E (.loop (sameBody ts q rg))) (seqA (evω E (.reg false [⟨some 15,.move (.tmp 5),none,false,[],false⟩,⟨some 16,.binOp .add 3 (.tmp 15) (.const (.int .i64 1)) 3,none,false,[],false⟩,⟨some 5,.assign (.tmp 16),none,false,[],false⟩]))
         (blockA 1 (seqA (evω E (.cond (.tmp q) (.seq (.reg false [⟨some 4,.assign (.const (.bool false)),none,false,[],false⟩]) .ret) .skip)) (evOpsD E (callω E) rg (fset nt l2) h [])))):=by
     apply Exists.intro
     refine And.intro ?_ ?_
     rotate_left
     · conv=>lhs; rw[w_loop]; unfold sameBody
       simp -implicitDefEqProofs (maxSteps:=1000000) only[b0,b5,b11,b12,b13,b14,hn2,p_len hts hd,l0,l1,l5,hlen,eq_true hc,w_seq,w_reg,w_block,w_skip,w_regD,o_plain,p_move,p_binOp,evThen_ok,setDst_fset,lift_some',lenR_some,bo_int,b_lss,o_nil,v_tmp,look_cons,Nat.reduceLT,Nat.reduceEqDiff,↓reduceIte,decide_true,w_cond,condA_true,seqA_normal]
       rfl
     · exact⟨by simp[look,l0],by simp[look,l1],by simp[look,l5]⟩
   obtain⟨l2,hat2,hgo⟩:=key
   obtain⟨h1,l3,hg,hC,kq,k0,k1,k5⟩:=hrg h l2 a b xs ys k x y _ _ ha hb hx hy hxR hyR hat2
   rw[hgo,hC]
   by_cases hxy:la[k]=lb[k]
   · have key:∃l4,SameAt a b (k+1) l4∧seqA (evω E (.loop (sameBody ts q rg))) (seqA (evω E (.reg false [⟨some 15,.move (.tmp 5),none,false,[],false⟩,⟨some 16,.binOp .add 3 (.tmp 15) (.const (.int .i64 1)) 3,none,false,[],false⟩,⟨some 5,.assign (.tmp 16),none,false,[],false⟩]))
         (blockA 1 (seqA (evω E (.cond (.tmp q) (.seq (.reg false [⟨some 4,.assign (.const (.bool false)),none,false,[],false⟩]) .ret) .skip)) (.ok .normal (fset nt l3) h1))))=evω E (.loop (sameBody ts q rg)) (fset nt l4) h1:=by
       apply Exists.intro
       refine And.intro ?_ ?_
       rotate_left
       · simp -implicitDefEqProofs (maxSteps:=1000000) only[b0,b5,b15,b16,hn2,hq,kq,k0,k1,k5,eq_true hxy,w1,XS,Nat.reduceAdd,Nat.reduceLT,Nat.reduceEqDiff,↓reduceIte]
         rfl
       · exact⟨by simp[look,k0],by simp[look,k1],by simp[look]⟩
     obtain⟨l4,h3,h4⟩:=key
     rw[h4]
     obtain⟨h2,g2,ih⟩:=same_loop hn1 hn2 hq hts hd hst hrg hl h63 m (k+1) l4 h1 (hg.sl ha) (hg.sl hb) (hxs.imp fun _ _ r=>hst hg.kp r) (hys.imp fun _ _ r=>hst hg.kp r) (by omega) h3
     refine⟨h2,hg.trans g2,?_⟩
     rcases ih with ⟨h5,h6⟩ | ⟨h5,h6⟩
     · exact .inl ⟨hdr.2 ⟨hxy,h5⟩,h6⟩
     · exact .inr ⟨fun e=>h5 (hdr.1 e).2,h6⟩
   · refine⟨h1,hg,.inr ⟨fun e=>hxy (hdr.1 e).1,?_⟩⟩
     apply Exists.intro
     refine And.intro ?_ ?_
     · simp -implicitDefEqProofs (maxSteps:=1000000) only[b4,hn2,hq,kq,k0,k1,k5,eq_false hxy,w1,XS,Nat.reduceAdd,Nat.reduceLT,Nat.reduceEqDiff,↓reduceIte]
       rfl
     · simp[look]
set_option maxHeartbeats 1000000 in
theorem same_ok' {f:Nat} (hp:Plain E f (sameC ts q rg) nt [.tmp 4]) (hn1:26 < nt) (hn2:nt < 1048576) (hq:q < nt) (hts:E.ti ts=some tis) (hd:tis.desc=.slice te) (hst:Stays R) (hrg:RgOk E R sz nt q rg)
   {a b:AV} {la lb:List α} (ha:Ls R sz bz h a la) (hb:Ls R sz bz h b lb) :
   ∃h',Grow h h'∧callω E f [a,b] h=.ok (.bool (decide (la=lb))) h':=by
 have h63:la.length < 9223372036854775807:=Nat.lt_of_le_of_lt ha.le (by decide)
 obtain⟨xs,ha,hxs⟩:=ha.ex
 obtain⟨ys,hb,hys⟩:=hb.ex
 have n1:=ha.len
 have n2:=hb.len
 have q1:=hxs.len
 have q2:=hys.len
 have b0:0 < nt:=by omega
 have b1:1 < nt:=by omega
 have b4:4 < nt:=by omega
 have b5:5 < nt:=by omega
 have b6:6 < nt:=by omega
 have b7:7 < nt:=by omega
 have b8:8 < nt:=by omega
 have b9:9 < nt:=by omega
 have b10:10 < nt:=by omega
 rw[hp.call h (by simp; omega)]
 by_cases hl:la.length=lb.length
 · have hne:(xs.length:Int)=(ys.length:Int):=by omega
   have key:∃l,SameAt a b 0 l∧evω E (sameC ts q rg) (Tr.enter nt [a,b]) h=seqA (evω E (.seq (.reg false [⟨some 4,.assign (.const (.bool true)),none,false,[],false⟩]) .ret)) (blockA 0 (evω E (.loop (sameBody ts q rg)) (fset nt l) h)):=by
     apply Exists.intro
     refine And.intro ?_ ?_
     rotate_left
     · conv=>lhs; unfold sameC
       simp -implicitDefEqProofs (maxSteps:=1000000) only[b0,b1,b4,b5,b6,b7,b8,b9,b10,hn2,p_len hts hd,n1,n2,eq_true hne,XS,Nat.reduceAdd,Nat.reduceLT,Nat.reduceEqDiff,↓reduceIte]
       rfl
     · exact⟨by simp[look],by simp[look],by simp[look]⟩
   obtain⟨l,h1,h2⟩:=key
   rw[h2]
   obtain⟨h',g,hh⟩:=same_loop hn1 hn2 hq hts hd hst hrg hl h63 la.length 0 l h ha hb hxs hys (by omega) h1
   refine⟨h',g,?_⟩
   rcases hh with ⟨h3,l',h4⟩ | ⟨h3,l',h4,h5⟩
   · rw[h4,decide_eq_true (by simpa using h3)]
     simp -implicitDefEqProofs (maxSteps:=1000000) only[b4,hn2,XS,Nat.reduceAdd,Nat.reduceLT,Nat.reduceEqDiff,↓reduceIte]
   · rw[h4,decide_eq_false (by simpa using h3)]
     simp -implicitDefEqProofs (maxSteps:=1000000) only[b4,hn2,h5,XS,Nat.reduceAdd,Nat.reduceLT,Nat.reduceEqDiff,↓reduceIte]
 · have hne:¬ (xs.length:Int)=(ys.length:Int):=by omega
   refine⟨h,.refl h,?_⟩
   rw[decide_eq_false (fun e=>hl (by rw[e]))]
   unfold sameC
   simp -implicitDefEqProofs (maxSteps:=1000000) only[b0,b1,b4,b5,b6,b7,b8,b9,b10,hn2,p_len hts hd,n1,n2,eq_false hne,XS,Nat.reduceAdd,Nat.reduceLT,Nat.reduceEqDiff,↓reduceIte]
theorem same_ok {f:Nat} (hp:Plain E f (sameC ts 26 (cmpRg ts te cmp)) 27 [.tmp 4]) (hts:E.ti ts=some tis) (hd:tis.desc=.slice te) (hte:E.ti te=some tie) (hR:∀{h x X},R h x X→partOf tie x.cells 0=some x) (hst:Stays R) (hcmp:CmpOk E R cmp)
   {a b:AV} {la lb:List α} (ha:Ls R tie.size bz h a la) (hb:Ls R tie.size bz h b lb) :
   ∃h',Grow h h'∧callω E f [a,b] h=.ok (.bool (decide (la=lb))) h' :=
 same_ok' hp (by decide) (by decide) (by decide) hts hd hst (rg_of_cmp hts hd hte hR hcmp) ha hb
end
end Go.AM
namespace Go.AM
section
variable {E:Env} {fr:Tr} {h:Heap} {call:CallF}
noncomputable def boxR (sz:Nat) (v:AV) (h:Heap):Res:=bif Nat.beq (lenL v.cells) sz && okCells v.cells then newA sz v h else .bad
noncomputable def fdR (t:TI) (off:Nat) (v:AV) (h:Heap):Res:=lift (v.onAgg none fun cs=>partOf t cs off) h
theorem fdR_agg (t:TI) (off:Nat) (cs:List AV):fdR t off (.agg cs) h=lift (partOf t cs off) h:=rfl
theorem newA_eq (sz:Nat) (v:AV):newA sz v h=.ok (.ptr h.next 0 0) (h.push (.row [v] sz)):=rfl
theorem boxR_ok {sz:Nat} {v:AV} (h1:v.cells.length=sz) (h2:okCells v.cells=true):boxR sz v h=.ok (.ptr h.next 0 0) (h.push (.row [v] sz)):=by
 unfold boxR; rw[lenL_eq,h1,h2,Nat.beq_refl]; rfl
theorem pOff_ptr (id i o d:Nat):plusOff (.ptr id i o) d=some (.ptr id i (o+d)):=forceN_eq (Nat.add o d) (fun o=>some (AV.ptr id i o))
theorem pOff_fptr (v:AV) (o d:Nat):plusOff (.fptr v o) d=some (.fptr v (o+d)):=forceN_eq (Nat.add o d) (fun o=>some (AV.fptr v o))
theorem load_ptr {id i o sz:Nat} {es:List AV} {x:AV} (hg:h.get id=some (.row es sz)) (hx:es[i]?=some x) (t:TI):loadA t (.ptr id i o) h=partOf t x.cells o:=(At.load (o:=o) (.inr ⟨id,i,es,sz,rfl,hg,hx⟩) t)
theorem load_new (x:AV) (sz o:Nat) (t:TI):loadA t (.ptr h.next 0 o) (h.push (.row [x] sz))=partOf t x.cells o:=load_ptr (Heap.get_push_eq h _) rfl t
theorem load_new2 (x:AV) (b:AObj) (sz o:Nat) (t:TI):loadA t (.ptr h.next 0 o) ((h.push (.row [x] sz)).push b)=partOf t x.cells o :=
 load_ptr ((Heap.get_push_ne _ _ (by show h.next≠h.next+1; omega)).trans (Heap.get_push_eq h _)) rfl t
theorem load_old {id sz:Nat} {x:AV} (hg:h.get id=some (.row [x] sz)) (t:TI) (o:Nat):loadA t (.ptr id 0 o) h=partOf t x.cells o:=load_ptr hg rfl t
theorem part_one {t:TI} (hd:isAggD t.desc=false) (cs:List AV) (o:Nat):partOf t cs o=cs[o]?:=by
 unfold partOf; rw[hd]; exact nthL_eq cs o
theorem part_agg {t:TI} (hd:isAggD t.desc=true) (cs:List AV) (o:Nat):partOf t cs o=if o+t.size≤cs.length then some (.agg ((cs.drop o).take t.size)) else none:=by
 unfold partOf; rw[hd,lenL_eq,takeL_eq,dropL_eq]
 show (bif Nat.ble (o+t.size) cs.length then _ else _)=_
 by_cases hc:o+t.size≤cs.length
 · rw[Nat.ble_eq_true_of_le hc,if_pos hc]; rfl
 · rw[if_neg hc]
   cases hb:Nat.ble (o+t.size) cs.length with
   | false=>rfl
   | true=>exact absurd (Nat.le_of_ble_eq_true hb) hc
end
theorem eqL_nil:eqL [] []=some true:=rfl
theorem eqL_int (k:IntKind) (a b:Int) (l m:List AV):eqL (.int k a::l) (.int k b::m)=if a=b then eqL l m else some false:=by
 show onOB (bif kindEq k k then some (intEq a b) else none) none (eqL l m) (some false)=_
 rw[kindEq_refl,intEq_eq]
 by_cases e:a=b
 · rw[if_pos e,show (a == b)=true by simp[e]]; rfl
 · rw[if_neg e,show (a == b)=false by simp[e]]; rfl
theorem likeL_nil:likeL [] []=true:=rfl
theorem likeL_int (k:IntKind) (a b:Int) (l m:List AV):likeL (.int k a::l) (.int k b::m)=likeL l m:=by
 show (bif kindEq k k then likeL l m else false)=_
 rw[kindEq_refl]; rfl
theorem neq_agg {z a b:List AV} {r:Bool} (h1:likeL z a=true) (h2:likeL z b=true) (h3:eqL a b=some r):binOpA .neq (.flat z) (.agg a) (.agg b)=some (.bool !r):=by
 show obind (guardO (likeL z a && likeL z b) (eqL a b)) (fun b=>mkBool (!b))=_
 rw[h1,h2,h3]
 exact mkBool_eq (!r)
structure MInstr where
 op:Int
 ty:Int
 dst:Int
 a:Int
 b:Int
 n:Int
 s:List UInt8
 args:List Int
deriving DecidableEq
structure MBlock where
 code:List MInstr
 kind:Int
 a:Int
 to:Int
 el:Int
deriving DecidableEq
structure MCode where
 name:List UInt8
 ty:Int
 params:Int
 regs:List Int
 blocks:List MBlock
deriving DecidableEq
structure MGlob where
 name:List UInt8
 ty:Int
 size:Int
 at_:Int
deriving DecidableEq
structure MModu where
 globals:List MGlob
 funcs:List MCode
deriving DecidableEq
def IntR (h:Heap) (x:AV) (n:Int):Prop:=x=.int .i64 n
abbrev IntsR:=Ls IntR 1 8
def InstrR (h:Heap) (x:AV) (i:MInstr):Prop:=∃av,x=.agg [.int .i64 i.op,.int .i64 i.ty,.int .i64 i.dst,.int .i64 i.a,.int .i64 i.b,.int .i64 i.n,.str i.s,av]∧IntsR h av i.args
abbrev InstrsR:=Ls InstrR 8 88
def BlockR (h:Heap) (x:AV) (b:MBlock):Prop:=∃cv,x=.agg [cv,.int .i64 b.kind,.int .i64 b.a,.int .i64 b.to,.int .i64 b.el]∧InstrsR h cv b.code
abbrev BlocksR:=Ls BlockR 5 56
def CodeR (h:Heap) (x:AV) (c:MCode):Prop:=∃rv bv,x=.agg [.str c.name,.int .i64 c.ty,.int .i64 c.params,rv,bv]∧IntsR h rv c.regs∧BlocksR h bv c.blocks
abbrev CodesR:=Ls CodeR 5 80
def GlobR (h:Heap) (x:AV) (g:MGlob):Prop:=x=.agg [.str g.name,.int .i64 g.ty,.int .i64 g.size,.int .i64 g.at_]
abbrev GlobsR:=Ls GlobR 4 40
def ModR (h:Heap) (x:AV) (m:MModu):Prop:=∃gv fv,x=.agg [gv,fv]∧GlobsR h gv m.globals∧CodesR h fv m.funcs
theorem IntR.stays:Stays IntR:=fun _ _ _ h=>h
theorem IntsR.stays:Stays IntsR:=Ls.stays IntR.stays
theorem InstrR.stays:Stays InstrR:=fun g _ _ ⟨av,h1,h2⟩=>⟨av,h1,IntsR.stays g h2⟩
theorem InstrsR.stays:Stays InstrsR:=Ls.stays InstrR.stays
theorem BlockR.stays:Stays BlockR:=fun g _ _ ⟨av,h1,h2⟩=>⟨av,h1,InstrsR.stays g h2⟩
theorem BlocksR.stays:Stays BlocksR:=Ls.stays BlockR.stays
theorem CodeR.stays:Stays CodeR:=fun g _ _ ⟨av,bv,h1,h2,h3⟩=>⟨av,bv,h1,IntsR.stays g h2,BlocksR.stays g h3⟩
theorem CodesR.stays:Stays CodesR:=Ls.stays CodeR.stays
theorem GlobR.stays:Stays GlobR:=fun _ _ _ h=>h
theorem GlobsR.stays:Stays GlobsR:=Ls.stays GlobR.stays
theorem ModR.stays:Stays ModR:=fun g _ _ ⟨gv,fv,h1,h2,h3⟩=>⟨gv,fv,h1,GlobsR.stays g h2,CodesR.stays g h3⟩
theorem Ls.ok {α:Type} {R:Heap→AV→α→Prop} {sz bz:Nat} {h:Heap} {v:AV} {l:List α} (hl:Ls R sz bz h v l):okCell v=true:=by
 obtain⟨es,hs,_⟩:=hl.ex
 rcases hs.cases with ⟨rfl,_⟩ | ⟨b,rfl⟩ | ⟨id,off,n,row,z,rfl,_⟩ <;> rfl
theorem Ls.len {α:Type} {R:Heap→AV→α→Prop} {sz bz:Nat} {h:Heap} {v:AV} {l:List α} (hl:Ls R sz bz h v l):lenSl v=some l.length:=by
 obtain⟨es,hs,h2⟩:=hl.ex
 rw[hs.len,h2.len]
theorem okCells_cons (x:AV) (l:List AV):okCells (x::l)=(okCell x && okCells l):=by
 show (bif okCell x then okCells l else false)=_
 cases okCell x <;> rfl
theorem okCells_nil:okCells []=true:=rfl
theorem ok_int (k:IntKind) (n:Int):okCell (.int k n)=true:=rfl
theorem ok_str (s:List UInt8):okCell (.str s)=true:=rfl
end Go.AM
namespace Go.AM
theorem id' {p:Prop} (h:p):p:=h
structure On (F:List Nat) (h h':Heap):Prop where
 nx:h.next≤h'.next
 get:∀id∈F,h'.get id=h.get id
theorem On.refl (F:List Nat) (h:Heap):On F h h:=⟨Nat.le_refl _,fun _ _=>rfl⟩
theorem On.sub {F G:List Nat} {h h':Heap} (o:On F h h') (hs:∀i∈G,i∈F):On G h h':=⟨o.nx,fun i hi=>o.get i (hs i hi)⟩
structure Mod (F:List Nat) (h h':Heap):Prop where
 nx:h.next≤h'.next
 get:∀id,id < h.next→id ∉ F→h'.get id=h.get id
 tch:∃l,h'.tch=l++h.tch∧∀i∈l,h.next≤i∨i∈F
def New (h h':Heap) (F:List Nat):Prop:=∀i∈F,h.next≤i∧i < h'.next
def Old (h:Heap) (F:List Nat):Prop:=∀i∈F,i < h.next
section
variable {F G:List Nat} {h h' h1 h2:Heap}
theorem Mod.refl (F:List Nat) (h:Heap):Mod F h h:=⟨Nat.le_refl _,fun _ _ _=>rfl,[],rfl,fun _ hi=>by cases hi⟩
theorem Grow.mod (g:Grow h h') (F:List Nat):Mod F h h':=⟨g.nx,fun id hid _=>g.get id hid,by obtain⟨l,e,f⟩:=g.tch; exact⟨l,e,fun i hi=>.inl (f i hi)⟩⟩
theorem Mod.grow' (m:Mod F h h') (hF:∀i∈F,h.next≤i):Grow h h':=⟨m.nx,fun id hid=>m.get id hid (fun hi=>by have:=hF id hi; omega),by
 obtain⟨l,e,f⟩:=m.tch
 exact⟨l,e,fun i hi=>(f i hi).elim id fun h=>hF i h⟩⟩
theorem Mod.grow (m:Mod [] h h'):Grow h h':=m.grow' fun i hi=>by cases hi
theorem Mod.trans (a:Mod F h h1) (b:Mod G h1 h2) (hG:∀i∈G,i∈F∨h.next≤i):Mod F h h2:=by
 obtain⟨l1,e1,f1⟩:=a.tch
 obtain⟨l2,e2,f2⟩:=b.tch
 refine⟨Nat.le_trans a.nx b.nx,fun id hid hn=>(b.get id (Nat.lt_of_lt_of_le hid a.nx) fun hg=>?_).trans (a.get id hid hn),l2++l1,by rw[e2,e1,List.append_assoc],fun i hi=>?_⟩
 · rcases hG id hg with h | h
   · exact hn h
   · omega
 · rcases List.mem_append.1 hi with hi | hi
   · rcases f2 i hi with h | h
     · exact .inl (Nat.le_trans a.nx h)
     · exact (hG i h).elim .inr .inl
   · exact f1 i hi
theorem Mod.wide (a:Mod F h h') (hs:∀i∈F,i∈G):Mod G h h':=by
 refine⟨a.nx,fun id hid hn=>a.get id hid fun hf=>hn (hs id hf),?_⟩
 obtain⟨l,e,f⟩:=a.tch
 exact⟨l,e,fun i hi=>(f i hi).imp id (hs i)⟩
theorem Mod.on (m:Mod F h h') (hG:∀i∈G,i < h.next∧i ∉ F):On G h h':=⟨m.nx,fun i hi=>m.get i (hG i hi).1 (hG i hi).2⟩
theorem Grow.on (g:Grow h h') (hG:Old h G):On G h h':=⟨g.nx,fun i hi=>g.get i (hG i hi)⟩
theorem Mod.set {i:Nat} (a:Mod F h h') (x:AObj) (hi:i∈F∨h.next≤i):Mod F h (h'.set i x):=by
 obtain⟨l,e,f⟩:=a.tch
 refine⟨a.nx,fun id hid hn=>(Heap.get_set_ne h' x (fun e=>?_)).trans (a.get id hid hn),i::l,by show i::h'.tch=_; rw[e]; rfl,fun j hj=>?_⟩
 · subst e; rcases hi with h | h
   · exact hn h
   · omega
 · rcases List.mem_cons.1 hj with e | hj
   · subst e; exact hi.symm
   · exact f j hj
theorem Mod.del {i:Nat} (a:Mod F h h') (hi:i∈F∨h.next≤i):Mod F h (h'.del i):=by
 obtain⟨l,e,f⟩:=a.tch
 refine⟨a.nx,fun id hid hn=>(Heap.get_del_ne h' (fun e=>?_)).trans (a.get id hid hn),i::l,by show i::h'.tch=_; rw[e]; rfl,fun j hj=>?_⟩
 · subst e; rcases hi with h | h
   · exact hn h
   · omega
 · rcases List.mem_cons.1 hj with e | hj
   · subst e; exact hi.symm
   · exact f j hj
theorem Mod.push (a:Mod F h h') (x:AObj):Mod F h (h'.push x):=a.trans (G:=[]) ((Grow.push h' x).mod []) fun i hi=>by cases hi
theorem New.old (hn:New h h' F):Old h' F:=fun i hi=>(hn i hi).2
end
abbrev OR (α:Type):=List Nat→Heap→AV→α→Prop
def Fr {α:Type} (R:OR α):Prop:=∀{F:List Nat} {h h':Heap} {x:AV} {X:α},On F h h'→R F h x X→R F h' x X
def In {α:Type} (R:OR α):Prop:=∀{F:List Nat} {h:Heap} {x:AV} {X:α},R F h x X→Old h F
structure OwnL {α:Type} (R:OR α) (sz bz:Nat) (F:List Nat) (h:Heap) (v:AV) (l:List α):Prop where
 mk ::
 ex:(l=[]∧v=.nilsl∧F=[])∨∃(id:Nat) (es:List AV) (Ss:List (List Nat)),v=.msl id 0 l.length sz∧h.get id=some (.row es sz)∧id < h.next∧es.length=l.length∧Ss.length=l.length ∧
   (∀(i:Nat) (S:List Nat) (x:AV) (X:α),Ss[i]?=some S→es[i]?=some x→l[i]?=some X→R S h x X∧x.cells.length=sz)∧F=id::Ss.flatten∧F.Nodup
 sm:l.length * bz≤140737488355328
 le:l.length≤140737488355328
section
variable {α:Type} {R:OR α} {sz bz:Nat} {F:List Nat} {h h':Heap} {v:AV} {l:List α}
theorem mem_flat {Ss:List (List Nat)} {i j:Nat} {S:List Nat} (hs:Ss[i]?=some S) (hj:j∈S):j∈Ss.flatten:=List.mem_flatten.2 ⟨S,List.mem_of_getElem? hs,hj⟩
theorem OwnL.nil:OwnL R sz bz [] h .nilsl []:=⟨.inl ⟨rfl,rfl,rfl⟩,by simp,by simp⟩
theorem OwnL.fr (hR:Fr R):Fr (OwnL R sz bz):=by
 intro F h h' v l ho hl
 refine⟨?_,hl.sm,hl.le⟩
 rcases hl.ex with ⟨a,b,c⟩ | ⟨id,es,Ss,e1,e2,e3,e4,e5,e6,e7,e8⟩
 · exact .inl ⟨a,b,c⟩
 · subst e7
   refine .inr ⟨id,es,Ss,e1,(ho.get id (List.mem_cons_self ..)).trans e2,Nat.lt_of_lt_of_le e3 ho.nx,e4,e5,fun i S x X h1 h2 h3=>?_,rfl,e8⟩
   exact⟨hR (ho.sub fun j hj=>List.mem_cons_of_mem _ (mem_flat h1 hj)) (e6 i S x X h1 h2 h3).1,(e6 i S x X h1 h2 h3).2⟩
theorem OwnL.in' (hR:In R):In (OwnL R sz bz):=by
 intro F h v l hl
 rcases hl.ex with ⟨a,b,c⟩ | ⟨id,es,Ss,e1,e2,e3,e4,e5,e6,e7,e8⟩
 · subst c; intro i hi; cases hi
 · subst e7
   intro i hi
   rcases List.mem_cons.1 hi with rfl | hi
   · exact e3
   · obtain⟨S,hS,hi⟩:=List.mem_flatten.1 hi
     obtain⟨k,hk⟩:=List.getElem?_of_mem hS
     have hk1:k < Ss.length:=(List.getElem?_eq_some_iff.1 hk).1
     exact hR (e6 k S _ _ hk (List.getElem?_eq_getElem (by omega)) (List.getElem?_eq_getElem (by omega))).1 i hi
theorem OwnL.nodup (hl:OwnL R sz bz F h v l):F.Nodup:=by
 rcases hl.ex with ⟨a,b,c⟩ | ⟨id,es,Ss,e1,e2,e3,e4,e5,e6,e7,e8⟩
 · subst c; exact List.nodup_nil
 · exact e8
theorem OwnL.len (hl:OwnL R sz bz F h v l):lenSl v=some l.length:=by
 rcases hl.ex with ⟨a,b,c⟩ | ⟨id,es,Ss,e1,e2,e3,e4,e5,e6,e7,e8⟩
 · subst a b; rfl
 · subst e1; rfl
theorem OwnL.ok (hl:OwnL R sz bz F h v l):okCell v=true:=by
 rcases hl.ex with ⟨a,b,c⟩ | ⟨id,es,Ss,e1,e2,e3,e4,e5,e6,e7,e8⟩
 · subst b; rfl
 · subst e1; rfl
theorem OwnL.ls {S:Heap→AV→α→Prop} (hRS:∀{F h x X},R F h x X→S h x X) (hl:OwnL R sz bz F h v l):Ls S sz bz h v l:=by
 refine⟨?_,hl.sm,hl.le⟩
 rcases hl.ex with ⟨a,b,c⟩ | ⟨id,es,Ss,e1,e2,e3,e4,e5,e6,e7,e8⟩
 · subst a b; exact⟨[],Sl.nil,All2.nil⟩
 · subst e1
   have hall:∀(i:Nat) x X,es[i]?=some x→l[i]?=some X→∃T,R T h x X∧x.cells.length=sz:=fun i x X hx hX=>by
     have hi:i < Ss.length:=by have:=(List.getElem?_eq_some_iff.1 hx).1; omega
     exact⟨_,e6 i _ x X (List.getElem?_eq_getElem hi) hx hX⟩
   refine⟨es,Sl.row e2 e4 e3 (fun i x hx=>?_),e4,fun i x X hx hX=>?_⟩
   · have hi:i < l.length:=by have:=(List.getElem?_eq_some_iff.1 hx).1; omega
     obtain⟨T,_,h2⟩:=hall i x _ hx (List.getElem?_eq_getElem hi)
     exact h2
   · obtain⟨T,h1,_⟩:=hall i x X hx hX
     exact hRS h1
theorem firstSize_nil (sz:Nat):firstSize sz []=true:=rfl
theorem OwnL.app (hR:Fr R) (hI:In R) {te:TI} (hz:te.size=sz) (hb:te.bytes=bz) (hl:OwnL R sz bz F h v l) {S:List Nat} {x:AV} {X:α} (hx:R S h x X) (hxs:x.cells.length=sz) (hS:S.Nodup) (hd:∀i∈S,i ∉ F) (hsm:(l.length+1) * bz≤140737488355328) (hle:l.length+1≤140737488355328) :
   ∃v' h' F',appendA te v [x] h=some (v',h')∧OwnL R sz bz F' h' v' (l++[X])∧Mod F h h'∧(∀i∈F',i∈F∨i∈S∨h.next≤i):=by
 rcases hl.ex with ⟨a,b,c⟩ | ⟨id,es,Ss,e1,e2,e3,e4,e5,e6,e7,e8⟩
 · subst a b c
   refine⟨.msl h.next 0 1 sz,h.push (.row [x] sz),h.next::[S].flatten,?_,⟨.inr ⟨h.next,[x],[S],rfl,Heap.get_push_eq h _,Nat.lt_succ_self _,rfl,rfl,?_,rfl,?_⟩,by simpa using hsm,by simp⟩,(Grow.push h _).mod [],?_⟩
   · show forceN 1 (fun n=>guardO (true && Nat.ble (Nat.mul n te.bytes) 140737488355328 && firstSize te.size []) (forceL [x] fun l=>some (AV.msl h.next 0 n te.size,h.push (.row l te.size))))=_
     rw[forceN_eq,hb,firstSize_nil]
     have:Nat.ble (Nat.mul 1 bz) 140737488355328=true:=Nat.ble_eq_true_of_le (by simpa using hsm)
     rw[this,forceL_eq,hz]; rfl
   · intro i T y Y h1 h2 h3
     cases i with
     | zero=>cases h1; cases h2; cases h3; exact⟨hR ⟨Nat.le_succ _,fun j hj=>Heap.get_push_ne h _ (by have:=hI hx j hj; omega)⟩ hx,hxs⟩
     | succ i=>simp at h1
   · refine List.nodup_cons.2 ⟨fun hi=>?_,by simpa using hS⟩
     have:=hI hx h.next (by simpa using hi); omega
   · intro i hi
     rcases List.mem_cons.1 hi with rfl | hi
     · exact .inr (.inr (Nat.le_refl _))
     · exact .inr (.inl (by simpa using hi))
 · subst e1 e7
   have hF:Old h (id::Ss.flatten):=OwnL.in' hI hl
   have hid:h.next≠id:=by omega
   have hg:∀j,j≠id→j < h.next→((h.del id).push (.row (es++[x]) sz)).get j=h.get j:=fun j hj hj2 =>
     (Heap.get_push_ne _ _ (show j≠(h.del id).next by show j≠h.next; omega)).trans (Heap.get_del_ne h fun e=>hj e.symm)
   refine⟨.msl h.next 0 (l.length+1) sz,(h.del id).push (.row (es++[x]) sz),h.next::(Ss++[S]).flatten,?_,⟨.inr ⟨h.next,es++[x],Ss++[S],by simp,Heap.get_push_eq (h.del id) _,Nat.lt_succ_self _,by simp[e4],by simp[e5],?_,rfl,?_⟩,by simpa using hsm,by simpa using hle⟩,?_,?_⟩
   · show h.onRow id none (appendM te id 0 l.length [x] h)=_
     rw[onRow_eq e2]
     show forceN (l.length+1) (fun m=>guardO (Nat.ble (0+l.length) (lenL es) && Nat.beq sz te.size && Nat.ble (Nat.mul m te.bytes) 140737488355328) (forceL (appL (takeL (dropL es 0) l.length) [x]) fun l=>some (AV.msl h.next 0 m sz,(h.del id).push (.row l sz))))=_
     rw[forceN_eq,lenL_eq,e4,Nat.zero_add,Nat.ble_eq_true_of_le (Nat.le_refl _),hz,Nat.beq_refl,hb]
     have:Nat.ble (Nat.mul (l.length+1) bz) 140737488355328=true:=Nat.ble_eq_true_of_le hsm
     rw[this,forceL_eq,appL_eq,takeL_eq,dropL_eq,List.drop_zero,← e4,List.take_length]; rfl
   · intro i T y Y h1 h2 h3
     rw[List.getElem?_append] at h1 h2 h3
     rw[e5] at h1
     rw[e4] at h2
     split at h1
     · rename_i hi
       rw[if_pos hi] at h2 h3
       refine⟨hR (show On T h _ from ⟨Nat.le_succ _,fun j hj=>hg j (fun e=>?_) (hF j (List.mem_cons_of_mem _ (mem_flat h1 hj)))⟩) (e6 i T y Y h1 h2 h3).1,(e6 i T y Y h1 h2 h3).2⟩
       subst e; exact (List.nodup_cons.1 e8).1 (mem_flat h1 hj)
     · rename_i hi
       rw[if_neg hi] at h2 h3
       cases hk:i - l.length with
       | zero =>
         rw[hk] at h1 h2 h3; cases h1; cases h2; cases h3
         exact⟨hR (show On S h _ from ⟨Nat.le_succ _,fun j hj=>hg j (fun e=>hd j hj (by subst e; exact List.mem_cons_self ..)) (hI hx j hj)⟩) hx,hxs⟩
       | succ k=>rw[hk] at h1; simp at h1
   · have e9:=List.nodup_cons.1 e8
     refine List.nodup_cons.2 ⟨fun hi=>?_,?_⟩
     · rw[List.flatten_append,List.mem_append] at hi
       rcases hi with hi | hi
       · have:=hF h.next (List.mem_cons_of_mem _ hi); omega
       · have:=hI hx h.next (by simpa using hi); omega
     · rw[List.flatten_append,List.nodup_append]
       refine⟨e9.2,by simpa using hS,fun a ha b hb e=>?_⟩
       subst e
       exact hd a (by simpa using hb) (List.mem_cons_of_mem _ ha)
   · exact ((Mod.refl _ h).del (.inl (List.mem_cons_self ..))).push _
   · intro i hi
     rcases List.mem_cons.1 hi with rfl | hi
     · exact .inr (.inr (Nat.le_refl _))
     · rw[List.flatten_append,List.mem_append] at hi
       rcases hi with hi | hi
       · exact .inl (List.mem_cons_of_mem _ hi)
       · exact .inr (.inl (by simpa using hi))
theorem flat_ne {Ss:List (List Nat)} (hn:Ss.flatten.Nodup) {i k j:Nat} {T S:List Nat} (h1:Ss[i]?=some T) (h2:Ss[k]?=some S) (hne:i≠k) (hj:j∈T):j ∉ S:=by
 induction Ss generalizing i k with
 | nil=>simp at h1
 | cons A Ss ih =>
   rw[List.flatten_cons,List.nodup_append] at hn
   intro hjs
   cases i with
   | zero =>
     cases k with
     | zero=>exact hne rfl
     | succ k=>cases h1; exact hn.2.2 j hj j (mem_flat h2 hjs) rfl
   | succ i =>
     cases k with
     | zero=>cases h2; exact hn.2.2 j hjs j (mem_flat h1 hj) rfl
     | succ k=>exact ih hn.2.1 h1 h2 (fun e=>hne (by rw[e])) hjs
theorem mem_set {Ss:List (List Nat)} {k j:Nat} {S':List Nat} (hj:j∈(Ss.set k S').flatten):j∈Ss.flatten∨j∈S':=by
 obtain⟨T,hT,hj'⟩:=List.mem_flatten.1 hj
 rcases List.mem_or_eq_of_mem_set hT with h | h
 · exact .inl (List.mem_flatten.2 ⟨T,h,hj'⟩)
 · exact .inr (h ▸ hj')
theorem nodup_set:∀{Ss:List (List Nat)} {k:Nat} {S S':List Nat},Ss[k]?=some S→Ss.flatten.Nodup→S'.Nodup→(∀i∈S',i∈S∨i ∉ Ss.flatten)→(Ss.set k S').flatten.Nodup
 | [],k,S,S',h1,_,_,_=>by simp at h1
 | A::Ss,0,S,S',h1,h2,h3,h4=>by
   cases h1
   rw[List.flatten_cons,List.nodup_append] at h2
   show (S'::Ss).flatten.Nodup
   rw[List.flatten_cons,List.nodup_append]
   refine⟨h3,h2.2.1,fun a ha b hb e=>?_⟩
   subst e
   rcases h4 a ha with h | h
   · exact h2.2.2 a h a hb rfl
   · exact h (List.mem_flatten.2 (by obtain⟨T,hT,hb⟩:=List.mem_flatten.1 hb; exact⟨T,List.mem_cons_of_mem _ hT,hb⟩))
 | A::Ss,k+1,S,S',h1,h2,h3,h4=>by
   rw[List.flatten_cons,List.nodup_append] at h2
   show (A::Ss.set k S').flatten.Nodup
   rw[List.flatten_cons,List.nodup_append]
   have h4':∀i∈S',i∈S∨i ∉ Ss.flatten:=fun i hi=>(h4 i hi).imp id fun h h'=>h (by rw[List.flatten_cons]; exact List.mem_append_right _ h')
   refine⟨h2.1,nodup_set h1 h2.2.1 h3 h4',fun a ha b hb e=>?_⟩
   subst e
   rcases mem_set hb with h | h
   · exact h2.2.2 a ha a h rfl
   · rcases h4 a h with h | h
     · exact h2.2.2 a ha a (mem_flat h1 h) rfl
     · exact h (by rw[List.flatten_cons]; exact List.mem_append_left _ ha)
structure Elt (R:OR α) (sz bz:Nat) (F:List Nat) (h:Heap) (v:AV) (l:List α) (k:Nat) (X:α) (id:Nat) (es:List AV) (S:List Nat) (x:AV):Prop where
 hv:v=.msl id 0 l.length sz
 get:h.get id=some (.row es sz)
 len:es.length=l.length
 at_:es[k]?=some x
 r:R S h x X
 cl:x.cells.length=sz
 sub:∀i∈S,i∈F
 idF:id∈F
 idS:id ∉ S
 nd:S.Nodup
 lt:k < l.length
 upd:∀{h':Heap} {x':AV} {X':α} {S':List Nat},h.next≤h'.next→(∀i∈F,i≠id→i ∉ S→h'.get i=h.get i)→h'.get id=some (.row (es.set k x') sz)→R S' h' x' X'→x'.cells.length=sz→S'.Nodup→(∀i∈S',i∈S∨i ∉ F) →
   ∃F',OwnL R sz bz F' h' v (l.set k X')∧(∀i∈F',i∈F∨i∈S')∧(S'=S→F'=F)
theorem OwnL.elt (hR:Fr R) (hl:OwnL R sz bz F h v l) (hnd:∀{F h x X},R F h x X→F.Nodup) {k:Nat} {X:α} (hX:l[k]?=some X):∃id es S x,Elt R sz bz F h v l k X id es S x:=by
 have hk:k < l.length:=(List.getElem?_eq_some_iff.1 hX).1
 rcases hl.ex with ⟨a,b,c⟩ | ⟨id,es,Ss,e1,e2,e3,e4,e5,e6,e7,e8⟩
 · subst a; simp at hX
 · subst e7
   have hS:Ss[k]?=some Ss[k]:=List.getElem?_eq_getElem (by omega)
   have hx:es[k]?=some es[k]:=List.getElem?_eq_getElem (by omega)
   have hr:=e6 k _ _ X hS hx hX
   have e9:=List.nodup_cons.1 e8
   refine⟨id,es,Ss[k],es[k],e1,e2,e4,hx,hr.1,hr.2,fun i hi=>List.mem_cons_of_mem _ (mem_flat hS hi),List.mem_cons_self ..,fun hi=>e9.1 (mem_flat hS hi),hnd hr.1,hk,?_⟩
   intro h' x' X' S' g1 g2 g3 g4 g5 g6 g7
   refine⟨id::(Ss.set k S').flatten,⟨.inr ⟨id,es.set k x',Ss.set k S',by rw[List.length_set]; exact e1,g3,Nat.lt_of_lt_of_le e3 g1,by rw[List.length_set,List.length_set]; exact e4,by rw[List.length_set,List.length_set]; exact e5,?_,rfl,?_⟩,by rw[List.length_set]; exact hl.sm,by rw[List.length_set]; exact hl.le⟩,?_,?_⟩
   · intro i T y Y h1 h2 h3
     rw[List.getElem?_set] at h1 h2 h3
     by_cases hik:k=i
     · rw[if_pos hik,if_pos (by omega)] at h1 h2 h3
       cases h1; cases h2; cases h3
       exact⟨g4,g5⟩
     · rw[if_neg hik] at h1 h2 h3
       refine⟨hR ⟨g1,fun j hj=>g2 j (List.mem_cons_of_mem _ (mem_flat h1 hj)) (fun e=>?_) ?_⟩ (e6 i T y Y h1 h2 h3).1,(e6 i T y Y h1 h2 h3).2⟩
       · subst e; exact e9.1 (mem_flat h1 hj)
       · exact flat_ne e9.2 h1 hS (fun e=>hik e.symm) hj
   · refine List.nodup_cons.2 ⟨fun hi=>?_,nodup_set hS e9.2 g6 fun i hi=>(g7 i hi).imp id' fun h h'=>h (List.mem_cons_of_mem _ h')⟩
     rcases mem_set hi with h | h
     · exact e9.1 h
     · rcases g7 id h with h | h
       · exact e9.1 (mem_flat hS h)
       · exact h (List.mem_cons_self ..)
   · intro i hi
     rcases List.mem_cons.1 hi with rfl | hi
     · exact .inl (List.mem_cons_self ..)
     · exact (mem_set hi).imp (List.mem_cons_of_mem _) id'
   · intro e
     subst e
     rw[List.set_getElem_self]
end
structure Good {α:Type} (R:OR α) (sz:Nat):Prop where
 fr:Fr R
 inn:In R
 nd:∀{F h x X},R F h x X→F.Nodup
 cl:∀{F h x X},R F h x X→x.cells.length=sz
 ok:∀{F h x X},R F h x X→okCells x.cells=true
theorem Good.own {α:Type} {R:OR α} {sz:Nat} (hR:Good R sz) {sz' bz:Nat} {F:List Nat} {h h':Heap} {v:AV} {l:List α} (o:On F h h') (hl:OwnL R sz' bz F h v l):OwnL R sz' bz F h' v l:=OwnL.fr (R:=R) hR.fr o hl
theorem Good.old {α:Type} {R:OR α} {sz:Nat} (hR:Good R sz) {sz' bz:Nat} {F:List Nat} {h:Heap} {v:AV} {l:List α} (hl:OwnL R sz' bz F h v l):Old h F:=OwnL.in' (R:=R) hR.inn hl
noncomputable def bsR (sz:Nat) (v:AV) (h:Heap):Res:=bif Nat.beq (lenL v.cells) sz && okCells v.cells then .ok (.msl h.next 0 1 sz) (h.push (.row [v] sz)) else .bad
theorem bsR_ok {sz:Nat} {v:AV} {h:Heap} (h1:v.cells.length=sz) (h2:okCells v.cells=true):bsR sz v h=.ok (.msl h.next 0 1 sz) (h.push (.row [v] sz)):=by
 unfold bsR; rw[lenL_eq,h1,h2,Nat.beq_refl]; rfl
noncomputable def appR (te:TI) (s b:AV) (h:Heap):Res:=lift2 (obind (elems b h) fun xs=>guardO (allSize te.size xs) (appendA te s xs h))
section
variable {E:Env} {fr:Tr} {h:Heap} {call:CallF} {ts te:Nat} {tis tie:TI}
theorem p_bs1 (hts:E.ti ts=some tis) (hd:tis.desc=.slice te) (hte:E.ti te=some tie) (h1:0 < tie.size) (h2:tie.size≤65536) (x:Operand):evOp E call (.buildSlice ts 1 #[(0,x)]) fr h=bsR tie.size (opv E x fr) h:=by
 show onTI E ts .bad (fun ti=>match elemOfT E ti.desc with
   | none=>Res.bad
   | some te=>bif Nat.ble (Nat.mul 1 te.size) 65536 && Nat.blt 0 te.size then
       (match placeL te.size [(0,opv E x fr)] (repL 1 te.zero) with
       | none=>Res.bad
       | some es=>Res.ok (.msl h.next 0 1 te.size) (h.push (.row es te.size))) else Res.bad)=_
 unfold onTI; rw[hts]; dsimp only; rw[hd]
 have:elemOfT E (.slice te)=some tie:=hte
 rw[this]; dsimp only
 have a1:Nat.ble (Nat.mul 1 tie.size) 65536=true:=Nat.ble_eq_true_of_le (by rw[show Nat.mul 1 tie.size=tie.size from Nat.one_mul _]; exact h2)
 have a2:Nat.blt 0 tie.size=true:=Nat.ble_eq_true_of_le h1
 rw[a1,a2]
 show (match guardO (Nat.beq (lenL (opv E x fr).cells) tie.size && okCells (opv E x fr).cells) (some [opv E x fr]) with
   | none=>Res.bad
   | some es=>.ok (.msl h.next 0 1 tie.size) (h.push (.row es tie.size)))=bsR _ _ _
 unfold bsR
 cases Nat.beq (lenL (opv E x fr).cells) tie.size <;> cases okCells (opv E x fr).cells <;> rfl
theorem p_app (hts:E.ti ts=some tis) (hd:tis.desc=.slice te) (hte:E.ti te=some tie) (h1:0 < tie.size) (a b:Operand):evOp E call (.call ⟨.builtin .append,#[a,b],#[ts,ts]⟩) fr h=appR tie (opv E a fr) (opv E b fr) h:=by
 show lift2 (onTI E ts none fun ti=>obind (elemOfT E ti.desc) fun te=>guardO (Nat.blt 0 te.size) (onTI E ts none fun tix =>
         match tix.desc with
         | .int _=>obind (asNat (opv E b fr)) fun n=>guardO (Nat.ble (Nat.mul n te.bytes) 140737488355328) (appendA te (opv E a fr) (repL n te.zero) h)
         | _=>obind (elems (opv E b fr) h) fun xs=>guardO (allSize te.size xs) (appendA te (opv E a fr) xs h)))=_
 unfold onTI; rw[hts]; dsimp only; rw[hd]
 have:elemOfT E (.slice te)=some tie:=hte
 rw[this]
 have a2:Nat.blt 0 tie.size=true:=Nat.ble_eq_true_of_le h1
 dsimp only[obind]
 rw[a2]; rfl
theorem d_care (d:Option Tmp) (op:Op) (s:List Bool) (l:List XOp):evOpsD E call (⟨d,op,none,false,s,true⟩::l) fr h []=evThenD d (evOpsD E call l) (virtD E call l s (setDst d skipped fr) h []) fr (plainD' [] (evOp E call op fr h)):=by
 show evThenD d (evOpsD E call l) (virtD E call l s (setDst d skipped fr) h []) fr (bif readOk (readO E op fr) [] then plainD' [] (evOp E call op fr h) else .bad)=_
 cases readO E op fr <;> rfl
theorem d_quietG {d:Option Tmp} {op:Op} {s:List Bool} {c:Bool} {l:List XOp} {v:AV} {h':Heap} (hc:evOp E call op fr { h with tch:=[] }=.ok v h') (hg:Grow { h with tch:=[] } h'):evOpsD E call (⟨d,op,none,true,s,c⟩::l) fr h []=evOpsD E call l (setDst d v fr) { h' with tch:=h.tch } []:=by
 rw[d_quiet,hc]
 obtain⟨t,e,f⟩:=hg.tch
 have:belowN h.next h'.tch=[]:=belowN_none fun i hi=>f i (by rw[e] at hi; simpa using hi)
 show evThenD d (evOpsD E call l) (virtD E call l s (setDst d skipped fr) h []) fr (.ok v { h' with tch:=appN (belowN h.next h'.tch) h.tch } (appN (belowN h.next h'.tch) []))=_
 rw[this]; rfl
end
theorem allSize_one {sz:Nat} {x:AV} (hx:x.cells.length=sz):allSize sz [x]=true:=by
 show (bif Nat.beq (lenL x.cells) sz then true else false)=true
 rw[lenL_eq,hx,Nat.beq_refl]; rfl
section
variable {α:Type} {R:OR α} {sz bz:Nat} {F:List Nat} {h h':Heap} {v:AV} {l:List α}
theorem OwnL.app1 (hR:Good R sz) {te:TI} (hz:te.size=sz) (hb:te.bytes=bz) (hl:OwnL R sz bz F h v l) {S:List Nat} {x:AV} {X:α} (hx:R S h x X) (hd:∀i∈S,i ∉ F) (hsm:(l.length+1) * bz≤140737488355328) (hle:l.length+1≤140737488355328) :
   ∃v' h' F',appR te v (.msl h.next 0 1 sz) (h.push (.row [x] sz))=.ok v' h'∧OwnL R sz bz F' h' v' (l++[X])∧Mod F h h'∧(∀i∈F',i∈F∨i∈S∨(h.next≤i∧i < h'.next)):=by
 have g:=Grow.push h (.row [x] sz)
 have o1:On F h (h.push (.row [x] sz)):=g.on ((hR).old hl)
 have o2:On S h (h.push (.row [x] sz)):=g.on (hR.inn hx)
 obtain⟨v',h',F',e,ho,hm,hF⟩:=OwnL.app (R:=R) hR.fr hR.inn hz hb ((hR).own o1 hl) (hR.fr o2 hx) (hR.cl hx) (hR.nd hx) hd hsm hle
 refine⟨v',h',F',?_,ho,(g.mod F).trans hm fun i hi=>.inl hi,fun i hi=>?_⟩
 · unfold appR
   have:elems (.msl h.next 0 1 sz) (h.push (.row [x] sz))=some [x]:=elems_msl (Heap.get_push_eq h _) (by simp)
   rw[this]
   show lift2 (guardO (allSize te.size [x]) (appendA te v [x] (h.push (.row [x] sz))))=_
   rw[hz,allSize_one (hR.cl hx),e]; rfl
 · have:=(hR).old ho i hi
   rcases hF i hi with h1 | h1 | h1
   · exact .inl h1
   · exact .inr (.inl h1)
   · have:h.next+1≤i:=h1
     exact .inr (.inr ⟨by omega,by omega⟩)
end
end Go.AM
namespace Go.AM
section
variable {E:Env} {h:Heap} {ts te nt t:Nat} {tis tie:TI} {α:Type} {S:Heap→AV→α→Prop} {R:OR α} {blk:XC} {sz bz:Nat}
def CopyOk (E:Env) (S:Heap→AV→α→Prop) (R:OR α) (f:Nat):Prop :=
 ∀{h:Heap} {x:AV} {X:α},S h x X→∃x' h' F,callω E f [x] h=.ok x' h'∧R F h' x' X∧Grow h h'∧New h h' F
theorem take_snoc {L:List α} {k:Nat} {X:α} (hX:L[k]?=some X):L.take k++[X]=L.take (k+1):=by
 rw[List.take_add_one,hX]; rfl
theorem take_len {L:List α} {k:Nat} {X:α} (hX:L[k]?=some X):(L.take k).length+1≤L.length:=by
 have:=(List.getElem?_eq_some_iff.1 hX).1
 rw[List.length_take]; omega
end
end Go.AM
namespace Go.AM
section
variable {E:Env} {fr:Tr} {h:Heap} {call:CallF}
theorem store_elt {id i sz off:Nat} {es:List AV} {x v:AV} {t:TI} (hg:h.get id=some (.row es sz)) (hx:es[i]?=some x) (h1:v.cells.length=t.size) (h2:0 < t.size) (h3:off+t.size≤sz) (h4:okCells v.cells=true):storeA t (.ptr id i off) v h=some (h.set id (.row (es.set i (x.withCells off v.cells)) sz)):=by
 show h.onRow id none (storeRow t id i off v.cells h)=_
 rw[onRow_eq hg]
 show obind (nthL es i) (fun old=>guardO (Nat.beq (lenL v.cells) t.size && Nat.blt 0 t.size && Nat.ble (Nat.add off t.size) sz && okCells v.cells) (some (h.set id (.row (setL es i (old.withCells off v.cells)) sz))))=_
 have a2:Nat.blt 0 t.size=true:=Nat.ble_eq_true_of_le h2
 have a3:Nat.ble (Nat.add off t.size) sz=true:=Nat.ble_eq_true_of_le h3
 rw[nthL_eq,hx,lenL_eq,h1,Nat.beq_refl,a2,a3,h4]
 show some (h.set id (.row (setL es i _) sz))=_
 rw[setL_eq]
theorem store_old {id sz off:Nat} {x v:AV} {t:TI} (hg:h.get id=some (.row [x] sz)) (h1:v.cells.length=t.size) (h2:0 < t.size) (h3:off+t.size≤sz) (h4:okCells v.cells=true):storeA t (.ptr id 0 off) v h=some (h.set id (.row [x.withCells off v.cells] sz)):=store_elt hg rfl h1 h2 h3 h4
theorem load_set {id sz o:Nat} {x:AV} {y:AObj} (hg:h.get id=some y) (t:TI):loadA t (.ptr id 0 o) (h.set id (.row [x] sz))=partOf t x.cells o:=load_old (Heap.get_set_eq h _ hg) t o
theorem liftH_some (h:Heap):liftH (some h)=.ok .und h:=rfl
theorem res_cell {a:Tmp} {t:Nat} {ti:TI} (ht:E.ti t=some ti) (l:List ResultVar):resultsA E (.cell a t::l) fr h=obind (loadA ti (fr.get a) h) fun v=>obind (resultsA E l fr h) fun vs=>some (v::vs):=by
 show onTI E t none (fun ti=>obind (loadA ti (fr.get a) h) fun v=>obind (resultsA E l fr h) fun vs=>some (v::vs))=_
 unfold onTI; rw[ht]
end
theorem fill_cons {place:Nat→Option (Nat × Nat)} {i:Nat} {v:AV} {ps:List (Nat × AV)} {cells:List AV} {q:Nat × Nat} (hq:place i=some q) (h1:v.cells.length=q.2) (h2:q.1+q.2≤cells.length) (h3:okCells v.cells=true):fillL place ((i,v)::ps) cells=fillL place ps (splice cells q.1 v.cells):=by
 show obind (place i) (fun q=>guardO (Nat.beq (lenL v.cells) q.2 && Nat.ble (Nat.add q.1 q.2) (lenL cells) && okCells v.cells) (fillL place ps (splice cells q.1 v.cells)))=_
 rw[hq]
 have a1:Nat.ble (Nat.add q.1 q.2) cells.length=true:=Nat.ble_eq_true_of_le h2
 show guardO (Nat.beq (lenL v.cells) q.2 && Nat.ble (Nat.add q.1 q.2) (lenL cells) && okCells v.cells) _=_
 rw[lenL_eq,lenL_eq,h1,Nat.beq_refl,a1,h3]; rfl
def IntO:OR Int:=fun F h x n=>F=[]∧IntR h x n
abbrev IntsO:=OwnL IntO 1 8
def InstrO:OR MInstr:=fun F h x i=>∃av,x=.agg [.int .i64 i.op,.int .i64 i.ty,.int .i64 i.dst,.int .i64 i.a,.int .i64 i.b,.int .i64 i.n,.str i.s,av]∧IntsO F h av i.args
abbrev InstrsO:=OwnL InstrO 8 88
def BlockO:OR MBlock:=fun F h x b=>∃cv,x=.agg [cv,.int .i64 b.kind,.int .i64 b.a,.int .i64 b.to,.int .i64 b.el]∧InstrsO F h cv b.code
abbrev BlocksO:=OwnL BlockO 5 56
def CodeO:OR MCode:=fun F h x c=>∃rv bv F1 F2,x=.agg [.str c.name,.int .i64 c.ty,.int .i64 c.params,rv,bv]∧IntsO F1 h rv c.regs∧BlocksO F2 h bv c.blocks∧F=F1++F2∧F.Nodup
abbrev CodesO:=OwnL CodeO 5 80
def GlobO:OR MGlob:=fun F h x g=>F=[]∧GlobR h x g
abbrev GlobsO:=OwnL GlobO 4 40
theorem OwnL.cells {α:Type} {R:OR α} {sz bz:Nat} {F:List Nat} {h:Heap} {v:AV} {l:List α} (hl:OwnL R sz bz F h v l):v.cells=[v]:=by
 rcases hl.ex with ⟨a,b,c⟩ | ⟨id,es,Ss,e1,_⟩
 · subst b; rfl
 · subst e1; rfl
theorem Ls.cells {α:Type} {R:Heap→AV→α→Prop} {sz bz:Nat} {h:Heap} {v:AV} {l:List α} (hl:Ls R sz bz h v l):v.cells=[v]:=by
 obtain⟨es,hs,_⟩:=hl.ex
 rcases hs.cases with ⟨rfl,_⟩ | ⟨b,rfl⟩ | ⟨id,off,n,row,z,rfl,_⟩ <;> rfl
theorem IntO.good:Good IntO 1:=by
 refine⟨fun _ ⟨a,b⟩=>⟨a,b⟩,?_,?_,?_,?_⟩
 · rintro F h x X ⟨rfl,_⟩ i hi; cases hi
 · rintro F h x X ⟨rfl,_⟩; exact List.nodup_nil
 · rintro F h x X ⟨_,rfl⟩; rfl
 · rintro F h x X ⟨_,rfl⟩; rfl
theorem GlobO.good:Good GlobO 4:=by
 refine⟨fun _ ⟨a,b⟩=>⟨a,b⟩,?_,?_,?_,?_⟩
 · rintro F h x X ⟨rfl,_⟩ i hi; cases hi
 · rintro F h x X ⟨rfl,_⟩; exact List.nodup_nil
 · rintro F h x X ⟨_,rfl⟩; rfl
 · rintro F h x X ⟨_,rfl⟩; rfl
theorem InstrO.good:Good InstrO 8:=by
 refine⟨fun o ⟨av,a,b⟩=>⟨av,a,(IntO.good).own o b⟩,?_,?_,?_,?_⟩
 · rintro F h x X ⟨av,rfl,b⟩; exact (IntO.good).old b
 · rintro F h x X ⟨av,rfl,b⟩; exact b.nodup
 · rintro F h x X ⟨av,rfl,b⟩; rfl
 · rintro F h x X ⟨av,rfl,b⟩
   show okCells [_,_,_,_,_,_,_,av]=true
   simp only[okCells_cons,okCells_nil,ok_int,ok_str,b.ok,Bool.and_self]
theorem BlockO.good:Good BlockO 5:=by
 refine⟨fun o ⟨av,a,b⟩=>⟨av,a,(InstrO.good).own o b⟩,?_,?_,?_,?_⟩
 · rintro F h x X ⟨av,rfl,b⟩; exact (InstrO.good).old b
 · rintro F h x X ⟨av,rfl,b⟩; exact b.nodup
 · rintro F h x X ⟨av,rfl,b⟩; rfl
 · rintro F h x X ⟨av,rfl,b⟩
   show okCells [av,_,_,_,_]=true
   simp only[okCells_cons,okCells_nil,ok_int,ok_str,b.ok,Bool.and_self]
theorem CodeO.good:Good CodeO 5:=by
 refine⟨?_,?_,?_,?_,?_⟩
 · rintro F h h' x X o ⟨rv,bv,F1,F2,a,b,c,rfl,e⟩
   exact⟨rv,bv,F1,F2,a,(IntO.good).own (o.sub fun i hi=>List.mem_append_left _ hi) b,(BlockO.good).own (o.sub fun i hi=>List.mem_append_right _ hi) c,rfl,e⟩
 · rintro F h x X ⟨rv,bv,F1,F2,a,b,c,rfl,e⟩ i hi
   rcases List.mem_append.1 hi with hi | hi
   · exact (IntO.good).old b i hi
   · exact (BlockO.good).old c i hi
 · rintro F h x X ⟨rv,bv,F1,F2,a,b,c,rfl,e⟩; exact e
 · rintro F h x X ⟨rv,bv,F1,F2,rfl,b,c,d,e⟩; rfl
 · rintro F h x X ⟨rv,bv,F1,F2,rfl,b,c,d,e⟩
   show okCells [_,_,_,rv,bv]=true
   simp only[okCells_cons,okCells_nil,ok_int,ok_str,b.ok,c.ok,Bool.and_self]
theorem IntO.r {F:List Nat} {h:Heap} {x:AV} {X:Int} (hx:IntO F h x X):IntR h x X:=hx.2
theorem GlobO.r {F:List Nat} {h:Heap} {x:AV} {X:MGlob} (hx:GlobO F h x X):GlobR h x X:=hx.2
theorem IntsO.r {F:List Nat} {h:Heap} {x:AV} {X:List Int} (hx:IntsO F h x X):IntsR h x X:=OwnL.ls IntO.r hx
theorem GlobsO.r {F:List Nat} {h:Heap} {x:AV} {X:List MGlob} (hx:GlobsO F h x X):GlobsR h x X:=OwnL.ls GlobO.r hx
theorem InstrO.r {F:List Nat} {h:Heap} {x:AV} {X:MInstr} (hx:InstrO F h x X):InstrR h x X:=by
 obtain⟨av,a,b⟩:=hx; exact⟨av,a,IntsO.r b⟩
theorem InstrsO.r {F:List Nat} {h:Heap} {x:AV} {X:List MInstr} (hx:InstrsO F h x X):InstrsR h x X:=OwnL.ls InstrO.r hx
theorem BlockO.r {F:List Nat} {h:Heap} {x:AV} {X:MBlock} (hx:BlockO F h x X):BlockR h x X:=by
 obtain⟨av,a,b⟩:=hx; exact⟨av,a,InstrsO.r b⟩
theorem BlocksO.r {F:List Nat} {h:Heap} {x:AV} {X:List MBlock} (hx:BlocksO F h x X):BlocksR h x X:=OwnL.ls BlockO.r hx
theorem CodeO.r {F:List Nat} {h:Heap} {x:AV} {X:MCode} (hx:CodeO F h x X):CodeR h x X:=by
 obtain⟨rv,bv,F1,F2,a,b,c,_,_⟩:=hx; exact⟨rv,bv,a,IntsO.r b,BlocksO.r c⟩
theorem CodesO.r {F:List Nat} {h:Heap} {x:AV} {X:List MCode} (hx:CodesO F h x X):CodesR h x X:=OwnL.ls CodeO.r hx
end Go.AM
namespace Go.AM
theorem XT:type_of% (And.intro @boxR_ok (And.intro @newA_eq (And.intro @okCells_cons (And.intro @okCells_nil (And.intro @ok_int (And.intro @ok_str (And.intro (@List.length_cons AV) (And.intro (@List.length_nil AV) (And.intro @pOff_ptr (And.intro @pOff_fptr (And.intro @fdR_agg (And.intro @load_new (And.intro @load_new2 (And.intro @Bool.and_self (And.intro @Bool.true_and (And.intro @Bool.and_true (And.intro @liftH_some (And.intro @Nat.zero_add (And.intro (@List.drop_zero AV) (And.intro (@List.drop_succ_cons AV) (And.intro (@List.take_succ_cons AV) ((@List.take_zero AV))))))))))))))))))))))):=And.intro @boxR_ok (And.intro @newA_eq (And.intro @okCells_cons (And.intro @okCells_nil (And.intro @ok_int (And.intro @ok_str (And.intro (@List.length_cons AV) (And.intro (@List.length_nil AV) (And.intro @pOff_ptr (And.intro @pOff_fptr (And.intro @fdR_agg (And.intro @load_new (And.intro @load_new2 (And.intro @Bool.and_self (And.intro @Bool.true_and (And.intro @Bool.and_true (And.intro @liftH_some (And.intro @Nat.zero_add (And.intro (@List.drop_zero AV) (And.intro (@List.drop_succ_cons AV) (And.intro (@List.take_succ_cons AV) ((@List.take_zero AV))))))))))))))))))))))
end Go.AM
namespace Go.AM
theorem loop_ind {E:Env} {nt:Nat} {body:XC} (n:Nat) (Inv:Nat→List (Nat × AV)→Heap→Prop) (P:CRes→Prop)
   (step:∀k l h,k < n→Inv k l h→(∃l' h',Inv (k+1) l' h'∧evω E (.loop body) (fset nt l) h=evω E (.loop body) (fset nt l') h')∨P (evω E (.loop body) (fset nt l) h))
   (stop:∀l h,Inv n l h→P (evω E (.loop body) (fset nt l) h)) :
   ∀(m k:Nat) (l:List (Nat × AV)) (h:Heap),k+m=n→Inv k l h→P (evω E (.loop body) (fset nt l) h)
 | 0,k,l,h,hk,hi=>by
   have:k=n:=by omega
   subst this
   exact stop l h hi
 | m+1,k,l,h,hk,hi=>by
   rcases step k l h (by omega) hi with ⟨l',h',hi',e⟩ | hp
   · rw[e]
     exact loop_ind n Inv P step stop m (k+1) l' h' (by omega) hi'
   · exact hp
section
variable {E:Env} {fr:Tr} {h:Heap} {call:CallF} {D:List Nat}
theorem d_quietSet {d:Option Tmp} {op:Op} {s:List Bool} {c:Bool} {l:List XOp} {v:AV} {p:Nat} {x:AObj} (hp:p < h.next) (hc:evOp E call op fr { h with tch:=[] }=.ok v (({ h with tch:=[] }:Heap).set p x)):evOpsD E call (⟨d,op,none,true,s,c⟩::l) fr h D=evOpsD E call l (setDst d v fr) (h.set p x) (p::D):=by
 rw[d_quiet,hc]
 have:belowN h.next [p]=[p]:=by
   show (bif Nat.blt p h.next then [p] else [])=[p]
   rw[show Nat.blt p h.next=true from Nat.ble_eq_true_of_le hp]; rfl
 show evThenD d (evOpsD E call l) (virtD E call l s (setDst d skipped fr) h D) fr (.ok v { ({ h with tch:=[] }:Heap).set p x with tch:=appN (belowN h.next [p]) h.tch } (appN (belowN h.next [p]) D))=_
 rw[this]; rfl
theorem d_careD {d:Option Tmp} {op:Op} {s:List Bool} {l:List XOp} (hr:readOk (readO E op fr) D=true):evOpsD E call (⟨d,op,none,false,s,true⟩::l) fr h D=evThenD d (evOpsD E call l) (virtD E call l s (setDst d skipped fr) h D) fr (plainD' D (evOp E call op fr h)):=by
 show evThenD d (evOpsD E call l) (virtD E call l s (setDst d skipped fr) h D) fr (bif readOk (readO E op fr) D then plainD' D (evOp E call op fr h) else .bad)=_
 rw[hr]; rfl
end
def MapsOk {α:Type} (E:Env) (S:Heap→AV→α→Prop) (R:OR α) (g:α→α) (f:Nat):Prop :=
 ∀{h:Heap} {x:AV} {X:α},S h x X→∃x' h' F,callω E f [x] h=.ok x' h'∧R F h' x' (g X)∧Grow h h'∧New h h' F
section
variable {E:Env} {h:Heap} {ts te nt:Nat} {tis tie:TI} {α:Type} {R:OR α} {sz bz:Nat} {F:List Nat} {v x:AV} {l:List α} {k:Nat} {X:α} {id:Nat} {es:List AV} {S:List Nat}
theorem Elt.idx (e:Elt R sz bz F h v l k X id es S x) {t:Nat} {ti:TI} (ht:E.ti t=some ti) (hz:ti.size=sz):indexAddrA E (.slice t) k v=some (.ptr id k 0):=by
 show onTI E t none (fun te=>idxS te k v)=_
 unfold onTI; rw[ht,e.hv]
 show guardO (Nat.blt k l.length && Nat.beq sz ti.size) (forceN (Nat.add 0 k) fun o=>some (AV.ptr id o 0))=_
 have h1:Nat.blt k l.length=true:=Nat.ble_eq_true_of_le e.lt
 rw[h1,hz,Nat.beq_refl,forceN_eq,show Nat.add 0 k=k from Nat.zero_add k]; rfl
theorem Elt.load (e:Elt R sz bz F h v l k X id es S x) (t:TI) (o:Nat):loadA t (.ptr id k o) h=partOf t x.cells o:=load_ptr e.get e.at_ t
def Whole {α:Type} (R:OR α):Prop:=∀{F h x X F' h' x' X'},R F h x X→R F' h' x' X'→x.withCells 0 x'.cells=x'
theorem Elt.put (e:Elt R sz bz F h v l k X id es S x) (hR:Good R sz) (hW:Whole R) (hs:tie.size=sz) (h0:0 < sz) {x':AV} {X':α} {S':List Nat} (hx:R S' h x' X') (hid:id ∉ S') (hS':∀i∈S',i∈S∨i ∉ F) :
   storeA tie (.ptr id k 0) x' h=some (h.set id (.row (es.set k x') sz))∧∃F',OwnL R sz bz F' (h.set id (.row (es.set k x') sz)) v (l.set k X')∧(∀i∈F',i∈F∨i∈S')∧(S'=S→F'=F):=by
 constructor
 · rw[store_elt e.get e.at_ (by rw[hs]; exact hR.cl hx) (by omega) (by omega) (hR.ok hx),hW e.r hx]
 · refine e.upd (Nat.le_refl _) (fun i hi h1 h2=>Heap.get_set_ne _ _ fun e=>h1 e.symm) (Heap.get_set_eq _ _ e.get) (hR.fr (show On S' h _ from ⟨Nat.le_refl _,fun i hi=>Heap.get_set_ne _ _ fun e=>hid (e ▸ hi)⟩) hx) (hR.cl hx) (hR.nd hx) hS'
end
end Go.AM
namespace Go.AM
noncomputable def idxBody (ts te:Nat) (cmp:XOp):XC :=
 .seq (.reg false [⟨some 9,.binOp .lss 3 (.tmp 8) (.tmp 7) 3,none,false,[],false⟩])
 (.seq (.cond (.tmp 9) .skip (.exit 0))
 (.seq (.block 1 (.seq (.reg false [⟨some 10,.move (.tmp 8),none,false,[],false⟩,⟨some 5,.assign (.tmp 10),none,false,[],false⟩])
 (.seq (.reg false [⟨some 11,.move (.tmp 1),none,false,[],false⟩,⟨some 12,.move (.tmp 0),none,false,[],false⟩,⟨some 13,.move (.tmp 5),none,false,[],false⟩,⟨some 14,.indexAddr ts (.tmp 12) (.tmp 13),none,false,[],false⟩,⟨some 15,.load te (.tmp 14),none,false,[],false⟩,cmp])
 (.cond (.tmp 16) (.seq (.reg false [⟨some 17,.move (.tmp 5),none,false,[],false⟩,⟨some 4,.assign (.tmp 17),none,false,[],false⟩]) .ret) .skip))))
 (.reg false [⟨some 18,.binOp .add 3 (.tmp 8) (.const (.int .i64 1)) 3,none,false,[],false⟩,⟨some 8,.move (.tmp 18),none,false,[],false⟩])))
noncomputable def idxC (ts te:Nat) (cmp:XOp):XC :=
 .seq (.reg false [⟨some 4,.assign (.const (.int .i64 0)),none,false,[],false⟩])
 (.seq (.seq (.reg false [⟨some 6,.move (.tmp 0),none,false,[],false⟩,⟨some 7,.call ⟨.builtin .len,#[.tmp 6],#[ts]⟩,none,false,[],false⟩,⟨some 8,.move (.const (.int .i64 0)),none,false,[],false⟩]) (.block 0 (.loop (idxBody ts te cmp))))
 (.seq (.reg false [⟨some 4,.assign (.const (.int .i64 (-1))),none,false,[],false⟩]) .ret))
def IdxRes {α:Type} (p:α→Bool) (L:List α) (r:Int):Prop :=
 (r=-1∧∀(j:Nat) X,L[j]?=some X→p X=false)∨∃(k:Nat) (X:α),r=k∧L[k]?=some X∧p X=true∧∀(j:Nat) Y,j < k→L[j]?=some Y→p Y=false
section
variable {E:Env} {h:Heap} {ts te:Nat} {tis tie:TI} {α:Type} {S:Heap→AV→α→Prop} {bz:Nat} {cmp:XOp} {pv:AV} {p:α→Bool}
def PredOk (E:Env) (S:Heap→AV→α→Prop) (cmp:XOp) (pv:AV) (p:α→Bool) (h0:Heap):Prop :=
 ∀(h:Heap) (l:List (Nat × AV)) (x:AV) (X:α),Grow h0 h→S h x X→look l 15=x→look l 11=pv→∃h',Grow h h'∧evOps E (callω E) [cmp] (fset 19 l) h=.ok .normal (fset 19 ((16,.bool (p X))::l)) h'
set_option maxHeartbeats 2000000 in
theorem idx_ok {f:Nat} (hp:Plain E f (idxC ts te cmp) 19 [.tmp 4]) (hts:E.ti ts=some tis) (hd:tis.desc=.slice te) (hte:E.ti te=some tie) (hst:Stays S) (hS:∀{h x X},S h x X→partOf tie x.cells 0=some x) {h:Heap} (hc:PredOk E S cmp pv p h) {a:AV} {L:List α} (hL:Ls S tie.size bz h a L) :
   ∃r h',callω E f [a,pv] h=.ok (.int .i64 r) h'∧Grow h h'∧IdxRes p L r:=by
 have hle:=hL.le
 have hlen:=hL.len
 rw[hp.call h (by simp)]
 have key:∃l,look l 0=a∧look l 1=pv∧look l 7=.int .i64 (L.length:Int)∧look l 8=.int .i64 ((0:Nat):Int)∧afterBody E [.tmp 4] (evω E (idxC ts te cmp) (Tr.enter 19 [a,pv]) h)=afterBody E [.tmp 4] (seqA (evω E (.seq (.reg false [⟨some 4,.assign (.const (.int .i64 (-1))),none,false,[],false⟩]) .ret)) (blockA 0 (evω E (.loop (idxBody ts te cmp)) (fset 19 l) h))):=by
   refine⟨?_,?_,?_,?_,?_,?_⟩
   rotate_left 5
   · conv=>lhs; unfold idxC
     simp -implicitDefEqProofs (maxSteps:=1000000) only[p_len hts hd,hlen,XS,Nat.reduceAdd,Nat.reduceLT,Nat.reduceEqDiff,↓reduceIte]
     rfl
   all_goals simp[look]
 obtain⟨l,l0,l1,l7,l8,hgo⟩:=key
 rw[hgo]
 refine loop_ind (E:=E) (nt:=19) (body:=idxBody ts te cmp) L.length
   (fun k lk hk=>look lk 0=a∧look lk 1=pv∧look lk 7=.int .i64 (L.length:Int)∧look lk 8=.int .i64 (k:Int)∧Grow h hk∧∀(j:Nat) Y,j < k→L[j]?=some Y→p Y=false)
   (fun r'=>∃r h',afterBody E [.tmp 4] (seqA (evω E (.seq (.reg false [⟨some 4,.assign (.const (.int .i64 (-1))),none,false,[],false⟩]) .ret)) (blockA 0 r'))=.ok (.int .i64 r) h'∧Grow h h'∧IdxRes p L r)
   ?_ ?_ L.length 0 l h (by omega) ⟨l0,l1,l7,l8,.refl h,fun j Y hj=>by omega⟩
 · rintro k lk hk hkn ⟨l0,l1,l7,l8,g,no⟩
   obtain⟨X,hX⟩:∃X,L[k]?=some X:=⟨_,List.getElem?_eq_getElem hkn⟩
   obtain⟨xs,ha,hxs⟩:=(Ls.stays hst g.kp hL).ex
   obtain⟨x,hx,hxS⟩:=hxs.get hX
   have i1:=ha.idx hx hte rfl
   have e1:=(ha.at hx).load tie
   rw[hS hxS] at e1
   have hlt:((k:Int) < (L.length:Int)):=by omega
   have w1:IntKind.wrap .i64 ((k:Int)+1)=((k+1:Nat):Int):=wrap_small (n:=k+1) (by omega)
   have key:∃l4,look l4 0=a∧look l4 1=pv∧look l4 5=.int .i64 (k:Int)∧look l4 7=.int .i64 (L.length:Int)∧look l4 8=.int .i64 (k:Int)∧look l4 11=pv∧look l4 15=x∧evω E (.loop (idxBody ts te cmp)) (fset 19 lk) hk=seqA (evω E (.loop (idxBody ts te cmp))) (seqA (evω E (.reg false [⟨some 18,.binOp .add 3 (.tmp 8) (.const (.int .i64 1)) 3,none,false,[],false⟩,⟨some 8,.move (.tmp 18),none,false,[],false⟩])) (blockA 1 (seqA (evω E (.cond (.tmp 16) (.seq (.reg false [⟨some 17,.move (.tmp 5),none,false,[],false⟩,⟨some 4,.assign (.tmp 17),none,false,[],false⟩]) .ret) .skip)) (evOps E (callω E) [cmp] (fset 19 l4) hk)))):=by
     refine⟨?_,?_,?_,?_,?_,?_,?_,?_,?_⟩
     rotate_left 8
     · conv=>lhs; rw[w_loop]; unfold idxBody
       simp -implicitDefEqProofs (maxSteps:=1000000) only[p_idx hts hd,p_load hte,l0,l1,l7,l8,i1,e1,eq_true hlt,w_seq,w_reg,w_block,w_skip,o_plain,p_move,p_assign,p_binOp,evThen_ok,setDst_fset,lift_some',bo_int,b_lss,o_nil,v_tmp,idxR_nat,look_cons,Nat.reduceLT,Nat.reduceEqDiff,↓reduceIte,decide_true,w_cond,condA_true,seqA_normal]
       rfl
     all_goals simp[look,l0,l1,l7,l8]
   obtain⟨l4,k0,k1,k5,k7,k8,k11,k15,hgo4⟩:=key
   obtain⟨h',g',hcmp⟩:=hc hk l4 x X g hxS k15 k11
   rw[hgo4,hcmp]
   cases hpX:p X with
   | true =>
     right
     refine⟨k,h',?_,g.trans g',.inr ⟨k,X,rfl,hX,hpX,no⟩⟩
     simp -implicitDefEqProofs (maxSteps:=1000000) only[k5,XS,Nat.reduceAdd,Nat.reduceLT,Nat.reduceEqDiff,↓reduceIte]
   | false =>
     left
     have key:∃l',look l' 0=a∧look l' 1=pv∧look l' 7=.int .i64 (L.length:Int)∧look l' 8=.int .i64 ((k+1:Nat):Int)∧seqA (evω E (.loop (idxBody ts te cmp))) (seqA (evω E (.reg false [⟨some 18,.binOp .add 3 (.tmp 8) (.const (.int .i64 1)) 3,none,false,[],false⟩,⟨some 8,.move (.tmp 18),none,false,[],false⟩])) (blockA 1 (seqA (evω E (.cond (.tmp 16) (.seq (.reg false [⟨some 17,.move (.tmp 5),none,false,[],false⟩,⟨some 4,.assign (.tmp 17),none,false,[],false⟩]) .ret) .skip)) (.ok .normal (fset 19 ((16,.bool false)::l4)) h'))))=evω E (.loop (idxBody ts te cmp)) (fset 19 l') h':=by
       refine⟨?_,?_,?_,?_,?_,?_⟩
       rotate_left 5
       · simp -implicitDefEqProofs (maxSteps:=1000000) only[k5,k8,w1,XS,Nat.reduceAdd,Nat.reduceLT,Nat.reduceEqDiff,↓reduceIte]
         rfl
       all_goals simp[look,k0,k1,k7]
     obtain⟨l',m0,m1,m7,m8,hgo5⟩:=key
     refine⟨l',h',⟨m0,m1,m7,m8,g.trans g',fun j Y hj hY=>?_⟩,hgo5⟩
     by_cases hjk:j=k
     · subst hjk; rw[hX] at hY; cases hY; exact hpX
     · exact no j Y (by omega) hY
 · rintro lk hk ⟨l0,l1,l7,l8,g,no⟩
   have hlt:¬ ((L.length:Int) < (L.length:Int)):=by omega
   refine⟨-1,hk,?_,g,.inl ⟨rfl,fun j Y hY=>no j Y (List.getElem?_eq_some_iff.1 hY).1 hY⟩⟩
   rw[w_loop]; unfold idxBody
   simp -implicitDefEqProofs (maxSteps:=1000000) only[l7,l8,eq_false hlt,XS,Nat.reduceAdd,Nat.reduceLT,Nat.reduceEqDiff,↓reduceIte]
end
end Go.AM
namespace Go.AM
open Go.ChangeShapes Go.WideShapes Go.ChangeAt
section
variable {H:Type} {enc:TypeId × Value→H} {P:Program} {W:World} {base:Nat} {spare:Nat→Bool} {held:Bool}
def Offs (P:Program):Nat→List Field→Prop
 | _,[]=>True
 | o,f::fs=>f.offset=o∧Offs P (o+P.cellsOf f.type) fs
theorem seeF_of {see:TypeId→DataW H→Option (List AV)}:∀(fs:List Field) (ds:List (DataW H)) (ss:List (List AV)) (o:Nat),ds.length=fs.length→ss.length=fs.length →
   (∀(i:Nat) f d s,fs[i]?=some f→ds[i]?=some d→ss[i]?=some s→see f.type d=some s∧s.length=P.cellsOf f.type)→Offs P o fs→seeF P see o fs ds=some ss.flatten
 | [],ds,ss,o,h1,h2,h3,h4=>by
   have:ds=[]:=List.eq_nil_of_length_eq_zero h1
   have:ss=[]:=List.eq_nil_of_length_eq_zero h2
   subst_vars; rfl
 | f::fs,ds,ss,o,h1,h2,h3,h4=>by
   cases ds with
   | nil=>cases h1
   | cons d ds =>
     cases ss with
     | nil=>cases h2
     | cons s ss =>
       obtain⟨k1,k2⟩:=h3 0 f d s rfl rfl rfl
       have ih:=seeF_of fs ds ss (o+P.cellsOf f.type) (by simpa using h1) (by simpa using h2) (fun i f d s a b c=>h3 (i+1) f d s (by simpa using a) (by simpa using b) (by simpa using c)) h4.2
       show (bif Nat.beq f.offset o then obind (see f.type d) fun a=>bif Nat.beq (lenL a) (P.cellsOf f.type) then obind (seeF P see (Nat.add o (P.cellsOf f.type)) fs ds) fun r=>some (appL a r) else none else none)=_
       rw[h4.1,Nat.beq_refl,k1]
       show (bif Nat.beq (lenL s) (P.cellsOf f.type) then obind (seeF P see (o+P.cellsOf f.type) fs ds) fun r=>some (appL s r) else none)=_
       rw[lenL_eq,k2,Nat.beq_refl,ih]
       show some (appL s ss.flatten)=_
       rw[appL_eq]; rfl
theorem weightsEach_mem:∀(ts:List TypeId) (ds:List (DataW H)) (i:Nat) t d w,ts[i]?=some t→ds[i]?=some d→w∈d.weights P t→w∈DataW.weightsEach P ts ds
 | [],ds,i,t,d,w,h1,_,_=>by simp at h1
 | t0::ts,[],i,t,d,w,_,h2,_=>by simp at h2
 | t0::ts,d0::ds,0,t,d,w,h1,h2,h3=>by
   cases h1; cases h2
   unfold DataW.weightsEach
   exact List.mem_append_left _ h3
 | t0::ts,d0::ds,i+1,t,d,w,h1,h2,h3=>by
   unfold DataW.weightsEach
   exact List.mem_append_right _ (weightsEach_mem ts ds i t d w (by simpa using h1) (by simpa using h2) h3)
theorem weightsAll_mem:∀(ds:List (DataW H)) (e:TypeId) (i:Nat) d w,ds[i]?=some d→w∈d.weights P e→w∈DataW.weightsAll P e ds
 | [],e,i,d,w,h,_=>by simp at h
 | d0::ds,e,0,d,w,h,hw=>by
   cases h
   unfold DataW.weightsAll
   exact List.mem_append_left _ hw
 | d0::ds,e,i+1,d,w,h,hw=>by
   unfold DataW.weightsAll
   exact List.mem_append_right _ (weightsAll_mem ds e i d w (by simpa using h) hw)
def Wt (P:Program) (t:TypeId) (d:DataW H):Prop:=∀w∈d.weights P t,w≤reachBytes
theorem struct_read {t:TypeId} {fs:Array Field} (ht:P.underlying t=some (.struct fs)) {n:Nat} {cs:List Value} {d:DataW H} {ps:List MemPlace} (h:DataW.trod enc P W base spare held n t cs=some (d,ps)) (hw:Wt P t d) :
   ∃ds,d=.agg ds∧ds.length=fs.toList.length∧∀(i:Nat) f,fs.toList[i]?=some f→∃di n' csi psi,ds[i]?=some di∧DataW.trod enc P W base spare held n' f.type csi=some (di,psi)∧Wt P f.type di:=by
 obtain⟨xs,n',rfl,e,hcl,hxl,hx⟩:=DataW.trod_struct ht h
 cases e
 refine⟨xs.map (·.1),rfl,by simpa using hxl,fun i f hf=>?_⟩
 have hf':fs[i]?=some f:=by simpa using hf
 have hi:i < xs.length:=by rw[hxl]; exact (Array.getElem?_eq_some_iff.1 hf').1
 have hxi:xs[i]?=some xs[i]:=List.getElem?_eq_getElem hi
 have h1:=hx i f hf'
 rw[hxi] at h1
 refine⟨xs[i].1,n',_,xs[i].2,by rw[List.getElem?_map,hxi]; rfl,h1,fun w hwm=>hw w ?_⟩
 unfold DataW.weights
 rw[ht]
 exact weightsEach_mem _ _ i _ _ w (by rw[List.getElem?_map,hf]; rfl) (by rw[List.getElem?_map,hxi]; rfl) hwm
def SlQ {α:Type} (P:Program) (e:TypeId) (Q:List AV→α→Prop) (v:AV) (l:List α):Prop :=
 ((v=.nilsl∧l=[])∨∃rs:List (List AV),v=.fsl (rs.map (seeV P e)) false∧rs.length=l.length∧∀(i:Nat) r X,rs[i]?=some r→l[i]?=some X→Q r X)∧l.length * P.bytesOf e≤reachBytes
theorem seeL_of {α:Type} {see:DataW H→Option (List AV)} {Q:List AV→α→Prop}:∀(ds:List (DataW H)),(∀(i:Nat) d,ds[i]?=some d→∃acs X,see d=some acs∧Q acs X)→∃(rs:List (List AV)) (l:List α),seeL see ds=some rs∧rs.length=ds.length∧l.length=ds.length∧∀(i:Nat) r X,rs[i]?=some r→l[i]?=some X→Q r X
 | [],_=>⟨[],[],rfl,rfl,rfl,fun i r X h=>by simp at h⟩
 | d::ds,h=>by
   obtain⟨acs,X,h1,h2⟩:=h 0 d rfl
   obtain⟨rs,l,h3,h4,h5,h6⟩:=seeL_of ds fun i d hd=>h (i+1) d (by simpa using hd)
   refine⟨acs::rs,X::l,?_,by simp[h4],by simp[h5],fun i r Y hr hY=>?_⟩
   · show obind (see d) (fun a=>obind (seeL see ds) fun r=>some (a::r))=_
     rw[h1,h3]; rfl
   · cases i with
     | zero=>cases hr; cases hY; exact h2
     | succ i=>exact h6 i r Y (by simpa using hr) (by simpa using hY)
theorem slice_read {α:Type} {Q:List AV→α→Prop} {t e:TypeId} {m:Nat} (ht:P.underlying t=some (.slice e)) (h0:0 < P.cellsOf e)
   (hel:∀n cs (d:DataW H) ps,DataW.trod enc P W base spare held n e cs=some (d,ps)→Wt P e d→∃acs X,seeA P m e d=some acs∧(acs.length=P.cellsOf e∧(aggT P e=true∨acs.length=1))∧Q acs X)
   {n:Nat} {cs:List Value} {d:DataW H} {ps:List MemPlace} (h:DataW.trod enc P W base spare held n t cs=some (d,ps)) (hw:Wt P t d):∃v l,seeA P (m+1) t d=some [v]∧SlQ P e Q v l:=by
 rcases DataW.trod_slice ht h with ⟨rfl,e1⟩ | ⟨a,len,cap,elems,rest,n',rfl,rfl,e1,_,hlc,_,hlen,hels,_,_⟩
 · cases e1
   refine⟨.nilsl,[],?_,.inl ⟨rfl,rfl⟩,by simp⟩
   unfold seeA
   rw[ht]
 · cases e1
   have hall:∀(i:Nat) di,(elems.map (·.1))[i]?=some di→∃acs X,seeA P m e di=some acs∧((acs.length=P.cellsOf e∧(aggT P e=true∨acs.length=1))∧Q acs X):=fun i di hi=>by
     rw[List.getElem?_map,Option.map_eq_some_iff] at hi
     obtain⟨x,hx,rfl⟩:=hi
     have hik:i < len:=by rw[← hlen]; exact (List.getElem?_eq_some_iff.1 hx).1
     have h3:=hels i hik
     rw[hx] at h3
     cases hcs:W.cells? base (a.add (i * P.cellsOf e)) (P.cellsOf e) with
     | none=>rw[hcs] at h3; cases h3
     | some csi =>
       rw[hcs] at h3
       refine hel n' csi x.1 x.2 h3 fun w hwm=>hw w ?_
       unfold DataW.weights
       rw[ht]
       exact List.mem_cons_of_mem _ (List.mem_append_left _ (weightsAll_mem _ e i x.1 w (by rw[List.getElem?_map,hx]; rfl) hwm))
   obtain⟨rs,l,h1,h2,h3,h4⟩:=seeL_of (Q:=fun acs X=>(acs.length=P.cellsOf e∧(aggT P e=true∨acs.length=1))∧Q acs X) _ hall
   refine⟨.fsl (rs.map (seeV P e)) false,l,?_,.inr ⟨rs,rfl,by rw[h2,h3],fun i r X hr hX=>(h4 i r X hr hX).2⟩,?_⟩
   · unfold seeA
     rw[ht]
     dsimp only
     rw[show Nat.blt 0 (P.cellsOf e)=true from Nat.ble_eq_true_of_le h0,h1]
     show (bif (rs.all fun r=>Nat.beq (lenL r) (P.cellsOf e) && (aggT P e || Nat.beq (lenL r) 1)) then some [AV.fsl (rs.map (seeV P e)) false] else none)=_
     have:(rs.all fun r=>Nat.beq (lenL r) (P.cellsOf e) && (aggT P e || Nat.beq (lenL r) 1))=true:=by
       rw[List.all_eq_true]
       intro r hr
       obtain⟨i,hi⟩:=List.getElem?_of_mem hr
       have hil:i < l.length:=by rw[h3,← h2]; exact (List.getElem?_eq_some_iff.1 hi).1
       obtain⟨⟨q1,q2⟩,_⟩:=h4 i r _ hi (List.getElem?_eq_getElem hil)
       rw[lenL_eq,q1,Nat.beq_refl]
       rcases q2 with q2 | q2
       · rw[q2]; rfl
       · rw[← q1,q2]; simp
     rw[this]; rfl
   · rw[h3,List.length_map]
     have:=hw ((elems.length+rest.length) * P.bytesOf e) (by
       unfold DataW.weights
       rw[ht]
       simp)
     exact Nat.le_trans (Nat.mul_le_mul_right _ (Nat.le_add_right _ _)) this
theorem SlQ.ls {α:Type} {e:TypeId} {Q:List AV→α→Prop} {R:Heap→AV→α→Prop} {sz bz:Nat} {v:AV} {l:List α} (hq:SlQ P e Q v l) (hb:P.bytesOf e=bz) (hb1:1≤bz) (hR:∀r X,Q r X→(∀h,R h (seeV P e r) X)∧(seeV P e r).cells.length=sz) (h:Heap):Ls R sz bz h v l:=by
 obtain⟨hq,hs⟩:=hq
 rw[hb] at hs
 have hs:l.length * bz≤140737488355328:=Nat.le_trans hs (by decide)
 have hle:l.length≤140737488355328:=Nat.le_trans (by have:=Nat.mul_le_mul_left l.length hb1; omega) hs
 refine⟨?_,hs,hle⟩
 rcases hq with ⟨rfl,rfl⟩ | ⟨rs,rfl,hl,hx⟩
 · exact⟨[],Sl.nil,All2.nil⟩
 · have key:∀(i:Nat) y,(rs.map (seeV P e))[i]?=some y→∃r X,rs[i]?=some r∧l[i]?=some X∧y=seeV P e r∧Q r X:=fun i y hy=>by
     rw[List.getElem?_map,Option.map_eq_some_iff] at hy
     obtain⟨r,hr,rfl⟩:=hy
     have hil:i < l.length:=by rw[← hl]; exact (List.getElem?_eq_some_iff.1 hr).1
     exact⟨r,_,hr,List.getElem?_eq_getElem hil,rfl,hx i r _ hr (List.getElem?_eq_getElem hil)⟩
   refine⟨rs.map (seeV P e),⟨rfl,(fun _ _ _ _ hh=>by cases hh),fun i y hy=>?_,rfl⟩,by simp[hl],fun i y Y hy hY=>?_⟩
   · obtain⟨r,X,_,_,rfl,hq⟩:=key i y hy
     exact (hR r X hq).2
   · obtain⟨r,X,_,hX,rfl,hq⟩:=key i y hy
     rw[hY] at hX; cases hX
     exact (hR r Y hq).1 h
theorem SlQ.mem {α:Type} {e:TypeId} {Q:List AV→α→Prop} {v:AV} {l:List α} (hq:SlQ P e Q v l) {X:α} (hX:X∈l):∃r,Q r X:=by
 rcases hq.1 with ⟨rfl,rfl⟩ | ⟨rs,rfl,hl,hx⟩
 · cases hX
 · obtain⟨i,hi⟩:=List.getElem?_of_mem hX
   have hil:i < rs.length:=by rw[hl]; exact (List.getElem?_eq_some_iff.1 hi).1
   exact⟨_,hx i _ X (List.getElem?_eq_getElem hil) hi⟩
def OffsL (P:Program):Nat→List (Nat × Nat)→Prop
 | _,[]=>True
 | o,f::fs=>f.2=o∧OffsL P (o+P.cellsOf f.1) fs
theorem offs_map:∀(fs:List Field) (o:Nat),OffsL P o (fs.map fun f=>(f.type,f.offset))→Offs P o fs
 | [],_,_=>trivial
 | f::fs,o,h=>⟨h.1,offs_map fs _ h.2⟩
theorem flat_len:∀(ss:List (List AV)) (L:List (Nat × Nat)),ss.length=L.length→(∀(i:Nat) s f,ss[i]?=some s→L[i]?=some f→s.length=P.cellsOf f.1)→ss.flatten.length=(L.map fun f=>P.cellsOf f.1).sum
 | [],[],_,_=>rfl
 | [],_::_,h,_=>by cases h
 | _::_,[],h,_=>by cases h
 | s::ss,f::L,h,hc=>by
   rw[List.flatten_cons,List.length_append,List.map_cons,List.sum_cons,hc 0 s f rfl rfl,flat_len ss L (by simpa using h) fun i s f a b=>hc (i+1) s f (by simpa using a) (by simpa using b)]
theorem pick_list {Qs:Nat→List AV→Prop}:∀(n:Nat),(∀i,i < n→∃s,Qs i s)→∃ss:List (List AV),ss.length=n∧∀(i:Nat) s,ss[i]?=some s→Qs i s
 | 0,_=>⟨[],rfl,fun i s h=>by simp at h⟩
 | n+1,h=>by
   obtain⟨ss,h1,h2⟩:=pick_list n fun i hi=>h i (by omega)
   obtain⟨s,hs⟩:=h n (by omega)
   refine⟨ss++[s],by simp[h1],fun i t ht=>?_⟩
   rw[List.getElem?_append] at ht
   split at ht
   · exact h2 i t ht
   · rename_i hi
     cases hk:i - ss.length with
     | zero =>
       rw[hk] at ht; cases ht
       have:i=n:=by omega
       subst this; exact hs
     | succ k=>rw[hk] at ht; simp at ht
theorem struct_see {t:TypeId} {fs:Array Field} {L:List (Nat × Nat)} {m:Nat} {Qs:Nat→List AV→Prop} (ht:P.underlying t=some (.struct fs)) (hm:fs.toList.map (fun f=>(f.type,f.offset))=L) (hoff:OffsL P 0 L) (hc:P.cellsOf t=(L.map fun f=>P.cellsOf f.1).sum)
   (hF:∀(i ty off:Nat),L[i]?=some (ty,off)→∀n cs (d:DataW H) ps,DataW.trod enc P W base spare held n ty cs=some (d,ps)→Wt P ty d→∃s,seeA P m ty d=some s∧s.length=P.cellsOf ty∧Qs i s)
   {n:Nat} {cs:List Value} {d:DataW H} {ps:List MemPlace} (h:DataW.trod enc P W base spare held n t cs=some (d,ps)) (hw:Wt P t d) :
   ∃ss:List (List AV),seeA P (m+1) t d=some ss.flatten∧ss.flatten.length=P.cellsOf t∧ss.length=L.length∧∀(i:Nat) s,ss[i]?=some s→Qs i s:=by
 obtain⟨ds,rfl,hl,hx⟩:=struct_read ht h hw
 have hLl:L.length=fs.toList.length:=by rw[← hm,List.length_map]
 obtain⟨ss,h1,h2⟩:=pick_list (Qs:=fun i s=>(∀di ty off,ds[i]?=some di→L[i]?=some (ty,off)→seeA P m ty di=some s∧s.length=P.cellsOf ty)∧Qs i s) L.length (fun i hi=>by
   obtain⟨f,hf⟩:∃f,fs.toList[i]?=some f:=⟨_,List.getElem?_eq_getElem (by omega)⟩
   have hLi:L[i]?=some (f.type,f.offset):=by rw[← hm,List.getElem?_map,hf]; rfl
   obtain⟨di,n',csi,psi,k1,k2,k3⟩:=hx i f hf
   obtain⟨s,k4,k5,k6⟩:=hF i _ _ hLi n' csi di psi k2 k3
   refine⟨s,fun di' ty off a b=>?_,k6⟩
   rw[k1] at a; cases a
   rw[hLi] at b; cases b
   exact⟨k4,k5⟩)
 have hall:∀(i:Nat) f d s,fs.toList[i]?=some f→ds[i]?=some d→ss[i]?=some s→seeA P m f.type d=some s∧s.length=P.cellsOf f.type:=fun i f d s hf hd hs =>
   (h2 i s hs).1 d f.type f.offset hd (by rw[← hm,List.getElem?_map,hf]; rfl)
 have hflat:ss.flatten.length=P.cellsOf t:=by
   rw[hc]
   refine flat_len ss L h1 fun i s f hs hf=>?_
   obtain⟨d,hd⟩:∃d,ds[i]?=some d:=⟨_,List.getElem?_eq_getElem (by have:=(List.getElem?_eq_some_iff.1 hf).1; omega)⟩
   exact ((h2 i s hs).1 d f.1 f.2 hd hf).2
 refine⟨ss,?_,hflat,h1,fun i s hs=>(h2 i s hs).2⟩
 unfold seeA
 rw[ht]
 show obind (seeF P (seeA P m) 0 fs.toList ds) (fun r=>bif Nat.beq (lenL r) (P.cellsOf t) then some r else none)=_
 rw[seeF_of fs.toList ds ss 0 hl (by omega) hall (offs_map _ 0 (by rw[hm]; exact hoff))]
 show (bif Nat.beq (lenL ss.flatten) (P.cellsOf t) then some ss.flatten else none)=_
 rw[lenL_eq,hflat,Nat.beq_refl]; rfl
end
end Go.AM
