/- The tree machine: code as trees, memory by kept numbers, and that it says what the machine does. Conditions: none. -/
import Derived.Test.YtjmbnofdnenjfaaAmEight
set_option linter.unusedVariables false
set_option linter.unusedSimpArgs false
set_option linter.unusedSectionVars false
set_option linter.defProp false
set_option maxHeartbeats 4000000
open List renaming replicate→zqa,getElem?_eq_some_iff→zqb,getElem?_set→zqc,getElem?_eq_getElem→zqd,mem_of_getElem?→zqe,all_eq_true→zqf,length_set→zqg,mem_cons_self→zqh,getElem?_of_mem→zqi,eq_nil_of_length_eq_zero→zqj,length_replicate→zqk,append_cancel_left→zql,getElem?_append→zqm,mem_singleton→zqn,mem_append→zqo,length→zqp,length_append→zqq,mem_cons_of_mem→zqr
open Nat renaming le_refl→zqs,lt_of_lt_of_le→zqt,ble_eq_true_of_le→zqu,le_succ→zqv,lt_succ_self→zqw,le_trans→zqx,zero_add→zqy,beq_refl→zqz
namespace Go.AM
def Le{α:Type}(bad r r':α):Prop:=r=bad\/r'=r
section
variable {α β:Type}{b r r':α}{c:β}
theorem Le.same:Le b r r:=.inr rfl
theorem Le.none:Le b b r:=.inl rfl
theorem Le.bind{k k':α->β}(h:Le b r r')(hk:k b=c)(hkk:∀x,Le c (k x) (k' x)):Le c (k r) (k' r'):=by
 rcases h with h|h
 . subst h;exact .inl hk
 grind
theorem Le.map{k:α->β}(h:Le b r r')(hk:k b=c):Le c (k r) (k r'):=h.bind hk fun _=>.same
theorem Le.cond{t:Bool}{x y x' y':α}(h1:Le b x x')(h2:Le b y y'):Le b (bif t then x else y) (bif t then x' else y'):=by
 grind
theorem Le.of_ne(h:Le b r r')(hn:r≠b):r'=r:=h.elim (fun e=>absurd e hn) id
end
section
variable {E:Env}{call call':E7}{ih ih':G8}
def GM(call call':E7):Prop:=∀f l h,Le Res.bad (call f l h) (call' f l h)
def jE(ih ih':G8):Prop:=∀c fr h,Le CRes.bad (ih c fr h) (ih' c fr h)
theorem Sc(hc:GM call call')(op:Op)(fr:Tr)(h:Heap):Le .bad (evOp E call op fr h) (evOp E call' op fr h):=by
 cases op with
 | call c =>
  obtain⟨callee,args,ts⟩:=c;cases callee with
  | value f =>
   show Le _ (b9 call (opv E f fr) (opvs E args.toList fr) h) (b9 call' (opv E f fr) (opvs E args.toList fr) h)
   cases opv E f fr with
   | fn g first caps =>
    cases g with
    |func n=>exact hc _ _ _
    |_=>exact .same
   |_=>exact .same
  |_=>exact .same
 |_=>exact .same
theorem onOB_le{α:Type}{b:α}{o:Option Bool}{t t' f f':α}(h1:Le b t t')(h2:Le b f f'):Le b (R0 o b t f) (R0 o b t' f'):=by
 cases o with
 |none=>exact .same
 |some x=>cases x<;>assumption
theorem Vq(hc:GM call call'):∀(l:List XOp)(fr:Tr)(h:Heap),Le .bad (I5 E call l fr h) (I5 E call' l fr h)
 |[],_,_=>.same
 | o :: l,fr,h=>onOB_le ((Sc hc o.op fr h).bind (k:=X6 o.dst (I5 E call l) fr) (k':=X6 o.dst (I5 E call' l) fr) rfl fun x=>by
     cases x with
     |ok v h'=>exact Vq hc l _ _
     |_=>exact .same) (Vq hc l _ _)
theorem vX(hc:GM call call')(o:XOp)(fr:Tr)(h:Heap)(d:List Nat):Le .bad (evOpD E call o fr h d) (evOpD E call' o fr h d):=by
 unfold evOpD;exact .cond ((Sc hc o.op fr _).map rfl) (.cond (.cond ((Sc hc o.op fr h).map rfl) .same) ((Sc hc o.op fr h).map rfl))
theorem Oh(hc:GM call call'):∀(l:List XOp)(fr:Tr)(h:Heap)(d:List Nat),Le .bad (evOpsD E call l fr h d) (evOpsD E call' l fr h d)
 |[],_,_,_=>.same
 | o :: l,fr,h,d=>onOB_le ((vX hc o fr h d).bind (k:=P0 o.dst (evOpsD E call l) (c7 E call l o.late (setDst o.dst skipped fr) h d) fr) (k':=P0 o.dst (evOpsD E call' l) (c7 E call' l o.late (setDst o.dst skipped fr) h d) fr) rfl fun x=>by
     cases x with
     |ok v h' d'=>exact Oh hc l _ _ _
     |pan v h'=>exact .same
     |bad=>exact .same) (Oh hc l _ _ _)
theorem zG(hi:jE ih ih')(g:Operand)(rest:XC)(rs:List ResultVar):∀(pre:List XC)(fr:Tr)(h:Heap),Le .bad (pF E ih g rest rs pre fr h) (pF E ih' g rest rs pre fr h):=fun _ _ _=>.same
theorem zH(hi:jE ih ih')(ks:List Nat)(args:List AV)(h:Heap):Le .bad (jS E ih ks args h) (jS E ih' ks args h):=.same
theorem vY(hi:jE ih ih')(fi:FI)(args:List AV)(h:Heap):Le .bad (Ss E ih fi args h) (Ss E ih' fi args h):=by
 unfold Ss;cases fi.mode with
 |plain=>exact(hi fi.code _ h).map (k:=M0 E fi.results) rfl
 |dfr pre g rest=>grind[zG]
 |rcv _ _ _=>exact .same
 |itf _=>exact(hi fi.code _ h).map (k:=M0 E fi.results) rfl
theorem Ze(hi:jE ih ih')(f:Nat)(args:List AV)(h:Heap):Le .bad (R5 E ih f args h) (R5 E ih' f args h):=by
 unfold R5;refine .cond .same ?_;cases E.dlf f with
 |some ks=>grind[zH]
 | none =>
  dsimp only;cases srtA E f args h with
  |some r=>exact .same
  | none =>
   dsimp only;cases E.fn f with
   |none=>exact .same
   |some fi=>exact .cond (vY hi fi args h) .same
theorem gZ(hi:jE ih ih'):GM (J8 E ih) (J8 E ih'):=fun f l h=>by
 unfold J8;exact .cond ((Ze hi f l _).map rfl) (Ze hi f l h)
theorem thenI_le{k k':Tr->Heap->IRes}(hk:∀fr h,Le .bad (k fr h) (k' fr h)){r r':CRes}(h:Le .bad r r'):Le .bad (I9 k r) (I9 k' r'):=
 h.bind (k:=I9 k) (k':=I9 k') rfl fun x=>by
  cases x with
  | ok e fr h=>cases e with
   |normal=>exact hk fr h
   |_=>exact .same
  |_=>exact .same
def LH(Y Y':List AV->Heap->CRes):Prop:=∀l h,Le .bad (Y l h) (Y' l h)
theorem vZ{k k':Tr->Heap->CRes}(hk:∀fr h,Le .bad (k fr h) (k' fr h)){r r':CRes}(h:Le .bad r r'):Le .bad (Dw k r) (Dw k' r'):=
 h.bind (k:=Dw k) (k':=Dw k') rfl fun x=>by
  cases x with
  | ok e fr h=>cases e with
   |normal=>exact hk fr h
   |_=>exact .same
  |_=>exact .same
theorem qU(hi:jE ih ih')(ps:List Tmp)(a b:XC)(fr:Tr):LH (roundY ih ps a b fr) (roundY ih' ps a b fr):=fun l h =>
 .cond (vZ (fun fr h=>hi b fr h) (hi a _ h)) .same
theorem zI(hi:jE ih ih')(p2:XC)(yd:Tmp)(fr:Tr){r r':CRes}(h:Le .bad r r'):Le .bad (Ib ih p2 yd fr r) (Ib ih' p2 yd fr r'):=
 h.bind (k:=Ib ih p2 yd fr) (k':=Ib ih' p2 yd fr) rfl fun x=>by
  cases x with
  |ok e fr h=>cases e<;>exact thenI_le (fun _ _=>.same) (hi _ _ _)
  |_=>exact .same
theorem yesI_le(hi:jE ih ih'){Y Y':List AV->Heap->CRes}(hY:LH Y Y')(nt:Nat)(gd:Option (Option Tmp×Bool))(yt:Tmp)(p1:XC)(yd:Tmp)(args:List Operand)(p2:XC)(p:Option Ex)(fr:Tr)(h:Heap):
 Le .bad (eI E ih nt Y gd yt p1 yd args p2 p fr h) (eI E ih' nt Y' gd yt p1 yd args p2 p fr h):=by
 unfold eI;cases p with
 |some _=>exact .same
 |none=>exact .cond (thenI_le (fun fr h=>onOB_le (zI hi p2 yd fr (hY _ _)) .same) (hi _ _ _)) .same
theorem noI_le(hi:jE ih ih')(gd:Option (Option Tmp×Bool))(yt:Tmp)(p1:XC)(yd:Tmp)(p2:XC)(p:Option Ex)(fr:Tr)(h:Heap):
 Le .bad (AE ih gd yt p1 yd p2 p fr h) (AE ih' gd yt p1 yd p2 p fr h):=by
 unfold AE;exact thenI_le (fun fr h=>onOB_le .same (thenI_le (fun _ _=>.same) (hi _ _ _))) (hi _ _ _)
theorem nM{b b':Option Ex->Tr->Heap->IRes}(hb:∀p fr h,Le .bad (b p fr h) (b' p fr h)){r r':IRes}(h:Le .bad r r'):Le .bad (Kv b r) (Kv b' r'):=
 h.bind (k:=Kv b) (k':=Kv b') rfl fun x=>by
  cases x with
  | ok e p fr h=>cases e with
   |normal=>exact hb p fr h
   |_=>exact .same
  |bad=>exact .same
theorem wA(hi:jE ih ih'){Y Y':List AV->Heap->CRes}(hY:LH Y Y')(nt:Nat):∀(m:Nat)(c:IC)(p:Option Ex)(fr:Tr)(h:Heap),Le .bad (evI E ih nt Y m c p fr h) (evI E ih' nt Y' m c p fr h)
 |0,c,p,fr,h=>.same
 | m+1,c,p,fr,h=>by
  have hm:=wA hi hY nt m;show Le .bad (eJ E ih nt Y (evI E ih nt Y m) c p fr h) (eJ E ih' nt Y' (evI E ih' nt Y' m) c p fr h)
  cases c with
  |skip=>exact .same
  |reg x=>exact thenI_le (fun _ _=>.same) (hi _ _ _)
  |yreg p0 gd yt p1 yd args p2=>exact thenI_le (by grind[Go.AM.onOB_le,Go.AM.yesI_le,Go.AM.noI_le]) (hi _ _ _)
  |seq a b=>exact nM (fun p fr h=>hm b p fr h) (hm a p fr h)
  | cond x a b =>
   show Le .bad ((opv E x fr).onBool .bad fun t=>match t with|true=>evI E ih nt Y m a p fr h|false=>evI E ih nt Y m b p fr h) ((opv E x fr).onBool .bad fun t=>match t with|true=>evI E ih' nt Y' m a p fr h|false=>evI E ih' nt Y' m b p fr h)
   cases opv E x fr with
   |bool t=>cases t;exact hm b p fr h;exact hm a p fr h
   |_=>exact .same
  |block id c=>exact(hm c p fr h).map (k:=Jl id) rfl
  |loop c=>exact nM (fun p fr h=>hm (.loop c) p fr h) (hm c p fr h)
  |exit i=>exact .same
  |ret=>exact .same
theorem FF(hi:jE ih ih'){Y Y':List AV->Heap->CRes}(hY:LH Y Y')(m:FM)(nt:Nat)(caps:List AV)(h:Heap):Le .bad (itM E ih m nt caps Y h) (itM E ih' m nt caps Y' h):=by
 cases m with
 |itf c=>exact(wA hi hY nt itMax c none _ h).map (k:=finI) rfl
 |_=>exact .same
theorem FG(hi:jE ih ih'){Y Y':List AV->Heap->CRes}(hY:LH Y Y')(f:Nat)(caps:List AV)(h:Heap):Le .bad (itF E ih f caps Y h) (itF E ih' f caps Y' h):=by
 unfold itF;cases E.fn f with
 |none=>exact .same
 |some fi=>exact .cond (FF hi hY _ _ _ _) .same
theorem zJ(hi:jE ih ih')(ps:List Tmp)(a b:XC)(fr:Tr)(h:Heap)(g:AV):Le .bad (rfnA E ih ps a b fr h g) (rfnA E ih' ps a b fr h g):=by
 cases g with
 | fn f first caps =>
  cases f with
  |func n=>exact .cond ((FG hi (qU hi ps a b fr) n caps h).map (k:=backA fr) rfl) .same
  |_=>exact .same
 |_=>exact .same
theorem nN{b b':Tr->Heap->CRes}(hb:∀fr h,Le .bad (b fr h) (b' fr h)){r r':CRes}(h:Le .bad r r'):Le .bad (Ec b r) (Ec b' r'):=
 h.bind (k:=Ec b) (k':=Ec b') rfl fun x=>by
  cases x with
  | ok e fr h=>cases e with
   |normal=>exact hb fr h
   |_=>exact .same
  |_=>exact .same
theorem zK(hi:jE ih ih')(c:XC)(fr:Tr)(h:Heap):Le .bad (step E ih c fr h) (step E ih' c fr h):=by
 have hcall:=gZ (E:=E) hi;cases c with
 | reg d l =>
  cases d with
  |false=>exact Vq hcall l fr h
  |true=>exact Oh hcall l fr h []
 |seq a b=>exact nN (hi b) (hi a fr h)
 |loop a=>exact nN (hi (.loop a)) (hi a fr h)
 |scope a=>exact hi a fr h
 |block id a=>exact(hi a fr h).map (k:=Ey id) rfl
 | cond x a b =>
  show Le .bad (Pn (ih a) (ih b) (opv E x fr) fr h) (Pn (ih' a) (ih' b) (opv E x fr) fr h)
  cases opv E x fr with
  |bool t=>cases t;exact hi b fr h;exact hi a fr h
  |_=>exact .same
 |rfn g ps a b=>exact zJ hi ps a b fr h _
 |rngm R y=>exact .same
 |_=>exact .same
theorem ev_le1:∀n:Nat,jE (ev E n) (ev E (n+1))
 |0=>fun c fr h=>.none
 |n+1=>fun c fr h=>zK (ev_le1 n) c fr h
theorem CQ(n k:Nat):jE (ev E n) (ev E (n+k)):=by
 induction k with
 |zero=>exact fun _ _ _=>.same
 | succ k ih =>
  intro c fr h;rcases ih c fr h with e|e
  . exact .inl e
  . rcases ev_le1 (E:=E) (n+k) c fr h with e2|e2
    . exact .inl (e.symm.trans e2)
    . exact .inr (e2.trans e)
theorem zL(n k:Nat):GM (J8 E (ev E n)) (J8 E (ev E (n+k))):=gZ (CQ n k)
end
structure Lim{R:Type}(bad:R)(g:Nat->R)(r:R):Prop where
 ok:r≠bad->∃n,∀m,n<=m->g m=r
 no:r=bad->∀m,g m=bad
 early:∀n,g n=bad\/g n=r
open Classical in
noncomputable def nO{R:Type}(bad:R)(g:Nat->R):R:=if hx:∃n,g n≠bad then g hx.choose else bad
theorem Zf{R:Type}{bad:R}{g:Nat->R}(hm:∀n k,Le bad (g n) (g (n+k))):Lim bad g (nO bad g):=by
 unfold nO;by_cases hx:∃n,g n≠bad
 . rw [dif_pos hx]
   have key:∀n,g n≠bad->∀m,n<=m->g m=g n:=fun n hn m hm'=>by
    have:=(hm n (m-n)).of_ne hn
    grind
   refine⟨fun _=>⟨hx.choose,key _ hx.choose_spec⟩,fun e=>absurd e hx.choose_spec,fun n=>?_⟩;grind
 . rw[dif_neg hx]
   have:∀n,g n=bad:=(by grind)
   exact⟨fun e=>absurd rfl e,fun _ m=>this m,fun n=>.inl (this n)⟩
theorem Lim.unique{R:Type}{bad:R}{g:Nat->R}{r r':R}(h:Lim bad g r)(h':Lim bad g r'):r=r':=by
 by_cases e:r=bad
 . by_cases e':r'=bad
   . rw[e,e']
   . obtain⟨n,hn⟩:=h'.ok e'
     exact absurd ((hn n (zqs _)).symm.trans (h.no e n)) e'
 . by_cases e':r'=bad
   . obtain⟨n,hn⟩:=h.ok e
     exact absurd ((hn n (zqs _)).symm.trans (h'.no e' n)) e
   . obtain⟨n,hn⟩:=h.ok e
     obtain⟨m,hm⟩:=h'.ok e';exact(hn (n+m) (by omega)).symm.trans (hm (n+m) (by omega))
theorem Lim.const{R:Type}{bad r:R}:Lim bad (fun _=>r) r:=⟨fun _=>⟨0,fun _ _=>rfl⟩,fun e _=>e,fun _=>.inr rfl⟩
theorem Lim.shift{R:Type}{bad:R}{g:Nat->R}{r:R}(h:Lim bad (fun n=>g (n+1)) r)(h0:g 0=bad):Lim bad g r:=by
 refine⟨fun e=>?_,fun e m=>?_,fun m=>?_⟩
 . obtain⟨n,hn⟩:=h.ok e
   exact⟨n+1,fun m hm=>by have:=hn (m-1) (by omega);grind⟩
 . cases m with
   |succ m=>exact h.no e m
   |zero=>exact h0
 . cases m with
   |succ m=>exact h.early m
   |zero=>grind
theorem Lim.bind{R S:Type}{bad:R}{bad':S}{g:Nat->R}{r:R}{k:Nat->R->S}{s:R->S}(hg:Lim bad g r)(hk:∀n,k n bad=bad')(hs:s bad=bad')(hl:r≠bad->Lim bad' (fun n=>k n r) (s r)):Lim bad' (fun n=>k n (g n)) (s r):=by
 by_cases e:r=bad
 . subst e
   have:∀n,k n (g n)=bad':=fun n=>by rw[hg.no rfl n];exact hk n
   exact⟨fun e=>absurd hs e,fun _ m=>this m,fun n=>.inl (this n)⟩
 . have hl:=hl e
   refine⟨fun e'=>?_,fun e' m=>?_,fun m=>?_⟩
   . obtain⟨n,hn⟩:=hg.ok e
     obtain⟨m,hm⟩:=hl.ok e';exact⟨n+m,(by grind)⟩
   . show k m (g m)=bad'
     rcases hg.early m with h|h
     . grind
     . rw[h];exact hl.no e' m
   . rcases hg.early m with h|h
     . grind
     . show k m (g m)=bad'\/k m (g m)=s r
       rw[h];exact hl.early m
section
variable {E:Env}
noncomputable def evω(E:Env):G8:=fun c fr h=>nO .bad fun n=>ev E n c fr h
noncomputable def callω(E:Env):E7:=fun f l h=>nO .bad fun n=>J8 E (ev E n) f l h
theorem ev_lim(c:XC)(fr:Tr)(h:Heap):Lim .bad (fun n=>ev E n c fr h) (evω E c fr h):=Zf fun n k=>CQ n k c fr h
theorem Hk(f:Nat)(l:List AV)(h:Heap):Lim .bad (fun n=>J8 E (ev E n) f l h) (callω E f l h):=Zf fun n k=>zL n k f l h
theorem Vr(op:Op)(fr:Tr)(h:Heap):Lim .bad (fun n=>evOp E (J8 E (ev E n)) op fr h) (evOp E (callω E) op fr h):=by
 cases op with
 | call c =>
  obtain⟨callee,args,ts⟩:=c;cases callee with
  | value f =>
   show Lim .bad (fun n=>b9 (J8 E (ev E n)) (opv E f fr) (opvs E args.toList fr) h) (b9 (callω E) (opv E f fr) (opvs E args.toList fr) h)
   cases opv E f fr with
   | fn g first caps =>
    cases g with
    |func n=>exact Hk _ _ _
    |_=>exact .const
   |_=>exact .const
  |_=>exact .const
 |_=>exact .const
theorem Oi:∀(l:List XOp)(fr:Tr)(h:Heap),Lim .bad (fun n=>I5 E (J8 E (ev E n)) l fr h) (I5 E (callω E) l fr h)
 |[],fr,h=>.const
 | o :: l,fr,h=>by
  have e:∀call:E7,I5 E call (o::l) fr h=R0 (guardOk o.gd fr) .bad (X6 o.dst (I5 E call l) fr (evOp E call o.op fr h)) (I5 E call l (setDst o.dst skipped fr) h):=fun _=>rfl
  simp only[e];cases guardOk o.gd fr with
  |none=>exact .const
  | some b =>
   cases b with
   |false=>exact Oi l _ _
   | true =>
    show Lim .bad (fun n=>X6 o.dst (I5 E (J8 E (ev E n)) l) fr (evOp E (J8 E (ev E n)) o.op fr h)) (X6 o.dst (I5 E (callω E) l) fr (evOp E (callω E) o.op fr h))
    refine(Vr (E:=E) o.op fr h).bind (k:=fun n r=>X6 o.dst (I5 E (J8 E (ev E n)) l) fr r) (s:=fun r=>X6 o.dst (I5 E (callω E) l) fr r) (fun _=>rfl) rfl (fun hne=>?_);generalize evOp E (callω E) o.op fr h=r at hne;cases r with
    |ok v h'=>exact Oi l _ _
    |pan v h'=>exact .const
    |bad=>exact .const
theorem qV(o:XOp)(fr:Tr)(h:Heap)(d:List Nat):Lim .bad (fun n=>evOpD E (J8 E (ev E n)) o fr h d) (evOpD E (callω E) o fr h d):=by
 unfold evOpD;cases o.quiet with
 | true =>
  simp only[cond_true];exact(Vr (E:=E) o.op fr {h with tch:=[]}).bind (k:=fun _ r=>x4 h.next h.tch d r) (s:=fun r=>x4 h.next h.tch d r) (fun _=>rfl) rfl (fun _=>.const)
 | false =>
  simp only[cond_false];have key:=(Vr (E:=E) o.op fr h).bind (k:=fun _ r=>t8 d r) (s:=fun r=>t8 d r) (fun _=>rfl) rfl (fun _=>.const);cases o.careful with
  |false=>exact key
  | true =>
   simp only[cond_true];cases readOk (readO E o.op fr) d with
   |false=>exact .const
   |true=>exact key
theorem Kb:∀(l:List XOp)(fr:Tr)(h:Heap)(d:List Nat),Lim .bad (fun n=>evOpsD E (J8 E (ev E n)) l fr h d) (evOpsD E (callω E) l fr h d)
 |[],fr,h,d=>.const
 | o :: l,fr,h,d=>by
  have e:∀call:E7,evOpsD E call (o::l) fr h d=R0 (guardOk o.gd fr) .bad (P0 o.dst (evOpsD E call l) (c7 E call l o.late (setDst o.dst skipped fr) h d) fr (evOpD E call o fr h d)) (evOpsD E call l (setDst o.dst skipped fr) h d):=fun _=>rfl
  simp only[e];cases guardOk o.gd fr with
  |none=>exact .const
  | some b =>
   cases b with
   |false=>exact Kb l _ _ _
   | true =>
    refine(qV (E:=E) o fr h d).bind (k:=fun n r=>P0 o.dst (evOpsD E (J8 E (ev E n)) l) (c7 E (J8 E (ev E n)) l o.late (setDst o.dst skipped fr) h d) fr r) (s:=fun r=>P0 o.dst (evOpsD E (callω E) l) (c7 E (callω E) l o.late (setDst o.dst skipped fr) h d) fr r) (fun _=>rfl) rfl (fun hne=>?_);generalize evOpD E (callω E) o fr h d=r at hne;cases r with
    |ok v h' d'=>exact Kb l _ _ _
    |pan v h'=>exact .const
    |bad=>exact .const
theorem iA(a b:XC)(fr:Tr)(h:Heap):Lim .bad (fun n=>Ec (ev E n b) (ev E n a fr h)) (Ec (evω E b) (evω E a fr h)):=by
 refine(ev_lim (E:=E) a fr h).bind (k:=fun n r=>Ec (ev E n b) r) (s:=fun r=>Ec (evω E b) r) (fun _=>rfl) rfl (fun hne=>?_);generalize evω E a fr h=r at hne;cases r with
 | ok e fr' h'=>cases e with
  |normal=>exact ev_lim b fr' h'
  |_=>exact .const
 |pan v h'=>exact .const
 |bad=>exact .const
theorem f7{c:XC}{fr:Tr}{h:Heap}{r:CRes}(hl:Lim .bad (fun n=>ev E (n+1) c fr h) r):evω E c fr h=r:=(ev_lim (E:=E) c fr h).unique (Lim.shift hl rfl)
theorem FH{fr:Tr}{h:Heap}:evω E .skip fr h=.ok .normal fr h:=f7 .const
theorem LI{fr:Tr}{h:Heap}:evω E .ret fr h=.ok .ret fr h:=f7 .const
theorem FJ{fr:Tr}{h:Heap}(i:Nat):evω E (.exit i) fr h=.ok (.exit i) fr h:=f7 .const
theorem LJ{fr:Tr}{h:Heap}(a b:XC):evω E (.seq a b) fr h=Ec (evω E b) (evω E a fr h):=f7 (iA a b fr h)
theorem LK{fr:Tr}{h:Heap}(l:List XOp):evω E (.reg false l) fr h=I5 E (callω E) l fr h:=f7 (Oi l fr h)
theorem FK{fr:Tr}{h:Heap}(l:List XOp):evω E (.reg true l) fr h=evOpsD E (callω E) l fr h []:=f7 (Kb l fr h [])
theorem FL{fr:Tr}{h:Heap}(x:Operand)(a b:XC):evω E (.cond x a b) fr h=Pn (evω E a) (evω E b) (opv E x fr) fr h:=f7 (by
 show Lim .bad (fun n=>Pn (ev E n a) (ev E n b) (opv E x fr) fr h) (Pn (evω E a) (evω E b) (opv E x fr) fr h)
 cases opv E x fr with
 |bool t=>cases t;exact ev_lim b fr h;exact ev_lim a fr h
 |_=>exact .const)
theorem zM{fr:Tr}{h:Heap}(i:Nat)(a:XC):evω E (.block i a) fr h=Ey i (evω E a fr h):=
 f7 ((ev_lim (E:=E) a fr h).bind (k:=fun _ r=>Ey i r) (s:=fun r=>Ey i r) (fun _=>rfl) rfl (fun _=>.const))
theorem FN{fr:Tr}{h:Heap}(a:XC):evω E (.loop a) fr h=Ec (evω E (.loop a)) (evω E a fr h):=f7 (iA a (.loop a) fr h)
theorem zN{fr:Tr}{h:Heap}(a:XC):evω E (.scope a) fr h=evω E a fr h:=f7 (ev_lim a fr h)
theorem Xs{f:Nat}{l:List AV}{h:Heap}{r:Res}(hc:callω E f l h=r)(hb:r≠.bad):∃n,run E n f l h=r:=by
 obtain⟨n,hn⟩:=(Hk (E:=E) f l h).ok (by grind);exact⟨n,(hn n (zqs _)).trans hc⟩
end
theorem Tr.has_mk':∀(f n i:Nat),n<2^f->(Tr.mk f n).has i=decide (i<n)
 | 0,n,i,h=>by
  have:n=0:=by grind
  subst this;simp[Tr.mk_zero];rfl
 |f+1,0,i,_=>by simp[Tr.mk_succ_zero];rfl
 |f+1,k+1,0,_=>by rw[Tr.mk_succ];simp[Tr.has_zero]
 | f + 1,k+1,i+1,h=>by
  rw[Tr.mk_succ,Tr.has_succ];have e1:Nat.shiftRight i 1=i/2:=Nat.shiftRight_eq_div_pow i 1;have e2:Nat.land i 1=i%2:=Nat.and_one_is_mod i;have e3:Nat.div (k+1) 2=(k+1)/2:=rfl;have e4:Nat.div k 2=k/2:=rfl;rw[e1,e2,e3,e4];rw[Nat.pow_succ]at h;rcases Nat.mod_two_eq_zero_or_one i with hi|hi<;>rw[hi]
  . show(Tr.mk f ((k+1)/2)).has (i/2)=_
    rw[Tr.has_mk' f _ _ (by omega),decide_eq_decide];omega
  . show(Tr.mk f (k/2)).has (i/2)=_
    rw[Tr.has_mk' f _ _ (by omega),decide_eq_decide];omega
section
variable {E:Env}{fr:Tr}{h:Heap}
variable {call:E7}
theorem iB(k:IntKind)(n:Int):Kr k n=some (.int k n):=Na _ _
theorem Hl(k:IntKind)(n:Int):j0 k n=some (.int k (k.wrap n)):=by unfold j0;rw[iB,eL]
theorem U9(b:Bool):F8 b=some (.bool b):=by cases b<;>rfl
theorem Gj(k:IntKind):kindEq k k=true:=(X7 k k).2 rfl
theorem Ds(k:IntKind)(a b:Int)(f:IntKind->Int->Int->Option AV):Ap (.int k a) (.int k b) f=f k a b:=by
 show(bif kindEq k k then f k a b else none)=_
 rw[Gj];rfl
theorem LL(fl:EqK)(k:IntKind)(a b:Int):O9 .add fl (.int k a) (.int k b)=some (.int k (k.wrap (a+b))):=by
 show Ap (.int k a) (.int k b) (fun k a b=>j0 k (a+b))=_;rw[Ds,Hl]
theorem LM(fl:EqK)(k:IntKind)(a b:Int):O9 .sub fl (.int k a) (.int k b)=some (.int k (k.wrap (a-b))):=by
 show Ap _ _ _=_;rw[Ds,Hl]
theorem LN(fl:EqK)(k:IntKind)(a b:Int)(hb:b≠0):O9 .rem fl (.int k a) (.int k b)=some (.int k (a.tmod b)):=by
 show Ap (.int k a) (.int k b) (fun k a b=>bif intEq b 0 then none else Kr k (a.tmod b))=_;grind[Ds,x7,iB]
theorem LO(fl:EqK)(k:IntKind)(a b:Int):O9 .eql fl (.int k a) (.int k b)=some (.bool (decide (a=b))):=by
 show A7 (bif kindEq k k then some (intEq a b)else none) F8=_
 rw[Gj,x7];show F8 (a==b)=_
 rw[U9];congr 2
theorem LP(fl:EqK)(k:IntKind)(a b:Int):O9 .neq fl (.int k a) (.int k b)=some (.bool (!decide (a=b))):=by
 show A7 (bif kindEq k k then some (intEq a b)else none) (fun b=>F8 (!b))=_
 rw[Gj,x7];show F8 (!(a==b))=_
 rw[U9];congr 2
theorem FO(fl:EqK)(a b:List UInt8):O9 .eql fl (.str a) (.str b)=some (.bool (decide (a=b))):=by
 show A7 (some (Pj a b)) F8=_
 rw[Fb];show F8 (a==b)=_
 grind[U9]
theorem FP(fl:EqK)(a b:List UInt8):O9 .neq fl (.str a) (.str b)=some (.bool (!decide (a=b))):=by
 show A7 (some (Pj a b)) (fun b=>F8 (!b))=_
 rw[Fb];show F8 (!(a==b))=_
 grind[U9]
theorem LQ(fl:EqK)(k:IntKind)(a b:Int):O9 .lss fl (.int k a) (.int k b)=some (.bool (decide (a<b))):=by
 show Ap _ _ _=_;grind[Ds,U9,S6]
theorem LR(fl:EqK)(k:IntKind)(a b:Int):O9 .leq fl (.int k a) (.int k b)=some (.bool (decide (a<=b))):=by
 show Ap _ _ _=_;rw[Ds,U9,S6]
theorem LS(fl:EqK)(k:IntKind)(a b:Int):O9 .gtr fl (.int k a) (.int k b)=some (.bool (decide (b<a))):=by
 show Ap _ _ _=_;grind[Ds,U9,S6]
theorem LU(fl:EqK)(k:IntKind)(a b:Int):O9 .geq fl (.int k a) (.int k b)=some (.bool (decide (b<=a))):=by
 show Ap _ _ _=_;rw[Ds,U9,S6]
theorem u_not(a:Bool):Pk .not (.bool a)=some (.bool (!a)):=U9 _
theorem Gi(k j:IntKind)(n:Int):S4 (.int k) (.int j n)=some (.int k (k.wrap n)):=Hl _ _
end
section
variable {E:Env}{I:Nat->Prop}{h h':Heap}{sz:Nat}{v x:AV}{es:List AV}
end
section
variable {α β:Type}{R:α->β->Prop}{l:List α}{m:List β}
end
section
variable {E:Env}{fr:Tr}{h:Heap}{call:E7}{D:List Nat}
end
theorem Qj{n:Nat}:∀{l:List Nat},(∀i∈l,n<=i)->I6 n l=[]
 |[],_=>rfl
 | i::l,hl=>by
  show(bif Nat.blt i n then i::I6 n l else I6 n l)=[]
  have h1:=hl i (zqh ..)
  have:Nat.blt i n=false:=by
   cases e:Nat.blt i n with
   |false=>rfl
   |true=>have:i+1<=n:=Nat.le_of_ble_eq_true e;omega
  rw[this];exact Qj (by grind)
noncomputable section
abbrev PF:=List (Nat×AV)
inductive PO where
 |row (k:Nat) (es:List AV) (sz:Nat)
 |mapo (es:List (AV×AV))
 |sub (p i o:Nat)
 |dead
structure PK where
 os:List PO
 ext:Nat
 tch:List Nat
def ownd(k sz:Nat)(es:List AV):AV:=.tup (.ptr k 0 sz::es)
def ownOf(c:AV):Option (Nat×List AV×Nat):=match c with | .tup (.ptr k 0 sz::es)=>some (k,es,sz)|_=>none
def rowOf(os:List PO):Nat->Nat->Option (Nat×List AV×Nat)
 |0,_=>none
 | n + 1,id=>match os[id]? with
  |some (.row k es sz)=>some (k,es,sz)
  | some (.sub p i o)=>match rowOf os n p with
   | some (_,es,_)=>match es[i]? with
    | some v=>match v.cells[o]? with
     |some c=>ownOf c
     |none=>none
    |none=>none
   |none=>none
  |_=>none
def putCl(v:AV)(o:Nat)(c:AV):AV:=match v with | .agg cs=>.agg (cs.set o c)|_=>c
def setRow(os:List PO):Nat->Nat->List AV->Option (List PO)
 |0,_,_=>none
 | n + 1,id,es'=>match os[id]? with
  |some (.row k _ sz)=>some (os.set id (.row k es' sz))
  | some (.sub p i o)=>match rowOf os n p with
   | some (_,es,_)=>match es[i]? with
    | some v=>match v.cells[o]? with
     | some c=>match ownOf c with
      |some (k,_,sz)=>setRow os n p (es.set i (putCl v o (ownd k sz es')))
      |none=>none
     |none=>none
    |none=>none
   |none=>none
  |_=>none
def rootOf(os:List PO):Nat->Nat->Nat
 |0,id=>id
 |n+1,id=>match os[id]? with|some (.sub p _ _)=>rootOf os n p|_=>id
def chainOf(os:List PO):Nat->Nat->List Nat
 |0,id=>[id]
 |n+1,id=>id::(match os[id]? with|some (.sub p _ _)=>chainOf os n p|_=>[])
def X9(os:List PO)(r:Nat)(keep:List Nat):Nat->List PO->List PO
 |_,[]=>[]
 |j,e::l=>(match e with | .sub p i o=>if rootOf os 6 j=r/\¬j∈keep then .dead else .sub p i o|e=>e)::X9 os r keep (j+1) l
def killP(os:List PO)(r:Nat)(keep:List Nat):List PO:=X9 os r keep 0 os
def openC(id i:Nat):Nat->Nat->List AV->List AV×List PO
 |_,_,[]=>([],[])
 | o,nx,c::r=>match ownOf c with
  |some (k,es,sz)=>((match k with|1=>.ptr nx 0 0|_=>.msl nx 0 es.length sz)::(openC id i (o+1) (nx+1) r).1,.sub id i o::(openC id i (o+1) (nx+1) r).2)
  |none=>(c::(openC id i (o+1) nx r).1,(openC id i (o+1) nx r).2)
def O7(v:AV)(cs:List AV):AV:=match v with | .agg _=>.agg cs|_=>cs.headD .und
def Vs(id i off:Nat)(w:AV)(K:PK):AV×PK:=(O7 w (openC id i off K.os.length w.cells).1,{K with os:=K.os++(openC id i off K.os.length w.cells).2})
def clo(c:AV):Bool:=match c with | .int _ _=>true | .bool _=>true | .str _=>true | .fsl _ _=>true | .fptr _ _=>true | .nilsl=>true | .nilptr=>true | .nilmap=>true | .nilfn=>true | .niliface=>true|_=>false
def Qk(es:List AV):Bool:=es.all fun e=>e.cells.all clo
def Hm(c:AV):Bool:=match c with | .agg _=>false | .tup _=>false | .und=>false|_=>true
def sealC(ext r id i:Nat):Nat->List PO->List AV->Option (List AV×List PO)
 |_,os,[]=>some ([],os)
 | o,os,c::l=>match clo c with
  |true=>(sealC ext r id i (o+1) os l).map fun p=>(c::p.1,p.2)
  | false=>match c with
   | .msl q 0 m sz=>match os[q]? with
    | some (.row 0 es z)=>if m=es.length/\sz=z/\ext<=q/\q≠r then
     (sealC ext r id i (o+1) (os.set q (.sub id i o)) l).map fun p=>(ownd 0 sz es::p.1,p.2)else none
    |_=>none
   |_=>none
def rawAt(os:List PO)(id:Nat):Bool:=match os[id]? with|some (.row 0 _ _)=>false|some (.row _ _ _)=>true|_=>false
def storeP(t:TI)(p x:AV)(K:PK):Option PK:=
 match p with
 | .ptr id i off=>match rowOf K.os 6 id with
  | some (k,es,sz)=>match es[i]? with
   | some v=>if x.cells.length=t.size/\0<t.size/\off+t.size<=sz then
    match rawAt K.os id with
    |true=>if x.cells.all Hm=true then some {K with os:=K.os.set id (.row k (es.set i (v.withCells off x.cells)) sz),tch:=id::K.tch}else none
    | false =>
     if (x.cells.all clo&&((v.cells.drop off).take t.size).all clo)=true then
      match setRow K.os 6 id (es.set i (v.withCells off x.cells))with
      |some os2=>some {K with os:=os2,tch:=rootOf K.os 6 id::K.tch}
      |none=>none
     else match setRow (killP K.os (rootOf K.os 6 id) (chainOf K.os 6 id)) 6 id (es.set i (v.withCells off (zqa t.size .und)))with
     | some os0=>match sealC K.ext (rootOf K.os 6 id) id i off os0 x.cells with
      | some (cs,os1)=>match setRow os1 6 id (es.set i (v.withCells off cs))with
       |some os2=>some {K with os:=os2,tch:=rootOf K.os 6 id::K.tch}
       |none=>none
      |none=>none
     |none=>none
    else none
   |none=>none
  |none=>none
 |_=>none
def loadP(t:TI)(p:AV)(K:PK):Option (AV×PK):=
 match p with
 | .fptr v off=>(partOf t v.cells off).map (·,K)
 | .ptr id i off=>match rowOf K.os 6 id with
  | some (_,es,_)=>match es[i]? with
   | some v=>match partOf t v.cells off with
    |some w=>some (Vs id i off w K)
    |none=>none
   |none=>none
  |none=>none
 |_=>none
def takeB(te:TI)(s:AV)(os:List PO):Option (List AV×List PO×List Nat):=
 match s with
 | .nilsl=>some ([],os,[])
 | .msl id off n sz=>match rowOf os 6 id with
  | some (k,es,z)=>if k=0/\z=te.size/\sz=z/\off+n<=es.length then
   match os[id]? with
   |some (.row _ _ _)=>some ((es.drop off).take n,(killP os id []).set id .dead,[id])
   | some (.sub p i o)=>match rowOf os 6 p with
    | some (kp,pes,_)=>if kp=0 then match pes[i]? with
     | some v=>match setRow (killP os (rootOf os 6 id) (chainOf os 6 p)) 6 p (pes.set i (v.withCells o [.und]))with
      |some os2=>some ((es.drop off).take n,os2,[rootOf os 6 id])
      |none=>none
     |none=>none
     else none
    |none=>none
   |_=>none
   else none
  |none=>none
 |_=>none
def flatT(te:TI):Bool:=te.zero.cells.all fun c=>match c with | .int _ _=>true | .bool _=>true | .str _=>true|_=>false
def takeE(te:TI)(x:AV)(ext:Nat)(tc:List Nat)(os:List PO):Option (List AV×List PO):=
 match x with
 | .nilsl=>some ([],os)
 | .fsl es _=>if L8 te.size es=true then some (es,os)else none
 | .msl id off n sz=>match rowOf os 6 id with
  | some (k,es,z)=>if k=0/\z=te.size/\sz=z/\off+n<=es.length then
   match flatT te with
   |true=>if Qk es=true then some ((es.drop off).take n,os)else none
   | false=>match os[id]? with
    |some (.row _ _ _)=>if off=0/\n=es.length/\ext<=id/\¬id∈tc then some (es,(killP os id []).set id .dead)else none
    |_=>none
   else none
  |none=>none
 |_=>none
def wholeP(s:AV)(os:List PO):Bool:=match s with | .nilsl=>true | .msl id off n _=>(match rowOf os 6 id with|some (_,es,_)=>off==0&&n==es.length|none=>false)|_=>false
def joinP(te:TI)(base xs:List AV)(os:List PO)(tc:List Nat)(K:PK):Option (AV×PK):=
 if (base.length+xs.length)*te.bytes<=140737488355328 then
  some (.msl os.length 0 (base.length+xs.length) te.size,{K with os:=os++[.row 0 (base++xs) te.size],tch:=os.length::tc++K.tch})
 else none
def m7(te:TI)(s x:AV)(K:PK):Option (AV×PK):=
 match takeB te s K.os with
 | some (base,os1,tc)=>match takeE te x K.ext tc os1 with
  |some (xs,os2)=>if(!xs.isEmpty||wholeP s K.os)=true then joinP te base xs os2 tc K else none
  |none=>none
 |none=>none
def nP(te:TI)(s:AV)(n:Nat)(K:PK):Option (AV×PK):=
 match takeB te s K.os with
 |some (base,os1,tc)=>if(decide (0<n)||wholeP s K.os)=true then joinP te base (zqa n te.zero) os1 tc K else none
 |none=>none
def newRow(k:Nat)(es:List AV)(sz:Nat)(K:PK):PK:={K with os:=K.os++[.row k es sz]}
def Jf(v:AV):Bool:=match v with | .agg _=>true|_=>false
def placeP(te:TI)(id:Nat):List (Nat×AV)->PK->Option PK
 |[],K=>some K
 |(i,v)::l,K=>if Jf v=Jf te.zero then(match storeP te (.ptr id i 0) v K with|some K=>placeP te id l K|none=>none)else none
def placeR(sz:Nat):List (Nat×AV)->List AV->Option (List AV)
 |[],es=>some es
 |(i,v)::l,es=>if i<es.length/\v.cells.length=sz/\v.cells.all Hm=true then placeR sz l (es.set i v)else none
def Cm(te:TI)(n:Nat)(ps:List (Nat×AV))(K:PK):Option (AV×PK):=
 if n*te.size<=65536/\0<te.size then
  match placeP te K.os.length ps (newRow 0 (zqa n te.zero) te.size K)with
  |some K1=>some (.msl K.os.length 0 n te.size,K1)
  | none=>match placeR te.size ps (zqa n te.zero)with
   |some es=>some (.msl K.os.length 0 n te.size,newRow 2 es te.size K)
   |none=>none
 else none
section
variable (E:Env)
def lookP(l:PF)(i:Nat):AV:=match l with|[]=>.und|p::r=>if p.1=i then p.2 else lookP r i
def opvP(x:Operand)(fr:PF):AV:=match x with | .tmp t=>lookP fr t | .const v=>ofValue v | .global g=>(match E.gl g with|some v=>.fptr v 0|none=>.any) | .func f=>.fn (.func f) [] []
def Oj(x:AV):Bool:=match x with | .msl _ _ _ _=>false|_=>true
def Vt(d:TD)(lo hi mx:Option AV)(x:AV):Option AV:=
 match x with
 | .fsl es f=>if es.isEmpty||mx.isSome then none else(sliceA E d lo hi mx (.fsl es f)).map fun y=>match y with | .fsl l _=>.fsl l l.isEmpty|y=>y
 | .nilsl=>none
 |x=>sliceA E d lo hi mx x
def FQ(d:TD)(x:AV)(K:PK):Option Nat:=
 match d with
 | .string=>x.onStr none fun s=>some (o8 s)
 | .slice _=>eF x
 | .map _ _=>(match x with | .nilmap=>some 0 | .map id=>(match K.os[id]? with|some (.mapo es)=>some (pA es)|_=>none)|_=>none)
 |_=>none
def I8(b:Builtin)(ts:List TypeId)(args:List AV)(K:PK):Option (AV×PK):=
 match b,ts,args with
 | .len,t::_,x::_=>match E.ti t with
  |some ti=>(FQ ti.desc x K).map fun n=>(.int .i64 (Int.ofNat n),K)
  |none=>none
 | .append,t::tx::_,s::x::_=>match E.ti t,E.ti tx with
  | some ti,some tix=>match elemOfT E ti.desc with
   | some te=>if 0<te.size then(match tix.desc with
    | .int _=>(match asNat x with|some n=>if n*te.bytes<=140737488355328 then nP te s n K else none|none=>none)
    |_=>m7 te s x K)else none
   |none=>none
  |_,_=>none
 | .max,_,x::r=>(Nb r x).map (·,K)
 | .min,_,x::r=>(Qq r x).map (·,K)
 |_,_,_=>none
def nQ(E:Env)(t:Nat)(m k x:AV)(K:PK):Option (AV×PK):=none
inductive OpS where
 |val (v:AV) (K:PK)
 |call (f:Nat) (args:List AV)
 |pan (v:AV)
 |bad
def Kn(x:Option (AV×PK)):OpS:=match x with|some p=>.val p.1 p.2|none=>.bad
def Hn(x:Option AV)(K:PK):OpS:=match x with|some v=>.val v K|none=>.bad
def g9(t:Nat)(f:TI->OpS):OpS:=match E.ti t with|some ti=>f ti|none=>.bad
def opvL(l:List Operand)(fr:PF):List AV:=match l with|[]=>[]|x::r=>opvP E x fr::opvL r fr
def cV(l:List (Nat×Operand))(fr:PF):List (Nat×AV):=match l with|[]=>[]|x::r=>(x.1,opvP E x.2 fr)::cV r fr
def cW(o:Option Operand)(fr:PF):Option AV:=match o with|none=>none|some x=>some (opvP E x fr)
def Mg(c a b:AV)(K:PK):OpS:=match c with | .bool true=>.val a K | .bool false=>.val b K|_=>.bad
def wB(ti:TI)(v:AV)(K:PK):OpS:=if v.cells.length=ti.size/\v.cells.all Hm=true then .val (.ptr K.os.length 0 0) (newRow 1 [v] ti.size K)else .bad
def a8(op:BinOp)(t:Nat)(x y:AV)(K:PK):OpS:=if Oj x=true/\Oj y=true then Hn (O9 op (N8 E t) x y) K else .bad
def Zg(ti:TI)(l c:AV)(K:PK):OpS:=match elemOfT E ti.desc,asNat l,asNat c with
 |some te,some n,some m=>if n<=m/\m*te.bytes<=140737488355328/\0<te.size then .val (.msl K.os.length 0 n te.size) (newRow 0 (zqa n te.zero) te.size K)else .bad
 |_,_,_=>.bad
def N4(ti:TI)(f:Nat)(x:AV):Option AV:=match fieldAt E ti f with|some p=>if 0<p.1.size then C4 x p.2 else none|none=>none
def LV(ti:TI)(f:Nat)(x:AV):Option AV:=match fieldAt E ti f with|some p=>(match x with | .agg cs=>partOf p.1 cs p.2|_=>none)|none=>none
def Jg(ti:TI)(x i:AV):Option AV:=match asNat i with|some n=>S5 E ti.desc n x|none=>none
def LW(ti:TI)(x i:AV):Option AV:=match asNat i with|some n=>Ew E ti.desc n x|none=>none
def zO(E:Env)(ti:TI)(ok:Bool)(m k:AV)(K:PK):Option AV:=none
def Mh(g:AV)(args:List AV):OpS:=match g with | .fn f first caps=>(match f with | .func n=>.call n (first++(args++caps))|_=>.bad)|_=>.bad
def prim(op:Op)(fr:PF)(K:PK):OpS:=
 match op with
 | .move x=>.val (opvP E x fr) K
 | .assign x=>.val (opvP E x fr) K
 | .pick c a b=>Mg (opvP E c fr) (opvP E a fr) (opvP E b fr) K
 | .alloc t=>g9 E t fun ti=>.val (.ptr K.os.length 0 0) (newRow 1 [ti.zero] ti.size K)
 | .box t x=>g9 E t fun ti=>wB ti (opvP E x fr) K
 | .build t ps=>g9 E t fun ti=>Hn (X5 E ti (cV E ps.toList fr)) K
 | .buildSlice t n ps=>g9 E t fun ti=>match elemOfT E ti.desc with|some te=>Kn (Cm te n (cV E ps.toList fr) K)|none=>.bad
 | .load t a=>g9 E t fun ti=>Kn (loadP ti (opvP E a fr) K)
 | .store t a x=>g9 E t fun ti=>Kn ((storeP ti (opvP E a fr) (opvP E x fr) K).map fun K=>(.und,K))
 | .nilCheck x=>Hn (Bx (opvP E x fr)) K
 | .binOp op t x y _=>a8 E op t (opvP E x fr) (opvP E y fr) K
 | .unOp op _ x=>Hn (Pk op (opvP E x fr)) K
 | .convert s d x=>g9 E s fun _=>g9 E d fun td=>Hn (S4 td.desc (opvP E x fr)) K
 | .makeInterface t x=>g9 E t fun ti=>bif V6 ti.desc then .val (.iface t (opvP E x fr)) K else .bad
 | .makeFunc f first caps=>.val (.fn f (opvL E first.toList fr) (opvL E caps.toList fr)) K
 | .makeMap _ r=>(match r with|none=>.val (.map K.os.length) {K with os:=K.os++[.mapo []]}|some _=>.bad)
 | .makeSlice t l c=>g9 E t fun ti=>Zg E ti (opvP E l fr) (opvP E c fr) K
 | .slice t x lo hi mx=>g9 E t fun ti=>bif hi.isNone&&mx.isSome then .bad else Hn (Vt E ti.desc (cW E lo fr) (cW E hi fr) (cW E mx fr) (opvP E x fr)) K
 | .fieldAddr t x f=>g9 E t fun ti=>Hn (N4 E ti f (opvP E x fr)) K
 | .field t x f=>g9 E t fun ti=>Hn (LV E ti f (opvP E x fr)) K
 | .indexAddr t x i=>g9 E t fun ti=>Hn (Jg E ti (opvP E x fr) (opvP E i fr)) K
 | .index t x i=>g9 E t fun ti=>Hn (LW E ti (opvP E x fr) (opvP E i fr)) K
 | .lookup t m k ok=>g9 E t fun ti=>Hn (zO E ti ok (opvP E m fr) (opvP E k fr) K) K
 | .mapUpdate t m k x=>Kn (nQ E t (opvP E m fr) (opvP E k fr) (opvP E x fr) K)
 | .insert t m k x=>Kn (nQ E t (opvP E m fr) (opvP E k fr) (opvP E x fr) K)
 | .typeAssert x _ t ok=>g9 E t fun ti=>bif V6 ti.desc && !ok then Hn (aP t (opvP E x fr)) K else .bad
 | .extract t i=>(match opvP E t fr with | .tup vs=>Hn vs[i]? K|_=>.bad)
 | .call c=>(match c.callee with
  | .builtin b=>Kn (I8 E b c.argTypes.toList (opvL E c.args.toList fr) K)
  | .value g=>Mh (opvP E g fr) (opvL E c.args.toList fr)
  | .invoke _ _=>.bad)
 | .panic x=>(match opvP E x fr with | .iface t v=>.pan (.iface t v)|_=>.bad)
 |_=>.bad
def fslN(es:List AV):AV:=.fsl es es.isEmpty
def J7(a:Option AV)(l:Option (List AV)):Option (List AV):=match a with|some a=>(match l with|some l=>some (a::l)|none=>none)|none=>none
mutual
def frzC:AV->Option AV
 | .int k n=>some (.int k n)
 | .bool b=>some (.bool b)
 | .str s=>some (.str s)
 | .agg cs=>(match frzL cs with|some cs=>some (.agg cs)|none=>none)
 | .tup cs=>(match cs with | .ptr k 0 _::es=>(match frzL es with|some es=>(match k with|1=>(match es with|[v]=>some (.fptr v 0)|_=>none)|_=>some (fslN es))|none=>none)|_=>none)
 | .fsl es _=>(match frzL es with|some es=>some (fslN es)|none=>none)
 | .fptr v o=>(match frzC v with|some v=>some (.fptr v o)|none=>none)
 | .msl _ _ _ _=>none
 | .ptr _ _ _=>none
 | .nilsl=>some (.fsl [] true)
 | .nilptr=>some .nilptr
 | .nilmap=>some .nilmap
 | .map _=>none
 | .fn _ _ _=>none
 | .nilfn=>some .nilfn
 | .iface _ _=>none
 | .niliface=>some .niliface
 | .any=>none
 | .und=>none
def frzL:List AV->Option (List AV)
 |[]=>some []
 |v::l=>J7 (frzC v) (frzL l)
end
def viewV(os:List PO)(v:AV):Option AV:=
 match v with
 | .msl id off n sz=>(match rowOf os 6 id with
  |some (k,es,z)=>if k=0/\sz=z/\off+n<=es.length then(match frzL ((es.drop off).take n)with|some es=>some (fslN es)|none=>none)else none
  |none=>none)
 | .ptr id i off=>(match rowOf os 6 id with
  |some (k,es,z)=>if k=0 then(match es[i]? with|some v=>(match frzC v with|some v=>some (.fptr v off)|none=>none)|none=>none)else none
  |none=>none)
 | .tup _=>none
 | .agg _=>none
 |v=>frzC v
def viewL(os:List PO):List AV->Option (List AV)
 |[]=>some []
 |v::l=>J7 (viewV os v) (viewL os l)
def viewA(os:List PO)(v:AV):Option AV:=match v with | .agg cs=>(match viewL os cs with|some cs=>some (.agg cs)|none=>none)|v=>viewV os v
def viewAs(os:List PO):List AV->Option (List AV)
 |[]=>some []
 |v::l=>J7 (viewA os v) (viewAs os l)
mutual
def O2:AV->List Nat
 | .int _ _=>[]
 | .bool _=>[]
 | .str _=>[]
 | .agg cs=>refsL cs
 | .tup cs=>refsL cs
 | .fsl _ _=>[]
 | .fptr _ _=>[]
 | .msl id _ _ _=>[id]
 | .ptr id _ _=>[id]
 | .nilsl=>[]
 | .nilptr=>[]
 | .nilmap=>[]
 | .map id=>[id]
 | .fn _ a b=>refsL a++refsL b
 | .nilfn=>[]
 | .iface _ v=>O2 v
 | .niliface=>[]
 | .any=>[]
 | .und=>[]
def refsL:List AV->List Nat
 |[]=>[]
 |v::l=>O2 v++refsL l
end
mutual
def noF:AV->Bool
 | .int _ _=>true
 | .bool _=>true
 | .str _=>true
 | .agg cs=>noFL cs
 | .tup cs=>(match cs with | .ptr _ 0 _::es=>noFL es|_=>false)
 | .nilsl=>true
 | .nilptr=>true
 | .nilmap=>true
 | .nilfn=>true
 | .niliface=>true
 |_=>false
def noFL:List AV->Bool
 |[]=>true
 |v::l=>noF v&&noFL l
end
mutual
def J4(σ:Nat->Option Nat):AV->AV
 | .int k n=>.int k n
 | .bool b=>.bool b
 | .str s=>.str s
 | .agg cs=>.agg (renL σ cs)
 | .tup cs=>.tup (renL σ cs)
 | .fsl es f=>.fsl es f
 | .fptr v o=>.fptr v o
 | .msl id off n sz=>(match σ id with|some j=>.msl j off n sz|none=>.und)
 | .ptr id i o=>(match σ id with|some j=>.ptr j i o|none=>.und)
 | .nilsl=>.nilsl
 | .nilptr=>.nilptr
 | .nilmap=>.nilmap
 | .map id=>(match σ id with|some j=>.map j|none=>.und)
 | .fn f a b=>.fn f (renL σ a) (renL σ b)
 | .nilfn=>.nilfn
 | .iface t v=>.iface t (J4 σ v)
 | .niliface=>.niliface
 | .any=>.und
 | .und=>.und
def renL(σ:Nat->Option Nat):List AV->List AV
 |[]=>[]
 |v::l=>J4 σ v::renL σ l
end
def posOf(l:List Nat)(id:Nat):Option Nat:=match l with|[]=>none|j::r=>if j=id then some 0 else(posOf r id).map (· + 1)
def l6(s:Nat->List Nat):Nat->List Nat->List Nat->List Nat
 |0,_,acc=>acc
 |_+1,[],acc=>acc
 |n+1,id::todo,acc=>if id∈acc then l6 s n todo acc else l6 s n (todo++s id) (acc++[id])
def wC(e:Option PO):List Nat:=match e with|some (.row 0 _ _)=>[]|some (.row _ es _)=>refsL es|_=>[]
def iC(os:List PO)(id:Nat):List Nat:=match os[id]? with|some (.sub p _ _)=>[p]|e=>wC e
def renPO(σ:Nat->Option Nat)(e:PO):PO:=match e with
 | .row 0 es sz=>.row 0 es sz
 | .row k es sz=>.row k (renL σ es) sz
 | .mapo es=>.mapo es
 | .sub p i o=>(match σ p with|some q=>.sub q i o|none=>.dead)
 | .dead=>.dead
def entryAt(os:List PO)(id:Nat):PO:=match os[id]? with|some e=>e|none=>.dead
def markIds(keep:List Nat)(fr:PF)(K:PK):List Nat:=l6 (iC K.os) 64 ((List.range K.ext).flatMap (iC K.os)++refsL (keep.map (lookP fr))) (List.range K.ext)
def FS(ids:List Nat)(K:PK)(ext:Nat)(tch:List Nat):PK:={os:=ids.map fun id=>renPO (posOf ids) (entryAt K.os id),ext:=ext,tch:=tch}
def N0(keep:List Nat)(fr:PF)(K:PK):PF×PK:=
 (keep.map fun i=>(i,J4 (posOf (markIds keep fr K)) (lookP fr i)),FS (markIds keep fr K) K K.ext (K.tch.filter (· < K.ext)))
def wD(ids:List Nat)(base e:Nat):Option Nat:=match ids[e]? with|some id=>some id|none=>some (base+(e-ids.length))
def openT:Nat->List AV->List AV×List PO
 |_,[]=>([],[])
 | nx,c::r=>match ownOf c with
  |some (k,es,sz)=>((match k with|1=>.ptr nx 0 0|_=>.msl nx 0 es.length sz)::(openT (nx+1) r).1,.row 0 es sz::(openT (nx+1) r).2)
  |none=>(c::(openT nx r).1,(openT nx r).2)
def openTs:Nat->List AV->List AV×List PO
 |_,[]=>([],[])
 |nx,v::r=>(O7 v (openT nx v.cells).1::(openTs (nx+(openT nx v.cells).2.length) r).1,(openT nx v.cells).2++(openTs (nx+(openT nx v.cells).2.length) r).2)
def okRs(rs:List AV):Bool:=rs.all fun v=>v.cells.all fun c=>(ownOf c).isSome||clo c
def viewW(os:List PO)(v:AV):Option AV:=match viewV os v with
 |some w=>some w
 | none=>match v with
  | .msl id off n sz=>(match rawAt os id with
   | true=>(match os[id]? with
    |some (.row _ es z)=>if sz=z/\off+n<=es.length then(match viewAs os ((es.drop off).take n)with|some es=>some (fslN es)|none=>none)else none
    |_=>none)
   |false=>none)
  |_=>none
def viewWL(os:List PO):List AV->Option (List AV)
 |[]=>some []
 |v::l=>J7 (viewW os v) (viewWL os l)
def viewWA(os:List PO)(v:AV):Option AV:=match v with | .agg cs=>(match viewWL os cs with|some cs=>some (.agg cs)|none=>none)|v=>viewW os v
def Sd(os:List PO):List AV->Option (List AV)
 |[]=>some []
 |v::l=>J7 (viewWA os v) (Sd os l)
def viewX(os:List PO)(l:List AV):Option (List AV):=match viewAs os l with|some as1=>some as1|none=>Sd os l
def tcall(g:List AV->Option (List AV))(args:List AV)(K:PK):Option (List AV×PK):=
 match viewX K.os args with
 | some as1=>(match g as1 with
  |some rs=>if(okRs rs&&((refsL args).isEmpty||noFL rs))=true then some ((openTs K.os.length rs).1,{K with os:=K.os++(openTs K.os.length rs).2})else none
  |none=>none)
 |none=>none
inductive PC where
 |skip
 |reg (draw:Bool) (l:List XOp)
 |seq (a b:PC)
 |cond (c:Operand) (a b:PC)
 |block (id:Nat) (c:PC)
 |loop (c:PC)
 |scope (c:PC)
 |exit (id:Nat)
 |ret
 |pre (keep:List Nat) (c:PC)
 |post (keep:List Nat) (c:PC)
 |rfn (g:Operand) (ps:List Tmp) (a b:PC)
 |itf (x:XC) (c:PC)
 |yreg (p0:PC) (gd:Option (Option Tmp×Bool)) (yt:Tmp) (p1:PC) (yd:Tmp) (args:List Operand) (p2:PC)
 |dfr (x:XC) (a:PC) (g:Operand) (c:PC)
 |rcv (x:XC) (d d2:Tmp) (c:PC)
def PC.er:PC->XC
 | .skip=>.skip
 | .reg d l=>.reg d l
 | .seq a b=>.seq a.er b.er
 | .cond c a b=>.cond c a.er b.er
 | .block i c=>.block i c.er
 | .loop c=>.loop c.er
 | .scope c=>.scope c.er
 | .exit i=>.exit i
 | .ret=>.ret
 | .pre _ c=>c.er
 | .post _ c=>c.er
 | .rfn g ps a b=>.rfn g ps a.er b.er
 | .itf x _=>x
 | .yreg _ _ _ _ _ _ _=>.bad
 | .dfr x _ _ _=>x
 | .rcv x _ _ _=>x
def PC.pieces:PC->List XC
 | .seq a b=>a.er::b.pieces
 |c=>[c.er]
def PC.eri:PC->IC
 | .reg d l=>.reg (.reg d l)
 | .seq a b=>.seq a.eri b.eri
 | .cond c a b=>.cond c a.eri b.eri
 | .block i c=>.block i c.eri
 | .loop c=>.loop c.eri
 | .exit i=>.exit i
 | .ret=>.ret
 | .pre _ c=>c.eri
 | .post _ c=>c.eri
 | .yreg p0 gd yt p1 yd args p2=>.yreg p0.er gd yt p1.er yd args p2.er
 |_=>.skip
structure RC where
 ps:List Tmp
 a:PC
 b:PC
 fr:PF
structure PFn where
 code:PC
 nt:Nat
 rs:List ResultVar
 inp:Bool
def itOf(p:Option PFn):Option (Nat×PC):=match p with|some ⟨.itf _ c,nt,_,_⟩=>some (nt,c)|_=>none
def inpOf(p:Option PFn):Bool:=match p with|some p=>p.inp|none=>false
structure PE where
 E:Env
 T:Nat->Option (List AV->Option (List AV))
 fn:Nat->Option PFn
inductive PJ where
 |code (c:PC) (fr:PF) (K:PK)
 |ops (l:List XOp) (fr:PF) (K:PK)
 |opsD (l:List XOp) (fr:PF) (K:PK)
 |opsS (S:List PK) (l:List XOp) (fr:PF) (K:PK)
 |call (f:Nat) (args:List AV) (K:PK)
 |body (f:Nat) (args:List AV) (K:PK)
 |iter (c:RC) (m:Nat) (ic:PC) (p:Option Ex) (fr:PF) (K:PK)
 |round (c:RC) (args:List AV) (K:PK)
 |dfc (a:PC) (g:Operand) (c:PC) (fr:PF) (K:PK)
 |rcv (x v:AV) (K:PK)
def bodyJ(c:PC)(fr:PF)(K:PK):PJ:=match c with | .dfr _ _ _ _=>.rcv .und .und K | .rcv _ _ _ _=>.rcv .und .und K|c=>.code c fr K
inductive PR where
 |ok (e:Ex) (fr:PF) (K:PK)
 |val (vs:List AV) (K:PK)
 |pan (v:AV) (K:PK)
 |itr (e:Ex) (p:Option Ex) (fr:PF) (K:PK)
def setP(d:Option Tmp)(v:AV)(fr:PF):PF:=match d with|none=>fr|some t=>(t,v)::fr
def guardP(g:Option (Option Tmp×Bool))(fr:PF):Option Bool:=match g with
 |none=>some true
 |some (none,_)=>some false
 |some (some t,w)=>j2 w (lookP fr t)
def enterP:Nat->List AV->PF
 |_,[]=>[]
 |i,v::l=>(i,v)::enterP (i+1) l
def resP(E:Env):List ResultVar->PF->PK->Option (List AV×PK)
 |[],_,K=>some ([],K)
 | .tmp t::l,fr,K=>match resP E l fr K with|some (vs,K)=>some (lookP fr t::vs,K)|none=>none
 | .cell a t::l,fr,K=>match E.ti t with
  | some ti=>match loadP ti (lookP fr a) K with
   |some (v,K)=>match resP E l fr K with|some (vs,K)=>some (v::vs,K)|none=>none
   |none=>none
  |none=>none
def setPs':List Tmp->List AV->PF->PF
 |[],_,fr=>fr
 |_::_,[],fr=>fr
 |p::ps,v::l,fr=>setPs' ps l ((p,v)::fr)
def wentOn(e:Ex):Bool:=match e with | .normal=>true|_=>false
def Ok(e:Ex):Option Ex:=match e with | .normal=>none|e=>some e
def Vu(E:Env):List XOp->List Bool->PF->PK->Bool:=fun _ _ _ _=>false
def Cn(n:Nat)(l:List XOp)(K:PK):Bool:=K.tch.all (fun i=>decide (n<=i))||l.all (fun o=>!o.careful)
def CS(os:List PO)(id:Nat):Bool:=match os[id]? with|some (.row _ _ _)=>true|_=>false
def iD(os:List PO)(S:PK)(v:AV):Bool:=match v with | .ptr id _ _=>CS S.os id&&(!S.tch.contains id&&CS os id)|_=>false
def FT(E:Env)(S:PK)(os:List PO)(fr:PF)(op:Op):Bool:=match op with | .load _ a=>iD os S (opvP E a fr)|_=>false
def CT(E:Env)(S:PK)(K:PK)(fr:PF)(o:XOp):Bool:=match o.careful with|false=>true|true=>FT E S K.os fr o.op
def cX(E:Env)(S:List PK)(K:PK)(fr:PF)(o:XOp):Bool:=S.all fun s=>CT E s K fr o
def evP(P:PE):PJ->Option PR
 | .code .skip fr K=>some (.ok .normal fr K)
 | .code (.reg false l) fr K=>evP P (.ops l fr K)
 | .code (.reg true l) fr K=>evP P (.opsD l fr K)
 | .code (.seq a b) fr K=>do
  match <-evP P (.code a fr K)with
  | .ok .normal fr K=>evP P (.code b fr K)
  | .ok (.exit i) fr K=>pure (.ok (.exit i) fr K)
  | .ok .ret fr K=>pure (.ok .ret fr K)
  | .pan v K=>pure (.pan v K)
  | .val _ _=>none
  | .itr _ _ _ _=>none
 | .code (.cond c a b) fr K=>match opvP P.E c fr with
  | .bool true=>evP P (.code a fr K)
  | .bool false=>evP P (.code b fr K)
  |_=>none
 | .code (.block i c) fr K=>do
  match <-evP P (.code c fr K)with
  | .ok .normal fr K=>pure (.ok .normal fr K)
  | .ok (.exit j) fr K=>if j=i then pure (.ok .normal fr K)else pure (.ok (.exit j) fr K)
  | .ok .ret fr K=>pure (.ok .ret fr K)
  | .pan v K=>pure (.pan v K)
  | .val _ _=>none
  | .itr _ _ _ _=>none
 | .code (.loop c) fr K=>do
  match <-evP P (.code c fr K)with
  | .ok .normal fr K=>evP P (.code (.loop c) fr K)
  | .ok (.exit i) fr K=>pure (.ok (.exit i) fr K)
  | .ok .ret fr K=>pure (.ok .ret fr K)
  | .pan v K=>pure (.pan v K)
  | .val _ _=>none
  | .itr _ _ _ _=>none
 | .code (.scope c) fr K=>evP P (.code c fr K)
 | .code (.exit i) fr K=>some (.ok (.exit i) fr K)
 | .code .ret fr K=>some (.ok .ret fr K)
 | .code (.pre k c) fr K=>evP P (.code c (N0 k fr K).1 (N0 k fr K).2)
 | .code (.post k c) fr K=>do
  match <-evP P (.code c fr K)with
  | .ok .normal fr K=>pure (.ok .normal (N0 k fr K).1 (N0 k fr K).2)
  | .ok (.exit i) fr K=>pure (.ok (.exit i) fr K)
  | .ok .ret fr K=>pure (.ok .ret fr K)
  | .pan v K=>pure (.pan (lookP (N0 [0] [(0,v)] K).1 0) (N0 [0] [(0,v)] K).2)
  | .val _ _=>none
  | .itr _ _ _ _=>none
 | .code (.rfn g ps a b) fr K=>match opvP P.E g fr with
  | .fn (.func n) [] caps=>match itOf (P.fn n)with
   | some (nt,ic)=>if caps.length+1<=nt then do
    match <-evP P (.iter ⟨ps,a,b,fr⟩ itMax ic none (enterP 0 (.any::caps)) ⟨K.os,K.os.length,[]⟩)with
    | .itr .normal p _ K1=>pure (.ok (rL p) fr ⟨K1.os,K.ext,K1.tch++K.tch⟩)
    | .itr .ret p _ K1=>pure (.ok (rL p) fr ⟨K1.os,K.ext,K1.tch++K.tch⟩)
    |_=>none
    else none
   |none=>none
  |_=>none
 | .code (.itf _ _) fr K=>none
 | .code (.yreg _ _ _ _ _ _ _) fr K=>none
 | .code (.dfr _ _ _ _) fr K=>none
 | .code (.rcv _ _ _ _) fr K=>none
 | .dfc _ _ _ _ _=>none
 | .rcv _ _ _=>none
 | .round c args K=>if args.length=c.ps.length then do
  match <-evP P (.code c.a (setPs' c.ps args c.fr) K)with
  | .ok .normal fr K=>evP P (.code c.b fr K)
  |_=>none
  else none
 | .iter c 0 ic p fr K=>none
 | .iter c (m+1) (.reg d l) p fr K=>do
  match <-evP P (.code (.reg d l) fr K)with
  | .ok .normal fr K=>pure (.itr .normal p fr K)
  |_=>none
 | .iter c (m+1) (.seq a b) p fr K=>do
  match <-evP P (.iter c m a p fr K)with
  | .itr .normal p fr K=>evP P (.iter c m b p fr K)
  | .itr (.exit i) p fr K=>pure (.itr (.exit i) p fr K)
  | .itr .ret p fr K=>pure (.itr .ret p fr K)
  |_=>none
 | .iter c (m+1) (.cond x a b) p fr K=>match opvP P.E x fr with
  | .bool true=>evP P (.iter c m a p fr K)
  | .bool false=>evP P (.iter c m b p fr K)
  |_=>none
 | .iter c (m+1) (.block i a) p fr K=>do
  match <-evP P (.iter c m a p fr K)with
  | .itr .normal p fr K=>pure (.itr .normal p fr K)
  | .itr (.exit j) p fr K=>if j=i then pure (.itr .normal p fr K)else pure (.itr (.exit j) p fr K)
  | .itr .ret p fr K=>pure (.itr .ret p fr K)
  |_=>none
 | .iter c (m+1) (.loop a) p fr K=>do
  match <-evP P (.iter c m a p fr K)with
  | .itr .normal p fr K=>evP P (.iter c m (.loop a) p fr K)
  | .itr (.exit i) p fr K=>pure (.itr (.exit i) p fr K)
  | .itr .ret p fr K=>pure (.itr .ret p fr K)
  |_=>none
 | .iter c (m+1) .skip p fr K=>some (.itr .normal p fr K)
 | .iter c (m+1) (.exit i) p fr K=>some (.itr (.exit i) p fr K)
 | .iter c (m+1) .ret p fr K=>some (.itr .ret p fr K)
 | .iter c (m+1) (.pre k a) p fr K=>evP P (.iter c (m+1) a p (N0 k fr K).1 (N0 k fr K).2)
 | .iter c (m+1) (.post k a) p fr K=>do
  match <-evP P (.iter c (m+1) a p fr K)with
  | .itr .normal p fr K=>pure (.itr .normal p (N0 k fr K).1 (N0 k fr K).2)
  |r=>pure r
 | .iter c (m+1) (.yreg p0 gd yt p1 yd args p2) p fr K=>do
  match <-evP P (.code p0 fr K)with
  | .ok .normal fr K=>match guardP gd fr with
   | some true=>match p with
    | none=>do
     match <-evP P (.code p1 ((yt,.any)::fr) K)with
     | .ok .normal fr K=>match guardP gd fr with
      | some true=>do
       match <-evP P (.round c (opvL P.E args fr) ⟨K.os,K.os.length,[]⟩)with
       | .ok e _ K1=>do
        match <-evP P (.code p2 ((yd,.bool (wentOn e))::fr) ⟨K1.os,K.ext,K1.tch++K.tch⟩)with
        | .ok .normal fr K=>pure (.itr .normal (Ok e) fr K)
        |_=>none
       |_=>none
      |_=>none
     |_=>none
    |some _=>none
   | some false=>do
    match <-evP P (.code p1 ((yt,skipped)::fr) K)with
    | .ok .normal fr K=>match guardP gd fr with
     | some false=>do
      match <-evP P (.code p2 ((yd,skipped)::fr) K)with
      | .ok .normal fr K=>pure (.itr .normal p fr K)
      |_=>none
     |_=>none
    |_=>none
   |none=>none
  |_=>none
 | .iter c (m+1) _ p fr K=>none
 | .ops [] fr K=>some (.ok .normal fr K)
 | .ops (o::l) fr K=>match guardP o.gd fr with
  | some true=>match prim P.E o.op fr K with
   | .val v K=>evP P (.ops l (setP o.dst v fr) K)
   | .call f args=>do
    match <-evP P (.call f args K)with
    | .val vs K=>evP P (.ops l (setP o.dst (oneOrTup vs) fr) K)
    | .pan v K=>pure (.pan v K)
    | .ok _ _ _=>none
    | .itr _ _ _ _=>none
   | .pan v=>some (.pan v K)
   | .bad=>none
  |some false=>evP P (.ops l (setP o.dst skipped fr) K)
  |none=>none
 | .opsD [] fr K=>some (.ok .normal fr K)
 | .opsD (o::l) fr K=>match guardP o.gd fr with
  | some true=>match o.quiet with
   | true=>match prim P.E o.op fr {K with tch:=[]}with
    | .val v K1=>if Cn K.os.length l K1=true then evP P (.opsD l (setP o.dst v fr) {K1 with tch:=K1.tch++K.tch})else evP P (.opsS [⟨K.os,0,K1.tch⟩] l (setP o.dst v fr) {K1 with tch:=K1.tch++K.tch})
    | .call f args=>do
     match <-evP P (.call f args {K with tch:=[]})with
     | .val vs K1=>if Cn K.os.length l K1=true then evP P (.opsD l (setP o.dst (oneOrTup vs) fr) {K1 with tch:=K1.tch++K.tch})else evP P (.opsS [⟨K.os,0,K1.tch⟩] l (setP o.dst (oneOrTup vs) fr) {K1 with tch:=K1.tch++K.tch})
     | .pan v K1=>if Vu P.E l o.late (setP o.dst skipped fr) K=true then some (.pan v {K1 with tch:=K1.tch++K.tch})else none
     | .ok _ _ _=>none
     | .itr _ _ _ _=>none
    | .pan v=>none
    | .bad=>none
   | false=>match prim P.E o.op fr K with
    | .val v K=>evP P (.opsD l (setP o.dst v fr) K)
    | .call f args=>do
     match <-evP P (.call f args K)with
     | .val vs K=>evP P (.opsD l (setP o.dst (oneOrTup vs) fr) K)
     | .pan v K1=>if Vu P.E l o.late (setP o.dst skipped fr) K=true then some (.pan v K1)else none
     | .ok _ _ _=>none
     | .itr _ _ _ _=>none
    | .pan v=>if Vu P.E l o.late (setP o.dst skipped fr) K=true then some (.pan v K)else none
    | .bad=>none
  |some false=>evP P (.opsD l (setP o.dst skipped fr) K)
  |none=>none
 | .opsS S [] fr K=>some (.ok .normal fr K)
 | .opsS S (o::l) fr K=>match guardP o.gd fr with
  | some true=>match o.quiet with
   | true=>match prim P.E o.op fr {K with tch:=[]}with
    | .val v K1=>evP P (.opsS (⟨K.os,0,K1.tch⟩::S) l (setP o.dst v fr) {K1 with tch:=K1.tch++K.tch})
    |_=>none
   | false=>if cX P.E S K fr o=true then match prim P.E o.op fr K with
    | .val v K=>evP P (.opsS S l (setP o.dst v fr) K)
    | .call f args=>do
     match <-evP P (.call f args K)with
     | .val vs K=>evP P (.opsS S l (setP o.dst (oneOrTup vs) fr) K)
     |_=>none
    |_=>none
   else none
  |some false=>evP P (.opsS S l (setP o.dst skipped fr) K)
  |none=>none
 | .call f args K=>match P.T f with
  | some g=>match tcall g args K with
   |some (vs,K)=>some (.val vs K)
   |none=>none
  | none=>match inpOf (P.fn f)with
   | true=>do
    match <-evP P (.body f args ⟨K.os,K.os.length,[]⟩)with
    | .val vs K1=>pure (.val vs ⟨K1.os,K.ext,K1.tch++K.tch⟩)
    | .pan v K1=>pure (.pan v ⟨K1.os,K.ext,K1.tch++K.tch⟩)
    | .ok _ _ _=>none
    | .itr _ _ _ _=>none
   | false=>do
    match <-evP P (.body f (renL (posOf []) args) ⟨[],0,[]⟩)with
    | .val vs K1=>if K1.os.isEmpty=true then pure (.val (renL (wD [] K.os.length) vs) K)else none
    | .pan v K1=>none
    | .ok _ _ _=>none
    | .itr _ _ _ _=>none
 | .body f args K=>match P.fn f with
  | some p=>if args.length<=p.nt then do
   match <-evP P (bodyJ p.code (enterP 0 args) K)with
   | .ok (.exit _) _ _=>none
   | .ok .normal fr K=>match resP P.E p.rs fr K with
    |some (vs,K)=>pure (.val vs K)
    |none=>none
   | .ok .ret fr K=>match resP P.E p.rs fr K with
    |some (vs,K)=>pure (.val vs K)
    |none=>none
   | .pan v K=>pure (.pan v K)
   | .val _ _=>none
   | .itr _ _ _ _=>none
   else none
  |none=>none
 partial_fixpoint
end
end
def isAg(v:AV):Bool:=match v with | .agg _=>true|_=>false
theorem D8{v:AV}(h:isAg v=false):v.cells=[v]:=by cases v<;>first|rfl|cases h
inductive Emp:AV->Prop where
 |nil:Emp .nilsl
 |fsl:Emp (.fsl [] false)
inductive Fz(Z:Nat->Prop)(h:Heap):AV->AV->Prop where
 |int (k:IntKind) (n:Int):Fz Z h (.int k n) (.int k n)
 |bool (b:Bool):Fz Z h (.bool b) (.bool b)
 |str (s:List UInt8):Fz Z h (.str s) (.str s)
 |nilsl:Fz Z h .nilsl .nilsl
 |nilptr:Fz Z h .nilptr .nilptr
 |nilmap:Fz Z h .nilmap .nilmap
 |nilfn:Fz Z h .nilfn .nilfn
 |niliface:Fz Z h .niliface .niliface
 |agg {xs ys:List AV}:xs.length=ys.length->(∀(i:Nat) x y,xs[i]?=some x->ys[i]?=some y->Fz Z h x y)->ys.all clo=true->Fz Z h (.agg xs) (.agg ys)
 |emp {x:AV}:Emp x->Fz Z h x (.fsl [] true)
 |fsl {es es':List AV} {f f':Bool}:es.length=es'.length->(∀(i:Nat) x y,es[i]?=some x->es'[i]?=some y->Fz Z h x y)->f=false->Fz Z h (.fsl es f) (.fsl es' f')
 |view {id off n sz:Nat} {row es':List AV} {f':Bool}:Z id->h.get id=some (.row row sz)->off+n<=row.length->es'.length=n->(∀(i:Nat) x y,row[off+i]?=some x->es'[i]?=some y->Fz Z h x y)->(∀(i:Nat) x,i<n->row[off+i]?=some x->x.cells.length=sz)->Fz Z h (.msl id off n sz) (.fsl es' f')
 |fptr {v v':AV} (o:Nat):Fz Z h v v'->Fz Z h (.fptr v o) (.fptr v' o)
 |pview {id i o sz:Nat} {v v':AV} {row:List AV}:Z id->h.get id=some (.row row sz)->row[i]?=some v->Fz Z h v v'->Fz Z h (.ptr id i o) (.fptr v' o)
section
variable {Z Z':Nat->Prop}{h h':Heap}{x y:AV}
theorem Fz.shape(f:Fz Z h x y):x.cells.length=y.cells.length/\isAg x=isAg y:=by
 cases f with
 |agg h1 _ _=>exact⟨h1,rfl⟩
 |emp e=>cases e<;>exact⟨rfl,rfl⟩
 |_=>exact⟨rfl,rfl⟩
theorem Fz.mono(f:Fz Z h x y)(hZ:∀id,Z id->Z' id/\h'.get id=h.get id):Fz Z' h' x y:=by
 induction f with
 |agg h1 _ h3 ih=>exact .agg h1 ih h3
 |emp e=>exact .emp e
 |fsl h1 _ h3 ih=>exact .fsl h1 ih h3
 |view h1 h2 h3 h4 _ h6 ih=>exact .view (hZ _ h1).1 ((hZ _ h1).2.trans h2) h3 h4 ih h6
 |fptr o _ ih=>exact .fptr o ih
 |pview h1 h2 h3 _ ih=>exact .pview (hZ _ h1).1 ((hZ _ h1).2.trans h2) h3 ih
 |int=>exact .int _ _
 |bool=>exact .bool _
 |str=>exact .str _
 |nilsl=>exact .nilsl
 |nilptr=>exact .nilptr
 |nilmap=>exact .nilmap
 |nilfn=>exact .nilfn
 |niliface=>exact .niliface
theorem Fz.clo(f:Fz Z h x y)(hy:isAg y=false):AM.clo y=true:=by
 cases f<;>first|rfl|cases hy
theorem Fz.cell(f:Fz Z h x y){o:Nat}{a b:AV}(ha:x.cells[o]?=some a)(hb:y.cells[o]?=some b):Fz Z h a b/\AM.clo b=true:=by
 cases hy:isAg y with
 | false =>
  have hx:=f.shape.2.trans hy;rw[D8 hx]at ha;rw[D8 hy]at hb;cases o with
  |zero=>cases ha;cases hb;exact⟨f,f.clo hy⟩
  |succ o=>simp at ha
 | true =>
  cases f with
  |agg h1 h2 h3=>exact⟨h2 o a b ha hb,zqf.1 h3 b (zqe hb)⟩
  |_=>cases hy
theorem Fz.okc(f:Fz Z h x y)(hy:AM.clo y=true):okCell x=true:=by
 cases f with
 |agg=>cases hy
 |emp e=>cases e<;>rfl
 |_=>rfl
end
def refK(k id n sz:Nat):AV:=match k with|1=>.ptr id 0 0|_=>.msl id 0 n sz
def xM(ow:Nat->Option (List Nat))(L:List Nat):Prop:=∀c t,ow c≠some (L++t)
def CU(ow:Nat->Option (List Nat))(L:List Nat)(n sz:Nat):Prop:=∀c t,ow c=some (L++t)->t=[]\/∃i o q,t=i::o::q/\i<n/\o<sz
inductive CR(Z:Nat->Prop)(ow:Nat->Option (List Nat))(h:Heap):List Nat->AV->AV->Prop where
 |val {L:List Nat} {x y:AV}:Fz Z h x y->clo y=true->xM ow L->CR Z ow h L x y
 |und {L:List Nat} {x:AV}:CR Z ow h L x .und
 |nil {L:List Nat} {x:AV} {sz:Nat}:(x=.nilsl\/x=.nilsl)->xM ow L->CR Z ow h L x (ownd 0 sz [])
 | own {L:List Nat} {k id sz:Nat} {ces es:List AV}:ow id=some L->id<h.next->h.get id=some (.row ces sz)->ces.length=es.length->CU ow L es.length sz ->
  (∀(i:Nat) x y,ces[i]?=some x->es[i]?=some y->x.cells.length=sz/\y.cells.length=sz/\isAg x=isAg y) ->
  (∀(i:Nat) x y,ces[i]?=some x->es[i]?=some y->∀(o:Nat) a b,x.cells[o]?=some a->y.cells[o]?=some b->CR Z ow h (L++[i,o]) a b)->CR Z ow h L (refK k id es.length sz) (ownd k sz es)
def loP(os:List PO):Nat->Nat->Option (List Nat)
 |0,_=>none
 | n+1,id=>match os[id]? with
  |some (.row _ _ _)=>some [id]
  |some (.mapo _)=>some [id]
  |some (.sub p i o)=>(loP os n p).map (· ++ [i,o])
  |_=>none
inductive VR(Z:Nat->Prop)(ow:Nat->Option (List Nat))(h:Heap)(os:List PO):AV->AV->Prop where
 |fz {x y:AV}:Fz Z h x y->VR Z ow h os x y
 |und {x:AV}:VR Z ow h os x .und
 |any:VR Z ow h os .any .any
 |msl {id c off n sz:Nat}:(∀L,loP os 6 id=some L->ow c=some L)->id<os.length->VR Z ow h os (.msl c off n sz) (.msl id off n sz)
 |mnil {x:AV} {id sz:Nat}:(x=.nilsl\/x=.nilsl)->(∀L,loP os 6 id=some L->∀c,ow c≠some L)->id<os.length->VR Z ow h os x (.msl id 0 0 sz)
 |ptr {id c i off:Nat}:(∀L,loP os 6 id=some L->ow c=some L)->id<os.length->VR Z ow h os (.ptr c i off) (.ptr id i off)
 |map {id c:Nat}:(∀L,loP os 6 id=some L->ow c=some L)->id<os.length->VR Z ow h os (.map c) (.map id)
 |agg {xs ys:List AV}:xs.length=ys.length->(∀(i:Nat) x y,xs[i]?=some x->ys[i]?=some y->VR Z ow h os x y)->VR Z ow h os (.agg xs) (.agg ys)
 |tup {xs ys:List AV}:xs.length=ys.length->(∀(i:Nat) x y,xs[i]?=some x->ys[i]?=some y->VR Z ow h os x y)->VR Z ow h os (.tup xs) (.tup ys)
 |fn {f:Fn} {as1 bs as' bs':List AV}:as1.length=as'.length->(∀(i:Nat) x y,as1[i]?=some x->as'[i]?=some y->VR Z ow h os x y)->bs.length=bs'.length->(∀(i:Nat) x y,bs[i]?=some x->bs'[i]?=some y->VR Z ow h os x y)->VR Z ow h os (.fn f as1 bs) (.fn f as' bs')
 |iface {t:TypeId} {x y:AV}:VR Z ow h os x y->VR Z ow h os (.iface t x) (.iface t y)
def dN(sz:Nat)(ces es:List AV):Prop:=ces.length=es.length/\∀(i:Nat) x y,ces[i]?=some x->es[i]?=some y->x.cells.length=sz/\y.cells.length=sz/\isAg x=isAg y
structure RawR(R:AV->AV->Prop)(ow:Nat->Option (List Nat))(h:Heap)(r:Nat)(es:List AV)(sz:Nat)(c:Nat)(ces:List AV):Prop where
 o:ow c=some [r]
 lt:c<h.next
 get:h.get c=some (.row ces sz)
 sh:dN sz ces es
 vr:∀(i:Nat) x y,ces[i]?=some x->es[i]?=some y->∀(o:Nat) a b,x.cells[o]?=some a->y.cells[o]?=some b->R a b
 okp:∀(i:Nat) y,es[i]?=some y->∀b,b∈y.cells->Hm b=true\/b=.und
 no:∀a t,ow a=some (r::t)->t=[]
structure MapR(Z:Nat->Prop)(ow:Nat->Option (List Nat))(h:Heap)(r:Nat)(es:List (AV×AV))(c:Nat)(ces:List (AV×AV)):Prop where
 o:ow c=some [r]
 lt:c<h.next
 get:h.get c=some (.mapo ces)
 len:ces.length=es.length
 kv:∀(i:Nat) x y,ces[i]?=some x->es[i]?=some y->x.1=y.1/\Fz Z h x.2 y.2
 no:∀a t,ow a=some (r::t)->t=[]
def isRt(os:List PO)(r:Nat):Bool:=match os[r]? with|some (.row _ _ _)=>true|some (.mapo _)=>true|_=>false
structure PT(R:AV->AV->Prop)(Z:Nat->Prop)(ow:Nat->Option (List Nat))(h:Heap)(os:List PO):Prop where
 row:∀(r:Nat) es sz,os[r]?=some (.row 0 es sz)->∃x,CR Z ow h [r] x (ownd 0 sz es)
 raw:∀(r:Nat) k es sz,os[r]?=some (.row k es sz)->k≠0->∃c ces,RawR R ow h r es sz c ces
 map:∀(r:Nat) es,os[r]?=some (.mapo es)->∃c ces,MapR Z ow h r es c ces
 inj:∀a b L,ow a=some L->ow b=some L->a=b
 live:∀a L,ow a=some L->a<h.next/\¬Z a/\∃r t,L=r::t/\isRt os r=true
 zb:∀a,Z a->a<h.next
 sb:∀(j:Nat) p i o,os[j]?=some (.sub p i o)->p<os.length
abbrev I4(Z:Nat->Prop)(ow:Nat->Option (List Nat))(h:Heap)(os:List PO):Prop:=PT (VR Z ow h os) Z ow h os
section
variable {Z Z':Nat->Prop}{ow ow':Nat->Option (List Nat)}{h h':Heap}{os os':List PO}{x y:AV}{L L':List Nat}
theorem CR.reloc(c:CR Z ow h L x y)(hn:h.next<=h'.next)(hZ:∀id,Z id->Z' id/\h'.get id=h.get id)(ho:∀id q,ow' id=some (L'++q)↔ow id=some (L++q))(hg:∀id q,ow id=some (L++q)->h'.get id=h.get id):CR Z' ow' h' L' x y:=by
 induction c generalizing L' with
 |val f e n=>exact .val (f.mono hZ) e fun c t hc=>n c t ((ho c t).1 hc)
 |und=>exact .und
 |nil e n=>exact .nil e fun c t hc=>n c t ((ho c t).1 hc)
 | own h1 h2 h3 h4 h4' h5 _ ih =>
  have ho1:=(ho _ []).2 (by simpa using h1);refine .own (by grind) (zqt h2 hn) (by grind) h4 (fun c t hc=>h4' c t ((ho c t).1 hc)) h5 fun i x y hx hy o a b ha hb=>?_
  refine ih i x y hx hy o a b ha hb (fun id q=>?_) (fun id q hq=>?_)
  . grind
  grind
theorem CR.shape(c:CR Z ow h L x y)(hy:y≠.und):isAg x=false:=by
 cases c with
 | val f e _ =>
  rw[f.shape.2];cases y<;>first|rfl|cases e
 |und=>grind
 |nil e n=>rcases e with rfl|rfl<;>rfl
 |own=>rename_i k _ _ _ _ _ _ _ _ _ _ _;unfold refK;split<;>rfl
def Keep'(ow:Nat->Option (List Nat))(os:List PO)(ow':Nat->Option (List Nat))(os':List PO):Prop:=os.length<=os'.length/\∀id<os.length,∀L',loP os' 6 id=some L'->∃L,loP os 6 id=some L/\∀c,ow c=some L↔ow' c=some L'
theorem VR.keep(v:VR Z ow h os x y)(hZ:∀id,Z id->Z' id/\h'.get id=h.get id)(hk:Keep' ow os ow' os'):VR Z' ow' h' os' x y:=by
 have key:∀{id c},(∀L,loP os 6 id=some L->ow c=some L)->id<os.length->(∀L,loP os' 6 id=some L->ow' c=some L)/\id<os'.length:=fun{id c} h1 h2=>by
  refine⟨fun L hL=>?_,zqt h2 hk.1⟩;obtain⟨L1,h4,h5⟩:=hk.2 id h2 L hL;exact(h5 c).1 (h1 L1 h4)
 induction v with
 |fz f=>exact .fz (f.mono hZ)
 |und=>exact .und
 |any=>exact .any
 |msl h1 h2=>exact .msl (key h1 h2).1 (key h1 h2).2
 | mnil e m n=>exact .mnil e (fun L hL c hc=>by
  obtain⟨L1,h4,h5⟩:=hk.2 _ n L hL;exact m L1 h4 c ((h5 c).2 hc)) (zqt n hk.1)
 |ptr h1 h2=>exact .ptr (key h1 h2).1 (key h1 h2).2
 |map h1 h2=>exact .map (key h1 h2).1 (key h1 h2).2
 |agg h1 _ ih=>exact .agg h1 ih
 |tup h1 _ ih=>exact .tup h1 ih
 |fn h1 _ h3 _ ih1 ih2=>exact .fn h1 ih1 h3 ih2
 |iface _ ih=>exact .iface ih
theorem PT.imp{R R':AV->AV->Prop}(s:PT R Z ow h os)(f:∀x y,R x y->R' x y):PT R' Z ow h os:=
 ⟨s.row,fun r k es sz hr hne=>by
   obtain⟨c,ces,q⟩:=s.raw r k es sz hr hne;exact⟨c,ces,q.o,q.lt,q.get,q.sh,fun i x y hx hy o a b ha hb=>f a b (q.vr i x y hx hy o a b ha hb),q.okp,q.no⟩,s.map,s.inj,s.live,s.zb,s.sb⟩
theorem I4.to(s:PT (VR Z ow h os) Z' ow' h' os')(hZ:∀id,Z id->Z' id/\h'.get id=h.get id)(hk:Keep' ow os ow' os'):I4 Z' ow' h' os':=s.imp fun _ _ v=>v.keep hZ hk
theorem Aj{c:AV}{k sz:Nat}{es:List AV}(e:ownOf c=some (k,es,sz)):c=ownd k sz es:=by
 unfold ownOf at e;split at e
 . cases e;rfl
 . cases e
theorem Vv(k sz:Nat)(es:List AV):ownd k sz es≠.und:=by intro e;cases e
theorem nR{k sz k' sz':Nat}{es es':List AV}(e:ownd k sz es=ownd k' sz' es'):k=k'/\sz=sz'/\es=es':=by
 unfold ownd at e;grind
theorem CR.inv{k sz:Nat}{es:List AV}(c:CR Z ow h L x (ownd k sz es)):
 (k=0/\es=[]/\(x=.nilsl\/x=.nilsl)/\xM ow L)\/∃id ces,x=refK k id es.length sz/\ow id=some L/\id<h.next/\h.get id=some (.row ces sz)/\dN sz ces es/\CU ow L es.length sz/\
   ∀(i:Nat) x y,ces[i]?=some x->es[i]?=some y->∀(o:Nat) a b,x.cells[o]?=some a->y.cells[o]?=some b->CR Z ow h (L++[i,o]) a b:=by
 generalize hy:ownd k sz es=y at c;cases c with
 |val f e _=>subst hy;cases e
 |und=>grind[Vv]
 |nil e n=>obtain⟨rfl,rfl,rfl⟩:=nR hy;grind
 |own h1 h2 h3 h4 h4' h5 h6=>obtain⟨rfl,rfl,rfl⟩:=nR hy;exact .inr ⟨_,_,rfl,h1,h2,h3,⟨h4,h5⟩,h4',h6⟩
theorem PT.get{R:AV->AV->Prop}(s:PT R Z ow h os):∀(n id k:Nat)(es:List AV)(sz:Nat),rowOf os n id=some (k,es,sz) ->
 ∃L,loP os n id=some L/\((rawAt os id=true/\L=[id]/\∃c ces,RawR R ow h id es sz c ces)\/(rawAt os id=false/\∃x,CR Z ow h L x (ownd k sz es)))
 |0,_,_,_,_,e=>by cases e
 | n + 1,id,k,es,sz,e=>by
  unfold rowOf at e;unfold loP rawAt;cases he:os[id]? with
  |none=>grind
  | some q =>
   rw[he]at e;cases q with
   | row k' es' sz' =>
    cases e;refine⟨[id],rfl,?_⟩;cases k with
    |zero=>exact .inr ⟨rfl,s.row id es sz he⟩
    |succ k=>exact .inl ⟨rfl,rfl,s.raw id _ es sz he (by omega)⟩
   |mapo _=>cases e
   |dead=>cases e
   | sub p i o =>
    simp only at e;cases hp:rowOf os n p with
    |none=>grind
    | some t =>
     obtain⟨kp,pes,psz⟩:=t;rw[hp]at e;simp only at e;cases hi:pes[i]? with
     |none=>grind
     | some v =>
      rw[hi]at e;simp only at e;cases ho:v.cells[o]? with
      |none=>grind
      | some c =>
       rw[ho]at e;have ec:=Aj e;subst ec;obtain⟨Lp,hl,hc⟩:=PT.get s n p kp pes psz hp;refine⟨Lp++[i,o],by grind,.inr ⟨rfl,?_⟩⟩;rcases hc with⟨_,_,c,ces,hr⟩|⟨_,x,hr⟩
       . rcases hr.okp i v hi _ (zqe ho)with h|h
         . cases h
         grind[Vv]
       . rcases hr.inv with⟨_,e2,_⟩|⟨cid,ces,_,_,_,_,hsh,_,hcr⟩
         . grind
         . have hlt:i<ces.length:=by rw[hsh.1];grind
           have hx:=zqd hlt;have hs:=hsh.2 i _ v hx hi;grind
end
def Und(L M:List Nat):Prop:=∃t,M=L++t
theorem Und.refl(L:List Nat):Und L L:=⟨[],by simp⟩
theorem Vw{L t:List Nat}{i o i' o':Nat}{q:List Nat}(h:Und ((L++[i,o])++t) (L++[i',o']++q)):i=i'/\o=o':=by
 obtain⟨u,hu⟩:=h;simp_all
theorem FU{L t:List Nat}{i o:Nat}(h:Und ((L++[i,o])++t) L):False:=by
 obtain⟨u,hu⟩:=h;simp_all
structure Dl(Z:Nat->Prop)(ow:Nat->Option (List Nat))(h:Heap)(Z':Nat->Prop)(ow':Nat->Option (List Nat))(h':Heap)(L:List Nat):Prop where
 hn:h.next<=h'.next
 hZ:∀id,Z id->Z' id/\h'.get id=h.get id
 ho:∀id M,¬Und L M->(ow' id=some M↔ow id=some M)
 hg:∀id M,ow id=some M->¬Und L M->h'.get id=h.get id
section
variable {Z Z':Nat->Prop}{ow ow':Nat->Option (List Nat)}{h h':Heap}{os os':List PO}{x y:AV}{L L0 M:List Nat}
theorem Dl.tree(d:Dl Z ow h Z' ow' h' L)(hM:∀q,¬Und L (M++q))(c:CR Z ow h M x y):CR Z' ow' h' M x y:=
 c.reloc d.hn d.hZ (fun id q=>d.ho id _ (hM q)) (fun id q e=>d.hg id _ e (hM q))
theorem Ql{v c:AV}{o:Nat}(ho:o<v.cells.length)(hc:isAg c=false):(putCl v o c).cells=v.cells.set o c/\isAg (putCl v o c)=isAg v:=by
 cases hv:isAg v with
 | false =>
  have e1:putCl v o c=c:=by cases v<;>first|rfl|cases hv
  have e2:=D8 hv;rw[e2]at ho
  have:o=0:=by grind
  subst this;rw[e1,e2,D8 hc,hc];grind
 |true=>cases v<;>first|exact⟨rfl,rfl⟩|cases hv
theorem CR.up{k sz i o:Nat}{es:List AV}{v c c':AV}{t:List Nat}(hr:CR Z ow h M x (ownd k sz es))(d:Dl Z ow h Z' ow' h' (M++[i,o]++t))(hin:CU ow' M es.length sz)(hi:es[i]?=some v)(ho:v.cells[o]?=some c)(hc:isAg c'=false)
 (hx:∀a,CR Z ow h (M++[i,o]) a c->CR Z' ow' h' (M++[i,o]) a c'):CR Z' ow' h' M x (ownd k sz (es.set i (putCl v o c'))):=by
 rcases hr.inv with⟨_,e2,_⟩|⟨id,ces,rfl,h1,h2,h3,hs,_,h5⟩
 . grind
 . have hlo:o<v.cells.length:=(zqb.1 ho).1
   have hpc:=Ql hlo hc;have hnu:¬Und (M++[i,o]++t) M:=FU;rw[show es.length=(es.set i (putCl v o c')).length by simp];refine CR.own ((d.ho _ _ hnu).2 h1) (zqt h2 d.hn) ((d.hg _ _ h1 hnu).trans h3) (by simpa using hs.1) (by grind) (fun j x y hx hy=>?_) (fun j x y hx' hy o' a b ha hb=>?_)
   . rw [zqc]at hy
     split at hy
     . rename_i e
       subst e;split at hy
       . cases hy
         have:=hs.2 i x v hx hi
         grind
       . cases hy
     . exact hs.2 j x y hx hy
   . rw [zqc]at hy
     split at hy
     . rename_i e
       subst e;split at hy
       . cases hy
         rw[hpc.1,zqc]at hb;by_cases e:o=o'
         . grind
         . rw[if_neg e]at hb
           exact d.tree (fun q hu=>e (Vw hu).2) (h5 i x v hx' hi o' a b ha hb)
       . cases hy
     . rename_i e
       exact d.tree (fun q hu=>e (Vw hu).1) (h5 j x y hx' hy o' a b ha hb)
theorem setRow_eq:∀(n id:Nat)(es':List AV)(os':List PO),setRow os n id es'=some os'->∃r k es sz es'',os[r]?=some (.row k es sz)/\os'=os.set r (.row k es'' sz)/\r=rootOf os n id
 |0,_,_,_,e=>by cases e
 | n + 1,id,es',os',e=>by
  unfold setRow at e;unfold rootOf;cases he:os[id]? with
  |none=>grind
  | some q =>
   rw[he]at e;cases q with
   |row k es sz=>grind
   |mapo _=>cases e
   |dead=>cases e
   | sub p i o =>
    simp only at e;cases hp:rowOf os n p with
    |none=>grind
    | some t =>
     obtain⟨kp,pes,psz⟩:=t;rw[hp]at e;simp only at e;cases hi:pes[i]? with
     |none=>grind
     | some v =>
      rw[hi]at e;simp only at e;cases ho:v.cells[o]? with
      |none=>grind
      | some c =>
       rw[ho]at e;simp only at e;cases hc:ownOf c with
       |none=>grind
       | some t =>
        obtain⟨k,es,sz⟩:=t;rw[hc]at e;exact setRow_eq n p _ os' e
theorem Dt{r k k' sz sz':Nat}{es es':List AV}(hr:os[r]?=some (.row k es sz)):∀(n id:Nat),loP (os.set r (.row k' es' sz')) n id=loP os n id
 |0,_=>rfl
 | n + 1,id=>by
  unfold loP;rw[zqc];have hlt:r<os.length:=(zqb.1 hr).1;by_cases e:r=id
  . grind
  . rw [if_neg e]
    cases os[id]? with
    |none=>rfl
    | some q =>
     cases q with
     |sub p i o=>simp only[Dt hr n p]
     |_=>rfl
theorem isRt_set{r k k' sz sz':Nat}{es es':List AV}(hr:os[r]?=some (.row k es sz))(id:Nat):isRt (os.set r (.row k' es' sz')) id=isRt os id:=by
 unfold isRt;grind
theorem U4:∀(n id:Nat)(L:List Nat),loP os n id=some L->∃t,L=rootOf os n id::t/\isRt os (rootOf os n id)=true/\(t=[]->rootOf os n id=id)
 |0,_,_,e=>by cases e
 | n + 1,id,L,e=>by
  unfold loP at e;unfold rootOf;cases he:os[id]? with
  |none=>grind
  | some q =>
   rw[he]at e;cases q with
   |row k es sz=>cases e;exact⟨[],rfl,by grind[isRt],fun _=>rfl⟩
   |mapo _=>cases e;exact⟨[],rfl,by grind[isRt],fun _=>rfl⟩
   |dead=>cases e
   | sub p i o =>
    simp only at e;cases hp:loP os n p with
    |none=>grind
    | some Lp =>
     rw[hp]at e;cases e;obtain⟨t,h1,h2,_⟩:=U4 n p Lp hp;simp_all
theorem PT.set{R:AV->AV->Prop}(s:PT R Z ow h os)(d:Dl Z ow h Z' ow' h' L)
 (hinj:∀a b L,ow' a=some L->ow' b=some L->a=b)(hlive:∀a L,ow' a=some L->a<h'.next/\¬Z' a/\∃r t,L=r::t/\isRt os r=true)(hzb:∀a,Z' a->a<h'.next)
 (hin:∀M n sz t,L=M++t->t≠[]->CU ow M n sz->CU ow' M n sz):
 ∀ (n id k:Nat) (es:List AV) (sz:Nat) (es':List AV) (os':List PO) (L0 t:List Nat),L=L0++t->rowOf os n id=some (k,es,sz)->loP os n id=some L0->rawAt os id=false->setRow os n id es'=some os' ->
   (∀x,CR Z ow h L0 x (ownd k sz es)->CR Z' ow' h' L0 x (ownd k sz es'))->PT R Z' ow' h' os'
 |0,_,_,_,_,_,_,_,_,_,e,_,_,_,_=>by cases e
 | n + 1,id,k,es,sz,es',os',L0,t,hL,e,hlo,hraw,hset,hcr=>by
  unfold rowOf at e;unfold setRow at hset;unfold loP at hlo;cases he:os[id]? with
  |none=>grind
  | some q =>
   rw[he]at e hset hlo;cases q with
   |mapo _=>cases e
   |dead=>cases e
   | row k0 es0 sz0 =>
    cases e;cases hset;cases hlo;have hk0:k=0:=by
     grind[rawAt]
    subst hk0;subst hL;have hoth:∀r q,r≠id->¬Und ([id]++t) (r::q):=fun r q hne ⟨u,hu⟩=>by
     grind
    have hlt:id<os.length:=(zqb.1 he).1;refine⟨fun r es1 sz1 hr=>?_,fun r k1 es1 sz1 hr hne=>?_,fun r es1 hr=>?_,hinj,fun a L ha=>?_,hzb,fun j p i o hj=>?_⟩
    . rw [zqc]at hr
      by_cases e:id=r
      . subst e
        rw[if_pos rfl,if_pos hlt]at hr;cases hr;obtain⟨x,hx⟩:=s.row id es sz he;grind
      . rw[if_neg e]at hr
        obtain⟨x,hx⟩:=s.row r es1 sz1 hr;exact⟨x,d.tree (by grind) hx⟩
    . rw [zqc]at hr
      by_cases e:id=r
      . grind
      . rw[if_neg e]at hr
        obtain⟨c,ces,hr⟩:=s.raw r k1 es1 sz1 hr hne;have hnu:=hoth r [] (fun e'=>e e'.symm);exact⟨c,ces,(d.ho _ _ hnu).2 hr.o,zqt hr.lt d.hn,(d.hg _ _ hr.o hnu).trans hr.get,hr.sh,hr.vr,hr.okp,fun a t ha=>hr.no a t ((d.ho _ _ (hoth r t (fun e'=>e e'.symm))).1 ha)⟩
    . rw [zqc]at hr
      by_cases e:id=r
      . grind
      . rw[if_neg e]at hr
        obtain⟨c,ces,hr⟩:=s.map r es1 hr;have hnu:=hoth r [] (fun e'=>e e'.symm);exact⟨c,ces,(d.ho _ _ hnu).2 hr.o,zqt hr.lt d.hn,(d.hg _ _ hr.o hnu).trans hr.get,hr.len,fun i x y hx hy=>⟨(hr.kv i x y hx hy).1,(hr.kv i x y hx hy).2.mono d.hZ⟩,fun a t ha=>hr.no a t ((d.ho _ _ (hoth r t (fun e'=>e e'.symm))).1 ha)⟩
    . grind[isRt_set]
    . rw[zqc]at hj
      by_cases e:id=j
      . grind
      . rw[if_neg e]at hj;rw[zqg];exact s.sb j p i o hj
   | sub p i o =>
    simp only at e hset hlo;cases hp:rowOf os n p with
    |none=>grind
    | some t1 =>
     obtain⟨kp,pes,psz⟩:=t1;rw[hp]at e hset;simp only at e hset;cases hi:pes[i]? with
     |none=>grind
     | some v =>
      rw[hi]at e hset;simp only at e hset;cases ho:v.cells[o]? with
      |none=>grind
      | some c =>
       rw [ho]at e hset;simp only at e hset;have ec:=Aj e;subst ec;rw[e]at hset;obtain⟨Lp,hl,hc⟩:=s.get n p kp pes psz hp;rw[hl]at hlo;cases hlo;have hrawp:rawAt os p=false:=by
        rcases hc with⟨_,_,c,ces,hr⟩|⟨h,_⟩
        . rcases hr.okp i v hi _ (zqe ho)with h|h
          . cases h
          grind[Vv]
        . exact h
       have d':=d;rw[hL]at d';refine PT.set s d hinj hlive hzb hin n p kp pes psz _ os' Lp ([i,o]++t) (by grind) hp hl hrawp hset fun x hx=>?_
       refine hx.up d' ?_ hi ho rfl hcr;rcases hx.inv with⟨_,e2,_⟩|⟨_,_,_,_,_,_,_,h4,_⟩
       . grind
       grind
end
structure Stp(b:Nat)(Z:Nat->Prop)(ow:Nat->Option (List Nat))(h:Heap)(K:PK)(Z':Nat->Prop)(ow':Nat->Option (List Nat))(h':Heap)(K':PK):Prop where
 nx:h.next<=h'.next
 zz:∀id,Z id->Z' id/\h'.get id=h.get id
 zn:∀id,Z' id->Z id\/h.next<=id
 un:∀id,id<h.next->ow id=none->h'.get id=h.get id
 uo:∀id L,ow' id=some L->id<h.next->ow id≠none
 th:∃l,h'.tch=l++h.tch/\∀id∈l,h.next<=id\/∃r t,ow id=some (r::t)/\(r<b->r∈K'.tch)
 mv:∀id r t,ow id=some (r::t)->r<K.ext->(∃t',ow' id=some (r::t'))\/r∈K'.tch
 tm:∀r∈K.tch,r<K.ext->r∈K'.tch
 ex:K'.ext=K.ext
 xk:∀j,j<K.ext->∀c,isRt K'.os j=true->(ow c=some [j]↔ow' c=some [j])
 rd:∀j,j<K.ext->isRt K'.os j=true->isRt K.os j=true
section
variable {b:Nat}{Z Z' Z2:Nat->Prop}{ow ow' ow2:Nat->Option (List Nat)}{h h' h2:Heap}{K K' K2:PK}{os os' os2:List PO}{x y:AV}{L L0 M:List Nat}
theorem Stp.refl(b:Nat)(Z:Nat->Prop)(ow:Nat->Option (List Nat))(h:Heap)(K:PK):Stp b Z ow h K Z ow h K:=
 ⟨zqs _,fun id hz=>⟨hz,rfl⟩,fun id hz=>.inl hz,fun _ _ _=>rfl,(by grind),(by simp_all),fun id r t ho _=>.inl ⟨t,ho⟩,fun r hr _=>hr,rfl,fun j _ c _=>.rfl,fun j _ hj=>hj⟩
theorem Stp.trans(s:I4 Z ow h K.os)(a:Stp K.ext Z ow h K Z' ow' h' K')(c:Stp K'.ext Z' ow' h' K' Z2 ow2 h2 K2):Stp K.ext Z ow h K Z2 ow2 h2 K2:=by
 obtain⟨l1,e1,f1⟩:=a.th;obtain⟨l2,e2,f2⟩:=c.th;have hex:=a.ex;refine⟨zqx a.nx c.nx,fun id hz=>⟨(c.zz id (a.zz id hz).1).1,(c.zz id (a.zz id hz).1).2.trans (a.zz id hz).2⟩,fun id hz=>?_,fun id hl ho=>?_,fun id L ho hl=>?_,⟨l2++l1,by grind,fun id hi=>?_⟩,fun id r t ho hr=>?_,fun r hr hl=>c.tm r (a.tm r hr hl) (by grind),c.ex.trans a.ex,fun j hj c' hr=>?_,fun j hj hr=>a.rd j hj (c.rd j (by grind) hr)⟩
 . rcases c.zn id hz with h|h
   . exact a.zn id h
   . exact .inr (zqx a.nx h)
 . have h1:=a.un id hl ho
   have h3:ow' id=none:=by
    cases e:ow' id with
    |none=>rfl
    |some L=>exact absurd ho (a.uo id L e hl)
   exact(c.un id (zqt hl a.nx) h3).trans h1
 . cases e:ow' id with
   |none=>exact absurd e (c.uo id L ho (zqt hl a.nx))
   |some L'=>exact a.uo id L' e hl
 . rcases zqo.1 hi with hi|hi
   . rcases f2 id hi with h|⟨r,t,h1,h2⟩
     . exact .inl (zqx a.nx h)
     . by_cases hl:id<h.next
       . cases e:ow id with
         |none=>exact absurd e (a.uo id _ h1 hl)
         | some L =>
          obtain⟨_,_,r0,t0,rfl,_⟩:=s.live id L e;refine .inr ⟨r0,t0,rfl,fun hr=>?_⟩;rcases a.mv id r0 t0 e hr with⟨t',h3⟩|h3
          . grind
          . exact c.tm r0 h3 (by grind)
       grind
   . rcases f1 id hi with h|⟨r,t,h1,h2⟩
     . exact .inl h
     . exact .inr ⟨r,t,h1,fun hr=>c.tm r (h2 hr) (by grind)⟩
 . rcases a.mv id r t ho hr with⟨t',h3⟩|h3
   . rcases c.mv id r t' h3 (by grind)with h|h
     . exact .inl h
     grind
   . exact .inr (c.tm r h3 (by grind))
 . have hj':j<K'.ext:=by grind
   exact(a.xk j hj c' (c.rd j hj' hr)).trans (c.xk j hj' c' hr)
theorem Keep'.refl(ow:Nat->Option (List Nat))(os:List PO):Keep' ow os ow os:=⟨zqs _,(by grind)⟩
theorem Keep'.trans(a:Keep' ow os ow' os')(c:Keep' ow' os' ow2 os2):Keep' ow os ow2 os2:=⟨zqx a.1 c.1,fun id hi L2 hl=>by
 obtain⟨L1,h1,h2⟩:=c.2 id (zqt hi a.1) L2 hl;obtain⟨L0,h3,h4⟩:=a.2 id hi L1 h1;grind⟩
def Wk(os os':List PO):Prop:=os'.length=os.length/\∀j:Nat,os'[j]?=os[j]?\/∃p i o,os[j]?=some (.sub p i o)/\os'[j]?=some .dead
theorem Wk.row(w:Wk os os'){r k sz:Nat}{es:List AV}:os'[r]?=some (.row k es sz)↔os[r]?=some (.row k es sz):=by
 rcases w.2 r with e|⟨p,i,o,e1,e2⟩
 . rw[e]
 grind
theorem Wk.map(w:Wk os os'){r:Nat}{es:List (AV×AV)}:os'[r]?=some (.mapo es)↔os[r]?=some (.mapo es):=by
 rcases w.2 r with e|⟨p,i,o,e1,e2⟩
 . rw[e]
 grind
theorem Wk.rt(w:Wk os os')(r:Nat):isRt os' r=isRt os r:=by
 unfold isRt;rcases w.2 r with e|⟨p,i,o,e1,e2⟩
 . rw[e]
 grind
theorem Wk.raw(w:Wk os os')(r:Nat):rawAt os' r=rawAt os r:=by
 unfold rawAt;rcases w.2 r with e|⟨p,i,o,e1,e2⟩
 . rw[e]
 grind
theorem Wk.lo(w:Wk os os'):∀(n id:Nat)(L:List Nat),loP os' n id=some L->loP os n id=some L
 |0,_,_,e=>by cases e
 | n + 1,id,L,e=>by
  unfold loP at e|-;rcases w.2 id with e1|⟨p,i,o,e1,e2⟩
  . rw [e1]at e
    cases he:os[id]? with
    |none=>rw[he]at e;cases e
    | some q =>
     rw[he]at e;cases q with
     | sub p i o =>
      simp only at e|-;cases hp:loP os' n p with
      |none=>rw[hp]at e;cases e
      |some Lp=>rw[hp]at e;rw[Wk.lo w n p Lp hp];exact e
     |dead=>cases e
     |row=>exact e
     |mapo=>exact e
  . rw[e2]at e;cases e
theorem Wk.keep(w:Wk os os'):Keep' ow os ow os':=⟨Nat.le_of_eq w.1.symm,fun id _ L' hl=>⟨L',w.lo 6 id L' hl,fun _=>.rfl⟩⟩
theorem PT.wk{R:AV->AV->Prop}(s:PT R Z ow h os)(w:Wk os os'):PT R Z ow h os':=by
 refine⟨fun r es sz hr=>s.row r es sz (w.row.1 hr),fun r k es sz hr hne=>?_,fun r es hr=>s.map r es (w.map.1 hr),s.inj,fun a L ha=>?_,s.zb,fun j p i o hj=>?_⟩
 . obtain⟨c,ces,hr⟩:=s.raw r k es sz (w.row.1 hr) hne
   grind
 . obtain⟨h1,h2,r,t,h3,h4⟩:=s.live a L ha
   exact⟨h1,h2,r,t,h3,by rw[w.rt];exact h4⟩
 . rcases w.2 j with e|⟨p',i',o',e1,e2⟩
   . rw[e]at hj;rw[w.1];exact s.sb j p i o hj
   grind
theorem Kc(os:List PO)(r:Nat)(keep:List Nat):∀(l:List PO)(j i:Nat),(X9 os r keep j l)[i]?=(l[i]?).map fun e=>match e with | .sub p a o=>if rootOf os 6 (j+i)=r/\¬(j+i)∈keep then .dead else .sub p a o|e=>e
 |[],j,i=>by simp[X9]
 |e::l,j,0=>rfl
 | e::l,j,i+1=>by
  show(X9 os r keep (j+1) l)[i]?=(l[i]?).map _
  rw[Kc os r keep l (j+1) i,show j+1+i=j+(i+1) by omega]
theorem Vy(os:List PO)(r:Nat)(keep:List Nat):∀(l:List PO)(j:Nat),(X9 os r keep j l).length=l.length
 |[],_=>rfl
 |e::l,j=>by show(X9 os r keep (j+1) l).length+1=l.length+1;rw[Vy]
theorem Mi(os:List PO)(r:Nat)(keep:List Nat):Wk os (killP os r keep):=by
 refine⟨Vy _ _ _ _ _,fun j=>?_⟩;unfold killP;rw[Kc,zqy];grind
theorem killP_sub{r j p i o:Nat}{keep:List Nat}(h:(killP os r keep)[j]?=some (.sub p i o)):rootOf os 6 j≠r\/j∈keep:=by
 unfold killP at h;rw[Kc,zqy]at h;grind
theorem loP_app{ps:List PO}(hsb:∀(j:Nat) p i o,os[j]?=some (.sub p i o)->p<os.length):∀(n id:Nat),id<os.length->loP (os++ps) n id=loP os n id
 |0,_,_=>rfl
 | n+1,id,hi=>by
  unfold loP;rw[List.getElem?_append_left hi];cases he:os[id]? with
  |none=>rfl
  | some q =>
   cases q with
   |sub p i o=>simp only[loP_app hsb n p (hsb id p i o he)]
   |_=>rfl
theorem Mj{ps:List PO}(hsb:∀(j:Nat) p i o,os[j]?=some (.sub p i o)->p<os.length)(ho:∀id<os.length,∀L,loP os 6 id=some L->∀c,ow c=some L↔ow' c=some L):Keep' ow os ow' (os++ps):=
 ⟨by simp,(by grind[Go.AM.loP_app])⟩
theorem Vz{ps:List PO}{r:Nat}(hr:isRt os r=true):isRt (os++ps) r=true:=by
 grind[isRt]
theorem X2{r:Nat}(hr:isRt os r=true):r<os.length:=by
 grind[isRt]
theorem PT.subs{R:AV->AV->Prop}(s:PT R Z ow h os){ps:List PO}(hp:∀e∈ps,∃p i o,e=.sub p i o/\p<os.length):PT R Z ow h (os++ps)/\Keep' ow os ow (os++ps):=by
 have keep:Keep' ow os ow (os++ps):=Mj s.sb fun _ _ _ _ _=>.rfl
 have key:∀{r:Nat}{e:PO},(os++ps)[r]?=some e->os[r]?=some e\/∃p i o,e=.sub p i o/\p<os.length:=fun{r e} hr=>by
  rw[zqm]at hr;split at hr
  . grind
  . exact .inr (hp e (zqe hr))
 refine⟨⟨fun r es sz hr=>?_,fun r k es sz hr hne=>?_,fun r es hr=>?_,s.inj,fun a L ha=>?_,s.zb,fun j p i o hj=>?_⟩,keep⟩
 . rcases key hr with hr|⟨_,_,_,e,_⟩
   . exact s.row r es sz hr
   . cases e
 . rcases key hr with hr|⟨_,_,_,e,_⟩
   . obtain⟨c,ces,hr⟩:=s.raw r k es sz hr hne
     grind
   . cases e
 . rcases key hr with hr|⟨_,_,_,e,_⟩
   . exact s.map r es hr
   . cases e
 . obtain⟨h1,h2,r,t,h3,h4⟩:=s.live a L ha
   grind[Vz]
 . rw[zqq]
   rcases key hj with hj|⟨_,_,_,e,h⟩
   . have:=s.sb j p i o hj;omega
   grind
end
section
variable {E:Env}{Z Z':Nat->Prop}{ow ow':Nat->Option (List Nat)}{h h':Heap}{K K':PK}{os os':List PO}{x y:AV}{L M:List Nat}
def VL(Z:Nat->Prop)(ow:Nat->Option (List Nat))(h:Heap)(os:List PO)(xs ys:List AV):Prop:=xs.length=ys.length/\∀(i:Nat) x y,xs[i]?=some x->ys[i]?=some y->VR Z ow h os x y
theorem VL.nil:VL Z ow h os [] []:=⟨rfl,fun i x y hx=>by simp at hx⟩
theorem VL.cons{xs ys:List AV}(a:VR Z ow h os x y)(l:VL Z ow h os xs ys):VL Z ow h os (x::xs) (y::ys):=⟨by simp[l.1],fun i u v hu hv=>by
 cases i with
 |zero=>grind
 |succ i=>exact l.2 i u v hu hv⟩
theorem VL.inv{xs ys:List AV}{u v:AV}(l:VL Z ow h os (u::xs) (v::ys)):VR Z ow h os u v/\VL Z ow h os xs ys:=⟨l.2 0 u v rfl rfl,by have:=l.1;grind,fun i x y hx hy=>l.2 (i+1) x y hx hy⟩
theorem VL.app{xs ys us vs:List AV}(a:VL Z ow h os xs ys)(b:VL Z ow h os us vs):VL Z ow h os (xs++us) (ys++vs):=⟨by simp[a.1,b.1],fun i u v hu hv=>by
 rw[zqm]at hu hv;rw[a.1]at hu;split at hu
 . rename_i e;rw[if_pos e]at hv;exact a.2 i u v hu hv
 . rename_i e;rw[if_neg e]at hv;exact b.2 _ u v hu hv⟩
theorem VL.keep{xs ys:List AV}(a:VL Z ow h os xs ys)(hZ:∀id,Z id->Z' id/\h'.get id=h.get id)(hk:Keep' ow os ow' os'):VL Z' ow' h' os' xs ys:=⟨a.1,fun i x y hx hy=>(a.2 i x y hx hy).keep hZ hk⟩
theorem VR.agL{xs ys:List AV}(l:VL Z ow h os xs ys):VR Z ow h os (.agg xs) (.agg ys):=.agg l.1 l.2
theorem VR.agI{ys:List AV}(v:VR Z ow h os x (.agg ys)):∃xs,x=.agg xs/\VL Z ow h os xs ys:=by
 cases v with
 |fz f=>cases f with|agg h1 h2 h3=>exact⟨_,rfl,h1,fun i x y hx hy=>.fz (h2 i x y hx hy)⟩
 |agg h1 h2=>exact⟨_,rfl,h1,h2⟩
theorem VR.fzc(v:VR Z ow h os x y)(hc:clo y=true):Fz Z h x y:=by
 cases v with
 |fz f=>exact f
 |_=>cases hc
theorem VR.isI{k:IntKind}{n:Int}(v:VR Z ow h os x (.int k n)):x=.int k n:=by cases v with|fz f=>cases f;rfl
theorem VR.isB{b:Bool}(v:VR Z ow h os x (.bool b)):x=.bool b:=by cases v with|fz f=>cases f;rfl
theorem VR.isS{s:List UInt8}(v:VR Z ow h os x (.str s)):x=.str s:=by cases v with|fz f=>cases f;rfl
theorem VR.isN(v:VR Z ow h os x .nilsl):x=.nilsl:=by cases v with|fz f=>cases f;rfl
theorem VR.i(k:IntKind)(n:Int):VR Z ow h os (.int k n) (.int k n):=.fz (.int k n)
theorem VR.b(b:Bool):VR Z ow h os (.bool b) (.bool b):=.fz (.bool b)
theorem VR.shape(v:VR Z ow h os x y)(hy:y≠.und):x.cells.length=y.cells.length/\isAg x=isAg y:=by
 cases v with
 |fz f=>exact f.shape
 |und=>grind
 |agg h1 h2=>exact⟨h1,rfl⟩
 |mnil e _ _=>rcases e with rfl|rfl<;>exact⟨rfl,rfl⟩
 |_=>exact⟨rfl,rfl⟩
theorem VR.cells(v:VR Z ow h os x y)(hy:y≠.und):VL Z ow h os x.cells y.cells:=by
 cases e:isAg y with
 | true =>
  cases y with
  |agg ys=>obtain⟨xs,rfl,h⟩:=v.agI;exact h
  |_=>cases e
 |false=>rw[D8 e,D8 ((v.shape hy).2.trans e)];exact .cons v .nil
theorem Zh(v:Value):VR Z ow h os (Eo v) (Eo v):=by
 cases v with
 |int k n=>exact .i k n
 |bool b=>exact .b b
 |string s=>exact .fz (.str _)
 |pointer a=>cases a<;>first|exact .fz .nilptr|exact .any
 | slice a n c =>
  cases a with
  |some=>exact .any
  |none=>cases n<;>first|exact .any|(cases c<;>first|exact .any|exact .fz .nilsl)
 |map r=>cases r<;>first|exact .fz .nilmap|exact .any
 |nilFunc=>exact .fz .nilfn
 |nilIface=>exact .fz .niliface
 |agg=>exact .und
 |tuple=>exact .und
 |_=>exact .any
theorem wE(v:Value):VR Z ow h os (ofValue v) (ofValue v):=by
 have hs:=Zh (Z:=Z) (ow:=ow) (h:=h) (os:=os) v;cases v with
 | agg cs =>
  refine .agg rfl fun i x y hx hy=>?_
  grind[Zh]
 |_=>exact hs
structure FrR(Z:Nat->Prop)(ow:Nat->Option (List Nat))(h:Heap)(os:List PO)(nt:Nat)(frc:Tr)(fr:PF):Prop where
 v:∀i,VR Z ow h os (frc.get i) (lookP fr i)
 has:∀i,i<nt->frc.has i=true
theorem FrR.keep{nt:Nat}{frc:Tr}{fr:PF}(a:FrR Z ow h os nt frc fr)(hZ:∀id,Z id->Z' id/\h'.get id=h.get id)(hk:Keep' ow os ow' os'):FrR Z' ow' h' os' nt frc fr:=⟨fun i=>(a.v i).keep hZ hk,a.has⟩
theorem FrR.set{nt t:Nat}{frc:Tr}{fr:PF}(a:FrR Z ow h os nt frc fr)(ht:t<nt)(v:VR Z ow h os x y):FrR Z ow h os nt (frc.set t x) ((t,y)::fr):=by
 refine⟨fun i=>?_,fun i hi=>by rw[Tr.has_set];exact a.has i hi⟩;show VR Z ow h os _ (if t=i then y else lookP fr i)
 split
 . rename_i e;subst e;rw[Tr.get_set_eq,a.has t ht,if_pos rfl];exact v
 . rename_i e;rw[Tr.get_set_ne _ _ _ _ e];exact a.v i
def xN(E:Env):Prop:=∀g v,E.gl g=some v->∀Z h,Fz Z h v v
theorem Bt(hg:xN E){nt:Nat}{frc:Tr}{fr:PF}(a:FrR Z ow h os nt frc fr)(o:Operand):VR Z ow h os (opv E o frc) (opvP E o fr):=by
 cases o with
 |tmp t=>exact a.v t
 |const v=>exact wE v
 | global g =>
  show VR Z ow h os (match E.gl g with|some v=>.fptr v 0|none=>.any) (match E.gl g with|some v=>.fptr v 0|none=>.any)
  cases e:E.gl g with
  |none=>exact .any
  |some v=>exact .fz (.fptr 0 (hg g v e Z h))
 |func f=>exact .fn rfl (fun i x y hx=>by simp at hx) rfl (fun i x y hx=>by simp at hx)
theorem Ho(hg:xN E){nt:Nat}{frc:Tr}{fr:PF}(a:FrR Z ow h os nt frc fr):∀l:List Operand,VL Z ow h os (opvs E l frc) (opvL E l fr)
 |[]=>.nil
 |o::l=>.cons (Bt hg a o) (Ho hg a l)
theorem J9{t:TI}(hd:o9 t.desc=false)(cs:List AV)(o:Nat):partOf t cs o=cs[o]?:=by
 grind[partOf,S3]
theorem Z6{t:TI}(hd:o9 t.desc=true)(cs:List AV)(o:Nat):partOf t cs o=if o+t.size<=cs.length then some (.agg ((cs.drop o).take t.size))else none:=by
 simp_all[partOf,A9,K6,K5]
theorem Mk{α:Type}{h:Heap}{id:Nat}{es:List AV}{sz:Nat}{d:α}{f:List AV->Nat->α}(hg:h.get id=some (.row es sz)):h.onRow id d f=f es sz:=by
 grind[Heap.onRow]
theorem cY{id i o sz:Nat}{es:List AV}{x:AV}(hg:h.get id=some (.row es sz))(hx:es[i]?=some x)(t:TI):Ev t (.ptr id i o) h=partOf t x.cells o:=by
 show h.onRow id none (fun es _=>A7 (Ep es i) fun v=>partOf t v.cells o)=_
 rw[Mk hg,S3,hx];rfl
theorem m8{α:Type}{xs:List α}{off n i:Nat}:((xs.drop off).take n)[i]?=if i<n then xs[off+i]? else none:=by
 grind
theorem Ml{R:Nat->AV->AV->Prop}{t:TI}{xs ys:List AV}{off:Nat}{w:AV}(hl:xs.length=ys.length)(hr:∀(i:Nat) x y,xs[i]?=some x->ys[i]?=some y->R i x y)(hw:partOf t ys off=some w):
 ∃w0,partOf t xs off=some w0/\((∃us vs,w0=.agg us/\w=.agg vs/\us.length=vs.length/\o9 t.desc=true/\vs.length=t.size/\off+t.size<=ys.length/\∀(i:Nat) x y,us[i]?=some x->vs[i]?=some y->R (off+i) x y)\/(o9 t.desc=false/\ys[off]?=some w/\xs[off]?=some w0/\R off w0 w)):=by
 cases hd:o9 t.desc with
 | true =>
  rw[Z6 hd]at hw|-;grind
 | false =>
  rw[J9 hd]at hw|-;grind
theorem Fz.part{t:TI}{off:Nat}{w:AV}(f:Fz Z h x y)(hw:partOf t y.cells off=some w):∃w0,partOf t x.cells off=some w0/\Fz Z h w0 w:=by
 obtain⟨w0,h1,h2⟩:=Ml (R:=fun _ a b=>Fz Z h a b/\AM.clo b=true) f.shape.1 (fun i a b ha hb=>f.cell ha hb) hw;refine⟨w0,h1,?_⟩;rcases h2 with⟨us,vs,rfl,rfl,h3,_,_,_,h4⟩|⟨_,_,_,h5,_⟩
 . refine .agg h3 (fun i x y hx hy=>(h4 i x y hx hy).1) (zqf.2 fun b hb=>?_)
   grind[zqi]
 . exact h5
theorem lK(w:AV):O7 w w.cells=w:=by
 cases w<;>rfl
theorem Wa:∀(n id:Nat)(L:List Nat),loP os n id=some L->loP os (n+1) id=some L
 |0,_,_,e=>by cases e
 | n + 1,id,L,e=>by
  unfold loP at e|-;cases he:os[id]? with
  |none=>grind
  | some q =>
   rw[he]at e;cases q with
   | sub p i o =>
    simp only at e|-;cases hp:loP os n p with
    |none=>grind
    |some Lp=>rw[hp]at e;rw[Wa n p Lp hp];exact e
   |dead=>cases e
   |row=>exact e
   |mapo=>exact e
theorem Kd(id i:Nat):∀(o nx:Nat)(ys:List AV),(∀b∈ys,Hm b=true\/b=.und)->openC id i o nx ys=(ys,[])
 |_,_,[],_=>rfl
 | o,nx,c::l,hb=>by
  have hc:ownOf c=none:=by
   cases e:ownOf c with
   |none=>rfl
   | some t =>
    obtain⟨k,es,sz⟩:=t
    have:=Aj e
    subst this;rcases hb _ (zqh ..)with h|h
    . cases h
    grind[Vv]
  unfold openC;rw[hc];simp only[Kd id i (o+1) nx l (by grind)]
theorem Wb{id i:Nat}(hlo:∀L1,loP os 5 id=some L1->L1=L):∀(ys xs:List AV)(o nx:Nat),xs.length=ys.length->(∀(j:Nat) a b,xs[j]?=some a->ys[j]?=some b->CR Z ow h (L++[i,o+j]) a b) ->
 (∀(m:Nat) e,(openC id i o nx ys).2[m]?=some e->os[nx+m]?=some e)->VL Z ow h os xs (openC id i o nx ys).1/\(∀e∈(openC id i o nx ys).2,∃q,e=.sub id i q)
 | [],xs,o,nx,hl,_,_=>by
  have:xs=[]:=(by grind)
  subst this;exact⟨.nil,fun e he=>by cases he⟩
 |c::ys,[],o,nx,hl,_,_=>by simp at hl
 | c :: ys,a::xs,o,nx,hl,hr,hos=>by
  have hr0:=hr 0 a c rfl rfl;have hrs:∀(j:Nat) u v,xs[j]?=some u->ys[j]?=some v->CR Z ow h (L++[i,o+1+j]) u v:=fun j u v hu hv=>by
   have:=hr (j+1) u v hu hv
   grind
  unfold openC at hos|-;cases e:ownOf c with
  | none =>
   rw[e]at hos;have ih:=Wb hlo ys xs (o+1) nx (by simpa using hl) hrs hos;refine⟨.cons ?_ ih.1,ih.2⟩;cases hr0 with
   |val f _ _=>exact .fz f
   |und=>exact .und
   |nil=>cases e
   |own=>cases e
  | some t =>
   obtain⟨k,es,sz⟩:=t
   have:=Aj e
   subst this;rw[e]at hos;simp only at hos|-;have h0:os[nx]?=some (.sub id i o):=by simpa using hos 0 _ rfl
   have hlt:nx<os.length:=(zqb.1 h0).1;have ih:=Wb hlo ys xs (o+1) (nx+1) (by simpa using hl) hrs fun m e he=>by
    have:=hos (m+1) e he
    grind
   refine⟨.cons ?_ ih.1,fun e he=>?_⟩
   . have hL:∀L',loP os 6 nx=some L'->L'=L++[i,o]:=fun L' hL'=>by
      unfold loP at hL';rw[h0]at hL';simp only at hL';cases hp:loP os 5 id with
      |none=>grind
      |some Lp=>grind
     rcases hr0.inv with⟨rfl,rfl,e1,e2⟩|⟨cid,ces,rfl,h1,_⟩
     . exact .mnil e1 (fun L' hL' c hc=>e2 c [] (by grind)) hlt
     . have h1':ow cid=some (L++[i,o]):=by grind
       have a1:VR Z ow h os (.ptr cid 0 0) (.ptr nx 0 0):=.ptr (by grind) hlt;have a2:VR Z ow h os (.msl cid 0 es.length sz) (.msl nx 0 es.length sz):=.msl (by grind) hlt;rcases k with _|_|k
       . exact a2
       . exact a1
       . exact a2
   grind
theorem iE(s:I4 Z ow h K.os){t:TI}{p v pc:AV}(hp:VR Z ow h K.os pc p)(hl:loadP t p K=some (v,K')):
 ∃vc,Ev t pc h=some vc/\I4 Z ow h K'.os/\Keep' ow K.os ow K'.os/\VR Z ow h K'.os vc v/\K'.ext=K.ext/\K'.tch=K.tch/\∃ps,K'.os=K.os++ps/\∀e∈ps,∃a b c,e=.sub a b c:=by
 cases p with
 | fptr v0 off =>
  have hl:(partOf t v0.cells off).map (·,K)=some (v,K'):=hl;cases hq:partOf t v0.cells off with
  |none=>rw[hq]at hl;cases hl
  | some w =>
   rw[hq]at hl;cases hl;cases hp with
   | fz f =>
    cases f with
    | fptr o f1 =>
     obtain⟨w0,h1,h2⟩:=f1.part hq;exact⟨w0,h1,s,.refl _ _,.fz h2,rfl,rfl,[],by simp,by simp⟩
    | pview hz hg hi f1 =>
     obtain⟨w0,h1,h2⟩:=f1.part hq;exact⟨w0,(cY hg hi t).trans h1,s,.refl _ _,.fz h2,rfl,rfl,[],by simp,by simp⟩
 | ptr id i off =>
  unfold loadP at hl;simp only at hl;cases hr:rowOf K.os 6 id with
  |none=>rw[hr]at hl;cases hl
  | some q =>
   obtain⟨k,es,sz⟩:=q;rw[hr]at hl;simp only at hl;cases hi:es[i]? with
   |none=>rw[hi]at hl;cases hl
   | some e =>
    rw[hi]at hl;simp only at hl;cases hw:partOf t e.cells off with
    |none=>rw[hw]at hl;cases hl
    | some w =>
     rw [hw]at hl;have hl:=Option.some.inj hl;obtain⟨L,hlo,hc⟩:=s.get 6 id k es sz hr;obtain⟨c,rfl,hoc,hlt⟩:∃c,pc=.ptr c i off/\ow c=some L/\id<K.os.length:=by
      cases hp with
      |fz f=>cases f
      |ptr a b=>exact⟨_,rfl,a L hlo,b⟩
     rcases hc with⟨_,rfl,c0,ces,hraw⟩|⟨_,x0,hcr⟩
     . have:c=c0:=s.inj _ _ _ hoc hraw.o
       subst this;have hlc:i<ces.length:=by rw[hraw.sh.1];exact(zqb.1 hi).1
       have hxi:=zqd hlc;have hsh:=hraw.sh.2 i _ e hxi hi;obtain⟨w0,h1,h2⟩:=Ml (R:=fun _ a b=>VR Z ow h K.os a b/\(Hm b=true\/b=.und)) (hsh.1.trans hsh.2.1.symm) (fun o a b ha hb=>⟨hraw.vr i _ e hxi hi o a b ha hb,hraw.okp i e hi b (zqe hb)⟩) hw;have hokw:∀b∈w.cells,Hm b=true\/b=.und:=by
        rcases h2 with⟨us,vs,rfl,rfl,h3,_,_,_,h4⟩|⟨_,h5,_,h6⟩
        . intro b hb
          obtain⟨j,hj⟩:=zqi hb;have hjl:j<us.length:=by rw[h3];exact(zqb.1 hj).1
          exact(h4 j _ b (zqd hjl) hj).2
        . intro b hb
          have hnag:isAg w=false:=by rcases h6.2 with h|h<;>cases w<;>first|rfl|cases h
          rw[D8 hnag]at hb;rw[zqn.1 hb];exact h6.2
       have e1:Vs id i off w K=(w,K):=by
        unfold Vs;rw[Kd id i off _ _ hokw,lK];simp
       rw[e1]at hl;cases hl;refine⟨w0,(cY hraw.get hxi t).trans h1,s,.refl _ _,?_,rfl,rfl,[],by simp,by simp⟩;rcases h2 with⟨us,vs,rfl,rfl,h3,_,_,_,h4⟩|⟨_,h5,_,h6⟩
       . exact .agg h3 fun j x y hx hy=>(h4 j x y hx hy).1
       . exact h6.1
     . rcases hcr.inv with⟨_,e2,_⟩|⟨c0,ces,_,h1,h2,h3,hs,_,h5⟩
       . subst e2;simp at hi
       have:c=c0:=s.inj _ _ _ hoc h1
       subst this;have hlc:i<ces.length:=by rw[hs.1];grind
       have hxi:=zqd hlc;have hsh:=hs.2 i _ e hxi hi;obtain⟨w0,g1,g2⟩:=Ml (R:=fun o a b=>CR Z ow h (L++[i,o]) a b) (hsh.1.trans hsh.2.1.symm) (by grind) hw;by_cases hu:w=.und
       . subst hu
         have e1:Vs id i off .und K=(.und,K):=by
          unfold Vs;rw[Kd id i off _ _ (fun b hb=>.inr (by simpa using zqn.1 hb))];simp[O7];rfl
         rw[e1]at hl;cases hl;exact⟨w0,(cY h3 hxi t).trans g1,s,.refl _ _,.und,rfl,rfl,[],by simp,by simp⟩
       have hcell:w0.cells.length=w.cells.length/\isAg w0=isAg w/\∀(j:Nat) a b,w0.cells[j]?=some a->w.cells[j]?=some b->CR Z ow h (L++[i,off+j]) a b:=by
        rcases g2 with⟨us,vs,rfl,rfl,h3,_,_,_,h4⟩|⟨_,h5',h6',h6⟩
        . exact⟨h3,rfl,h4⟩
        . have hw0:=h6.shape hu
          have hwn:isAg w=false:=by
           cases h6 with
           |val f e=>exact(f.shape.2).symm.trans hw0
           |und=>grind
           |nil=>rfl
           |own=>rfl
          rw[D8 hwn,D8 hw0];refine⟨rfl,hw0.trans hwn.symm,fun j a b ha hb=>?_⟩;grind
       obtain ⟨q1,q2,q3⟩:=hcell;have hlo5:∀L1,loP (K.os++(openC id i off K.os.length w.cells).2) 5 id=some L1->L1=L:=fun L1 h1=>by
        rw[loP_app s.sb 5 id hlt]at h1;grind[Wa]
       have key:=Wb (os:=K.os++(openC id i off K.os.length w.cells).2) (Z:=Z) (ow:=ow) (h:=h) hlo5 w.cells w0.cells off K.os.length q1 q3 fun m e he=>by
        simp_all[List.getElem?_append_right]
       have hsub:=s.subs (ps:=(openC id i off K.os.length w.cells).2) fun e he=>by
        obtain⟨q,rfl⟩:=key.2 e he;grind
       cases hl;refine⟨w0,(cY h3 hxi t).trans g1,I4.to hsub.1 (fun _ hz=>⟨hz,rfl⟩) hsub.2,hsub.2,?_,rfl,rfl,_,rfl,fun e he=>by
        obtain⟨q,rfl⟩:=key.2 e he;grind⟩
       show VR Z ow h (K.os++(openC id i off K.os.length w.cells).2) w0 (O7 w (openC id i off K.os.length w.cells).1)
       cases hag:isAg w with
       | true =>
        cases w with
        | agg ws =>
         cases w0 with
         |agg us=>exact .agL key.1
         |_=>rw[hag]at q2;cases q2
        |_=>cases hag
       | false =>
        have k1:=key.1;rw[D8 hag,D8 (q2.trans hag)]at k1;rw[D8 hag]
        have:∀vs:List AV,VL Z ow h (K.os++(openC id i off K.os.length [w]).2) [w0] vs->VR Z ow h (K.os++(openC id i off K.os.length [w]).2) w0 (O7 w vs):=fun vs hv=>by
         cases vs with
         |nil=>have:=hv.1;simp at this
         |cons v vs=>cases w<;>first|exact hv.inv.1|cases hag
        grind
 |_=>cases hl
end
theorem Q8{v:AV}{off:Nat}{ncs:List AV}(hf:off+ncs.length<=v.cells.length)(hn:0<ncs.length)(ha:∀c∈ncs,isAg c=false):(v.withCells off ncs).cells=lsplice v.cells off ncs/\isAg (v.withCells off ncs)=isAg v:=by
 cases hv:isAg v with
 | true =>
  cases v with
  |agg cs=>exact⟨U6 cs off ncs,rfl⟩
  |_=>cases hv
 | false =>
  have e1:=D8 hv;rw[e1]at hf|-;simp at hf;cases ncs with
  |nil=>simp at hn
  | cons x r =>
   simp at hf;have hr:r=[]:=zqj (by omega);subst hr;have ho:off=0:=by grind
   subst ho;have hx:=ha x (zqh ..);have e2:v.withCells 0 [x]=x:=by cases v<;>first|rfl|cases hv
   grind[lsplice,D8]
theorem v6{α:Type}{l us:List α}{p j:Nat}(h:p+us.length<=l.length):(lsplice l p us)[j]?=if p<=j/\j<p+us.length then us[j-p]? else l[j]?:=by
 grind[lsplice]
section
variable {E:Env}{Z Z':Nat->Prop}{ow ow':Nat->Option (List Nat)}{h h':Heap}{K K':PK}{os os':List PO}{x y:AV}{L M:List Nat}
theorem VR.okc(v:VR Z ow h os x y)(hy:Hm y=true):okCell x=true:=by
 cases v with
 | fz f =>
  cases f with
  |agg=>cases hy
  |emp e=>cases e<;>rfl
  |_=>rfl
 |und=>cases hy
 |mnil e _ _=>rcases e with rfl|rfl<;>rfl
 |agg=>cases hy
 |tup=>cases hy
 |_=>rfl
theorem clo_okP{y:AV}(hy:clo y=true):Hm y=true:=by cases y<;>first|rfl|cases hy
theorem nS{y:AV}(hy:clo y=true):isAg y=false:=by cases y<;>first|rfl|cases hy
theorem zP{y:AV}(hy:Hm y=true):isAg y=false:=by cases y<;>first|rfl|cases hy
theorem okCell_nag{y:AV}(hy:okCell y=true):isAg y=false:=by cases y<;>first|rfl|cases hy
theorem store_g{id i sz off:Nat}{es:List AV}{e v:AV}{t:TI}(hg:h.get id=some (.row es sz))(hx:es[i]?=some e)(h1:v.cells.length=t.size)(h2:0<t.size)(h3:off+t.size<=sz)(h4:∀c∈v.cells,okCell c=true):Cu t (.ptr id i off) v h=some (h.set id (.row (es.set i (e.withCells off v.cells)) sz)):=by
 show h.onRow id none (Sq t id i off v.cells h)=_
 rw[Mk hg];show A7 (Ep es i) (fun old=>B6 (Nat.beq (lenL v.cells) t.size&&Nat.blt 0 t.size&&Nat.ble (Nat.add off t.size) sz&&E8 v.cells) (some (h.set id (.row (setL es i (old.withCells off v.cells)) sz))))=_
 rw[S3,hx,A9,h1,zqz,(G9 _).2 h4];simp only[Ay];have e1:Nat.blt 0 t.size=true:=zqu h2;have e2:Nat.ble (Nat.add off t.size) sz=true:=zqu h3;rw[e1,e2];rfl
theorem dN.set{sz i off:Nat}{ces es ncs mcs:List AV}{a e:AV}(hs:dN sz ces es)(ha:ces[i]?=some a)(he:es[i]?=some e)(hf:off+mcs.length<=sz)(hl:ncs.length=mcs.length)(hn:0<mcs.length)(h1:∀c∈ncs,isAg c=false)(h2:∀c∈mcs,isAg c=false):
 dN sz (ces.set i (a.withCells off ncs)) (es.set i (e.withCells off mcs)):=by
 have h0:=hs.2 i a e ha he;have w1:=Q8 (v:=a) (off:=off) (ncs:=ncs) (by omega) (by omega) h1;have w2:=Q8 (v:=e) (off:=off) (ncs:=mcs) (by omega) hn h2;refine⟨by simp[hs.1],fun j x y hx hy=>?_⟩;rw[zqc]at hx hy;by_cases ej:i=j
 . subst ej
   rw[if_pos rfl,if_pos (zqb.1 ha).1]at hx;rw[if_pos rfl,if_pos (zqb.1 he).1]at hy;grind[S9]
 . rw[if_neg ej]at hx hy;exact hs.2 j x y hx hy
theorem Zi{R:Nat->Nat->AV->AV->Prop}{sz i off:Nat}{ces es ncs mcs:List AV}{a e:AV}(hs:dN sz ces es)(ha:ces[i]?=some a)(he:es[i]?=some e)(hf:off+mcs.length<=sz)(hl:ncs.length=mcs.length)(hn:0<mcs.length)(h1:∀c∈ncs,isAg c=false)(h2:∀c∈mcs,isAg c=false)
 (hold:∀(j:Nat) x y,ces[j]?=some x->es[j]?=some y->∀(o:Nat) u w,(j=i->o<off\/off+mcs.length<=o)->x.cells[o]?=some u->y.cells[o]?=some w->R j o u w)(hnew:∀(o:Nat) u w,ncs[o]?=some u->mcs[o]?=some w->R i (off+o) u w):
 ∀(j:Nat) x y,(ces.set i (a.withCells off ncs))[j]?=some x->(es.set i (e.withCells off mcs))[j]?=some y->∀(o:Nat) u w,x.cells[o]?=some u->y.cells[o]?=some w->R j o u w:=by
 have h0:=hs.2 i a e ha he;have w1:=Q8 (v:=a) (off:=off) (ncs:=ncs) (by omega) (by omega) h1;have w2:=Q8 (v:=e) (off:=off) (ncs:=mcs) (by omega) hn h2;intro j x y hx hy o u w hu hw;rw[zqc]at hx hy;by_cases ej:i=j
 . subst ej
   rw[if_pos rfl,if_pos (zqb.1 ha).1]at hx;rw[if_pos rfl,if_pos (zqb.1 he).1]at hy;cases hx;cases hy;rw[w1.1,v6 (by omega)]at hu;rw[w2.1,v6 (by omega)]at hw;rw[hl]at hu;split at hu
   . rename_i hc
     rw[if_pos hc]at hw
     have:=hnew (o-off) u w hu hw
     simp_all
   . rename_i hc
     rw[if_neg hc]at hw;grind
 grind
theorem Stp.store{b c:Nat}{os1:List PO}{r:Nat}{t:List Nat}{ob:AObj}{R:AV->AV->Prop}(s:PT R Z ow h K.os)(hc:ow c=some (r::t))(hlen:isRt K.os r=true)
 (h1:∀id L,ow' id=some L->id<h.next->ow id≠none)(h2:∀id q t,ow id=some (q::t)->q<K.ext->(∃t',ow' id=some (q::t'))\/q=r)(h3:∀j,j<K.ext->∀c,isRt os1 j=true->(ow c=some [j]↔ow' c=some [j]))(h4:∀j,j<K.ext->isRt os1 j=true->isRt K.os j=true):
 Stp b Z ow h K Z ow' (h.set c ob) {K with os:=os1,tch:=r::K.tch}:=by
 have hne:∀id,ow id=none->id≠c:=(by grind)
 refine⟨zqs _,fun id hz=>⟨hz,Heap.get_set_ne _ _ fun e=>?_⟩,fun id hz=>.inl hz,(by grind[Go.AM.Heap.get_set_ne]),h1,⟨[c],rfl,fun id hi=>?_⟩,fun id q t' ho hq=>?_,fun q hq _=>zqr _ hq,rfl,h3,h4⟩
 . subst e;exact(s.live _ _ hc).2.1 hz
 . grind
 grind
end
section
variable {E:Env}{Z Z':Nat->Prop}{ow ow':Nat->Option (List Nat)}{h h':Heap}{K K':PK}{os os':List PO}{x y:AV}{L M:List Nat}
theorem loP_uniq{n m id:Nat}{L L':List Nat}(h1:loP os n id=some L)(h2:loP os m id=some L'):L=L':=by
 have up:∀k n id L,loP os n id=some L->loP os (n+k) id=some L:=fun k=>by
  induction k with
  |zero=>grind
  |succ k ih=>grind[Wa]
 have a:=up m n id L h1;grind
theorem Zj{j:Nat}{L1:List Nat}(h1:loP os 6 j=some L1):∀(n id:Nat)(L:List Nat),loP os n id=some L->j∈chainOf os n id->L1.length<=L.length
 |0,_,_,e,_=>by cases e
 | n + 1,id,L,e,hj=>by
  unfold chainOf at hj;rcases List.mem_cons.1 hj with rfl|hj
  . rw[loP_uniq h1 e];grind
  . unfold loP at e
    cases he:os[id]? with
    |none=>grind
    | some q =>
     rw[he]at hj e;cases q with
     | sub p i o =>
      simp only at hj e;cases hp:loP os n p with
      |none=>grind
      | some Lp =>
       rw[hp]at e;cases e
       have:=Zj h1 n p Lp hp hj
       simp;omega
     |_=>cases hj
theorem kill_alive{id j:Nat}{L L1 t:List Nat}(hlo:loP os 6 id=some L)(h1:loP (killP os (rootOf os 6 id) (chainOf os 6 id)) 6 j=some L1)(hne:t≠[]):¬Und (L++t) L1:=by
 rintro⟨u,rfl⟩
 have w:=Mi os (rootOf os 6 id) (chainOf os 6 id);have h2:=w.lo 6 j _ h1;obtain⟨t0,hL,_⟩:=U4 6 id L hlo;have hlen:(L++t++u).length>L.length:=by
  cases t with
  |nil=>grind
  |cons a t=>simp
 have hL0:L.length>0:=by grind
 unfold loP at h1;cases hj:(killP os (rootOf os 6 id) (chainOf os 6 id))[j]? with
 |none=>grind
 | some q =>
  rw[hj]at h1;cases q with
  |row=>grind
  |mapo=>grind
  |dead=>cases h1
  | sub p i o =>
   rcases killP_sub hj with h|h
   . obtain⟨t1,h3,_⟩:=U4 6 j _ h2
     grind
   . have:=Zj h2 6 id L hlo h
     omega
theorem Zk{q:Nat}{e:PO}:∀(n id:Nat),rootOf os n id≠q->(∀p i o,os[q]?≠some (.sub p i o))->rowOf (os.set q e) n id=rowOf os n id
 |0,_,_,_=>rfl
 | n + 1,id,hne,hq=>by
  unfold rowOf;rw[zqc];by_cases hid:q=id
  . subst hid
    unfold rootOf at hne;grind
  . rw [if_neg hid]
    unfold rootOf at hne;cases he:os[id]? with
    |none=>rfl
    | some e' =>
     rw[he]at hne;cases e' with
     |sub p i o=>simp only at hne|-;rw[Zk n p hne hq]
     |_=>rfl
theorem Mm:∀(n id k:Nat)(es es':List AV)(sz:Nat)(os':List PO),rowOf os n id=some (k,es,sz)->setRow os n id es'=some os'->rowOf os' n id=some (k,es',sz)
 |0,_,_,_,_,_,_,e,_=>by cases e
 | n + 1,id,k,es,es',sz,os',e,hs=>by
  obtain⟨r,kr,esr,szr,esr',hr,hos,hrt⟩:=setRow_eq _ _ _ _ hs;unfold rowOf at e;unfold setRow at hs;cases he:os[id]? with
  |none=>grind
  | some q =>
   rw[he]at e hs;cases q with
   |mapo=>cases e
   |dead=>cases e
   | row k0 es0 sz0 =>
    cases e;cases hs;unfold rowOf;grind
   | sub p i o =>
    have hne:r≠id:=(by grind)
    simp only at e hs;cases hp:rowOf os n p with
    |none=>grind
    | some t =>
     obtain⟨kp,pes,psz⟩:=t;rw[hp]at e hs;simp only at e hs;cases hi:pes[i]? with
     |none=>grind
     | some v =>
      rw[hi]at e hs;simp only at e hs;cases ho:v.cells[o]? with
      |none=>grind
      | some c =>
       rw[ho]at e hs;simp only at e hs;rw[e]at hs;have ih:=Mm n p kp pes _ psz os' hp hs;unfold rowOf;have hid:os'[id]?=some (.sub p i o):=by grind
       rw[hid];simp only;rw[ih];simp only;have hlt:i<pes.length:=(zqb.1 hi).1;rw[zqc,if_pos rfl,if_pos hlt];simp only;have hlo:=(zqb.1 ho).1;rw[(Ql (c:=ownd k sz es') hlo rfl).1,zqc,if_pos rfl,if_pos hlo];rfl
noncomputable def clr(ow:Nat->Option (List Nat))(P:List Nat->Prop):Nat->Option (List Nat):=fun id=>match ow id with
 |some M=>(open Classical in if P M then none else some M)
 |none=>none
theorem clr_some{P:List Nat->Prop}{id:Nat}{M:List Nat}:clr ow P id=some M↔ow id=some M/\¬P M:=by
 unfold clr;grind
def AtC(L:List Nat)(i off n:Nat)(M:List Nat):Prop:=∃o,off<=o/\o<off+n/\Und (L++[i,o]) M
theorem Mn{L M:List Nat}{i off n:Nat}(h:AtC L i off n M):Und L M:=by
 obtain⟨o,_,_,t,rfl⟩:=h;exact⟨[i,o]++t,by simp⟩
theorem Gk{L q:List Nat}{i off n i' o':Nat}(h:AtC L i off n (L++[i',o']++q)):i'=i/\off<=o'/\o'<off+n:=by
 obtain⟨o,h1,h2,hu⟩:=h
 have:=Vw (t:=[]) (by simpa using hu)
 omega
theorem CR.cells{k sz i off:Nat}{es ncs mcs:List AV}{c:Nat}{ces:List AV}{a e:AV}(h1:ow' c=some L)(h2:c<h'.next)(hg:h'.get c=some (.row (ces.set i (a.withCells off ncs)) sz))(hs:dN sz ces es)(ha:ces[i]?=some a)(he:es[i]?=some e)(hf:off+mcs.length<=sz)(hl:ncs.length=mcs.length)(hn:0<mcs.length)(hna:∀c∈ncs,isAg c=false)(hma:∀c∈mcs,isAg c=false)(hin:CU ow' L es.length sz)
 (hold:∀(j:Nat) x y,ces[j]?=some x->es[j]?=some y->∀(o:Nat) u w,(j=i->o<off\/off+mcs.length<=o)->x.cells[o]?=some u->y.cells[o]?=some w->CR Z' ow' h' (L++[j,o]) u w)(hnew:∀(o:Nat) u w,ncs[o]?=some u->mcs[o]?=some w->CR Z' ow' h' (L++[i,off+o]) u w):
 CR Z' ow' h' L (refK k c es.length sz) (ownd k sz (es.set i (e.withCells off mcs))):=by
 have hsh:=hs.set ha he hf hl hn hna hma;rw[show es.length=(es.set i (e.withCells off mcs)).length by simp];exact .own h1 h2 hg hsh.1 (by grind) hsh.2 (Zi (R:=fun j o u w=>CR Z' ow' h' (L++[j,o]) u w) hs ha he hf hl hn hna hma hold hnew)
theorem nag_rep{n:Nat}:∀c∈zqa n AV.und,isAg c=false:=fun c hc=>by rw[(List.mem_replicate.1 hc).2];rfl
theorem PT.forget{R:AV->AV->Prop}(s:PT R Z ow h os){id k i off n:Nat}{es:List AV}{sz:Nat}{e:AV}(hr:rowOf os 6 id=some (k,es,sz))(hraw:rawAt os id=false)(hlo:loP os 6 id=some L)(he:es[i]?=some e)(hf:off+n<=sz)(hn:0<n)
 (halive:∀j L1,loP os 6 j=some L1->¬AtC L i off n L1)(hset:setRow os 6 id (es.set i (e.withCells off (zqa n .und)))=some os'):
 PT R Z (clr ow (AtC L i off n)) h os'/\Keep' ow os (clr ow (AtC L i off n)) os'/\(∀o,o<n->xM (clr ow (AtC L i off n)) (L++[i,off+o])):=by
 have d:Dl Z ow h Z (clr ow (AtC L i off n)) h L:=⟨zqs _,fun _ hz=>⟨hz,rfl⟩,fun id M hM=>by
  rw[clr_some];exact⟨fun h=>h.1,fun h=>⟨h,fun ha=>hM (Mn ha)⟩⟩,fun _ _ _ _=>rfl⟩
 have hlen:es.length=es.length:=rfl;have hkeep:∀j,j<os.length->∀L1,loP os 6 j=some L1->∀c,ow c=some L1↔clr ow (AtC L i off n) c=some L1:=(by grind[Go.AM.clr_some])
 obtain⟨r,k0,es0,sz0,es0',hr0,hos,_⟩:=setRow_eq _ _ _ _ hset;have hInC:∀M m z,CU ow M m z->CU (clr ow (AtC L i off n)) M m z:=fun M m z hi c t hc=>hi c t (clr_some.1 hc).1
 refine⟨?_,⟨by grind,fun j hj L1 h1=>?_⟩,fun o ho c t hc=>(clr_some.1 hc).2 ⟨off+o,by omega,by omega,t,rfl⟩⟩
 . refine s.set d (fun a b M ha hb=>s.inj a b M (clr_some.1 ha).1 (clr_some.1 hb).1) (fun a M ha=>s.live a M (clr_some.1 ha).1) s.zb (fun M m z t _ _ hi=>hInC M m z hi) 6 id k es sz _ os' L [] (by simp) hr hlo hraw hset fun x hx=>?_
   rcases hx.inv with⟨_,e2,_⟩|⟨c,ces,rfl,h1,h2,h3,h4,h5,h6⟩
   . grind
   . have hlc:i<ces.length:=by rw[h4.1];grind
     have ha:=zqd hlc;have hsh:=h4.2 i _ e ha he;have w2:=Q8 (v:=e) (off:=off) (ncs:=zqa n .und) (by rw[zqk];omega) (by simpa using hn) nag_rep;have h1':clr ow (AtC L i off n) c=some L:=(by grind[Go.AM.clr_some])
     rw[show es.length=(es.set i (e.withCells off (zqa n .und))).length by simp];refine .own h1' h2 h3 (by simpa using h4.1) (by grind) (fun j x y hx hy=>?_) (fun j x y hx' hy o a b ha' hb=>?_)
     . rw [zqc]at hy
       by_cases ej:i=j
       . subst ej
         rw[if_pos rfl,if_pos (zqb.1 he).1]at hy;grind[S9]
       . rw[if_neg ej]at hy;exact h4.2 j x y hx hy
     . have old:∀b,(∃y,es[j]?=some y/\y.cells[o]?=some b)->(j=i->o<off\/off+n<=o)->CR Z (clr ow (AtC L i off n)) h (L++[j,o]) a b:=fun b ⟨y,hy,hb⟩ hjo=>by
        refine(h6 j x y hx' hy o a b ha' hb).reloc (zqs _) (fun _ hz=>⟨hz,rfl⟩) (fun id q=>?_) (fun _ _ _=>rfl);rw[clr_some];exact⟨fun h=>h.1,fun h=>⟨h,fun hat=>by have:=Gk hat;grind⟩⟩
       rw[zqc]at hy;by_cases ej:i=j
       . subst ej
         rw[if_pos rfl,if_pos (zqb.1 he).1]at hy;cases hy;rw[w2.1,v6 (by rw[zqk];omega)]at hb;rw[zqk]at hb;split at hb
         . rw[List.getElem?_replicate]at hb
           split at hb
           . cases hb;exact .und
           . cases hb
         grind
       . rw[if_neg ej]at hy
         exact old b ⟨y,hy,hb⟩ fun e=>absurd e.symm ej
 grind[Dt]
end
section
variable {E:Env}{R:AV->AV->Prop}{Z Z':Nat->Prop}{ow ow':Nat->Option (List Nat)}{h h':Heap}{K K':PK}{os os':List PO}{x y:AV}{L M:List Nat}
theorem PT.drop(s:PT R Z ow h os){q:Nat}{e:PO}(he:(∃p i o,e=.sub p i o/\p<os.length)\/e=.dead):PT R Z (clr ow (Und [q])) h (os.set q e):=by
 have hne:∀r t,r≠q->¬Und [q] (r::t):=fun r t hr ⟨u,hu⟩=>by grind
 have key:∀{r:Nat}{e':PO},(os.set q e)[r]?=some e'->(r≠q/\os[r]?=some e')\/e'=e:=(by grind)
 have hee:(∀k es sz,e≠.row k es sz)/\∀es,e≠.mapo es:=by
  grind
 have ho:∀r id t,r≠q->(clr ow (Und [q]) id=some (r::t)↔ow id=some (r::t)):=(by grind[Go.AM.clr_some])
 refine⟨fun r es sz hr=>?_,fun r k es sz hr hk=>?_,fun r es hr=>?_,fun a b M ha hb=>s.inj a b M (clr_some.1 ha).1 (clr_some.1 hb).1,fun a M ha=>?_,s.zb,fun j p i o hj=>?_⟩
 . rcases key hr with⟨h1,h2⟩|h
   . obtain⟨x,hx⟩:=s.row r es sz h2
     exact⟨x,hx.reloc (zqs _) (fun _ hz=>⟨hz,rfl⟩) (fun id t=>ho r id t h1) (fun _ _ _=>rfl)⟩
   grind
 . rcases key hr with⟨h1,h2⟩|h
   . obtain⟨c,ces,g⟩:=s.raw r k es sz h2 hk
     exact⟨c,ces,(ho r c [] h1).2 g.o,g.lt,g.get,g.sh,g.vr,g.okp,fun a t ha=>g.no a t ((ho r a t h1).1 ha)⟩
   grind
 . rcases key hr with⟨h1,h2⟩|h
   . obtain⟨c,ces,g⟩:=s.map r es h2
     exact⟨c,ces,(ho r c [] h1).2 g.o,g.lt,g.get,g.len,g.kv,fun a t ha=>g.no a t ((ho r a t h1).1 ha)⟩
   grind
 . obtain⟨h1,h2⟩:=clr_some.1 ha
   obtain⟨h3,h4,r,t,rfl,h5⟩:=s.live a M h1;have hrq:r≠q:=fun e=>h2 ⟨t,by rw[e];rfl⟩
   refine⟨h3,h4,r,t,rfl,?_⟩;grind[isRt]
 . rw[zqg]
   rcases key hj with⟨_,h2⟩|h
   . exact s.sb j p i o h2
   grind
noncomputable def rlb(ow:Nat->Option (List Nat))(q:Nat)(L:List Nat):Nat->Option (List Nat):=fun id=>match ow id with
 |some (p::t)=>if p=q then some (L++t)else some (p::t)
 |e=>e
theorem wG{q id:Nat}(hne:∀a M,ow a=some M->M≠[]):rlb ow q L id=some M↔(∃t,ow id=some (q::t)/\M=L++t)\/(ow id=some M/\∀t,M≠q::t):=by
 unfold rlb;grind
theorem loP_seal{q id i o:Nat}{L:List Nat}{e:PO}(hq:os[q]?=some e)(hrt:isRt os q=true)(hL:∀n L1,loP os n id=some L1->L1=L)(hLq:∀t,L≠q::t):∀(n j:Nat)(L':List Nat),loP (os.set q (.sub id i o)) n j=some L'->(∃t,loP os n j=some (q::t)/\L'=L++[i,o]++t)\/(loP os n j=some L'/\∀t,L'≠q::t)
 |0,_,_,h=>by cases h
 | n + 1,j,L',hl=>by
  unfold loP at hl;rw[zqc]at hl;by_cases hj:q=j
  . subst hj
    rw[if_pos rfl,if_pos (zqb.1 hq).1]at hl;simp only at hl;cases hp:loP (os.set q (.sub id i o)) n id with
    |none=>grind
    | some Lp =>
     rw [hp]at hl;cases hl;have hLp:Lp=L:=by
      rcases loP_seal hq hrt hL hLq n id Lp hp with⟨t,h1,_⟩|⟨h1,_⟩
      . grind
      grind
     grind[loP,isRt]
  . rw [if_neg hj]at hl
    unfold loP;cases he:os[j]? with
    |none=>grind
    | some e' =>
     rw[he]at hl;cases e' with
     |dead=>cases hl
     |row=>grind
     |mapo=>grind
     | sub p a b =>
      simp only at hl|-;cases hp:loP (os.set q (.sub id i o)) n p with
      |none=>grind
      | some Lp =>
       rw[hp]at hl;cases hl;rcases loP_seal hq hrt hL hLq n p Lp hp with⟨t,h1,rfl⟩|⟨h1,h2⟩
       . grind
       grind[U4]
structure Sealed(R:AV->AV->Prop)(Z:Nat->Prop)(ow:Nat->Option (List Nat))(h:Heap)(os:List PO)(ext:Nat)(L:List Nat)(i o0 d:Nat)(xs cs:List AV)(owf:Nat->Option (List Nat))(os':List PO):Prop where
 pt:PT R Z (clr owf (AtC L i o0 (d+xs.length))) h os'
 inj:∀a b M,owf a=some M->owf b=some M->a=b
 live:∀a M,owf a=some M->a<h.next/\¬Z a
 keep:Keep' ow os owf os'
 len:cs.length=xs.length
 cr:∀(j:Nat) a b,xs[j]?=some a->cs[j]?=some b->CR Z owf h (L++[i,o0+d+j]) a b/\isAg b=false/\b≠.und
 at_:∀id M,Und L M->¬AtC L i (o0+d) xs.length M->(owf id=some M↔ow id=some M)
 no:∀id M,owf id=some M->¬AtC L i (o0+d) xs.length M->ow id=some M
 lo:∀id q t,ow id=some (q::t)->q<ext->owf id=some (q::t)
 sm:∀id,owf id=none↔ow id=none
 rt:∀j:Nat,j<ext->os'[j]?=os[j]?
 rt':∀j:Nat,isRt os' j=true->isRt os j=true
 oth:∀j:Nat,(∀k es sz,os[j]?≠some (.row k es sz))->os'[j]?=os[j]?
 ne:os'.length=os.length
theorem AtC.split{i o0 d:Nat}:AtC L i o0 (d+1) M↔AtC L i o0 d M\/Und (L++[i,o0+d]) M:=by
 constructor
 . rintro⟨o,h1,h2,h3⟩
   by_cases e:o=o0+d
   . grind
   . exact .inl ⟨o,h1,by omega,h3⟩
 . rintro(⟨o,h1,h2,h3⟩|h)
   . exact⟨o,h1,by omega,h3⟩
   . exact⟨o0+d,by omega,by omega,h⟩
theorem Wc{ext r id i o0:Nat}{tl:List Nat}(hLr:L=r::tl):∀(ys xs cs:List AV)(d:Nat)(os os':List PO)(ow:Nat->Option (List Nat)),sealC ext r id i (o0+d) os ys=some (cs,os') ->
 PT R Z (clr ow (AtC L i o0 d)) h os->(∀a b M,ow a=some M->ow b=some M->a=b)->(∀a M,ow a=some M->a<h.next/\¬Z a)->(∀a M,ow a=some M->M≠[])->(∀n L1,loP os n id=some L1->L1=L)->(id<os.length)->(∀j L1,loP os 6 j=some L1->¬AtC L i (o0+d) ys.length L1) ->
 (∀j,j<ys.length->xM ow (L++[i,o0+d+j]))->VL Z ow h os xs ys->∃owf,Sealed R Z ow h os ext L i o0 d xs cs owf os'
 | [],xs,cs,d,os,os',ow,hs,hp,hinj,hlive,hne,hL,hidl,hal,hno,hv=>by
  cases hs
  have:xs=[]:=zqj hv.1
  subst this;exact⟨ow,hp,hinj,hlive,.refl _ _,rfl,fun j a b ha=>by simp at ha,fun _ _ _ _=>.rfl,fun _ _ h _=>h,fun _ _ _ h _=>h,fun _=>.rfl,fun _ _=>rfl,fun _ h=>h,fun _ _=>rfl,rfl⟩
 |c::ys,[],cs,d,os,os',ow,hs,hp,hinj,hlive,hne,hL,hidl,hal,hno,hv=>by have:=hv.1;simp at this
 | c :: ys,a :: xs,cs,d,os,os',ow,hs,hp,hinj,hlive,hne,hL,hidl,hal,hno,hv=>by
  obtain ⟨hv1,hv2⟩:=hv.inv;have hno0:xM ow (L++[i,o0+d]):=hno 0 (by simp);have hnos:∀j,j<ys.length->xM ow (L++[i,o0+(d+1)+j]):=fun j hj=>by
   have:=hno (j+1) (by grind)
   grind
  have hals:∀j L1,loP os 6 j=some L1->¬AtC L i (o0+(d+1)) ys.length L1:=fun j L1 h1 ⟨o,h2,h3,h4⟩=>hal j L1 h1 ⟨o,by omega,by simp;omega,h4⟩
  have hxl:(a::xs).length=xs.length+1:=rfl;have hyl:=hv2.1;unfold sealC at hs;cases hc:clo c with
  | true =>
   rw[hc]at hs;simp only at hs;cases hq:sealC ext r id i (o0+d+1) os ys with
   |none=>grind
   | some p =>
    rw [hq]at hs;cases hs;have hp':PT R Z (clr ow (AtC L i o0 (d+1))) h os:=by
     have e:clr ow (AtC L i o0 (d+1))=clr ow (AtC L i o0 d):=by
      funext id
      apply Option.ext;intro M;show clr ow _ id=some M↔clr ow _ id=some M
      rw[clr_some,clr_some,AtC.split];exact⟨(by grind),fun⟨h1,h2⟩=>⟨h1,fun h=>h.elim h2 fun⟨t,ht⟩=>hno0 id t (by grind)⟩⟩
     grind
    obtain⟨owf,g⟩:=Wc hLr ys xs p.1 (d+1) os p.2 ow (by omega) hp' hinj hlive hne hL hidl hals hnos hv2;have hatC:∀M,¬AtC L i (o0+d) (xs.length+1) M->¬AtC L i (o0+(d+1)) xs.length M:=fun M hM ⟨o,h1,h2,h3⟩=>hM ⟨o,by omega,by omega,h3⟩
    have hn0:xM owf (L++[i,o0+d]):=fun c' t hc'=>by
     have:=g.no c' _ hc' fun hat=>by have:=Gk hat;omega
     exact hno0 c' t this
    refine⟨owf,?_,g.inj,g.live,g.keep,by simp[g.len],fun j a' b' ha hb=>?_,fun id M hu hM=>g.at_ id M hu (hatC M hM),fun id M h1 hM=>g.no id M h1 (hatC M hM),g.lo,g.sm,g.rt,g.rt',g.oth,g.ne⟩
    . have:=g.pt
      rw[hxl,show d+(xs.length+1)=d+1+xs.length by omega];exact this
    . cases j with
      |zero=>cases ha;cases hb;exact⟨.val (hv1.fzc hc |>.mono fun _ hz=>⟨hz,rfl⟩) hc hn0,nS hc,fun e=>by rw[e]at hc;cases hc⟩
      | succ j =>
       have:=g.cr j a' b' ha hb
       rw[show o0+d+(j+1)=o0+(d+1)+j by omega];exact this
  | false =>
   rw[hc]at hs;simp only at hs;cases c with
   | msl q off m sz =>
    cases off with
    |succ off=>cases hs
    | zero =>
     simp only at hs;cases hq:os[q]? with
     |none=>rw[hq]at hs;cases hs
     | some e =>
      rw[hq]at hs;cases e with
      |mapo=>cases hs
      |sub=>cases hs
      |dead=>cases hs
      | row k es z =>
       cases k with
       |succ k=>cases hs
       | zero =>
        simp only at hs;split at hs
        . rename_i hcond
          obtain⟨hm,hz,hext,hqr⟩:=hcond;subst hz;cases hr:sealC ext r id i (o0+d+1) (os.set q (.sub id i (o0+d))) ys with
          |none=>rw[hr]at hs;cases hs
          | some p =>
           rw[hr]at hs;cases hs;have hLq:∀t,L≠q::t:=fun t e=>hqr (by rw[hLr]at e;cases e;rfl)
           have hrtq:isRt os q=true:=by unfold isRt;rw[hq]
           have hqlt:=(zqb.1 hq).1;have hneq:q≠id:=fun e=>by
            have:=hL 6 [q] (by grind[loP])
            exact hLq [] this.symm
           obtain⟨xq,hxq⟩:=hp.row q es sz hq;have hnL:∀M,L++[i,o0+d]++M≠[]:=fun M e=>by simp at e
           have hrl:∀id M,rlb ow q (L++[i,o0+d]) id=some M↔(∃t,ow id=some (q::t)/\M=L++[i,o0+d]++t)\/(ow id=some M/\∀t,M≠q::t):=fun id M=>wG hne
           have hclr:clr (rlb ow q (L++[i,o0+d])) (AtC L i o0 (d+1))=clr (clr ow (AtC L i o0 d)) (Und [q]):=by
            funext id'
            apply Option.ext;intro M;show clr _ _ id'=some M↔clr _ _ id'=some M
            rw[clr_some,clr_some,clr_some,hrl,AtC.split]
            constructor
            . rintro⟨⟨t,h1,rfl⟩|⟨h1,h2⟩,h3⟩
              . exact absurd (.inr ⟨t,rfl⟩) h3
              . exact⟨⟨h1,fun h=>h3 (.inl h)⟩,fun⟨u,hu⟩=>h2 u hu⟩
            . rintro⟨⟨h1,h2⟩,h3⟩
              exact⟨.inr ⟨h1,fun t e=>h3 ⟨t,e⟩⟩,fun h=>h.elim h2 fun⟨t,ht⟩=>hno0 id' t (by grind)⟩
           have hp1:PT R Z (clr (rlb ow q (L++[i,o0+d])) (AtC L i o0 (d+1))) h (os.set q (.sub id i (o0+d))):=by
            rw[hclr];exact hp.drop (.inl ⟨id,i,o0+d,rfl,hidl⟩)
           have hk1:Keep' ow os (rlb ow q (L++[i,o0+d])) (os.set q (.sub id i (o0+d))):=⟨by simp,fun j hj L' hl=>by
            rcases loP_seal hq hrtq hL hLq 6 j L' hl with⟨t,h1,rfl⟩|⟨h1,h2⟩
            . refine⟨_,h1,fun c=>⟨(by grind),fun hc=>?_⟩⟩
              rcases(hrl c _).1 hc with⟨t',h2,h3⟩|⟨h2,_⟩
              . grind[zql]
              . exact absurd h2 (hno0 c t)
            . refine⟨_,h1,fun c=>⟨fun hc=>(hrl c _).2 (.inr ⟨hc,h2⟩),fun hc=>?_⟩⟩
              rcases(hrl c _).1 hc with⟨t',h3,h4⟩|⟨h3,_⟩
              . exact absurd ⟨o0+d,zqs _,by simp,t',h4⟩ (hal j L' h1)
              . exact h3⟩
           have hcell:CR Z (rlb ow q (L++[i,o0+d])) h (L++[i,o0+d]) a (ownd 0 sz es):=by
            have hrel:∀id' t,rlb ow q (L++[i,o0+d]) id'=some (L++[i,o0+d]++t)↔clr ow (AtC L i o0 d) id'=some ([q]++t):=fun id' t=>by
             rw[hrl,clr_some]
             constructor
             . rintro (⟨t',h1,h2⟩|⟨h1,_⟩)
               . have:=zql h2;subst this
                 exact ⟨h1,fun hat=>by
                  obtain⟨u,hu⟩:=Mn hat;rw[hLr]at hu;simp at hu;exact hqr hu.1⟩
               . exact absurd h1 (hno0 id' t)
             grind
            have hax:a=xq\/(es=[]/\(a=.nilsl\/a=.nilsl)/\xM (clr ow (AtC L i o0 d)) [q]):=by
             rcases hxq.inv with⟨_,h2,h3,h4⟩|⟨cid,ces,rfl,h1,_⟩
             . refine .inr ⟨h2,?_,h4⟩
               generalize hy:AV.msl q 0 m sz=y at hv1;cases hv1 with
               |fz f=>cases f<;>cases hy
               |mnil e _ _=>exact e
               | msl h5 h6 =>
                cases hy
                have:=h5 [q] (by grind[loP])
                exact absurd (clr_some.2 ⟨this,fun hat=>by
                 obtain⟨u,hu⟩:=Mn hat;grind⟩) (h4 _ [])
               |_=>cases hy
             . generalize hy:AV.msl q 0 m sz=y at hv1
               cases hv1 with
               |fz f=>cases f<;>cases hy
               | mnil _ h5 _ =>
                grind[loP,clr_some]
               | msl h5 h6 =>
                cases hy;have h7:=h5 [q] (by grind[loP])
                have:=hinj _ _ _ h7 (clr_some.1 h1).1
                subst this
                left;rw[hm];rfl
               |_=>cases hy
            rcases hax with rfl|⟨h2,h3,h4⟩
            . exact hxq.reloc (zqs _) (fun _ hz=>⟨hz,rfl⟩) hrel (fun _ _ _=>rfl)
            . subst h2
              exact .nil h3 fun c t hc=>h4 c t ((hrel c t).1 hc)
           have q1:∀a b M,rlb ow q (L++[i,o0+d]) a=some M->rlb ow q (L++[i,o0+d]) b=some M->a=b:=fun a b M ha hb=>by
            rcases(hrl _ _).1 ha with⟨t,h1,rfl⟩|⟨h1,h2⟩
            . rcases(hrl _ _).1 hb with⟨t',h3,h4⟩|⟨h3,_⟩
              . grind[zql]
              . exact absurd h3 (hno0 _ _)
            . rcases(hrl _ _).1 hb with⟨t',h3,rfl⟩|⟨h3,_⟩
              . exact absurd h1 (hno0 _ _)
              grind
           have q2:∀a M,rlb ow q (L++[i,o0+d]) a=some M->a<h.next/\¬Z a:=(by grind)
           have q3:∀a M,rlb ow q (L++[i,o0+d]) a=some M->M≠[]:=(by grind)
           have q4:∀n L1,loP (os.set q (.sub id i (o0+d))) n id=some L1->L1=L:=fun n L1 hl=>by
            rcases loP_seal hq hrtq hL hLq n id L1 hl with⟨t,h1,_⟩|⟨h1,_⟩
            . grind
            grind
           have q5:∀j L1,loP (os.set q (.sub id i (o0+d))) 6 j=some L1->¬AtC L i (o0+(d+1)) ys.length L1:=fun j L1 hl=>by
            rcases loP_seal hq hrtq hL hLq 6 j L1 hl with⟨t,h1,rfl⟩|⟨h1,_⟩
            . intro hat;have:=Gk hat;omega
            grind
           have q6:∀j,j<ys.length->xM (rlb ow q (L++[i,o0+d])) (L++[i,o0+(d+1)+j]):=fun j hj c t hc=>by
            rcases(hrl _ _).1 hc with⟨t',_,h2⟩|⟨h2,_⟩
            . grind[zql]
            . exact hnos j hj c t h2
           obtain⟨owf,g⟩:=Wc hLr ys xs p.1 (d+1) (os.set q (.sub id i (o0+d))) p.2 (rlb ow q (L++[i,o0+d])) (by omega) hp1 q1 q2 q3 q4 (by grind) q5 q6 (hv2.keep (fun _ hz=>⟨hz,rfl⟩) hk1);have hatC:∀M,¬AtC L i (o0+d) (xs.length+1) M->¬AtC L i (o0+(d+1)) xs.length M/\¬Und (L++[i,o0+d]) M:=fun M hM=>⟨fun⟨o,h1,h2,h3⟩=>hM ⟨o,by omega,by omega,h3⟩,fun h=>hM ⟨o0+d,by omega,by omega,h⟩⟩
           have hcellf:CR Z owf h (L++[i,o0+d]) a (ownd 0 sz es):=by
            refine hcell.reloc (zqs _) (fun _ hz=>⟨hz,rfl⟩) (fun id' t=>?_) (fun _ _ _=>rfl);exact g.at_ id' _ ⟨[i,o0+d]++t,by simp⟩ fun hat=>by have:=Gk hat;omega
           refine⟨owf,?_,g.inj,g.live,hk1.trans g.keep,by simp[g.len],fun j a' b' ha hb=>?_,fun id' M hu hM=>?_,fun id' M h1 hM=>?_,fun id' q' t h1 h2=>?_,fun id'=>?_,fun j hj=>?_,fun j hj=>?_,fun j hj=>?_,by rw[g.ne];simp⟩
           . have:=g.pt
             grind
           . cases j with
             |zero=>cases ha;cases hb;exact⟨hcellf,rfl,Vv _ _ _⟩
             | succ j =>
              have:=g.cr j a' b' ha hb
              grind
           . obtain ⟨h1,h2⟩:=hatC M hM
             rw[g.at_ id' M hu h1,hrl];obtain⟨u,hu⟩:=hu
             constructor
             . rintro(⟨t,_,h4⟩|⟨h3,_⟩)
               . exact absurd ⟨t,h4⟩ h2
               . exact h3
             grind
           . obtain⟨h2,h3⟩:=hatC M hM
             rcases(hrl _ _).1 (g.no id' M h1 h2)with⟨t,_,h4⟩|⟨h4,_⟩
             . exact absurd ⟨t,h4⟩ h3
             . exact h4
           . exact g.lo id' q' t (by grind) h2
           . rw [g.sm id']
             constructor
             . intro h1
               cases e:ow id' with
               |none=>rfl
               | some M =>
                by_cases hM:∃t,M=q::t
                . obtain⟨t,rfl⟩:=hM
                  rw[(hrl id' _).2 (.inl ⟨t,e,rfl⟩)]at h1;cases h1
                grind
             grind[rlb]
           . rw[g.rt j hj,zqc,if_neg (by omega)]
           . have:=g.rt' j hj
             unfold isRt at this|-;grind
           . have hqj:q≠j:=(by grind)
             have:(os.set q (.sub id i (o0+d)))[j]?=os[j]?:=by grind
             rw[g.oth j (by grind),this]
        . cases hs
   |_=>cases hs
end
section
variable {E:Env}{R:AV->AV->Prop}{Z Z':Nat->Prop}{ow ow':Nat->Option (List Nat)}{h h':Heap}{K K':PK}{os os':List PO}{x y:AV}{L M:List Nat}
theorem Hp{id k sz:Nat}{es:List AV}(hr:rowOf os 6 id=some (k,es,sz))(hraw:rawAt os id=true):os[id]?=some (.row k es sz)/\k≠0:=by
 unfold rowOf at hr;unfold rawAt at hraw;grind
theorem PT.rawset(s:PT R Z ow h os){id k sz i off c:Nat}{es ces ncs mcs:List AV}{a e:AV}(hr:os[id]?=some (.row k es sz))(hk:k≠0)(g:RawR R ow h id es sz c ces)(ha:ces[i]?=some a)(he:es[i]?=some e)(hf:off+mcs.length<=sz)(hl:ncs.length=mcs.length)(hn:0<mcs.length)(h1:∀c∈ncs,isAg c=false)(h2:∀c∈mcs,Hm c=true)
 (hR:∀(o:Nat) u w,ncs[o]?=some u->mcs[o]?=some w->R u w):PT R Z ow (h.set c (.row (ces.set i (a.withCells off ncs)) sz)) (os.set id (.row k (es.set i (e.withCells off mcs)) sz)):=by
 have hlt:id<os.length:=(zqb.1 hr).1;have hget:∀r t d,r≠id->ow d=some (r::t)->(h.set c (.row (ces.set i (a.withCells off ncs)) sz)).get d=h.get d:=fun r t d hne ho=>Heap.get_set_ne _ _ fun e=>by
  subst e;rw[g.o]at ho;grind
 have hz:∀d,Z d->Z d/\(h.set c (.row (ces.set i (a.withCells off ncs)) sz)).get d=h.get d:=fun d hd=>⟨hd,Heap.get_set_ne _ _ fun e=>by subst e;exact(s.live _ _ g.o).2.1 hd⟩
 have key:∀{r:Nat}{e':PO},(os.set id (.row k (es.set i (e.withCells off mcs)) sz))[r]?=some e'->(r≠id/\os[r]?=some e')\/(r=id/\e'=.row k (es.set i (e.withCells off mcs)) sz):=(by grind)
 have h2':∀c∈mcs,isAg c=false:=fun c hc=>zP (h2 c hc)
 refine⟨fun r es1 sz1 hq=>?_,fun r k1 es1 sz1 hq hne=>?_,fun r es1 hq=>?_,s.inj,fun d M hd=>?_,s.zb,fun j p q o hq=>?_⟩
 . rcases key hq with⟨hne,h3⟩|⟨_,h3⟩
   . obtain⟨x,hx⟩:=s.row r es1 sz1 h3
     exact⟨x,hx.reloc (zqs _) hz (fun _ _=>.rfl) (fun d t hd=>hget r t d hne hd)⟩
   grind
 . rcases key hq with⟨hne',h3⟩|⟨rfl,h3⟩
   . obtain⟨c1,ces1,g1⟩:=s.raw r k1 es1 sz1 h3 hne
     exact⟨c1,ces1,g1.o,g1.lt,(hget r [] c1 hne' g1.o).trans g1.get,g1.sh,g1.vr,g1.okp,g1.no⟩
   . cases h3
     refine⟨c,_,g.o,g.lt,Heap.get_set_eq _ _ g.get,g.sh.set ha he hf hl hn h1 h2',Zi (R:=fun _ _ u w=>R u w) g.sh ha he hf hl hn h1 h2' (fun j x y hx hy o u w _ hu hw=>g.vr j x y hx hy o u w hu hw) hR,fun j y hy b hb=>?_,g.no⟩;rw[zqc]at hy;by_cases ej:i=j
     . subst ej
       rw[if_pos rfl,if_pos (zqb.1 he).1]at hy;cases hy;have h0:=g.sh.2 i a e ha he;rw[(Q8 (by omega) hn h2').1]at hb;unfold lsplice at hb;rcases zqo.1 hb with hb|hb
       . exact g.okp i e he b (List.mem_of_mem_take hb)
       . rcases zqo.1 hb with hb|hb
         . grind
         . exact g.okp i e he b (List.mem_of_mem_drop hb)
     . rw[if_neg ej]at hy;exact g.okp j y hy b hb
 . rcases key hq with⟨hne,h3⟩|⟨_,h3⟩
   . obtain⟨c1,ces1,g1⟩:=s.map r es1 h3
     exact⟨c1,ces1,g1.o,g1.lt,(hget r [] c1 hne g1.o).trans g1.get,g1.len,fun i x y hx hy=>⟨(g1.kv i x y hx hy).1,(g1.kv i x y hx hy).2.mono hz⟩,g1.no⟩
   . cases h3
 . obtain⟨h3,h4,r,t,h5,h6⟩:=s.live d M hd
   exact⟨h3,h4,r,t,h5,by grind[isRt_set]⟩
 . rw[zqg]
   rcases key hq with⟨_,h3⟩|⟨_,h3⟩
   . exact s.sb j p q o h3
   . cases h3
theorem Xt{α:Type}{l us vs:List α}{p:Nat}(h:p+us.length<=l.length)(e:us.length=vs.length):lsplice (lsplice l p us) p vs=lsplice l p vs:=by
 apply List.ext_getElem?;grind[v6,S9]
theorem Rj{v:AV}{off:Nat}{us vs:List AV}(h:off+us.length<=v.cells.length)(e:us.length=vs.length)(h1:∀c∈us,isAg c=false):(v.withCells off us).withCells off vs=v.withCells off vs:=by
 cases v with
 | agg cs =>
  show AV.agg (O8 (O8 cs off us) off vs)=.agg (O8 cs off vs)
  rw[U6,U6,U6,Xt (l:=cs) h e]
 | _ =>
  cases us with
  | nil =>
   cases vs with
   |nil=>rfl
   |cons=>simp at e
  | cons u us =>
   cases vs with
   |nil=>simp at e
   | cons v vs =>
    cases us with
    | nil =>
     cases vs with
     | nil =>
      have:=h1 u (zqh ..)
      show AV.withCells u off [v]=v
      cases u<;>first|rfl|cases this
     |cons=>simp at e
    |cons=>cases vs<;>first|rfl|(simp at e)
theorem wH{P:List Nat->Prop}(hP:∀M,¬P M):clr ow P=ow:=by
 grind[clr]
theorem Gl{i off n:Nat}:¬AtC L i off n L:=fun⟨o,_,_,u,hu⟩=>by have:=congrArg zqp hu;simp at this
theorem Wd:∀(n id:Nat)(es':List AV)(os':List PO),setRow os n id es'=some os'->∃k es sz,rowOf os n id=some (k,es,sz)
 |0,_,_,_,e=>by cases e
 | n + 1,id,es',os',e=>by
  unfold setRow at e;unfold rowOf;cases he:os[id]? with
  |none=>grind
  | some q =>
   rw[he]at e;cases q with
   |row k es sz=>grind
   |mapo _=>cases e
   |dead=>cases e
   | sub p i o =>
    simp only at e|-;cases hp:rowOf os n p with
    |none=>grind
    | some t =>
     grind
theorem We:∀(n id:Nat)(t:Nat×List AV×Nat),rowOf os n id=some t->rowOf os (n+1) id=some t
 |0,_,_,e=>by cases e
 | n + 1,id,t,e=>by
  unfold rowOf at e|-;cases he:os[id]? with
  |none=>grind
  | some q =>
   rw[he]at e;cases q with
   | sub p i o =>
    simp only at e|-;cases hp:rowOf os n p with
    |none=>grind
    |some u=>rw[hp]at e;rw[We n p u hp];exact e
   |dead=>cases e
   |row=>exact e
   |mapo=>exact e
theorem Wf(w:Wk os os'):∀(n id:Nat)(t:Nat×List AV×Nat),rowOf os' n id=some t->rowOf os n id=some t
 |0,_,_,e=>by cases e
 | n + 1,id,t,e=>by
  unfold rowOf at e|-;rcases w.2 id with e1|⟨p,i,o,e1,e2⟩
  . rw [e1]at e
    cases he:os[id]? with
    |none=>grind
    | some q =>
     rw[he]at e;cases q with
     | sub p i o =>
      simp only at e|-;cases hp:rowOf os' n p with
      |none=>grind
      |some u=>rw[hp]at e;rw[Wf w n p u hp];exact e
     |dead=>cases e
     |row=>exact e
     |mapo=>exact e
  grind
theorem Wg{q:Nat}{e:PO}:∀(n id:Nat),rootOf os n id≠q->(∀p i o,os[q]?≠some (.sub p i o))->rootOf (os.set q e) n id=rootOf os n id
 |0,_,_,_=>rfl
 | n + 1,id,hne,hq=>by
  unfold rootOf;rw[zqc];by_cases hid:q=id
  . subst hid
    unfold rootOf at hne;grind
  . rw [if_neg hid]
    unfold rootOf at hne;cases he:os[id]? with
    |none=>rfl
    | some e' =>
     rw[he]at hne;cases e' with
     |sub p i o=>simp only at hne|-;rw[Wg n p hne hq]
     |_=>rfl
theorem sealC_row{ext r id i j:Nat}:∀(ys cs:List AV)(o:Nat)(os os':List PO),sealC ext r id i o os ys=some (cs,os')->rootOf os 6 j=r->rowOf os' 6 j=rowOf os 6 j/\rootOf os' 6 j=r/\rawAt os' j=rawAt os j
 |[],cs,o,os,os',hs,hr=>by cases hs;grind
 | c :: ys,cs,o,os,os',hs,hr=>by
  unfold sealC at hs;cases hc:clo c with
  | true =>
   rw[hc]at hs;simp only at hs;cases hq:sealC ext r id i (o+1) os ys with
   |none=>grind
   |some p=>rw[hq]at hs;cases hs;exact sealC_row ys p.1 (o+1) os p.2 hq hr
  | false =>
   rw[hc]at hs;simp only at hs;cases c with
   | msl q off m sz =>
    cases off with
    |succ off=>cases hs
    | zero =>
     simp only at hs;cases hq:os[q]? with
     |none=>grind
     | some e =>
      rw[hq]at hs;cases e with
      |mapo=>cases hs
      |sub=>cases hs
      |dead=>cases hs
      | row k es z =>
       cases k with
       |succ k=>cases hs
       | zero =>
        simp only at hs;split at hs
        . rename_i hcond
          cases hr':sealC ext r id i (o+1) (os.set q (.sub id i o)) ys with
          |none=>grind
          | some p =>
           rw[hr']at hs;cases hs;have hne:rootOf os 6 j≠q:=by grind
           have hns:∀p i o,os[q]?≠some (.sub p i o):=fun p i o e=>by grind
           have hqj:q≠j:=(by grind[Go.AM.rootOf])
           obtain⟨h1,h2,h3⟩:=sealC_row ys p.1 (o+1) _ p.2 hr' ((Wg 6 j hne hns).trans hr);simp_all[rawAt,Zk]
        . cases hs
   |_=>cases hs
theorem qW{r k sz sz':Nat}{es es':List AV}(hr:os[r]?=some (.row k es sz))(id:Nat):rawAt (os.set r (.row k es' sz')) id=rawAt os id:=by
 unfold rawAt;grind
theorem Ke:∀(n id:Nat)(es':List AV)(os':List PO),setRow os n id es'=some os'->∃r k es sz es'',os[r]?=some (.row k es sz)/\os'=os.set r (.row k es'' sz):=(by grind[Go.AM.setRow_eq])
theorem qX{P:List Nat->Prop}(hP:∀d M,ow d=some M->¬P M):clr ow P=ow:=by
 grind[clr]
theorem Zl(s:I4 Z ow h K.os){t:TI}{p pc xc:AV}(hp:VR Z ow h K.os pc p)(hx:VR Z ow h K.os xc x)(hs:storeP t p x K=some K'):
 ∃h' ow',Cu t pc xc h=some h'/\I4 Z ow' h' K'.os/\Keep' ow K.os ow' K'.os/\(∀b,Stp b Z ow h K Z ow' h' K'):=by
 cases p with
 | ptr id i off =>
  unfold storeP at hs;simp only at hs;cases hr:rowOf K.os 6 id with
  |none=>rw[hr]at hs;cases hs
  | some q =>
   obtain⟨k,es,sz⟩:=q;rw[hr]at hs;simp only at hs;cases hi:es[i]? with
   |none=>rw[hi]at hs;cases hs
   | some e =>
    rw[hi]at hs;simp only at hs;split at hs
    . rename_i hc
      obtain ⟨hc1,hc2,hc3⟩:=hc;obtain⟨L,hlo,hcr⟩:=s.get 6 id k es sz hr;obtain⟨c,rfl,hoc,hlt⟩:∃c,pc=.ptr c i off/\ow c=some L/\id<K.os.length:=by
       cases hp with
       |fz f=>cases f
       |ptr a b=>exact⟨_,rfl,a L hlo,b⟩
      obtain⟨tl,hLr,hrt,_⟩:=U4 6 id L hlo;have hzc:∀ob d,Z d->Z d/\(h.set c ob).get d=h.get d:=fun ob d hd=>⟨hd,Heap.get_set_ne _ _ fun e=>by subst e;exact(s.live _ _ hoc).2.1 hd⟩
      cases hraw:rawAt K.os id with
      | true =>
       rw[hraw]at hs;simp only at hs;split at hs
       . rename_i hok
         cases hs;rw[zqf]at hok;have hne:x≠.und:=fun e=>by subst e;exact absurd (hok .und (zqh ..)) (by decide)
         have hvl:=hx.cells hne;have hsh:=hx.shape hne;rcases hcr with⟨_,rfl,c0,ces,g⟩|⟨h1,_⟩
         . have:c=c0:=s.inj _ _ _ hoc g.o
           subst this;obtain⟨hro,hk⟩:=Hp hr hraw;have hlc:i<ces.length:=by rw[g.sh.1];exact(zqb.1 hi).1
           have ha:=zqd hlc;have hokc:∀d∈xc.cells,okCell d=true:=fun d hd=>by
            obtain⟨j,hj⟩:=zqi hd;have hjl:j<x.cells.length:=by rw[<-hvl.1];exact(zqb.1 hj).1
            exact(hvl.2 j d _ hj (zqd hjl)).okc (hok _ (List.getElem_mem hjl))
           have hk':Keep' ow K.os ow (K.os.set id (.row k (es.set i (e.withCells off x.cells)) sz)):=⟨by simp,fun j _ L' hl=>⟨L',by rw[Dt hro]at hl;exact hl,fun _=>.rfl⟩⟩
           refine⟨_,ow,store_g g.get ha (hsh.1.trans hc1) hc2 hc3 hokc,I4.to (s.rawset hro hk g ha hi (by omega) (hsh.1) (by omega) (fun d hd=>okCell_nag (hokc d hd)) hok (fun o u w hu hw=>hvl.2 o u w hu hw)) (hzc _) hk',hk',fun b=>?_⟩;have hst:=Stp.store (b:=b) (ow':=ow) (os1:=K.os.set id (.row k (es.set i (e.withCells off x.cells)) sz)) (ob:=.row (ces.set i (ces[i].withCells off xc.cells)) sz) s (r:=id) (t:=[]) (c:=c) hoc (by have e:=(List.cons.inj hLr).1;rw[<-e]at hrt;exact hrt) (fun d M hd _ e=>by rw[hd]at e;cases e) (fun d q t ho _=>.inl ⟨t,ho⟩) (fun j _ c _=>.rfl) (fun j _ hj=>by rw[isRt_set hro]at hj;exact hj);exact hst
         . rw[hraw]at h1;cases h1
       . cases hs
      | false =>
       rw[hraw]at hs;simp only at hs;rcases hcr with⟨h1,_⟩|⟨_,x0,hcr⟩
       . rw[hraw]at h1;cases h1
       rcases hcr.inv with⟨_,e2,_⟩|⟨c0,ces,_,h1,h2,h3,hsp,hin,h5⟩
       . subst e2;simp at hi
       have:c=c0:=s.inj _ _ _ hoc h1
       subst this;have hlc:i<ces.length:=by rw[hsp.1];grind
       have ha:=zqd hlc;have hsh:=hsp.2 i _ e ha hi;split at hs
       . -- nothing that leads anywhere
         rename_i hcl;rw[Bool.and_eq_true,zqf,zqf]at hcl;obtain⟨hcl1,hcl2⟩:=hcl;cases hset:setRow K.os 6 id (es.set i (e.withCells off x.cells))with
         |none=>grind
         | some os2 =>
          rw[hset]at hs;cases hs;have hne:x≠.und:=fun e=>by subst e;exact absurd (hcl1 .und (zqh ..)) (by decide)
          have hvl:=hx.cells hne;have hxs:=hx.shape hne;have hokc:∀d∈xc.cells,okCell d=true:=fun d hd=>by
           obtain⟨j,hj⟩:=zqi hd;have hjl:j<x.cells.length:=by grind
           exact(hvl.2 j d _ hj (zqd hjl)).okc (by grind[Go.AM.clo_okP])
          have d:Dl Z ow h Z ow (h.set c (.row (ces.set i (ces[i].withCells off xc.cells)) sz)) L:=⟨zqs _,hzc _,fun _ _ _=>.rfl,fun d M hd hM=>Heap.get_set_ne _ _ fun e=>by subst e;rw[hoc]at hd;cases hd;exact hM (.refl _)⟩
          obtain⟨r,k0,es0,sz0,es0',hr0,hos,_⟩:=setRow_eq _ _ _ _ hset;have hk':Keep' ow K.os ow os2:=⟨by grind,fun j _ L' hl=>⟨L',by grind[Dt],fun _=>.rfl⟩⟩
          refine⟨_,ow,(by grind[Go.AM.store_g]),I4.to (s.set d s.inj s.live s.zb (fun _ _ _ _ _ _ hi=>hi) 6 id k es sz _ os2 L [] (by simp) hr hlo hraw hset fun x1 hx1=>?_) (hzc _) hk',hk',fun b=>Stp.store s (r:=rootOf K.os 6 id) (t:=tl) (c:=c) (by grind) hrt (by grind) (fun d q t ho _=>.inl ⟨t,ho⟩) (fun j _ c _=>.rfl) (by grind[Go.AM.isRt_set])⟩;rcases hx1.inv with⟨_,e2,_⟩|⟨c1,ces1,rfl,g1,g2,g3,g4,g5,g6⟩
          . grind
          . have:c=c1:=s.inj _ _ _ hoc g1
            subst this;rw[h3]at g3;cases g3;have hreloc:∀M u w,(∀q,M++q≠L)->CR Z ow h M u w->CR Z ow (h.set c (.row (ces.set i (ces[i].withCells off xc.cells)) sz)) M u w:=fun M u w hM hc=>hc.reloc (zqs _) (hzc _) (fun _ _=>.rfl) (fun d q hd=>Heap.get_set_ne _ _ (by grind))
            have hMne:∀(j o:Nat)(q:List Nat),L++[j,o]++q≠L:=(by simp_all)
            refine CR.cells (a:=ces[i]) (ncs:=xc.cells) hoc h2 (Heap.get_set_eq _ _ h3) hsp ha hi (by omega) hxs.1 (by omega) (fun d hd=>okCell_nag (hokc d hd)) (fun d hd=>nS (hcl1 d hd)) hin (by simp_all) (fun o u w hu hw=>?_);have hol:o<x.cells.length:=(zqb.1 hw).1;refine .val (((hvl.2 o u w hu hw).fzc (hcl1 w (zqe hw))).mono (hzc _)) (hcl1 w (zqe hw)) ?_;have hwe:off+o<e.cells.length:=by omega
            have hwc:off+o<ces[i].cells.length:=by omega
            have hold:=h5 i _ e ha hi (off+o) _ _ (zqd hwc) (zqd hwe);have hcle:clo (e.cells[off+o])=true:=hcl2 _ (zqe (i:=o) (by simp_all));generalize e.cells[off+o]=w' at hold hcle;generalize (ces[i]).cells[off+o]=u' at hold;cases hold with
            |val _ _ n=>exact n
            |und=>cases hcle
            |nil=>cases hcle
            |own=>cases hcle
       . -- the cells take in what is theirs
         cases hset0:setRow (killP K.os (rootOf K.os 6 id) (chainOf K.os 6 id)) 6 id (es.set i (e.withCells off (zqa t.size .und)))with
         |none=>grind
         | some os0 =>
          rw[hset0]at hs;simp only at hs;cases hseal:sealC K.ext (rootOf K.os 6 id) id i off os0 x.cells with
          |none=>grind
          | some q =>
           obtain⟨cs,os1⟩:=q;rw[hseal]at hs;simp only at hs;cases hset:setRow os1 6 id (es.set i (e.withCells off cs))with
           |none=>rw[hset]at hs;cases hs
           | some os2 =>
            rw [hset]at hs;cases hs;have hlen:x.cells.length=t.size:=hc1;have hne:x≠.und:=fun e=>by
             subst e;unfold sealC at hseal;cases hseal
            have hvl:=hx.cells hne;have hxs:=hx.shape hne;have hw:=Mi K.os (rootOf K.os 6 id) (chainOf K.os 6 id);obtain⟨k',es',sz',hrk⟩:=Wd _ _ _ _ hset0
            have:=Wf hw 6 id _ hrk
            rw[hr]at this;cases this;have s1:=s.wk hw;have hrawk:rawAt (killP K.os (rootOf K.os 6 id) (chainOf K.os 6 id)) id=false:=(hw.raw id).trans hraw;obtain⟨Lk,hlok,_⟩:=s1.get 6 id k es sz hrk
            have:=hw.lo 6 id Lk hlok
            rw[hlo]at this;cases this;have halive:∀j L1,loP (killP K.os (rootOf K.os 6 id) (chainOf K.os 6 id)) 6 j=some L1->¬AtC L i off t.size L1:=fun j L1 h1 ⟨o,_,_,hu⟩=>kill_alive hlo h1 (by simp) hu
            obtain⟨s2,k2,n2⟩:=s1.forget hrk hrawk hlok hi hc3 hc2 halive hset0;obtain⟨r0,kr0,er0,sr0,er0',hr0,hos0⟩:=Ke _ _ _ _ hset0;have hlo0:∀n j,loP os0 n j=loP (killP K.os (rootOf K.os 6 id) (chainOf K.os 6 id)) n j:=fun n j=>by rw[hos0,Dt hr0]
            have hvl0:VL Z (clr ow (AtC L i off t.size)) h os0 xc.cells x.cells:=hvl.keep (fun _ hz=>⟨hz,rfl⟩) (hw.keep.trans k2);have hrt0:rootOf os0 6 id=rootOf K.os 6 id:=by
             obtain⟨t1,h1,_⟩:=U4 6 id L ((hlo0 6 id).trans hlok);rw[hLr]at h1;exact(List.cons.inj h1).1.symm
            obtain ⟨owf,g⟩:=Wc (R:=VR Z ow h K.os) (Z:=Z) (h:=h) (o0:=off) hLr x.cells xc.cells cs 0 os0 os1 (clr ow (AtC L i off t.size)) hseal (by rw[wH (fun M ⟨o,h1,h2,_⟩=>by omega)];exact s2) s2.inj (fun a M ha=>⟨(s2.live a M ha).1,(s2.live a M ha).2.1⟩) (fun a M ha e=>by obtain⟨_,_,r,t,h,_⟩:=s2.live a M ha;grind) (by grind[Go.AM.loP_uniq]) (by rw[hos0,zqg,hw.1];exact hlt) (by grind) (fun j hj=>n2 j (by omega)) hvl0;have hokx:∀d∈xc.cells,okCell d=true:=fun d hd=>by
             obtain⟨j,hj⟩:=zqi hd;have hjl:j<cs.length:=by rw[g.len];grind
             obtain⟨hcr,_,hnu⟩:=g.cr j d _ hj (zqd hjl);generalize cs[j]=b at hcr hnu;cases hcr with
             |val f e _=>exact f.okc e
             |und=>grind
             |nil e _=>rcases e with rfl|rfl<;>rfl
             |own=>unfold refK;split<;>rfl
            have hcsl:cs.length=t.size:=by rw[g.len,hxs.1,hc1]
            have hcsa:∀d∈cs,isAg d=false:=fun d hd=>by
             obtain⟨j,hj⟩:=zqi hd;have hjl:j<xc.cells.length:=by grind
             exact(g.cr j _ d (zqd hjl) hj).2.1
            have hr1:rowOf os1 6 id=some (k,es.set i (e.withCells off (zqa t.size .und)),sz):=by
             rw[(sealC_row _ _ _ _ _ hseal hrt0).1];grind[Mm]
            have hraw0:rawAt os0 id=false:=by grind[qW]
            have hraw1:rawAt os1 id=false:=(sealC_row _ _ _ _ _ hseal hrt0).2.2.trans hraw0;have hA:∀M,¬Und L M->¬AtC L i off t.size M:=fun M hM ha=>hM (Mn ha)
            have hxl:xc.cells.length=t.size:=hxs.1.trans hc1;have gpt:=g.pt;rw[zqy,hxl]at gpt;have hlo1:loP os1 6 id=some L:=by
             obtain ⟨L1,h6,_⟩:=gpt.get 6 id _ _ _ hr1;have hle:L1=L:=by
              have:=g.keep.2 id (by rw[hos0,zqg,hw.1];exact hlt) L1 h6
              obtain⟨L2,h7,h8⟩:=this;have h9:L2=L:=(by grind)
              subst h9;have hcl:clr ow (AtC L2 i off t.size) c=some L2:=clr_some.2 ⟨hoc,Gl⟩;have h10:=(h8 c).1 hcl;have h11:owf c=some L2:=(g.at_ c L2 (.refl _) Gl).2 hcl;grind
             grind
            have hcf:owf c=some L:=(g.at_ c L (.refl _) Gl).2 (clr_some.2 ⟨hoc,Gl⟩);have d:Dl Z (clr owf (AtC L i off t.size)) h Z owf (h.set c (.row (ces.set i (ces[i].withCells off xc.cells)) sz)) L:=⟨zqs _,hzc _,(by grind[Go.AM.clr_some]),fun d M hd hM=>Heap.get_set_ne _ _ fun e=>by
             subst e
             have:=(clr_some.1 hd).1
             rw[hcf]at this;cases this;exact hM (.refl _)⟩
            have hnatc1:∀j,¬AtC L i off t.size [j]:=fun j ⟨o,_,_,u,hu⟩=>by
             simp_all
            obtain ⟨r3,k3,e3,z3,e3',hr3,hos3⟩:=Ke _ _ _ _ hset;have hlive:∀a M,owf a=some M->a<(h.set c (.row (ces.set i (ces[i].withCells off xc.cells)) sz)).next/\¬Z a/\∃r t,M=r::t/\isRt os1 r=true:=fun a M ha=>by
             refine⟨(g.live a M ha).1,(g.live a M ha).2,?_⟩;by_cases hat:AtC L i off t.size M
             . obtain⟨o,_,_,u,rfl⟩:=hat
               obtain⟨_,_,r,t,h6,h7⟩:=gpt.live c L (clr_some.2 ⟨hcf,Gl⟩);grind
             . exact(gpt.live a M (clr_some.2 ⟨ha,hat⟩)).2.2
            have hks:Keep' owf os1 owf os2:=⟨by grind,fun j _ L' hl=>⟨L',by grind[Dt],fun _=>.rfl⟩⟩
            have hkt:Keep' ow K.os owf os2:=((hw.keep.trans k2).trans g.keep).trans hks;refine⟨_,owf,(by grind[Go.AM.store_g]),I4.to (gpt.set d g.inj hlive s2.zb (fun M m z u0 hM hu0 hi=>?_) 6 id k _ sz _ os2 L [] (by simp) hr1 hlo1 hraw1 hset fun x1 hx1=>?_) (hzc _) hkt,hkt,fun b=>Stp.store s (r:=rootOf K.os 6 id) (t:=tl) (c:=c) (by grind) hrt (fun d M hd _=>?_) (fun d q u0 ho hq=>?_) (fun j hj c' _=>?_) (fun j _ hj=>?_)⟩
            . intro c' t' hc'
              by_cases hat:AtC L i off t.size (M++t')
              . obtain ⟨o,_,_,u,hu⟩:=hat
                rw[hM]at hu
                have:t'=u0++([i,o]++u):=by
                 grind[zql]
                rcases hi c u0 (by grind[clr_some])with h|⟨i',o',q,h,h8,h9⟩
                . grind
                grind
              . exact hi c' t' (clr_some.2 ⟨hc',hat⟩)
            . rcases hx1.inv with⟨_,e2,_⟩|⟨c1,ces1,rfl,g1,g2,g3,g4,g5,g6⟩
              . simp_all
              . have:c=c1:=g.inj _ _ _ hcf (clr_some.1 g1).1
                subst this;rw[h3]at g3;cases g3;have hil:=(zqb.1 hi).1;have w2:=Q8 (v:=e) (off:=off) (ncs:=zqa t.size .und) (by rw[zqk];omega) (by simpa using hc2) nag_rep;have hi1:(es.set i (e.withCells off (zqa t.size .und)))[i]?=some (e.withCells off (zqa t.size .und)):=by grind
                have hes:es.set i (e.withCells off cs)=(es.set i (e.withCells off (zqa t.size .und))).set i ((e.withCells off (zqa t.size .und)).withCells off cs):=by
                 rw[List.set_set,Rj (by rw[zqk];omega) (by rw[zqk];exact hcsl.symm) nag_rep]
                rw[hes];have hMne:∀(j o:Nat)(q:List Nat),L++[j,o]++q≠L:=(by simp_all)
                refine CR.cells (a:=ces[i]) (ncs:=xc.cells) hcf h2 (Heap.get_set_eq _ _ h3) g4 ha hi1 (by omega) (by omega) (by omega) (fun d hd=>okCell_nag (hokx d hd)) hcsa (fun c' t' hc'=>?_) (fun j x y hx hy o u w hjo hu hw=>?_) (fun o u w hu hw=>?_)
                . by_cases hat:AtC L i off t.size (L++t')
                  . obtain⟨o,ho1,ho2,u,hu⟩:=hat
                    grind[zql]
                  . exact g5 c' t' (clr_some.2 ⟨hc',hat⟩)
                . refine (g6 j x y hx hy o u w hu hw).reloc (zqs _) (hzc _) (fun d q=>?_) (fun d q hd=>Heap.get_set_ne _ _ fun e=>?_)
                  . rw[clr_some]
                    exact⟨fun h=>⟨h,fun hat=>by have:=Gk hat;grind⟩,fun h=>h.1⟩
                  simp_all
                . refine(g.cr o u w hu hw).1.reloc (zqs _) (hzc _) (fun _ _=>.rfl) (fun d q hd=>Heap.get_set_ne _ _ fun e=>?_)
                  subst e;rw[hcf]at hd;exact hMne i _ q (Option.some.inj hd).symm
            . intro e
              have:=(g.sm d).2 (by unfold clr;rw[e])
              rw[this]at hd;cases hd
            . by_cases hat:AtC L i off t.size (q::u0)
              . right
                obtain⟨u,hu⟩:=Mn hat;rw[hLr]at hu;simp at hu;exact hu.1
              . exact .inl ⟨_,g.lo d q _ (clr_some.2 ⟨ho,hat⟩) hq⟩
            . constructor
              . exact fun h=>g.lo c' j [] (clr_some.2 ⟨h,hnatc1 j⟩) hj
              . exact fun h=>(clr_some.1 (g.no c' [j] h (by rw[hxl];exact hnatc1 j))).1
            . rw[hos3,isRt_set hr3]at hj
              have:=g.rt' j hj
              rw[hos0,isRt_set hr0,hw.rt]at this;exact this
    . cases hs
 |_=>cases hs
end
section
variable {E:Env}{R:AV->AV->Prop}{Z Z':Nat->Prop}{ow ow':Nat->Option (List Nat)}{h h':Heap}{K K':PK}{os os':List PO}{x y:AV}{L M:List Nat}
theorem PT.noHead(s:PT R Z ow h os)(d:Nat)(t:List Nat):ow d≠some (os.length::t):=fun e=>by
 obtain⟨_,_,r,t',h1,h2⟩:=s.live _ _ e;cases h1;exact absurd (X2 h2) (by omega)
theorem PT.new(s:PT R Z ow h os)(e:PO)(hn:h.next<=h'.next)(hZ:∀d,Z d->h'.get d=h.get d)(hg:∀d M,ow d=some M->h'.get d=h.get d)(ho:∀d M,(∀t,M≠os.length::t)->(ow' d=some M↔ow d=some M))
 (hinj:∀a b t,ow' a=some (os.length::t)->ow' b=some (os.length::t)->a=b)(hlive:∀d t,ow' d=some (os.length::t)->d<h'.next/\¬Z d)(hrt:isRt (os++[e]) os.length=true)
 (h0:∀es sz,e=.row 0 es sz->∃x,CR Z ow' h' [os.length] x (ownd 0 sz es))(h1:∀k es sz,e=.row k es sz->k≠0->∃c ces,RawR R ow' h' os.length es sz c ces)(h2:∀es,e=.mapo es->∃c ces,MapR Z ow' h' os.length es c ces):PT R Z ow' h' (os++[e]):=by
 have key:∀{r:Nat}{e':PO},(os++[e])[r]?=some e'->(r<os.length/\os[r]?=some e')\/(r=os.length/\e'=e):=(by grind)
 have hz:∀d,Z d->Z d/\h'.get d=h.get d:=fun d hd=>⟨hd,hZ d hd⟩
 have hne:∀{r:Nat}(t t':List Nat),r<os.length->r::t≠os.length::t':=fun t t' hl e=>by grind
 refine⟨fun r es sz hq=>?_,fun r k es sz hq hk=>?_,fun r es hq=>?_,fun a b M ha hb=>?_,fun d M hd=>?_,fun d hd=>zqt (s.zb d hd) hn,fun j p i o hq=>?_⟩
 . rcases key hq with⟨hl,h3⟩|⟨rfl,rfl⟩
   . obtain⟨x,hx⟩:=s.row r es sz h3
     exact⟨x,hx.reloc hn hz (by grind) (fun d t hd=>hg d _ hd)⟩
   grind
 . rcases key hq with⟨hl,h3⟩|⟨rfl,rfl⟩
   . obtain⟨c,ces,g⟩:=s.raw r k es sz h3 hk
     exact⟨c,ces,(ho c _ fun t'=>hne [] t' hl).2 g.o,zqt g.lt hn,(hg c _ g.o).trans g.get,g.sh,g.vr,g.okp,fun a t ha=>g.no a t ((ho a _ fun t'=>hne t t' hl).1 ha)⟩
   grind
 . rcases key hq with⟨hl,h3⟩|⟨rfl,rfl⟩
   . obtain⟨c,ces,g⟩:=s.map r es h3
     exact⟨c,ces,(ho c _ fun t'=>hne [] t' hl).2 g.o,zqt g.lt hn,(hg c _ g.o).trans g.get,g.len,fun i x y hx hy=>⟨(g.kv i x y hx hy).1,(g.kv i x y hx hy).2.mono hz⟩,fun a t ha=>g.no a t ((ho a _ fun t'=>hne t t' hl).1 ha)⟩
   grind
 . by_cases hM:∃t,M=os.length::t
   . grind
   . exact s.inj a b M (by grind) (by grind)
 . by_cases hM:∃t,M=os.length::t
   . grind
   . obtain⟨h3,h4,r,t,h5,h6⟩:=s.live d M (by grind)
     grind[Vz]
 . rw[zqq]
   rcases key hq with⟨hl,h3⟩|⟨rfl,rfl⟩
   . have:=s.sb j p i o h3;omega
   grind[isRt]
theorem Wh(s:PT R Z ow h os){e:PO}(ho:∀d M,(∀t,M≠os.length::t)->(ow' d=some M↔ow d=some M)):Keep' ow os ow' (os++[e]):=
 Mj s.sb fun id hi L hl c=>(ho c L fun t e=>by
  obtain⟨t',h1,h2,_⟩:=U4 _ _ _ hl;rw[h1]at e;have h3:=X2 h2;grind).symm
def f8(ow:Nat->Option (List Nat))(c:Nat)(L:List Nat):Nat->Option (List Nat):=fun d=>if d=c then some L else ow d
theorem wI(s:PT R Z ow h os){c:Nat}(hc:ow c=none)(d:Nat)(M:List Nat)(hM:∀t,M≠os.length::t):f8 ow c [os.length] d=some M↔ow d=some M:=by
 unfold f8;grind
theorem own1_new(s:PT R Z ow h os){c d:Nat}{t:List Nat}:f8 ow c [os.length] d=some (os.length::t)↔d=c/\t=[]:=by
 unfold f8;split
 . grind
 . rename_i e
   exact⟨fun h=>absurd h (s.noHead d t),fun h=>absurd h.1 e⟩
theorem PT.next_none(s:PT R Z ow h os):ow h.next=none:=by
 cases e:ow h.next with
 |none=>rfl
 |some M=>exact absurd (s.live _ _ e).1 (by omega)
theorem PT.lay(s:PT R Z ow h os){e:PO}{ob:AObj}(hrt:isRt (os++[e]) os.length=true)
 (h0:∀es sz,e=.row 0 es sz->∃x,CR Z (f8 ow h.next [os.length]) (h.push ob) [os.length] x (ownd 0 sz es))(h1:∀k es sz,e=.row k es sz->k≠0->∃c ces,RawR R (f8 ow h.next [os.length]) (h.push ob) os.length es sz c ces)(h2:∀es,e=.mapo es->∃c ces,MapR Z (f8 ow h.next [os.length]) (h.push ob) os.length es c ces):
 PT R Z (f8 ow h.next [os.length]) (h.push ob) (os++[e])/\Keep' ow os (f8 ow h.next [os.length]) (os++[e]):=by
 have hg:∀d,d<h.next->(h.push ob).get d=h.get d:=(by grind[Go.AM.Heap.get_push_ne])
 have ho:=wI s s.next_none;exact⟨s.new e (zqv _) (fun d hd=>hg d (s.zb d hd)) (fun d M hd=>hg d (s.live d M hd).1) ho (by grind[Go.AM.own1_new]) (fun d t hd=>by
  have:=((own1_new s).1 hd).1
  subst this;exact⟨zqw _,fun hz=>absurd (s.zb _ hz) (by omega)⟩) hrt h0 h1 h2,Wh s ho⟩
theorem Stp.lay{b:Nat}{ob:AObj}{ps:List PO}(s:PT R Z ow h K.os)(hx:K.ext<=K.os.length):Stp b Z ow h K Z (f8 ow h.next [K.os.length]) (h.push ob) {K with os:=K.os++ps}:=by
 have hg:∀d,d<h.next->(h.push ob).get d=h.get d:=(by grind[Go.AM.Heap.get_push_ne])
 have hne:∀d M,ow d=some M->d≠h.next:=fun d M hd e=>by have:=(s.live d M hd).1;omega
 refine⟨zqv _,fun d hz=>⟨hz,hg d (s.zb d hz)⟩,fun d hz=>.inl hz,fun d hd _=>hg d hd,fun d M hd hl e=>?_,⟨[],rfl,fun d hd=>by cases hd⟩,fun d r t ho _=>.inl ⟨t,?_⟩,fun r hr _=>hr,rfl,fun j hj c hr=>?_,fun j hj hr=>?_⟩
 . simp_all[f8]
 . simp_all[f8]
 . unfold f8
   grind
 grind[isRt]
def FV(E:Env):Prop:=∀t ti,E.ti t=some ti->(∀Z h,Fz Z h ti.zero ti.zero)/\ti.zero.cells.length=ti.size
theorem Co(os:List PO){e:PO}(he:(∃k es sz,e=.row k es sz)\/∃es,e=.mapo es):isRt (os++[e]) os.length=true:=by
 unfold isRt;grind
theorem Se(h:Heap)(ob:AObj):(h.push ob).get h.next=some ob:=Heap.get_push_eq h ob
theorem Mo(s:PT R Z ow h os)(a:Nat)(t:List Nat)(ha:f8 ow h.next [os.length] a=some (os.length::t)):t=[]:=((own1_new s).1 ha).2
theorem V0(ow:Nat->Option (List Nat))(c:Nat)(L:List Nat):f8 ow c L c=some L:=by unfold f8;grind
theorem Ol(os:List PO){e:PO}(he:(∃k es sz,e=.row k es sz)\/∃es,e=.mapo es):loP (os++[e]) 6 os.length=some [os.length]:=by
 unfold loP;grind
theorem nT(s:I4 Z ow h K.os)(hx:K.ext<=K.os.length){sz:Nat}{v vc:AV}(hv:VR Z ow h K.os vc v)(hl:v.cells.length=sz)(ho:∀b∈v.cells,Hm b=true):
 I4 Z (f8 ow h.next [K.os.length]) (h.push (.row [vc] sz)) (newRow 1 [v] sz K).os/\Keep' ow K.os (f8 ow h.next [K.os.length]) (newRow 1 [v] sz K).os/\VR Z (f8 ow h.next [K.os.length]) (h.push (.row [vc] sz)) (newRow 1 [v] sz K).os (.ptr h.next 0 0) (.ptr K.os.length 0 0)/\∀b,Stp b Z ow h K Z (f8 ow h.next [K.os.length]) (h.push (.row [vc] sz)) (newRow 1 [v] sz K):=by
 have hne:v≠.und:=fun e=>by subst e;exact absurd (ho .und (zqh ..)) (by decide)
 have hsh:=hv.shape hne;have hvl:=hv.cells hne;have he:(∃k es z,PO.row 1 [v] sz=.row k es z)\/∃es,PO.row 1 [v] sz=.mapo es:=.inl ⟨_,_,_,rfl⟩;have key:=PT.lay (ob:=.row [vc] sz) s (e:=.row 1 [v] sz) (Co _ he) (fun es z e=>by cases e) (fun k es z e hk=>by
  cases e;refine⟨h.next,[vc],V0 _ _ _,zqw _,Se h _,⟨rfl,fun i x y hx hy=>?_⟩,fun i x y hx hy o a b ha hb=>?_,fun i y hy b hb=>?_,Mo s⟩
  . grind
  . cases i with
    |zero=>cases hx;cases hy;exact hvl.2 o a b ha hb
    |succ i=>simp at hx
  grind) (fun es e=>by cases e)
 refine⟨I4.to key.1 (fun d hd=>⟨hd,Heap.get_push_ne h _ (by have:=s.zb d hd;omega)⟩) key.2,key.2,.ptr (fun L hL=>?_) (by show _<(K.os++[PO.row 1 [v] sz]).length;simp),fun b=>Stp.lay s hx⟩;have hL:loP (K.os++[PO.row 1 [v] sz]) 6 K.os.length=some L:=hL;grind[Ol,V0]
theorem iF(s:I4 Z ow h K.os)(hx:K.ext<=K.os.length){sz n:Nat}{z:AV}(hz:∀Z h,Fz Z h z z)(hl:z.cells.length=sz):
 I4 Z (f8 ow h.next [K.os.length]) (h.push (.row (zqa n z) sz)) (newRow 0 (zqa n z) sz K).os/\Keep' ow K.os (f8 ow h.next [K.os.length]) (newRow 0 (zqa n z) sz K).os/\VR Z (f8 ow h.next [K.os.length]) (h.push (.row (zqa n z) sz)) (newRow 0 (zqa n z) sz K).os (.msl h.next 0 n sz) (.msl K.os.length 0 n sz)/\∀b,Stp b Z ow h K Z (f8 ow h.next [K.os.length]) (h.push (.row (zqa n z) sz)) (newRow 0 (zqa n z) sz K):=by
 have he:(∃k es z',PO.row 0 (zqa n z) sz=.row k es z')\/∃es,PO.row 0 (zqa n z) sz=.mapo es:=.inl ⟨_,_,_,rfl⟩;have hrep:∀{i:Nat}{x:AV},(zqa n z)[i]?=some x->x=z:=(by grind)
 have key:=PT.lay (ob:=.row (zqa n z) sz) s (e:=.row 0 (zqa n z) sz) (Co _ he) (fun es z' e=>by
  cases e;refine⟨_,.own (k:=0) (V0 _ _ _) (zqw _) (Se h _) rfl (fun c t hc=>.inl (Mo s c t hc)) (fun i x y hx hy=>?_) (fun i x y hx hy o a b ha hb=>?_)⟩
  . grind
  . rw [hrep hx]at ha
    rw[hrep hy]at hb
    have:=(hz Z (h.push (.row (zqa n z) sz))).cell ha hb
    exact .val this.1 this.2 fun c t hc=>by
     grind[Mo]) (by grind) (fun es e=>by cases e)
 refine⟨I4.to key.1 (fun d hd=>⟨hd,Heap.get_push_ne h _ (by have:=s.zb d hd;omega)⟩) key.2,key.2,.msl (fun L hL=>?_) (by show _<(K.os++[PO.row 0 (zqa n z) sz]).length;simp),fun b=>Stp.lay s hx⟩;have hL:loP (K.os++[PO.row 0 (zqa n z) sz]) 6 K.os.length=some L:=hL;grind[Ol,V0]
theorem qY(s:I4 Z ow h K.os)(hx:K.ext<=K.os.length):
 I4 Z (f8 ow h.next [K.os.length]) (h.push (.mapo [])) (K.os++[.mapo []])/\Keep' ow K.os (f8 ow h.next [K.os.length]) (K.os++[.mapo []])/\VR Z (f8 ow h.next [K.os.length]) (h.push (.mapo [])) (K.os++[.mapo []]) (.map h.next) (.map K.os.length)/\∀b,Stp b Z ow h K Z (f8 ow h.next [K.os.length]) (h.push (.mapo [])) {K with os:=K.os++[.mapo []]}:=by
 have he:(∃k es z',PO.mapo []=.row k es z')\/∃es,PO.mapo []=.mapo es:=.inr ⟨_,rfl⟩;have key:=PT.lay (ob:=.mapo []) s (e:=.mapo []) (Co _ he) (fun es z' e=>by cases e) (fun k es z e hk=>by cases e) (fun es e=>by
  cases e;exact⟨h.next,[],V0 _ _ _,zqw _,Se h _,rfl,fun i x y hx=>by simp at hx,Mo s⟩)
 refine⟨I4.to key.1 (fun d hd=>⟨hd,Heap.get_push_ne h _ (by have:=s.zb d hd;omega)⟩) key.2,key.2,.map (fun L hL=>?_) (by simp),fun b=>Stp.lay s hx⟩;grind[Ol,V0]
end
section
variable {E:Env}{R:AV->AV->Prop}{Z Z':Nat->Prop}{ow ow' owk:Nat->Option (List Nat)}{h h':Heap}{K K':PK}{os os':List PO}{x y:AV}{L M:List Nat}
noncomputable def lL(ow:Nat->Option (List Nat))(Gn:List Nat->Prop)(G:Nat->Nat->List Nat)(N sz c n:Nat):Nat->Option (List Nat):=fun d=>open Classical in
 if d=c then some [n]else match ow d with
 |none=>none
 |some M=>if hx:∃p:Nat×Nat×List Nat,p.1<N/\p.2.1<sz/\M=G p.1 p.2.1++p.2.2 then some (n::hx.choose.1::hx.choose.2.1::hx.choose.2.2)else if Gn M then none else some M
theorem Hq{Gn:List Nat->Prop}{G:Nat->Nat->List Nat}{N sz c n d:Nat}{M':List Nat}(hG:∀i o t,i<N->o<sz->Gn (G i o++t))(hu:∀i o t i' o' t',i<N->o<sz->i'<N->o'<sz->G i o++t=G i' o'++t'->i=i'/\o=o'/\t=t'):
 lL ow Gn G N sz c n d=some M'↔(d=c/\M'=[n])\/(d≠c/\∃i o t,i<N/\o<sz/\ow d=some (G i o++t)/\M'=n::i::o::t)\/(d≠c/\ow d=some M'/\¬Gn M'):=by
 unfold lL;by_cases hd:d=c
 . grind
 . rw [if_neg hd]
   cases e:ow d with
   | none =>
    grind
   | some M =>
    simp only;by_cases hx:∃p:Nat×Nat×List Nat,p.1<N/\p.2.1<sz/\M=G p.1 p.2.1++p.2.2
    . rw [dif_pos hx]
      have hs:=hx.choose_spec;generalize hx.choose=p at hs;obtain⟨h1,h2,h3⟩:=hs
      constructor
      . intro h;cases h
        exact .inr (.inl ⟨hd,_,_,_,h1,h2,by rw[h3],rfl⟩)
      . rintro (⟨h,_⟩|⟨_,i,o,t,h4,h5,h6,rfl⟩|⟨_,h4,h5⟩)
        . exact absurd h hd
        . have h6:=Option.some.inj h6
          rw[h3]at h6;obtain⟨a,b,c⟩:=hu _ _ _ _ _ _ h1 h2 h4 h5 h6;rw[a,b,c]
        . cases h4
          exact absurd (by rw[h3];exact hG _ _ _ h1 h2) h5
    . rw [dif_neg hx]
      by_cases hg:Gn M
      . rw [if_pos hg]
        constructor
        . intro h;cases h
        . rintro(⟨h,_⟩|⟨_,i,o,t,h4,h5,h6,rfl⟩|⟨_,h4,h5⟩)
          . grind
          . simp_all
          grind
      grind
theorem PT.graft(s:PT R Z owk h os){Gn:List Nat->Prop}{G:Nat->Nat->List Nat}{sz c:Nat}{ces es:List AV}(hk:∀d M,owk d=some M↔ow d=some M/\¬Gn M)(hinj:∀a b M,ow a=some M->ow b=some M->a=b)(hlive:∀a M,ow a=some M->a<h.next/\¬Z a)
 (hG:∀i o t,i<es.length->o<sz->Gn (G i o++t))(hu:∀i o t i' o' t',i<es.length->o<sz->i'<es.length->o'<sz->G i o++t=G i' o'++t'->i=i'/\o=o'/\t=t')(hs:dN sz ces es)
 (hcr:∀(i:Nat) x y,ces[i]?=some x->es[i]?=some y->∀(o:Nat) a b,x.cells[o]?=some a->y.cells[o]?=some b->CR Z ow h (G i o) a b)(hn:h.next<=h'.next)(hZ:∀d,Z d->h'.get d=h.get d)(hc:c<h'.next)(hcz:¬Z c)(hget:h'.get c=some (.row ces sz))(hoc:∀M,ow c=some M->Gn M/\∀i o t,i<es.length->o<sz->M≠G i o++t)
 (hg:∀d M,ow d=some M->(¬Gn M\/∃i o t,i<es.length/\o<sz/\M=G i o++t)->h'.get d=h.get d):
 PT R Z (lL ow Gn G es.length sz c os.length) h' (os++[.row 0 es sz])/\Keep' owk os (lL ow Gn G es.length sz c os.length) (os++[.row 0 es sz]):=by
 have gs:=fun d M'=>Hq (ow:=ow) (c:=c) (n:=os.length) (d:=d) (M':=M') hG hu
 have hz:∀d,Z d->Z d/\h'.get d=h.get d:=fun d hd=>⟨hd,hZ d hd⟩
 have ho:∀d M,(∀t,M≠os.length::t)->(lL ow Gn G es.length sz c os.length d=some M↔owk d=some M):=(by grind)
 have hno:∀d t,ow d=some (os.length::t)->Gn (os.length::t):=fun d t hd=>Classical.byContradiction fun hg=>s.noHead d t ((hk _ _).2 ⟨hd,hg⟩)
 refine⟨s.new _ hn hZ (by grind) ho (fun a b t ha hb=>?_) (fun d t hd=>?_) (Co _ (.inl ⟨_,_,_,rfl⟩)) (fun es' sz' e=>?_) (by grind) (fun es' e=>by cases e),Wh s ho⟩
 . grind
 . grind
 . cases e
   have hoc':lL ow Gn G es.length sz c os.length c=some [os.length]:=(gs c _).2 (.inl ⟨rfl,rfl⟩);refine⟨_,.own (k:=0) hoc' hc hget hs.1 (fun d t hd=>?_) hs.2 fun i x y hx hy o a b ha hb=>?_⟩
   . grind
   . have hi:i<es.length:=(zqb.1 hy).1
     have hoo:o<sz:=by
      have:=(zqb.1 hb).1
      rw[(hs.2 i x y hx hy).2.1]at this;exact this
     refine(hcr i x y hx hy o a b ha hb).reloc hn hz (fun d q=>?_) (by grind);rw[gs];grind
end
section
variable {E:Env}{R:AV->AV->Prop}{Z Z':Nat->Prop}{ow ow' ow1:Nat->Option (List Nat)}{h h':Heap}{K K':PK}{os os' os1:List PO}{x y:AV}{L M:List Nat}
theorem iG{q:Nat}:∀(n j:Nat)(L:List Nat),loP (os.set q .dead) n j=some L->loP os n j=some L
 |0,_,_,e=>by cases e
 | n + 1,j,L,e=>by
  unfold loP at e|-;rw[zqc]at e;by_cases hj:q=j
  . grind
  . rw [if_neg hj]at e
    cases he:os[j]? with
    |none=>grind
    | some a =>
     rw[he]at e;cases a with
     | sub p i o =>
      simp only at e|-;cases hp:loP (os.set q .dead) n p with
      |none=>grind
      |some Lp=>rw[hp]at e;rw[iG n p Lp hp];exact e
     |dead=>cases e
     |row=>exact e
     |mapo=>exact e
theorem PT.giveup(s:PT R Z ow h os)(id:Nat):PT R Z (clr ow (Und [id])) h ((killP os id []).set id .dead)/\Keep' ow os (clr ow (Und [id])) ((killP os id []).set id .dead)/\
 (∀n j L,loP ((killP os id []).set id .dead) n j=some L->loP os n j=some L)/\(∀j,isRt ((killP os id []).set id .dead) j=true->isRt os j=true/\j≠id)/\((killP os id []).set id .dead).length=os.length/\∀j,j≠id->((killP os id []).set id .dead)[j]?=os[j]?\/∃p i o,os[j]?=some (.sub p i o):=by
 have w:=Mi os id [];have hlo:∀n j L,loP ((killP os id []).set id .dead) n j=some L->loP os n j=some L:=fun n j L hl=>w.lo n j L (iG n j L hl)
 refine⟨(s.wk w).drop (.inr rfl),⟨by rw[zqg,w.1];grind,fun j hj L' hl=>⟨L',hlo _ _ _ hl,fun c=>?_⟩⟩,hlo,fun j hj=>?_,by rw[zqg,w.1],fun j hj=>?_⟩
 . rw [clr_some]
   refine⟨fun h=>⟨h,fun⟨t,ht⟩=>?_⟩,fun h=>h.1⟩;have h2:=hlo _ _ _ hl;unfold loP at hl;rw[zqc]at hl;by_cases e:id=j
   . grind
   . rw [if_neg e]at hl
     cases he:(killP os id [])[j]? with
     |none=>grind
     | some a =>
      rw[he]at hl;cases a with
      |dead=>cases hl
      |row=>grind
      |mapo=>grind
      | sub p i o =>
       rcases killP_sub he with h|h
       . grind[U4]
       . cases h
 . unfold isRt at hj
   rw[zqc]at hj;by_cases e:id=j
   . grind
   . rw[if_neg e]at hj
     exact⟨by rw[<-w.rt];exact hj,fun e'=>e e'.symm⟩
 . rw[zqc,if_neg (fun e=>hj e.symm)]
   rcases w.2 j with h|⟨p,i,o,h,_⟩
   . exact .inl h
   grind
structure TkB(R:AV->AV->Prop)(Z:Nat->Prop)(ow:Nat->Option (List Nat))(h:Heap)(os:List PO)(te:TI)(sc s:AV)(base:List AV)(os1:List PO)(tc:List Nat)(ow1:Nat->Option (List Nat)):Prop where
 pt:PT R Z ow1 h os1
 keep:Keep' ow os ow1 os1
 len:os1.length=os.length
 rt:∀j,isRt os1 j=true->isRt os j=true
 sb:∀d M,ow1 d=some M->ow d=some M
 tcr:∀d r t,ow d=some (r::t)->ow1 d=some (r::t)\/r∈tc
 lo:∀n j L,loP os1 n j=some L->loP os n j=some L
 rd:∀j,isRt os1 j=true->∀d,ow d=some [j]->ow1 d=some [j]
 alt:((sc=.nilsl\/sc=.nilsl)/\base=[])\/∃c off n L es ces,sc=.msl c off n te.size/\ow c=some L/\c<h.next/\h.get c=some (.row ces te.size)/\dN te.size ces es/\off+n<=es.length/\base=(es.drop off).take n/\
  (∀(i:Nat) x y,ces[i]?=some x->es[i]?=some y->∀(o:Nat) a b,x.cells[o]?=some a->y.cells[o]?=some b->CR Z ow h (L++[i,o]) a b)/\(∀d M,ow1 d=some M↔ow d=some M/\¬Und L M)/\(∃r t,L=r::t/\r∈tc)/\(wholeP s os=true->off=0/\n=es.length)
theorem iH{te:TI}{s sc:AV}{base:List AV}{tc:List Nat}(p:PT R Z ow h os)(hv:VR Z ow h os sc s)(ht:takeB te s os=some (base,os1,tc)):∃ow1,TkB R Z ow h os te sc s base os1 tc ow1:=by
 cases s with
 | nilsl =>
  cases ht;exact⟨ow,p,.refl _ _,rfl,fun _ h=>h,fun _ _ h=>h,fun _ _ _ h=>.inl h,fun _ _ _ h=>h,fun _ _ _ h=>h,.inl ⟨.inl hv.isN,rfl⟩⟩
 | msl id off n sz =>
  unfold takeB at ht;simp only at ht;cases hr:rowOf os 6 id with
  |none=>rw[hr]at ht;cases ht
  | some q =>
   obtain⟨k,es,z⟩:=q;rw[hr]at ht;simp only at ht;split at ht
   . rename_i hc
     obtain ⟨rfl,rfl,rfl,hle⟩:=hc;obtain⟨L,hlo,hcr⟩:=p.get 6 id 0 es te.size hr;have hraw:rawAt os id=false:=by
      cases e:rawAt os id with
      |false=>rfl
      |true=>exact absurd rfl (Hp hr e).2
     obtain ⟨x0,hcr⟩:∃x,CR Z ow h L x (ownd 0 te.size es):=by
      rcases hcr with⟨h1,_⟩|⟨_,h⟩
      . rw[hraw]at h1;cases h1
      . exact h
     obtain⟨tl,hLr,hrt,_⟩:=U4 6 id L hlo;have halt:∀ow1:Nat->Option (List Nat),(∀d M,ow1 d=some M↔ow d=some M/\¬Und L M)->∀tc:List Nat,rootOf os 6 id∈tc->((sc=.nilsl\/sc=.nilsl)/\(es.drop off).take n=[])\/∃c off' n' L es' ces,sc=.msl c off' n' te.size/\ow c=some L/\c<h.next/\h.get c=some (.row ces te.size)/\dN te.size ces es'/\off'+n'<=es'.length/\(es.drop off).take n=(es'.drop off').take n'/\
      (∀(i:Nat) x y,ces[i]?=some x->es'[i]?=some y->∀(o:Nat) a b,x.cells[o]?=some a->y.cells[o]?=some b->CR Z ow h (L++[i,o]) a b)/\(∀d M,ow1 d=some M↔ow d=some M/\¬Und L M)/\(∃r t,L=r::t/\r∈tc)/\(wholeP (.msl id off n te.size) os=true->off'=0/\n'=es'.length):=by
      intro ow1 h1 tc htc;generalize hy:AV.msl id off n te.size=y at hv;cases hv with
      |fz f=>cases f<;>cases hy
      | mnil e _ _ =>
       cases hy;exact .inl ⟨e,by simp⟩
      | @msl id' c off' n' sz' h2 h3 =>
       cases hy;have hoc:=h2 L hlo;rcases hcr.inv with⟨_,_,_,h4⟩|⟨c0,ces,_,h4,h5,h6,h7,_,h9⟩
       . exact absurd (by simpa using hoc) (h4 c [])
       . have:c=c0:=p.inj _ _ _ hoc h4
         subst this;refine .inr ⟨c,off,n,L,es,ces,rfl,hoc,h5,h6,h7,hle,rfl,h9,h1,⟨_,tl,hLr,htc⟩,fun hw=>?_⟩;unfold wholeP at hw;simp only at hw;rw[hr]at hw;simp only[Bool.and_eq_true,beq_iff_eq]at hw;exact hw
      |_=>cases hy
     cases he:os[id]? with
     |none=>grind
     | some e =>
      rw[he]at ht;cases e with
      |mapo=>cases ht
      |dead=>cases ht
      | row k es0 z0 =>
       cases ht;have hLid:L=[id]:=by grind[loP]
       have hrid:rootOf os 6 id=id:=by grind
       obtain⟨g1,g2,g3,g4,g5,_⟩:=p.giveup id;refine⟨clr ow (Und [id]),g1,g2,g5,fun j hj=>(g4 j hj).1,fun d M hd=>(clr_some.1 hd).1,fun d r t hd=>?_,g3,fun j hj d hd=>clr_some.2 ⟨hd,fun⟨u,hu⟩=>(g4 j hj).2 (List.cons.inj hu).1⟩,halt _ (by grind[Go.AM.clr_some]) _ (by grind)⟩;by_cases e:r=id
       . right;rw[e];exact zqn.2 rfl
       . left;exact clr_some.2 ⟨hd,fun⟨u,hu⟩=>e (List.cons.inj hu).1⟩
      | sub q i o =>
       simp only at ht;cases hp:rowOf os 6 q with
       |none=>rw[hp]at ht;cases ht
       | some t1 =>
        obtain⟨kp,pes,pz⟩:=t1;rw[hp]at ht;simp only at ht;split at ht
        . rename_i hkp
          subst hkp;cases hi:pes[i]? with
          |none=>rw[hi]at ht;cases ht
          | some v =>
           rw[hi]at ht;simp only at ht;cases hset:setRow (killP os (rootOf os 6 id) (chainOf os 6 q)) 6 q (pes.set i (v.withCells o [.und]))with
           |none=>rw[hset]at ht;cases ht
           | some os2 =>
            rw [hset]at ht;cases ht;have hroot:rootOf os 6 q=rootOf os 6 id:=by
             have e1:rootOf os 6 id=rootOf os 5 q:=by
              grind[rootOf]
             obtain ⟨Lq,hlq,_⟩:=p.get 6 q 0 pes pz hp;have h5:loP os 5 q=some Lq:=by
              unfold loP at hlo;rw[he]at hlo;simp only at hlo;cases h5:loP os 5 q with
              |none=>grind
              |some L5=>rw[loP_uniq h5 hlq]
             grind[U4]
            have w:=Mi os (rootOf os 6 id) (chainOf os 6 q);obtain⟨k',pes',pz',hpk⟩:=Wd _ _ _ _ hset
            have:=Wf w 6 q _ hpk
            rw [hp]at this;cases this;have pk:=p.wk w;have hrawq:rawAt os q=false:=by
             cases e:rawAt os q with
             |false=>rfl
             |true=>exact absurd rfl (Hp hp e).2
            obtain ⟨Lq,hlqk,_⟩:=pk.get 6 q 0 pes pz hpk;have hlq:=w.lo 6 q Lq hlqk;have hLq:L=Lq++[i,o]:=by
             unfold loP at hlo;rw[he]at hlo;simp only at hlo;cases h5:loP os 5 q with
             |none=>grind
             |some L5=>grind[loP_uniq]
            have hvo:o<v.cells.length/\v.cells.length=pz:=by
             unfold rowOf at hr;rw[he]at hr;simp only at hr;cases h5:rowOf os 5 q with
             |none=>grind
             | some t5 =>
              obtain⟨k5,es5,z5⟩:=t5;have h6:=We 5 q _ h5;rw[hp]at h6;cases h6;rw[h5]at hr;simp only at hr;rw[hi]at hr;simp only at hr;cases ho:v.cells[o]? with
              |none=>grind
              | some c =>
               refine⟨(zqb.1 ho).1,?_⟩;obtain⟨_,_,hq⟩:=p.get 6 q 0 pes pz hp;rcases hq with⟨h1,_⟩|⟨_,xq,hq⟩
               . grind
               . rcases hq.inv with⟨_,e2,_⟩|⟨_,cq,_,_,_,_,hsq,_⟩
                 . grind
                 . have hl:i<cq.length:=by rw[hsq.1];grind
                   exact(hsq.2 i _ v (zqd hl) hi).2.1
            have hatc:∀M,AtC Lq i o 1 M↔Und L M:=fun M=>by
             rw[hLq]
             constructor
             . rintro⟨o',h1,h2,h3⟩
               grind
             . exact fun h=>⟨o,zqs _,by omega,h⟩
            have halive:∀j L1,loP (killP os (rootOf os 6 id) (chainOf os 6 q)) 6 j=some L1->¬AtC Lq i o 1 L1:=(by grind[Go.AM.kill_alive])
            obtain⟨s2,k2,_⟩:=pk.forget (n:=1) hpk ((w.raw q).trans hrawq) hlqk hi (by omega) (by omega) halive hset;obtain⟨r0,kr0,er0,sr0,er0',hr0,hos0⟩:=Ke _ _ _ _ hset;have hcl:∀d M,clr ow (AtC Lq i o 1) d=some M↔ow d=some M/\¬Und L M:=fun d M=>by rw[clr_some,hatc]
            refine ⟨clr ow (AtC Lq i o 1),s2,w.keep.trans k2,by rw[hos0,zqg,w.1],fun j hj=>by rw[hos0,isRt_set hr0,w.rt]at hj;exact hj,fun d M hd=>(clr_some.1 hd).1,fun d r t hd=>?_,fun n j L hl=>w.lo n j L (by grind[Dt]),fun j _ d hd=>(hcl _ _).2 ⟨hd,fun⟨u,hu⟩=>by
             rw[hLq]at hu
             have:=congrArg zqp hu
             grind⟩,halt _ hcl _ (zqn.2 rfl)⟩
            by_cases hu:Und L (r::t)
            . right
              obtain⟨u,hu⟩:=hu;grind
            grind
        . cases ht
   . cases ht
 |_=>cases ht
end
section
variable {E:Env}{R:AV->AV->Prop}{Z Z':Nat->Prop}{ow ow' ow1 ow2:Nat->Option (List Nat)}{h h':Heap}{K K':PK}{os os' os1 os2:List PO}{x y:AV}{L M:List Nat}
theorem cZ{id off n s sz:Nat}{row:List AV}(hg:h.get id=some (.row row sz))(hn:off+n<=row.length):elems (.msl id off n s) h=some ((row.drop off).take n):=by
 show h.onRow id none (fun es _=>bif Nat.ble (Nat.add off n) (lenL es)then some (Es (Er es off) n)else none)=_
 rw[Mk hg,A9];simp_all[zqu,K6,K5]
theorem Fz.elems{es:List AV}{f:Bool}(z:Fz Z h x (.fsl es f)):∃xs,elems x h=some xs/\xs.length=es.length/\∀(i:Nat) a b,xs[i]?=some a->es[i]?=some b->Fz Z h a b:=by
 cases z with
 | emp e =>
  cases e with
  |nil=>exact⟨[],rfl,rfl,fun i a b ha=>by simp at ha⟩
  |fsl=>exact⟨[],rfl,rfl,fun i a b ha=>by simp at ha⟩
 |fsl h1 h2 h3=>exact⟨_,rfl,h1,h2⟩
 | view h1 h2 h3 h4 h5 h6 =>
  refine⟨_,cZ h2 h3,by simp;omega,fun i a b ha hb=>?_⟩;grind
structure TkE(R:AV->AV->Prop)(Z:Nat->Prop)(ow1:Nat->Option (List Nat))(h:Heap)(os1:List PO)(ext:Nat)(tc:List Nat)(te:TI)(xcs xs:List AV)(os2:List PO)(ow2:Nat->Option (List Nat)):Prop where
 pt:PT R Z ow2 h os2
 keep:Keep' ow1 os1 ow2 os2
 len:os2.length=os1.length
 rt:∀j,isRt os2 j=true->isRt os1 j=true
 sb:∀d M,ow2 d=some M->ow1 d=some M
 ex:∀d r t,ow1 d=some (r::t)->r<ext->ow2 d=some (r::t)
 ln:xcs.length=xs.length
 alt:(ow2=ow1/\∀(i:Nat) a b,xcs[i]?=some a->xs[i]?=some b->Fz Z h a b/\b.cells.length=te.size)\/∃q c0,ext<=q/\¬q∈tc/\dN te.size xcs xs/\ow1 c0=some [q]/\
  (∀(i:Nat) x y,xcs[i]?=some x->xs[i]?=some y->∀(o:Nat) a b,x.cells[o]?=some a->y.cells[o]?=some b->CR Z ow1 h ([q]++[i,o]) a b)/\(∀d M,ow2 d=some M↔ow1 d=some M/\¬Und [q] M)
theorem TkE.closed(p:PT R Z ow1 h os1){ext:Nat}{tc:List Nat}{te:TI}{xcs xs:List AV}(hl:xcs.length=xs.length)(hz:∀(i:Nat) a b,xcs[i]?=some a->xs[i]?=some b->Fz Z h a b/\b.cells.length=te.size):TkE R Z ow1 h os1 ext tc te xcs xs os1 ow1:=
 ⟨p,.refl _ _,rfl,fun _ h=>h,fun _ _ h=>h,fun _ _ _ h _=>h,hl,.inl ⟨rfl,hz⟩⟩
theorem Kg{sz:Nat}{xcs xs:List AV}(hl:xcs.length=xs.length)(hz:∀(i:Nat) a b,xcs[i]?=some a->xs[i]?=some b->a.cells.length=sz):L8 sz xcs=true:=by
 grind[Az,zqi]
theorem wJ{te:TI}{xc x:AV}{xs:List AV}{ext:Nat}{tc:List Nat}(p:PT R Z ow1 h os1)(hv:VR Z ow1 h os1 xc x)(ht:takeE te x ext tc os1=some (xs,os2)):∃ow2 xcs,elems xc h=some xcs/\L8 te.size xcs=true/\TkE R Z ow1 h os1 ext tc te xcs xs os2 ow2:=by
 cases x with
 | nilsl =>
  cases ht;rw[hv.isN];exact⟨ow1,[],rfl,rfl,.closed p rfl fun i a b ha=>by simp at ha⟩
 | fsl es f =>
  unfold takeE at ht;simp only at ht;split at ht
  . rename_i hs
    cases ht;cases hv with
    | fz z =>
     obtain⟨xcs,h1,h2,h3⟩:=z.elems;rw[Az]at hs;have h4:∀(i:Nat) a b,xcs[i]?=some a->xs[i]?=some b->Fz Z h a b/\b.cells.length=te.size:=fun i a b ha hb=>⟨h3 i a b ha hb,hs b (zqe hb)⟩
     exact⟨ow1,xcs,h1,Kg h2 fun i a b ha hb=>(h3 i a b ha hb).shape.1.trans (h4 i a b ha hb).2,.closed p h2 h4⟩
  . cases ht
 | msl id off n sz =>
  unfold takeE at ht;simp only at ht;cases hr:rowOf os1 6 id with
  |none=>rw[hr]at ht;cases ht
  | some q =>
   obtain⟨k,es,z⟩:=q;rw[hr]at ht;simp only at ht;split at ht
   . rename_i hc
     obtain ⟨rfl,rfl,rfl,hle⟩:=hc;obtain⟨L,hlo,hcr⟩:=p.get 6 id 0 es te.size hr;have hraw:rawAt os1 id=false:=by
      cases e:rawAt os1 id with
      |false=>rfl
      |true=>exact absurd rfl (Hp hr e).2
     obtain ⟨x0,hcr⟩:∃x,CR Z ow1 h L x (ownd 0 te.size es):=by
      rcases hcr with⟨h1,_⟩|⟨_,h⟩
      . rw[hraw]at h1;cases h1
      . exact h
     have halt:((xc=.nilsl\/xc=.nilsl)/\n=0/\off=0/\∀c,ow1 c≠some L)\/∃c ces,xc=.msl c off n te.size/\ow1 c=some L/\h.get c=some (.row ces te.size)/\dN te.size ces es/\∀(i:Nat) x y,ces[i]?=some x->es[i]?=some y->∀(o:Nat) a b,x.cells[o]?=some a->y.cells[o]?=some b->CR Z ow1 h (L++[i,o]) a b:=by
      generalize hy:AV.msl id off n te.size=y at hv;cases hv with
      |fz f=>cases f<;>cases hy
      | mnil e h1 _ =>
       cases hy;exact .inl ⟨e,rfl,rfl,h1 L hlo⟩
      | @msl id' c off' n' sz' h2 h3 =>
       cases hy;have hoc:=h2 L hlo;rcases hcr.inv with⟨_,_,_,h4⟩|⟨c0,ces,_,h4,h5,h6,h7,_,h9⟩
       . exact absurd (by simpa using hoc) (h4 c [])
       . have:c=c0:=p.inj _ _ _ hoc h4
         subst this;exact .inr ⟨c,ces,rfl,hoc,h6,h7,h9⟩
      |_=>cases hy
     have hnil:(xc=.nilsl\/xc=.nilsl)->elems xc h=some []:=fun e=>by rcases e with rfl|rfl<;>rfl
     cases hft:flatT te with
     | true =>
      rw[hft]at ht;simp only at ht;split at ht
      . rename_i hfl
        cases ht;rcases halt with⟨e,rfl,rfl,_⟩|⟨c,ces,rfl,h1,h2,h3,h4⟩
        . exact⟨ow1,[],hnil e,rfl,.closed p (by simp) fun i a b ha=>by simp at ha⟩
        . have hz:∀(i:Nat) a b,ces[i]?=some a->es[i]?=some b->Fz Z h a b/\b.cells.length=te.size:=fun i a b ha hb=>by
           have hsh:=h3.2 i a b ha hb;have hcl:∀u∈b.cells,clo u=true:=fun u hu=>zqf.1 (zqf.1 hfl b (zqe hb)) u hu
           have hcells:∀(o:Nat) u w,a.cells[o]?=some u->b.cells[o]?=some w->Fz Z h u w:=fun o u w hu hw=>by
            have hc:=h4 i a b ha hb o u w hu hw;have hw':=hcl w (zqe hw);cases hc with
            |val f _ _=>exact f
            |und=>cases hw'
            |nil=>cases hw'
            |own=>cases hw'
           refine⟨?_,hsh.2.1⟩;cases hag:isAg b with
           | true =>
            cases b with
            | agg bs =>
             cases a with
             |agg as1=>exact .agg (hsh.1.trans hsh.2.1.symm) hcells (zqf.2 hcl)
             |_=>rw[hag]at hsh;cases hsh.2.2
            |_=>cases hag
           | false =>
            have ha':=hsh.2.2.trans hag;rw[D8 hag,D8 ha']at hcells;exact hcells 0 a b rfl rfl
          have hlc:ces.length=es.length:=h3.1;refine⟨ow1,(ces.drop off).take n,cZ h2 (by omega),Kg (xs:=(es.drop off).take n) (by simp[hlc]) (fun i a b ha hb=>?_),.closed p (by simp[hlc]) fun i a b ha hb=>?_⟩
          . rw[m8]at ha hb
            split at ha
            . rename_i hi;rw[if_pos hi]at hb;exact(h3.2 _ a b ha hb).1
            . cases ha
          . rw[m8]at ha hb
            split at ha
            . rename_i hi;rw[if_pos hi]at hb;exact hz _ a b ha hb
            . cases ha
      . cases ht
     | false =>
      rw[hft]at ht;simp only at ht;cases he:os1[id]? with
      |none=>rw[he]at ht;cases ht
      | some e =>
       rw[he]at ht;cases e with
       |mapo=>cases ht
       |dead=>cases ht
       |sub=>cases ht
       | row k es0 z0 =>
        simp only at ht;split at ht
        . rename_i hc2
          obtain⟨rfl,rfl,hext,hntc⟩:=hc2;cases ht;have hLid:L=[id]:=by unfold loP at hlo;rw[he]at hlo;cases hlo;rfl
          subst hLid;obtain⟨g1,g2,g3,g4,g5,_⟩:=p.giveup id;rcases halt with⟨e,hn0,_,_⟩|⟨c,ces,rfl,h1,h2,h3,h4⟩
          . have:xs=[]:=zqj hn0
            subst this;refine⟨clr ow1 (Und [id]),[],hnil e,rfl,g1,g2,g5,fun j hj=>(g4 j hj).1,fun d M hd=>(clr_some.1 hd).1,fun d r t hd hr=>clr_some.2 ⟨hd,fun⟨u,hu⟩=>by have:=(List.cons.inj hu).1;omega⟩,rfl,?_⟩;by_cases hq:∃c0,ow1 c0=some [id]
            . grind
            . refine .inl ⟨?_,fun i a b ha=>by simp at ha⟩
              refine qX (fun d M hd=>?_)
              rintro⟨u,rfl⟩
              rcases hcr.inv with⟨_,_,_,h4⟩|⟨c0,ces,_,h4,_⟩
              . exact h4 d u hd
              grind
          . refine⟨clr ow1 (Und [id]),ces,?_,Kg h3.1 fun i a b ha hb=>(h3.2 i a b ha hb).1,g1,g2,g5,fun j hj=>(g4 j hj).1,fun d M hd=>(clr_some.1 hd).1,fun d r t hd hr=>clr_some.2 ⟨hd,fun⟨u,hu⟩=>by grind⟩,h3.1,(by grind[Go.AM.clr_some])⟩
            have:=cZ (s:=te.size) (off:=0) (n:=xs.length) h2 (by rw[h3.1];omega)
            rw[this,List.drop_zero,<-h3.1,List.take_length]
        . cases ht
   . cases ht
 |_=>cases ht
end
section
variable {E:Env}{R:AV->AV->Prop}{Z Z':Nat->Prop}{ow ow' ow1 ow2:Nat->Option (List Nat)}{h h':Heap}{K K':PK}{os os' os1 os2:List PO}{x y:AV}{L M:List Nat}
theorem zQ{te:TI}{s:AV}(hs:s=.nilsl\/s=.nilsl){x:AV}{r:List AV}(hb:(x::r).length*te.bytes<=140737488355328):I2 te s (x::r) h=some (.msl h.next 0 (x::r).length te.size,h.push (.row (x::r) te.size)):=by
 have key:Au te [] true (x::r) h=some (.msl h.next 0 (x::r).length te.size,h.push (.row (x::r) te.size)):=by
  show N7 (Nat.add 0 (lenL (x::r))) (fun n=>B6 (true&&Nat.ble (Nat.mul n te.bytes) 140737488355328&&j1 te.size []) (Sp (x::r) fun l=>some (AV.msl h.next 0 n te.size,h.push (.row l te.size))))=_
  rw[C9,A9,show Nat.add 0 (x::r).length=(x::r).length from zqy _]
  have:Nat.ble (Nat.mul (x::r).length te.bytes) 140737488355328=true:=zqu hb
  rw[this,By];rfl
 rcases hs with rfl|rfl<;>exact key
theorem zR{te:TI}{c off n:Nat}{ces:List AV}{x:AV}{r:List AV}(hg:h.get c=some (.row ces te.size))(hn:off+n<=ces.length)(hb:(n+(x::r).length)*te.bytes<=140737488355328):
 I2 te (.msl c off n te.size) (x::r) h=some (.msl h.next 0 (n+(x::r).length) te.size,(h.del c).push (.row ((ces.drop off).take n++(x::r)) te.size)):=by
 show h.onRow c none (Ks te c off n (x::r) h)=_
 rw[Mk hg];show N7 (Nat.add n (lenL (x::r))) (fun m=>B6 (Nat.ble (Nat.add off n) (lenL ces)&&Nat.beq te.size te.size&&Nat.ble (Nat.mul m te.bytes) 140737488355328) (Sp (appL (Es (Er ces off) n) (x::r)) fun l=>some (AV.msl h.next 0 m te.size,(h.del c).push (.row l te.size))))=_
 rw[C9,A9,A9,zqz];have e1:Nat.ble (Nat.add off n) ces.length=true:=zqu hn;have e2:Nat.ble (Nat.mul (Nat.add n (x::r).length) te.bytes) 140737488355328=true:=zqu hb;rw[e1,e2,By,Q0,K6,K5];rfl
theorem zS{sz off n:Nat}{ces es xcs xs:List AV}(h1:dN sz ces es)(h2:dN sz xcs xs):dN sz ((ces.drop off).take n++xcs) ((es.drop off).take n++xs):=by
 have hl:((ces.drop off).take n).length=((es.drop off).take n).length:=by simp[h1.1]
 refine⟨by simp[h1.1,h2.1],fun i x y hx hy=>?_⟩;rw[zqm]at hx hy;rw[hl]at hx;split at hx
 . rename_i hi
   rw[if_pos hi]at hy;rw[m8]at hx hy;split at hx
   . rename_i hi2;rw[if_pos hi2]at hy;exact h1.2 _ x y hx hy
   . cases hx
 . rename_i hi;rw[if_neg hi]at hy;exact h2.2 _ x y hx hy
theorem Stp.join{b:Nat}{tc:List Nat}{e:PO}{owf:Nat->Option (List Nat)}(p:I4 Z ow h K.os)(hx:K.ext<=K.os.length)(hol:os2.length=K.os.length)(hn:h.next<=h'.next)(hkeepg:∀d,d<h.next->ow d=none->h'.get d=h.get d)
 (hth:∃l,h'.tch=l++h.tch/\∀d∈l,∃r t,ow d=some (r::t)/\r∈tc)(huo:∀d M,owf d=some M->d<h.next->ow d≠none)(hmv:∀d r t,ow d=some (r::t)->r<K.ext->owf d=some (r::t)\/r∈tc)
 (hxk:∀j,j<K.ext->isRt os2 j=true->∀d,ow d=some [j]↔owf d=some [j])(hrt:∀j,isRt os2 j=true->isRt K.os j=true):Stp b Z ow h K Z owf h' {K with os:=os2++[e],tch:=os2.length::tc++K.tch}:=by
 have hrtn:∀j,j<K.ext->isRt (os2++[e]) j=true->isRt os2 j=true:=(by grind[Go.AM.isRt])
 obtain⟨l,hl1,hl2⟩:=hth;refine⟨hn,fun d hz=>⟨hz,hkeepg d (p.zb d hz) ?_⟩,fun _ hz=>.inl hz,hkeepg,huo,⟨l,hl1,fun d hd=>?_⟩,fun d r t hd hr=>?_,(by grind),rfl,(by grind),fun j hj hr=>hrt j (hrtn j hj hr)⟩
 . cases e:ow d with
   |none=>rfl
   |some M=>exact absurd hz (p.live _ _ e).2.1
 . grind
 grind
theorem nU{te:TI}{s sc v:AV}{base xs xcs:List AV}{tc:List Nat}(p:I4 Z ow h K.os)(hx:K.ext<=K.os.length)(tb:TkB (VR Z ow h K.os) Z ow h K.os te sc s base os1 tc ow1)(tk:TkE (VR Z ow h K.os) Z ow1 h os1 K.ext tc te xcs xs os2 ow2)
 (hw:(!xs.isEmpty||wholeP s K.os)=true)(hj:joinP te base xs os2 tc K=some (v,K')):∃vc h' owf,I2 te sc xcs h=some (vc,h')/\I4 Z owf h' K'.os/\Keep' ow K.os owf K'.os/\VR Z owf h' K'.os vc v/\∀b,Stp b Z ow h K Z owf h' K':=by
 unfold joinP at hj;split at hj
 . rename_i hb
   cases hj;have hol:os2.length=K.os.length:=tk.len.trans tb.len;have hxl:=tk.ln;obtain⟨q,hq1,hq2,hq3,hq4,hq5⟩:∃q,(∀t r,q::t≠r\/True)/\(q=os2.length\/(K.ext<=q/\¬q∈tc))/\dN te.size xcs xs/\(∀(i:Nat) x y,xcs[i]?=some x->xs[i]?=some y->∀(o:Nat) a b,x.cells[o]?=some a->y.cells[o]?=some b->CR Z ow1 h ([q]++[i,o]) a b)/\(∀d M,ow2 d=some M↔ow1 d=some M/\¬Und [q] M):=by
    rcases tk.alt with⟨h1,h2⟩|⟨q,c0,h1,h2,h3,_,h4,h5⟩
    . have hno:∀d t,ow1 d≠some (os2.length::t):=fun d t e=>by
       have:=tk.pt.noHead d t
       rw[h1]at this;exact this e
      refine⟨os2.length,fun _ _=>.inr trivial,.inl rfl,⟨hxl,fun i x y hx hy=>⟨(h2 i x y hx hy).1.shape.1.trans (h2 i x y hx hy).2,(h2 i x y hx hy).2,(h2 i x y hx hy).1.shape.2⟩⟩,fun i x y hx hy o a b ha hb=>?_,fun d M=>?_⟩
      . have:=(h2 i x y hx hy).1.cell ha hb
        exact .val this.1 this.2 fun c t e=>hno c ([i,o]++t) (by simpa using e)
      . rw[h1];exact⟨fun h=>⟨h,fun⟨u,hu⟩=>hno d u (by rw[h,hu];rfl)⟩,fun h=>h.1⟩
    grind
   have hkeep12:Keep' ow K.os ow2 os2:=tb.keep.trans tk.keep;have hnew:loP (os2++[PO.row 0 (base++xs) te.size]) 6 os2.length=some [os2.length]:=Ol _ (.inl ⟨_,_,_,rfl⟩);have hlt:os2.length<(os2++[PO.row 0 (base++xs) te.size]).length:=by simp
   have hrt12:∀j,isRt os2 j=true->isRt K.os j=true:=fun j hj=>tb.rt j (tk.rt j hj)
   have hrtn:∀j,j<K.ext->isRt (os2++[PO.row 0 (base++xs) te.size]) j=true->isRt os2 j=true:=(by grind[Go.AM.isRt])
   have hrd:∀j,j<K.ext->isRt os2 j=true->∀d,ow d=some [j]->ow2 d=some [j]:=fun j hj hr d hd=>tk.ex d j [] (tb.rd j (tk.rt j hr) d hd) hj
   rcases tb.alt with⟨hsc,hbase⟩|⟨c,off,n,L,es,ces,rfl,hoc,hclt,hget,hs,hle,hbase,hcr,how1,⟨r,tl,hLr,hrtc⟩,hwh⟩
   . -- nothing was there
     subst hbase;cases xcs with
     | nil =>
      have hxe:xs=[]:=zqj hxl.symm;subst hxe;have ho:∀d M,(∀t,M≠os2.length::t)->(ow2 d=some M↔ow2 d=some M):=fun _ _ _=>.rfl
      have key:=PT.new (ow':=ow2) (h':=h) tk.pt (.row 0 ([]++[]) te.size) (zqs _) (fun _ _=>rfl) (fun _ _ _=>rfl) ho (fun a b t ha=>absurd ha (tk.pt.noHead a t)) (fun d t hd=>absurd hd (tk.pt.noHead d t)) (Co _ (.inl ⟨_,_,_,rfl⟩)) (fun es sz e=>by
       cases e;exact⟨sc,.nil hsc fun c t hc=>tk.pt.noHead c t (by grind)⟩) (by grind) (fun es e=>by cases e)
      have hk:=hkeep12.trans (Wh tk.pt (e:=.row 0 ([]++[]) te.size) ho);refine⟨sc,h,ow2,by rcases hsc with rfl|rfl<;>rfl,I4.to key (fun _ hz=>⟨hz,rfl⟩) hk,hk,.mnil hsc (fun L hL c hc=>?_) hlt,fun b=>⟨zqs _,fun _ hz=>⟨hz,rfl⟩,fun _ hz=>.inl hz,fun _ _ _=>rfl,fun d M hd _ e=>?_,⟨[],rfl,fun d hd=>by cases hd⟩,fun d r t hd hr=>?_,fun r hr _=>?_,rfl,fun j hj c hr=>?_,fun j hj hr=>hrt12 j (hrtn j hj hr)⟩⟩
      . rw[hnew]at hL;cases hL
        exact tk.pt.noHead c [] hc
      . have:=tb.sb d M (tk.sb d M hd)
        grind
      . rcases tb.tcr d r t hd with h1|h1
        . exact .inl ⟨t,tk.ex d r t h1 hr⟩
        grind
      . exact zqr _ (List.mem_append_right _ hr)
      . exact⟨fun h=>hrd j hj (hrtn j hj hr) c h,fun h=>tb.sb c _ (tk.sb c _ h)⟩
     | cons xh xr =>
      have hgl:∀d,d<h.next->(h.push (.row (xh::xr) te.size)).get d=h.get d:=fun d hd=>Heap.get_push_ne h _ (by omega)
      have hGn:∀i o t,i<([]++xs).length->o<te.size->Und [q] ([q]++[i,o]++t):=fun i o t _ _=>⟨[i,o]++t,by simp⟩
      have hun:∀i o t i' o' t',i<([]++xs).length->o<te.size->i'<([]++xs).length->o'<te.size->[q]++[i,o]++t=[q]++[i',o']++t'->i=i'/\o=o'/\t=t':=(by grind)
      have hown:ow1 h.next=none:=tb.pt.next_none;have key:=PT.graft (owk:=ow2) (ow:=ow1) (c:=h.next) (ces:=xh::xr) (es:=[]++xs) (h':=h.push (.row (xh::xr) te.size)) tk.pt (Gn:=Und [q]) (G:=fun i o=>[q]++[i,o]) hq5 tb.pt.inj (fun a M ha=>⟨(tb.pt.live a M ha).1,(tb.pt.live a M ha).2.1⟩) hGn hun hq3 hq4 (zqv _) (fun d hd=>hgl d (p.zb d hd)) (zqw _) (fun hz=>absurd (p.zb _ hz) (by omega)) (Heap.get_push_eq h _) (by grind) (fun d M hd _=>hgl d (tb.pt.live d M hd).1);have gs:=fun d M'=>Hq (Gn:=Und [q]) (G:=fun i o=>[q]++[i,o]) (ow:=ow1) (c:=h.next) (n:=os2.length) (d:=d) (M':=M') hGn hun
      have hk:=hkeep12.trans key.2;refine⟨_,_,_,zQ hsc (by rw[hxl];simpa using hb),I4.to key.1 (fun d hz=>⟨hz,hgl d (p.zb d hz)⟩) hk,hk,?_,fun b=>Stp.join p hx hol (zqv _) (fun d hd _=>hgl d hd) ⟨[],rfl,fun d hd=>by cases hd⟩ (fun d M hd hl e=>?_) (fun d r t hd hr=>?_) (fun j hj hr d=>?_) hrt12⟩
      . have e1:(AV.msl os2.length 0 (([]:List AV).length+xs.length) te.size)=.msl os2.length 0 (xh::xr).length te.size:=by grind
        rw[e1];exact .msl (fun L hL=>by rw[hnew]at hL;cases hL;exact(gs _ _).2 (.inl ⟨rfl,rfl⟩)) hlt
      . rcases(gs d M).1 hd with⟨h1,_⟩|⟨_,i,o,t,_,_,h1,_⟩|⟨_,h1,_⟩
        . omega
        . have:=tb.sb _ _ h1;grind
        . have:=tb.sb _ _ h1;grind
      . rcases tb.tcr d r t hd with h1|h1
        . refine .inl ((gs d _).2 (.inr (.inr ⟨(by grind),h1,?_⟩)))
          have:=tk.ex d r t h1 hr
          grind
        grind
      . constructor
        . grind
        . intro hd
          rcases(gs d _).1 hd with⟨_,h1⟩|⟨_,i,o,t,_,_,_,h1⟩|⟨_,h1,_⟩
          . grind
          . cases h1
          . exact tb.sb _ _ h1
   . subst hbase
     have hqr:q≠r:=fun e=>by
      rcases hq2 with h1|⟨_,h1⟩
      . obtain⟨_,_,r',t',h2,h3⟩:=p.live c L hoc
        rw[hLr]at h2
        have:=(List.cons.inj h2).1
        have:=X2 h3
        omega
      grind
     have hLq:∀t,¬Und L (q::t):=fun t ⟨u,hu⟩=>by grind
     have hqL:∀t,¬Und [q] (L++t):=fun t ⟨u,hu⟩=>by grind
     have hk2:∀d M,ow2 d=some M↔ow d=some M/\¬(Und L M\/Und [q] M):=(by grind)
     have hlv:∀a M,ow a=some M->a<h.next/\¬Z a:=fun a M ha=>⟨(p.live a M ha).1,(p.live a M ha).2.1⟩
     have hxcr:∀(i:Nat) x y,xcs[i]?=some x->xs[i]?=some y->∀(o:Nat) a b,x.cells[o]?=some a->y.cells[o]?=some b->CR Z ow h ([q]++[i,o]) a b:=fun i x y hx hy o a b ha hb=>(hq4 i x y hx hy o a b ha hb).reloc (zqs _) (fun _ hz=>⟨hz,rfl⟩) (by grind) (fun _ _ _=>rfl)
     have hbl:((es.drop off).take n).length=n:=by simp;omega
     have hLu:∀i o t i' o' t',L++[i,o]++t=L++[i',o']++t'->i=i'/\o=o'/\t=t':=(by simp_all)
     have hLc:∀i o t,L≠L++[i,o]++t:=fun i o t e=>by have:=congrArg zqp e;simp at this
     have hshp:=zS (off:=off) (n:=n) hs hq3;cases xcs with
     | nil =>
      have hxe:xs=[]:=zqj hxl.symm;subst hxe;obtain⟨rfl,rfl⟩:=hwh (by grind);have e1:(es.drop 0).take es.length++([]:List AV)=es:=by simp
      have hGn:∀i o t,i<es.length->o<te.size->(fun M=>Und L M\/Und [q] M) (L++[i,o]++t):=fun i o t _ _=>.inl ⟨[i,o]++t,by simp⟩
      have hun:∀i o t i' o' t',i<es.length->o<te.size->i'<es.length->o'<te.size->L++[i,o]++t=L++[i',o']++t'->i=i'/\o=o'/\t=t':=(by grind)
      have key:=PT.graft (owk:=ow2) (ow:=ow) (c:=c) (ces:=ces) (es:=es) (h':=h) tk.pt (Gn:=fun M=>Und L M\/Und [q] M) (G:=fun i o=>L++[i,o]) hk2 p.inj hlv hGn hun hs hcr (zqs _) (fun _ _=>rfl) hclt (hlv c L hoc).2 hget (fun M hM=>by rw[hoc]at hM;cases hM;exact⟨.inl (.refl _),fun i o t _ _ e=>hLc i o t e⟩) (fun _ _ _ _=>rfl);have gs:=fun d M'=>Hq (Gn:=fun M=>Und L M\/Und [q] M) (G:=fun i o=>L++[i,o]) (ow:=ow) (c:=c) (n:=os2.length) (d:=d) (M':=M') hGn hun
      have hk:=hkeep12.trans key.2;refine⟨.msl c 0 es.length te.size,h,lL ow (fun M=>Und L M\/Und [q] M) (fun i o=>L++[i,o]) es.length te.size c os2.length,rfl,?_,?_,?_,fun b=>?_⟩
      . show I4 Z _ h (os2++[.row 0 ((es.drop 0).take es.length++[]) te.size])
        rw[e1];exact I4.to key.1 (fun _ hz=>⟨hz,rfl⟩) hk
      . grind
      . have e2:((es.drop 0).take es.length).length+([]:List AV).length=es.length:=by simp
        rw[e2];exact .msl (by grind) hlt
      . refine Stp.join p hx hol (zqs _) (fun _ _ _=>rfl) ⟨[],rfl,fun d hd=>by cases hd⟩ (fun d M hd hl e=>?_) (fun d r' t hd hr=>?_) (fun j hj hr d=>?_) hrt12
        . grind
        . by_cases hu:Und L (r'::t)
          . right
            obtain⟨u,hu⟩:=hu;grind
          . left
            refine(gs d _).2 (.inr (.inr ⟨fun e=>(by subst e;rw[hoc]at hd;cases hd;exact hu (.refl _)),hd,fun h=>h.elim hu fun⟨u,hu⟩=>?_⟩));grind
        . constructor
          . intro hd
            have h1:=hrd j hj hr d hd;obtain⟨h2,h3⟩:=(hk2 d _).1 h1;exact(gs d _).2 (.inr (.inr ⟨fun e=>(by subst e;rw[hoc]at h2;cases h2;exact h3 (.inl (.refl _))),h2,h3⟩))
          grind
     | cons xh xr =>
      have hgl:∀d,d<h.next->d≠c->((h.del c).push (.row ((ces.drop off).take n++(xh::xr)) te.size)).get d=h.get d:=fun d hd hc=>(Heap.get_push_ne _ _ (show d≠(h.del c).next by show d≠h.next;omega)).trans (Heap.get_del_ne h fun e=>hc e.symm)
      have hGn:∀i o t,i<((es.drop off).take n++xs).length->o<te.size->(fun M=>Und L M\/Und [q] M) ((fun i o=>if i<n then L++[off+i,o]else [q]++[i-n,o]) i o++t):=(by grind[Go.AM.Und])
      have hun:∀i o t i' o' t',i<((es.drop off).take n++xs).length->o<te.size->i'<((es.drop off).take n++xs).length->o'<te.size->(fun i o=>if i<n then L++[off+i,o]else [q]++[i-n,o]) i o++t=(fun i o=>if i<n then L++[off+i,o]else [q]++[i-n,o]) i' o'++t'->i=i'/\o=o'/\t=t':=fun i o t i' o' t' _ _ _ _ e=>by
       have e:(if i<n then L++[off+i,o]else [q]++[i-n,o])++t=(if i'<n then L++[off+i',o']else [q]++[i'-n,o'])++t':=e;split at e
       . split at e
         . grind
         grind
       . split at e
         . grind
         . simp at e
           grind
      have hcells:∀(i:Nat) x y,((ces.drop off).take n++(xh::xr))[i]?=some x->((es.drop off).take n++xs)[i]?=some y->∀(o:Nat) a b,x.cells[o]?=some a->y.cells[o]?=some b->CR Z ow h ((fun i o=>if i<n then L++[off+i,o]else [q]++[i-n,o]) i o) a b:=fun i x y hx hy o a b ha hb=>by
       show CR Z ow h (if i<n then L++[off+i,o]else [q]++[i-n,o]) a b
       have hcl:((ces.drop off).take n).length=n:=by simp[hs.1];omega
       rw[zqm,hcl]at hx;rw[zqm,hbl]at hy;split
       . rename_i hi
         rw[if_pos hi,m8,if_pos hi]at hx hy;grind
       grind
      have hown:ow h.next=none:=p.next_none;have key:=PT.graft (owk:=ow2) (ow:=ow) (c:=h.next) (ces:=(ces.drop off).take n++(xh::xr)) (es:=(es.drop off).take n++xs) (h':=(h.del c).push (.row ((ces.drop off).take n++(xh::xr)) te.size)) tk.pt (Gn:=fun M=>Und L M\/Und [q] M) (G:=fun i o=>if i<n then L++[off+i,o]else [q]++[i-n,o]) hk2 p.inj hlv hGn hun hshp hcells (zqv _) (fun d hd=>hgl d (p.zb d hd) fun e=>(hlv c L hoc).2 (e▸hd)) (zqw _) (fun hz=>absurd (p.zb _ hz) (by omega)) (Heap.get_push_eq _ _) (by grind) (fun d M hd hg=>hgl d (hlv d M hd).1 fun e=>by
       subst e;rw[hoc]at hd;cases hd;rcases hg with h1|⟨i,o,t,_,_,h1⟩
       . exact h1 (.inl (.refl _))
       . have h1:L=(if i<n then L++[off+i,o]else [q]++[i-n,o])++t:=h1
         split at h1
         . grind
         . exact hqL [] ⟨[i-n,o]++t,by grind⟩)
      have gs:=fun d M'=>Hq (Gn:=fun M=>Und L M\/Und [q] M) (G:=fun i o=>if i<n then L++[off+i,o]else [q]++[i-n,o]) (ow:=ow) (c:=h.next) (n:=os2.length) (d:=d) (M':=M') hGn hun
      have hk:=hkeep12.trans key.2;refine⟨_,_,_,zR hget (by rw[hs.1];exact hle) (by grind),I4.to key.1 (fun d hz=>⟨hz,hgl d (p.zb d hz) fun e=>(hlv c L hoc).2 (e▸hz)⟩) hk,hk,?_,fun b=>Stp.join p hx hol (zqv _) (by grind) ⟨[c],rfl,fun d hd=>?_⟩ (fun d M hd hl e=>?_) (fun d r' t hd hr=>?_) (fun j hj hr d=>?_) hrt12⟩
      . have e2:((es.drop off).take n).length+xs.length=n+(xh::xr).length:=by grind
        rw[e2];exact .msl (by grind) hlt
      . grind
      . grind
      . by_cases hu:Und L (r'::t)
        . right
          obtain⟨u,hu⟩:=hu;grind
        . left
          refine(gs d _).2 (.inr (.inr ⟨(by grind),hd,fun h=>h.elim hu fun⟨u,hu⟩=>?_⟩));grind
      grind
 . cases hj
end
section
variable {E:Env}{R:AV->AV->Prop}{Z Z':Nat->Prop}{ow ow' ow1 ow2:Nat->Option (List Nat)}{h h':Heap}{K K':PK}{os os' os1 os2:List PO}{x y xc yc v:AV}{L M:List Nat}
theorem wK{f:IntKind->Int->Int->Option AV}(hx:VR Z ow h os xc x)(hy:VR Z ow h os yc y)(e:Ap x y f=some v):Ap xc yc f=some v:=by
 obtain⟨k,n,rfl,e1⟩:=D4 e;obtain⟨k',m,rfl,_⟩:=D4 e1;rw[hx.isI,hy.isI];exact e
def Bu(v:AV):Bool:=match v with | .int _ _=>true | .bool _=>true | .str _=>true|_=>false
theorem Wi(e:Bu v=true):VR Z ow h os v v:=by
 cases v<;>first|exact .i _ _|exact .b _|exact .fz (.str _)|cases e
theorem Mp{k:IntKind}{n:Int}(e:Kr k n=some v):Bu v=true:=by rw[Kr,Na]at e;cases e;rfl
theorem Z7{b:Bool}(e:F8 b=some v):Bu v=true:=by cases b<;>cases e<;>rfl
theorem wL{z:AV}(hx:VR Z ow h os xc x)(e:Ya z x=true):xc=x:=by
 cases z with
 |int j _=>cases x<;>first|exact hx.isI|cases e
 |bool _=>cases x<;>first|exact hx.isB|cases e
 |str _=>cases x<;>first|exact hx.isS|cases e
 |_=>cases e
theorem iI:∀(z xs ys:List AV),VL Z ow h os xs ys->Dv z ys=true->xs=ys
 | [],xs,ys,hl,e=>by
  cases ys with
  |nil=>exact zqj hl.1
  |cons=>cases e
 | z :: zs,xs,ys,hl,e=>by
  cases ys with
  |nil=>cases e
  | cons y ys =>
   cases xs with
   |nil=>have:=hl.1;simp at this
   | cons x xs =>
    have e:(bif Ya z y then Dv zs ys else false)=true:=e;cases h1:Ya z y with
    |false=>grind
    | true =>
     rw[h1]at e;rw[wL hl.inv.1 h1,iI zs xs ys hl.inv.2 e]
theorem Zm{k:EqK}{b:Bool}(hx:VR Z ow h os xc x)(hm:Oj x=true)(e:q0 k x=some b):q0 k xc=some b:=by
 cases k with
 | slc =>
  cases x with
  |nilsl=>rw[hx.isN];exact e
  |msl=>cases hm
  | fsl es f =>
   cases hx with
   | fz z =>
    cases z with
    |emp em=>cases e
    | fsl h1 h2 h3 =>
     rename_i es0 f0;cases es with
     | nil =>
      have:es0=[]:=zqj h1
      subst this;rw[h3];cases f with
      |true=>cases e
      |false=>exact e
     | cons =>
      cases es0 with
      |nil=>simp at h1
      |cons=>exact e
    | view =>
     have:b=false:=by
      cases es with
      |nil=>cases f<;>cases e;rfl
      |cons=>cases e;rfl
     subst this;rfl
  |_=>cases e
 | ptr =>
  cases x with
  |nilptr=>cases hx with|fz z=>cases z;exact e
  | ptr=>cases hx with
   |fz z=>cases z
   |ptr=>exact e
  |fptr=>cases hx with|fz z=>cases z<;>exact e
  |_=>cases e
 | map =>
  cases x with
  |nilmap=>cases hx with|fz z=>cases z;exact e
  | map=>cases hx with
   |fz z=>cases z
   |map=>exact e
  |_=>cases e
 | ifc =>
  cases x with
  |niliface=>cases hx with|fz z=>cases z;exact e
  | iface=>cases hx with
   |fz z=>cases z
   |iface=>exact e
  |_=>cases e
 |_=>cases e
theorem qZ{k:EqK}{b:Bool}(hx:VR Z ow h os xc x)(hy:VR Z ow h os yc y)(hmx:Oj x=true)(hmy:Oj y=true)(e:Et k x y=some b):Et k xc yc=some b:=by
 unfold Et at e|-;cases hny:q0 k y with
 |none=>rw[hny]at e;cases e
 | some c =>
  rw[hny]at e;rw[Zm hy hmy hny];cases hnx:q0 k x with
  |none=>rw[hnx]at e;cases c<;>cases e
  |some d=>grind[Zm]
def FW(v:AV):Bool:=match v with | .agg _=>true | .int _ _=>true | .bool _=>true | .str _=>true|_=>false
theorem zT{k:EqK}{z:AV}(hz:FW z=false):sK k z yc=Et k z yc:=by cases z<;>first|rfl|cases hz
theorem wN(hx:VR Z ow h os xc x)(hu:x≠.und)(hz:FW x=false):FW xc=false:=by
 cases hx with
 |und=>grind
 |mnil em=>rcases em with rfl|rfl<;>rfl
 |agg=>cases hz
 | fz f =>
  cases f with
  |emp em=>cases em<;>rfl
  |agg=>cases hz
  |int=>cases hz
  |bool=>cases hz
  |str=>cases hz
  |_=>rfl
 |_=>rfl
theorem nV{k:EqK}{b:Bool}(hx:VR Z ow h os xc x)(hy:VR Z ow h os yc y)(hmx:Oj x=true)(hmy:Oj y=true)(e:sK k x y=some b):sK k xc yc=some b:=by
 cases x with
 | agg a =>
  obtain⟨c,rfl,e1⟩:=x9 e;obtain⟨ac,rfl,ha⟩:=hx.agI;obtain⟨cc,rfl,hc⟩:=hy.agI;have e1:sF k a c=some b:=e1;show sF k ac cc=some b
  cases k with
  | flat z =>
   have e1:B6 (Dv z a&&Dv z c) (MX a c)=some b:=e1;obtain⟨h1,_⟩:=B0 e1;rw[Bool.and_eq_true]at h1;grind[iI]
  |_=>cases e1
 |bool a=>obtain⟨c,rfl,_⟩:=Bb e;rw[hx.isB,hy.isB];exact e
 |int j a=>obtain⟨_,c,rfl,_⟩:=D4 e;rw[hx.isI,hy.isI];exact e
 |str a=>obtain⟨c,rfl,_⟩:=K8 e;rw[hx.isS,hy.isS];exact e
 | und=>unfold sK Et at e;cases h1:q0 k y with
  |none=>simp only[h1]at e;cases e
  |some c=>simp only[h1]at e;cases c<;>(cases k<;>cases e)
 | _ =>
  have e0:=qZ hx hy hmx hmy e;rw[zT (wN hx (by grind) rfl)];exact e0
theorem lM{op:BinOp}{k:EqK}(hx:VR Z ow h os xc x)(hy:VR Z ow h os yc y)(hmx:Oj x=true)(hmy:Oj y=true)(e:O9 op k x y=some v):O9 op k xc yc=some v/\Bu v=true:=by
 have i2:∀f:IntKind->Int->Int->Option AV,(∀k a b v,f k a b=some v->Bu v=true)->Ap x y f=some v->Ap xc yc f=some v/\Bu v=true:=fun f hf e=>by
  refine⟨wK hx hy e,?_⟩;obtain⟨k,n,rfl,e1⟩:=D4 e;obtain⟨k',m,rfl,e2⟩:=D4 e1;cases hk:kindEq k k' with
  |false=>rw[hk]at e2;cases e2
  |true=>rw[hk]at e2;exact hf _ _ _ _ e2
 have mw:∀{k n v},j0 k n=some v->Bu v=true:=fun e=>Mp e
 have hob:∀{o:Option Bool}{f:Bool->Bool},A7 o (fun b=>F8 (f b))=some v->Bu v=true:=fun{o f} e=>by
  obtain⟨b,_,h2⟩:=A1 e;exact Z7 h2
 cases op with
 | add =>
  have e:DG x y=some v:=e;show DG xc yc=some v/\_
  cases x with
  | str a =>
   obtain⟨c,rfl,e1⟩:=K8 e;rw[hx.isS,hy.isS];refine⟨e,?_⟩;cases hb:Nat.ble (Nat.add (o8 a) (o8 c)) 4611686018427387904 with
   |false=>rw[hb]at e1;cases e1
   |true=>rw[hb]at e1;cases e1;rfl
  | int k n =>
   rw[hx.isI]
   have:=i2 (fun k a b=>j0 k (a+b)) (fun _ _ _ _ e=>mw e) e
   rw[hx.isI]at this;exact this
  |_=>cases e
 |sub=>exact i2 _ (fun _ _ _ _ e=>mw e) e
 |mul=>cases e
 |quo=>cases e
 | rem=>exact i2 (fun k a b=>bif intEq b 0 then none else Kr k (a.tmod b)) (fun k a b v e=>by
  cases hb:intEq b 0 with
  |true=>rw[hb]at e;cases e
  |false=>rw[hb]at e;exact Mp e) e
 |and=>cases e
 |or=>cases e
 |xor=>cases e
 |shl=>cases e
 |shr=>cases e
 | eql =>
  have e:A7 (sK k x y) F8=some v:=e;obtain⟨b,h1,h2⟩:=A1 e;refine⟨?_,Z7 h2⟩;show A7 (sK k xc yc) F8=some v
  rw[nV hx hy hmx hmy h1];exact h2
 | neq =>
  have e:A7 (sK k x y) (fun b=>F8 (!b))=some v:=e;obtain⟨b,h1,h2⟩:=A1 e;refine⟨?_,Z7 h2⟩;show A7 (sK k xc yc) (fun b=>F8 (!b))=some v
  rw[nV hx hy hmx hmy h1];exact h2
 |lss=>exact i2 _ (fun _ _ _ _ e=>Z7 e) e
 |leq=>exact i2 _ (fun _ _ _ _ e=>Z7 e) e
 |gtr=>exact i2 _ (fun _ _ _ _ e=>Z7 e) e
 |geq=>exact i2 _ (fun _ _ _ _ e=>Z7 e) e
 |_=>cases e
theorem rA{op:UnOp}(hx:VR Z ow h os xc x)(e:Pk op x=some v):Pk op xc=some v/\Bu v=true:=by
 cases op with
 |neg=>obtain⟨k,n,rfl,e1⟩:=D4 (show x.onInt none (fun k n=>j0 k (0-n))=some v from e);rw[hx.isI];exact⟨e,Mp e1⟩
 |not=>obtain⟨b,rfl,e1⟩:=Bb (show x.onBool none (fun b=>F8 (!b))=some v from e);rw[hx.isB];grind[Z7]
 |_=>cases e
theorem dA{d:TD}(hx:VR Z ow h os xc x)(e:S4 d x=some v):S4 d xc=some v/\Bu v=true:=by
 cases d with
 |int k=>obtain⟨j,n,rfl,e1⟩:=D4 (show x.onInt none (fun _ n=>j0 k n)=some v from e);rw[hx.isI];exact⟨e,Mp e1⟩
 |string=>obtain⟨s,rfl,e1⟩:=K8 (show x.onStr none (fun s=>some (.str s))=some v from e);rw[hx.isS];cases e1;exact⟨rfl,rfl⟩
 |_=>cases e
theorem w5{n:Nat}(hx:VR Z ow h os xc x)(e:asNat x=some n):asNat xc=some n:=by
 obtain⟨k,m,rfl,_⟩:=D4 e;rw[hx.isI];exact e
theorem dB(hx:VR Z ow h os xc x)(e:Bx x=some v):∃vc,Bx xc=some vc/\VR Z ow h os vc v:=by
 cases x with
 | fptr u o =>
  cases e;cases hx with
  | fz z=>cases z with
   |fptr o f=>exact⟨_,rfl,.fz (.fptr o f)⟩
   |pview a b c d=>exact⟨_,rfl,.fz (.pview a b c d)⟩
 | ptr id i o =>
  cases e;cases hx with
  |fz z=>cases z
  |ptr a b=>exact⟨_,rfl,.ptr a b⟩
 | map id =>
  cases e;cases hx with
  |fz z=>cases z
  |map a b=>exact⟨_,rfl,.map a b⟩
 | fn f a b =>
  cases hx with
  |fz z=>cases z
  | fn h1 h2 h3 h4 =>
   cases f with
   |func n=>cases e;exact⟨_,rfl,.fn h1 h2 h3 h4⟩
   |_=>cases e
 |_=>cases e
theorem Qm{d:Nat}(hx:VR Z ow h os xc x)(e:C4 x d=some v):∃vc,C4 xc d=some vc/\VR Z ow h os vc v:=by
 have pf:∀(u:AV)(o:Nat),C4 (.fptr u o) d=some (.fptr u (o+d)):=fun u o=>C9 (Nat.add o d) (fun o=>some (AV.fptr u o))
 have pp:∀(id i o:Nat),C4 (.ptr id i o) d=some (.ptr id i (o+d)):=fun id i o=>C9 (Nat.add o d) (fun o=>some (AV.ptr id i o))
 cases x with
 | fptr u o =>
  rw[pf]at e;cases e;cases hx with
  | fz z=>cases z with
   |fptr o f=>exact⟨_,pf _ _,.fz (.fptr _ f)⟩
   |pview a b c f=>exact⟨_,pp _ _ _,.fz (.pview a b c f)⟩
 | ptr id i o =>
  rw[pp]at e;cases e;cases hx with
  |fz z=>cases z
  |ptr a b=>exact⟨_,pp _ _ _,.ptr a b⟩
 |_=>cases e
theorem VL.part{xs ys:List AV}{t:TI}{off:Nat}(hl:VL Z ow h os xs ys)(e:partOf t ys off=some v):∃vc,partOf t xs off=some vc/\VR Z ow h os vc v:=by
 obtain⟨w0,h1,h2⟩:=Ml (R:=fun _ a b=>VR Z ow h os a b) hl.1 hl.2 e;refine⟨w0,h1,?_⟩;rcases h2 with⟨us,vs,rfl,rfl,h3,_,_,_,h4⟩|⟨_,_,_,h5⟩
 . exact .agg h3 h4
 . exact h5
theorem Xu{d:TD}{i:Nat}(hx:VR Z ow h os xc x)(e:S5 E d i x=some v):∃vc,S5 E d i xc=some vc/\VR Z ow h os vc v:=by
 cases d with
 | slice el =>
  have e:onTI E el none (fun te=>eH te i x)=some v:=e;show ∃vc,onTI E el none (fun te=>eH te i xc)=some vc/\_
  unfold onTI at e|-;cases ht:E.ti el with
  |none=>simp_all
  | some te =>
   rw[ht]at e;simp only at e|-;have e:eH te i x=some v:=e;show ∃vc,eH te i xc=some vc/\_
   have hm:∀id off n sz,eH te i (.msl id off n sz)=if i<n/\sz=te.size then some (AV.ptr id (off+i) 0)else none:=fun id off n sz=>by
    show B6 (Nat.blt i n&&Nat.beq sz te.size) (N7 (Nat.add off i) fun o=>some (AV.ptr id o 0))=_
    rw[C9];by_cases hc:i<n/\sz=te.size
    . rw[if_pos hc,hc.2,zqz]
      have:Nat.blt i n=true:=zqu hc.1
      rw[this];rfl
    . rw [if_neg hc]
      cases hg:(Nat.blt i n&&Nat.beq sz te.size)with
      |false=>rfl
      | true =>
       simp_all
   have hf:∀es f,eH te i (.fsl es f)=match es[i]? with|some u=>if u.cells.length=te.size then some (.fptr u 0)else none|none=>none:=fun es f=>by
    show A7 (Ep es i) (fun v=>B6 (Nat.beq (lenL v.cells) te.size) (some (AV.fptr v 0)))=_
    rw[S3];cases es[i]? with
    |none=>rfl
    | some u =>
     show B6 (Nat.beq (lenL u.cells) te.size) (some (AV.fptr u 0))=if u.cells.length=te.size then some (AV.fptr u 0)else none
     rw[A9];by_cases hc:u.cells.length=te.size
     . rw[if_pos hc,hc,zqz];rfl
     . rw[if_neg hc]
       cases hb:Nat.beq u.cells.length te.size with
       |false=>rfl
       |true=>simp_all
   cases x with
   | fsl es f =>
    rw[hf]at e;cases hu:es[i]? with
    |none=>grind
    | some u =>
     rw[hu]at e;simp only at e;split at e
     . rename_i hsz
       cases e;cases hx with
       | fz z =>
        cases z with
        |emp em=>simp at hu
        | fsl h1 h2 h3 =>
         rename_i es0 f0;have hl:i<es0.length:=by grind
         have hz:=h2 i _ u (zqd hl) hu;refine⟨.fptr es0[i] 0,?_,.fz (.fptr 0 hz)⟩;rw[hf,zqd hl];simp only;rw[if_pos (hz.shape.1.trans hsz)]
        | view h1 h2 h3 h4 h5 h6 =>
         rename_i id off n sz row;have hi:i<n:=by grind
         have hl:off+i<row.length:=by omega
         have hz:=h5 i _ u (zqd hl) hu;have hs:=h6 i _ hi (zqd hl);refine⟨.ptr id (off+i) 0,?_,.fz (.pview h1 h2 (zqd hl) hz)⟩;rw[hm,if_pos ⟨hi,by rw[<-hs,hz.shape.1,hsz]⟩]
     . cases e
   | msl id off n sz =>
    rw[hm]at e;split at e
    . rename_i hc
      cases e;cases hx with
      |fz z=>cases z
      |mnil _ _ _=>omega
      |msl a b=>exact⟨_,by rw[hm,if_pos hc],.ptr a b⟩
    . cases e
   |_=>cases e
 | array len el =>
  have e:onTI E el none (fun te=>B6 (Nat.blt i len&&Nat.blt 0 te.size) (C4 x (Nat.mul i te.size)))=some v:=e;show ∃vc,onTI E el none (fun te=>B6 (Nat.blt i len&&Nat.blt 0 te.size) (C4 xc (Nat.mul i te.size)))=some vc/\_
  unfold onTI at e|-;cases ht:E.ti el with
  |none=>simp_all
  | some te =>
   rw[ht]at e;simp only at e|-;obtain⟨h1,h2⟩:=B0 e;obtain⟨vc,h3,h4⟩:=Qm hx h2;exact⟨vc,by rw[h1];exact h3,h4⟩
 |_=>cases e
theorem rB{d:TD}{i:Nat}(hx:VR Z ow h os xc x)(e:Ew E d i x=some v):∃vc,Ew E d i xc=some vc/\VR Z ow h os vc v:=by
 cases d with
 | string =>
  obtain⟨s,rfl,e1⟩:=K8 (show x.onStr none (fun s=>A7 (DH s i) fun b=>some (.int .u8 (Int.ofNat b.toNat)))=some v from e);rw[hx.isS];obtain⟨b,_,h2⟩:=A1 e1;cases h2;exact⟨_,e,.i _ _⟩
 | array len el =>
  have e:onTI E el none (fun te=>B6 (Nat.blt i len) (x.onAgg none fun cs=>partOf te cs (Nat.mul i te.size)))=some v:=e;show ∃vc,onTI E el none (fun te=>B6 (Nat.blt i len) (xc.onAgg none fun cs=>partOf te cs (Nat.mul i te.size)))=some vc/\_
  unfold onTI at e|-;cases ht:E.ti el with
  |none=>simp_all
  | some te =>
   rw[ht]at e;simp only at e|-;obtain⟨h1,h2⟩:=B0 e;obtain⟨cs,rfl,h3⟩:=x9 h2;obtain⟨xs,rfl,hl⟩:=hx.agI;obtain⟨vc,h4,h5⟩:=hl.part h3;exact⟨vc,by rw[h1];exact h4,h5⟩
 |_=>cases e
end
end Go.AM
