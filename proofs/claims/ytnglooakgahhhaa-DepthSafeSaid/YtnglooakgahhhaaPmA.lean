/- The tree machine: code as trees, memory by kept numbers, and that it says what the machine does. Conditions: none. -/
import Derived.Test.YtnglooakgahhhaaAmEight
set_option linter.unusedVariables false
set_option linter.unusedSimpArgs false
set_option linter.unusedSectionVars false
set_option linter.defProp false
set_option maxHeartbeats 4000000
open Option renaming some→zs,none→znq
open Bool renaming true→zt,false→zf
open List renaming replicate→zqa,getElem?_eq_some_iff→zqb,getElem?_set→zqc,getElem?_eq_getElem→zqd,mem_of_getElem?→zqe,all_eq_true→zqf,length_set→zqg,mem_cons_self→zqh,getElem?_of_mem→zqi,length_replicate→zqj,append_cancel_left→zqk,getElem?_append→zql,eq_nil_of_length_eq_zero→zqm,length→zqn,mem_singleton→zqo,mem_append→zqp,length_append→zqq,mem_cons_of_mem→zqr,take_length→zqs
open Nat renaming le_refl→zqt,lt_of_lt_of_le→zqu,zero_add→zqv,ble_eq_true_of_le→zqw,le_succ→zqx,lt_succ_self→zqy,le_trans→zqz
namespace Go.AM
def Le{α:Type}(bad r r':α):Prop:=r=bad\/r'=r
section
variable {α β:Type}{b r r':α}{c:β}
theorem Le.same:Le b r r:=.inr rfl
theorem Le.none:Le b b r:=.inl rfl
theorem Le.bind{k k':α->β}(h:Le b r r')(A:k b=c)(hkk:∀x,Le c (k x) (k' x)):Le c (k r) (k' r'):=by
 rcases h with h|h
 . subst h;exact .inl A
 grind
theorem Le.map{k:α->β}(h:Le b r r')(A:k b=c):Le c (k r) (k r'):=h.bind A fun _=>.same
theorem Le.cond{t:Bool}{x y A B:α}(h1:Le b x A)(h2:Le b y B):Le b (bif t then x else y) (bif t then A else B):=by
 grind
theorem Le.of_ne(h:Le b r r')(hn:r≠b):r'=r:=h.elim (fun e=>absurd e hn) id
end
section
variable {E:Env}{call call':C7}{ih ih':D9}
def FY(call call':C7):Prop:=∀f l h,Le Res.bad (call f l h) (call' f l h)
def Xr(ih ih':D9):Prop:=∀c fr h,Le CRes.bad (ih c fr h) (ih' c fr h)
theorem Qn(hc:FY call call')(op:Op)(fr:Tr)(h:Heap):Le .bad (evOp E call op fr h) (evOp E call' op fr h):=by
 cases op with
 |call c=>
  obtain⟨A,args,ts⟩:=c;cases A with
  |value f=>
   show Le _ (f9 call (opv E f fr) (opvs E args.toList fr) h) (f9 call' (opv E f fr) (opvs E args.toList fr) h)
   cases opv E f fr with
   |fn g first caps=>
    cases g with
    |func n=>exact hc _ _ _
    |_=>exact .same
   |_=>exact .same
  |_=>exact .same
 |_=>exact .same
theorem onOB_le{α:Type}{b:α}{o:Option Bool}{t t' f f':α}(h1:Le b t t')(h2:Le b f f'):Le b (onOB o b t f) (onOB o b t' f'):=by
 cases o with
 |none=>exact .same
 |some x=>cases x<;>assumption
theorem Ua(hc:FY call call'):∀(l:List XOp)(fr:Tr)(h:Heap),Le .bad (H1 E call l fr h) (H1 E call' l fr h)
 |[],_,_=>.same
 |o :: l,fr,h=>onOB_le ((Qn hc o.op fr h).bind (k:=Y1 o.dst (H1 E call l) fr) (k':=Y1 o.dst (H1 E call' l) fr) rfl fun x=>by
     cases x with
     |ok v h'=>exact Ua hc l _ _
     |_=>exact .same) (Ua hc l _ _)
theorem fO(hc:FY call call')(o:XOp)(fr:Tr)(h:Heap)(d:List Nat):Le .bad (evOpD E call o fr h d) (evOpD E call' o fr h d):=by
 unfold evOpD;exact .cond ((Qn hc o.op fr _).map rfl) (.cond (.cond ((Qn hc o.op fr h).map rfl) .same) ((Qn hc o.op fr h).map rfl))
theorem Ma(hc:FY call call'):∀(l:List XOp)(late:List Bool)(fr:Tr)(h:Heap)(d:List Nat),Le zf (virtD E call l late fr h d) (virtD E call' l late fr h d)
 |[],_,_,_,_=>.same
 |o::l,[],fr,h,d=>.same
 |o::l,zt::late,fr,h,d=>Ma hc l late _ h d
 |o :: l,zf::late,fr,h,d=>onOB_le ((fO hc o fr h d).bind (k:=virtThen o.dst (virtD E call l late) fr) (k':=virtThen o.dst (virtD E call' l late) fr) rfl fun x=>by
     cases x with
     |ok v h' d'=>exact Ma hc l late _ _ _
     |_=>exact .same) (Ma hc l late _ h d)
theorem Np(hc:FY call call'):∀(l:List XOp)(fr:Tr)(h:Heap)(d:List Nat),Le .bad (evOpsD E call l fr h d) (evOpsD E call' l fr h d)
 |[],_,_,_=>.same
 |o :: l,fr,h,d=>onOB_le ((fO hc o fr h d).bind (k:=O9 o.dst (evOpsD E call l) (virtD E call l o.late (setDst o.dst skipped fr) h d) fr) (k':=O9 o.dst (evOpsD E call' l) (virtD E call' l o.late (setDst o.dst skipped fr) h d) fr) rfl fun x=>by
     cases x with
     |ok v h' d'=>exact Np hc l _ _ _
     |pan v h'=>exact(Ma hc l o.late (setDst o.dst skipped fr) h d).map (k:=fun w=>bif w then CRes.pan v h' else .bad) rfl
     |bad=>exact .same) (Np hc l _ _ _)
theorem yX(hi:Xr ih ih')(m:FM)(nt:Nat)(caps:List AV)(p:AV)(h:Heap):Le .bad (CX ih m nt caps p h) (CX ih' m nt caps p h):=by
 cases m with
 |rcv d d2 rest=>exact .cond ((hi _ _ _).map rfl) .same
 |_=>exact .same
theorem yY(hi:Xr ih ih')(f:Nat)(caps:List AV)(p:AV)(h:Heap):Le .bad (Rg E ih f caps p h) (Rg E ih' f caps p h):=by
 unfold Rg;cases E.fn f with
 |none=>exact .same
 |some fi=>exact .cond (yX hi _ _ _ _ _) .same
theorem mU(hi:Xr ih ih')(x p:AV)(h:Heap):Le .bad (Ep E ih x p h) (Ep E ih' x p h):=by
 cases x with
 |fn f first caps=>
  cases f with
  |func n=>exact .cond (yY hi _ _ _ _) .same
  |_=>exact .same
 |_=>exact .same
theorem qJ(hi:Xr ih ih')(x:AV)(rs:List ResultVar)(fr:Tr)(r:CRes):Le .bad (I0 E ih x rs fr r) (I0 E ih' x rs fr r):=by
 cases r with
 |ok e A h=>
  cases e with
  |exit _=>exact .same
  |_=>exact(mU hi _ _ _).map (k:=k8 E rs A) rfl
 |pan v h=>exact(mU hi _ _ _).map (k:=k8 E rs fr) rfl
 |bad=>exact .same
theorem mV(hi:Xr ih ih')(g:Operand)(rest:XC)(rs:List ResultVar):∀(pre:List XC)(fr:Tr)(h:Heap),Le .bad (r9 E ih g rest rs pre fr h) (r9 E ih' g rest rs pre fr h)
 |[],fr,h=>(hi rest fr h).bind (k:=I0 E ih (opv E g fr) rs fr) (k':=I0 E ih' (opv E g fr) rs fr) rfl fun r=>qJ hi _ _ _ r
 |p::pre,fr,h=>(hi p fr h).bind (k:=Bc (r9 E ih g rest rs pre)) (k':=Bc (r9 E ih' g rest rs pre)) rfl fun r=>by
  cases r with
  | ok e A h2=>cases e with
   |normal=>exact mV hi g rest rs pre A h2
   |_=>exact .same
  |_=>exact .same
theorem yZ(hi:Xr ih ih')(ks:List Nat)(args:List AV)(h:Heap):Le .bad (iK E ih ks args h) (iK E ih' ks args h):=.same
theorem vI(hi:Xr ih ih')(A:FI)(args:List AV)(h:Heap):Le .bad (Oj E ih A args h) (Oj E ih' A args h):=by
 unfold Oj;cases A.mode with
 |dfr pre g rest=>grind[mV]
 |rcv _ _ _=>exact .same
 |_=>exact(hi A.code _ h).map (k:=H7 E A.results) rfl
theorem Xs(hi:Xr ih ih')(f:Nat)(args:List AV)(h:Heap):Le .bad (P0 E ih f args h) (P0 E ih' f args h):=by
 unfold P0;refine .cond .same ?_;cases E.dlf f with
 |some ks=>grind[yZ]
 |none=>
  dsimp only;cases srtA E f args h with
  |some r=>exact .same
  |none=>
   dsimp only;cases E.fn f with
   |none=>exact .same
   |some A=>exact .cond (vI hi A args h) .same
theorem fP(hi:Xr ih ih'):FY (F9 E ih) (F9 E ih'):=fun f l h=>by
 unfold F9;exact .cond ((Xs hi f l _).map rfl) (Xs hi f l h)
theorem thenI_le{k k':Tr->Heap->IRes}(A:∀fr h,Le .bad (k fr h) (k' fr h)){r r':CRes}(h:Le .bad r r'):Le .bad (H8 k r) (H8 k' r'):=
 h.bind (k:=H8 k) (k':=H8 k') rfl fun x=>by
  cases x with
  | ok e fr h=>cases e with
   |normal=>exact A fr h
   |_=>exact .same
  |_=>exact .same
def NT(Y A:List AV->Heap->CRes):Prop:=∀l h,Le .bad (Y l h) (A l h)
theorem vJ{k k':Tr->Heap->CRes}(A:∀fr h,Le .bad (k fr h) (k' fr h)){r r':CRes}(h:Le .bad r r'):Le .bad (Ej k r) (Ej k' r'):=
 h.bind (k:=Ej k) (k':=Ej k') rfl fun x=>by
  cases x with
  | ok e fr h=>cases e with
   |normal=>exact A fr h
   |_=>exact .same
  |_=>exact .same
theorem qK(hi:Xr ih ih')(ps:List Tmp)(a b:XC)(fr:Tr):NT (roundY ih ps a b fr) (roundY ih' ps a b fr):=fun l h =>
 .cond (vJ (fun fr h=>hi b fr h) (hi a _ h)) .same
theorem zA(hi:Xr ih ih')(p2:XC)(yd:Tmp)(fr:Tr){r r':CRes}(h:Le .bad r r'):Le .bad (Ht ih p2 yd fr r) (Ht ih' p2 yd fr r'):=
 h.bind (k:=Ht ih p2 yd fr) (k':=Ht ih' p2 yd fr) rfl fun x=>by
  cases x with
  |ok e fr h=>cases e<;>exact thenI_le (fun _ _=>.same) (hi _ _ _)
  |_=>exact .same
theorem yesI_le(hi:Xr ih ih'){Y A:List AV->Heap->CRes}(B:NT Y A)(nt:Nat)(gd:Option (Option Tmp×Bool))(yt:Tmp)(p1:XC)(yd:Tmp)(args:List Operand)(p2:XC)(p:Option Ex)(fr:Tr)(h:Heap):
 Le .bad (cZ E ih nt Y gd yt p1 yd args p2 p fr h) (cZ E ih' nt A gd yt p1 yd args p2 p fr h):=by
 unfold cZ;cases p with
 |some _=>exact .same
 |none=>exact .cond (thenI_le (fun fr h=>onOB_le (zA hi p2 yd fr (B _ _)) .same) (hi _ _ _)) .same
theorem noI_le(hi:Xr ih ih')(gd:Option (Option Tmp×Bool))(yt:Tmp)(p1:XC)(yd:Tmp)(p2:XC)(p:Option Ex)(fr:Tr)(h:Heap):
 Le .bad (zY ih gd yt p1 yd p2 p fr h) (zY ih' gd yt p1 yd p2 p fr h):=by
 unfold zY;exact thenI_le (fun fr h=>onOB_le .same (thenI_le (fun _ _=>.same) (hi _ _ _))) (hi _ _ _)
theorem mW{b A:Option Ex->Tr->Heap->IRes}(hb:∀p fr h,Le .bad (b p fr h) (A p fr h)){r r':IRes}(h:Le .bad r r'):Le .bad (Kp b r) (Kp A r'):=
 h.bind (k:=Kp b) (k':=Kp A) rfl fun x=>by
  cases x with
  | ok e p fr h=>cases e with
   |normal=>exact hb p fr h
   |_=>exact .same
  |bad=>exact .same
theorem vK(hi:Xr ih ih'){Y B:List AV->Heap->CRes}(C:NT Y B)(nt:Nat):∀(m:Nat)(c:IC)(p:Option Ex)(fr:Tr)(h:Heap),Le .bad (evI E ih nt Y m c p fr h) (evI E ih' nt B m c p fr h)
 |0,c,p,fr,h=>.same
 |m+1,c,p,fr,h=>by
  have A:=vK hi C nt m;show Le .bad (dB E ih nt Y (evI E ih nt Y m) c p fr h) (dB E ih' nt B (evI E ih' nt B m) c p fr h)
  cases c with
  |reg x=>exact thenI_le (fun _ _=>.same) (hi _ _ _)
  |yreg p0 gd yt p1 yd args p2=>exact thenI_le (by grind[Go.AM.onOB_le,Go.AM.yesI_le,Go.AM.noI_le]) (hi _ _ _)
  |seq a b=>exact mW (fun p fr h=>A b p fr h) (A a p fr h)
  |cond x a b=>
   show Le .bad ((opv E x fr).onBool .bad fun t=>match t with|true=>evI E ih nt Y m a p fr h|false=>evI E ih nt Y m b p fr h) ((opv E x fr).onBool .bad fun t=>match t with|true=>evI E ih' nt B m a p fr h|false=>evI E ih' nt B m b p fr h)
   cases opv E x fr with
   |bool t=>cases t;exact A b p fr h;exact A a p fr h
   |_=>exact .same
  |block id c=>exact(A c p fr h).map (k:=Iz id) rfl
  |loop c=>exact mW (fun p fr h=>A (.loop c) p fr h) (A c p fr h)
  |_=>exact .same
theorem FZ(hi:Xr ih ih'){Y A:List AV->Heap->CRes}(B:NT Y A)(m:FM)(nt:Nat)(caps:List AV)(h:Heap):Le .bad (itM E ih m nt caps Y h) (itM E ih' m nt caps A h):=by
 cases m with
 |itf c=>exact(vK hi B nt itMax c znq _ h).map (k:=finI) rfl
 |_=>exact .same
theorem GA(hi:Xr ih ih'){Y A:List AV->Heap->CRes}(B:NT Y A)(f:Nat)(caps:List AV)(h:Heap):Le .bad (itF E ih f caps Y h) (itF E ih' f caps A h):=by
 unfold itF;cases E.fn f with
 |none=>exact .same
 |some fi=>exact .cond (FZ hi B _ _ _ _) .same
theorem zB(hi:Xr ih ih')(ps:List Tmp)(a b:XC)(fr:Tr)(h:Heap)(g:AV):Le .bad (rfnA E ih ps a b fr h g) (rfnA E ih' ps a b fr h g):=by
 cases g with
 |fn f first caps=>
  cases f with
  |func n=>exact .cond ((GA hi (qK hi ps a b fr) n caps h).map (k:=backA fr) rfl) .same
  |_=>exact .same
 |_=>exact .same
theorem mX{b A:Tr->Heap->CRes}(hb:∀fr h,Le .bad (b fr h) (A fr h)){r r':CRes}(h:Le .bad r r'):Le .bad (Er b r) (Er A r'):=
 h.bind (k:=Er b) (k':=Er A) rfl fun x=>by
  cases x with
  | ok e fr h=>cases e with
   |normal=>exact hb fr h
   |_=>exact .same
  |_=>exact .same
theorem zC(hi:Xr ih ih')(c:XC)(fr:Tr)(h:Heap):Le .bad (step E ih c fr h) (step E ih' c fr h):=by
 have A:=fP (E:=E) hi;cases c with
 |reg d l=>
  cases d with
  |false=>exact Ua A l fr h
  |true=>exact Np A l fr h []
 |seq a b=>exact mX (hi b) (hi a fr h)
 |loop a=>exact mX (hi (.loop a)) (hi a fr h)
 |scope a=>exact hi a fr h
 |block id a=>exact(hi a fr h).map (k:=Fl id) rfl
 |cond x a b=>
  show Le .bad (Ok (ih a) (ih b) (opv E x fr) fr h) (Ok (ih' a) (ih' b) (opv E x fr) fr h)
  cases opv E x fr with
  |bool t=>cases t;exact hi b fr h;exact hi a fr h
  |_=>exact .same
 |rfn g ps a b=>exact zB hi ps a b fr h _
 |rngm R y=>exact .same
 |_=>exact .same
theorem ev_le1:∀n:Nat,Xr (ev E n) (ev E (n+1))
 |0=>fun c fr h=>.none
 |n+1=>fun c fr h=>zC (ev_le1 n) c fr h
theorem CB(n k:Nat):Xr (ev E n) (ev E (n+k)):=by
 induction k with
 |zero=>exact fun _ _ _=>.same
 |succ k ih=>
  intro c fr h;rcases ih c fr h with e|e
  . exact .inl e
  . rcases ev_le1 (E:=E) (n+k) c fr h with e2|e2
    . exact .inl (e.symm.trans e2)
    . exact .inr (e2.trans e)
theorem zD(n k:Nat):FY (F9 E (ev E n)) (F9 E (ev E (n+k))):=fP (CB n k)
end
structure Lim{R:Type}(bad:R)(g:Nat->R)(r:R):Prop where
 ok:r≠bad->∃n,∀m,n<=m->g m=r
 no:r=bad->∀m,g m=bad
 early:∀n,g n=bad\/g n=r
open Classical in
noncomputable def mY{R:Type}(bad:R)(g:Nat->R):R:=if hx:∃n,g n≠bad then g hx.choose else bad
theorem Xt{R:Type}{bad:R}{g:Nat->R}(C:∀n k,Le bad (g n) (g (n+k))):Lim bad g (mY bad g):=by
 unfold mY;by_cases A:∃n,g n≠bad
 . rw [dif_pos A]
   have B:∀n,g n≠bad->∀m,n<=m->g m=g n:=fun n hn m hm'=>by
    have:=(C n (m-n)).of_ne hn
    grind
   refine⟨fun _=>⟨A.choose,B _ A.choose_spec⟩,fun e=>absurd e A.choose_spec,fun n=>?_⟩;grind
 . rw[dif_neg A]
   have:∀n,g n=bad:=(by grind)
   exact⟨fun e=>absurd rfl e,fun _ m=>this m,fun n=>.inl (this n)⟩
theorem Lim.unique{R:Type}{bad:R}{g:Nat->R}{r r':R}(h:Lim bad g r)(h':Lim bad g r'):r=r':=by
 by_cases e:r=bad
 . by_cases A:r'=bad
   . rw[e,A]
   . obtain⟨n,hn⟩:=h'.ok A
     exact absurd ((hn n (zqt _)).symm.trans (h.no e n)) A
 . by_cases A:r'=bad
   . obtain⟨n,hn⟩:=h.ok e
     exact absurd ((hn n (zqt _)).symm.trans (h'.no A n)) e
   . obtain⟨n,hn⟩:=h.ok e
     obtain⟨m,B⟩:=h'.ok A;exact(hn (n+m) (by omega)).symm.trans (B (n+m) (by omega))
theorem Lim.const{R:Type}{bad r:R}:Lim bad (fun _=>r) r:=⟨fun _=>⟨0,fun _ _=>rfl⟩,fun e _=>e,fun _=>.inr rfl⟩
theorem Lim.shift{R:Type}{bad:R}{g:Nat->R}{r:R}(h:Lim bad (fun n=>g (n+1)) r)(h0:g 0=bad):Lim bad g r:=by
 refine⟨fun e=>?_,fun e m=>?_,fun m=>?_⟩
 . obtain⟨n,hn⟩:=h.ok e
   exact⟨n+1,fun m hm=>by have:=hn (m-1) (by omega);grind⟩
 . cases m with
   |succ m=>exact h.no e m
   |zero=>exact h0
 . cases m with
   |succ m=>exact h.early m
   |zero=>grind
theorem Lim.bind{R S:Type}{bad:R}{A:S}{g:Nat->R}{r:R}{k:Nat->R->S}{s:R->S}(hg:Lim bad g r)(C:∀n,k n bad=A)(G:s bad=A)(hl:r≠bad->Lim A (fun n=>k n r) (s r)):Lim A (fun n=>k n (g n)) (s r):=by
 by_cases e:r=bad
 . subst e
   have:∀n,k n (g n)=A:=fun n=>by rw[hg.no rfl n];exact C n
   exact⟨fun e=>absurd G e,fun _ m=>this m,fun n=>.inl (this n)⟩
 . have hl:=hl e
   refine⟨fun B=>?_,fun B m=>?_,fun m=>?_⟩
   . obtain⟨n,hn⟩:=hg.ok e
     obtain⟨m,hm⟩:=hl.ok B;exact⟨n+m,(by grind)⟩
   . show k m (g m)=A
     rcases hg.early m with h|h
     . grind
     . rw[h];exact hl.no B m
   . rcases hg.early m with h|h
     . grind
     . show k m (g m)=A\/k m (g m)=s r
       rw[h];exact hl.early m
section
variable {E:Env}
noncomputable def evω(E:Env):D9:=fun c fr h=>mY .bad fun n=>ev E n c fr h
noncomputable def callω(E:Env):C7:=fun f l h=>mY .bad fun n=>F9 E (ev E n) f l h
theorem ev_lim(c:XC)(fr:Tr)(h:Heap):Lim .bad (fun n=>ev E n c fr h) (evω E c fr h):=Xt fun n k=>CB n k c fr h
theorem Cw(f:Nat)(l:List AV)(h:Heap):Lim .bad (fun n=>F9 E (ev E n) f l h) (callω E f l h):=Xt fun n k=>zD n k f l h
theorem Ub(op:Op)(fr:Tr)(h:Heap):Lim .bad (fun n=>evOp E (F9 E (ev E n)) op fr h) (evOp E (callω E) op fr h):=by
 cases op with
 |call c=>
  obtain⟨A,args,ts⟩:=c;cases A with
  |value f=>
   show Lim .bad (fun n=>f9 (F9 E (ev E n)) (opv E f fr) (opvs E args.toList fr) h) (f9 (callω E) (opv E f fr) (opvs E args.toList fr) h)
   cases opv E f fr with
   |fn g first caps=>
    cases g with
    |func n=>exact Cw _ _ _
    |_=>exact .const
   |_=>exact .const
  |_=>exact .const
 |_=>exact .const
theorem Nq:∀(l:List XOp)(fr:Tr)(h:Heap),Lim .bad (fun n=>H1 E (F9 E (ev E n)) l fr h) (H1 E (callω E) l fr h)
 |[],fr,h=>.const
 |o :: l,fr,h=>by
  have e:∀call:C7,H1 E call (o::l) fr h=onOB (guardOk o.gd fr) .bad (Y1 o.dst (H1 E call l) fr (evOp E call o.op fr h)) (H1 E call l (setDst o.dst skipped fr) h):=fun _=>rfl
  simp only[e];cases guardOk o.gd fr with
  |none=>exact .const
  |some b=>
   cases b with
   |false=>exact Nq l _ _
   |true=>
    show Lim .bad (fun n=>Y1 o.dst (H1 E (F9 E (ev E n)) l) fr (evOp E (F9 E (ev E n)) o.op fr h)) (Y1 o.dst (H1 E (callω E) l) fr (evOp E (callω E) o.op fr h))
    refine(Ub (E:=E) o.op fr h).bind (k:=fun n r=>Y1 o.dst (H1 E (F9 E (ev E n)) l) fr r) (s:=fun r=>Y1 o.dst (H1 E (callω E) l) fr r) (fun _=>rfl) rfl (fun A=>?_);generalize evOp E (callω E) o.op fr h=r at A;cases r with
    |ok v h'=>exact Nq l _ _
    |_=>exact .const
theorem Xu(o:XOp)(fr:Tr)(h:Heap)(d:List Nat):Lim .bad (fun n=>evOpD E (F9 E (ev E n)) o fr h d) (evOpD E (callω E) o fr h d):=by
 unfold evOpD;cases o.quiet with
 |true=>
  simp only[cond_true];exact(Ub (E:=E) o.op fr {h with tch:=[]}).bind (k:=fun _ r=>z7 h.next h.tch d r) (s:=fun r=>z7 h.next h.tch d r) (fun _=>rfl) rfl (fun _=>.const)
 |false=>
  simp only[cond_false];have A:=(Ub (E:=E) o.op fr h).bind (k:=fun _ r=>w9 d r) (s:=fun r=>w9 d r) (fun _=>rfl) rfl (fun _=>.const);cases o.careful with
  |false=>exact A
  |true=>
   simp only[cond_true];cases readOk (readO E o.op fr) d with
   |false=>exact .const
   |true=>exact A
theorem Hi:∀(l:List XOp)(late:List Bool)(fr:Tr)(h:Heap)(d:List Nat),Lim zf (fun n=>virtD E (F9 E (ev E n)) l late fr h d) (virtD E (callω E) l late fr h d)
 |[],_,_,_,_=>.const
 |o::l,[],fr,h,d=>.const
 |o::l,zt::late,fr,h,d=>Hi l late _ h d
 |o :: l,zf::late,fr,h,d=>by
  show Lim zf (fun n=>onOB (guardOk o.gd fr) zf (virtThen o.dst (virtD E (F9 E (ev E n)) l late) fr (evOpD E (F9 E (ev E n)) o fr h d)) (virtD E (F9 E (ev E n)) l late (setDst o.dst skipped fr) h d)) (onOB (guardOk o.gd fr) zf (virtThen o.dst (virtD E (callω E) l late) fr (evOpD E (callω E) o fr h d)) (virtD E (callω E) l late (setDst o.dst skipped fr) h d))
  cases guardOk o.gd fr with
  |none=>exact .const
  |some b=>
   cases b with
   |false=>exact Hi l late _ h d
   |true=>
    refine(Xu (E:=E) o fr h d).bind (k:=fun n r=>virtThen o.dst (virtD E (F9 E (ev E n)) l late) fr r) (s:=fun r=>virtThen o.dst (virtD E (callω E) l late) fr r) (fun _=>rfl) rfl (fun A=>?_);generalize evOpD E (callω E) o fr h d=r at A;cases r with
    |ok v h' d'=>exact Hi l late _ _ _
    |_=>exact .const
theorem Jr:∀(l:List XOp)(fr:Tr)(h:Heap)(d:List Nat),Lim .bad (fun n=>evOpsD E (F9 E (ev E n)) l fr h d) (evOpsD E (callω E) l fr h d)
 |[],fr,h,d=>.const
 |o :: l,fr,h,d=>by
  have e:∀call:C7,evOpsD E call (o::l) fr h d=onOB (guardOk o.gd fr) .bad (O9 o.dst (evOpsD E call l) (virtD E call l o.late (setDst o.dst skipped fr) h d) fr (evOpD E call o fr h d)) (evOpsD E call l (setDst o.dst skipped fr) h d):=fun _=>rfl
  simp only[e];cases guardOk o.gd fr with
  |none=>exact .const
  |some b=>
   cases b with
   |false=>exact Jr l _ _ _
   |true=>
    refine(Xu (E:=E) o fr h d).bind (k:=fun n r=>O9 o.dst (evOpsD E (F9 E (ev E n)) l) (virtD E (F9 E (ev E n)) l o.late (setDst o.dst skipped fr) h d) fr r) (s:=fun r=>O9 o.dst (evOpsD E (callω E) l) (virtD E (callω E) l o.late (setDst o.dst skipped fr) h d) fr r) (fun _=>rfl) rfl (fun A=>?_);generalize evOpD E (callω E) o fr h d=r at A;cases r with
    |ok v h' d'=>exact Jr l _ _ _
    |pan v h'=>exact(Hi l o.late (setDst o.dst skipped fr) h d).bind (k:=fun _ w=>bif w then CRes.pan v h' else .bad) (s:=fun w=>bif w then CRes.pan v h' else .bad) (fun _=>rfl) rfl (fun _=>.const)
    |bad=>exact .const
theorem fQ(a b:XC)(fr:Tr)(h:Heap):Lim .bad (fun n=>Er (ev E n b) (ev E n a fr h)) (Er (evω E b) (evω E a fr h)):=by
 refine(ev_lim (E:=E) a fr h).bind (k:=fun n r=>Er (ev E n b) r) (s:=fun r=>Er (evω E b) r) (fun _=>rfl) rfl (fun A=>?_);generalize evω E a fr h=r at A;cases r with
 | ok e fr' h'=>cases e with
  |normal=>exact ev_lim b fr' h'
  |_=>exact .const
 |_=>exact .const
theorem j2{c:XC}{fr:Tr}{h:Heap}{r:CRes}(hl:Lim .bad (fun n=>ev E (n+1) c fr h) r):evω E c fr h=r:=(ev_lim (E:=E) c fr h).unique (Lim.shift hl rfl)
theorem GB{fr:Tr}{h:Heap}:evω E .skip fr h=.ok .normal fr h:=j2 .const
theorem NU{fr:Tr}{h:Heap}:evω E .ret fr h=.ok .ret fr h:=j2 .const
theorem GC{fr:Tr}{h:Heap}(i:Nat):evω E (.exit i) fr h=.ok (.exit i) fr h:=j2 .const
theorem CC{fr:Tr}{h:Heap}(a b:XC):evω E (.seq a b) fr h=Er (evω E b) (evω E a fr h):=j2 (fQ a b fr h)
theorem NV{fr:Tr}{h:Heap}(l:List XOp):evω E (.reg zf l) fr h=H1 E (callω E) l fr h:=j2 (Nq l fr h)
theorem GD{fr:Tr}{h:Heap}(l:List XOp):evω E (.reg zt l) fr h=evOpsD E (callω E) l fr h []:=j2 (Jr l fr h [])
theorem GE{fr:Tr}{h:Heap}(x:Operand)(a b:XC):evω E (.cond x a b) fr h=Ok (evω E a) (evω E b) (opv E x fr) fr h:=j2 (by
 show Lim .bad (fun n=>Ok (ev E n a) (ev E n b) (opv E x fr) fr h) (Ok (evω E a) (evω E b) (opv E x fr) fr h)
 cases opv E x fr with
 |bool t=>cases t;exact ev_lim b fr h;exact ev_lim a fr h
 |_=>exact .const)
theorem zE{fr:Tr}{h:Heap}(i:Nat)(a:XC):evω E (.block i a) fr h=Fl i (evω E a fr h):=
 j2 ((ev_lim (E:=E) a fr h).bind (k:=fun _ r=>Fl i r) (s:=fun r=>Fl i r) (fun _=>rfl) rfl (fun _=>.const))
theorem GF{fr:Tr}{h:Heap}(a:XC):evω E (.loop a) fr h=Er (evω E (.loop a)) (evω E a fr h):=j2 (fQ a (.loop a) fr h)
theorem zF{fr:Tr}{h:Heap}(a:XC):evω E (.scope a) fr h=evω E a fr h:=j2 (ev_lim a fr h)
theorem Wc{f:Nat}{l:List AV}{h:Heap}{r:Res}(hc:callω E f l h=r)(hb:r≠.bad):∃n,run E n f l h=r:=by
 obtain⟨n,hn⟩:=(Cw (E:=E) f l h).ok (by grind);exact⟨n,(hn n (zqt _)).trans hc⟩
end
theorem Tr.has_mk':∀(f n i:Nat),n<2^f->(Tr.mk f n).has i=decide (i<n)
 |0,n,i,h=>by
  have:n=0:=by grind
  subst this;simp[Tr.mk_zero];rfl
 |f+1,0,i,_=>by simp[Tr.mk_succ_zero];rfl
 |f+1,k+1,0,_=>by rw[Tr.mk_succ];simp[Tr.has_zero]
 |f + 1,k+1,i+1,h=>by
  rw[Tr.mk_succ,Tr.has_succ];have e1:Nat.shiftRight i 1=i/2:=Nat.shiftRight_eq_div_pow i 1;have e2:Nat.land i 1=i%2:=Nat.and_one_is_mod i;have A:Nat.div (k+1) 2=(k+1)/2:=rfl;have B:Nat.div k 2=k/2:=rfl;rw[e1,e2,A,B];rw[Nat.pow_succ]at h;rcases Nat.mod_two_eq_zero_or_one i with hi|hi<;>rw[hi]
  . show(Tr.mk f ((k+1)/2)).has (i/2)=_
    rw[Tr.has_mk' f _ _ (by omega),decide_eq_decide];omega
  . show(Tr.mk f (k/2)).has (i/2)=_
    rw[Tr.has_mk' f _ _ (by omega),decide_eq_decide];omega
section
variable {E:Env}{fr:Tr}{h:Heap}
variable {call:C7}
theorem Cy(k:IntKind)(n:Int):z6 k n=zs (.int k n):=Mv _ _
theorem a8(k:IntKind)(n:Int):O8 k n=zs (.int k (k.wrap n)):=by unfold O8;rw[Cy,Rl]
theorem U6(b:Bool):E7 b=zs (.bool b):=by cases b<;>rfl
theorem Gq(k:IntKind):kindEq k k=zt:=(Y2 k k).2 rfl
theorem X8(k:IntKind)(a b:Int)(f:IntKind->Int->Int->Option AV):d8 (.int k a) (.int k b) f=f k a b:=by
 show(bif kindEq k k then f k a b else znq)=_
 rw[Gq];rfl
theorem NW(fl:EqK)(k:IntKind)(a b:Int):J3 .add fl (.int k a) (.int k b)=zs (.int k (k.wrap (a+b))):=by
 show d8 (.int k a) (.int k b) (fun k a b=>O8 k (a+b))=_;rw[X8,a8]
theorem NX(fl:EqK)(k:IntKind)(a b:Int):J3 .sub fl (.int k a) (.int k b)=zs (.int k (k.wrap (a-b))):=by
 show d8 _ _ _=_;rw[X8,a8]
theorem NY(fl:EqK)(k:IntKind)(a b:Int):J3 .mul fl (.int k a) (.int k b)=zs (.int k (k.wrap (a*b))):=by
 show d8 _ _ _=_;rw[X8,a8]
theorem NZ(fl:EqK)(k:IntKind)(a b:Int):J3 .eql fl (.int k a) (.int k b)=zs (.bool (decide (a=b))):=by
 show A4 (bif kindEq k k then zs (intEq a b)else znq) E7=_
 rw[Gq,o6];show E7 (a==b)=_
 rw[U6];congr 2
theorem OA(fl:EqK)(k:IntKind)(a b:Int):J3 .neq fl (.int k a) (.int k b)=zs (.bool (!decide (a=b))):=by
 show A4 (bif kindEq k k then zs (intEq a b)else znq) (fun b=>E7 (!b))=_
 rw[Gq,o6];show E7 (!(a==b))=_
 rw[U6];congr 2
theorem GG(fl:EqK)(a b:List UInt8):J3 .eql fl (.str a) (.str b)=zs (.bool (decide (a=b))):=by
 show A4 (zs (Oh a b)) E7=_
 rw[Fp];show E7 (a==b)=_
 grind[U6]
theorem GH(fl:EqK)(a b:List UInt8):J3 .neq fl (.str a) (.str b)=zs (.bool (!decide (a=b))):=by
 show A4 (zs (Oh a b)) (fun b=>E7 (!b))=_
 rw[Fp];show E7 (!(a==b))=_
 grind[U6]
theorem OB(fl:EqK)(k:IntKind)(a b:Int):J3 .lss fl (.int k a) (.int k b)=zs (.bool (decide (a<b))):=by
 show d8 _ _ _=_;grind[X8,U6,N7]
theorem OC(fl:EqK)(k:IntKind)(a b:Int):J3 .leq fl (.int k a) (.int k b)=zs (.bool (decide (a<=b))):=by
 show d8 _ _ _=_;rw[X8,U6,N7]
theorem OD(fl:EqK)(k:IntKind)(a b:Int):J3 .gtr fl (.int k a) (.int k b)=zs (.bool (decide (b<a))):=by
 show d8 _ _ _=_;grind[X8,U6,N7]
theorem OE(fl:EqK)(k:IntKind)(a b:Int):J3 .geq fl (.int k a) (.int k b)=zs (.bool (decide (b<=a))):=by
 show d8 _ _ _=_;rw[X8,U6,N7]
theorem u_not(a:Bool):Kh .not (.bool a)=zs (.bool (!a)):=U6 _
theorem Gp(k j:IntKind)(n:Int):R5 (.int k) (.int j n)=zs (.int k (k.wrap n)):=a8 _ _
end
section
variable {E:Env}{I:Nat->Prop}{h h':Heap}{sz:Nat}{v x:AV}{es:List AV}
end
section
variable {α β:Type}{R:α->β->Prop}{l:List α}{m:List β}
end
section
variable {E:Env}{fr:Tr}{h:Heap}{call:C7}{D:List Nat}
end
theorem Oy{n:Nat}:∀{l:List Nat},(∀i∈l,n<=i)->H2 n l=[]
 |[],_=>rfl
 |i::l,hl=>by
  show(bif Nat.blt i n then i::H2 n l else H2 n l)=[]
  have h1:=hl i (zqh ..)
  have:Nat.blt i n=zf:=by
   cases e:Nat.blt i n with
   |false=>rfl
   |true=>have:i+1<=n:=Nat.le_of_ble_eq_true e;omega
  rw[this];exact Oy (by grind)
noncomputable section
abbrev PF:=List (Nat×AV)
inductive PO where
 |row (k:Nat) (es:List AV) (sz:Nat)
 |mapo (es:List (AV×AV))
 |sub (p i o:Nat)
 |dead
structure PK where
 os:List PO
 ext:Nat
 tch:List Nat
def ownd(k sz:Nat)(es:List AV):AV:=.tup (.ptr k 0 sz::es)
def ownOf(c:AV):Option (Nat×List AV×Nat):=match c with | .tup (.ptr k 0 sz::es)=>zs (k,es,sz)|_=>znq
def rowOf(os:List PO):Nat->Nat->Option (Nat×List AV×Nat)
 |0,_=>znq
 | n + 1,id=>match os[id]? with
  |some (.row k es sz)=>zs (k,es,sz)
  | some (.sub p i o)=>match rowOf os n p with
   | some (_,es,_)=>match es[i]? with
    | some v=>match v.cells[o]? with
     |some c=>ownOf c
     |none=>znq
    |none=>znq
   |none=>znq
  |_=>znq
def putCl(v:AV)(o:Nat)(c:AV):AV:=match v with | .agg cs=>.agg (cs.set o c)|_=>c
def setRow(os:List PO):Nat->Nat->List AV->Option (List PO)
 |0,_,_=>znq
 | n + 1,id,es'=>match os[id]? with
  |some (.row k _ sz)=>zs (os.set id (.row k es' sz))
  | some (.sub p i o)=>match rowOf os n p with
   | some (_,es,_)=>match es[i]? with
    | some v=>match v.cells[o]? with
     | some c=>match ownOf c with
      |some (k,_,sz)=>setRow os n p (es.set i (putCl v o (ownd k sz es')))
      |none=>znq
     |none=>znq
    |none=>znq
   |none=>znq
  |_=>znq
def rootOf(os:List PO):Nat->Nat->Nat
 |0,id=>id
 |n+1,id=>match os[id]? with|some (.sub p _ _)=>rootOf os n p|_=>id
def chainOf(os:List PO):Nat->Nat->List Nat
 |0,id=>[id]
 |n+1,id=>id::(match os[id]? with|some (.sub p _ _)=>chainOf os n p|_=>[])
def Y3(os:List PO)(r:Nat)(keep:List Nat):Nat->List PO->List PO
 |_,[]=>[]
 |j,e::l=>(match e with | .sub p i o=>if rootOf os 6 j=r/\¬j∈keep then .dead else .sub p i o|e=>e)::Y3 os r keep (j+1) l
def killP(os:List PO)(r:Nat)(keep:List Nat):List PO:=Y3 os r keep 0 os
def OF(p i o:Nat)(e:PO):Bool:=match e with | .sub p' i' o'=>p'==p&&(bne i' i||bne o' o)|_=>zf
def sibl(os:List PO):Nat->Nat->PO->Bool
 |0,_,_=>zf
 |n+1,id,e=>match os[id]? with|some (.sub p i o)=>OF p i o e||sibl os n p e|_=>zf
def j3(os:List PO)(r:Nat)(keep:List Nat)(id:Nat):Nat->List PO->List PO
 |_,[]=>[]
 |j,e::l=>(match e with | .sub p i o=>if rootOf os 6 j=r/\¬j∈keep then(bif sibl os 6 id (.sub p i o)then .sub p i o else .dead)else .sub p i o|e=>e)::j3 os r keep id (j+1) l
def killS(os:List PO)(id:Nat):List PO:=j3 os (rootOf os 6 id) (chainOf os 6 id) id 0 os
def openC(id i:Nat):Nat->Nat->List AV->List AV×List PO
 |_,_,[]=>([],[])
 | o,nx,c::r=>match ownOf c with
  |some (k,es,sz)=>((match k with|1=>.ptr nx 0 0|_=>.msl nx 0 es.length sz)::(openC id i (o+1) (nx+1) r).1,.sub id i o::(openC id i (o+1) (nx+1) r).2)
  |none=>(c::(openC id i (o+1) nx r).1,(openC id i (o+1) nx r).2)
def O6(v:AV)(cs:List AV):AV:=match v with | .agg _=>.agg cs|_=>cs.headD .und
def Uc(id i off:Nat)(w:AV)(K:PK):AV×PK:=(O6 w (openC id i off K.os.length w.cells).1,{K with os:=K.os++(openC id i off K.os.length w.cells).2})
def clo(c:AV):Bool:=match c with | .int _ _=>zt | .bool _=>zt | .str _=>zt | .fsl _ _=>zt | .fptr _ _=>zt | .nilsl=>zt | .nilptr=>zt | .nilmap=>zt | .nilfn=>zt | .niliface=>zt|_=>zf
def Cz(es:List AV):Bool:=es.all fun e=>e.cells.all clo
def Ev(c:AV):Bool:=match c with | .agg _=>zf | .tup _=>zf | .und=>zf|_=>zt
def sealC(ext r id i:Nat):Nat->List PO->List AV->Option (List AV×List PO)
 |_,os,[]=>zs ([],os)
 | o,os,c::l=>match clo c with
  |true=>(sealC ext r id i (o+1) os l).map fun p=>(c::p.1,p.2)
  | false=>match c with
   | .msl q 0 m sz=>match os[q]? with
    | some (.row 0 es z)=>if m=es.length/\sz=z/\ext<=q/\q≠r then
     (sealC ext r id i (o+1) (os.set q (.sub id i o)) l).map fun p=>(ownd 0 sz es::p.1,p.2)else znq
    |_=>znq
   |_=>znq
def rawAt(os:List PO)(id:Nat):Bool:=match os[id]? with|some (.row 0 _ _)=>zf|some (.row _ _ _)=>zt|_=>zf
def storeP(t:TI)(p x:AV)(K:PK):Option PK:=
 match p with
 | .ptr id i off=>match rowOf K.os 6 id with
  | some (k,es,sz)=>match es[i]? with
   | some v=>if x.cells.length=t.size/\0<t.size/\off+t.size<=sz then
    match rawAt K.os id with
    |true=>if x.cells.all Ev=zt then zs {K with os:=K.os.set id (.row k (es.set i (v.withCells off x.cells)) sz),tch:=id::K.tch}else znq
    |false=>
     if (x.cells.all clo&&((v.cells.drop off).take t.size).all clo)=zt then
      match setRow K.os 6 id (es.set i (v.withCells off x.cells))with
      |some os2=>zs {K with os:=os2,tch:=rootOf K.os 6 id::K.tch}
      |none=>znq
     else match setRow (killS K.os id) 6 id (es.set i (v.withCells off (zqa t.size .und)))with
     | some A=>match sealC K.ext (rootOf K.os 6 id) id i off A x.cells with
      | some (cs,os1)=>match setRow os1 6 id (es.set i (v.withCells off cs))with
       |some os2=>zs {K with os:=os2,tch:=rootOf K.os 6 id::K.tch}
       |none=>znq
      |none=>znq
     |none=>znq
    else znq
   |none=>znq
  |none=>znq
 |_=>znq
def loadP(t:TI)(p:AV)(K:PK):Option (AV×PK):=
 match p with
 |.fptr v off=>(partOf t v.cells off).map (·,K)
 | .ptr id i off=>match rowOf K.os 6 id with
  | some (_,es,_)=>match es[i]? with
   | some v=>match partOf t v.cells off with
    |some w=>zs (Uc id i off w K)
    |none=>znq
   |none=>znq
  |none=>znq
 |_=>znq
def takeB(te:TI)(s:AV)(os:List PO):Option (List AV×List PO×List Nat):=
 match s with
 |.nilsl=>zs ([],os,[])
 | .msl id off n sz=>match rowOf os 6 id with
  | some (k,es,z)=>if k=0/\z=te.size/\sz=z/\off+n<=es.length then
   match os[id]? with
   |some (.row _ _ _)=>zs ((es.drop off).take n,(killP os id []).set id .dead,[id])
   | some (.sub p i o)=>match rowOf os 6 p with
    | some (kp,pes,_)=>if kp=0 then match pes[i]? with
     | some v=>match setRow (killP os (rootOf os 6 id) (chainOf os 6 p)) 6 p (pes.set i (v.withCells o [.und]))with
      |some os2=>zs ((es.drop off).take n,os2,[rootOf os 6 id])
      |none=>znq
     |none=>znq
     else znq
    |none=>znq
   |_=>znq
   else znq
  |none=>znq
 |_=>znq
def flatT(te:TI):Bool:=te.zero.cells.all fun c=>match c with | .int _ _=>zt | .bool _=>zt | .str _=>zt|_=>zf
def takeE(te:TI)(x:AV)(ext:Nat)(tc:List Nat)(os:List PO):Option (List AV×List PO):=
 match x with
 |.nilsl=>zs ([],os)
 |.fsl es _=>if F2 te.size es=zt then zs (es,os)else znq
 | .msl id off n sz=>match rowOf os 6 id with
  | some (k,es,z)=>if k=0/\z=te.size/\sz=z/\off+n<=es.length then
   match flatT te with
   |true=>if Cz es=zt then zs ((es.drop off).take n,os)else znq
   | false=>match os[id]? with
    |some (.row _ _ _)=>if off=0/\n=es.length/\ext<=id/\¬id∈tc then zs (es,(killP os id []).set id .dead)else znq
    |some (.sub _ _ _)=>if off=0/\n=es.length then(match takeB te (.msl id off n sz) os with|some (base,os2,tc2)=>if(tc2.all fun r=>decide (ext<=r) && !tc.contains r)=zt then zs (base,os2)else znq|none=>znq)else znq
    |_=>znq
   else znq
  |none=>znq
 |_=>znq
def wholeP(s:AV)(os:List PO):Bool:=match s with | .nilsl=>zt | .msl id off n _=>(match rowOf os 6 id with|some (_,es,_)=>off==0&&n==es.length|none=>zf)|_=>zf
def joinP(te:TI)(base xs:List AV)(os:List PO)(tc:List Nat)(K:PK):Option (AV×PK):=
 if (base.length+xs.length)*te.bytes<=140737488355328 then
  zs (.msl os.length 0 (base.length+xs.length) te.size,{K with os:=os++[.row 0 (base++xs) te.size],tch:=os.length::tc++K.tch})
 else znq
def Bk(te:TI)(s x:AV)(K:PK):Option (AV×PK):=
 match takeB te s K.os with
 | some (base,os1,tc)=>match takeE te x K.ext tc os1 with
  |some (xs,os2)=>if(!xs.isEmpty||wholeP s K.os)=zt then joinP te base xs os2 tc K else znq
  |none=>znq
 |none=>znq
def mZ(te:TI)(s:AV)(n:Nat)(K:PK):Option (AV×PK):=
 match takeB te s K.os with
 |some (base,os1,tc)=>if(decide (0<n)||wholeP s K.os)=zt then joinP te base (zqa n te.zero) os1 tc K else znq
 |none=>znq
def newRow(k:Nat)(es:List AV)(sz:Nat)(K:PK):PK:={K with os:=K.os++[.row k es sz]}
def Iq(v:AV):Bool:=match v with | .agg _=>zt|_=>zf
def placeP(te:TI)(id:Nat):List (Nat×AV)->PK->Option PK
 |[],K=>zs K
 |(i,v)::l,K=>if Iq v=Iq te.zero then(match storeP te (.ptr id i 0) v K with|some K=>placeP te id l K|none=>znq)else znq
def placeR(sz:Nat):List (Nat×AV)->List AV->Option (List AV)
 |[],es=>zs es
 |(i,v)::l,es=>if i<es.length/\v.cells.length=sz/\v.cells.all Ev=zt then placeR sz l (es.set i v)else znq
def Da(te:TI)(n:Nat)(ps:List (Nat×AV))(K:PK):Option (AV×PK):=
 if n*te.size<=65536/\0<te.size then
  match placeP te K.os.length ps (newRow 0 (zqa n te.zero) te.size K)with
  |some K1=>zs (.msl K.os.length 0 n te.size,K1)
  | none=>match placeR te.size ps (zqa n te.zero)with
   |some es=>zs (.msl K.os.length 0 n te.size,newRow 2 es te.size K)
   |none=>znq
 else znq
section
variable (E:Env)
def lookP(l:PF)(i:Nat):AV:=match l with|[]=>.und|p::r=>if p.1=i then p.2 else lookP r i
def opvP(x:Operand)(fr:PF):AV:=match x with | .tmp t=>lookP fr t | .const v=>ofValue v | .global g=>(match E.gl g with|some v=>.fptr v 0|none=>.any) | .func f=>.fn (.func f) [] []
def Nr(x:AV):Bool:=match x with | .msl _ _ _ _=>zf|_=>zt
def bK(d:TD)(lo hi mx:Option AV)(x:AV):Option AV:=
 match x with
 |.fsl es f=>if es.isEmpty||mx.isSome then znq else(sliceA E d lo hi mx (.fsl es f)).map fun y=>match y with | .fsl l _=>.fsl l l.isEmpty|y=>y
 |.nilsl=>znq
 |x=>sliceA E d lo hi mx x
def GI(d:TD)(x:AV)(K:PK):Option Nat:=
 match d with
 |.string=>x.onStr znq fun s=>zs (r6 s)
 |.slice _=>cU x
 |.map _ _=>(match x with | .nilmap=>zs 0 | .map id=>(match K.os[id]? with|some (.mapo es)=>zs (oP es)|_=>znq)|_=>znq)
 |_=>znq
def nA(sz id off n:Nat)(xs:List AV)(K:PK):Option (AV×PK):=match K.os[id]? with
 | some (.row 0 es z)=>if z=sz/\off+n<=es.length/\Cz es=zt/\Cz xs=zt then
  zs (.int .i64 (Int.ofNat (min n xs.length)),{K with os:=K.os.set id (.row 0 (es.take off++(xs.take (min n xs.length)++es.drop (off+min n xs.length))) z),tch:=id::K.tch})
  else znq
 |_=>znq
def E9(b:Builtin)(ts:List TypeId)(args:List AV)(K:PK):Option (AV×PK):=
 match b,ts,args with
 | .len,t::_,x::_=>match E.ti t with
  |some ti=>(GI ti.desc x K).map fun n=>(.int .i64 (Int.ofNat n),K)
  |none=>znq
 | .append,t::tx::_,s::x::_=>match E.ti t,E.ti tx with
  | some ti,zs tix=>match elemOfT E ti.desc with
   | some te=>if 0<te.size then(match tix.desc with
    |.int _=>(match asNat x with|some n=>if n*te.bytes<=140737488355328 then mZ te s n K else znq|none=>znq)
    |_=>Bk te s x K)else znq
   |none=>znq
  |_,_=>znq
 | .copy,t::_,.msl id off n z::x::_=>match E.ti t with
  | some ti=>match elemOfT E ti.desc with
   |some te=>if z=te.size then(match takeE te x K.ext [] K.os with|some q=>nA te.size id off n q.1 K|none=>znq)else znq
   |none=>znq
  |none=>znq
 |.max,_,x::r=>(Mw r x).map (·,K)
 |.min,_,x::r=>(Pe r x).map (·,K)
 |_,_,_=>znq
def nC(E:Env)(t:Nat)(m k x:AV)(K:PK):Option (AV×PK):=znq
inductive OpS where
 |val (v:AV) (K:PK)
 |call (f:Nat) (args:List AV)
 |pan (v:AV)
 |bad
def Ms(x:Option (AV×PK)):OpS:=match x with|some p=>.val p.1 p.2|none=>.bad
def Db(x:Option AV)(K:PK):OpS:=match x with|some v=>.val v K|none=>.bad
def j4(t:Nat)(f:TI->OpS):OpS:=match E.ti t with|some ti=>f ti|none=>.bad
def opvL(l:List Operand)(fr:PF):List AV:=match l with|[]=>[]|x::r=>opvP E x fr::opvL r fr
def bL(l:List (Nat×Operand))(fr:PF):List (Nat×AV):=match l with|[]=>[]|x::r=>(x.1,opvP E x.2 fr)::bL r fr
def bM(o:Option Operand)(fr:PF):Option AV:=match o with|none=>znq|some x=>zs (opvP E x fr)
def Mb(c a b:AV)(K:PK):OpS:=match c with | .bool zt=>.val a K | .bool zf=>.val b K|_=>.bad
def vL(ti:TI)(v:AV)(K:PK):OpS:=if v.cells.length=ti.size/\v.cells.all Ev=zt then .val (.ptr K.os.length 0 0) (newRow 1 [v] ti.size K)else .bad
def R1(op:BinOp)(t:Nat)(x y:AV)(K:PK):OpS:=if Nr x=zt/\Nr y=zt then Db (J3 op (N6 E t) x y) K else .bad
def Mc(ti:TI)(l c:AV)(K:PK):OpS:=match elemOfT E ti.desc,asNat l,asNat c with
 |some te,zs n,zs m=>if n<=m/\m*te.bytes<=140737488355328/\0<te.size then .val (.msl K.os.length 0 n te.size) (newRow 0 (zqa n te.zero) te.size K)else .bad
 |_,_,_=>.bad
def F6(ti:TI)(f:Nat)(x:AV):Option AV:=match fieldAt E ti f with|some p=>if 0<p.1.size then B0 x p.2 else znq|none=>znq
def OG(ti:TI)(f:Nat)(x:AV):Option AV:=match fieldAt E ti f with|some p=>(match x with | .agg cs=>partOf p.1 cs p.2|_=>znq)|none=>znq
def Ir(ti:TI)(x i:AV):Option AV:=match asNat i with|some n=>R6 E ti.desc n x|none=>znq
def OH(ti:TI)(x i:AV):Option AV:=match asNat i with|some n=>Fk E ti.desc n x|none=>znq
def zG(E:Env)(ti:TI)(ok:Bool)(m k:AV)(K:PK):Option AV:=znq
def Md(g:AV)(args:List AV):OpS:=match g with | .fn f first caps=>(match f with | .func n=>.call n (first++(args++caps))|_=>.bad)|_=>.bad
def prim(op:Op)(fr:PF)(K:PK):OpS:=
 match op with
 |.move x=>.val (opvP E x fr) K
 |.assign x=>.val (opvP E x fr) K
 |.pick c a b=>Mb (opvP E c fr) (opvP E a fr) (opvP E b fr) K
 |.alloc t=>j4 E t fun ti=>.val (.ptr K.os.length 0 0) (newRow 1 [ti.zero] ti.size K)
 |.box t x=>j4 E t fun ti=>vL ti (opvP E x fr) K
 |.build t ps=>j4 E t fun ti=>Db (f8 E ti (bL E ps.toList fr)) K
 |.buildSlice t n ps=>j4 E t fun ti=>match elemOfT E ti.desc with|some te=>Ms (Da te n (bL E ps.toList fr) K)|none=>.bad
 |.load t a=>j4 E t fun ti=>Ms (loadP ti (opvP E a fr) K)
 |.store t a x=>j4 E t fun ti=>Ms ((storeP ti (opvP E a fr) (opvP E x fr) K).map fun K=>(.und,K))
 |.nilCheck x=>Db (Y8 (opvP E x fr)) K
 |.binOp op t x y _=>R1 E op t (opvP E x fr) (opvP E y fr) K
 |.unOp op _ x=>Db (Kh op (opvP E x fr)) K
 |.convert s d x=>j4 E s fun _=>j4 E d fun A=>Db (R5 A.desc (opvP E x fr)) K
 |.makeInterface t x=>j4 E t fun ti=>bif V3 ti.desc then .val (.iface t (opvP E x fr)) K else .bad
 |.makeFunc f first caps=>.val (.fn f (opvL E first.toList fr) (opvL E caps.toList fr)) K
 |.makeMap _ r=>(match r with|none=>.val (.map K.os.length) {K with os:=K.os++[.mapo []]}|some _=>.bad)
 |.makeSlice t l c=>j4 E t fun ti=>Mc E ti (opvP E l fr) (opvP E c fr) K
 |.slice t x lo hi mx=>j4 E t fun ti=>bif hi.isNone&&mx.isSome then .bad else Db (bK E ti.desc (bM E lo fr) (bM E hi fr) (bM E mx fr) (opvP E x fr)) K
 |.fieldAddr t x f=>j4 E t fun ti=>Db (F6 E ti f (opvP E x fr)) K
 |.field t x f=>j4 E t fun ti=>Db (OG E ti f (opvP E x fr)) K
 |.indexAddr t x i=>j4 E t fun ti=>Db (Ir E ti (opvP E x fr) (opvP E i fr)) K
 |.index t x i=>j4 E t fun ti=>Db (OH E ti (opvP E x fr) (opvP E i fr)) K
 |.lookup t m k ok=>j4 E t fun ti=>Db (zG E ti ok (opvP E m fr) (opvP E k fr) K) K
 |.mapUpdate t m k x=>Ms (nC E t (opvP E m fr) (opvP E k fr) (opvP E x fr) K)
 |.insert t m k x=>Ms (nC E t (opvP E m fr) (opvP E k fr) (opvP E x fr) K)
 |.typeAssert x _ t ok=>j4 E t fun ti=>bif V3 ti.desc && !ok then Db (Kl t (opvP E x fr)) K else .bad
 |.extract t i=>(match opvP E t fr with | .tup vs=>Db vs[i]? K|_=>.bad)
 | .call c=>(match c.callee with
  |.builtin b=>Ms (E9 E b c.argTypes.toList (opvL E c.args.toList fr) K)
  |.value g=>Md (opvP E g fr) (opvL E c.args.toList fr)
  |.invoke _ _=>.bad)
 |.panic x=>(match opvP E x fr with | .iface t v=>.pan (.iface t v)|_=>.bad)
 |_=>.bad
def fslN(es:List AV):AV:=.fsl es es.isEmpty
def En(a:Option AV)(l:Option (List AV)):Option (List AV):=match a with|some a=>(match l with|some l=>zs (a::l)|none=>znq)|none=>znq
mutual
def frzC:AV->Option AV
 |.int k n=>zs (.int k n)
 |.bool b=>zs (.bool b)
 |.str s=>zs (.str s)
 |.agg cs=>(match frzL cs with|some cs=>zs (.agg cs)|none=>znq)
 |.tup cs=>(match cs with | .ptr k 0 _::es=>(match frzL es with|some es=>(match k with|1=>(match es with|[v]=>zs (.fptr v 0)|_=>znq)|_=>zs (fslN es))|none=>znq)|_=>znq)
 |.fsl es _=>(match frzL es with|some es=>zs (fslN es)|none=>znq)
 |.fptr v o=>(match frzC v with|some v=>zs (.fptr v o)|none=>znq)
 |.msl _ _ _ _=>znq
 |.ptr _ _ _=>znq
 |.nilsl=>zs (.fsl [] zt)
 |.nilptr=>zs .nilptr
 |.nilmap=>zs .nilmap
 |.map _=>znq
 |.fn _ _ _=>znq
 |.nilfn=>zs .nilfn
 |.iface _ _=>znq
 |.niliface=>zs .niliface
 |.any=>znq
 | .und=>znq
def frzL:List AV->Option (List AV)
 |[]=>zs []
 |v::l=>En (frzC v) (frzL l)
end
def viewV(os:List PO)(v:AV):Option AV:=
 match v with
 | .msl id off n sz=>(match rowOf os 6 id with
  |some (k,es,z)=>if k=0/\sz=z/\off+n<=es.length then(match frzL ((es.drop off).take n)with|some es=>zs (fslN es)|none=>znq)else znq
  |none=>znq)
 | .ptr id i off=>(match rowOf os 6 id with
  |some (k,es,z)=>if k=0 then(match es[i]? with|some v=>(match frzC v with|some v=>zs (.fptr v off)|none=>znq)|none=>znq)else znq
  |none=>znq)
 |.tup _=>znq
 |.agg _=>znq
 |v=>frzC v
def viewL(os:List PO):List AV->Option (List AV)
 |[]=>zs []
 |v::l=>En (viewV os v) (viewL os l)
def viewA(os:List PO)(v:AV):Option AV:=match v with | .agg cs=>(match viewL os cs with|some cs=>zs (.agg cs)|none=>znq)|v=>viewV os v
def viewAs(os:List PO):List AV->Option (List AV)
 |[]=>zs []
 |v::l=>En (viewA os v) (viewAs os l)
mutual
def J4:AV->List Nat
 |.int _ _=>[]
 |.bool _=>[]
 |.str _=>[]
 |.agg cs=>E1 cs
 |.tup cs=>E1 cs
 |.fsl _ _=>[]
 |.fptr _ _=>[]
 |.msl id _ _ _=>[id]
 |.ptr id _ _=>[id]
 |.nilsl=>[]
 |.nilptr=>[]
 |.nilmap=>[]
 |.map id=>[id]
 |.fn _ a b=>E1 a++E1 b
 |.nilfn=>[]
 |.iface _ v=>J4 v
 |.niliface=>[]
 |.any=>[]
 | .und=>[]
def E1:List AV->List Nat
 |[]=>[]
 |v::l=>J4 v++E1 l
end
mutual
def noF:AV->Bool
 |.int _ _=>zt
 |.bool _=>zt
 |.str _=>zt
 |.agg cs=>noFL cs
 |.tup cs=>(match cs with | .ptr _ 0 _::es=>noFL es|_=>zf)
 |.nilsl=>zt
 |.nilptr=>zt
 |.nilmap=>zt
 |.nilfn=>zt
 |.niliface=>zt
 |_=>zf
def noFL:List AV->Bool
 |[]=>zt
 |v::l=>noF v&&noFL l
end
mutual
def G2(σ:Nat->Option Nat):AV->AV
 |.int k n=>.int k n
 |.bool b=>.bool b
 |.str s=>.str s
 |.agg cs=>.agg (renL σ cs)
 |.tup cs=>.tup (renL σ cs)
 |.fsl es f=>.fsl es f
 |.fptr v o=>.fptr v o
 |.msl id off n sz=>(match σ id with|some j=>.msl j off n sz|none=>.und)
 |.ptr id i o=>(match σ id with|some j=>.ptr j i o|none=>.und)
 |.nilsl=>.nilsl
 |.nilptr=>.nilptr
 |.nilmap=>.nilmap
 |.map id=>(match σ id with|some j=>.map j|none=>.und)
 |.fn f a b=>.fn f (renL σ a) (renL σ b)
 |.nilfn=>.nilfn
 |.iface t v=>.iface t (G2 σ v)
 |.niliface=>.niliface
 |.any=>.und
 | .und=>.und
def renL(σ:Nat->Option Nat):List AV->List AV
 |[]=>[]
 |v::l=>G2 σ v::renL σ l
end
def posOf(l:List Nat)(id:Nat):Option Nat:=match l with|[]=>znq|j::r=>if j=id then zs 0 else(posOf r id).map (· + 1)
def j5(s:Nat->List Nat):Nat->List Nat->List Nat->List Nat
 |0,_,acc=>acc
 |_+1,[],acc=>acc
 |n+1,id::todo,acc=>if id∈acc then j5 s n todo acc else j5 s n (todo++s id) (acc++[id])
def bN(e:Option PO):List Nat:=match e with|some (.row 0 _ _)=>[]|some (.row _ es _)=>E1 es|_=>[]
def fS(os:List PO)(id:Nat):List Nat:=match os[id]? with|some (.sub p _ _)=>[p]|e=>bN e
def renPO(σ:Nat->Option Nat)(e:PO):PO:=match e with
 |.row 0 es sz=>.row 0 es sz
 |.row k es sz=>.row k (renL σ es) sz
 |.mapo es=>.mapo es
 |.sub p i o=>(match σ p with|some q=>.sub q i o|none=>.dead)
 | .dead=>.dead
def entryAt(os:List PO)(id:Nat):PO:=match os[id]? with|some e=>e|none=>.dead
def markIds(keep:List Nat)(fr:PF)(K:PK):List Nat:=j5 (fS K.os) 64 ((List.range K.ext).flatMap (fS K.os)++E1 (keep.map (lookP fr))) (List.range K.ext)
def GJ(ids:List Nat)(K:PK)(ext:Nat)(tch:List Nat):PK:={os:=ids.map fun id=>renPO (posOf ids) (entryAt K.os id),ext:=ext,tch:=tch}
def G5(keep:List Nat)(fr:PF)(K:PK):PF×PK:=
 (keep.map fun i=>(i,G2 (posOf (markIds keep fr K)) (lookP fr i)),GJ (markIds keep fr K) K K.ext (K.tch.filter (· < K.ext)))
def cutPO(e:PO):PO:=match e with | .sub _ _ _=>.dead|e=>e
def focusIds(args:List AV)(K:PK):List Nat:=j5 (fun id=>bN K.os[id]?) 64 (E1 args) []
def focusK(ids:List Nat)(K:PK):PK:={os:=ids.map fun id=>cutPO (renPO (posOf ids) (entryAt K.os id)),ext:=ids.length,tch:=[]}
def backN(ids:List Nat)(base e:Nat):Option Nat:=match ids[e]? with|some id=>zs id|none=>zs (base+(e-ids.length))
def killU(os:List PO)(ids:List Nat):Nat->List PO->List PO
 |_,[]=>[]
 |j,e::l=>(match e with | .sub p i o=>if ids.contains j||(chainOf os 6 p).any (fun q=>ids.contains q)then .dead else .sub p i o|e=>e)::killU os ids (j+1) l
def putBack(ρ:Nat->Option Nat):List Nat->List PO->List PO->Option (List PO)
 |[],_,os=>zs os
 |_::_,[],_=>znq
 | id::ids,e::l,os=>match os[id]? with
  | some (.row _ _ _)=>(match e with
   |.row k es sz=>putBack ρ ids l (os.set id (renPO ρ (.row k es sz)))
   |.dead=>putBack ρ ids l (os.set id .dead)
   |_=>znq)
  |some (.mapo _)=>(match e with | .mapo es=>putBack ρ ids l (os.set id (.mapo es))|_=>znq)
  |_=>(match e with | .dead=>putBack ρ ids l os|_=>znq)
def mergeK(ids:List Nat)(K K1:PK):Option PK:=
 if ids.all (fun i=>decide (i<K.os.length))=zt then match putBack (backN ids K.os.length) ids K1.os (killU K.os ids 0 K.os)with
 |some os=>zs {os:=os++(K1.os.drop ids.length).map (renPO (backN ids K.os.length)),ext:=K.ext,tch:=(K1.tch.filter (· < ids.length)).map (fun j=>ids.getD j 0)++K.tch}
 |none=>znq
 else znq
def openT:Nat->List AV->List AV×List PO
 |_,[]=>([],[])
 | nx,c::r=>match ownOf c with
  |some (k,es,sz)=>((match k with|1=>.ptr nx 0 0|_=>.msl nx 0 es.length sz)::(openT (nx+1) r).1,.row 0 es sz::(openT (nx+1) r).2)
  |none=>(c::(openT nx r).1,(openT nx r).2)
def openTs:Nat->List AV->List AV×List PO
 |_,[]=>([],[])
 |nx,v::r=>(O6 v (openT nx v.cells).1::(openTs (nx+(openT nx v.cells).2.length) r).1,(openT nx v.cells).2++(openTs (nx+(openT nx v.cells).2.length) r).2)
def okRs(rs:List AV):Bool:=rs.all fun v=>v.cells.all fun c=>(ownOf c).isSome||clo c
def viewW(os:List PO)(v:AV):Option AV:=match viewV os v with
 |some w=>zs w
 | none=>match v with
  | .msl id off n sz=>(match rawAt os id with
   | true=>(match os[id]? with
    |some (.row _ es z)=>if sz=z/\off+n<=es.length then(match viewAs os ((es.drop off).take n)with|some es=>zs (fslN es)|none=>znq)else znq
    |_=>znq)
   |false=>znq)
  |_=>znq
def viewWL(os:List PO):List AV->Option (List AV)
 |[]=>zs []
 |v::l=>En (viewW os v) (viewWL os l)
def viewWA(os:List PO)(v:AV):Option AV:=match v with | .agg cs=>(match viewWL os cs with|some cs=>zs (.agg cs)|none=>znq)|v=>viewW os v
def Qo(os:List PO):List AV->Option (List AV)
 |[]=>zs []
 |v::l=>En (viewWA os v) (Qo os l)
def viewX(os:List PO)(l:List AV):Option (List AV):=match viewAs os l with|some as1=>zs as1|none=>Qo os l
def tcall(g:List AV->Option (List AV))(args:List AV)(K:PK):Option (List AV×PK):=
 match viewX K.os args with
 | some as1=>(match g as1 with
  |some rs=>if(okRs rs&&((E1 args).isEmpty||noFL rs))=zt then zs ((openTs K.os.length rs).1,{K with os:=K.os++(openTs K.os.length rs).2})else znq
  |none=>znq)
 |none=>znq
inductive PC where
 |skip
 |reg (draw:Bool) (l:List XOp)
 |seq (a b:PC)
 |cond (c:Operand) (a b:PC)
 |block (id:Nat) (c:PC)
 |loop (c:PC)
 |scope (c:PC)
 |exit (id:Nat)
 |ret
 |pre (keep:List Nat) (c:PC)
 |post (keep:List Nat) (c:PC)
 |rfn (g:Operand) (ps:List Tmp) (a b:PC)
 |itf (x:XC) (c:PC)
 |yreg (p0:PC) (gd:Option (Option Tmp×Bool)) (yt:Tmp) (p1:PC) (yd:Tmp) (args:List Operand) (p2:PC)
 |dfr (x:XC) (a:PC) (g:Operand) (c:PC)
 |rcv (x:XC) (d d2:Tmp) (c:PC)
def PC.er:PC->XC
 |.skip=>.skip
 |.reg d l=>.reg d l
 |.seq a b=>.seq a.er b.er
 |.cond c a b=>.cond c a.er b.er
 |.block i c=>.block i c.er
 |.loop c=>.loop c.er
 |.scope c=>.scope c.er
 |.exit i=>.exit i
 |.ret=>.ret
 |.pre _ c=>c.er
 |.post _ c=>c.er
 |.rfn g ps a b=>.rfn g ps a.er b.er
 |.itf x _=>x
 |.yreg _ _ _ _ _ _ _=>.bad
 |.dfr x _ _ _=>x
 | .rcv x _ _ _=>x
def PC.pieces:PC->List XC
 |.seq a b=>a.er::b.pieces
 |c=>[c.er]
def PC.eri:PC->IC
 |.reg d l=>.reg (.reg d l)
 |.seq a b=>.seq a.eri b.eri
 |.cond c a b=>.cond c a.eri b.eri
 |.block i c=>.block i c.eri
 |.loop c=>.loop c.eri
 |.exit i=>.exit i
 |.ret=>.ret
 |.pre _ c=>c.eri
 |.post _ c=>c.eri
 |.yreg p0 gd yt p1 yd args p2=>.yreg p0.er gd yt p1.er yd args p2.er
 |_=>.skip
structure RC where
 ps:List Tmp
 a:PC
 b:PC
 fr:PF
structure PFn where
 code:PC
 nt:Nat
 rs:List ResultVar
 inp:Bool
def itOf(p:Option PFn):Option (Nat×PC):=match p with|some ⟨.itf _ c,nt,_,_⟩=>zs (nt,c)|_=>znq
def rcOf(p:Option PFn):Option (Nat×Tmp×Tmp×PC):=match p with|some ⟨.rcv _ d d2 c,nt,[],_⟩=>zs (nt,d,d2,c)|_=>znq
def inpOf(p:Option PFn):Bool:=match p with|some p=>p.inp|none=>zf
structure PE where
 E:Env
 T:Nat->Option (List AV->Option (List AV))
 fn:Nat->Option PFn
inductive PJ where
 |code (c:PC) (fr:PF) (K:PK)
 |ops (l:List XOp) (fr:PF) (K:PK)
 |opsD (l:List XOp) (fr:PF) (K:PK)
 |opsS (S:List PK) (l:List XOp) (fr:PF) (K:PK)
 |call (f:Nat) (args:List AV) (K:PK)
 |body (f:Nat) (args:List AV) (K:PK)
 |iter (c:RC) (m:Nat) (ic:PC) (p:Option Ex) (fr:PF) (K:PK)
 |round (c:RC) (args:List AV) (K:PK)
 |dfc (a:PC) (g:Operand) (c:PC) (fr:PF) (K:PK)
 |rcv (x v:AV) (K:PK)
def bodyJ(c:PC)(fr:PF)(K:PK):PJ:=match c with | .dfr _ a g c=>.dfc a g c fr K | .rcv _ _ _ _=>.rcv .und .und K|c=>.code c fr K
inductive PR where
 |ok (e:Ex) (fr:PF) (K:PK)
 |val (vs:List AV) (K:PK)
 |pan (v:AV) (K:PK)
 |itr (e:Ex) (p:Option Ex) (fr:PF) (K:PK)
def setP(d:Option Tmp)(v:AV)(fr:PF):PF:=match d with|none=>fr|some t=>(t,v)::fr
def guardP(g:Option (Option Tmp×Bool))(fr:PF):Option Bool:=match g with
 |none=>zs zt
 |some (znq,_)=>zs zf
 |some (zs t,w)=>g0 w (lookP fr t)
def enterP:Nat->List AV->PF
 |_,[]=>[]
 |i,v::l=>(i,v)::enterP (i+1) l
def resP(E:Env):List ResultVar->PF->PK->Option (List AV×PK)
 |[],_,K=>zs ([],K)
 |.tmp t::l,fr,K=>match resP E l fr K with|some (vs,K)=>zs (lookP fr t::vs,K)|none=>znq
 | .cell a t::l,fr,K=>match E.ti t with
  | some ti=>match loadP ti (lookP fr a) K with
   |some (v,K)=>match resP E l fr K with|some (vs,K)=>zs (v::vs,K)|none=>znq
   |none=>znq
  |none=>znq
def setPs':List Tmp->List AV->PF->PF
 |[],_,fr=>fr
 |_::_,[],fr=>fr
 |p::ps,v::l,fr=>setPs' ps l ((p,v)::fr)
def wentOn(e:Ex):Bool:=match e with | .normal=>zt|_=>zf
def M4(e:Ex):Option Ex:=match e with | .normal=>znq|e=>zs e
def j6(E:Env):List XOp->List Bool->PF->PK->Bool
 |[],_,_,_=>zt
 |_::_,[],_,_=>zf
 |o::l,zt::s,fr,K=>j6 E l s (setP o.dst skipped fr) K
 | o::l,zf::s,fr,K=>match guardP o.gd fr with
  | some zt=>!o.quiet&&(match prim E o.op fr K with
   |.val v K=>j6 E l s (setP o.dst v fr) K
   |_=>zf)
  |some zf=>j6 E l s (setP o.dst skipped fr) K
  |none=>zf
def Am(n:Nat)(l:List XOp)(K:PK):Bool:=K.tch.all (fun i=>decide (n<=i))||l.all (fun o=>!o.careful)
def CD(os:List PO)(id:Nat):Bool:=match os[id]? with|some (.row _ _ _)=>zt|_=>zf
def fT(os:List PO)(S:PK)(v:AV):Bool:=match v with | .ptr id _ _=>CD S.os id&&(!S.tch.contains id&&CD os id)|_=>zf
def GK(E:Env)(S:PK)(os:List PO)(fr:PF)(op:Op):Bool:=match op with | .load _ a=>fT os S (opvP E a fr)|_=>zf
def CE(E:Env)(S:PK)(K:PK)(fr:PF)(o:XOp):Bool:=match o.careful with|false=>zt|true=>GK E S K.os fr o.op
def bO(E:Env)(S:List PK)(K:PK)(fr:PF)(o:XOp):Bool:=S.all fun s=>CE E s K fr o
def evG(P:PE)(ev:PJ->Option PR):PJ->Option PR
 |.code .skip fr K=>zs (.ok .normal fr K)
 |.code (.reg zf l) fr K=>ev (.ops l fr K)
 |.code (.reg zt l) fr K=>ev (.opsD l fr K)
 | .code (.seq a b) fr K=>do
  match <-ev (.code a fr K)with
  |.ok .normal fr K=>ev (.code b fr K)
  |.ok (.exit i) fr K=>pure (.ok (.exit i) fr K)
  |.ok .ret fr K=>pure (.ok .ret fr K)
  |.pan v K=>pure (.pan v K)
  |.val _ _=>znq
  |.itr _ _ _ _=>znq
 | .code (.cond c a b) fr K=>match opvP P.E c fr with
  |.bool zt=>ev (.code a fr K)
  |.bool zf=>ev (.code b fr K)
  |_=>znq
 | .code (.block i c) fr K=>do
  match <-ev (.code c fr K)with
  |.ok .normal fr K=>pure (.ok .normal fr K)
  |.ok (.exit j) fr K=>if j=i then pure (.ok .normal fr K)else pure (.ok (.exit j) fr K)
  |.ok .ret fr K=>pure (.ok .ret fr K)
  |.pan v K=>pure (.pan v K)
  |.val _ _=>znq
  |.itr _ _ _ _=>znq
 | .code (.loop c) fr K=>do
  match <-ev (.code c fr K)with
  |.ok .normal fr K=>ev (.code (.loop c) fr K)
  |.ok (.exit i) fr K=>pure (.ok (.exit i) fr K)
  |.ok .ret fr K=>pure (.ok .ret fr K)
  |.pan v K=>pure (.pan v K)
  |.val _ _=>znq
  |.itr _ _ _ _=>znq
 |.code (.scope c) fr K=>ev (.code c fr K)
 |.code (.exit i) fr K=>zs (.ok (.exit i) fr K)
 |.code .ret fr K=>zs (.ok .ret fr K)
 |.code (.pre k c) fr K=>ev (.code c (G5 k fr K).1 (G5 k fr K).2)
 | .code (.post k c) fr K=>do
  match <-ev (.code c fr K)with
  |.ok .normal fr K=>pure (.ok .normal (G5 k fr K).1 (G5 k fr K).2)
  |.ok (.exit i) fr K=>pure (.ok (.exit i) fr K)
  |.ok .ret fr K=>pure (.ok .ret fr K)
  |.pan v K=>pure (.pan (lookP (G5 [0] [(0,v)] K).1 0) (G5 [0] [(0,v)] K).2)
  |.val _ _=>znq
  |.itr _ _ _ _=>znq
 | .code (.rfn g ps a b) fr K=>match opvP P.E g fr with
  | .fn (.func n) [] caps=>match itOf (P.fn n)with
   | some (nt,ic)=>if caps.length+1<=nt then do
    match <-ev (.iter ⟨ps,a,b,fr⟩ itMax ic znq (enterP 0 (.any::caps)) ⟨K.os,K.os.length,[]⟩)with
    |.itr .normal p _ K1=>pure (.ok (rB p) fr ⟨K1.os,K.ext,K1.tch++K.tch⟩)
    |.itr .ret p _ K1=>pure (.ok (rB p) fr ⟨K1.os,K.ext,K1.tch++K.tch⟩)
    |_=>znq
    else znq
   |none=>znq
  |_=>znq
 |.code (.itf _ _) fr K=>znq
 |.code (.yreg _ _ _ _ _ _ _) fr K=>znq
 |.code (.dfr _ _ _ _) fr K=>znq
 |.code (.rcv _ _ _ _) fr K=>znq
 | .dfc a g c fr K=>do
  match <-ev (.code a fr K)with
  | .ok .normal fr K=>do
   match <-ev (.code c fr ⟨K.os,K.os.length,[]⟩)with
   | .ok .normal fr2 K2=>do
    match <-ev (.rcv (opvP P.E g fr) .niliface ⟨K2.os,K2.os.length,[]⟩)with
    |.ok _ _ K3=>pure (.ok .ret fr2 ⟨K3.os,K.ext,K3.tch++(K2.tch++K.tch)⟩)
    |_=>znq
   | .ok .ret fr2 K2=>do
    match <-ev (.rcv (opvP P.E g fr) .niliface ⟨K2.os,K2.os.length,[]⟩)with
    |.ok _ _ K3=>pure (.ok .ret fr2 ⟨K3.os,K.ext,K3.tch++(K2.tch++K.tch)⟩)
    |_=>znq
   | .pan v K2=>do
    match <-ev (.rcv (opvP P.E g fr) v ⟨K2.os,K2.os.length,[]⟩)with
    |.ok _ _ K3=>pure (.ok .ret fr ⟨K3.os,K.ext,K3.tch++(K2.tch++K.tch)⟩)
    |_=>znq
   |_=>znq
  |_=>znq
 | .rcv x v K=>match x with
  | .fn (.func n) [] caps=>match rcOf (P.fn n)with
   | some (nt,d,d2,c)=>if caps.length<=nt then do
    match <-ev (.code c (setPs' [d,d2] [v,v] (enterP 0 caps)) K)with
    |.ok .normal fr K=>pure (.ok .normal fr K)
    |.ok .ret fr K=>pure (.ok .normal fr K)
    |_=>znq
    else znq
   |none=>znq
  |_=>znq
 | .round c args K=>if args.length=c.ps.length then do
  match <-ev (.code c.a (setPs' c.ps args c.fr) K)with
  |.ok .normal fr K=>ev (.code c.b fr K)
  |_=>znq
  else znq
 |.iter c 0 ic p fr K=>znq
 | .iter c (m+1) (.reg d l) p fr K=>do
  match <-ev (.code (.reg d l) fr K)with
  |.ok .normal fr K=>pure (.itr .normal p fr K)
  |_=>znq
 | .iter c (m+1) (.seq a b) p fr K=>do
  match <-ev (.iter c m a p fr K)with
  |.itr .normal p fr K=>ev (.iter c m b p fr K)
  |.itr (.exit i) p fr K=>pure (.itr (.exit i) p fr K)
  |.itr .ret p fr K=>pure (.itr .ret p fr K)
  |_=>znq
 | .iter c (m+1) (.cond x a b) p fr K=>match opvP P.E x fr with
  |.bool zt=>ev (.iter c m a p fr K)
  |.bool zf=>ev (.iter c m b p fr K)
  |_=>znq
 | .iter c (m+1) (.block i a) p fr K=>do
  match <-ev (.iter c m a p fr K)with
  |.itr .normal p fr K=>pure (.itr .normal p fr K)
  |.itr (.exit j) p fr K=>if j=i then pure (.itr .normal p fr K)else pure (.itr (.exit j) p fr K)
  |.itr .ret p fr K=>pure (.itr .ret p fr K)
  |_=>znq
 | .iter c (m+1) (.loop a) p fr K=>do
  match <-ev (.iter c m a p fr K)with
  |.itr .normal p fr K=>ev (.iter c m (.loop a) p fr K)
  |.itr (.exit i) p fr K=>pure (.itr (.exit i) p fr K)
  |.itr .ret p fr K=>pure (.itr .ret p fr K)
  |_=>znq
 |.iter c (m+1) .skip p fr K=>zs (.itr .normal p fr K)
 |.iter c (m+1) (.exit i) p fr K=>zs (.itr (.exit i) p fr K)
 |.iter c (m+1) .ret p fr K=>zs (.itr .ret p fr K)
 |.iter c (m+1) (.pre k a) p fr K=>ev (.iter c (m+1) a p (G5 k fr K).1 (G5 k fr K).2)
 | .iter c (m+1) (.post k a) p fr K=>do
  match <-ev (.iter c (m+1) a p fr K)with
  |.itr .normal p fr K=>pure (.itr .normal p (G5 k fr K).1 (G5 k fr K).2)
  |r=>pure r
 | .iter c (m+1) (.yreg p0 gd yt p1 yd args p2) p fr K=>do
  match <-ev (.code p0 fr K)with
  | .ok .normal fr K=>match guardP gd fr with
   | some zt=>match p with
    | none=>do
     match <-ev (.code p1 ((yt,.any)::fr) K)with
     | .ok .normal fr K=>match guardP gd fr with
      | some zt=>do
       match <-ev (.round c (opvL P.E args fr) ⟨K.os,K.os.length,[]⟩)with
       | .ok e _ K1=>do
        match <-ev (.code p2 ((yd,.bool (wentOn e))::fr) ⟨K1.os,K.ext,K1.tch++K.tch⟩)with
        |.ok .normal fr K=>pure (.itr .normal (M4 e) fr K)
        |_=>znq
       |_=>znq
      |_=>znq
     |_=>znq
    |some _=>znq
   | some zf=>do
    match <-ev (.code p1 ((yt,skipped)::fr) K)with
    | .ok .normal fr K=>match guardP gd fr with
     | some zf=>do
      match <-ev (.code p2 ((yd,skipped)::fr) K)with
      |.ok .normal fr K=>pure (.itr .normal p fr K)
      |_=>znq
     |_=>znq
    |_=>znq
   |none=>znq
  |_=>znq
 |.iter c (m+1) _ p fr K=>znq
 |.ops [] fr K=>zs (.ok .normal fr K)
 | .ops (o::l) fr K=>match guardP o.gd fr with
  | some zt=>match prim P.E o.op fr K with
   |.val v K=>ev (.ops l (setP o.dst v fr) K)
   | .call f args=>do
    match <-ev (.call f args K)with
    |.val vs K=>ev (.ops l (setP o.dst (oneOrTup vs) fr) K)
    |.pan v K=>pure (.pan v K)
    |.ok _ _ _=>znq
    |.itr _ _ _ _=>znq
   |.pan v=>zs (.pan v K)
   |.bad=>znq
  |some zf=>ev (.ops l (setP o.dst skipped fr) K)
  |none=>znq
 |.opsD [] fr K=>zs (.ok .normal fr K)
 | .opsD (o::l) fr K=>match guardP o.gd fr with
  | some zt=>match o.quiet with
   | true=>match prim P.E o.op fr {K with tch:=[]}with
    |.val v K1=>if Am K.os.length l K1=zt then ev (.opsD l (setP o.dst v fr) {K1 with tch:=K1.tch++K.tch})else ev (.opsS [⟨K.os,0,K1.tch⟩] l (setP o.dst v fr) {K1 with tch:=K1.tch++K.tch})
    | .call f args=>do
     match <-ev (.call f args {K with tch:=[]})with
     |.val vs K1=>if Am K.os.length l K1=zt then ev (.opsD l (setP o.dst (oneOrTup vs) fr) {K1 with tch:=K1.tch++K.tch})else ev (.opsS [⟨K.os,0,K1.tch⟩] l (setP o.dst (oneOrTup vs) fr) {K1 with tch:=K1.tch++K.tch})
     |.pan v K1=>if j6 P.E l o.late (setP o.dst skipped fr) K=zt then zs (.pan v {K1 with tch:=K1.tch++K.tch})else znq
     |.ok _ _ _=>znq
     |.itr _ _ _ _=>znq
    |.pan v=>znq
    |.bad=>znq
   | false=>match prim P.E o.op fr K with
    |.val v K=>ev (.opsD l (setP o.dst v fr) K)
    | .call f args=>do
     match <-ev (.call f args K)with
     |.val vs K=>ev (.opsD l (setP o.dst (oneOrTup vs) fr) K)
     |.pan v K1=>if j6 P.E l o.late (setP o.dst skipped fr) K=zt then zs (.pan v K1)else znq
     |.ok _ _ _=>znq
     |.itr _ _ _ _=>znq
    |.pan v=>if j6 P.E l o.late (setP o.dst skipped fr) K=zt then zs (.pan v K)else znq
    |.bad=>znq
  |some zf=>ev (.opsD l (setP o.dst skipped fr) K)
  |none=>znq
 |.opsS S [] fr K=>zs (.ok .normal fr K)
 | .opsS S (o::l) fr K=>match guardP o.gd fr with
  | some zt=>match o.quiet with
   | true=>match prim P.E o.op fr {K with tch:=[]}with
    |.val v K1=>ev (.opsS (⟨K.os,0,K1.tch⟩::S) l (setP o.dst v fr) {K1 with tch:=K1.tch++K.tch})
    |_=>znq
   | false=>if bO P.E S K fr o=zt then match prim P.E o.op fr K with
    |.val v K=>ev (.opsS S l (setP o.dst v fr) K)
    | .call f args=>do
     match <-ev (.call f args K)with
     |.val vs K=>ev (.opsS S l (setP o.dst (oneOrTup vs) fr) K)
     |_=>znq
    |_=>znq
   else znq
  |some zf=>ev (.opsS S l (setP o.dst skipped fr) K)
  |none=>znq
 | .call f args K=>match P.T f with
  | some g=>match tcall g args K with
   |some (vs,K)=>zs (.val vs K)
   |none=>znq
  | none=>match inpOf (P.fn f)with
   | true=>do
    match <-ev (.body f args ⟨K.os,K.os.length,[]⟩)with
    |.val vs K1=>pure (.val vs ⟨K1.os,K.ext,K1.tch++K.tch⟩)
    |.pan v K1=>pure (.pan v ⟨K1.os,K.ext,K1.tch++K.tch⟩)
    |.ok _ _ _=>znq
    |.itr _ _ _ _=>znq
   | false=>do
    match <-ev (.body f (renL (posOf (focusIds args K)) args) (focusK (focusIds args K) K))with
    | .val vs K1=>match mergeK (focusIds args K) K K1 with
     |some K'=>pure (.val (renL (backN (focusIds args K) K.os.length) vs) K')
     |none=>znq
    | .pan v K1=>match mergeK (focusIds args K) K K1 with
     |some K'=>pure (.pan (G2 (backN (focusIds args K) K.os.length) v) K')
     |none=>znq
    |.ok _ _ _=>znq
    |.itr _ _ _ _=>znq
 | .body f args K=>match P.fn f with
  | some p=>if args.length<=p.nt then do
   match <-ev (bodyJ p.code (enterP 0 args) K)with
   |.ok (.exit _) _ _=>znq
   | .ok .normal fr K=>match resP P.E p.rs fr K with
    |some (vs,K)=>pure (.val vs K)
    |none=>znq
   | .ok .ret fr K=>match resP P.E p.rs fr K with
    |some (vs,K)=>pure (.val vs K)
    |none=>znq
   |.pan v K=>pure (.pan v K)
   |.val _ _=>znq
   |.itr _ _ _ _=>znq
   else znq
  |none=>znq
def GL{α:Type}(a b:Option α):Prop:=a=znq\/a=b
theorem GL.bnd{α β:Type}{a b:Option α}{f g:α->Option β}(h:GL a b)(k:∀q,GL (f q) (g q)):GL (a >>= f) (b >>= g):=by
 rcases h with rfl|rfl
 . exact .inl rfl
 . cases a with
   |none=>exact .inl rfl
   |some q=>exact k q
theorem vM(P:PE){e1 e2:PJ->Option PR}(h:∀j,GL (e1 j) (e2 j))(j:PJ):GL (evG P e1 j) (evG P e2 j):=by
 unfold evG
 repeat' first|exact .inr rfl|exact h _|refine .bnd (h _) fun q=>?_|split
def evP(P:PE)(j:PJ):Option PR:=evG P (evP P) j
partial_fixpoint monotonicity fun x y h j=>by
 have A:=vM P (e1:=x) (e2:=y) (fun j=>by
  have B:=h j
  revert B
  generalize x j=a;generalize y j=b;intro B;cases B with
  |bot=>exact .inl rfl
  |refl=>exact .inr rfl) j
 dsimp only
 revert A
 generalize evG P x j=a;generalize evG P y j=b;intro A;rcases A with rfl|rfl
 . exact .bot
 . exact .refl
def evF(P:PE):Nat->PJ->Option PR
 |0=>fun _=>znq
 |n+1=>evG P (evF P n)
theorem evF_le(P:PE):∀(n:Nat)(j:PJ),GL (evF P n j) (evP P j)
 |0,_=>.inl rfl
 |n+1,j=>by rw[evP];exact vM P (evF_le P n) j
theorem kB{P:PE}{n:Nat}{j:PJ}{r:PR}(h:evF P n j=zs r):evP P j=zs r:=by
 rcases evF_le P n j with e|e
 . rw[e]at h;cases h
 . rw[<-e];exact h
end
end
def isAg(v:AV):Bool:=match v with | .agg _=>zt|_=>zf
theorem C3{v:AV}(h:isAg v=zf):v.cells=[v]:=by cases v<;>first|rfl|cases h
inductive Emp:AV->Prop where
 |nil:Emp .nilsl
 |fsl:Emp (.fsl [] zf)
inductive Fz(Z:Nat->Prop)(h:Heap):AV->AV->Prop where
 |int (k:IntKind) (n:Int):Fz Z h (.int k n) (.int k n)
 |bool (b:Bool):Fz Z h (.bool b) (.bool b)
 |str (s:List UInt8):Fz Z h (.str s) (.str s)
 |nilsl:Fz Z h .nilsl .nilsl
 |nilptr:Fz Z h .nilptr .nilptr
 |nilmap:Fz Z h .nilmap .nilmap
 |nilfn:Fz Z h .nilfn .nilfn
 |niliface:Fz Z h .niliface .niliface
 |agg {xs ys:List AV}:xs.length=ys.length->(∀(i:Nat) x y,xs[i]?=zs x->ys[i]?=zs y->Fz Z h x y)->ys.all clo=zt->Fz Z h (.agg xs) (.agg ys)
 |emp {x:AV}:Emp x->Fz Z h x (.fsl [] zt)
 |fsl {es es':List AV} {f f':Bool}:es.length=es'.length->(∀(i:Nat) x y,es[i]?=zs x->es'[i]?=zs y->Fz Z h x y)->f=zf->Fz Z h (.fsl es f) (.fsl es' f')
 |view {id off n sz:Nat} {row es':List AV} {f':Bool}:Z id->h.get id=zs (.row row sz)->off+n<=row.length->es'.length=n->(∀(i:Nat) x y,row[off+i]?=zs x->es'[i]?=zs y->Fz Z h x y)->(∀(i:Nat) x,i<n->row[off+i]?=zs x->x.cells.length=sz)->Fz Z h (.msl id off n sz) (.fsl es' f')
 |fptr {v v':AV} (o:Nat):Fz Z h v v'->Fz Z h (.fptr v o) (.fptr v' o)
 |pview {id i o sz:Nat} {v v':AV} {row:List AV}:Z id->h.get id=zs (.row row sz)->row[i]?=zs v->Fz Z h v v'->Fz Z h (.ptr id i o) (.fptr v' o)
section
variable {Z Z':Nat->Prop}{h h':Heap}{x y:AV}
theorem Fz.shape(f:Fz Z h x y):x.cells.length=y.cells.length/\isAg x=isAg y:=by
 cases f with
 |agg h1 _ _=>exact⟨h1,rfl⟩
 |emp e=>cases e<;>exact⟨rfl,rfl⟩
 |_=>exact⟨rfl,rfl⟩
theorem Fz.mono(f:Fz Z h x y)(hZ:∀id,Z id->Z' id/\h'.get id=h.get id):Fz Z' h' x y:=by
 induction f with
 |agg h1 _ A ih=>exact .agg h1 ih A
 |emp e=>exact .emp e
 |fsl h1 _ A ih=>exact .fsl h1 ih A
 |view h1 h2 A B _ C ih=>exact .view (hZ _ h1).1 ((hZ _ h1).2.trans h2) A B ih C
 |fptr o _ ih=>exact .fptr o ih
 |pview h1 h2 A _ ih=>exact .pview (hZ _ h1).1 ((hZ _ h1).2.trans h2) A ih
 |int=>exact .int _ _
 |bool=>exact .bool _
 |str=>exact .str _
 |nilsl=>exact .nilsl
 |nilptr=>exact .nilptr
 |nilmap=>exact .nilmap
 |nilfn=>exact .nilfn
 |niliface=>exact .niliface
theorem Fz.clo(f:Fz Z h x y)(A:isAg y=zf):AM.clo y=zt:=by
 cases f<;>first|rfl|cases A
theorem Fz.cell(f:Fz Z h x y){o:Nat}{a b:AV}(ha:x.cells[o]?=zs a)(hb:y.cells[o]?=zs b):Fz Z h a b/\AM.clo b=zt:=by
 cases A:isAg y with
 |false=>
  have B:=f.shape.2.trans A;rw[C3 B]at ha;rw[C3 A]at hb;cases o with
  |zero=>cases ha;cases hb;exact⟨f,f.clo A⟩
  |succ o=>simp at ha
 |true=>
  cases f with
  |agg h1 h2 C=>exact⟨h2 o a b ha hb,zqf.1 C b (zqe hb)⟩
  |_=>cases A
theorem Fz.okc(f:Fz Z h x y)(A:AM.clo y=zt):okCell x=zt:=by
 cases f with
 |agg=>cases A
 |emp e=>cases e<;>rfl
 |_=>rfl
end
def refK(k id n sz:Nat):AV:=match k with|1=>.ptr id 0 0|_=>.msl id 0 n sz
def rE(ow:Nat->Option (List Nat))(L:List Nat):Prop:=∀c t,ow c≠zs (L++t)
def CF(ow:Nat->Option (List Nat))(L:List Nat)(n sz:Nat):Prop:=∀c t,ow c=zs (L++t)->t=[]\/∃i o q,t=i::o::q/\i<n/\o<sz
inductive CR(Z:Nat->Prop)(ow:Nat->Option (List Nat))(h:Heap):List Nat->AV->AV->Prop where
 |val {L:List Nat} {x y:AV}:Fz Z h x y->clo y=zt->rE ow L->CR Z ow h L x y
 |und {L:List Nat} {x:AV}:CR Z ow h L x .und
 |nil {L:List Nat} {x:AV} {sz:Nat}:(x=.nilsl\/x=.nilsl)->rE ow L->CR Z ow h L x (ownd 0 sz [])
 | own {L:List Nat} {k id sz:Nat} {ces es:List AV}:ow id=zs L->id<h.next->h.get id=zs (.row ces sz)->ces.length=es.length->CF ow L es.length sz ->
  (∀(i:Nat) x y,ces[i]?=zs x->es[i]?=zs y->x.cells.length=sz/\y.cells.length=sz/\isAg x=isAg y) ->
  (∀(i:Nat) x y,ces[i]?=zs x->es[i]?=zs y->∀(o:Nat) a b,x.cells[o]?=zs a->y.cells[o]?=zs b->CR Z ow h (L++[i,o]) a b)->CR Z ow h L (refK k id es.length sz) (ownd k sz es)
def loP(os:List PO):Nat->Nat->Option (List Nat)
 |0,_=>znq
 | n+1,id=>match os[id]? with
  |some (.row _ _ _)=>zs [id]
  |some (.mapo _)=>zs [id]
  |some (.sub p i o)=>(loP os n p).map (· ++ [i,o])
  |_=>znq
inductive VR(Z:Nat->Prop)(ow:Nat->Option (List Nat))(h:Heap)(os:List PO):AV->AV->Prop where
 |fz {x y:AV}:Fz Z h x y->VR Z ow h os x y
 |und {x:AV}:VR Z ow h os x .und
 |any:VR Z ow h os .any .any
 |msl {id c off n sz:Nat}:(∀L,loP os 6 id=zs L->ow c=zs L)->id<os.length->VR Z ow h os (.msl c off n sz) (.msl id off n sz)
 |mnil {x:AV} {id sz:Nat}:(x=.nilsl\/x=.nilsl)->(∀L,loP os 6 id=zs L->∀c,ow c≠zs L)->id<os.length->VR Z ow h os x (.msl id 0 0 sz)
 |ptr {id c i off:Nat}:(∀L,loP os 6 id=zs L->ow c=zs L)->id<os.length->VR Z ow h os (.ptr c i off) (.ptr id i off)
 |map {id c:Nat}:(∀L,loP os 6 id=zs L->ow c=zs L)->id<os.length->VR Z ow h os (.map c) (.map id)
 |agg {xs ys:List AV}:xs.length=ys.length->(∀(i:Nat) x y,xs[i]?=zs x->ys[i]?=zs y->VR Z ow h os x y)->VR Z ow h os (.agg xs) (.agg ys)
 |tup {xs ys:List AV}:xs.length=ys.length->(∀(i:Nat) x y,xs[i]?=zs x->ys[i]?=zs y->VR Z ow h os x y)->VR Z ow h os (.tup xs) (.tup ys)
 |fn {f:Fn} {as1 bs as' bs':List AV}:as1.length=as'.length->(∀(i:Nat) x y,as1[i]?=zs x->as'[i]?=zs y->VR Z ow h os x y)->bs.length=bs'.length->(∀(i:Nat) x y,bs[i]?=zs x->bs'[i]?=zs y->VR Z ow h os x y)->VR Z ow h os (.fn f as1 bs) (.fn f as' bs')
 |iface {t:TypeId} {x y:AV}:VR Z ow h os x y->VR Z ow h os (.iface t x) (.iface t y)
def cF(sz:Nat)(ces es:List AV):Prop:=ces.length=es.length/\∀(i:Nat) x y,ces[i]?=zs x->es[i]?=zs y->x.cells.length=sz/\y.cells.length=sz/\isAg x=isAg y
structure RawR(R:AV->AV->Prop)(ow:Nat->Option (List Nat))(h:Heap)(r:Nat)(es:List AV)(sz:Nat)(c:Nat)(ces:List AV):Prop where
 o:ow c=zs [r]
 lt:c<h.next
 get:h.get c=zs (.row ces sz)
 sh:cF sz ces es
 vr:∀(i:Nat) x y,ces[i]?=zs x->es[i]?=zs y->∀(o:Nat) a b,x.cells[o]?=zs a->y.cells[o]?=zs b->R a b
 okp:∀(i:Nat) y,es[i]?=zs y->∀b,b∈y.cells->Ev b=zt\/b=.und
 no:∀a t,ow a=zs (r::t)->t=[]
structure MapR(Z:Nat->Prop)(ow:Nat->Option (List Nat))(h:Heap)(r:Nat)(es:List (AV×AV))(c:Nat)(ces:List (AV×AV)):Prop where
 o:ow c=zs [r]
 lt:c<h.next
 get:h.get c=zs (.mapo ces)
 len:ces.length=es.length
 kv:∀(i:Nat) x y,ces[i]?=zs x->es[i]?=zs y->x.1=y.1/\Fz Z h x.2 y.2
 no:∀a t,ow a=zs (r::t)->t=[]
def isRt(os:List PO)(r:Nat):Bool:=match os[r]? with|some (.row _ _ _)=>zt|some (.mapo _)=>zt|_=>zf
structure PT(R:AV->AV->Prop)(Z:Nat->Prop)(ow:Nat->Option (List Nat))(h:Heap)(os:List PO):Prop where
 row:∀(r:Nat) es sz,os[r]?=zs (.row 0 es sz)->∃x,CR Z ow h [r] x (ownd 0 sz es)
 raw:∀(r:Nat) k es sz,os[r]?=zs (.row k es sz)->k≠0->∃c ces,RawR R ow h r es sz c ces
 map:∀(r:Nat) es,os[r]?=zs (.mapo es)->∃c ces,MapR Z ow h r es c ces
 inj:∀a b L,ow a=zs L->ow b=zs L->a=b
 live:∀a L,ow a=zs L->a<h.next/\¬Z a/\∃r t,L=r::t/\isRt os r=zt
 zb:∀a,Z a->a<h.next
 sb:∀(j:Nat) p i o,os[j]?=zs (.sub p i o)->p<os.length
abbrev F7(Z:Nat->Prop)(ow:Nat->Option (List Nat))(h:Heap)(os:List PO):Prop:=PT (VR Z ow h os) Z ow h os
section
variable {Z Z':Nat->Prop}{ow ow':Nat->Option (List Nat)}{h h':Heap}{os os':List PO}{x y:AV}{L L':List Nat}
theorem CR.reloc(c:CR Z ow h L x y)(hn:h.next<=h'.next)(hZ:∀id,Z id->Z' id/\h'.get id=h.get id)(ho:∀id q,ow' id=zs (L'++q)↔ow id=zs (L++q))(hg:∀id q,ow id=zs (L++q)->h'.get id=h.get id):CR Z' ow' h' L' x y:=by
 induction c generalizing L' with
 |val f e n=>exact .val (f.mono hZ) e fun c t hc=>n c t ((ho c t).1 hc)
 |und=>exact .und
 |nil e n=>exact .nil e fun c t hc=>n c t ((ho c t).1 hc)
 |own h1 h2 h3 G A H _ ih=>
  have ho1:=(ho _ []).2 (by simpa using h1);refine .own (by grind) (zqu h2 hn) (by grind) G (fun c t hc=>A c t ((ho c t).1 hc)) H fun i x y B C o a b ha hb=>?_
  refine ih i x y B C o a b ha hb (fun id q=>?_) (fun id q hq=>?_)
  . grind
  grind
theorem CR.shape(c:CR Z ow h L x y)(hy:y≠.und):isAg x=zf:=by
 cases c with
 |val f e _=>
  rw[f.shape.2];cases y<;>first|rfl|cases e
 |und=>grind
 |nil e n=>rcases e with rfl|rfl<;>rfl
 |own=>rename_i k _ _ _ _ _ _ _ _ _ _ _;unfold refK;split<;>rfl
def Keep'(ow:Nat->Option (List Nat))(os:List PO)(ow':Nat->Option (List Nat))(os':List PO):Prop:=os.length<=os'.length/\∀id<os.length,∀L',loP os' 6 id=zs L'->∃L,loP os 6 id=zs L/\∀c,ow c=zs L↔ow' c=zs L'
theorem VR.keep(v:VR Z ow h os x y)(hZ:∀id,Z id->Z' id/\h'.get id=h.get id)(B:Keep' ow os ow' os'):VR Z' ow' h' os' x y:=by
 have A:∀{id c},(∀L,loP os 6 id=zs L->ow c=zs L)->id<os.length->(∀L,loP os' 6 id=zs L->ow' c=zs L)/\id<os'.length:=fun{id c} h1 h2=>by
  refine⟨fun L hL=>?_,zqu h2 B.1⟩;obtain⟨C,G,H⟩:=B.2 id h2 L hL;exact(H c).1 (h1 C G)
 induction v with
 |fz f=>exact .fz (f.mono hZ)
 |und=>exact .und
 |any=>exact .any
 |msl h1 h2=>exact .msl (A h1 h2).1 (A h1 h2).2
 |mnil e m n=>exact .mnil e (fun L hL c hc=>by
  obtain⟨C,G,H⟩:=B.2 _ n L hL;exact m C G c ((H c).2 hc)) (zqu n B.1)
 |ptr h1 h2=>exact .ptr (A h1 h2).1 (A h1 h2).2
 |map h1 h2=>exact .map (A h1 h2).1 (A h1 h2).2
 |agg h1 _ ih=>exact .agg h1 ih
 |tup h1 _ ih=>exact .tup h1 ih
 |fn h1 _ O _ J N=>exact .fn h1 J O N
 |iface _ ih=>exact .iface ih
theorem PT.imp{R B:AV->AV->Prop}(s:PT R Z ow h os)(f:∀x y,R x y->B x y):PT B Z ow h os:=
 ⟨s.row,fun r k es sz C A=>by
   obtain⟨c,ces,q⟩:=s.raw r k es sz C A;exact⟨c,ces,q.o,q.lt,q.get,q.sh,fun i x y G H o a b ha hb=>f a b (q.vr i x y G H o a b ha hb),q.okp,q.no⟩,s.map,s.inj,s.live,s.zb,s.sb⟩
theorem F7.to(s:PT (VR Z ow h os) Z' ow' h' os')(hZ:∀id,Z id->Z' id/\h'.get id=h.get id)(A:Keep' ow os ow' os'):F7 Z' ow' h' os':=s.imp fun _ _ v=>v.keep hZ A
theorem An{c:AV}{k sz:Nat}{es:List AV}(e:ownOf c=zs (k,es,sz)):c=ownd k sz es:=by
 unfold ownOf at e;split at e
 . cases e;rfl
 . cases e
theorem Ud(k sz:Nat)(es:List AV):ownd k sz es≠.und:=by intro e;cases e
theorem nD{k sz k' A:Nat}{es es':List AV}(e:ownd k sz es=ownd k' A es'):k=k'/\sz=A/\es=es':=by
 unfold ownd at e;grind
theorem CR.inv{k sz:Nat}{es:List AV}(c:CR Z ow h L x (ownd k sz es)):
 (k=0/\es=[]/\(x=.nilsl\/x=.nilsl)/\rE ow L)\/∃id ces,x=refK k id es.length sz/\ow id=zs L/\id<h.next/\h.get id=zs (.row ces sz)/\cF sz ces es/\CF ow L es.length sz/\
   ∀(i:Nat) x y,ces[i]?=zs x->es[i]?=zs y->∀(o:Nat) a b,x.cells[o]?=zs a->y.cells[o]?=zs b->CR Z ow h (L++[i,o]) a b:=by
 generalize hy:ownd k sz es=y at c;cases c with
 |val f e _=>subst hy;cases e
 |und=>grind[Ud]
 |nil e n=>obtain⟨rfl,rfl,rfl⟩:=nD hy;grind
 |own h1 h2 B C A G H=>obtain⟨rfl,rfl,rfl⟩:=nD hy;exact .inr ⟨_,_,rfl,h1,h2,B,⟨C,G⟩,A,H⟩
theorem PT.get{R:AV->AV->Prop}(s:PT R Z ow h os):∀(n id k:Nat)(es:List AV)(sz:Nat),rowOf os n id=zs (k,es,sz) ->
 ∃L,loP os n id=zs L/\((rawAt os id=zt/\L=[id]/\∃c ces,RawR R ow h id es sz c ces)\/(rawAt os id=zf/\∃x,CR Z ow h L x (ownd k sz es)))
 |0,_,_,_,_,e=>by cases e
 |n + 1,id,k,es,sz,e=>by
  unfold rowOf at e;unfold loP rawAt;cases J:os[id]? with
  |none=>grind
  |some q=>
   rw[J]at e;cases q with
   |row k' es' sz'=>
    cases e;refine⟨[id],rfl,?_⟩;cases k with
    |zero=>exact .inr ⟨rfl,s.row id es sz J⟩
    |succ k=>exact .inl ⟨rfl,rfl,s.raw id _ es sz J (by omega)⟩
   |sub p i o=>
    simp only at e;cases N:rowOf os n p with
    |none=>grind
    |some t=>
     obtain⟨kp,A,G⟩:=t;rw[N]at e;simp only at e;cases hi:A[i]? with
     |none=>grind
     |some v=>
      rw[hi]at e;simp only at e;cases ho:v.cells[o]? with
      |none=>grind
      |some c=>
       rw[ho]at e;have O:=An e;subst O;obtain⟨U,hl,hc⟩:=PT.get s n p kp A G N;refine⟨U++[i,o],by grind,.inr ⟨rfl,?_⟩⟩;rcases hc with⟨_,_,c,ces,H⟩|⟨_,x,H⟩
       . rcases H.okp i v hi _ (zqe ho)with h|h
         . cases h
         grind[Ud]
       . rcases H.inv with⟨_,e2,_⟩|⟨cid,ces,_,_,_,_,B,_,hcr⟩
         . grind
         . have C:i<ces.length:=by rw[B.1];grind
           have Q:=zqd C;have hs:=B.2 i _ v Q hi;grind
   |_=>cases e
end
def Und(L M:List Nat):Prop:=∃t,M=L++t
theorem Und.refl(L:List Nat):Und L L:=⟨[],by simp⟩
theorem Me{L t:List Nat}{i o i' o':Nat}{q:List Nat}(h:Und ((L++[i,o])++t) (L++[i',o']++q)):i=i'/\o=o':=by
 obtain⟨u,hu⟩:=h;simp_all
theorem GM{L t:List Nat}{i o:Nat}(h:Und ((L++[i,o])++t) L):False:=by
 obtain⟨u,hu⟩:=h;simp_all
structure Dl(Z:Nat->Prop)(ow:Nat->Option (List Nat))(h:Heap)(Z':Nat->Prop)(ow':Nat->Option (List Nat))(h':Heap)(L:List Nat):Prop where
 hn:h.next<=h'.next
 hZ:∀id,Z id->Z' id/\h'.get id=h.get id
 ho:∀id M,¬Und L M->(ow' id=zs M↔ow id=zs M)
 hg:∀id M,ow id=zs M->¬Und L M->h'.get id=h.get id
section
variable {Z Z':Nat->Prop}{ow ow':Nat->Option (List Nat)}{h h':Heap}{os os':List PO}{x y:AV}{L L0 M:List Nat}
theorem Dl.tree(d:Dl Z ow h Z' ow' h' L)(A:∀q,¬Und L (M++q))(c:CR Z ow h M x y):CR Z' ow' h' M x y:=
 c.reloc d.hn d.hZ (fun id q=>d.ho id _ (A q)) (fun id q e=>d.hg id _ e (A q))
theorem Oz{v c:AV}{o:Nat}(ho:o<v.cells.length)(hc:isAg c=zf):(putCl v o c).cells=v.cells.set o c/\isAg (putCl v o c)=isAg v:=by
 cases A:isAg v with
 |false=>
  have e1:putCl v o c=c:=by cases v<;>first|rfl|cases A
  have e2:=C3 A;rw[e2]at ho
  have:o=0:=by grind
  subst this;rw[e1,e2,C3 hc,hc];grind
 |true=>cases v<;>first|exact⟨rfl,rfl⟩|cases A
theorem CR.up{k sz i o:Nat}{es:List AV}{v c G:AV}{t:List Nat}(V:CR Z ow h M x (ownd k sz es))(d:Dl Z ow h Z' ow' h' (M++[i,o]++t))(hin:CF ow' M es.length sz)(hi:es[i]?=zs v)(ho:v.cells[o]?=zs c)(hc:isAg G=zf)
 (H:∀a,CR Z ow h (M++[i,o]) a c->CR Z' ow' h' (M++[i,o]) a G):CR Z' ow' h' M x (ownd k sz (es.set i (putCl v o G))):=by
 rcases V.inv with⟨_,e2,_⟩|⟨id,ces,rfl,h1,h2,X,Q,_,U⟩
 . grind
 . have N:o<v.cells.length:=(zqb.1 ho).1
   have O:=Oz N hc;have C:¬Und (M++[i,o]++t) M:=GM;rw[show es.length=(es.set i (putCl v o G)).length by simp];refine CR.own ((d.ho _ _ C).2 h1) (zqu h2 d.hn) ((d.hg _ _ h1 C).trans X) (by simpa using Q.1) (by grind) (fun j x y H A=>?_) (fun j x y B A o' a b ha hb=>?_)
   . rw [zqc]at A
     split at A
     . rename_i e
       subst e;split at A
       . cases A
         have:=Q.2 i x v H hi
         grind
       . cases A
     . exact Q.2 j x y H A
   . rw [zqc]at A
     split at A
     . rename_i e
       subst e;split at A
       . cases A
         rw[O.1,zqc]at hb;by_cases e:o=o'
         . grind
         . rw[if_neg e]at hb
           exact d.tree (fun q J=>e (Me J).2) (U i x v B hi o' a b ha hb)
       . cases A
     . rename_i e
       exact d.tree (fun q J=>e (Me J).1) (U j x y B A o' a b ha hb)
theorem setRow_eq:∀(n id:Nat)(es':List AV)(os':List PO),setRow os n id es'=zs os'->∃r k es sz A,os[r]?=zs (.row k es sz)/\os'=os.set r (.row k A sz)/\r=rootOf os n id
 |0,_,_,_,e=>by cases e
 |n + 1,id,es',os',e=>by
  unfold setRow at e;unfold rootOf;cases C:os[id]? with
  |none=>grind
  |some q=>
   rw[C]at e;cases q with
   |row k es sz=>grind
   |sub p i o=>
    simp only at e;cases G:rowOf os n p with
    |none=>grind
    |some t=>
     obtain⟨kp,B,psz⟩:=t;rw[G]at e;simp only at e;cases hi:B[i]? with
     |none=>grind
     |some v=>
      rw[hi]at e;simp only at e;cases ho:v.cells[o]? with
      |none=>grind
      |some c=>
       rw[ho]at e;simp only at e;cases hc:ownOf c with
       |none=>grind
       |some t=>
        obtain⟨k,es,sz⟩:=t;rw[hc]at e;exact setRow_eq n p _ os' e
   |_=>cases e
theorem Bl{r k k' sz A:Nat}{es es':List AV}(B:os[r]?=zs (.row k es sz)):∀(n id:Nat),loP (os.set r (.row k' es' A)) n id=loP os n id
 |0,_=>rfl
 |n + 1,id=>by
  unfold loP;rw[zqc];have hlt:r<os.length:=(zqb.1 B).1;by_cases e:r=id
  . grind
  . rw [if_neg e]
    cases os[id]? with
    |none=>rfl
    |some q=>
     cases q with
     |sub p i o=>simp only[Bl B n p]
     |_=>rfl
theorem isRt_set{r k k' sz A:Nat}{es es':List AV}(hr:os[r]?=zs (.row k es sz))(id:Nat):isRt (os.set r (.row k' es' A)) id=isRt os id:=by
 unfold isRt;grind
theorem H5:∀(n id:Nat)(L:List Nat),loP os n id=zs L->∃t,L=rootOf os n id::t/\isRt os (rootOf os n id)=zt/\(t=[]->rootOf os n id=id)
 |0,_,_,e=>by cases e
 |n + 1,id,L,e=>by
  unfold loP at e;unfold rootOf;cases C:os[id]? with
  |none=>grind
  |some q=>
   rw[C]at e;cases q with
   |dead=>cases e
   |sub p i o=>
    simp only at e;cases A:loP os n p with
    |none=>grind
    |some B=>
     rw[A]at e;cases e;obtain⟨t,h1,h2,_⟩:=H5 n p B A;simp_all
   |_=>cases e;exact⟨[],rfl,by grind[isRt],fun _=>rfl⟩
theorem PT.set{R:AV->AV->Prop}(s:PT R Z ow h os)(d:Dl Z ow h Z' ow' h' L)
 (hinj:∀a b L,ow' a=zs L->ow' b=zs L->a=b)(hlive:∀a L,ow' a=zs L->a<h'.next/\¬Z' a/\∃r t,L=r::t/\isRt os r=zt)(hzb:∀a,Z' a->a<h'.next)
 (hin:∀M n sz t,L=M++t->t≠[]->CF ow M n sz->CF ow' M n sz):
 ∀ (n id k:Nat) (es:List AV) (sz:Nat) (es':List AV) (os':List PO) (L0 t:List Nat),L=L0++t->rowOf os n id=zs (k,es,sz)->loP os n id=zs L0->rawAt os id=zf->setRow os n id es'=zs os' ->
   (∀x,CR Z ow h L0 x (ownd k sz es)->CR Z' ow' h' L0 x (ownd k sz es'))->PT R Z' ow' h' os'
 |0,_,_,_,_,_,_,_,_,_,e,_,_,_,_=>by cases e
 |n + 1,id,k,es,sz,es',os',L0,t,hL,e,hlo,hraw,hset,hcr=>by
  unfold rowOf at e;unfold setRow at hset;unfold loP at hlo;cases he:os[id]? with
  |none=>grind
  |some q=>
   rw[he]at e hset hlo;cases q with
   |row k0 es0 sz0=>
    cases e;cases hset;cases hlo;have Y:k=0:=by
     grind[rawAt]
    subst Y;subst hL;have B:∀r q,r≠id->¬Und ([id]++t) (r::q):=fun r q U ⟨u,hu⟩=>by
     grind
    have aa:id<os.length:=(zqb.1 he).1;refine⟨fun r C J A=>?_,fun r k1 C J A U=>?_,fun r C A=>?_,hinj,fun a L ha=>?_,hzb,fun j p i o X=>?_⟩
    . rw [zqc]at A
      by_cases e:id=r
      . subst e
        rw[if_pos rfl,if_pos aa]at A;cases A;obtain⟨x,H⟩:=s.row id es sz he;grind
      . rw[if_neg e]at A
        obtain⟨x,H⟩:=s.row r C J A;exact⟨x,d.tree (by grind) H⟩
    . rw [zqc]at A
      by_cases e:id=r
      . grind
      . rw[if_neg e]at A
        obtain⟨c,ces,A⟩:=s.raw r k1 C J A U;have G:=B r [] (fun N=>e N.symm);exact⟨c,ces,(d.ho _ _ G).2 A.o,zqu A.lt d.hn,(d.hg _ _ A.o G).trans A.get,A.sh,A.vr,A.okp,fun a t ha=>A.no a t ((d.ho _ _ (B r t (fun N=>e N.symm))).1 ha)⟩
    . rw [zqc]at A
      by_cases e:id=r
      . grind
      . rw[if_neg e]at A
        obtain⟨c,ces,A⟩:=s.map r C A;have G:=B r [] (fun N=>e N.symm);exact⟨c,ces,(d.ho _ _ G).2 A.o,zqu A.lt d.hn,(d.hg _ _ A.o G).trans A.get,A.len,fun i x y H hy=>⟨(A.kv i x y H hy).1,(A.kv i x y H hy).2.mono d.hZ⟩,fun a t ha=>A.no a t ((d.ho _ _ (B r t (fun N=>e N.symm))).1 ha)⟩
    . grind[isRt_set]
    . rw[zqc]at X
      by_cases e:id=j
      . grind
      . rw[if_neg e]at X;rw[zqg];exact s.sb j p i o X
   |sub p i o=>
    simp only at e hset hlo;cases hp:rowOf os n p with
    |none=>grind
    |some t1=>
     obtain⟨kp,Q,V⟩:=t1;rw[hp]at e hset;simp only at e hset;cases hi:Q[i]? with
     |none=>grind
     |some v=>
      rw[hi]at e hset;simp only at e hset;cases ho:v.cells[o]? with
      |none=>grind
      |some c=>
       rw [ho]at e hset;simp only at e hset;have ec:=An e;subst ec;rw[e]at hset;obtain⟨Lp,hl,hc⟩:=s.get n p kp Q V hp;rw[hl]at hlo;cases hlo;have O:rawAt os p=zf:=by
        rcases hc with⟨_,_,c,ces,A⟩|⟨h,_⟩
        . rcases A.okp i v hi _ (zqe ho)with h|h
          . cases h
          grind[Ud]
        . exact h
       have d':=d;rw[hL]at d';refine PT.set s d hinj hlive hzb hin n p kp Q V _ os' Lp ([i,o]++t) (by grind) hp hl O hset fun x H=>?_
       refine H.up d' ?_ hi ho rfl hcr;rcases H.inv with⟨_,e2,_⟩|⟨_,_,_,_,_,_,_,h4,_⟩
       . grind
       grind
   |_=>cases e
end
structure Stp(b:Nat)(Z:Nat->Prop)(ow:Nat->Option (List Nat))(h:Heap)(K:PK)(Z':Nat->Prop)(ow':Nat->Option (List Nat))(h':Heap)(K':PK):Prop where
 nx:h.next<=h'.next
 zz:∀id,Z id->Z' id/\h'.get id=h.get id
 zn:∀id,Z' id->Z id\/h.next<=id
 un:∀id,id<h.next->ow id=znq->h'.get id=h.get id
 uo:∀id L,ow' id=zs L->id<h.next->ow id≠znq
 th:∃l,h'.tch=l++h.tch/\∀id∈l,h.next<=id\/∃r t,ow id=zs (r::t)/\(r<b->r∈K'.tch)
 mv:∀id r t,ow id=zs (r::t)->r<K.ext->(∃t',ow' id=zs (r::t'))\/r∈K'.tch
 tm:∀r∈K.tch,r<K.ext->r∈K'.tch
 ex:K'.ext=K.ext
 xk:∀j,j<K.ext->∀c,isRt K'.os j=zt->(ow c=zs [j]↔ow' c=zs [j])
 rd:∀j,j<K.ext->isRt K'.os j=zt->isRt K.os j=zt
section
variable {b:Nat}{Z Z' Z2:Nat->Prop}{ow ow' ow2:Nat->Option (List Nat)}{h h' h2:Heap}{K K' K2:PK}{os os' os2:List PO}{x y:AV}{L L0 M:List Nat}
theorem Stp.refl(b:Nat)(Z:Nat->Prop)(ow:Nat->Option (List Nat))(h:Heap)(K:PK):Stp b Z ow h K Z ow h K:=
 ⟨zqt _,fun id hz=>⟨hz,rfl⟩,fun id hz=>.inl hz,fun _ _ _=>rfl,(by grind),(by simp_all),fun id r t ho _=>.inl ⟨t,ho⟩,fun r A _=>A,rfl,fun j _ c _=>.rfl,fun j _ B=>B⟩
theorem Stp.trans(s:F7 Z ow h K.os)(a:Stp K.ext Z ow h K Z' ow' h' K')(c:Stp K'.ext Z' ow' h' K' Z2 ow2 h2 K2):Stp K.ext Z ow h K Z2 ow2 h2 K2:=by
 obtain⟨O,e1,Q⟩:=a.th;obtain⟨U,e2,V⟩:=c.th;have hex:=a.ex;refine⟨zqz a.nx c.nx,fun id hz=>⟨(c.zz id (a.zz id hz).1).1,(c.zz id (a.zz id hz).1).2.trans (a.zz id hz).2⟩,fun id hz=>?_,fun id hl ho=>?_,fun id L ho hl=>?_,⟨U++O,by grind,fun id hi=>?_⟩,fun id r t ho A=>?_,fun r A hl=>c.tm r (a.tm r A hl) (by grind),c.ex.trans a.ex,fun j G J A=>?_,fun j G A=>a.rd j G (c.rd j (by grind) A)⟩
 . rcases c.zn id hz with h|h
   . exact a.zn id h
   . exact .inr (zqz a.nx h)
 . have h1:=a.un id hl ho
   have B:ow' id=znq:=by
    cases e:ow' id with
    |none=>rfl
    |some L=>exact absurd ho (a.uo id L e hl)
   exact(c.un id (zqu hl a.nx) B).trans h1
 . cases e:ow' id with
   |none=>exact absurd e (c.uo id L ho (zqu hl a.nx))
   |some L'=>exact a.uo id L' e hl
 . rcases zqp.1 hi with hi|hi
   . rcases V id hi with h|⟨r,t,h1,h2⟩
     . exact .inl (zqz a.nx h)
     . by_cases hl:id<h.next
       . cases e:ow id with
         |none=>exact absurd e (a.uo id _ h1 hl)
         |some L=>
          obtain⟨_,_,H,N,rfl,_⟩:=s.live id L e;refine .inr ⟨H,N,rfl,fun A=>?_⟩;rcases a.mv id H N e A with⟨t',B⟩|B
          . grind
          . exact c.tm H B (by grind)
       grind
   . rcases Q id hi with h|⟨r,t,h1,h2⟩
     . exact .inl h
     . exact .inr ⟨r,t,h1,fun A=>c.tm r (h2 A) (by grind)⟩
 . rcases a.mv id r t ho A with⟨t',B⟩|B
   . rcases c.mv id r t' B (by grind)with h|h
     . exact .inl h
     grind
   . exact .inr (c.tm r B (by grind))
 . have C:j<K'.ext:=by grind
   exact(a.xk j G J (c.rd j C A)).trans (c.xk j C J A)
theorem Keep'.refl(ow:Nat->Option (List Nat))(os:List PO):Keep' ow os ow os:=⟨zqt _,(by grind)⟩
theorem Keep'.trans(a:Keep' ow os ow' os')(c:Keep' ow' os' ow2 os2):Keep' ow os ow2 os2:=⟨zqz a.1 c.1,fun id hi A hl=>by
 obtain⟨B,h1,h2⟩:=c.2 id (zqu hi a.1) A hl;obtain⟨L0,h3,h4⟩:=a.2 id hi B h1;grind⟩
def Wk(os os':List PO):Prop:=os'.length=os.length/\∀j:Nat,os'[j]?=os[j]?\/∃p i o,os[j]?=zs (.sub p i o)/\os'[j]?=zs .dead
theorem Wk.row(w:Wk os os'){r k sz:Nat}{es:List AV}:os'[r]?=zs (.row k es sz)↔os[r]?=zs (.row k es sz):=by
 rcases w.2 r with e|⟨p,i,o,e1,e2⟩
 . rw[e]
 grind
theorem Wk.map(w:Wk os os'){r:Nat}{es:List (AV×AV)}:os'[r]?=zs (.mapo es)↔os[r]?=zs (.mapo es):=by
 rcases w.2 r with e|⟨p,i,o,e1,e2⟩
 . rw[e]
 grind
theorem Wk.rt(w:Wk os os')(r:Nat):isRt os' r=isRt os r:=by
 unfold isRt;rcases w.2 r with e|⟨p,i,o,e1,e2⟩
 . rw[e]
 grind
theorem Wk.raw(w:Wk os os')(r:Nat):rawAt os' r=rawAt os r:=by
 unfold rawAt;rcases w.2 r with e|⟨p,i,o,e1,e2⟩
 . rw[e]
 grind
theorem Wk.lo(w:Wk os os'):∀(n id:Nat)(L:List Nat),loP os' n id=zs L->loP os n id=zs L
 |0,_,_,e=>by cases e
 |n + 1,id,L,e=>by
  unfold loP at e|-;rcases w.2 id with e1|⟨p,i,o,e1,e2⟩
  . rw [e1]at e
    cases B:os[id]? with
    |none=>rw[B]at e;cases e
    |some q=>
     rw[B]at e;cases q with
     |sub p i o=>
      simp only at e|-;cases A:loP os' n p with
      |none=>rw[A]at e;cases e
      |some C=>rw[A]at e;rw[Wk.lo w n p C A];exact e
     |dead=>cases e
     |_=>exact e
  . rw[e2]at e;cases e
theorem Wk.keep(w:Wk os os'):Keep' ow os ow os':=⟨Nat.le_of_eq w.1.symm,fun id _ L' hl=>⟨L',w.lo 6 id L' hl,fun _=>.rfl⟩⟩
theorem PT.wk{R:AV->AV->Prop}(s:PT R Z ow h os)(w:Wk os os'):PT R Z ow h os':=by
 refine⟨fun r es sz A=>s.row r es sz (w.row.1 A),fun r k es sz A B=>?_,fun r es A=>s.map r es (w.map.1 A),s.inj,fun a L ha=>?_,s.zb,fun j p i o C=>?_⟩
 . obtain⟨c,ces,A⟩:=s.raw r k es sz (w.row.1 A) B
   grind
 . obtain⟨h1,h2,r,t,G,H⟩:=s.live a L ha
   exact⟨h1,h2,r,t,G,by rw[w.rt];exact H⟩
 . rcases w.2 j with e|⟨p',i',o',e1,e2⟩
   . rw[e]at C;rw[w.1];exact s.sb j p i o C
   grind
theorem Js(os:List PO)(r:Nat)(keep:List Nat):∀(l:List PO)(j i:Nat),(Y3 os r keep j l)[i]?=(l[i]?).map fun e=>match e with | .sub p a o=>if rootOf os 6 (j+i)=r/\¬(j+i)∈keep then .dead else .sub p a o|e=>e
 |[],j,i=>by simp[Y3]
 |e::l,j,0=>rfl
 |e::l,j,i+1=>by
  show(Y3 os r keep (j+1) l)[i]?=(l[i]?).map _
  rw[Js os r keep l (j+1) i,show j+1+i=j+(i+1) by omega]
theorem Ue(os:List PO)(r:Nat)(keep:List Nat):∀(l:List PO)(j:Nat),(Y3 os r keep j l).length=l.length
 |[],_=>rfl
 |e::l,j=>by show(Y3 os r keep (j+1) l).length+1=l.length+1;rw[Ue]
theorem Uf(os:List PO)(r:Nat)(keep:List Nat):Wk os (killP os r keep):=by
 refine⟨Ue _ _ _ _ _,fun j=>?_⟩;unfold killP;rw[Js,zqv];grind
theorem killP_sub{r j p i o:Nat}{keep:List Nat}(h:(killP os r keep)[j]?=zs (.sub p i o)):rootOf os 6 j≠r\/j∈keep:=by
 unfold killP at h;rw[Js,zqv]at h;grind
theorem Gs(os:List PO)(r:Nat)(keep:List Nat)(id:Nat):∀(l:List PO)(j i:Nat),(j3 os r keep id j l)[i]?=(l[i]?).map fun e=>match e with | .sub p a o=>if rootOf os 6 (j+i)=r/\¬(j+i)∈keep then(bif sibl os 6 id (.sub p a o)then .sub p a o else .dead)else .sub p a o|e=>e
 |[],j,i=>by simp[j3]
 |e::l,j,0=>rfl
 |e::l,j,i+1=>by
  show(j3 os r keep id (j+1) l)[i]?=(l[i]?).map _
  rw[Gs os r keep id l (j+1) i,show j+1+i=j+(i+1) by omega]
theorem Pa(os:List PO)(r:Nat)(keep:List Nat)(id:Nat):∀(l:List PO)(j:Nat),(j3 os r keep id j l).length=l.length
 |[],_=>rfl
 |e::l,j=>by show(j3 os r keep id (j+1) l).length+1=l.length+1;rw[Pa]
theorem fU(os:List PO)(id:Nat):Wk os (killS os id):=by
 refine⟨Pa _ _ _ _ _ _,fun j=>?_⟩;unfold killS;rw[Gs,zqv];cases he:os[j]? with
 |none=>exact .inl rfl
 |some e=>
  cases e with
  |sub p i o=>
   simp only[Option.map_some];split
   . cases sibl os 6 id (.sub p i o)with
     |true=>exact .inl rfl
     |false=>exact .inr ⟨p,i,o,rfl,rfl⟩
   . exact .inl rfl
  |_=>exact .inl rfl
theorem killS_sub{id j p i o:Nat}(h:(killS os id)[j]?=zs (.sub p i o)):rootOf os 6 j≠rootOf os 6 id\/j∈chainOf os 6 id\/(os[j]?=zs (.sub p i o)/\sibl os 6 id (.sub p i o)=zt):=by
 unfold killS at h;rw[Gs,zqv]at h;cases B:os[j]? with
 |none=>rw[B]at h;cases h
 |some e=>
  rw[B]at h;cases e with
  |sub G i' o'=>
   simp only[Option.map_some]at h;split at h
   . cases A:sibl os 6 id (.sub G i' o')with
     |true=>rw[A]at h;cases h;exact .inr (.inr ⟨rfl,A⟩)
     |false=>rw[A]at h;cases h
   . rename_i hn
     by_cases e:rootOf os 6 j=rootOf os 6 id
     . exact .inr (.inl (Classical.byContradiction fun C=>hn ⟨e,C⟩))
     . exact .inl e
  |_=>cases h
theorem loP_app{ps:List PO}(A:∀(j:Nat) p i o,os[j]?=zs (.sub p i o)->p<os.length):∀(n id:Nat),id<os.length->loP (os++ps) n id=loP os n id
 |0,_,_=>rfl
 |n+1,id,hi=>by
  unfold loP;rw[List.getElem?_append_left hi];cases B:os[id]? with
  |none=>rfl
  |some q=>
   cases q with
   |sub p i o=>simp only[loP_app A n p (A id p i o B)]
   |_=>rfl
theorem Mf{ps:List PO}(hsb:∀(j:Nat) p i o,os[j]?=zs (.sub p i o)->p<os.length)(ho:∀id<os.length,∀L,loP os 6 id=zs L->∀c,ow c=zs L↔ow' c=zs L):Keep' ow os ow' (os++ps):=
 ⟨by simp,(by grind[Go.AM.loP_app])⟩
theorem Ug{ps:List PO}{r:Nat}(hr:isRt os r=zt):isRt (os++ps) r=zt:=by
 grind[isRt]
theorem isRt_lt{r:Nat}(hr:isRt os r=zt):r<os.length:=by
 grind[isRt]
theorem PT.subs{R:AV->AV->Prop}(s:PT R Z ow h os){ps:List PO}(H:∀e∈ps,∃p i o,e=.sub p i o/\p<os.length):PT R Z ow h (os++ps)/\Keep' ow os ow (os++ps):=by
 have keep:Keep' ow os ow (os++ps):=Mf s.sb fun _ _ _ _ _=>.rfl
 have B:∀{r:Nat}{e:PO},(os++ps)[r]?=zs e->os[r]?=zs e\/∃p i o,e=.sub p i o/\p<os.length:=fun{r e} A=>by
  rw[zql]at A;split at A
  . grind
  . exact .inr (H e (zqe A))
 refine⟨⟨fun r es sz A=>?_,fun r k es sz A C=>?_,fun r es A=>?_,s.inj,fun a L ha=>?_,s.zb,fun j p i o G=>?_⟩,keep⟩
 . rcases B A with A|⟨_,_,_,e,_⟩
   . exact s.row r es sz A
   . cases e
 . rcases B A with A|⟨_,_,_,e,_⟩
   . obtain⟨c,ces,A⟩:=s.raw r k es sz A C
     grind
   . cases e
 . rcases B A with A|⟨_,_,_,e,_⟩
   . exact s.map r es A
   . cases e
 . obtain⟨h1,h2,r,t,h3,h4⟩:=s.live a L ha
   grind[Ug]
 . rw[zqq]
   rcases B G with G|⟨_,_,_,e,h⟩
   . have:=s.sb j p i o G;omega
   grind
end
section
variable {E:Env}{Z Z':Nat->Prop}{ow ow':Nat->Option (List Nat)}{h h':Heap}{K K':PK}{os os':List PO}{x y:AV}{L M:List Nat}
def VL(Z:Nat->Prop)(ow:Nat->Option (List Nat))(h:Heap)(os:List PO)(xs ys:List AV):Prop:=xs.length=ys.length/\∀(i:Nat) x y,xs[i]?=zs x->ys[i]?=zs y->VR Z ow h os x y
theorem VL.nil:VL Z ow h os [] []:=⟨rfl,fun i x y A=>by simp at A⟩
theorem VL.cons{xs ys:List AV}(a:VR Z ow h os x y)(l:VL Z ow h os xs ys):VL Z ow h os (x::xs) (y::ys):=⟨by simp[l.1],fun i u v A B=>by
 cases i with
 |zero=>grind
 |succ i=>exact l.2 i u v A B⟩
theorem VL.inv{xs ys:List AV}{u v:AV}(l:VL Z ow h os (u::xs) (v::ys)):VR Z ow h os u v/\VL Z ow h os xs ys:=⟨l.2 0 u v rfl rfl,by have:=l.1;grind,fun i x y A B=>l.2 (i+1) x y A B⟩
theorem VL.app{xs ys us vs:List AV}(a:VL Z ow h os xs ys)(b:VL Z ow h os us vs):VL Z ow h os (xs++us) (ys++vs):=⟨by simp[a.1,b.1],fun i u v A B=>by
 rw[zql]at A B;rw[a.1]at A;split at A
 . rename_i e;rw[if_pos e]at B;exact a.2 i u v A B
 . rename_i e;rw[if_neg e]at B;exact b.2 _ u v A B⟩
theorem VL.keep{xs ys:List AV}(a:VL Z ow h os xs ys)(hZ:∀id,Z id->Z' id/\h'.get id=h.get id)(A:Keep' ow os ow' os'):VL Z' ow' h' os' xs ys:=⟨a.1,fun i x y B C=>(a.2 i x y B C).keep hZ A⟩
theorem VR.agL{xs ys:List AV}(l:VL Z ow h os xs ys):VR Z ow h os (.agg xs) (.agg ys):=.agg l.1 l.2
theorem VR.agI{ys:List AV}(v:VR Z ow h os x (.agg ys)):∃xs,x=.agg xs/\VL Z ow h os xs ys:=by
 cases v with
 |fz f=>cases f with|agg h1 h2 h3=>exact⟨_,rfl,h1,fun i x y A B=>.fz (h2 i x y A B)⟩
 |agg h1 h2=>exact⟨_,rfl,h1,h2⟩
theorem VR.fzc(v:VR Z ow h os x y)(hc:clo y=zt):Fz Z h x y:=by
 cases v with
 |fz f=>exact f
 |_=>cases hc
theorem VR.isI{k:IntKind}{n:Int}(v:VR Z ow h os x (.int k n)):x=.int k n:=by cases v with|fz f=>cases f;rfl
theorem VR.isB{b:Bool}(v:VR Z ow h os x (.bool b)):x=.bool b:=by cases v with|fz f=>cases f;rfl
theorem VR.isS{s:List UInt8}(v:VR Z ow h os x (.str s)):x=.str s:=by cases v with|fz f=>cases f;rfl
theorem VR.isN(v:VR Z ow h os x .nilsl):x=.nilsl:=by cases v with|fz f=>cases f;rfl
theorem VR.i(k:IntKind)(n:Int):VR Z ow h os (.int k n) (.int k n):=.fz (.int k n)
theorem VR.b(b:Bool):VR Z ow h os (.bool b) (.bool b):=.fz (.bool b)
theorem VR.shape(v:VR Z ow h os x y)(hy:y≠.und):x.cells.length=y.cells.length/\isAg x=isAg y:=by
 cases v with
 |fz f=>exact f.shape
 |und=>grind
 |agg h1 h2=>exact⟨h1,rfl⟩
 |mnil e _ _=>rcases e with rfl|rfl<;>exact⟨rfl,rfl⟩
 |_=>exact⟨rfl,rfl⟩
theorem VR.cells(v:VR Z ow h os x y)(A:y≠.und):VL Z ow h os x.cells y.cells:=by
 cases e:isAg y with
 |true=>
  cases y with
  |agg ys=>obtain⟨xs,rfl,h⟩:=v.agI;exact h
  |_=>cases e
 |false=>rw[C3 e,C3 ((v.shape A).2.trans e)];exact .cons v .nil
theorem Xv(v:Value):VR Z ow h os (Ff v) (Ff v):=by
 cases v with
 |int k n=>exact .i k n
 |bool b=>exact .b b
 |string s=>exact .fz (.str _)
 |pointer a=>cases a<;>first|exact .fz .nilptr|exact .any
 |slice a n c=>
  cases a with
  |some=>exact .any
  |none=>cases n<;>first|exact .any|(cases c<;>first|exact .any|exact .fz .nilsl)
 |map r=>cases r<;>first|exact .fz .nilmap|exact .any
 |nilFunc=>exact .fz .nilfn
 |nilIface=>exact .fz .niliface
 |agg=>exact .und
 |tuple=>exact .und
 |_=>exact .any
theorem vN(v:Value):VR Z ow h os (ofValue v) (ofValue v):=by
 have A:=Xv (Z:=Z) (ow:=ow) (h:=h) (os:=os) v;cases v with
 |agg cs=>
  refine .agg rfl fun i x y hx hy=>?_
  grind[Xv]
 |_=>exact A
structure FrR(Z:Nat->Prop)(ow:Nat->Option (List Nat))(h:Heap)(os:List PO)(nt:Nat)(frc:Tr)(fr:PF):Prop where
 v:∀i,VR Z ow h os (frc.get i) (lookP fr i)
 has:∀i,i<nt->frc.has i=zt
theorem FrR.keep{nt:Nat}{frc:Tr}{fr:PF}(a:FrR Z ow h os nt frc fr)(hZ:∀id,Z id->Z' id/\h'.get id=h.get id)(A:Keep' ow os ow' os'):FrR Z' ow' h' os' nt frc fr:=⟨fun i=>(a.v i).keep hZ A,a.has⟩
theorem FrR.set{nt t:Nat}{frc:Tr}{fr:PF}(a:FrR Z ow h os nt frc fr)(A:t<nt)(v:VR Z ow h os x y):FrR Z ow h os nt (frc.set t x) ((t,y)::fr):=by
 refine⟨fun i=>?_,fun i hi=>by rw[Tr.has_set];exact a.has i hi⟩;show VR Z ow h os _ (if t=i then y else lookP fr i)
 split
 . rename_i e;subst e;rw[Tr.get_set_eq,a.has t A,if_pos rfl];exact v
 . rename_i e;rw[Tr.get_set_ne _ _ _ _ e];exact a.v i
def wU(E:Env):Prop:=∀g v,E.gl g=zs v->∀Z h,Fz Z h v v
theorem Ao(hg:wU E){nt:Nat}{frc:Tr}{fr:PF}(a:FrR Z ow h os nt frc fr)(o:Operand):VR Z ow h os (opv E o frc) (opvP E o fr):=by
 cases o with
 |tmp t=>exact a.v t
 |const v=>exact vN v
 |global g=>
  show VR Z ow h os (match E.gl g with|some v=>.fptr v 0|none=>.any) (match E.gl g with|some v=>.fptr v 0|none=>.any)
  cases e:E.gl g with
  |none=>exact .any
  |some v=>exact .fz (.fptr 0 (hg g v e Z h))
 |func f=>exact .fn rfl (fun i x y A=>by simp at A) rfl (fun i x y A=>by simp at A)
theorem Hj(hg:wU E){nt:Nat}{frc:Tr}{fr:PF}(a:FrR Z ow h os nt frc fr):∀l:List Operand,VL Z ow h os (opvs E l frc) (opvL E l fr)
 |[]=>.nil
 |o::l=>.cons (Ao hg a o) (Hj hg a l)
theorem Q8{t:TI}(hd:r7 t.desc=zf)(cs:List AV)(o:Nat):partOf t cs o=cs[o]?:=by
 grind[partOf,R2]
theorem b9{t:TI}(hd:r7 t.desc=zt)(cs:List AV)(o:Nat):partOf t cs o=if o+t.size<=cs.length then zs (.agg ((cs.drop o).take t.size))else znq:=by
 simp_all[partOf,A3,G4,G3]
theorem Hk{α:Type}{h:Heap}{id:Nat}{es:List AV}{sz:Nat}{d:α}{f:List AV->Nat->α}(hg:h.get id=zs (.row es sz)):h.onRow id d f=f es sz:=by
 grind[Heap.onRow]
theorem bP{id i o sz:Nat}{es:List AV}{x:AV}(hg:h.get id=zs (.row es sz))(A:es[i]?=zs x)(t:TI):Fj t (.ptr id i o) h=partOf t x.cells o:=by
 show h.onRow id znq (fun es _=>A4 (Fg es i) fun v=>partOf t v.cells o)=_
 rw[Hk hg,R2,A];rfl
theorem m9{α:Type}{xs:List α}{off n i:Nat}:((xs.drop off).take n)[i]?=if i<n then xs[off+i]? else znq:=by
 grind
theorem Mg{R:Nat->AV->AV->Prop}{t:TI}{xs ys:List AV}{off:Nat}{w:AV}(hl:xs.length=ys.length)(hr:∀(i:Nat) x y,xs[i]?=zs x->ys[i]?=zs y->R i x y)(B:partOf t ys off=zs w):
 ∃A,partOf t xs off=zs A/\((∃us vs,A=.agg us/\w=.agg vs/\us.length=vs.length/\r7 t.desc=zt/\vs.length=t.size/\off+t.size<=ys.length/\∀(i:Nat) x y,us[i]?=zs x->vs[i]?=zs y->R (off+i) x y)\/(r7 t.desc=zf/\ys[off]?=zs w/\xs[off]?=zs A/\R off A w)):=by
 cases C:r7 t.desc with
 |true=>
  rw[b9 C]at B|-;grind
 |false=>
  rw[Q8 C]at B|-;grind
theorem Fz.part{t:TI}{off:Nat}{w:AV}(f:Fz Z h x y)(B:partOf t y.cells off=zs w):∃A,partOf t x.cells off=zs A/\Fz Z h A w:=by
 obtain⟨A,h1,h2⟩:=Mg (R:=fun _ a b=>Fz Z h a b/\AM.clo b=zt) f.shape.1 (fun i a b ha hb=>f.cell ha hb) B;refine⟨A,h1,?_⟩;rcases h2 with⟨us,vs,rfl,rfl,H,_,_,_,J⟩|⟨_,_,_,N,_⟩
 . refine .agg H (fun i x y C G=>(J i x y C G).1) (zqf.2 fun b hb=>?_)
   grind[zqi]
 . exact N
theorem kC(w:AV):O6 w w.cells=w:=by
 cases w<;>rfl
theorem Mh:∀(n id:Nat)(L:List Nat),loP os n id=zs L->loP os (n+1) id=zs L
 |0,_,_,e=>by cases e
 |n + 1,id,L,e=>by
  unfold loP at e|-;cases C:os[id]? with
  |none=>grind
  |some q=>
   rw[C]at e;cases q with
   |sub p i o=>
    simp only at e|-;cases A:loP os n p with
    |none=>grind
    |some B=>rw[A]at e;rw[Mh n p B A];exact e
   |dead=>cases e
   |_=>exact e
theorem Jt(id i:Nat):∀(o nx:Nat)(ys:List AV),(∀b∈ys,Ev b=zt\/b=.und)->openC id i o nx ys=(ys,[])
 |_,_,[],_=>rfl
 |o,nx,c::l,hb=>by
  have hc:ownOf c=znq:=by
   cases e:ownOf c with
   |none=>rfl
   |some t=>
    obtain⟨k,es,sz⟩:=t
    have:=An e
    subst this;rcases hb _ (zqh ..)with h|h
    . cases h
    grind[Ud]
  unfold openC;rw[hc];simp only[Jt id i (o+1) nx l (by grind)]
theorem Uh{id i:Nat}(G:∀O,loP os 5 id=zs O->O=L):∀(ys xs:List AV)(o nx:Nat),xs.length=ys.length->(∀(j:Nat) a b,xs[j]?=zs a->ys[j]?=zs b->CR Z ow h (L++[i,o+j]) a b) ->
 (∀(m:Nat) e,(openC id i o nx ys).2[m]?=zs e->os[nx+m]?=zs e)->VL Z ow h os xs (openC id i o nx ys).1/\(∀e∈(openC id i o nx ys).2,∃q,e=.sub id i q)
 |[],xs,o,nx,hl,_,_=>by
  have:xs=[]:=(by grind)
  subst this;exact⟨.nil,fun e N=>by cases N⟩
 |c::ys,[],o,nx,hl,_,_=>by simp at hl
 |c :: ys,a::xs,o,nx,hl,hr,hos=>by
  have H:=hr 0 a c rfl rfl;have J:∀(j:Nat) u v,xs[j]?=zs u->ys[j]?=zs v->CR Z ow h (L++[i,o+1+j]) u v:=fun j u v Q U=>by
   have:=hr (j+1) u v Q U
   grind
  unfold openC at hos|-;cases e:ownOf c with
  |none=>
   rw[e]at hos;have ih:=Uh G ys xs (o+1) nx (by simpa using hl) J hos;refine⟨.cons ?_ ih.1,ih.2⟩;cases H with
   |val f _ _=>exact .fz f
   |und=>exact .und
   |_=>cases e
  |some t=>
   obtain⟨k,es,sz⟩:=t
   have:=An e
   subst this;rw[e]at hos;simp only at hos|-;have h0:os[nx]?=zs (.sub id i o):=by simpa using hos 0 _ rfl
   have B:nx<os.length:=(zqb.1 h0).1;have ih:=Uh G ys xs (o+1) (nx+1) (by simpa using hl) J fun m e N=>by
    have:=hos (m+1) e N
    grind
   refine⟨.cons ?_ ih.1,fun e N=>?_⟩
   . have hL:∀L',loP os 6 nx=zs L'->L'=L++[i,o]:=fun L' A=>by
      unfold loP at A;rw[h0]at A;simp only at A;cases hp:loP os 5 id with
      |_=>grind
     rcases H.inv with⟨rfl,rfl,e1,e2⟩|⟨C,ces,rfl,h1,_⟩
     . exact .mnil e1 (fun L' A c hc=>e2 c [] (by grind)) B
     . have h1':ow C=zs (L++[i,o]):=by grind
       have V:VR Z ow h os (.ptr C 0 0) (.ptr nx 0 0):=.ptr (by grind) B;have a2:VR Z ow h os (.msl C 0 es.length sz) (.msl nx 0 es.length sz):=.msl (by grind) B;rcases k with _|_|k
       . exact a2
       . exact V
       . exact a2
   grind
theorem fV(s:F7 Z ow h K.os){t:TI}{p v pc:AV}(hp:VR Z ow h K.os pc p)(hl:loadP t p K=zs (v,K')):
 ∃vc,Fj t pc h=zs vc/\F7 Z ow h K'.os/\Keep' ow K.os ow K'.os/\VR Z ow h K'.os vc v/\K'.ext=K.ext/\K'.tch=K.tch/\∃ps,K'.os=K.os++ps/\∀e∈ps,∃a b c,e=.sub a b c:=by
 cases p with
 |fptr v0 off=>
  have hl:(partOf t v0.cells off).map (·,K)=zs (v,K'):=hl;cases hq:partOf t v0.cells off with
  |none=>rw[hq]at hl;cases hl
  |some w=>
   rw[hq]at hl;cases hl;cases hp with
   |fz f=>
    cases f with
    |fptr o f1=>
     obtain⟨B,h1,h2⟩:=f1.part hq;exact⟨B,h1,s,.refl _ _,.fz h2,rfl,rfl,[],by simp,by simp⟩
    |pview hz hg hi f1=>
     obtain⟨B,h1,h2⟩:=f1.part hq;exact⟨B,(bP hg hi t).trans h1,s,.refl _ _,.fz h2,rfl,rfl,[],by simp,by simp⟩
 |ptr id i off=>
  unfold loadP at hl;simp only at hl;cases hr:rowOf K.os 6 id with
  |none=>rw[hr]at hl;cases hl
  |some q=>
   obtain⟨k,es,sz⟩:=q;rw[hr]at hl;simp only at hl;cases hi:es[i]? with
   |none=>rw[hi]at hl;cases hl
   |some e=>
    rw[hi]at hl;simp only at hl;cases hw:partOf t e.cells off with
    |none=>rw[hw]at hl;cases hl
    |some w=>
     rw [hw]at hl;have hl:=Option.some.inj hl;obtain⟨L,ae,hc⟩:=s.get 6 id k es sz hr;obtain⟨c,rfl,ac,af⟩:∃c,pc=.ptr c i off/\ow c=zs L/\id<K.os.length:=by
      cases hp with
      |fz f=>cases f
      |ptr a b=>exact⟨_,rfl,a L ae,b⟩
     rcases hc with⟨_,rfl,c0,ces,A⟩|⟨_,x0,ag⟩
     . have:c=c0:=s.inj _ _ _ ac A.o
       subst this;have Q:i<ces.length:=by rw[A.sh.1];exact(zqb.1 hi).1
       have C:=zqd Q;have H:=A.sh.2 i _ e C hi;obtain⟨B,h1,h2⟩:=Mg (R:=fun _ a b=>VR Z ow h K.os a b/\(Ev b=zt\/b=.und)) (H.1.trans H.2.1.symm) (fun o a b ha hb=>⟨A.vr i _ e C hi o a b ha hb,A.okp i e hi b (zqe hb)⟩) hw;have X:∀b∈w.cells,Ev b=zt\/b=.und:=by
        rcases h2 with⟨us,vs,rfl,rfl,O,_,_,_,h4⟩|⟨_,h5,_,V⟩
        . intro b hb
          obtain⟨j,hj⟩:=zqi hb;have ad:j<us.length:=by rw[O];exact(zqb.1 hj).1
          exact(h4 j _ b (zqd ad) hj).2
        . intro b hb
          have Y:isAg w=zf:=by rcases V.2 with h|h<;>cases w<;>first|rfl|cases h
          rw[C3 Y]at hb;rw[zqo.1 hb];exact V.2
       have e1:Uc id i off w K=(w,K):=by
        unfold Uc;rw[Jt id i off _ _ X,kC];simp
       rw[e1]at hl;cases hl;refine⟨B,(bP A.get C t).trans h1,s,.refl _ _,?_,rfl,rfl,[],by simp,by simp⟩;rcases h2 with⟨us,vs,rfl,rfl,O,_,_,_,h4⟩|⟨_,h5,_,V⟩
       . exact .agg O fun j x y hx hy=>(h4 j x y hx hy).1
       . exact V.1
     . rcases ag.inv with⟨_,e2,_⟩|⟨c0,ces,_,h1,h2,O,hs,_,h5⟩
       . subst e2;simp at hi
       have:c=c0:=s.inj _ _ _ ac h1
       subst this;have Q:i<ces.length:=by rw[hs.1];grind
       have C:=zqd Q;have H:=hs.2 i _ e C hi;obtain⟨B,g1,g2⟩:=Mg (R:=fun o a b=>CR Z ow h (L++[i,o]) a b) (H.1.trans H.2.1.symm) (by grind) hw;by_cases hu:w=.und
       . subst hu
         have e1:Uc id i off .und K=(.und,K):=by
          unfold Uc;rw[Jt id i off _ _ (fun b hb=>.inr (by simpa using zqo.1 hb))];simp[O6];rfl
         rw[e1]at hl;cases hl;exact⟨B,(bP O C t).trans g1,s,.refl _ _,.und,rfl,rfl,[],by simp,by simp⟩
       have hcell:B.cells.length=w.cells.length/\isAg B=isAg w/\∀(j:Nat) a b,B.cells[j]?=zs a->w.cells[j]?=zs b->CR Z ow h (L++[i,off+j]) a b:=by
        rcases g2 with⟨us,vs,rfl,rfl,O,_,_,_,h4⟩|⟨_,h5',h6',V⟩
        . exact⟨O,rfl,h4⟩
        . have U:=V.shape hu
          have aa:isAg w=zf:=by
           cases V with
           |val f e=>exact(f.shape.2).symm.trans U
           |und=>grind
           |_=>rfl
          rw[C3 aa,C3 U];refine⟨rfl,U.trans aa.symm,fun j a b ha hb=>?_⟩;grind
       obtain ⟨q1,q2,q3⟩:=hcell;have ab:∀L1,loP (K.os++(openC id i off K.os.length w.cells).2) 5 id=zs L1->L1=L:=fun L1 h1=>by
        rw[loP_app s.sb 5 id af]at h1;grind[Mh]
       have N:=Uh (os:=K.os++(openC id i off K.os.length w.cells).2) (Z:=Z) (ow:=ow) (h:=h) ab w.cells B.cells off K.os.length q1 q3 fun m e he=>by
        simp_all[List.getElem?_append_right]
       have J:=s.subs (ps:=(openC id i off K.os.length w.cells).2) fun e he=>by
        obtain⟨q,rfl⟩:=N.2 e he;grind
       cases hl;refine⟨B,(bP O C t).trans g1,F7.to J.1 (fun _ hz=>⟨hz,rfl⟩) J.2,J.2,?_,rfl,rfl,_,rfl,fun e he=>by
        obtain⟨q,rfl⟩:=N.2 e he;grind⟩
       show VR Z ow h (K.os++(openC id i off K.os.length w.cells).2) B (O6 w (openC id i off K.os.length w.cells).1)
       cases G:isAg w with
       |true=>
        cases w with
        |agg ws=>
         cases B with
         |agg us=>exact .agL N.1
         |_=>rw[G]at q2;cases q2
        |_=>cases G
       |false=>
        have k1:=N.1;rw[C3 G,C3 (q2.trans G)]at k1;rw[C3 G]
        have:∀vs:List AV,VL Z ow h (K.os++(openC id i off K.os.length [w]).2) [B] vs->VR Z ow h (K.os++(openC id i off K.os.length [w]).2) B (O6 w vs):=fun vs hv=>by
         cases vs with
         |nil=>have:=hv.1;simp at this
         |cons v vs=>cases w<;>first|exact hv.inv.1|cases G
        grind
 |_=>cases hl
end
theorem Q3{v:AV}{off:Nat}{ncs:List AV}(hf:off+ncs.length<=v.cells.length)(hn:0<ncs.length)(ha:∀c∈ncs,isAg c=zf):(v.withCells off ncs).cells=lsplice v.cells off ncs/\isAg (v.withCells off ncs)=isAg v:=by
 cases A:isAg v with
 |true=>
  cases v with
  |agg cs=>exact⟨U4 cs off ncs,rfl⟩
  |_=>cases A
 |false=>
  have e1:=C3 A;rw[e1]at hf|-;simp at hf;cases ncs with
  |nil=>simp at hn
  |cons x r=>
   simp at hf;have B:r=[]:=zqm (by omega);subst B;have ho:off=0:=by grind
   subst ho;have hx:=ha x (zqh ..);have e2:v.withCells 0 [x]=x:=by cases v<;>first|rfl|cases A
   grind[lsplice,C3]
theorem j7{α:Type}{l us:List α}{p j:Nat}(h:p+us.length<=l.length):(lsplice l p us)[j]?=if p<=j/\j<p+us.length then us[j-p]? else l[j]?:=by
 grind[lsplice]
section
variable {E:Env}{Z Z':Nat->Prop}{ow ow':Nat->Option (List Nat)}{h h':Heap}{K K':PK}{os os':List PO}{x y:AV}{L M:List Nat}
theorem VR.okc(v:VR Z ow h os x y)(A:Ev y=zt):okCell x=zt:=by
 cases v with
 |fz f=>
  cases f with
  |agg=>cases A
  |emp e=>cases e<;>rfl
  |_=>rfl
 |und=>cases A
 |mnil e _ _=>rcases e with rfl|rfl<;>rfl
 |agg=>cases A
 |tup=>cases A
 |_=>rfl
theorem clo_okP{y:AV}(A:clo y=zt):Ev y=zt:=by cases y<;>first|rfl|cases A
theorem nF{y:AV}(A:clo y=zt):isAg y=zf:=by cases y<;>first|rfl|cases A
theorem zH{y:AV}(A:Ev y=zt):isAg y=zf:=by cases y<;>first|rfl|cases A
theorem okCell_nag{y:AV}(A:okCell y=zt):isAg y=zf:=by cases y<;>first|rfl|cases A
theorem store_g{id i sz off:Nat}{es:List AV}{e v:AV}{t:TI}(hg:h.get id=zs (.row es sz))(A:es[i]?=zs e)(h1:v.cells.length=t.size)(h2:0<t.size)(B:off+t.size<=sz)(C:∀c∈v.cells,okCell c=zt):Dn t (.ptr id i off) v h=zs (h.set id (.row (es.set i (e.withCells off v.cells)) sz)):=by
 show h.onRow id znq (Rf t id i off v.cells h)=_
 rw[Hk hg];show A4 (Fg es i) (fun old=>A9 (Nat.beq (lenL v.cells) t.size&&Nat.blt 0 t.size&&Nat.ble (Nat.add off t.size) sz&&D1 v.cells) (zs (h.set id (.row (setL es i (old.withCells off v.cells)) sz))))=_
 rw[R2,A,A3,h1,Nat.beq_refl,(G0 _).2 C];simp only[Bd];have e1:Nat.blt 0 t.size=zt:=zqw h2;have e2:Nat.ble (Nat.add off t.size) sz=zt:=zqw B;rw[e1,e2];rfl
theorem cF.set{sz i off:Nat}{ces es ncs A:List AV}{a e:AV}(G:cF sz ces es)(ha:ces[i]?=zs a)(H:es[i]?=zs e)(hf:off+A.length<=sz)(hl:ncs.length=A.length)(hn:0<A.length)(h1:∀c∈ncs,isAg c=zf)(h2:∀c∈A,isAg c=zf):
 cF sz (ces.set i (a.withCells off ncs)) (es.set i (e.withCells off A)):=by
 have h0:=G.2 i a e ha H;have w1:=Q3 (v:=a) (off:=off) (ncs:=ncs) (by omega) (by omega) h1;have w2:=Q3 (v:=e) (off:=off) (ncs:=A) (by omega) hn h2;refine⟨by simp[G.1],fun j x y B C=>?_⟩;rw[zqc]at B C;by_cases J:i=j
 . subst J
   rw[if_pos rfl,if_pos (zqb.1 ha).1]at B;rw[if_pos rfl,if_pos (zqb.1 H).1]at C;grind[R9]
 . rw[if_neg J]at B C;exact G.2 j x y B C
theorem Xw{R:Nat->Nat->AV->AV->Prop}{sz i off:Nat}{ces es ncs A:List AV}{a e:AV}(N:cF sz ces es)(ha:ces[i]?=zs a)(J:es[i]?=zs e)(hf:off+A.length<=sz)(hl:ncs.length=A.length)(hn:0<A.length)(h1:∀c∈ncs,isAg c=zf)(h2:∀c∈A,isAg c=zf)
 (hold:∀(j:Nat) x y,ces[j]?=zs x->es[j]?=zs y->∀(o:Nat) u w,(j=i->o<off\/off+A.length<=o)->x.cells[o]?=zs u->y.cells[o]?=zs w->R j o u w)(hnew:∀(o:Nat) u w,ncs[o]?=zs u->A[o]?=zs w->R i (off+o) u w):
 ∀(j:Nat) x y,(ces.set i (a.withCells off ncs))[j]?=zs x->(es.set i (e.withCells off A))[j]?=zs y->∀(o:Nat) u w,x.cells[o]?=zs u->y.cells[o]?=zs w->R j o u w:=by
 have h0:=N.2 i a e ha J;have O:=Q3 (v:=a) (off:=off) (ncs:=ncs) (by omega) (by omega) h1;have Q:=Q3 (v:=e) (off:=off) (ncs:=A) (by omega) hn h2;intro j x y G H o u w B C;rw[zqc]at G H;by_cases U:i=j
 . subst U
   rw[if_pos rfl,if_pos (zqb.1 ha).1]at G;rw[if_pos rfl,if_pos (zqb.1 J).1]at H;cases G;cases H;rw[O.1,j7 (by omega)]at B;rw[Q.1,j7 (by omega)]at C;rw[hl]at B;split at B
   . rename_i hc
     rw[if_pos hc]at C
     have:=hnew (o-off) u w B C
     simp_all
   . rename_i hc
     rw[if_neg hc]at C;grind
 grind
theorem Stp.store{b c:Nat}{os1:List PO}{r:Nat}{t:List Nat}{ob:AObj}{R:AV->AV->Prop}(s:PT R Z ow h K.os)(hc:ow c=zs (r::t))(hlen:isRt K.os r=zt)
 (h1:∀id L,ow' id=zs L->id<h.next->ow id≠znq)(h2:∀id q t,ow id=zs (q::t)->q<K.ext->(∃t',ow' id=zs (q::t'))\/q=r)(h3:∀j,j<K.ext->∀c,isRt os1 j=zt->(ow c=zs [j]↔ow' c=zs [j]))(h4:∀j,j<K.ext->isRt os1 j=zt->isRt K.os j=zt):
 Stp b Z ow h K Z ow' (h.set c ob) {K with os:=os1,tch:=r::K.tch}:=by
 have hne:∀id,ow id=znq->id≠c:=(by grind)
 refine⟨zqt _,fun id hz=>⟨hz,Heap.get_set_ne _ _ fun e=>?_⟩,fun id hz=>.inl hz,(by grind[Go.AM.Heap.get_set_ne]),h1,⟨[c],rfl,fun id hi=>?_⟩,fun id q t' ho A=>?_,fun q A _=>zqr _ A,rfl,h3,h4⟩
 . subst e;exact(s.live _ _ hc).2.1 hz
 . grind
 grind
end
section
variable {E:Env}{Z Z':Nat->Prop}{ow ow':Nat->Option (List Nat)}{h h':Heap}{K K':PK}{os os':List PO}{x y:AV}{L M:List Nat}
theorem loP_uniq{n m id:Nat}{L L':List Nat}(h1:loP os n id=zs L)(h2:loP os m id=zs L'):L=L':=by
 have up:∀k n id L,loP os n id=zs L->loP os (n+k) id=zs L:=fun k=>by
  induction k with
  |zero=>grind
  |succ k ih=>grind[Mh]
 have a:=up m n id L h1;grind
theorem Ns{j:Nat}{B:List Nat}(h1:loP os 6 j=zs B):∀(n id:Nat)(L:List Nat),loP os n id=zs L->j∈chainOf os n id->B.length<=L.length
 |0,_,_,e,_=>by cases e
 |n + 1,id,L,e,A=>by
  unfold chainOf at A;rcases List.mem_cons.1 A with rfl|A
  . rw[loP_uniq h1 e];grind
  . unfold loP at e
    cases H:os[id]? with
    |none=>grind
    |some q=>
     rw[H]at A e;cases q with
     |sub p i o=>
      simp only at A e;cases C:loP os n p with
      |none=>grind
      |some G=>
       rw[C]at e;cases e
       have:=Ns h1 n p G C A
       simp;omega
     |_=>cases A
theorem kill_alive{id j:Nat}{L B t:List Nat}(A:loP os 6 id=zs L)(h1:loP (killP os (rootOf os 6 id) (chainOf os 6 id)) 6 j=zs B)(hne:t≠[]):¬Und (L++t) B:=by
 rintro⟨u,rfl⟩
 have w:=Uf os (rootOf os 6 id) (chainOf os 6 id);have h2:=w.lo 6 j _ h1;obtain⟨t0,hL,_⟩:=H5 6 id L A;have hlen:(L++t++u).length>L.length:=by
  cases t with
  |nil=>grind
  |cons a t=>simp
 have hL0:L.length>0:=by grind
 unfold loP at h1;cases C:(killP os (rootOf os 6 id) (chainOf os 6 id))[j]? with
 |none=>grind
 |some q=>
  rw[C]at h1;cases q with
  |dead=>cases h1
  |sub p i o=>
   rcases killP_sub C with h|h
   . obtain⟨t1,h3,_⟩:=H5 6 j _ h2
     grind
   . have:=Ns h2 6 id L A h
     omega
  |_=>grind
theorem Ui{j p i o:Nat}{G:List Nat}:∀(n id:Nat)(L:List Nat),sibl os n id (.sub p i o)=zt->loP os n id=zs L->loP os 6 j=zs G->os[j]?=zs (.sub p i o)->∀t,¬Und (L++t) G
 |0,_,_,hs,_,_,_,_=>by cases hs
 |n + 1,id,L,hs,hlo,h1,hj,t=>by
  unfold sibl at hs;unfold loP at hlo;cases N:os[id]? with
  |none=>rw[N]at hs;cases hs
  |some e=>
   rw[N]at hs hlo;cases e with
   |sub q i' o'=>
    simp only at hs hlo;cases C:loP os n q with
    |none=>rw[C]at hlo;cases hlo
    |some O=>
     rw[C]at hlo;cases hlo;rcases Bool.or_eq_true _ _▸hs with h|h
     . unfold OF at h
       simp only[Bool.and_eq_true,beq_iff_eq,Bool.or_eq_true,bne_iff_ne]at h;obtain⟨rfl,A⟩:=h;unfold loP at h1;rw[hj]at h1;simp only at h1;cases J:loP os 5 p with
       |none=>rw[J]at h1;cases h1
       |some B=>
        rw[J]at h1;have e1:B++[i,o]=G:=Option.some.inj h1;subst e1;obtain rfl:=loP_uniq J C;intro H;have H:Und ((B++[i',o'])++t) (B++[i,o]):=H
        have:=Me (L:=B) (i:=i') (o:=o') (i':=i) (o':=o) (t:=t) (q:=[]) (by rw[List.append_nil];exact H)
        rcases A with A|A
        . exact A this.1.symm
        . exact A this.2.symm
     . rw[List.append_assoc]
       exact Ui n q O h C h1 hj _
   |_=>cases hs
theorem fW{id j:Nat}{L H t:List Nat}(A:loP os 6 id=zs L)(h1:loP (killS os id) 6 j=zs H)(C:t≠[]):¬Und (L++t) H:=by
 rintro⟨u,rfl⟩
 have w:=fU os id;have h2:=w.lo 6 j _ h1;obtain⟨t0,hL,_⟩:=H5 6 id L A;have B:(L++t++u).length>L.length:=by
  cases t with
  |nil=>exact absurd rfl C
  |cons a t=>simp
 have hL0:L.length>0:=by rw[hL];simp
 unfold loP at h1;cases G:(killS os id)[j]? with
 |none=>rw[G]at h1;cases h1
 |some q=>
  rw[G]at h1;cases q with
  |dead=>cases h1
  |sub p i o=>
   rcases killS_sub G with h|h|⟨h,N⟩
   . obtain⟨t1,J,_⟩:=H5 6 j _ h2
     rw[hL]at J
     have:=congrArg List.head? J
     simp at this;exact h this.symm
   . have:=Ns h2 6 id L A h
     omega
   . exact Ui 6 id L N A h2 h (t++u) ⟨[],by simp⟩
  |_=>exact absurd (congrArg zqn (Option.some.inj h1)) (by simp at B|-;omega)
theorem Xx{q:Nat}{e:PO}:∀(n id:Nat),rootOf os n id≠q->(∀p i o,os[q]?≠zs (.sub p i o))->rowOf (os.set q e) n id=rowOf os n id
 |0,_,_,_=>rfl
 |n + 1,id,hne,hq=>by
  unfold rowOf;rw[zqc];by_cases hid:q=id
  . subst hid
    unfold rootOf at hne;grind
  . rw [if_neg hid]
    unfold rootOf at hne;cases B:os[id]? with
    |none=>rfl
    |some A=>
     rw[B]at hne;cases A with
     |sub p i o=>simp only at hne|-;rw[Xx n p hne hq]
     |_=>rfl
theorem Mi:∀(n id k:Nat)(es es':List AV)(sz:Nat)(os':List PO),rowOf os n id=zs (k,es,sz)->setRow os n id es'=zs os'->rowOf os' n id=zs (k,es',sz)
 |0,_,_,_,_,_,_,e,_=>by cases e
 |n + 1,id,k,es,es',sz,os',e,hs=>by
  obtain⟨r,kr,esr,szr,esr',hr,hos,hrt⟩:=setRow_eq _ _ _ _ hs;unfold rowOf at e;unfold setRow at hs;cases J:os[id]? with
  |none=>grind
  |some q=>
   rw[J]at e hs;cases q with
   |row k0 es0 sz0=>
    cases e;cases hs;unfold rowOf;grind
   |sub p i o=>
    have hne:r≠id:=(by grind)
    simp only at e hs;cases H:rowOf os n p with
    |none=>grind
    |some t=>
     obtain⟨kp,A,G⟩:=t;rw[H]at e hs;simp only at e hs;cases hi:A[i]? with
     |none=>grind
     |some v=>
      rw[hi]at e hs;simp only at e hs;cases ho:v.cells[o]? with
      |none=>grind
      |some c=>
       rw[ho]at e hs;simp only at e hs;rw[e]at hs;have ih:=Mi n p kp A _ G os' H hs;unfold rowOf;have hid:os'[id]?=zs (.sub p i o):=by grind
       rw[hid];simp only;rw[ih];simp only;have C:i<A.length:=(zqb.1 hi).1;rw[zqc,if_pos rfl,if_pos C];simp only;have B:=(zqb.1 ho).1;rw[(Oz (c:=ownd k sz es') B rfl).1,zqc,if_pos rfl,if_pos B];rfl
   |_=>cases e
noncomputable def clr(ow:Nat->Option (List Nat))(P:List Nat->Prop):Nat->Option (List Nat):=fun id=>match ow id with
 |some M=>(open Classical in if P M then znq else zs M)
 |none=>znq
theorem clr_some{P:List Nat->Prop}{id:Nat}{M:List Nat}:clr ow P id=zs M↔ow id=zs M/\¬P M:=by
 unfold clr;grind
def AtC(L:List Nat)(i off n:Nat)(M:List Nat):Prop:=∃o,off<=o/\o<off+n/\Und (L++[i,o]) M
theorem Mj{L M:List Nat}{i off n:Nat}(h:AtC L i off n M):Und L M:=by
 obtain⟨o,_,_,t,rfl⟩:=h;exact⟨[i,o]++t,by simp⟩
theorem Gt{L q:List Nat}{i off n i' o':Nat}(h:AtC L i off n (L++[i',o']++q)):i'=i/\off<=o'/\o'<off+n:=by
 obtain⟨o,h1,h2,A⟩:=h
 have:=Me (t:=[]) (by simpa using A)
 omega
theorem CR.cells{k sz i off:Nat}{es ncs A:List AV}{c:Nat}{ces:List AV}{a e:AV}(h1:ow' c=zs L)(h2:c<h'.next)(hg:h'.get c=zs (.row (ces.set i (a.withCells off ncs)) sz))(H:cF sz ces es)(ha:ces[i]?=zs a)(J:es[i]?=zs e)(hf:off+A.length<=sz)(hl:ncs.length=A.length)(hn:0<A.length)(B:∀c∈ncs,isAg c=zf)(C:∀c∈A,isAg c=zf)(hin:CF ow' L es.length sz)
 (hold:∀(j:Nat) x y,ces[j]?=zs x->es[j]?=zs y->∀(o:Nat) u w,(j=i->o<off\/off+A.length<=o)->x.cells[o]?=zs u->y.cells[o]?=zs w->CR Z' ow' h' (L++[j,o]) u w)(hnew:∀(o:Nat) u w,ncs[o]?=zs u->A[o]?=zs w->CR Z' ow' h' (L++[i,off+o]) u w):
 CR Z' ow' h' L (refK k c es.length sz) (ownd k sz (es.set i (e.withCells off A))):=by
 have G:=H.set ha J hf hl hn B C;rw[show es.length=(es.set i (e.withCells off A)).length by simp];exact .own h1 h2 hg G.1 (by grind) G.2 (Xw (R:=fun j o u w=>CR Z' ow' h' (L++[j,o]) u w) H ha J hf hl hn B C hold hnew)
theorem nag_rep{n:Nat}:∀c∈zqa n AV.und,isAg c=zf:=fun c hc=>by rw[(List.mem_replicate.1 hc).2];rfl
theorem PT.forget{R:AV->AV->Prop}(s:PT R Z ow h os){id k i off n:Nat}{es:List AV}{sz:Nat}{e:AV}(hr:rowOf os 6 id=zs (k,es,sz))(G:rawAt os id=zf)(N:loP os 6 id=zs L)(O:es[i]?=zs e)(hf:off+n<=sz)(hn:0<n)
 (halive:∀j B,loP os 6 j=zs B->¬AtC L i off n B)(hset:setRow os 6 id (es.set i (e.withCells off (zqa n .und)))=zs os'):
 PT R Z (clr ow (AtC L i off n)) h os'/\Keep' ow os (clr ow (AtC L i off n)) os'/\(∀o,o<n->rE (clr ow (AtC L i off n)) (L++[i,off+o])):=by
 have d:Dl Z ow h Z (clr ow (AtC L i off n)) h L:=⟨zqt _,fun _ hz=>⟨hz,rfl⟩,fun id M hM=>by
  rw[clr_some];exact⟨fun h=>h.1,fun h=>⟨h,fun ha=>hM (Mj ha)⟩⟩,fun _ _ _ _=>rfl⟩
 have hlen:es.length=es.length:=rfl;have hkeep:∀j,j<os.length->∀B,loP os 6 j=zs B->∀c,ow c=zs B↔clr ow (AtC L i off n) c=zs B:=(by grind[Go.AM.clr_some])
 obtain⟨r,k0,es0,sz0,es0',hr0,hos,_⟩:=setRow_eq _ _ _ _ hset;have H:∀M m z,CF ow M m z->CF (clr ow (AtC L i off n)) M m z:=fun M m z hi c t hc=>hi c t (clr_some.1 hc).1
 refine⟨?_,⟨by grind,fun j hj B h1=>?_⟩,fun o ho c t hc=>(clr_some.1 hc).2 ⟨off+o,by omega,by omega,t,rfl⟩⟩
 . refine s.set d (fun a b M ha hb=>s.inj a b M (clr_some.1 ha).1 (clr_some.1 hb).1) (fun a M ha=>s.live a M (clr_some.1 ha).1) s.zb (fun M m z t _ _ hi=>H M m z hi) 6 id k es sz _ os' L [] (by simp) hr N G hset fun x Q=>?_
   rcases Q.inv with⟨_,e2,_⟩|⟨c,ces,rfl,h1,h2,h3,J,h5,h6⟩
   . grind
   . have Y:i<ces.length:=by rw[J.1];grind
     have ha:=zqd Y;have hsh:=J.2 i _ e ha O;have w2:=Q3 (v:=e) (off:=off) (ncs:=zqa n .und) (by rw[zqj];omega) (by simpa using hn) nag_rep;have aa:clr ow (AtC L i off n) c=zs L:=(by grind[Go.AM.clr_some])
     rw[show es.length=(es.set i (e.withCells off (zqa n .und))).length by simp];refine .own aa h2 h3 (by simpa using J.1) (by grind) (fun j x y Q A=>?_) (fun j x y U A o a b V hb=>?_)
     . rw [zqc]at A
       by_cases C:i=j
       . subst C
         rw[if_pos rfl,if_pos (zqb.1 O).1]at A;grind[R9]
       . rw[if_neg C]at A;exact J.2 j x y Q A
     . have old:∀b,(∃y,es[j]?=zs y/\y.cells[o]?=zs b)->(j=i->o<off\/off+n<=o)->CR Z (clr ow (AtC L i off n)) h (L++[j,o]) a b:=fun b ⟨y,A,hb⟩ hjo=>by
        refine(h6 j x y U A o a b V hb).reloc (zqt _) (fun _ hz=>⟨hz,rfl⟩) (fun id q=>?_) (fun _ _ _=>rfl);rw[clr_some];exact⟨fun h=>h.1,fun h=>⟨h,fun X=>by have:=Gt X;grind⟩⟩
       rw[zqc]at A;by_cases C:i=j
       . subst C
         rw[if_pos rfl,if_pos (zqb.1 O).1]at A;cases A;rw[w2.1,j7 (by rw[zqj];omega)]at hb;rw[zqj]at hb;split at hb
         . rw[List.getElem?_replicate]at hb
           split at hb
           . cases hb;exact .und
           . cases hb
         grind
       . rw[if_neg C]at A
         exact old b ⟨y,A,hb⟩ fun e=>absurd e.symm C
 grind[Bl]
end
section
variable {E:Env}{R:AV->AV->Prop}{Z Z':Nat->Prop}{ow ow':Nat->Option (List Nat)}{h h':Heap}{K K':PK}{os os':List PO}{x y:AV}{L M:List Nat}
theorem PT.drop(s:PT R Z ow h os){q:Nat}{e:PO}(he:(∃p i o,e=.sub p i o/\p<os.length)\/e=.dead):PT R Z (clr ow (Und [q])) h (os.set q e):=by
 have hne:∀r t,r≠q->¬Und [q] (r::t):=fun r t B ⟨u,hu⟩=>by grind
 have A:∀{r:Nat}{C:PO},(os.set q e)[r]?=zs C->(r≠q/\os[r]?=zs C)\/C=e:=(by grind)
 have hee:(∀k es sz,e≠.row k es sz)/\∀es,e≠.mapo es:=by
  grind
 have ho:∀r id t,r≠q->(clr ow (Und [q]) id=zs (r::t)↔ow id=zs (r::t)):=(by grind[Go.AM.clr_some])
 refine⟨fun r es sz B=>?_,fun r k es sz B G=>?_,fun r es B=>?_,fun a b M ha hb=>s.inj a b M (clr_some.1 ha).1 (clr_some.1 hb).1,fun a M ha=>?_,s.zb,fun j p i o H=>?_⟩
 . rcases A B with⟨h1,h2⟩|h
   . obtain⟨x,J⟩:=s.row r es sz h2
     exact⟨x,J.reloc (zqt _) (fun _ hz=>⟨hz,rfl⟩) (fun id t=>ho r id t h1) (fun _ _ _=>rfl)⟩
   grind
 . rcases A B with⟨h1,h2⟩|h
   . obtain⟨c,ces,g⟩:=s.raw r k es sz h2 G
     exact⟨c,ces,(ho r c [] h1).2 g.o,g.lt,g.get,g.sh,g.vr,g.okp,fun a t ha=>g.no a t ((ho r a t h1).1 ha)⟩
   grind
 . rcases A B with⟨h1,h2⟩|h
   . obtain⟨c,ces,g⟩:=s.map r es h2
     exact⟨c,ces,(ho r c [] h1).2 g.o,g.lt,g.get,g.len,g.kv,fun a t ha=>g.no a t ((ho r a t h1).1 ha)⟩
   grind
 . obtain⟨h1,h2⟩:=clr_some.1 ha
   obtain⟨N,O,r,t,rfl,h5⟩:=s.live a M h1;have hrq:r≠q:=fun e=>h2 ⟨t,by rw[e];rfl⟩
   refine⟨N,O,r,t,rfl,?_⟩;grind[isRt]
 . rw[zqg]
   rcases A H with⟨_,h2⟩|h
   . exact s.sb j p i o h2
   grind
noncomputable def rlb(ow:Nat->Option (List Nat))(q:Nat)(L:List Nat):Nat->Option (List Nat):=fun id=>match ow id with
 |some (p::t)=>if p=q then zs (L++t)else zs (p::t)
 |e=>e
theorem vO{q id:Nat}(hne:∀a M,ow a=zs M->M≠[]):rlb ow q L id=zs M↔(∃t,ow id=zs (q::t)/\M=L++t)\/(ow id=zs M/\∀t,M≠q::t):=by
 unfold rlb;grind
theorem loP_seal{q id i o:Nat}{L:List Nat}{e:PO}(H:os[q]?=zs e)(A:isRt os q=zt)(hL:∀n J,loP os n id=zs J->J=L)(B:∀t,L≠q::t):∀(n j:Nat)(L':List Nat),loP (os.set q (.sub id i o)) n j=zs L'->(∃t,loP os n j=zs (q::t)/\L'=L++[i,o]++t)\/(loP os n j=zs L'/\∀t,L'≠q::t)
 |0,_,_,h=>by cases h
 |n + 1,j,L',hl=>by
  unfold loP at hl;rw[zqc]at hl;by_cases N:q=j
  . subst N
    rw[if_pos rfl,if_pos (zqb.1 H).1]at hl;simp only at hl;cases C:loP (os.set q (.sub id i o)) n id with
    |none=>grind
    |some G=>
     rw [C]at hl;cases hl;have hLp:G=L:=by
      rcases loP_seal H A hL B n id G C with⟨t,h1,_⟩|⟨h1,_⟩
      . grind
      grind
     grind[loP,isRt]
  . rw [if_neg N]at hl
    unfold loP;cases Q:os[j]? with
    |none=>grind
    |some O=>
     rw[Q]at hl;cases O with
     |dead=>cases hl
     |sub p a b=>
      simp only at hl|-;cases C:loP (os.set q (.sub id i o)) n p with
      |none=>grind
      |some G=>
       rw[C]at hl;cases hl;rcases loP_seal H A hL B n p G C with⟨t,h1,rfl⟩|⟨h1,h2⟩
       . grind
       grind[H5]
     |_=>grind
structure Sealed(R:AV->AV->Prop)(Z:Nat->Prop)(ow:Nat->Option (List Nat))(h:Heap)(os:List PO)(ext:Nat)(L:List Nat)(i o0 d:Nat)(xs cs:List AV)(owf:Nat->Option (List Nat))(os':List PO):Prop where
 pt:PT R Z (clr owf (AtC L i o0 (d+xs.length))) h os'
 inj:∀a b M,owf a=zs M->owf b=zs M->a=b
 live:∀a M,owf a=zs M->a<h.next/\¬Z a
 keep:Keep' ow os owf os'
 len:cs.length=xs.length
 cr:∀(j:Nat) a b,xs[j]?=zs a->cs[j]?=zs b->CR Z owf h (L++[i,o0+d+j]) a b/\isAg b=zf/\b≠.und
 at_:∀id M,Und L M->¬AtC L i (o0+d) xs.length M->(owf id=zs M↔ow id=zs M)
 no:∀id M,owf id=zs M->¬AtC L i (o0+d) xs.length M->ow id=zs M
 lo:∀id q t,ow id=zs (q::t)->q<ext->owf id=zs (q::t)
 sm:∀id,owf id=znq↔ow id=znq
 rt:∀j:Nat,j<ext->os'[j]?=os[j]?
 rt':∀j:Nat,isRt os' j=zt->isRt os j=zt
 oth:∀j:Nat,(∀k es sz,os[j]?≠zs (.row k es sz))->os'[j]?=os[j]?
 ne:os'.length=os.length
theorem AtC.split{i o0 d:Nat}:AtC L i o0 (d+1) M↔AtC L i o0 d M\/Und (L++[i,o0+d]) M:=by
 constructor
 . rintro⟨o,h1,h2,A⟩
   by_cases e:o=o0+d
   . grind
   . exact .inl ⟨o,h1,by omega,A⟩
 . rintro(⟨o,h1,h2,A⟩|h)
   . exact⟨o,h1,by omega,A⟩
   . exact⟨o0+d,by omega,by omega,h⟩
theorem Uj{ext r id i o0:Nat}{tl:List Nat}(Y:L=r::tl):∀(ys xs cs:List AV)(d:Nat)(os os':List PO)(ow:Nat->Option (List Nat)),sealC ext r id i (o0+d) os ys=zs (cs,os') ->
 PT R Z (clr ow (AtC L i o0 d)) h os->(∀a b M,ow a=zs M->ow b=zs M->a=b)->(∀a M,ow a=zs M->a<h.next/\¬Z a)->(∀a M,ow a=zs M->M≠[])->(∀n G,loP os n id=zs G->G=L)->(id<os.length)->(∀j G,loP os 6 j=zs G->¬AtC L i (o0+d) ys.length G) ->
 (∀j,j<ys.length->rE ow (L++[i,o0+d+j]))->VL Z ow h os xs ys->∃owf,Sealed R Z ow h os ext L i o0 d xs cs owf os'
 |[],xs,cs,d,os,os',ow,hs,hp,hinj,hlive,hne,hL,hidl,hal,hno,hv=>by
  cases hs
  have:xs=[]:=zqm hv.1
  subst this;exact⟨ow,hp,hinj,hlive,.refl _ _,rfl,fun j a b ha=>by simp at ha,fun _ _ _ _=>.rfl,fun _ _ h _=>h,fun _ _ _ h _=>h,fun _=>.rfl,fun _ _=>rfl,fun _ h=>h,fun _ _=>rfl,rfl⟩
 |c::ys,[],cs,d,os,os',ow,hs,hp,hinj,hlive,hne,hL,hidl,hal,hno,hv=>by have:=hv.1;simp at this
 |c :: ys,a :: xs,cs,d,os,os',ow,hs,hp,hinj,hlive,hne,hL,hidl,hal,hno,hv=>by
  obtain ⟨V,af⟩:=hv.inv;have C:rE ow (L++[i,o0+d]):=hno 0 (by simp);have ac:∀j,j<ys.length->rE ow (L++[i,o0+(d+1)+j]):=fun j hj=>by
   have:=hno (j+1) (by grind)
   grind
  have ag:∀j G,loP os 6 j=zs G->¬AtC L i (o0+(d+1)) ys.length G:=fun j G h1 ⟨o,h2,A,N⟩=>hal j G h1 ⟨o,by omega,by simp;omega,N⟩
  have am:(a::xs).length=xs.length+1:=rfl;have hyl:=af.1;unfold sealC at hs;cases hc:clo c with
  |true=>
   rw[hc]at hs;simp only at hs;cases X:sealC ext r id i (o0+d+1) os ys with
   |none=>grind
   |some p=>
    rw [X]at hs;cases hs;have an:PT R Z (clr ow (AtC L i o0 (d+1))) h os:=by
     have e:clr ow (AtC L i o0 (d+1))=clr ow (AtC L i o0 d):=by
      funext id
      apply Option.ext;intro M;show clr ow _ id=zs M↔clr ow _ id=zs M
      rw[clr_some,clr_some,AtC.split];exact⟨(by grind),fun⟨h1,h2⟩=>⟨h1,fun h=>h.elim h2 fun⟨t,ht⟩=>C id t (by grind)⟩⟩
     grind
    obtain⟨owf,g⟩:=Uj Y ys xs p.1 (d+1) os p.2 ow (by omega) an hinj hlive hne hL hidl ag ac af;have J:∀M,¬AtC L i (o0+d) (xs.length+1) M->¬AtC L i (o0+(d+1)) xs.length M:=fun M O ⟨o,h1,h2,A⟩=>O ⟨o,by omega,by omega,A⟩
    have ao:rE owf (L++[i,o0+d]):=fun c' t al=>by
     have:=g.no c' _ al fun H=>by have:=Gt H;omega
     exact C c' t this
    refine⟨owf,?_,g.inj,g.live,g.keep,by simp[g.len],fun j a' b' ha hb=>?_,fun id M Q O=>g.at_ id M Q (J M O),fun id M h1 O=>g.no id M h1 (J M O),g.lo,g.sm,g.rt,g.rt',g.oth,g.ne⟩
    . have:=g.pt
      rw[am,show d+(xs.length+1)=d+1+xs.length by omega];exact this
    . cases j with
      |zero=>cases ha;cases hb;exact⟨.val (V.fzc hc |>.mono fun _ hz=>⟨hz,rfl⟩) hc ao,nF hc,fun e=>by rw[e]at hc;cases hc⟩
      |succ j=>
       have:=g.cr j a' b' ha hb
       rw[show o0+d+(j+1)=o0+(d+1)+j by omega];exact this
  |false=>
   rw[hc]at hs;simp only at hs;cases c with
   |msl q off m sz=>
    cases off with
    |succ off=>cases hs
    |zero=>
     simp only at hs;cases X:os[q]? with
     |none=>rw[X]at hs;cases hs
     |some e=>
      rw[X]at hs;cases e with
      |row k es z=>
       cases k with
       |succ k=>cases hs
       |zero=>
        simp only at hs;split at hs
        . rename_i ae
          obtain⟨hm,hz,hext,aj⟩:=ae;subst hz;cases hr:sealC ext r id i (o0+d+1) (os.set q (.sub id i (o0+d))) ys with
          |none=>rw[hr]at hs;cases hs
          |some p=>
           rw[hr]at hs;cases hs;have aa:∀t,L≠q::t:=fun t e=>aj (by rw[Y]at e;cases e;rfl)
           have U:isRt os q=zt:=by unfold isRt;rw[X]
           have hqlt:=(zqb.1 X).1;have hneq:q≠id:=fun e=>by
            have:=hL 6 [q] (by grind[loP])
            exact aa [] this.symm
           obtain⟨xq,ak⟩:=hp.row q es sz X;have hnL:∀M,L++[i,o0+d]++M≠[]:=fun M e=>by simp at e
           have B:∀id M,rlb ow q (L++[i,o0+d]) id=zs M↔(∃t,ow id=zs (q::t)/\M=L++[i,o0+d]++t)\/(ow id=zs M/\∀t,M≠q::t):=fun id M=>vO hne
           have ah:clr (rlb ow q (L++[i,o0+d])) (AtC L i o0 (d+1))=clr (clr ow (AtC L i o0 d)) (Und [q]):=by
            funext id'
            apply Option.ext;intro M;show clr _ _ id'=zs M↔clr _ _ id'=zs M
            rw[clr_some,clr_some,clr_some,B,AtC.split]
            constructor
            . rintro⟨⟨t,h1,rfl⟩|⟨h1,h2⟩,A⟩
              . exact absurd (.inr ⟨t,rfl⟩) A
              . exact⟨⟨h1,fun h=>A (.inl h)⟩,fun⟨u,Q⟩=>h2 u Q⟩
            . rintro⟨⟨h1,h2⟩,A⟩
              exact⟨.inr ⟨h1,fun t e=>A ⟨t,e⟩⟩,fun h=>h.elim h2 fun⟨t,ht⟩=>C id' t (by grind)⟩
           have ap:PT R Z (clr (rlb ow q (L++[i,o0+d])) (AtC L i o0 (d+1))) h (os.set q (.sub id i (o0+d))):=by
            rw[ah];exact hp.drop (.inl ⟨id,i,o0+d,rfl,hidl⟩)
           have ai:Keep' ow os (rlb ow q (L++[i,o0+d])) (os.set q (.sub id i (o0+d))):=⟨by simp,fun j hj L' hl=>by
            rcases loP_seal X U hL aa 6 j L' hl with⟨t,h1,rfl⟩|⟨h1,h2⟩
            . refine⟨_,h1,fun c=>⟨(by grind),fun hc=>?_⟩⟩
              rcases(B c _).1 hc with⟨t',h2,A⟩|⟨h2,_⟩
              . grind[zqk]
              . exact absurd h2 (C c t)
            . refine⟨_,h1,fun c=>⟨fun hc=>(B c _).2 (.inr ⟨hc,h2⟩),fun hc=>?_⟩⟩
              rcases(B c _).1 hc with⟨t',A,N⟩|⟨A,_⟩
              . exact absurd ⟨o0+d,zqt _,by simp,t',N⟩ (hal j L' h1)
              . exact A⟩
           have hcell:CR Z (rlb ow q (L++[i,o0+d])) h (L++[i,o0+d]) a (ownd 0 sz es):=by
            have ad:∀id' t,rlb ow q (L++[i,o0+d]) id'=zs (L++[i,o0+d]++t)↔clr ow (AtC L i o0 d) id'=zs ([q]++t):=fun id' t=>by
             rw[B,clr_some]
             constructor
             . rintro (⟨t',h1,h2⟩|⟨h1,_⟩)
               . have:=zqk h2;subst this
                 exact ⟨h1,fun H=>by
                  obtain⟨u,Q⟩:=Mj H;rw[Y]at Q;simp at Q;exact aj Q.1⟩
               . exact absurd h1 (C id' t)
             grind
            have aq:a=xq\/(es=[]/\(a=.nilsl\/a=.nilsl)/\rE (clr ow (AtC L i o0 d)) [q]):=by
             rcases ak.inv with⟨_,h2,A,N⟩|⟨cid,ces,rfl,h1,_⟩
             . refine .inr ⟨h2,?_,N⟩
               generalize hy:AV.msl q 0 m sz=y at V;cases V with
               |fz f=>cases f<;>cases hy
               |mnil e _ _=>exact e
               |msl h5 h6=>
                cases hy
                have:=h5 [q] (by grind[loP])
                exact absurd (clr_some.2 ⟨this,fun H=>by
                 obtain⟨u,Q⟩:=Mj H;grind⟩) (N _ [])
               |_=>cases hy
             . generalize hy:AV.msl q 0 m sz=y at V
               cases V with
               |fz f=>cases f<;>cases hy
               |mnil _ h5 _=>
                grind[loP,clr_some]
               |msl h5 h6=>
                cases hy;have h7:=h5 [q] (by grind[loP])
                have:=hinj _ _ _ h7 (clr_some.1 h1).1
                subst this
                left;rw[hm];rfl
               |_=>cases hy
            rcases aq with rfl|⟨h2,A,N⟩
            . exact ak.reloc (zqt _) (fun _ hz=>⟨hz,rfl⟩) ad (fun _ _ _=>rfl)
            . subst h2
              exact .nil A fun c t hc=>N c t ((ad c t).1 hc)
           have q1:∀a b M,rlb ow q (L++[i,o0+d]) a=zs M->rlb ow q (L++[i,o0+d]) b=zs M->a=b:=fun a b M ha hb=>by
            rcases(B _ _).1 ha with⟨t,h1,rfl⟩|⟨h1,h2⟩
            . rcases(B _ _).1 hb with⟨t',A,N⟩|⟨A,_⟩
              . grind[zqk]
              . exact absurd A (C _ _)
            . rcases(B _ _).1 hb with⟨t',A,rfl⟩|⟨A,_⟩
              . exact absurd h1 (C _ _)
              grind
           have q2:∀a M,rlb ow q (L++[i,o0+d]) a=zs M->a<h.next/\¬Z a:=(by grind)
           have q3:∀a M,rlb ow q (L++[i,o0+d]) a=zs M->M≠[]:=(by grind)
           have q4:∀n G,loP (os.set q (.sub id i (o0+d))) n id=zs G->G=L:=fun n G hl=>by
            rcases loP_seal X U hL aa n id G hl with⟨t,h1,_⟩|⟨h1,_⟩
            . grind
            grind
           have q5:∀j G,loP (os.set q (.sub id i (o0+d))) 6 j=zs G->¬AtC L i (o0+(d+1)) ys.length G:=fun j G hl=>by
            rcases loP_seal X U hL aa 6 j G hl with⟨t,h1,rfl⟩|⟨h1,_⟩
            . intro H;have:=Gt H;omega
            grind
           have q6:∀j,j<ys.length->rE (rlb ow q (L++[i,o0+d])) (L++[i,o0+(d+1)+j]):=fun j hj c t hc=>by
            rcases(B _ _).1 hc with⟨t',_,h2⟩|⟨h2,_⟩
            . grind[zqk]
            . exact ac j hj c t h2
           obtain⟨owf,g⟩:=Uj Y ys xs p.1 (d+1) (os.set q (.sub id i (o0+d))) p.2 (rlb ow q (L++[i,o0+d])) (by omega) ap q1 q2 q3 q4 (by grind) q5 q6 (af.keep (fun _ hz=>⟨hz,rfl⟩) ai);have J:∀M,¬AtC L i (o0+d) (xs.length+1) M->¬AtC L i (o0+(d+1)) xs.length M/\¬Und (L++[i,o0+d]) M:=fun M O=>⟨fun⟨o,h1,h2,A⟩=>O ⟨o,by omega,by omega,A⟩,fun h=>O ⟨o0+d,by omega,by omega,h⟩⟩
           have ab:CR Z owf h (L++[i,o0+d]) a (ownd 0 sz es):=by
            refine hcell.reloc (zqt _) (fun _ hz=>⟨hz,rfl⟩) (fun id' t=>?_) (fun _ _ _=>rfl);exact g.at_ id' _ ⟨[i,o0+d]++t,by simp⟩ fun H=>by have:=Gt H;omega
           refine⟨owf,?_,g.inj,g.live,ai.trans g.keep,by simp[g.len],fun j a' b' ha hb=>?_,fun id' M Q O=>?_,fun id' M h1 O=>?_,fun id' q' t h1 h2=>?_,fun id'=>?_,fun j hj=>?_,fun j hj=>?_,fun j hj=>?_,by rw[g.ne];simp⟩
           . have:=g.pt
             grind
           . cases j with
             |zero=>cases ha;cases hb;exact⟨ab,rfl,Ud _ _ _⟩
             |succ j=>
              have:=g.cr j a' b' ha hb
              grind
           . obtain ⟨h1,h2⟩:=J M O
             rw[g.at_ id' M Q h1,B];obtain⟨u,Q⟩:=Q
             constructor
             . rintro(⟨t,_,N⟩|⟨A,_⟩)
               . exact absurd ⟨t,N⟩ h2
               . exact A
             grind
           . obtain⟨h2,A⟩:=J M O
             rcases(B _ _).1 (g.no id' M h1 h2)with⟨t,_,N⟩|⟨N,_⟩
             . exact absurd ⟨t,N⟩ A
             . exact N
           . exact g.lo id' q' t (by grind) h2
           . rw [g.sm id']
             constructor
             . intro h1
               cases e:ow id' with
               |none=>rfl
               |some M=>
                by_cases O:∃t,M=q::t
                . obtain⟨t,rfl⟩:=O
                  rw[(B id' _).2 (.inl ⟨t,e,rfl⟩)]at h1;cases h1
                grind
             grind[rlb]
           . rw[g.rt j hj,zqc,if_neg (by omega)]
           . have:=g.rt' j hj
             unfold isRt at this|-;grind
           . have hqj:q≠j:=(by grind)
             have:(os.set q (.sub id i (o0+d)))[j]?=os[j]?:=by grind
             rw[g.oth j (by grind),this]
        . cases hs
      |_=>cases hs
   |_=>cases hs
end
section
variable {E:Env}{R:AV->AV->Prop}{Z Z':Nat->Prop}{ow ow':Nat->Option (List Nat)}{h h':Heap}{K K':PK}{os os':List PO}{x y:AV}{L M:List Nat}
theorem Hl{id k sz:Nat}{es:List AV}(B:rowOf os 6 id=zs (k,es,sz))(A:rawAt os id=zt):os[id]?=zs (.row k es sz)/\k≠0:=by
 unfold rowOf at B;unfold rawAt at A;grind
theorem PT.rawset(s:PT R Z ow h os){id k sz i off c:Nat}{es ces ncs A:List AV}{a e:AV}(hr:os[id]?=zs (.row k es sz))(hk:k≠0)(g:RawR R ow h id es sz c ces)(ha:ces[i]?=zs a)(Y:es[i]?=zs e)(hf:off+A.length<=sz)(hl:ncs.length=A.length)(hn:0<A.length)(h1:∀c∈ncs,isAg c=zf)(h2:∀c∈A,Ev c=zt)
 (hR:∀(o:Nat) u w,ncs[o]?=zs u->A[o]?=zs w->R u w):PT R Z ow (h.set c (.row (ces.set i (a.withCells off ncs)) sz)) (os.set id (.row k (es.set i (e.withCells off A)) sz)):=by
 have hlt:id<os.length:=(zqb.1 hr).1;have J:∀r t d,r≠id->ow d=zs (r::t)->(h.set c (.row (ces.set i (a.withCells off ncs)) sz)).get d=h.get d:=fun r t d G ho=>Heap.get_set_ne _ _ fun e=>by
  subst e;rw[g.o]at ho;grind
 have hz:∀d,Z d->Z d/\(h.set c (.row (ces.set i (a.withCells off ncs)) sz)).get d=h.get d:=fun d hd=>⟨hd,Heap.get_set_ne _ _ fun e=>by subst e;exact(s.live _ _ g.o).2.1 hd⟩
 have Q:∀{r:Nat}{e':PO},(os.set id (.row k (es.set i (e.withCells off A)) sz))[r]?=zs e'->(r≠id/\os[r]?=zs e')\/(r=id/\e'=.row k (es.set i (e.withCells off A)) sz):=(by grind)
 have X:∀c∈A,isAg c=zf:=fun c hc=>zH (h2 c hc)
 refine⟨fun r H U V=>?_,fun r k1 H U V G=>?_,fun r H V=>?_,s.inj,fun d M hd=>?_,s.zb,fun j p q o V=>?_⟩
 . rcases Q V with⟨G,C⟩|⟨_,C⟩
   . obtain⟨x,hx⟩:=s.row r H U C
     exact⟨x,hx.reloc (zqt _) hz (fun _ _=>.rfl) (fun d t hd=>J r t d G hd)⟩
   grind
 . rcases Q V with⟨aa,C⟩|⟨rfl,C⟩
   . obtain⟨c1,N,B⟩:=s.raw r k1 H U C G
     exact⟨c1,N,B.o,B.lt,(J r [] c1 aa B.o).trans B.get,B.sh,B.vr,B.okp,B.no⟩
   . cases C
     refine⟨c,_,g.o,g.lt,Heap.get_set_eq _ _ g.get,g.sh.set ha Y hf hl hn h1 X,Xw (R:=fun _ _ u w=>R u w) g.sh ha Y hf hl hn h1 X (fun j x y hx O o u w _ hu hw=>g.vr j x y hx O o u w hu hw) hR,fun j y O b hb=>?_,g.no⟩;rw[zqc]at O;by_cases ej:i=j
     . subst ej
       rw[if_pos rfl,if_pos (zqb.1 Y).1]at O;cases O;have h0:=g.sh.2 i a e ha Y;rw[(Q3 (by omega) hn X).1]at hb;unfold lsplice at hb;rcases zqp.1 hb with hb|hb
       . exact g.okp i e Y b (List.mem_of_mem_take hb)
       . rcases zqp.1 hb with hb|hb
         . grind
         . exact g.okp i e Y b (List.mem_of_mem_drop hb)
     . rw[if_neg ej]at O;exact g.okp j y O b hb
 . rcases Q V with⟨G,C⟩|⟨_,C⟩
   . obtain⟨c1,N,B⟩:=s.map r H C
     exact⟨c1,N,B.o,B.lt,(J r [] c1 G B.o).trans B.get,B.len,fun i x y hx O=>⟨(B.kv i x y hx O).1,(B.kv i x y hx O).2.mono hz⟩,B.no⟩
   . cases C
 . obtain⟨C,h4,r,t,h5,h6⟩:=s.live d M hd
   exact⟨C,h4,r,t,h5,by grind[isRt_set]⟩
 . rw[zqg]
   rcases Q V with⟨_,C⟩|⟨_,C⟩
   . exact s.sb j p q o C
   . cases C
theorem Wd{α:Type}{l us vs:List α}{p:Nat}(h:p+us.length<=l.length)(e:us.length=vs.length):lsplice (lsplice l p us) p vs=lsplice l p vs:=by
 apply List.ext_getElem?;grind[j7,R9]
theorem Pu{v:AV}{off:Nat}{us vs:List AV}(h:off+us.length<=v.cells.length)(e:us.length=vs.length)(h1:∀c∈us,isAg c=zf):(v.withCells off us).withCells off vs=v.withCells off vs:=by
 cases v with
 |agg cs=>
  show AV.agg (O7 (O7 cs off us) off vs)=.agg (O7 cs off vs)
  rw[U4,U4,U4,Wd (l:=cs) h e]
 |_=>
  cases us with
  |nil=>
   cases vs with
   |nil=>rfl
   |cons=>simp at e
  |cons u us=>
   cases vs with
   |nil=>simp at e
   |cons v vs=>
    cases us with
    |nil=>
     cases vs with
     |nil=>
      have:=h1 u (zqh ..)
      show AV.withCells u off [v]=v
      cases u<;>first|rfl|cases this
     |cons=>simp at e
    |cons=>cases vs<;>first|rfl|(simp at e)
theorem vP{P:List Nat->Prop}(hP:∀M,¬P M):clr ow P=ow:=by
 grind[clr]
theorem Gu{i off n:Nat}:¬AtC L i off n L:=fun⟨o,_,_,u,A⟩=>by have:=congrArg zqn A;simp at this
theorem Uk:∀(n id:Nat)(es':List AV)(os':List PO),setRow os n id es'=zs os'->∃k es sz,rowOf os n id=zs (k,es,sz)
 |0,_,_,_,e=>by cases e
 |n + 1,id,es',os',e=>by
  unfold setRow at e;unfold rowOf;cases A:os[id]? with
  |none=>grind
  |some q=>
   rw[A]at e;cases q with
   |row k es sz=>grind
   |sub p i o=>
    simp only at e|-;cases hp:rowOf os n p with
    |none=>grind
    |some t=>
     grind
   |_=>cases e
theorem Ul:∀(n id:Nat)(t:Nat×List AV×Nat),rowOf os n id=zs t->rowOf os (n+1) id=zs t
 |0,_,_,e=>by cases e
 |n + 1,id,t,e=>by
  unfold rowOf at e|-;cases B:os[id]? with
  |none=>grind
  |some q=>
   rw[B]at e;cases q with
   |sub p i o=>
    simp only at e|-;cases A:rowOf os n p with
    |none=>grind
    |some u=>rw[A]at e;rw[Ul n p u A];exact e
   |dead=>cases e
   |_=>exact e
theorem Um(w:Wk os os'):∀(n id:Nat)(t:Nat×List AV×Nat),rowOf os' n id=zs t->rowOf os n id=zs t
 |0,_,_,e=>by cases e
 |n + 1,id,t,e=>by
  unfold rowOf at e|-;rcases w.2 id with e1|⟨p,i,o,e1,e2⟩
  . rw [e1]at e
    cases B:os[id]? with
    |none=>grind
    |some q=>
     rw[B]at e;cases q with
     |sub p i o=>
      simp only at e|-;cases A:rowOf os' n p with
      |none=>grind
      |some u=>rw[A]at e;rw[Um w n p u A];exact e
     |dead=>cases e
     |_=>exact e
  grind
theorem Un{q:Nat}{e:PO}:∀(n id:Nat),rootOf os n id≠q->(∀p i o,os[q]?≠zs (.sub p i o))->rootOf (os.set q e) n id=rootOf os n id
 |0,_,_,_=>rfl
 |n + 1,id,hne,hq=>by
  unfold rootOf;rw[zqc];by_cases hid:q=id
  . subst hid
    unfold rootOf at hne;grind
  . rw [if_neg hid]
    unfold rootOf at hne;cases B:os[id]? with
    |none=>rfl
    |some A=>
     rw[B]at hne;cases A with
     |sub p i o=>simp only at hne|-;rw[Un n p hne hq]
     |_=>rfl
theorem sealC_row{ext r id i j:Nat}:∀(ys cs:List AV)(o:Nat)(os os':List PO),sealC ext r id i o os ys=zs (cs,os')->rootOf os 6 j=r->rowOf os' 6 j=rowOf os 6 j/\rootOf os' 6 j=r/\rawAt os' j=rawAt os j
 |[],cs,o,os,os',hs,hr=>by cases hs;grind
 |c :: ys,cs,o,os,os',hs,hr=>by
  unfold sealC at hs;cases hc:clo c with
  |true=>
   rw[hc]at hs;simp only at hs;cases B:sealC ext r id i (o+1) os ys with
   |none=>grind
   |some p=>rw[B]at hs;cases hs;exact sealC_row ys p.1 (o+1) os p.2 B hr
  |false=>
   rw[hc]at hs;simp only at hs;cases c with
   |msl q off m sz=>
    cases off with
    |succ off=>cases hs
    |zero=>
     simp only at hs;cases B:os[q]? with
     |none=>grind
     |some e=>
      rw[B]at hs;cases e with
      |row k es z=>
       cases k with
       |succ k=>cases hs
       |zero=>
        simp only at hs;split at hs
        . rename_i hcond
          cases A:sealC ext r id i (o+1) (os.set q (.sub id i o)) ys with
          |none=>grind
          |some p=>
           rw[A]at hs;cases hs;have C:rootOf os 6 j≠q:=by grind
           have G:∀p i o,os[q]?≠zs (.sub p i o):=fun p i o e=>by grind
           have hqj:q≠j:=(by grind[Go.AM.rootOf])
           obtain⟨h1,h2,h3⟩:=sealC_row ys p.1 (o+1) _ p.2 A ((Un 6 j C G).trans hr);simp_all[rawAt,Xx]
        . cases hs
      |_=>cases hs
   |_=>cases hs
theorem qL{r k sz A:Nat}{es es':List AV}(hr:os[r]?=zs (.row k es sz))(id:Nat):rawAt (os.set r (.row k es' A)) id=rawAt os id:=by
 unfold rawAt;grind
theorem Ju:∀(n id:Nat)(es':List AV)(os':List PO),setRow os n id es'=zs os'->∃r k es sz A,os[r]?=zs (.row k es sz)/\os'=os.set r (.row k A sz):=(by grind[Go.AM.setRow_eq])
theorem Xy(s:F7 Z ow h K.os){t:TI}{p pc xc:AV}(hp:VR Z ow h K.os pc p)(hx:VR Z ow h K.os xc x)(A:storeP t p x K=zs K'):
 ∃h' ow',Dn t pc xc h=zs h'/\F7 Z ow' h' K'.os/\Keep' ow K.os ow' K'.os/\(∀b,Stp b Z ow h K Z ow' h' K'):=by
 cases p with
 |ptr id i off=>
  unfold storeP at A;simp only at A;cases hr:rowOf K.os 6 id with
  |none=>rw[hr]at A;cases A
  |some q=>
   obtain⟨k,es,sz⟩:=q;rw[hr]at A;simp only at A;cases hi:es[i]? with
   |none=>rw[hi]at A;cases A
   |some e=>
    rw[hi]at A;simp only at A;split at A
    . rename_i hc
      obtain ⟨aq,a7,bo⟩:=hc;obtain⟨L,al,ab⟩:=s.get 6 id k es sz hr;obtain⟨c,rfl,Q,bq⟩:∃c,pc=.ptr c i off/\ow c=zs L/\id<K.os.length:=by
       cases hp with
       |fz f=>cases f
       |ptr a b=>exact⟨_,rfl,a L al,b⟩
      obtain⟨tl,a9,ar,_⟩:=H5 6 id L al;have O:∀ob d,Z d->Z d/\(h.set c ob).get d=h.get d:=fun ob d B=>⟨B,Heap.get_set_ne _ _ fun e=>by subst e;exact(s.live _ _ Q).2.1 B⟩
      cases J:rawAt K.os id with
      |true=>
       rw[J]at A;simp only at A;split at A
       . rename_i an
         cases A;rw[zqf]at an;have X:x≠.und:=fun e=>by subst e;exact absurd (an .und (zqh ..)) (by decide)
         have Y:=hx.cells X;have az:=hx.shape X;rcases ab with⟨_,rfl,c0,ces,g⟩|⟨h1,_⟩
         . have:c=c0:=s.inj _ _ _ Q g.o
           subst this;obtain⟨ba,hk⟩:=Hl hr J;have a0:i<ces.length:=by rw[g.sh.1];exact(zqb.1 hi).1
           have ha:=zqd a0;have ac:∀d∈xc.cells,okCell d=zt:=fun d B=>by
            obtain⟨j,V⟩:=zqi B;have aa:j<x.cells.length:=by rw[<-Y.1];exact(zqb.1 V).1
            exact(Y.2 j d _ V (zqd aa)).okc (an _ (List.getElem_mem aa))
           have ai:Keep' ow K.os ow (K.os.set id (.row k (es.set i (e.withCells off x.cells)) sz)):=⟨by simp,fun j _ L' hl=>⟨L',by rw[Bl ba]at hl;exact hl,fun _=>.rfl⟩⟩
           refine⟨_,ow,store_g g.get ha (az.1.trans aq) a7 bo ac,F7.to (s.rawset ba hk g ha hi (by omega) (az.1) (by omega) (fun d B=>okCell_nag (ac d B)) an (fun o u w hu N=>Y.2 o u w hu N)) (O _) ai,ai,fun b=>?_⟩;have bv:=Stp.store (b:=b) (ow':=ow) (os1:=K.os.set id (.row k (es.set i (e.withCells off x.cells)) sz)) (ob:=.row (ces.set i (ces[i].withCells off xc.cells)) sz) s (r:=id) (t:=[]) (c:=c) Q (by have e:=(List.cons.inj a9).1;rw[<-e]at ar;exact ar) (fun d M B _ e=>by rw[B]at e;cases e) (fun d q t ho _=>.inl ⟨t,ho⟩) (fun j _ c _=>.rfl) (fun j _ V=>by rw[isRt_set ba]at V;exact V);exact bv
         . rw[J]at h1;cases h1
       . cases A
      |false=>
       rw[J]at A;simp only at A;rcases ab with⟨h1,_⟩|⟨_,x0,ab⟩
       . rw[J]at h1;cases h1
       rcases ab.inv with⟨_,e2,_⟩|⟨c0,ces,_,h1,h2,h3,be,b4,h5⟩
       . subst e2;simp at hi
       have:c=c0:=s.inj _ _ _ Q h1
       subst this;have a0:i<ces.length:=by rw[be.1];grind
       have ha:=zqd a0;have az:=be.2 i _ e ha hi;split at A
       . -- nothing that leads anywhere
         rename_i ah;rw[Bool.and_eq_true,zqf,zqf]at ah;obtain⟨ae,br⟩:=ah;cases H:setRow K.os 6 id (es.set i (e.withCells off x.cells))with
         |none=>grind
         |some os2=>
          rw[H]at A;cases A;have X:x≠.und:=fun e=>by subst e;exact absurd (ae .und (zqh ..)) (by decide)
          have Y:=hx.cells X;have ao:=hx.shape X;have ac:∀d∈xc.cells,okCell d=zt:=fun d B=>by
           obtain⟨j,V⟩:=zqi B;have aa:j<x.cells.length:=by grind
           exact(Y.2 j d _ V (zqd aa)).okc (by grind[Go.AM.clo_okP])
          have d:Dl Z ow h Z ow (h.set c (.row (ces.set i (ces[i].withCells off xc.cells)) sz)) L:=⟨zqt _,O _,fun _ _ _=>.rfl,fun d M B hM=>Heap.get_set_ne _ _ fun e=>by subst e;rw[Q]at B;cases B;exact hM (.refl _)⟩
          obtain⟨r,k0,es0,sz0,es0',bb,hos,_⟩:=setRow_eq _ _ _ _ H;have ai:Keep' ow K.os ow os2:=⟨by grind,fun j _ L' hl=>⟨L',by grind[Bl],fun _=>.rfl⟩⟩
          refine⟨_,ow,(by grind[Go.AM.store_g]),F7.to (s.set d s.inj s.live s.zb (fun _ _ _ _ _ _ hi=>hi) 6 id k es sz _ os2 L [] (by simp) hr al J H fun x1 ax=>?_) (O _) ai,ai,fun b=>Stp.store s (r:=rootOf K.os 6 id) (t:=tl) (c:=c) (by grind) ar (by grind) (fun d q t ho _=>.inl ⟨t,ho⟩) (fun j _ c _=>.rfl) (by grind[Go.AM.isRt_set])⟩;rcases ax.inv with⟨_,e2,_⟩|⟨c1,bu,rfl,g1,g2,g3,g4,g5,g6⟩
          . grind
          . have:c=c1:=s.inj _ _ _ Q g1
            subst this;rw[h3]at g3;cases g3;have hreloc:∀M u w,(∀q,M++q≠L)->CR Z ow h M u w->CR Z ow (h.set c (.row (ces.set i (ces[i].withCells off xc.cells)) sz)) M u w:=fun M u w hM hc=>hc.reloc (zqt _) (O _) (fun _ _=>.rfl) (fun d q B=>Heap.get_set_ne _ _ (by grind))
            have au:∀(j o:Nat)(q:List Nat),L++[j,o]++q≠L:=(by simp_all)
            refine CR.cells (a:=ces[i]) (ncs:=xc.cells) Q h2 (Heap.get_set_eq _ _ h3) be ha hi (by omega) ao.1 (by omega) (fun d B=>okCell_nag (ac d B)) (fun d B=>nF (ae d B)) b4 (by simp_all) (fun o u w hu N=>?_);have hol:o<x.cells.length:=(zqb.1 N).1;refine .val (((Y.2 o u w hu N).fzc (ae w (zqe N))).mono (O _)) (ae w (zqe N)) ?_;have bw:off+o<e.cells.length:=by omega
            have bx:off+o<ces[i].cells.length:=by omega
            have hold:=h5 i _ e ha hi (off+o) _ _ (zqd bx) (zqd bw);have av:clo (e.cells[off+o])=zt:=br _ (zqe (i:=o) (by simp_all));generalize e.cells[off+o]=w' at hold av;generalize (ces[i]).cells[off+o]=u' at hold;cases hold with
            |val _ _ n=>exact n
            |_=>cases av
       . -- the cells take in what is theirs
         cases U:setRow (killS K.os id) 6 id (es.set i (e.withCells off (zqa t.size .und)))with
         |none=>grind
         |some ag=>
          rw[U]at A;simp only at A;cases C:sealC K.ext (rootOf K.os 6 id) id i off ag x.cells with
          |none=>rw[C]at A;cases A
          |some q=>
           obtain⟨cs,os1⟩:=q;rw[C]at A;simp only at A;cases H:setRow os1 6 id (es.set i (e.withCells off cs))with
           |none=>rw[H]at A;cases A
           |some os2=>
            rw [H]at A;cases A;have hlen:x.cells.length=t.size:=aq;have X:x≠.und:=fun e=>by
             subst e;unfold sealC at C;cases C
            have Y:=hx.cells X;have ao:=hx.shape X;have N:=fU K.os id;obtain⟨k',es',sz',bc⟩:=Uk _ _ _ _ U
            have:=Um N 6 id _ bc
            rw[hr]at this;cases this;have s1:=s.wk N;have a1:rawAt (killS K.os id) id=zf:=(N.raw id).trans J;obtain⟨Lk,am,_⟩:=s1.get 6 id k es sz bc
            have:=N.lo 6 id Lk am
            rw[al]at this;cases this;have ap:∀j L1,loP (killS K.os id) 6 j=zs L1->¬AtC L i off t.size L1:=fun j L1 h1 ⟨o,_,_,hu⟩=>fW al h1 (by simp) hu
            obtain⟨s2,k2,n2⟩:=s1.forget bc a1 am hi bo a7 ap U;obtain⟨r0,kr0,er0,sr0,er0',bb,af⟩:=Ju _ _ _ _ U;have bf:∀n j,loP ag n j=loP (killS K.os id) n j:=fun n j=>by rw[af,Bl bb]
            have bg:VL Z (clr ow (AtC L i off t.size)) h ag xc.cells x.cells:=Y.keep (fun _ hz=>⟨hz,rfl⟩) (N.keep.trans k2);have aw:rootOf ag 6 id=rootOf K.os 6 id:=by
             obtain⟨t1,h1,_⟩:=H5 6 id L ((bf 6 id).trans am);rw[a9]at h1;exact(List.cons.inj h1).1.symm
            obtain ⟨owf,g⟩:=Uj (R:=VR Z ow h K.os) (Z:=Z) (h:=h) (o0:=off) a9 x.cells xc.cells cs 0 ag os1 (clr ow (AtC L i off t.size)) C (by rw[vP (fun M ⟨o,h1,h2,_⟩=>by omega)];exact s2) s2.inj (fun a M ha=>⟨(s2.live a M ha).1,(s2.live a M ha).2.1⟩) (fun a M ha e=>by obtain⟨_,_,r,t,h,_⟩:=s2.live a M ha;rw[e]at h;cases h) (by grind[Go.AM.loP_uniq]) (by rw[af,zqg,N.1];exact bq) (by grind) (fun j V=>n2 j (by omega)) bg;have bh:∀d∈xc.cells,okCell d=zt:=fun d B=>by
             obtain⟨j,V⟩:=zqi B;have aa:j<cs.length:=by rw[g.len];grind
             obtain⟨ab,_,b2⟩:=g.cr j d _ V (zqd aa);generalize cs[j]=b at ab b2;cases ab with
             |val f e _=>exact f.okc e
             |und=>grind
             |nil e _=>rcases e with rfl|rfl<;>rfl
             |own=>unfold refK;split<;>rfl
            have bi:cs.length=t.size:=by rw[g.len,ao.1,aq]
            have bj:∀d∈cs,isAg d=zf:=fun d B=>by
             obtain⟨j,V⟩:=zqi B;have aa:j<xc.cells.length:=by grind
             exact(g.cr j _ d (zqd aa) V).2.1
            have bk:rowOf os1 6 id=zs (k,es.set i (e.withCells off (zqa t.size .und)),sz):=by
             rw[(sealC_row _ _ _ _ _ C aw).1];grind[Mi]
            have a4:rawAt ag id=zf:=by grind[qL]
            have a5:rawAt os1 id=zf:=(sealC_row _ _ _ _ _ C aw).2.2.trans a4;have hA:∀M,¬Und L M->¬AtC L i off t.size M:=fun M hM ha=>hM (Mj ha)
            have bl:xc.cells.length=t.size:=ao.1.trans aq;have aj:=g.pt;rw[zqv,bl]at aj;have bm:loP os1 6 id=zs L:=by
             obtain ⟨L1,h6,_⟩:=aj.get 6 id _ _ _ bk;have hle:L1=L:=by
              have:=g.keep.2 id (by rw[af,zqg,N.1];exact bq) L1 h6
              obtain⟨L2,h7,h8⟩:=this;have h9:L2=L:=(by grind)
              subst h9;have ah:clr ow (AtC L2 i off t.size) c=zs L2:=clr_some.2 ⟨Q,Gu⟩;have h10:=(h8 c).1 ah;have h11:owf c=zs L2:=(g.at_ c L2 (.refl _) Gu).2 ah;grind
             grind
            have ak:owf c=zs L:=(g.at_ c L (.refl _) Gu).2 (clr_some.2 ⟨Q,Gu⟩);have d:Dl Z (clr owf (AtC L i off t.size)) h Z owf (h.set c (.row (ces.set i (ces[i].withCells off xc.cells)) sz)) L:=⟨zqt _,O _,(by grind[Go.AM.clr_some]),fun d M B hM=>Heap.get_set_ne _ _ fun e=>by
             subst e
             have:=(clr_some.1 B).1
             rw[ak]at this;cases this;exact hM (.refl _)⟩
            have ad:∀j,¬AtC L i off t.size [j]:=fun j ⟨o,_,_,u,hu⟩=>by
             simp_all
            obtain ⟨r3,k3,e3,z3,e3',b3,bt⟩:=Ju _ _ _ _ H;have a6:∀a M,owf a=zs M->a<(h.set c (.row (ces.set i (ces[i].withCells off xc.cells)) sz)).next/\¬Z a/\∃r t,M=r::t/\isRt os1 r=zt:=fun a M ha=>by
             refine⟨(g.live a M ha).1,(g.live a M ha).2,?_⟩;by_cases G:AtC L i off t.size M
             . obtain⟨o,_,_,u,rfl⟩:=G
               obtain⟨_,_,r,t,h6,h7⟩:=aj.live c L (clr_some.2 ⟨ak,Gu⟩);grind
             . exact(aj.live a M (clr_some.2 ⟨ha,G⟩)).2.2
            have bz:Keep' owf os1 owf os2:=⟨by grind,fun j _ L' hl=>⟨L',by grind[Bl],fun _=>.rfl⟩⟩
            have bn:Keep' ow K.os owf os2:=((N.keep.trans k2).trans g.keep).trans bz;refine⟨_,owf,(by grind[Go.AM.store_g]),F7.to (aj.set d g.inj a6 s2.zb (fun M m z u0 hM hu0 hi=>?_) 6 id k _ sz _ os2 L [] (by simp) bk bm a5 H fun x1 ax=>?_) (O _) bn,bn,fun b=>Stp.store s (r:=rootOf K.os 6 id) (t:=tl) (c:=c) (by grind) ar (fun d M B _=>?_) (fun d q u0 ho hq=>?_) (fun j V c' _=>?_) (fun j _ V=>?_)⟩
            . intro c' t' ay
              by_cases G:AtC L i off t.size (M++t')
              . obtain ⟨o,_,_,u,hu⟩:=G
                rw[hM]at hu
                have:t'=u0++([i,o]++u):=by
                 grind[zqk]
                rcases hi c u0 (by grind[clr_some])with h|⟨i',o',q,h,h8,h9⟩
                . grind
                grind
              . exact hi c' t' (clr_some.2 ⟨ay,G⟩)
            . rcases ax.inv with⟨_,e2,_⟩|⟨c1,bu,rfl,g1,g2,g3,g4,g5,g6⟩
              . simp_all
              . have:c=c1:=g.inj _ _ _ ak (clr_some.1 g1).1
                subst this;rw[h3]at g3;cases g3;have hil:=(zqb.1 hi).1;have w2:=Q3 (v:=e) (off:=off) (ncs:=zqa t.size .und) (by rw[zqj];omega) (by simpa using a7) nag_rep;have b0:(es.set i (e.withCells off (zqa t.size .und)))[i]?=zs (e.withCells off (zqa t.size .und)):=by grind
                have b1:es.set i (e.withCells off cs)=(es.set i (e.withCells off (zqa t.size .und))).set i ((e.withCells off (zqa t.size .und)).withCells off cs):=by
                 rw[List.set_set,Pu (by rw[zqj];omega) (by rw[zqj];exact bi.symm) nag_rep]
                rw[b1];have au:∀(j o:Nat)(q:List Nat),L++[j,o]++q≠L:=(by simp_all)
                refine CR.cells (a:=ces[i]) (ncs:=xc.cells) ak h2 (Heap.get_set_eq _ _ h3) g4 ha b0 (by omega) (by omega) (by omega) (fun d B=>okCell_nag (bh d B)) bj (fun c' t' ay=>?_) (fun j x y hx hy o u w hjo hu N=>?_) (fun o u w hu N=>?_)
                . by_cases G:AtC L i off t.size (L++t')
                  . obtain⟨o,ho1,ho2,u,hu⟩:=G
                    grind[zqk]
                  . exact g5 c' t' (clr_some.2 ⟨ay,G⟩)
                . refine (g6 j x y hx hy o u w hu N).reloc (zqt _) (O _) (fun d q=>?_) (fun d q B=>Heap.get_set_ne _ _ fun e=>?_)
                  . rw[clr_some]
                    exact⟨fun h=>⟨h,fun G=>by have:=Gt G;grind⟩,fun h=>h.1⟩
                  simp_all
                . refine(g.cr o u w hu N).1.reloc (zqt _) (O _) (fun _ _=>.rfl) (fun d q B=>Heap.get_set_ne _ _ fun e=>?_)
                  subst e;rw[ak]at B;exact au i _ q (Option.some.inj B).symm
            . intro e
              have:=(g.sm d).2 (by unfold clr;rw[e])
              rw[this]at B;cases B
            . by_cases G:AtC L i off t.size (q::u0)
              . right
                obtain⟨u,hu⟩:=Mj G;grind
              . exact .inl ⟨_,g.lo d q _ (clr_some.2 ⟨ho,G⟩) hq⟩
            . constructor
              . exact fun h=>g.lo c' j [] (clr_some.2 ⟨h,ad j⟩) V
              . exact fun h=>(clr_some.1 (g.no c' [j] h (by rw[bl];exact ad j))).1
            . rw[bt,isRt_set b3]at V
              have:=g.rt' j V
              rw[af,isRt_set bb,N.rt]at this;exact this
    . cases A
 |_=>cases A
end
section
variable {E:Env}{R:AV->AV->Prop}{Z Z':Nat->Prop}{ow ow':Nat->Option (List Nat)}{h h':Heap}{K K':PK}{os os':List PO}{x y:AV}{L M:List Nat}
theorem PT.noHead(s:PT R Z ow h os)(d:Nat)(t:List Nat):ow d≠zs (os.length::t):=fun e=>by
 obtain⟨_,_,r,t',h1,h2⟩:=s.live _ _ e;cases h1;exact absurd (isRt_lt h2) (by omega)
theorem PT.new(s:PT R Z ow h os)(e:PO)(hn:h.next<=h'.next)(hZ:∀d,Z d->h'.get d=h.get d)(hg:∀d M,ow d=zs M->h'.get d=h.get d)(ho:∀d M,(∀t,M≠os.length::t)->(ow' d=zs M↔ow d=zs M))
 (hinj:∀a b t,ow' a=zs (os.length::t)->ow' b=zs (os.length::t)->a=b)(hlive:∀d t,ow' d=zs (os.length::t)->d<h'.next/\¬Z d)(hrt:isRt (os++[e]) os.length=zt)
 (h0:∀es sz,e=.row 0 es sz->∃x,CR Z ow' h' [os.length] x (ownd 0 sz es))(h1:∀k es sz,e=.row k es sz->k≠0->∃c ces,RawR R ow' h' os.length es sz c ces)(h2:∀es,e=.mapo es->∃c ces,MapR Z ow' h' os.length es c ces):PT R Z ow' h' (os++[e]):=by
 have A:∀{r:Nat}{N:PO},(os++[e])[r]?=zs N->(r<os.length/\os[r]?=zs N)\/(r=os.length/\N=e):=(by grind)
 have hz:∀d,Z d->Z d/\h'.get d=h.get d:=fun d G=>⟨G,hZ d G⟩
 have B:∀{r:Nat}(t t':List Nat),r<os.length->r::t≠os.length::t':=fun t t' hl e=>by grind
 refine⟨fun r es sz H=>?_,fun r k es sz H Q=>?_,fun r es H=>?_,fun a b M ha hb=>?_,fun d M G=>?_,fun d G=>zqu (s.zb d G) hn,fun j p i o H=>?_⟩
 . rcases A H with⟨hl,C⟩|⟨rfl,rfl⟩
   . obtain⟨x,J⟩:=s.row r es sz C
     exact⟨x,J.reloc hn hz (by grind) (fun d t G=>hg d _ G)⟩
   grind
 . rcases A H with⟨hl,C⟩|⟨rfl,rfl⟩
   . obtain⟨c,ces,g⟩:=s.raw r k es sz C Q
     exact⟨c,ces,(ho c _ fun t'=>B [] t' hl).2 g.o,zqu g.lt hn,(hg c _ g.o).trans g.get,g.sh,g.vr,g.okp,fun a t ha=>g.no a t ((ho a _ fun t'=>B t t' hl).1 ha)⟩
   grind
 . rcases A H with⟨hl,C⟩|⟨rfl,rfl⟩
   . obtain⟨c,ces,g⟩:=s.map r es C
     exact⟨c,ces,(ho c _ fun t'=>B [] t' hl).2 g.o,zqu g.lt hn,(hg c _ g.o).trans g.get,g.len,fun i x y J O=>⟨(g.kv i x y J O).1,(g.kv i x y J O).2.mono hz⟩,fun a t ha=>g.no a t ((ho a _ fun t'=>B t t' hl).1 ha)⟩
   grind
 . by_cases U:∃t,M=os.length::t
   . grind
   . exact s.inj a b M (by grind) (by grind)
 . by_cases U:∃t,M=os.length::t
   . grind
   . obtain⟨C,h4,r,t,h5,h6⟩:=s.live d M (by grind)
     grind[Ug]
 . rw[zqq]
   rcases A H with⟨hl,C⟩|⟨rfl,rfl⟩
   . have:=s.sb j p i o C;omega
   grind[isRt]
theorem Uo(s:PT R Z ow h os){e:PO}(ho:∀d M,(∀t,M≠os.length::t)->(ow' d=zs M↔ow d=zs M)):Keep' ow os ow' (os++[e]):=
 Mf s.sb fun id hi L hl c=>(ho c L fun t e=>by
  obtain⟨t',h1,h2,_⟩:=H5 _ _ _ hl;rw[h1]at e;have h3:=isRt_lt h2;grind).symm
def j8(ow:Nat->Option (List Nat))(c:Nat)(L:List Nat):Nat->Option (List Nat):=fun d=>if d=c then zs L else ow d
theorem vQ(s:PT R Z ow h os){c:Nat}(hc:ow c=znq)(d:Nat)(M:List Nat)(hM:∀t,M≠os.length::t):j8 ow c [os.length] d=zs M↔ow d=zs M:=by
 unfold j8;grind
theorem own1_new(s:PT R Z ow h os){c d:Nat}{t:List Nat}:j8 ow c [os.length] d=zs (os.length::t)↔d=c/\t=[]:=by
 unfold j8;split
 . grind
 . rename_i e
   exact⟨fun h=>absurd h (s.noHead d t),fun h=>absurd h.1 e⟩
theorem PT.next_none(s:PT R Z ow h os):ow h.next=znq:=by
 cases e:ow h.next with
 |none=>rfl
 |some M=>exact absurd (s.live _ _ e).1 (by omega)
theorem PT.lay(s:PT R Z ow h os){e:PO}{ob:AObj}(B:isRt (os++[e]) os.length=zt)
 (h0:∀es sz,e=.row 0 es sz->∃x,CR Z (j8 ow h.next [os.length]) (h.push ob) [os.length] x (ownd 0 sz es))(h1:∀k es sz,e=.row k es sz->k≠0->∃c ces,RawR R (j8 ow h.next [os.length]) (h.push ob) os.length es sz c ces)(h2:∀es,e=.mapo es->∃c ces,MapR Z (j8 ow h.next [os.length]) (h.push ob) os.length es c ces):
 PT R Z (j8 ow h.next [os.length]) (h.push ob) (os++[e])/\Keep' ow os (j8 ow h.next [os.length]) (os++[e]):=by
 have hg:∀d,d<h.next->(h.push ob).get d=h.get d:=(by grind[Go.AM.Heap.get_push_ne])
 have ho:=vQ s s.next_none;exact⟨s.new e (zqx _) (fun d A=>hg d (s.zb d A)) (fun d M A=>hg d (s.live d M A).1) ho (by grind[Go.AM.own1_new]) (fun d t A=>by
  have:=((own1_new s).1 A).1
  subst this;exact⟨zqy _,fun hz=>absurd (s.zb _ hz) (by omega)⟩) B h0 h1 h2,Uo s ho⟩
theorem Stp.lay{b:Nat}{ob:AObj}{ps:List PO}(s:PT R Z ow h K.os)(hx:K.ext<=K.os.length):Stp b Z ow h K Z (j8 ow h.next [K.os.length]) (h.push ob) {K with os:=K.os++ps}:=by
 have hg:∀d,d<h.next->(h.push ob).get d=h.get d:=(by grind[Go.AM.Heap.get_push_ne])
 have hne:∀d M,ow d=zs M->d≠h.next:=fun d M A e=>by have:=(s.live d M A).1;omega
 refine⟨zqx _,fun d hz=>⟨hz,hg d (s.zb d hz)⟩,fun d hz=>.inl hz,fun d A _=>hg d A,fun d M A hl e=>?_,⟨[],rfl,fun d A=>by cases A⟩,fun d r t ho _=>.inl ⟨t,?_⟩,fun r B _=>B,rfl,fun j C c B=>?_,fun j C B=>?_⟩
 . simp_all[j8]
 . simp_all[j8]
 . unfold j8
   grind
 grind[isRt]
def GN(E:Env):Prop:=∀t ti,E.ti t=zs ti->(∀Z h,Fz Z h ti.zero ti.zero)/\ti.zero.cells.length=ti.size
theorem Dc(os:List PO){e:PO}(he:(∃k es sz,e=.row k es sz)\/∃es,e=.mapo es):isRt (os++[e]) os.length=zt:=by
 unfold isRt;grind
theorem Qp(h:Heap)(ob:AObj):(h.push ob).get h.next=zs ob:=Heap.get_push_eq h ob
theorem Mk(s:PT R Z ow h os)(a:Nat)(t:List Nat)(ha:j8 ow h.next [os.length] a=zs (os.length::t)):t=[]:=((own1_new s).1 ha).2
theorem U7(ow:Nat->Option (List Nat))(c:Nat)(L:List Nat):j8 ow c L c=zs L:=by unfold j8;grind
theorem Nt(os:List PO){e:PO}(he:(∃k es sz,e=.row k es sz)\/∃es,e=.mapo es):loP (os++[e]) 6 os.length=zs [os.length]:=by
 unfold loP;grind
theorem nG(s:F7 Z ow h K.os)(B:K.ext<=K.os.length){sz:Nat}{v vc:AV}(J:VR Z ow h K.os vc v)(hl:v.cells.length=sz)(ho:∀b∈v.cells,Ev b=zt):
 F7 Z (j8 ow h.next [K.os.length]) (h.push (.row [vc] sz)) (newRow 1 [v] sz K).os/\Keep' ow K.os (j8 ow h.next [K.os.length]) (newRow 1 [v] sz K).os/\VR Z (j8 ow h.next [K.os.length]) (h.push (.row [vc] sz)) (newRow 1 [v] sz K).os (.ptr h.next 0 0) (.ptr K.os.length 0 0)/\∀b,Stp b Z ow h K Z (j8 ow h.next [K.os.length]) (h.push (.row [vc] sz)) (newRow 1 [v] sz K):=by
 have C:v≠.und:=fun e=>by subst e;exact absurd (ho .und (zqh ..)) (by decide)
 have hsh:=J.shape C;have H:=J.cells C;have O:(∃k es z,PO.row 1 [v] sz=.row k es z)\/∃es,PO.row 1 [v] sz=.mapo es:=.inl ⟨_,_,_,rfl⟩;have A:=PT.lay (ob:=.row [vc] sz) s (e:=.row 1 [v] sz) (Dc _ O) (fun es z e=>by cases e) (fun k es z e hk=>by
  cases e;refine⟨h.next,[vc],U7 _ _ _,zqy _,Qp h _,⟨rfl,fun i x y B G=>?_⟩,fun i x y B G o a b ha hb=>?_,fun i y G b hb=>?_,Mk s⟩
  . grind
  . cases i with
    |zero=>cases B;cases G;exact H.2 o a b ha hb
    |succ i=>simp at B
  grind) (fun es e=>by cases e)
 refine⟨F7.to A.1 (fun d N=>⟨N,Heap.get_push_ne h _ (by have:=s.zb d N;omega)⟩) A.2,A.2,.ptr (fun L hL=>?_) (by show _<(K.os++[PO.row 1 [v] sz]).length;simp),fun b=>Stp.lay s B⟩;have hL:loP (K.os++[PO.row 1 [v] sz]) 6 K.os.length=zs L:=hL;grind[Nt,U7]
theorem fX(s:F7 Z ow h K.os)(B:K.ext<=K.os.length){sz n:Nat}{z:AV}(hz:∀Z h,Fz Z h z z)(hl:z.cells.length=sz):
 F7 Z (j8 ow h.next [K.os.length]) (h.push (.row (zqa n z) sz)) (newRow 0 (zqa n z) sz K).os/\Keep' ow K.os (j8 ow h.next [K.os.length]) (newRow 0 (zqa n z) sz K).os/\VR Z (j8 ow h.next [K.os.length]) (h.push (.row (zqa n z) sz)) (newRow 0 (zqa n z) sz K).os (.msl h.next 0 n sz) (.msl K.os.length 0 n sz)/\∀b,Stp b Z ow h K Z (j8 ow h.next [K.os.length]) (h.push (.row (zqa n z) sz)) (newRow 0 (zqa n z) sz K):=by
 have J:(∃k es C,PO.row 0 (zqa n z) sz=.row k es C)\/∃es,PO.row 0 (zqa n z) sz=.mapo es:=.inl ⟨_,_,_,rfl⟩;have hrep:∀{i:Nat}{x:AV},(zqa n z)[i]?=zs x->x=z:=(by grind)
 have A:=PT.lay (ob:=.row (zqa n z) sz) s (e:=.row 0 (zqa n z) sz) (Dc _ J) (fun es C e=>by
  cases e;refine⟨_,.own (k:=0) (U7 _ _ _) (zqy _) (Qp h _) rfl (fun c t hc=>.inl (Mk s c t hc)) (fun i x y B G=>?_) (fun i x y B G o a b ha hb=>?_)⟩
  . grind
  . rw [hrep B]at ha
    rw[hrep G]at hb
    have:=(hz Z (h.push (.row (zqa n z) sz))).cell ha hb
    exact .val this.1 this.2 fun c t hc=>by
     grind[Mk]) (by grind) (fun es e=>by cases e)
 refine⟨F7.to A.1 (fun d H=>⟨H,Heap.get_push_ne h _ (by have:=s.zb d H;omega)⟩) A.2,A.2,.msl (fun L hL=>?_) (by show _<(K.os++[PO.row 0 (zqa n z) sz]).length;simp),fun b=>Stp.lay s B⟩;have hL:loP (K.os++[PO.row 0 (zqa n z) sz]) 6 K.os.length=zs L:=hL;grind[Nt,U7]
theorem qM(s:F7 Z ow h K.os)(B:K.ext<=K.os.length):
 F7 Z (j8 ow h.next [K.os.length]) (h.push (.mapo [])) (K.os++[.mapo []])/\Keep' ow K.os (j8 ow h.next [K.os.length]) (K.os++[.mapo []])/\VR Z (j8 ow h.next [K.os.length]) (h.push (.mapo [])) (K.os++[.mapo []]) (.map h.next) (.map K.os.length)/\∀b,Stp b Z ow h K Z (j8 ow h.next [K.os.length]) (h.push (.mapo [])) {K with os:=K.os++[.mapo []]}:=by
 have H:(∃k es C,PO.mapo []=.row k es C)\/∃es,PO.mapo []=.mapo es:=.inr ⟨_,rfl⟩;have A:=PT.lay (ob:=.mapo []) s (e:=.mapo []) (Dc _ H) (fun es C e=>by cases e) (fun k es z e hk=>by cases e) (fun es e=>by
  cases e;exact⟨h.next,[],U7 _ _ _,zqy _,Qp h _,rfl,fun i x y B=>by simp at B,Mk s⟩)
 refine⟨F7.to A.1 (fun d G=>⟨G,Heap.get_push_ne h _ (by have:=s.zb d G;omega)⟩) A.2,A.2,.map (fun L hL=>?_) (by simp),fun b=>Stp.lay s B⟩;grind[Nt,U7]
end
section
variable {E:Env}{R:AV->AV->Prop}{Z Z':Nat->Prop}{ow ow' owk:Nat->Option (List Nat)}{h h':Heap}{K K':PK}{os os':List PO}{x y:AV}{L M:List Nat}
noncomputable def kD(ow:Nat->Option (List Nat))(Gn:List Nat->Prop)(G:Nat->Nat->List Nat)(N sz c n:Nat):Nat->Option (List Nat):=fun d=>open Classical in
 if d=c then zs [n]else match ow d with
 |none=>znq
 |some M=>if hx:∃p:Nat×Nat×List Nat,p.1<N/\p.2.1<sz/\M=G p.1 p.2.1++p.2.2 then zs (n::hx.choose.1::hx.choose.2.1::hx.choose.2.2)else if Gn M then znq else zs M
theorem Hm{Gn:List Nat->Prop}{G:Nat->Nat->List Nat}{N sz c n d:Nat}{M':List Nat}(U:∀i o t,i<N->o<sz->Gn (G i o++t))(V:∀i o t i' o' t',i<N->o<sz->i'<N->o'<sz->G i o++t=G i' o'++t'->i=i'/\o=o'/\t=t'):
 kD ow Gn G N sz c n d=zs M'↔(d=c/\M'=[n])\/(d≠c/\∃i o t,i<N/\o<sz/\ow d=zs (G i o++t)/\M'=n::i::o::t)\/(d≠c/\ow d=zs M'/\¬Gn M'):=by
 unfold kD;by_cases O:d=c
 . grind
 . rw [if_neg O]
   cases e:ow d with
   |none=>
    grind
   |some M=>
    simp only;by_cases H:∃p:Nat×Nat×List Nat,p.1<N/\p.2.1<sz/\M=G p.1 p.2.1++p.2.2
    . rw [dif_pos H]
      have Q:=H.choose_spec;generalize H.choose=p at Q;obtain⟨h1,h2,J⟩:=Q
      constructor
      . intro h;cases h
        exact .inr (.inl ⟨O,_,_,_,h1,h2,by rw[J],rfl⟩)
      . rintro (⟨h,_⟩|⟨_,i,o,t,A,B,C,rfl⟩|⟨_,A,B⟩)
        . exact absurd h O
        . have C:=Option.some.inj C
          rw[J]at C;obtain⟨a,b,c⟩:=V _ _ _ _ _ _ h1 h2 A B C;rw[a,b,c]
        . cases A
          exact absurd (by rw[J];exact U _ _ _ h1 h2) B
    . rw [dif_neg H]
      by_cases hg:Gn M
      . rw [if_pos hg]
        constructor
        . intro h;cases h
        . rintro(⟨h,_⟩|⟨_,i,o,t,A,B,C,rfl⟩|⟨_,A,B⟩)
          . grind
          . simp_all
          grind
      grind
theorem PT.graft(s:PT R Z owk h os){Gn:List Nat->Prop}{G:Nat->Nat->List Nat}{sz c:Nat}{ces es:List AV}(J:∀d M,owk d=zs M↔ow d=zs M/\¬Gn M)(hinj:∀a b M,ow a=zs M->ow b=zs M->a=b)(hlive:∀a M,ow a=zs M->a<h.next/\¬Z a)
 (hG:∀i o t,i<es.length->o<sz->Gn (G i o++t))(hu:∀i o t i' o' t',i<es.length->o<sz->i'<es.length->o'<sz->G i o++t=G i' o'++t'->i=i'/\o=o'/\t=t')(hs:cF sz ces es)
 (hcr:∀(i:Nat) x y,ces[i]?=zs x->es[i]?=zs y->∀(o:Nat) a b,x.cells[o]?=zs a->y.cells[o]?=zs b->CR Z ow h (G i o) a b)(hn:h.next<=h'.next)(hZ:∀d,Z d->h'.get d=h.get d)(hc:c<h'.next)(hcz:¬Z c)(hget:h'.get c=zs (.row ces sz))(hoc:∀M,ow c=zs M->Gn M/\∀i o t,i<es.length->o<sz->M≠G i o++t)
 (hg:∀d M,ow d=zs M->(¬Gn M\/∃i o t,i<es.length/\o<sz/\M=G i o++t)->h'.get d=h.get d):
 PT R Z (kD ow Gn G es.length sz c os.length) h' (os++[.row 0 es sz])/\Keep' owk os (kD ow Gn G es.length sz c os.length) (os++[.row 0 es sz]):=by
 have gs:=fun d M'=>Hm (ow:=ow) (c:=c) (n:=os.length) (d:=d) (M':=M') hG hu
 have hz:∀d,Z d->Z d/\h'.get d=h.get d:=fun d A=>⟨A,hZ d A⟩
 have ho:∀d M,(∀t,M≠os.length::t)->(kD ow Gn G es.length sz c os.length d=zs M↔owk d=zs M):=(by grind)
 have hno:∀d t,ow d=zs (os.length::t)->Gn (os.length::t):=fun d t A=>Classical.byContradiction fun hg=>s.noHead d t ((J _ _).2 ⟨A,hg⟩)
 refine⟨s.new _ hn hZ (by grind) ho (fun a b t ha hb=>?_) (fun d t A=>?_) (Dc _ (.inl ⟨_,_,_,rfl⟩)) (fun es' sz' e=>?_) (by grind) (fun es' e=>by cases e),Uo s ho⟩
 . grind
 . grind
 . cases e
   have B:kD ow Gn G es.length sz c os.length c=zs [os.length]:=(gs c _).2 (.inl ⟨rfl,rfl⟩);refine⟨_,.own (k:=0) B hc hget hs.1 (fun d t A=>?_) hs.2 fun i x y H C o a b ha hb=>?_⟩
   . grind
   . have hi:i<es.length:=(zqb.1 C).1
     have hoo:o<sz:=by
      have:=(zqb.1 hb).1
      rw[(hs.2 i x y H C).2.1]at this;exact this
     refine(hcr i x y H C o a b ha hb).reloc hn hz (fun d q=>?_) (by grind);rw[gs];grind
end
section
variable {E:Env}{R:AV->AV->Prop}{Z Z':Nat->Prop}{ow ow' ow1:Nat->Option (List Nat)}{h h':Heap}{K K':PK}{os os' os1:List PO}{x y:AV}{L M:List Nat}
theorem fY{q:Nat}:∀(n j:Nat)(L:List Nat),loP (os.set q .dead) n j=zs L->loP os n j=zs L
 |0,_,_,e=>by cases e
 |n + 1,j,L,e=>by
  unfold loP at e|-;rw[zqc]at e;by_cases C:q=j
  . grind
  . rw [if_neg C]at e
    cases G:os[j]? with
    |none=>grind
    |some a=>
     rw[G]at e;cases a with
     |sub p i o=>
      simp only at e|-;cases A:loP (os.set q .dead) n p with
      |none=>grind
      |some B=>rw[A]at e;rw[fY n p B A];exact e
     |dead=>cases e
     |_=>exact e
theorem PT.giveup(s:PT R Z ow h os)(id:Nat):PT R Z (clr ow (Und [id])) h ((killP os id []).set id .dead)/\Keep' ow os (clr ow (Und [id])) ((killP os id []).set id .dead)/\
 (∀n j L,loP ((killP os id []).set id .dead) n j=zs L->loP os n j=zs L)/\(∀j,isRt ((killP os id []).set id .dead) j=zt->isRt os j=zt/\j≠id)/\((killP os id []).set id .dead).length=os.length/\∀j,j≠id->((killP os id []).set id .dead)[j]?=os[j]?\/∃p i o,os[j]?=zs (.sub p i o):=by
 have w:=Uf os id [];have B:∀n j L,loP ((killP os id []).set id .dead) n j=zs L->loP os n j=zs L:=fun n j L hl=>w.lo n j L (fY n j L hl)
 refine⟨(s.wk w).drop (.inr rfl),⟨by rw[zqg,w.1];grind,fun j A L' hl=>⟨L',B _ _ _ hl,fun c=>?_⟩⟩,B,fun j A=>?_,by rw[zqg,w.1],fun j A=>?_⟩
 . rw [clr_some]
   refine⟨fun h=>⟨h,fun⟨t,ht⟩=>?_⟩,fun h=>h.1⟩;have h2:=B _ _ _ hl;unfold loP at hl;rw[zqc]at hl;by_cases e:id=j
   . grind
   . rw [if_neg e]at hl
     cases C:(killP os id [])[j]? with
     |none=>grind
     |some a=>
      rw[C]at hl;cases a with
      |dead=>cases hl
      |sub p i o=>
       rcases killP_sub C with h|h
       . grind[H5]
       . cases h
      |_=>grind
 . unfold isRt at A
   rw[zqc]at A;by_cases e:id=j
   . grind
   . rw[if_neg e]at A
     exact⟨by rw[<-w.rt];exact A,fun G=>e G.symm⟩
 . rw[zqc,if_neg (fun e=>A e.symm)]
   rcases w.2 j with h|⟨p,i,o,h,_⟩
   . exact .inl h
   grind
structure TkB(R:AV->AV->Prop)(Z:Nat->Prop)(ow:Nat->Option (List Nat))(h:Heap)(os:List PO)(te:TI)(sc s:AV)(base:List AV)(os1:List PO)(tc:List Nat)(ow1:Nat->Option (List Nat)):Prop where
 pt:PT R Z ow1 h os1
 keep:Keep' ow os ow1 os1
 len:os1.length=os.length
 rt:∀j,isRt os1 j=zt->isRt os j=zt
 sb:∀d M,ow1 d=zs M->ow d=zs M
 tcr:∀d r t,ow d=zs (r::t)->ow1 d=zs (r::t)\/r∈tc
 lo:∀n j L,loP os1 n j=zs L->loP os n j=zs L
 rd:∀j,isRt os1 j=zt->∀d,ow d=zs [j]->ow1 d=zs [j]
 alt:((sc=.nilsl\/sc=.nilsl)/\base=[]/\(ow1=ow\/∃r t,r∈tc/\∀d M,ow1 d=zs M↔ow d=zs M/\¬Und (r::t) M))\/∃c off n L es ces,sc=.msl c off n te.size/\ow c=zs L/\c<h.next/\h.get c=zs (.row ces te.size)/\cF te.size ces es/\off+n<=es.length/\base=(es.drop off).take n/\
  (∀(i:Nat) x y,ces[i]?=zs x->es[i]?=zs y->∀(o:Nat) a b,x.cells[o]?=zs a->y.cells[o]?=zs b->CR Z ow h (L++[i,o]) a b)/\(∀d M,ow1 d=zs M↔ow d=zs M/\¬Und L M)/\(∃r t,L=r::t/\r∈tc)/\(wholeP s os=zt->off=0/\n=es.length)
theorem Up{te:TI}{s sc:AV}{base:List AV}{tc:List Nat}(p:PT R Z ow h os)(hv:VR Z ow h os sc s)(A:takeB te s os=zs (base,os1,tc)):∃ow1,TkB R Z ow h os te sc s base os1 tc ow1:=by
 cases s with
 |nilsl=>
  cases A;exact⟨ow,p,.refl _ _,rfl,fun _ h=>h,fun _ _ h=>h,fun _ _ _ h=>.inl h,fun _ _ _ h=>h,fun _ _ _ h=>h,.inl ⟨.inl hv.isN,rfl,.inl rfl⟩⟩
 |msl id off n sz=>
  unfold takeB at A;simp only at A;cases H:rowOf os 6 id with
  |none=>rw[H]at A;cases A
  |some q=>
   obtain⟨k,es,z⟩:=q;rw[H]at A;simp only at A;split at A
   . rename_i hc
     obtain ⟨rfl,rfl,rfl,ao⟩:=hc;obtain⟨L,C,ad⟩:=p.get 6 id 0 es te.size H;have ag:rawAt os id=zf:=by
      cases e:rawAt os id with
      |false=>rfl
      |true=>exact absurd rfl (Hl H e).2
     obtain ⟨x0,ad⟩:∃x,CR Z ow h L x (ownd 0 te.size es):=by
      rcases ad with⟨h1,_⟩|⟨_,h⟩
      . rw[ag]at h1;cases h1
      . exact h
     obtain⟨tl,al,hrt,_⟩:=H5 6 id L C;have U:∀ow1:Nat->Option (List Nat),(∀d M,ow1 d=zs M↔ow d=zs M/\¬Und L M)->∀tc:List Nat,rootOf os 6 id∈tc->((sc=.nilsl\/sc=.nilsl)/\(es.drop off).take n=[]/\(ow1=ow\/∃r t,r∈tc/\∀d M,ow1 d=zs M↔ow d=zs M/\¬Und (r::t) M))\/∃c B n' L es' ces,sc=.msl c B n' te.size/\ow c=zs L/\c<h.next/\h.get c=zs (.row ces te.size)/\cF te.size ces es'/\B+n'<=es'.length/\(es.drop off).take n=(es'.drop B).take n'/\
      (∀(i:Nat) x y,ces[i]?=zs x->es'[i]?=zs y->∀(o:Nat) a b,x.cells[o]?=zs a->y.cells[o]?=zs b->CR Z ow h (L++[i,o]) a b)/\(∀d M,ow1 d=zs M↔ow d=zs M/\¬Und L M)/\(∃r t,L=r::t/\r∈tc)/\(wholeP (.msl id off n te.size) os=zt->B=0/\n'=es'.length):=by
      intro ow1 h1 tc af;generalize hy:AV.msl id off n te.size=y at hv;cases hv with
      |fz f=>cases f<;>cases hy
      |mnil e _ _=>
       cases hy;exact .inl ⟨e,by simp,.inr ⟨_,tl,af,by rw[<-al];exact h1⟩⟩
      |@msl id' c B n' sz' h2 h3=>
       cases hy;have ab:=h2 L C;rcases ad.inv with⟨_,_,_,h4⟩|⟨c0,ces,_,h4,V,h6,h7,_,h9⟩
       . exact absurd (by simpa using ab) (h4 c [])
       . have:c=c0:=p.inj _ _ _ ab h4
         subst this;refine .inr ⟨c,off,n,L,es,ces,rfl,ab,V,h6,h7,ao,rfl,h9,h1,⟨_,tl,al,af⟩,fun hw=>?_⟩;unfold wholeP at hw;simp only at hw;rw[H]at hw;simp only[Bool.and_eq_true,beq_iff_eq]at hw;exact hw
      |_=>cases hy
     cases he:os[id]? with
     |none=>grind
     |some e=>
      rw[he]at A;cases e with
      |row k es0 z0=>
       cases A;have hLid:L=[id]:=by grind[loP]
       have hrid:rootOf os 6 id=id:=by grind
       obtain⟨g1,g2,g3,g4,g5,_⟩:=p.giveup id;refine⟨clr ow (Und [id]),g1,g2,g5,fun j hj=>(g4 j hj).1,fun d M N=>(clr_some.1 N).1,fun d r t N=>?_,g3,fun j hj d N=>clr_some.2 ⟨N,fun⟨u,O⟩=>(g4 j hj).2 (List.cons.inj O).1⟩,U _ (by grind[Go.AM.clr_some]) _ (by grind)⟩;by_cases e:r=id
       . right;rw[e];exact zqo.2 rfl
       . left;exact clr_some.2 ⟨N,fun⟨u,O⟩=>e (List.cons.inj O).1⟩
      |sub q i o=>
       simp only at A;cases hp:rowOf os 6 q with
       |none=>rw[hp]at A;cases A
       |some t1=>
        obtain⟨kp,J,pz⟩:=t1;rw[hp]at A;simp only at A;split at A
        . rename_i an
          subst an;cases hi:J[i]? with
          |none=>rw[hi]at A;cases A
          |some v=>
           rw[hi]at A;simp only at A;cases G:setRow (killP os (rootOf os 6 id) (chainOf os 6 q)) 6 q (J.set i (v.withCells o [.und]))with
           |none=>rw[G]at A;cases A
           |some os2=>
            rw [G]at A;cases A;have hroot:rootOf os 6 q=rootOf os 6 id:=by
             have e1:rootOf os 6 id=rootOf os 5 q:=by
              grind[rootOf]
             obtain ⟨X,ah,_⟩:=p.get 6 q 0 J pz hp;have V:loP os 5 q=zs X:=by
              unfold loP at C;rw[he]at C;simp only at C;cases V:loP os 5 q with
              |none=>grind
              |some L5=>rw[loP_uniq V ah]
             grind[H5]
            have w:=Uf os (rootOf os 6 id) (chainOf os 6 q);obtain⟨k',pes',pz',ae⟩:=Uk _ _ _ _ G
            have:=Um w 6 q _ ae
            rw [hp]at this;cases this;have pk:=p.wk w;have ac:rawAt os q=zf:=by
             cases e:rawAt os q with
             |false=>rfl
             |true=>exact absurd rfl (Hl hp e).2
            obtain ⟨X,Y,_⟩:=pk.get 6 q 0 J pz ae;have ah:=w.lo 6 q X Y;have ai:L=X++[i,o]:=by
             unfold loP at C;rw[he]at C;simp only at C;cases V:loP os 5 q with
             |none=>grind
             |some L5=>grind[loP_uniq]
            have hvo:o<v.cells.length/\v.cells.length=pz:=by
             unfold rowOf at H;rw[he]at H;simp only at H;cases V:rowOf os 5 q with
             |none=>grind
             |some t5=>
              obtain⟨k5,es5,z5⟩:=t5;have h6:=Ul 5 q _ V;rw[hp]at h6;cases h6;rw[V]at H;simp only at H;rw[hi]at H;simp only at H;cases ho:v.cells[o]? with
              |none=>grind
              |some c=>
               refine⟨(zqb.1 ho).1,?_⟩;obtain⟨_,_,hq⟩:=p.get 6 q 0 J pz hp;rcases hq with⟨h1,_⟩|⟨_,xq,hq⟩
               . grind
               . rcases hq.inv with⟨_,e2,_⟩|⟨_,cq,_,_,_,_,am,_⟩
                 . grind
                 . have hl:i<cq.length:=by rw[am.1];grind
                   exact(am.2 i _ v (zqd hl) hi).2.1
            have aj:∀M,AtC X i o 1 M↔Und L M:=fun M=>by
             rw[ai]
             constructor
             . rintro⟨o',h1,h2,h3⟩
               grind
             . exact fun h=>⟨o,zqt _,by omega,h⟩
            have Q:∀j L1,loP (killP os (rootOf os 6 id) (chainOf os 6 q)) 6 j=zs L1->¬AtC X i o 1 L1:=(by grind[Go.AM.kill_alive])
            obtain⟨s2,k2,_⟩:=pk.forget (n:=1) ae ((w.raw q).trans ac) Y hi (by omega) (by omega) Q G;obtain⟨r0,kr0,er0,sr0,er0',ap,aa⟩:=Ju _ _ _ _ G;have ak:∀d M,clr ow (AtC X i o 1) d=zs M↔ow d=zs M/\¬Und L M:=fun d M=>by rw[clr_some,aj]
            refine ⟨clr ow (AtC X i o 1),s2,w.keep.trans k2,by rw[aa,zqg,w.1],fun j hj=>by rw[aa,isRt_set ap,w.rt]at hj;exact hj,fun d M N=>(clr_some.1 N).1,fun d r t N=>?_,fun n j L hl=>w.lo n j L (by grind[Bl]),fun j _ d N=>(ak _ _).2 ⟨N,fun⟨u,O⟩=>by
             rw[ai]at O
             have:=congrArg zqn O
             grind⟩,U _ ak _ (zqo.2 rfl)⟩
            by_cases O:Und L (r::t)
            . right
              obtain⟨u,O⟩:=O;grind
            grind
        . cases A
      |_=>cases A
   . cases A
 |_=>cases A
end
section
variable {E:Env}{R:AV->AV->Prop}{Z Z':Nat->Prop}{ow ow' ow1 ow2:Nat->Option (List Nat)}{h h':Heap}{K K':PK}{os os' os1 os2:List PO}{x y:AV}{L M:List Nat}
theorem Qq{id off n s sz:Nat}{row:List AV}(hg:h.get id=zs (.row row sz))(hn:off+n<=row.length):elems (.msl id off n s) h=zs ((row.drop off).take n):=by
 show h.onRow id znq (fun es _=>bif Nat.ble (Nat.add off n) (lenL es)then zs (takeL (dropL es off) n)else znq)=_
 rw[Hk hg,A3];simp_all[zqw,G4,G3]
theorem Fz.elems{es:List AV}{f:Bool}(z:Fz Z h x (.fsl es f)):∃xs,elems x h=zs xs/\xs.length=es.length/\∀(i:Nat) a b,xs[i]?=zs a->es[i]?=zs b->Fz Z h a b:=by
 cases z with
 |emp e=>
  cases e with
  |_=>exact⟨[],rfl,rfl,fun i a b ha=>by simp at ha⟩
 |fsl h1 h2 A=>exact⟨_,rfl,h1,h2⟩
 |view h1 h2 A h4 h5 h6=>
  refine⟨_,Qq h2 A,by simp;omega,fun i a b ha hb=>?_⟩;grind
structure TkE(R:AV->AV->Prop)(Z:Nat->Prop)(ow1:Nat->Option (List Nat))(h:Heap)(os1:List PO)(ext:Nat)(tc:List Nat)(te:TI)(xcs xs:List AV)(os2:List PO)(ow2:Nat->Option (List Nat)):Prop where
 pt:PT R Z ow2 h os2
 keep:Keep' ow1 os1 ow2 os2
 len:os2.length=os1.length
 rt:∀j,isRt os2 j=zt->isRt os1 j=zt
 sb:∀d M,ow2 d=zs M->ow1 d=zs M
 ex:∀d r t,ow1 d=zs (r::t)->r<ext->ow2 d=zs (r::t)
 ln:xcs.length=xs.length
 alt:(ow2=ow1/\∀(i:Nat) a b,xcs[i]?=zs a->xs[i]?=zs b->Fz Z h a b/\b.cells.length=te.size)\/∃q u,ext<=q/\¬q∈tc/\cF te.size xcs xs/\
  (∀(i:Nat) x y,xcs[i]?=zs x->xs[i]?=zs y->∀(o:Nat) a b,x.cells[o]?=zs a->y.cells[o]?=zs b->CR Z ow1 h (q::u++[i,o]) a b)/\(∀d M,ow2 d=zs M↔ow1 d=zs M/\¬Und (q::u) M)
theorem TkE.closed(p:PT R Z ow1 h os1){ext:Nat}{tc:List Nat}{te:TI}{xcs xs:List AV}(hl:xcs.length=xs.length)(hz:∀(i:Nat) a b,xcs[i]?=zs a->xs[i]?=zs b->Fz Z h a b/\b.cells.length=te.size):TkE R Z ow1 h os1 ext tc te xcs xs os1 ow1:=
 ⟨p,.refl _ _,rfl,fun _ h=>h,fun _ _ h=>h,fun _ _ _ h _=>h,hl,.inl ⟨rfl,hz⟩⟩
theorem Ef{sz:Nat}{xcs xs:List AV}(hl:xcs.length=xs.length)(hz:∀(i:Nat) a b,xcs[i]?=zs a->xs[i]?=zs b->a.cells.length=sz):F2 sz xcs=zt:=by
 grind[o5,zqi]
theorem fZ{te:TI}{xc x:AV}{xs:List AV}{ext:Nat}{tc:List Nat}(p:PT R Z ow1 h os1)(hv:VR Z ow1 h os1 xc x)(A:takeE te x ext tc os1=zs (xs,os2)):∃ow2 xcs,elems xc h=zs xcs/\F2 te.size xcs=zt/\TkE R Z ow1 h os1 ext tc te xcs xs os2 ow2:=by
 cases x with
 |nilsl=>
  cases A;rw[hv.isN];exact⟨ow1,[],rfl,rfl,.closed p rfl fun i a b ha=>by simp at ha⟩
 |fsl es f=>
  unfold takeE at A;simp only at A;split at A
  . rename_i hs
    cases A;cases hv with
    |fz z=>
     obtain⟨xcs,h1,h2,B⟩:=z.elems;rw[o5]at hs;have N:∀(i:Nat) a b,xcs[i]?=zs a->xs[i]?=zs b->Fz Z h a b/\b.cells.length=te.size:=fun i a b ha hb=>⟨B i a b ha hb,hs b (zqe hb)⟩
     exact⟨ow1,xcs,h1,Ef h2 fun i a b ha hb=>(B i a b ha hb).shape.1.trans (N i a b ha hb).2,.closed p h2 N⟩
  . cases A
 |msl id off n sz=>
  unfold takeE at A;simp only at A;cases H:rowOf os1 6 id with
  |none=>rw[H]at A;cases A
  |some q=>
   obtain⟨k,es,z⟩:=q;rw[H]at A;simp only at A;split at A
   . rename_i hc
     obtain ⟨rfl,rfl,rfl,hle⟩:=hc;obtain⟨L,U,ae⟩:=p.get 6 id 0 es te.size H;have ag:rawAt os1 id=zf:=by
      cases e:rawAt os1 id with
      |false=>rfl
      |true=>exact absurd rfl (Hl H e).2
     obtain ⟨x0,ae⟩:∃x,CR Z ow1 h L x (ownd 0 te.size es):=by
      rcases ae with⟨h1,_⟩|⟨_,h⟩
      . rw[ag]at h1;cases h1
      . exact h
     have Y:((xc=.nilsl\/xc=.nilsl)/\n=0/\off=0/\∀c,ow1 c≠zs L)\/∃c ces,xc=.msl c off n te.size/\ow1 c=zs L/\h.get c=zs (.row ces te.size)/\cF te.size ces es/\∀(i:Nat) x y,ces[i]?=zs x->es[i]?=zs y->∀(o:Nat) a b,x.cells[o]?=zs a->y.cells[o]?=zs b->CR Z ow1 h (L++[i,o]) a b:=by
      generalize hy:AV.msl id off n te.size=y at hv;cases hv with
      |fz f=>cases f<;>cases hy
      |mnil e h1 _=>
       cases hy;exact .inl ⟨e,rfl,rfl,h1 L U⟩
      |@msl id' c off' n' sz' h2 B=>
       cases hy;have ad:=h2 L U;rcases ae.inv with⟨_,_,_,N⟩|⟨c0,ces,_,N,h5,h6,h7,_,h9⟩
       . exact absurd (by simpa using ad) (N c [])
       . have:c=c0:=p.inj _ _ _ ad N
         subst this;exact .inr ⟨c,ces,rfl,ad,h6,h7,h9⟩
      |_=>cases hy
     have O:(xc=.nilsl\/xc=.nilsl)->elems xc h=zs []:=fun e=>by rcases e with rfl|rfl<;>rfl
     cases al:flatT te with
     |true=>
      rw[al]at A;simp only at A;split at A
      . rename_i am
        cases A;rcases Y with⟨e,rfl,rfl,_⟩|⟨c,ces,rfl,h1,h2,B,N⟩
        . exact⟨ow1,[],O e,rfl,.closed p (by simp) fun i a b ha=>by simp at ha⟩
        . have hz:∀(i:Nat) a b,ces[i]?=zs a->es[i]?=zs b->Fz Z h a b/\b.cells.length=te.size:=fun i a b ha hb=>by
           have G:=B.2 i a b ha hb;have ah:∀u∈b.cells,clo u=zt:=fun u hu=>zqf.1 (zqf.1 am b (zqe hb)) u hu
           have C:∀(o:Nat) u w,a.cells[o]?=zs u->b.cells[o]?=zs w->Fz Z h u w:=fun o u w hu hw=>by
            have hc:=N i a b ha hb o u w hu hw;have an:=ah w (zqe hw);cases hc with
            |val f _ _=>exact f
            |_=>cases an
           refine⟨?_,G.2.1⟩;cases X:isAg b with
           |true=>
            cases b with
            |agg bs=>
             cases a with
             |agg as1=>exact .agg (G.1.trans G.2.1.symm) C (zqf.2 ah)
             |_=>rw[X]at G;cases G.2.2
            |_=>cases X
           |false=>
            have ao:=G.2.2.trans X;rw[C3 X,C3 ao]at C;exact C 0 a b rfl rfl
          have ai:ces.length=es.length:=B.1;refine⟨ow1,(ces.drop off).take n,Qq h2 (by omega),Ef (xs:=(es.drop off).take n) (by simp[ai]) (fun i a b ha hb=>?_),.closed p (by simp[ai]) fun i a b ha hb=>?_⟩
          . rw[m9]at ha hb
            split at ha
            . rename_i hi;rw[if_pos hi]at hb;exact(B.2 _ a b ha hb).1
            . cases ha
          . rw[m9]at ha hb
            split at ha
            . rename_i hi;rw[if_pos hi]at hb;exact hz _ a b ha hb
            . cases ha
      . cases A
     |false=>
      rw[al]at A;simp only at A;cases he:os1[id]? with
      |none=>rw[he]at A;cases A
      |some e=>
       rw[he]at A;cases e with
       |sub=>
        simp only at A;split at A
        . rename_i ac
          obtain⟨rfl,rfl⟩:=ac;cases hb:takeB te (.msl id 0 es.length te.size) os1 with
          |none=>rw[hb]at A;cases A
          |some w=>
           obtain⟨base,o2,ap⟩:=w;rw[hb]at A;simp only at A;split at A
           . rename_i af
             cases A;obtain⟨ow2,J⟩:=Up p hv hb;have Q:∀r∈ap,ext<=r/\¬r∈tc:=fun r H=>by
              have:=zqf.1 af r H
              simpa using this
             have aj:∀d r t,ow1 d=zs (r::t)->r<ext->ow2 d=zs (r::t):=fun d r t V hlt=>(J.tcr d r t V).resolve_right fun h=>by have:=(Q r h).1;omega
             rcases J.alt with⟨e,rfl,hz⟩|⟨c,off,n,L,es',ces,rfl,h1,_,h2,B,N,rfl,h5,h6,⟨r,t,rfl,h7⟩,h8⟩
             . refine⟨ow2,[],O e,rfl,J.pt,J.keep,J.len,J.rt,J.sb,aj,rfl,?_⟩
               rcases hz with rfl|⟨r,t,H,hz⟩
               . exact .inl ⟨rfl,fun i a b ha=>by simp at ha⟩
               . exact .inr ⟨r,t,(Q r H).1,(Q r H).2,⟨rfl,fun i x y hx=>by simp at hx⟩,fun i x y hx=>by simp at hx,hz⟩
             . obtain⟨rfl,rfl⟩:=h8 (by unfold wholeP;simp only;rw[H];simp)
               have e0:(es'.drop 0).take es'.length=es':=by simp
               rw[e0];refine⟨ow2,ces,?_,Ef B.1 fun i a b ha hb=>(B.2 i a b ha hb).1,J.pt,J.keep,J.len,J.rt,J.sb,aj,B.1,.inr ⟨r,t,(Q r h7).1,(Q r h7).2,B,h5,h6⟩⟩
               have:=Qq (s:=te.size) (off:=0) (n:=es'.length) h2 (by rw[B.1];omega)
               rw[this,List.drop_zero,<-B.1,zqs]
           . cases A
        . cases A
       |row k es0 z0=>
        simp only at A;split at A
        . rename_i ac
          obtain⟨rfl,rfl,aa,ab⟩:=ac;cases A;have ak:L=[id]:=by unfold loP at U;rw[he]at U;cases U;rfl
          subst ak;obtain⟨g1,g2,g3,g4,g5,_⟩:=p.giveup id;rcases Y with⟨e,aq,_,_⟩|⟨c,ces,rfl,h1,h2,B,N⟩
          . have:xs=[]:=zqm aq
            subst this;refine⟨clr ow1 (Und [id]),[],O e,rfl,g1,g2,g5,fun j hj=>(g4 j hj).1,fun d M V=>(clr_some.1 V).1,fun d r t V H=>clr_some.2 ⟨V,fun⟨u,hu⟩=>by grind⟩,rfl,?_⟩;exact .inr ⟨id,[],aa,ab,⟨rfl,fun i x y hx=>by simp at hx⟩,fun i x y hx=>by simp at hx,fun d M=>clr_some⟩
          . refine⟨clr ow1 (Und [id]),ces,?_,Ef B.1 fun i a b ha hb=>(B.2 i a b ha hb).1,g1,g2,g5,fun j hj=>(g4 j hj).1,fun d M V=>(clr_some.1 V).1,fun d r t V H=>clr_some.2 ⟨V,fun⟨u,hu⟩=>by grind⟩,B.1,.inr ⟨id,[],aa,ab,B,N,fun d M=>clr_some⟩⟩
            have:=Qq (s:=te.size) (off:=0) (n:=xs.length) h2 (by rw[B.1];omega)
            rw[this,List.drop_zero,<-B.1,zqs]
        . cases A
       |_=>cases A
   . cases A
 |_=>cases A
end
section
variable {E:Env}{R:AV->AV->Prop}{Z Z':Nat->Prop}{ow ow' ow1 ow2:Nat->Option (List Nat)}{h h':Heap}{K K':PK}{os os' os1 os2:List PO}{x y:AV}{L M:List Nat}
theorem zI{te:TI}{s:AV}(B:s=.nilsl\/s=.nilsl){x:AV}{r:List AV}(hb:(x::r).length*te.bytes<=140737488355328):G9 te s (x::r) h=zs (.msl h.next 0 (x::r).length te.size,h.push (.row (x::r) te.size)):=by
 have A:Ay te [] zt (x::r) h=zs (.msl h.next 0 (x::r).length te.size,h.push (.row (x::r) te.size)):=by
  show M2 (Nat.add 0 (lenL (x::r))) (fun n=>A9 (zt&&Nat.ble (Nat.mul n te.bytes) 140737488355328&&k7 te.size []) (Re (x::r) fun l=>zs (AV.msl h.next 0 n te.size,h.push (.row l te.size))))=_
  rw[B7,A3,show Nat.add 0 (x::r).length=(x::r).length from zqv _]
  have:Nat.ble (Nat.mul (x::r).length te.bytes) 140737488355328=zt:=zqw hb
  rw[this,Bw];rfl
 rcases B with rfl|rfl<;>exact A
theorem zJ{te:TI}{c off n:Nat}{ces:List AV}{x:AV}{r:List AV}(hg:h.get c=zs (.row ces te.size))(hn:off+n<=ces.length)(hb:(n+(x::r).length)*te.bytes<=140737488355328):
 G9 te (.msl c off n te.size) (x::r) h=zs (.msl h.next 0 (n+(x::r).length) te.size,(h.del c).push (.row ((ces.drop off).take n++(x::r)) te.size)):=by
 show h.onRow c znq (Ki te c off n (x::r) h)=_
 rw[Hk hg];show M2 (Nat.add n (lenL (x::r))) (fun m=>A9 (Nat.ble (Nat.add off n) (lenL ces)&&Nat.beq te.size te.size&&Nat.ble (Nat.mul m te.bytes) 140737488355328) (Re (appL (takeL (dropL ces off) n) (x::r)) fun l=>zs (AV.msl h.next 0 m te.size,(h.del c).push (.row l te.size))))=_
 rw[B7,A3,A3,Nat.beq_refl];have e1:Nat.ble (Nat.add off n) ces.length=zt:=zqw hn;have e2:Nat.ble (Nat.mul (Nat.add n (x::r).length) te.bytes) 140737488355328=zt:=zqw hb;rw[e1,e2,Bw,L7,G4,G3];rfl
theorem zK{sz off n:Nat}{ces es xcs xs:List AV}(h1:cF sz ces es)(h2:cF sz xcs xs):cF sz ((ces.drop off).take n++xcs) ((es.drop off).take n++xs):=by
 have hl:((ces.drop off).take n).length=((es.drop off).take n).length:=by simp[h1.1]
 refine⟨by simp[h1.1,h2.1],fun i x y A B=>?_⟩;rw[zql]at A B;rw[hl]at A;split at A
 . rename_i hi
   rw[if_pos hi]at B;rw[m9]at A B;split at A
   . rename_i C;rw[if_pos C]at B;exact h1.2 _ x y A B
   . cases A
 . rename_i hi;rw[if_neg hi]at B;exact h2.2 _ x y A B
theorem Stp.join{b:Nat}{tc:List Nat}{e:PO}{owf:Nat->Option (List Nat)}(p:F7 Z ow h K.os)(hx:K.ext<=K.os.length)(hol:os2.length=K.os.length)(hn:h.next<=h'.next)(A:∀d,d<h.next->ow d=znq->h'.get d=h.get d)
 (hth:∃l,h'.tch=l++h.tch/\∀d∈l,∃r t,ow d=zs (r::t)/\r∈tc)(huo:∀d M,owf d=zs M->d<h.next->ow d≠znq)(hmv:∀d r t,ow d=zs (r::t)->r<K.ext->owf d=zs (r::t)\/r∈tc)
 (hxk:∀j,j<K.ext->isRt os2 j=zt->∀d,ow d=zs [j]↔owf d=zs [j])(hrt:∀j,isRt os2 j=zt->isRt K.os j=zt):Stp b Z ow h K Z owf h' {K with os:=os2++[e],tch:=os2.length::tc++K.tch}:=by
 have B:∀j,j<K.ext->isRt (os2++[e]) j=zt->isRt os2 j=zt:=(by grind[Go.AM.isRt])
 obtain⟨l,C,hl2⟩:=hth;refine⟨hn,fun d hz=>⟨hz,A d (p.zb d hz) ?_⟩,fun _ hz=>.inl hz,A,huo,⟨l,C,fun d H=>?_⟩,fun d r t H G=>?_,(by grind),rfl,(by grind),fun j J G=>hrt j (B j J G)⟩
 . cases e:ow d with
   |none=>rfl
   |some M=>exact absurd hz (p.live _ _ e).2.1
 . grind
 grind
theorem nH{te:TI}{s sc v:AV}{base xs xcs:List AV}{tc:List Nat}(p:F7 Z ow h K.os)(hx:K.ext<=K.os.length)(N:TkB (VR Z ow h K.os) Z ow h K.os te sc s base os1 tc ow1)(C:TkE (VR Z ow h K.os) Z ow1 h os1 K.ext tc te xcs xs os2 ow2)
 (hw:(!xs.isEmpty||wholeP s K.os)=zt)(O:joinP te base xs os2 tc K=zs (v,K')):∃vc h' owf,G9 te sc xcs h=zs (vc,h')/\F7 Z owf h' K'.os/\Keep' ow K.os owf K'.os/\VR Z owf h' K'.os vc v/\∀b,Stp b Z ow h K Z owf h' K':=by
 unfold joinP at O;split at O
 . rename_i hb
   cases O;have ak:os2.length=K.os.length:=C.len.trans N.len;have ac:=C.ln;obtain⟨q,u,hq1,a4,ar,au,av⟩:∃q u,(∀t r,q::t≠r\/True)/\(q=os2.length\/(K.ext<=q/\¬q∈tc))/\cF te.size xcs xs/\(∀(i:Nat) x y,xcs[i]?=zs x->xs[i]?=zs y->∀(o:Nat) a b,x.cells[o]?=zs a->y.cells[o]?=zs b->CR Z ow1 h (q::u++[i,o]) a b)/\(∀d M,ow2 d=zs M↔ow1 d=zs M/\¬Und (q::u) M):=by
    rcases C.alt with⟨h1,h2⟩|⟨q,u,h1,h2,h3,h4,h5⟩
    . have an:∀d t,ow1 d≠zs (os2.length::t):=fun d t e=>by
       have:=C.pt.noHead d t
       rw[h1]at this;exact this e
      refine⟨os2.length,[],fun _ _=>.inr trivial,.inl rfl,⟨ac,fun i x y hx hy=>⟨(h2 i x y hx hy).1.shape.1.trans (h2 i x y hx hy).2,(h2 i x y hx hy).2,(h2 i x y hx hy).1.shape.2⟩⟩,fun i x y hx hy o a b ha hb=>?_,fun d M=>?_⟩
      . have:=(h2 i x y hx hy).1.cell ha hb
        exact .val this.1 this.2 fun c t e=>an c ([i,o]++t) (by grind)
      . rw[h1];exact⟨fun h=>⟨h,fun⟨u,hu⟩=>an d u (by grind)⟩,fun h=>h.1⟩
    . exact⟨q,u,fun _ _=>.inr trivial,.inr ⟨h1,h2⟩,h3,h4,h5⟩
   have B:Keep' ow K.os ow2 os2:=N.keep.trans C.keep;have ag:loP (os2++[PO.row 0 (base++xs) te.size]) 6 os2.length=zs [os2.length]:=Nt _ (.inl ⟨_,_,_,rfl⟩);have ad:os2.length<(os2++[PO.row 0 (base++xs) te.size]).length:=by simp
   have J:∀j,isRt os2 j=zt->isRt K.os j=zt:=fun j O=>N.rt j (C.rt j O)
   have ah:∀j,j<K.ext->isRt (os2++[PO.row 0 (base++xs) te.size]) j=zt->isRt os2 j=zt:=(by grind[Go.AM.isRt])
   have ao:∀j,j<K.ext->isRt os2 j=zt->∀d,ow d=zs [j]->ow2 d=zs [j]:=fun j O Q d A=>C.ex d j [] (N.rd j (C.rt j Q) d A) O
   rcases N.alt with⟨af,aa,_⟩|⟨c,off,n,L,es,ces,rfl,Y,aw,ai,hs,a5,aa,a6,aj,⟨r,tl,a7,hrtc⟩,a9⟩
   . -- nothing was there
     subst aa;cases xcs with
     |nil=>
      have al:xs=[]:=zqm ac.symm;subst al;have ho:∀d M,(∀t,M≠os2.length::t)->(ow2 d=zs M↔ow2 d=zs M):=fun _ _ _=>.rfl
      have H:=PT.new (ow':=ow2) (h':=h) C.pt (.row 0 ([]++[]) te.size) (zqt _) (fun _ _=>rfl) (fun _ _ _=>rfl) ho (fun a b t ha=>absurd ha (C.pt.noHead a t)) (fun d t A=>absurd A (C.pt.noHead d t)) (Dc _ (.inl ⟨_,_,_,rfl⟩)) (fun es sz e=>by
       cases e;exact⟨sc,.nil af fun c t hc=>C.pt.noHead c t (by grind)⟩) (by grind) (fun es e=>by cases e)
      have hk:=B.trans (Uo C.pt (e:=.row 0 ([]++[]) te.size) ho);refine⟨sc,h,ow2,by rcases af with rfl|rfl<;>rfl,F7.to H (fun _ hz=>⟨hz,rfl⟩) hk,hk,.mnil af (fun L hL c hc=>?_) ad,fun b=>⟨zqt _,fun _ hz=>⟨hz,rfl⟩,fun _ hz=>.inl hz,fun _ _ _=>rfl,fun d M A _ e=>?_,⟨[],rfl,fun d A=>by cases A⟩,fun d r t A Q=>?_,fun r Q _=>?_,rfl,fun j O c Q=>?_,fun j O Q=>J j (ah j O Q)⟩⟩
      . rw[ag]at hL;cases hL
        exact C.pt.noHead c [] hc
      . have:=N.sb d M (C.sb d M A)
        grind
      . rcases N.tcr d r t A with h1|h1
        . exact .inl ⟨t,C.ex d r t h1 Q⟩
        grind
      . exact zqr _ (List.mem_append_right _ Q)
      . exact⟨fun h=>ao j O (ah j O Q) c h,fun h=>N.sb c _ (C.sb c _ h)⟩
     |cons xh xr=>
      have U:∀d,d<h.next->(h.push (.row (xh::xr) te.size)).get d=h.get d:=fun d A=>Heap.get_push_ne h _ (by omega)
      have V:∀i o t,i<([]++xs).length->o<te.size->Und (q::u) (q::u++[i,o]++t):=fun i o t _ _=>⟨[i,o]++t,by simp⟩
      have X:∀i o t i' o' t',i<([]++xs).length->o<te.size->i'<([]++xs).length->o'<te.size->q::u++[i,o]++t=q::u++[i',o']++t'->i=i'/\o=o'/\t=t':=fun i o t i' o' t' _ _ _ _ e=>by simp at e;exact e
      have ap:ow1 h.next=znq:=N.pt.next_none;have H:=PT.graft (owk:=ow2) (ow:=ow1) (c:=h.next) (ces:=xh::xr) (es:=[]++xs) (h':=h.push (.row (xh::xr) te.size)) C.pt (Gn:=Und (q::u)) (G:=fun i o=>q::u++[i,o]) av N.pt.inj (fun a M ha=>⟨(N.pt.live a M ha).1,(N.pt.live a M ha).2.1⟩) V X ar au (zqx _) (fun d A=>U d (p.zb d A)) (zqy _) (fun hz=>absurd (p.zb _ hz) (by omega)) (Heap.get_push_eq h _) (by grind) (fun d M A _=>U d (N.pt.live d M A).1);have gs:=fun d M'=>Hm (Gn:=Und (q::u)) (G:=fun i o=>q::u++[i,o]) (ow:=ow1) (c:=h.next) (n:=os2.length) (d:=d) (M':=M') V X
      have hk:=B.trans H.2;refine⟨_,_,_,zI af (by rw[ac];simpa using hb),F7.to H.1 (fun d hz=>⟨hz,U d (p.zb d hz)⟩) hk,hk,?_,fun b=>Stp.join p hx ak (zqx _) (fun d A _=>U d A) ⟨[],rfl,fun d A=>by cases A⟩ (fun d M A hl e=>?_) (fun d r t A Q=>?_) (fun j O Q d=>?_) J⟩
      . have e1:(AV.msl os2.length 0 (([]:List AV).length+xs.length) te.size)=.msl os2.length 0 (xh::xr).length te.size:=by grind
        rw[e1];exact .msl (fun L hL=>by rw[ag]at hL;cases hL;exact(gs _ _).2 (.inl ⟨rfl,rfl⟩)) ad
      . rcases(gs d M).1 A with⟨h1,_⟩|⟨_,i,o,t,_,_,h1,_⟩|⟨_,h1,_⟩
        . omega
        . have:=N.sb _ _ h1;grind
        . have:=N.sb _ _ h1;grind
      . rcases N.tcr d r t A with h1|h1
        . refine .inl ((gs d _).2 (.inr (.inr ⟨(by grind),h1,?_⟩)))
          have:=C.ex d r t h1 Q
          grind
        grind
      . constructor
        . grind
        . intro A
          rcases(gs d _).1 A with⟨_,h1⟩|⟨_,i,o,t,_,_,_,h1⟩|⟨_,h1,_⟩
          . grind
          . cases h1
          . exact N.sb _ _ h1
   . subst aa
     have hqr:q≠r:=fun e=>by
      rcases a4 with h1|⟨_,h1⟩
      . obtain⟨_,_,r',t',h2,h3⟩:=p.live c L Y
        rw[a7]at h2
        have:=(List.cons.inj h2).1
        have:=isRt_lt h3
        omega
      grind
     have ax:∀t,¬Und L (q::t):=fun t ⟨u,hu⟩=>by grind
     have ay:∀t,¬Und (q::u) (L++t):=fun t ⟨u,hu⟩=>by grind
     have am:∀d M,ow2 d=zs M↔ow d=zs M/\¬(Und L M\/Und (q::u) M):=fun d M=>by
      rw[av,aj];exact⟨fun⟨⟨h1,h2⟩,h3⟩=>⟨h1,fun h=>h.elim h2 h3⟩,fun⟨h1,h2⟩=>⟨⟨h1,fun h=>h2 (.inl h)⟩,fun h=>h2 (.inr h)⟩⟩
     have ab:∀a M,ow a=zs M->a<h.next/\¬Z a:=fun a M ha=>⟨(p.live a M ha).1,(p.live a M ha).2.1⟩
     have hxcr:∀(i:Nat) x y,xcs[i]?=zs x->xs[i]?=zs y->∀(o:Nat) a b,x.cells[o]?=zs a->y.cells[o]?=zs b->CR Z ow h (q::u++[i,o]) a b:=fun i x y hx hy o a b ha hb=>(au i x y hx hy o a b ha hb).reloc (zqt _) (fun _ hz=>⟨hz,rfl⟩) (fun d t=>by
      rw[aj];exact⟨fun h=>⟨h,fun hu=>ax (u++[i,o]++t) (by simpa using hu)⟩,fun h=>h.1⟩) (fun _ _ _=>rfl)
     have az:((es.drop off).take n).length=n:=by simp;omega
     have hLu:∀i o t i' o' t',L++[i,o]++t=L++[i',o']++t'->i=i'/\o=o'/\t=t':=(by simp_all)
     have a0:∀i o t,L≠L++[i,o]++t:=fun i o t e=>by have:=congrArg zqn e;simp at this
     have aq:=zK (off:=off) (n:=n) hs ar;cases xcs with
     |nil=>
      have al:xs=[]:=zqm ac.symm;subst al;obtain⟨rfl,rfl⟩:=a9 (by grind);have e1:(es.drop 0).take es.length++([]:List AV)=es:=by simp
      have V:∀i o t,i<es.length->o<te.size->(fun M=>Und L M\/Und (q::u) M) (L++[i,o]++t):=fun i o t _ _=>.inl ⟨[i,o]++t,by simp⟩
      have X:∀i o t i' o' t',i<es.length->o<te.size->i'<es.length->o'<te.size->L++[i,o]++t=L++[i',o']++t'->i=i'/\o=o'/\t=t':=(by grind)
      have H:=PT.graft (owk:=ow2) (ow:=ow) (c:=c) (ces:=ces) (es:=es) (h':=h) C.pt (Gn:=fun M=>Und L M\/Und (q::u) M) (G:=fun i o=>L++[i,o]) am p.inj ab V X hs a6 (zqt _) (fun _ _=>rfl) aw (ab c L Y).2 ai (fun M hM=>by rw[Y]at hM;cases hM;exact⟨.inl (.refl _),fun i o t _ _ e=>a0 i o t e⟩) (fun _ _ _ _=>rfl);have gs:=fun d M'=>Hm (Gn:=fun M=>Und L M\/Und (q::u) M) (G:=fun i o=>L++[i,o]) (ow:=ow) (c:=c) (n:=os2.length) (d:=d) (M':=M') V X
      have hk:=B.trans H.2;refine⟨.msl c 0 es.length te.size,h,kD ow (fun M=>Und L M\/Und (q::u) M) (fun i o=>L++[i,o]) es.length te.size c os2.length,rfl,?_,?_,?_,fun b=>?_⟩
      . show F7 Z _ h (os2++[.row 0 ((es.drop 0).take es.length++[]) te.size])
        rw[e1];exact F7.to H.1 (fun _ hz=>⟨hz,rfl⟩) hk
      . grind
      . have e2:((es.drop 0).take es.length).length+([]:List AV).length=es.length:=by simp
        rw[e2];exact .msl (by grind) ad
      . refine Stp.join p hx ak (zqt _) (fun _ _ _=>rfl) ⟨[],rfl,fun d A=>by cases A⟩ (fun d M A hl e=>?_) (fun d r' t A Q=>?_) (fun j O Q d=>?_) J
        . grind
        . by_cases hu:Und L (r'::t)
          . right
            obtain⟨u,hu⟩:=hu;grind
          . left
            refine(gs d _).2 (.inr (.inr ⟨fun e=>(by subst e;rw[Y]at A;cases A;exact hu (.refl _)),A,fun h=>h.elim hu fun⟨u,hu⟩=>?_⟩));grind
        . constructor
          . intro A
            have h1:=ao j O Q d A;obtain⟨h2,h3⟩:=(am d _).1 h1;exact(gs d _).2 (.inr (.inr ⟨fun e=>(by subst e;rw[Y]at h2;cases h2;exact h3 (.inl (.refl _))),h2,h3⟩))
          grind
     |cons xh xr=>
      have U:∀d,d<h.next->d≠c->((h.del c).push (.row ((ces.drop off).take n++(xh::xr)) te.size)).get d=h.get d:=fun d A hc=>(Heap.get_push_ne _ _ (show d≠(h.del c).next by show d≠h.next;omega)).trans (Heap.get_del_ne h fun e=>hc e.symm)
      have V:∀i o t,i<((es.drop off).take n++xs).length->o<te.size->(fun M=>Und L M\/Und (q::u) M) ((fun i o=>if i<n then L++[off+i,o]else q::u++[i-n,o]) i o++t):=fun i o t _ _=>by
       show Und L ((if i<n then L++[off+i,o]else q::u++[i-n,o])++t)\/Und (q::u) ((if i<n then L++[off+i,o]else q::u++[i-n,o])++t)
       split
       . exact .inl ⟨[off+i,o]++t,by simp⟩
       . exact .inr ⟨[i-n,o]++t,by simp⟩
      have X:∀i o t i' o' t',i<((es.drop off).take n++xs).length->o<te.size->i'<((es.drop off).take n++xs).length->o'<te.size->(fun i o=>if i<n then L++[off+i,o]else q::u++[i-n,o]) i o++t=(fun i o=>if i<n then L++[off+i,o]else q::u++[i-n,o]) i' o'++t'->i=i'/\o=o'/\t=t':=fun i o t i' o' t' _ _ _ _ e=>by
       have e:(if i<n then L++[off+i,o]else q::u++[i-n,o])++t=(if i'<n then L++[off+i',o']else q::u++[i'-n,o'])++t':=e;split at e
       . split at e
         . grind
         grind
       . split at e
         . grind
         . simp at e
           grind
      have ae:∀(i:Nat) x y,((ces.drop off).take n++(xh::xr))[i]?=zs x->((es.drop off).take n++xs)[i]?=zs y->∀(o:Nat) a b,x.cells[o]?=zs a->y.cells[o]?=zs b->CR Z ow h ((fun i o=>if i<n then L++[off+i,o]else q::u++[i-n,o]) i o) a b:=fun i x y hx hy o a b ha hb=>by
       show CR Z ow h (if i<n then L++[off+i,o]else q::u++[i-n,o]) a b
       have a1:((ces.drop off).take n).length=n:=by simp[hs.1];omega
       rw[zql,a1]at hx;rw[zql,az]at hy;split
       . rename_i hi
         rw[if_pos hi,m9,if_pos hi]at hx hy;grind
       grind
      have ap:ow h.next=znq:=p.next_none;have H:=PT.graft (owk:=ow2) (ow:=ow) (c:=h.next) (ces:=(ces.drop off).take n++(xh::xr)) (es:=(es.drop off).take n++xs) (h':=(h.del c).push (.row ((ces.drop off).take n++(xh::xr)) te.size)) C.pt (Gn:=fun M=>Und L M\/Und (q::u) M) (G:=fun i o=>if i<n then L++[off+i,o]else q::u++[i-n,o]) am p.inj ab V X aq ae (zqx _) (fun d A=>U d (p.zb d A) fun e=>(ab c L Y).2 (e▸A)) (zqy _) (fun hz=>absurd (p.zb _ hz) (by omega)) (Heap.get_push_eq _ _) (by grind) (fun d M A hg=>U d (ab d M A).1 fun e=>by
       subst e;rw[Y]at A;cases A;rcases hg with h1|⟨i,o,t,_,_,h1⟩
       . exact h1 (.inl (.refl _))
       . have h1:L=(if i<n then L++[off+i,o]else q::u++[i-n,o])++t:=h1
         split at h1
         . grind
         . exact ay [] ⟨[i-n,o]++t,by grind⟩)
      have gs:=fun d M'=>Hm (Gn:=fun M=>Und L M\/Und (q::u) M) (G:=fun i o=>if i<n then L++[off+i,o]else q::u++[i-n,o]) (ow:=ow) (c:=h.next) (n:=os2.length) (d:=d) (M':=M') V X
      have hk:=B.trans H.2;refine⟨_,_,_,zJ ai (by rw[hs.1];exact a5) (by grind),F7.to H.1 (fun d hz=>⟨hz,U d (p.zb d hz) fun e=>(ab c L Y).2 (e▸hz)⟩) hk,hk,?_,fun b=>Stp.join p hx ak (zqx _) (by grind) ⟨[c],rfl,fun d A=>?_⟩ (fun d M A hl e=>?_) (fun d r' t A Q=>?_) (fun j O Q d=>?_) J⟩
      . have e2:((es.drop off).take n).length+xs.length=n+(xh::xr).length:=by grind
        rw[e2];exact .msl (by grind) ad
      . grind
      . grind
      . by_cases hu:Und L (r'::t)
        . right
          obtain⟨u,hu⟩:=hu;grind
        . left
          refine(gs d _).2 (.inr (.inr ⟨(by grind),A,fun h=>h.elim hu fun⟨u,hu⟩=>?_⟩));grind
      grind
 . cases O
end
end Go.AM
