/- The tree machine: code as trees, memory by kept numbers, and that it says what the machine does. Conditions: none. -/
import Derived.Test.YtekhlbomopiemaaAmEight
set_option linter.unusedVariables false
set_option linter.unusedSimpArgs false
set_option linter.unusedSectionVars false
set_option linter.defProp false
set_option maxHeartbeats 4000000
open Option renaming some→zs,none→znq
open Bool renaming true→zt,false→zf
open List renaming replicate→zqa,getElem?_eq_some_iff→zqb,getElem?_set→zqc,getElem?_eq_getElem→zqd,mem_of_getElem?→zqe,all_eq_true→zqf,length_set→zqg,mem_cons_self→zqh,getElem?_of_mem→zqi,eq_nil_of_length_eq_zero→zqj,length_replicate→zqk,append_cancel_left→zql,getElem?_append→zqm,mem_singleton→zqn,mem_append→zqo,length→zqp,length_append→zqq,mem_cons_of_mem→zqr,take_length→zqs
open Nat renaming le_refl→zqt,lt_of_lt_of_le→zqu,ble_eq_true_of_le→zqv,le_succ→zqw,lt_succ_self→zqx,le_trans→zqy,zero_add→zqz,beq_refl→zka
namespace Go.AM
def Le{α:Type}(bad r r':α):Prop:=r=bad\/r'=r
section
variable {α β:Type}{b r r':α}{c:β}
theorem Le.same:Le b r r:=.inr rfl
theorem Le.none:Le b b r:=.inl rfl
theorem Le.bind{k k':α->β}(h:Le b r r')(A:k b=c)(hkk:∀x,Le c (k x) (k' x)):Le c (k r) (k' r'):=by
 rcases h with h|h
 . subst h;exact .inl A
 grind
theorem Le.map{k:α->β}(h:Le b r r')(A:k b=c):Le c (k r) (k r'):=h.bind A fun _=>.same
theorem Le.cond{t:Bool}{x y A B:α}(h1:Le b x A)(h2:Le b y B):Le b (bif t then x else y) (bif t then A else B):=by
 grind
theorem Le.of_ne(h:Le b r r')(hn:r≠b):r'=r:=h.elim (fun e=>absurd e hn) id
end
section
variable {E:Env}{call call':D4}{ih ih':E4}
def JZ(call call':D4):Prop:=∀f l h,Le Res.bad (call f l h) (call' f l h)
def aG(ih ih':E4):Prop:=∀c fr h,Le CRes.bad (ih c fr h) (ih' c fr h)
theorem Ru(hc:JZ call call')(op:Op)(fr:Tr)(h:Heap):Le .bad (evOp E call op fr h) (evOp E call' op fr h):=by
 cases op with
 |call c=>
  obtain⟨A,args,ts⟩:=c;cases A with
  |value f=>
   show Le _ (c8 call (opv E f fr) (opvs E args.toList fr) h) (c8 call' (opv E f fr) (opvs E args.toList fr) h)
   cases opv E f fr with
   |fn g first caps=>
    cases g with
    |func n=>exact hc _ _ _
    |_=>exact .same
   |_=>exact .same
  |_=>exact .same
 |_=>exact .same
theorem onOB_le{α:Type}{b:α}{o:Option Bool}{t t' f f':α}(h1:Le b t t')(h2:Le b f f'):Le b (onOB o b t f) (onOB o b t' f'):=by
 cases o with
 |none=>exact .same
 |some x=>cases x<;>assumption
theorem Wb(hc:JZ call call'):∀(l:List XOp)(fr:Tr)(h:Heap),Le .bad (H5 E call l fr h) (H5 E call' l fr h)
 |[],_,_=>.same
 |o :: l,fr,h=>onOB_le ((Ru hc o.op fr h).bind (k:=X4 o.dst (H5 E call l) fr) (k':=X4 o.dst (H5 E call' l) fr) rfl fun x=>by
     cases x with
     |ok v h'=>exact Wb hc l _ _
     |_=>exact .same) (Wb hc l _ _)
theorem jP(hc:JZ call call')(o:XOp)(fr:Tr)(h:Heap)(d:List Nat):Le .bad (evOpD E call o fr h d) (evOpD E call' o fr h d):=by
 unfold evOpD;exact .cond ((Ru hc o.op fr _).map rfl) (.cond (.cond ((Ru hc o.op fr h).map rfl) .same) ((Ru hc o.op fr h).map rfl))
theorem Mn(hc:JZ call call'):∀(l:List XOp)(late:List Bool)(fr:Tr)(h:Heap)(d:List Nat),Le zf (virtD E call l late fr h d) (virtD E call' l late fr h d)
 |[],_,_,_,_=>.same
 |o::l,[],fr,h,d=>.same
 |o::l,zt::late,fr,h,d=>Mn hc l late _ h d
 |o :: l,zf::late,fr,h,d=>onOB_le ((jP hc o fr h d).bind (k:=virtThen o.dst (virtD E call l late) fr) (k':=virtThen o.dst (virtD E call' l late) fr) rfl fun x=>by
     cases x with
     |ok v h' d'=>exact Mn hc l late _ _ _
     |_=>exact .same) (Mn hc l late _ h d)
theorem Og(hc:JZ call call'):∀(l:List XOp)(fr:Tr)(h:Heap)(d:List Nat),Le .bad (evOpsD E call l fr h d) (evOpsD E call' l fr h d)
 |[],_,_,_=>.same
 |o :: l,fr,h,d=>onOB_le ((jP hc o fr h d).bind (k:=O6 o.dst (evOpsD E call l) (virtD E call l o.late (setDst o.dst skipped fr) h d) fr) (k':=O6 o.dst (evOpsD E call' l) (virtD E call' l o.late (setDst o.dst skipped fr) h d) fr) rfl fun x=>by
     cases x with
     |ok v h' d'=>exact Og hc l _ _ _
     |pan v h'=>exact(Mn hc l o.late (setDst o.dst skipped fr) h d).map (k:=fun w=>bif w then CRes.pan v h' else .bad) rfl
     |bad=>exact .same) (Og hc l _ _ _)
theorem DO(hi:aG ih ih')(m:FM)(nt:Nat)(caps:List AV)(p:AV)(h:Heap):Le .bad (HK ih m nt caps p h) (HK ih' m nt caps p h):=by
 cases m with
 |rcv d d2 rest=>exact .cond ((hi _ _ _).map rfl) .same
 |_=>exact .same
theorem DQ(hi:aG ih ih')(f:Nat)(caps:List AV)(p:AV)(h:Heap):Le .bad (Sm E ih f caps p h) (Sm E ih' f caps p h):=by
 unfold Sm;cases E.fn f with
 |none=>exact .same
 |some fi=>exact .cond (DO hi _ _ _ _ _) .same
theorem qL(hi:aG ih ih')(x p:AV)(h:Heap):Le .bad (Ea E ih x p h) (Ea E ih' x p h):=by
 cases x with
 |fn f first caps=>
  cases f with
  |func n=>exact .cond (DQ hi _ _ _ _) .same
  |_=>exact .same
 |_=>exact .same
theorem uB(hi:aG ih ih')(x:AV)(rs:List ResultVar)(fr:Tr)(r:CRes):Le .bad (I4 E ih x rs fr r) (I4 E ih' x rs fr r):=by
 cases r with
 |ok e A h=>
  cases e with
  |exit _=>exact .same
  |_=>exact(qL hi _ _ _).map (k:=j9 E rs A) rfl
 |pan v h=>exact(qL hi _ _ _).map (k:=j9 E rs fr) rfl
 |bad=>exact .same
theorem qM(hi:aG ih ih')(g:Operand)(rest:XC)(rs:List ResultVar):∀(pre:List XC)(fr:Tr)(h:Heap),Le .bad (t7 E ih g rest rs pre fr h) (t7 E ih' g rest rs pre fr h)
 |[],fr,h=>(hi rest fr h).bind (k:=I4 E ih (opv E g fr) rs fr) (k':=I4 E ih' (opv E g fr) rs fr) rfl fun r=>uB hi _ _ _ r
 |p::pre,fr,h=>(hi p fr h).bind (k:=As (t7 E ih g rest rs pre)) (k':=As (t7 E ih' g rest rs pre)) rfl fun r=>by
  cases r with
  | ok e A h2=>cases e with
   |normal=>exact qM hi g rest rs pre A h2
   |_=>exact .same
  |_=>exact .same
theorem DS(hi:aG ih ih')(ks:List Nat)(args:List AV)(h:Heap):Le .bad (lI E ih ks args h) (lI E ih' ks args h):=.same
theorem zR(hi:aG ih ih')(A:FI)(args:List AV)(h:Heap):Le .bad (Pj E ih A args h) (Pj E ih' A args h):=by
 unfold Pj;cases A.mode with
 |dfr pre g rest=>grind[qM]
 |rcv _ _ _=>exact .same
 |_=>exact(hi A.code _ h).map (k:=H9 E A.results) rfl
theorem aH(hi:aG ih ih')(f:Nat)(args:List AV)(h:Heap):Le .bad (O7 E ih f args h) (O7 E ih' f args h):=by
 unfold O7;refine .cond .same ?_;cases E.dlf f with
 |some ks=>grind[DS]
 |none=>
  dsimp only;cases srtA E f args h with
  |some r=>exact .same
  |none=>
   dsimp only;cases E.fn f with
   |none=>exact .same
   |some A=>exact .cond (zR hi A args h) .same
theorem jQ(hi:aG ih ih'):JZ (G4 E ih) (G4 E ih'):=fun f l h=>by
 unfold G4;exact .cond ((aH hi f l _).map rfl) (aH hi f l h)
theorem thenI_le{k k':Tr->Heap->IRes}(A:∀fr h,Le .bad (k fr h) (k' fr h)){r r':CRes}(h:Le .bad r r'):Le .bad (I0 k r) (I0 k' r'):=
 h.bind (k:=I0 k) (k':=I0 k') rfl fun x=>by
  cases x with
  | ok e fr h=>cases e with
   |normal=>exact A fr h
   |_=>exact .same
  |_=>exact .same
def RJ(Y A:List AV->Heap->CRes):Prop:=∀l h,Le .bad (Y l h) (A l h)
theorem zS{k k':Tr->Heap->CRes}(A:∀fr h,Le .bad (k fr h) (k' fr h)){r r':CRes}(h:Le .bad r r'):Le .bad (Dt k r) (Dt k' r'):=
 h.bind (k:=Dt k) (k':=Dt k') rfl fun x=>by
  cases x with
  | ok e fr h=>cases e with
   |normal=>exact A fr h
   |_=>exact .same
  |_=>exact .same
theorem uC(hi:aG ih ih')(ps:List Tmp)(a b:XC)(fr:Tr):RJ (roundY ih ps a b fr) (roundY ih' ps a b fr):=fun l h =>
 .cond (zS (fun fr h=>hi b fr h) (hi a _ h)) .same
theorem DT(hi:aG ih ih')(p2:XC)(yd:Tmp)(fr:Tr){r r':CRes}(h:Le .bad r r'):Le .bad (Hq ih p2 yd fr r) (Hq ih' p2 yd fr r'):=
 h.bind (k:=Hq ih p2 yd fr) (k':=Hq ih' p2 yd fr) rfl fun x=>by
  cases x with
  |ok e fr h=>cases e<;>exact thenI_le (fun _ _=>.same) (hi _ _ _)
  |_=>exact .same
theorem yesI_le(hi:aG ih ih'){Y A:List AV->Heap->CRes}(B:RJ Y A)(nt:Nat)(gd:Option (Option Tmp×Bool))(yt:Tmp)(p1:XC)(yd:Tmp)(args:List Operand)(p2:XC)(p:Option Ex)(fr:Tr)(h:Heap):
 Le .bad (fL E ih nt Y gd yt p1 yd args p2 p fr h) (fL E ih' nt A gd yt p1 yd args p2 p fr h):=by
 unfold fL;cases p with
 |some _=>exact .same
 |none=>exact .cond (thenI_le (fun fr h=>onOB_le (DT hi p2 yd fr (B _ _)) .same) (hi _ _ _)) .same
theorem noI_le(hi:aG ih ih')(gd:Option (Option Tmp×Bool))(yt:Tmp)(p1:XC)(yd:Tmp)(p2:XC)(p:Option Ex)(fr:Tr)(h:Heap):
 Le .bad (ES ih gd yt p1 yd p2 p fr h) (ES ih' gd yt p1 yd p2 p fr h):=by
 unfold ES;exact thenI_le (fun fr h=>onOB_le .same (thenI_le (fun _ _=>.same) (hi _ _ _))) (hi _ _ _)
theorem qN{b A:Option Ex->Tr->Heap->IRes}(hb:∀p fr h,Le .bad (b p fr h) (A p fr h)){r r':IRes}(h:Le .bad r r'):Le .bad (Kx b r) (Kx A r'):=
 h.bind (k:=Kx b) (k':=Kx A) rfl fun x=>by
  cases x with
  | ok e p fr h=>cases e with
   |normal=>exact hb p fr h
   |_=>exact .same
  |bad=>exact .same
theorem zT(hi:aG ih ih'){Y B:List AV->Heap->CRes}(C:RJ Y B)(nt:Nat):∀(m:Nat)(c:IC)(p:Option Ex)(fr:Tr)(h:Heap),Le .bad (evI E ih nt Y m c p fr h) (evI E ih' nt B m c p fr h)
 |0,c,p,fr,h=>.same
 |m+1,c,p,fr,h=>by
  have A:=zT hi C nt m;show Le .bad (fM E ih nt Y (evI E ih nt Y m) c p fr h) (fM E ih' nt B (evI E ih' nt B m) c p fr h)
  cases c with
  |reg x=>exact thenI_le (fun _ _=>.same) (hi _ _ _)
  |yreg p0 gd yt p1 yd args p2=>exact thenI_le (by grind[Go.AM.onOB_le,Go.AM.yesI_le,Go.AM.noI_le]) (hi _ _ _)
  |seq a b=>exact qN (fun p fr h=>A b p fr h) (A a p fr h)
  |cond x a b=>
   show Le .bad ((opv E x fr).onBool .bad fun t=>match t with|true=>evI E ih nt Y m a p fr h|false=>evI E ih nt Y m b p fr h) ((opv E x fr).onBool .bad fun t=>match t with|true=>evI E ih' nt B m a p fr h|false=>evI E ih' nt B m b p fr h)
   cases opv E x fr with
   |bool t=>cases t;exact A b p fr h;exact A a p fr h
   |_=>exact .same
  |block id c=>exact(A c p fr h).map (k:=Je id) rfl
  |loop c=>exact qN (fun p fr h=>A (.loop c) p fr h) (A c p fr h)
  |_=>exact .same
theorem KA(hi:aG ih ih'){Y A:List AV->Heap->CRes}(B:RJ Y A)(m:FM)(nt:Nat)(caps:List AV)(h:Heap):Le .bad (itM E ih m nt caps Y h) (itM E ih' m nt caps A h):=by
 cases m with
 |itf c=>exact(zT hi B nt itMax c znq _ h).map (k:=finI) rfl
 |_=>exact .same
theorem KB(hi:aG ih ih'){Y A:List AV->Heap->CRes}(B:RJ Y A)(f:Nat)(caps:List AV)(h:Heap):Le .bad (itF E ih f caps Y h) (itF E ih' f caps A h):=by
 unfold itF;cases E.fn f with
 |none=>exact .same
 |some fi=>exact .cond (KA hi B _ _ _ _) .same
theorem DU(hi:aG ih ih')(ps:List Tmp)(a b:XC)(fr:Tr)(h:Heap)(g:AV):Le .bad (rfnA E ih ps a b fr h g) (rfnA E ih' ps a b fr h g):=by
 cases g with
 |fn f first caps=>
  cases f with
  |func n=>exact .cond ((KB hi (uC hi ps a b fr) n caps h).map (k:=backA fr) rfl) .same
  |_=>exact .same
 |_=>exact .same
theorem qO{b A:Tr->Heap->CRes}(hb:∀fr h,Le .bad (b fr h) (A fr h)){r r':CRes}(h:Le .bad r r'):Le .bad (Eb b r) (Eb A r'):=
 h.bind (k:=Eb b) (k':=Eb A) rfl fun x=>by
  cases x with
  | ok e fr h=>cases e with
   |normal=>exact hb fr h
   |_=>exact .same
  |_=>exact .same
theorem DV(hi:aG ih ih')(c:XC)(fr:Tr)(h:Heap):Le .bad (step E ih c fr h) (step E ih' c fr h):=by
 have A:=jQ (E:=E) hi;cases c with
 |reg d l=>
  cases d with
  |false=>exact Wb A l fr h
  |true=>exact Og A l fr h []
 |seq a b=>exact qO (hi b) (hi a fr h)
 |loop a=>exact qO (hi (.loop a)) (hi a fr h)
 |scope a=>exact hi a fr h
 |block id a=>exact(hi a fr h).map (k:=Ey id) rfl
 |cond x a b=>
  show Le .bad (Pk (ih a) (ih b) (opv E x fr) fr h) (Pk (ih' a) (ih' b) (opv E x fr) fr h)
  cases opv E x fr with
  |bool t=>cases t;exact hi b fr h;exact hi a fr h
  |_=>exact .same
 |rfn g ps a b=>exact DU hi ps a b fr h _
 |rngm R y=>exact .same
 |_=>exact .same
theorem ev_le1:∀n:Nat,aG (ev E n) (ev E (n+1))
 |0=>fun c fr h=>.none
 |n+1=>fun c fr h=>DV (ev_le1 n) c fr h
theorem GQ(n k:Nat):aG (ev E n) (ev E (n+k)):=by
 induction k with
 |zero=>exact fun _ _ _=>.same
 |succ k ih=>
  intro c fr h;rcases ih c fr h with e|e
  . exact .inl e
  . rcases ev_le1 (E:=E) (n+k) c fr h with e2|e2
    . exact .inl (e.symm.trans e2)
    . exact .inr (e2.trans e)
theorem DW(n k:Nat):JZ (G4 E (ev E n)) (G4 E (ev E (n+k))):=jQ (GQ n k)
end
structure Lim{R:Type}(bad:R)(g:Nat->R)(r:R):Prop where
 ok:r≠bad->∃n,∀m,n<=m->g m=r
 no:r=bad->∀m,g m=bad
 early:∀n,g n=bad\/g n=r
open Classical in
noncomputable def qP{R:Type}(bad:R)(g:Nat->R):R:=if hx:∃n,g n≠bad then g hx.choose else bad
theorem aI{R:Type}{bad:R}{g:Nat->R}(C:∀n k,Le bad (g n) (g (n+k))):Lim bad g (qP bad g):=by
 unfold qP;by_cases A:∃n,g n≠bad
 . rw [dif_pos A]
   have B:∀n,g n≠bad->∀m,n<=m->g m=g n:=fun n hn m hm'=>by
    have:=(C n (m-n)).of_ne hn
    grind
   refine⟨fun _=>⟨A.choose,B _ A.choose_spec⟩,fun e=>absurd e A.choose_spec,fun n=>?_⟩;grind
 . rw[dif_neg A]
   have:∀n,g n=bad:=(by grind)
   exact⟨fun e=>absurd rfl e,fun _ m=>this m,fun n=>.inl (this n)⟩
theorem Lim.unique{R:Type}{bad:R}{g:Nat->R}{r r':R}(h:Lim bad g r)(h':Lim bad g r'):r=r':=by
 by_cases e:r=bad
 . by_cases A:r'=bad
   . rw[e,A]
   . obtain⟨n,hn⟩:=h'.ok A
     exact absurd ((hn n (zqt _)).symm.trans (h.no e n)) A
 . by_cases A:r'=bad
   . obtain⟨n,hn⟩:=h.ok e
     exact absurd ((hn n (zqt _)).symm.trans (h'.no A n)) e
   . obtain⟨n,hn⟩:=h.ok e
     obtain⟨m,B⟩:=h'.ok A;exact(hn (n+m) (by omega)).symm.trans (B (n+m) (by omega))
theorem Lim.const{R:Type}{bad r:R}:Lim bad (fun _=>r) r:=⟨fun _=>⟨0,fun _ _=>rfl⟩,fun e _=>e,fun _=>.inr rfl⟩
theorem Lim.shift{R:Type}{bad:R}{g:Nat->R}{r:R}(h:Lim bad (fun n=>g (n+1)) r)(h0:g 0=bad):Lim bad g r:=by
 refine⟨fun e=>?_,fun e m=>?_,fun m=>?_⟩
 . obtain⟨n,hn⟩:=h.ok e
   exact⟨n+1,fun m hm=>by have:=hn (m-1) (by omega);grind⟩
 . cases m with
   |succ m=>exact h.no e m
   |zero=>exact h0
 . cases m with
   |succ m=>exact h.early m
   |zero=>grind
theorem Lim.bind{R S:Type}{bad:R}{A:S}{g:Nat->R}{r:R}{k:Nat->R->S}{s:R->S}(hg:Lim bad g r)(C:∀n,k n bad=A)(G:s bad=A)(hl:r≠bad->Lim A (fun n=>k n r) (s r)):Lim A (fun n=>k n (g n)) (s r):=by
 by_cases e:r=bad
 . subst e
   have:∀n,k n (g n)=A:=fun n=>by rw[hg.no rfl n];exact C n
   exact⟨fun e=>absurd G e,fun _ m=>this m,fun n=>.inl (this n)⟩
 . have hl:=hl e
   refine⟨fun B=>?_,fun B m=>?_,fun m=>?_⟩
   . obtain⟨n,hn⟩:=hg.ok e
     obtain⟨m,hm⟩:=hl.ok B;exact⟨n+m,(by grind)⟩
   . show k m (g m)=A
     rcases hg.early m with h|h
     . grind
     . rw[h];exact hl.no B m
   . rcases hg.early m with h|h
     . grind
     . show k m (g m)=A\/k m (g m)=s r
       rw[h];exact hl.early m
section
variable {E:Env}
noncomputable def evω(E:Env):E4:=fun c fr h=>qP .bad fun n=>ev E n c fr h
noncomputable def callω(E:Env):D4:=fun f l h=>qP .bad fun n=>G4 E (ev E n) f l h
theorem ev_lim(c:XC)(fr:Tr)(h:Heap):Lim .bad (fun n=>ev E n c fr h) (evω E c fr h):=aI fun n k=>GQ n k c fr h
theorem Cg(f:Nat)(l:List AV)(h:Heap):Lim .bad (fun n=>G4 E (ev E n) f l h) (callω E f l h):=aI fun n k=>DW n k f l h
theorem Wc(op:Op)(fr:Tr)(h:Heap):Lim .bad (fun n=>evOp E (G4 E (ev E n)) op fr h) (evOp E (callω E) op fr h):=by
 cases op with
 |call c=>
  obtain⟨A,args,ts⟩:=c;cases A with
  |value f=>
   show Lim .bad (fun n=>c8 (G4 E (ev E n)) (opv E f fr) (opvs E args.toList fr) h) (c8 (callω E) (opv E f fr) (opvs E args.toList fr) h)
   cases opv E f fr with
   |fn g first caps=>
    cases g with
    |func n=>exact Cg _ _ _
    |_=>exact .const
   |_=>exact .const
  |_=>exact .const
 |_=>exact .const
theorem Oh:∀(l:List XOp)(fr:Tr)(h:Heap),Lim .bad (fun n=>H5 E (G4 E (ev E n)) l fr h) (H5 E (callω E) l fr h)
 |[],fr,h=>.const
 |o :: l,fr,h=>by
  have e:∀call:D4,H5 E call (o::l) fr h=onOB (guardOk o.gd fr) .bad (X4 o.dst (H5 E call l) fr (evOp E call o.op fr h)) (H5 E call l (setDst o.dst skipped fr) h):=fun _=>rfl
  simp only[e];cases guardOk o.gd fr with
  |none=>exact .const
  |some b=>
   cases b with
   |false=>exact Oh l _ _
   |true=>
    show Lim .bad (fun n=>X4 o.dst (H5 E (G4 E (ev E n)) l) fr (evOp E (G4 E (ev E n)) o.op fr h)) (X4 o.dst (H5 E (callω E) l) fr (evOp E (callω E) o.op fr h))
    refine(Wc (E:=E) o.op fr h).bind (k:=fun n r=>X4 o.dst (H5 E (G4 E (ev E n)) l) fr r) (s:=fun r=>X4 o.dst (H5 E (callω E) l) fr r) (fun _=>rfl) rfl (fun A=>?_);generalize evOp E (callω E) o.op fr h=r at A;cases r with
    |ok v h'=>exact Oh l _ _
    |_=>exact .const
theorem aJ(o:XOp)(fr:Tr)(h:Heap)(d:List Nat):Lim .bad (fun n=>evOpD E (G4 E (ev E n)) o fr h d) (evOpD E (callω E) o fr h d):=by
 unfold evOpD;cases o.quiet with
 |true=>
  simp only[cond_true];exact(Wc (E:=E) o.op fr {h with tch:=[]}).bind (k:=fun _ r=>x9 h.next h.tch d r) (s:=fun r=>x9 h.next h.tch d r) (fun _=>rfl) rfl (fun _=>.const)
 |false=>
  simp only[cond_false];have A:=(Wc (E:=E) o.op fr h).bind (k:=fun _ r=>v6 d r) (s:=fun r=>v6 d r) (fun _=>rfl) rfl (fun _=>.const);cases o.careful with
  |false=>exact A
  |true=>
   simp only[cond_true];cases readOk (readO E o.op fr) d with
   |false=>exact .const
   |true=>exact A
theorem Gx:∀(l:List XOp)(late:List Bool)(fr:Tr)(h:Heap)(d:List Nat),Lim zf (fun n=>virtD E (G4 E (ev E n)) l late fr h d) (virtD E (callω E) l late fr h d)
 |[],_,_,_,_=>.const
 |o::l,[],fr,h,d=>.const
 |o::l,zt::late,fr,h,d=>Gx l late _ h d
 |o :: l,zf::late,fr,h,d=>by
  show Lim zf (fun n=>onOB (guardOk o.gd fr) zf (virtThen o.dst (virtD E (G4 E (ev E n)) l late) fr (evOpD E (G4 E (ev E n)) o fr h d)) (virtD E (G4 E (ev E n)) l late (setDst o.dst skipped fr) h d)) (onOB (guardOk o.gd fr) zf (virtThen o.dst (virtD E (callω E) l late) fr (evOpD E (callω E) o fr h d)) (virtD E (callω E) l late (setDst o.dst skipped fr) h d))
  cases guardOk o.gd fr with
  |none=>exact .const
  |some b=>
   cases b with
   |false=>exact Gx l late _ h d
   |true=>
    refine(aJ (E:=E) o fr h d).bind (k:=fun n r=>virtThen o.dst (virtD E (G4 E (ev E n)) l late) fr r) (s:=fun r=>virtThen o.dst (virtD E (callω E) l late) fr r) (fun _=>rfl) rfl (fun A=>?_);generalize evOpD E (callω E) o fr h d=r at A;cases r with
    |ok v h' d'=>exact Gx l late _ _ _
    |_=>exact .const
theorem Ka:∀(l:List XOp)(fr:Tr)(h:Heap)(d:List Nat),Lim .bad (fun n=>evOpsD E (G4 E (ev E n)) l fr h d) (evOpsD E (callω E) l fr h d)
 |[],fr,h,d=>.const
 |o :: l,fr,h,d=>by
  have e:∀call:D4,evOpsD E call (o::l) fr h d=onOB (guardOk o.gd fr) .bad (O6 o.dst (evOpsD E call l) (virtD E call l o.late (setDst o.dst skipped fr) h d) fr (evOpD E call o fr h d)) (evOpsD E call l (setDst o.dst skipped fr) h d):=fun _=>rfl
  simp only[e];cases guardOk o.gd fr with
  |none=>exact .const
  |some b=>
   cases b with
   |false=>exact Ka l _ _ _
   |true=>
    refine(aJ (E:=E) o fr h d).bind (k:=fun n r=>O6 o.dst (evOpsD E (G4 E (ev E n)) l) (virtD E (G4 E (ev E n)) l o.late (setDst o.dst skipped fr) h d) fr r) (s:=fun r=>O6 o.dst (evOpsD E (callω E) l) (virtD E (callω E) l o.late (setDst o.dst skipped fr) h d) fr r) (fun _=>rfl) rfl (fun A=>?_);generalize evOpD E (callω E) o fr h d=r at A;cases r with
    |ok v h' d'=>exact Ka l _ _ _
    |pan v h'=>exact(Gx l o.late (setDst o.dst skipped fr) h d).bind (k:=fun _ w=>bif w then CRes.pan v h' else .bad) (s:=fun w=>bif w then CRes.pan v h' else .bad) (fun _=>rfl) rfl (fun _=>.const)
    |bad=>exact .const
theorem jR(a b:XC)(fr:Tr)(h:Heap):Lim .bad (fun n=>Eb (ev E n b) (ev E n a fr h)) (Eb (evω E b) (evω E a fr h)):=by
 refine(ev_lim (E:=E) a fr h).bind (k:=fun n r=>Eb (ev E n b) r) (s:=fun r=>Eb (evω E b) r) (fun _=>rfl) rfl (fun A=>?_);generalize evω E a fr h=r at A;cases r with
 | ok e fr' h'=>cases e with
  |normal=>exact ev_lim b fr' h'
  |_=>exact .const
 |_=>exact .const
theorem i6{c:XC}{fr:Tr}{h:Heap}{r:CRes}(hl:Lim .bad (fun n=>ev E (n+1) c fr h) r):evω E c fr h=r:=(ev_lim (E:=E) c fr h).unique (Lim.shift hl rfl)
theorem KC{fr:Tr}{h:Heap}:evω E .skip fr h=.ok .normal fr h:=i6 .const
theorem RK{fr:Tr}{h:Heap}:evω E .ret fr h=.ok .ret fr h:=i6 .const
theorem KD{fr:Tr}{h:Heap}(i:Nat):evω E (.exit i) fr h=.ok (.exit i) fr h:=i6 .const
theorem GR{fr:Tr}{h:Heap}(a b:XC):evω E (.seq a b) fr h=Eb (evω E b) (evω E a fr h):=i6 (jR a b fr h)
theorem RL{fr:Tr}{h:Heap}(l:List XOp):evω E (.reg zf l) fr h=H5 E (callω E) l fr h:=i6 (Oh l fr h)
theorem KE{fr:Tr}{h:Heap}(l:List XOp):evω E (.reg zt l) fr h=evOpsD E (callω E) l fr h []:=i6 (Ka l fr h [])
theorem KF{fr:Tr}{h:Heap}(x:Operand)(a b:XC):evω E (.cond x a b) fr h=Pk (evω E a) (evω E b) (opv E x fr) fr h:=i6 (by
 show Lim .bad (fun n=>Pk (ev E n a) (ev E n b) (opv E x fr) fr h) (Pk (evω E a) (evω E b) (opv E x fr) fr h)
 cases opv E x fr with
 |bool t=>cases t;exact ev_lim b fr h;exact ev_lim a fr h
 |_=>exact .const)
theorem DY{fr:Tr}{h:Heap}(i:Nat)(a:XC):evω E (.block i a) fr h=Ey i (evω E a fr h):=
 i6 ((ev_lim (E:=E) a fr h).bind (k:=fun _ r=>Ey i r) (s:=fun r=>Ey i r) (fun _=>rfl) rfl (fun _=>.const))
theorem KG{fr:Tr}{h:Heap}(a:XC):evω E (.loop a) fr h=Eb (evω E (.loop a)) (evω E a fr h):=i6 (jR a (.loop a) fr h)
theorem DZ{fr:Tr}{h:Heap}(a:XC):evω E (.scope a) fr h=evω E a fr h:=i6 (ev_lim a fr h)
theorem Yk{f:Nat}{l:List AV}{h:Heap}{r:Res}(hc:callω E f l h=r)(hb:r≠.bad):∃n,run E n f l h=r:=by
 obtain⟨n,hn⟩:=(Cg (E:=E) f l h).ok (by grind);exact⟨n,(hn n (zqt _)).trans hc⟩
end
theorem Tr.has_mk':∀(f n i:Nat),n<2^f->(Tr.mk f n).has i=decide (i<n)
 |0,n,i,h=>by
  have:n=0:=by grind
  subst this;simp[Tr.mk_zero];rfl
 |f+1,0,i,_=>by simp[Tr.mk_succ_zero];rfl
 |f+1,k+1,0,_=>by rw[Tr.mk_succ];simp[Tr.has_zero]
 |f + 1,k+1,i+1,h=>by
  rw[Tr.mk_succ,Tr.has_succ];have e1:Nat.shiftRight i 1=i/2:=Nat.shiftRight_eq_div_pow i 1;have e2:Nat.land i 1=i%2:=Nat.and_one_is_mod i;have A:Nat.div (k+1) 2=(k+1)/2:=rfl;have B:Nat.div k 2=k/2:=rfl;rw[e1,e2,A,B];rw[Nat.pow_succ]at h;rcases Nat.mod_two_eq_zero_or_one i with hi|hi<;>rw[hi]
  . show(Tr.mk f ((k+1)/2)).has (i/2)=_
    rw[Tr.has_mk' f _ _ (by omega),decide_eq_decide];omega
  . show(Tr.mk f (k/2)).has (i/2)=_
    rw[Tr.has_mk' f _ _ (by omega),decide_eq_decide];omega
section
variable {E:Env}{fr:Tr}{h:Heap}
variable {call:D4}
theorem Ch(k:IntKind)(n:Int):x8 k n=zs (.int k n):=Nh _ _
theorem Z7(k:IntKind)(n:Int):O5 k n=zs (.int k (k.wrap n)):=by unfold O5;rw[Ch,Sr]
theorem U4(b:Bool):F3 b=zs (.bool b):=by cases b<;>rfl
theorem Gb(k:IntKind):kindEq k k=zt:=(Dc k k).2 rfl
theorem X1(k:IntKind)(a b:Int)(f:IntKind->Int->Int->Option AV):a8 (.int k a) (.int k b) f=f k a b:=by
 show(bif kindEq k k then f k a b else znq)=_
 rw[Gb];rfl
theorem RM(fl:EqK)(k:IntKind)(a b:Int):J1 .add fl (.int k a) (.int k b)=zs (.int k (k.wrap (a+b))):=by
 show a8 (.int k a) (.int k b) (fun k a b=>O5 k (a+b))=_;rw[X1,Z7]
theorem RN(fl:EqK)(k:IntKind)(a b:Int):J1 .sub fl (.int k a) (.int k b)=zs (.int k (k.wrap (a-b))):=by
 show a8 _ _ _=_;rw[X1,Z7]
theorem RO(fl:EqK)(k:IntKind)(a b:Int):J1 .mul fl (.int k a) (.int k b)=zs (.int k (k.wrap (a*b))):=by
 show a8 _ _ _=_;rw[X1,Z7]
theorem RP(fl:EqK)(k:IntKind)(a b:Int):J1 .eql fl (.int k a) (.int k b)=zs (.bool (decide (a=b))):=by
 show A6 (bif kindEq k k then zs (intEq a b)else znq) F3=_
 rw[Gb,y0];show F3 (a==b)=_
 rw[U4];congr 2
theorem RQ(fl:EqK)(k:IntKind)(a b:Int):J1 .neq fl (.int k a) (.int k b)=zs (.bool (!decide (a=b))):=by
 show A6 (bif kindEq k k then zs (intEq a b)else znq) (fun b=>F3 (!b))=_
 rw[Gb,y0];show F3 (!(a==b))=_
 rw[U4];congr 2
theorem KH(fl:EqK)(a b:List UInt8):J1 .eql fl (.str a) (.str b)=zs (.bool (decide (a=b))):=by
 show A6 (zs (Sj a b)) F3=_
 rw[La];show F3 (a==b)=_
 grind[U4]
theorem KI(fl:EqK)(a b:List UInt8):J1 .neq fl (.str a) (.str b)=zs (.bool (!decide (a=b))):=by
 show A6 (zs (Sj a b)) (fun b=>F3 (!b))=_
 rw[La];show F3 (!(a==b))=_
 grind[U4]
theorem RR(fl:EqK)(k:IntKind)(a b:Int):J1 .lss fl (.int k a) (.int k b)=zs (.bool (decide (a<b))):=by
 show a8 _ _ _=_;grind[X1,U4,Q2]
theorem RS(fl:EqK)(k:IntKind)(a b:Int):J1 .leq fl (.int k a) (.int k b)=zs (.bool (decide (a<=b))):=by
 show a8 _ _ _=_;rw[X1,U4,Q2]
theorem RT(fl:EqK)(k:IntKind)(a b:Int):J1 .gtr fl (.int k a) (.int k b)=zs (.bool (decide (b<a))):=by
 show a8 _ _ _=_;grind[X1,U4,Q2]
theorem RU(fl:EqK)(k:IntKind)(a b:Int):J1 .geq fl (.int k a) (.int k b)=zs (.bool (decide (b<=a))):=by
 show a8 _ _ _=_;rw[X1,U4,Q2]
theorem u_not(a:Bool):Kp .not (.bool a)=zs (.bool (!a)):=U4 _
theorem Cf(k j:IntKind)(n:Int):R8 (.int k) (.int j n)=zs (.int k (k.wrap n)):=Z7 _ _
end
section
variable {E:Env}{I:Nat->Prop}{h h':Heap}{sz:Nat}{v x:AV}{es:List AV}
end
section
variable {α β:Type}{R:α->β->Prop}{l:List α}{m:List β}
end
section
variable {E:Env}{fr:Tr}{h:Heap}{call:D4}{D:List Nat}
end
theorem Qa{n:Nat}:∀{l:List Nat},(∀i∈l,n<=i)->H6 n l=[]
 |[],_=>rfl
 |i::l,hl=>by
  show(bif Nat.blt i n then i::H6 n l else H6 n l)=[]
  have h1:=hl i (zqh ..)
  have:Nat.blt i n=zf:=by
   cases e:Nat.blt i n with
   |false=>rfl
   |true=>have:i+1<=n:=Nat.le_of_ble_eq_true e;omega
  rw[this];exact Qa (by grind)
noncomputable section
abbrev PF:=List (Nat×AV)
inductive PO where
 |row (k:Nat) (es:List AV) (sz:Nat)
 |mapo (es:List (AV×AV))
 |sub (p i o:Nat)
 |dead
structure PK where
 os:List PO
 ext:Nat
 tch:List Nat
def ownd(k sz:Nat)(es:List AV):AV:=.tup (.ptr k 0 sz::es)
def ownOf(c:AV):Option (Nat×List AV×Nat):=match c with | .tup (.ptr k 0 sz::es)=>zs (k,es,sz)|_=>znq
def rowOf(os:List PO):Nat->Nat->Option (Nat×List AV×Nat)
 |0,_=>znq
 | n + 1,id=>match os[id]? with
  |some (.row k es sz)=>zs (k,es,sz)
  | some (.sub p i o)=>match rowOf os n p with
   | some (_,es,_)=>match es[i]? with
    | some v=>match v.cells[o]? with
     |some c=>ownOf c
     |none=>znq
    |none=>znq
   |none=>znq
  |_=>znq
def putCl(v:AV)(o:Nat)(c:AV):AV:=match v with | .agg cs=>.agg (cs.set o c)|_=>c
def setRow(os:List PO):Nat->Nat->List AV->Option (List PO)
 |0,_,_=>znq
 | n + 1,id,es'=>match os[id]? with
  |some (.row k _ sz)=>zs (os.set id (.row k es' sz))
  | some (.sub p i o)=>match rowOf os n p with
   | some (_,es,_)=>match es[i]? with
    | some v=>match v.cells[o]? with
     | some c=>match ownOf c with
      |some (k,_,sz)=>setRow os n p (es.set i (putCl v o (ownd k sz es')))
      |none=>znq
     |none=>znq
    |none=>znq
   |none=>znq
  |_=>znq
def rootOf(os:List PO):Nat->Nat->Nat
 |0,id=>id
 |n+1,id=>match os[id]? with|some (.sub p _ _)=>rootOf os n p|_=>id
def chainOf(os:List PO):Nat->Nat->List Nat
 |0,id=>[id]
 |n+1,id=>id::(match os[id]? with|some (.sub p _ _)=>chainOf os n p|_=>[])
def X7(os:List PO)(r:Nat)(keep:List Nat):Nat->List PO->List PO
 |_,[]=>[]
 |j,e::l=>(match e with | .sub p i o=>if rootOf os 6 j=r/\¬j∈keep then .dead else .sub p i o|e=>e)::X7 os r keep (j+1) l
def killP(os:List PO)(r:Nat)(keep:List Nat):List PO:=X7 os r keep 0 os
def openC(id i:Nat):Nat->Nat->List AV->List AV×List PO
 |_,_,[]=>([],[])
 | o,nx,c::r=>match ownOf c with
  |some (k,es,sz)=>((match k with|1=>.ptr nx 0 0|_=>.msl nx 0 es.length sz)::(openC id i (o+1) (nx+1) r).1,.sub id i o::(openC id i (o+1) (nx+1) r).2)
  |none=>(c::(openC id i (o+1) nx r).1,(openC id i (o+1) nx r).2)
def N7(v:AV)(cs:List AV):AV:=match v with | .agg _=>.agg cs|_=>cs.headD .und
def Wd(id i off:Nat)(w:AV)(K:PK):AV×PK:=(N7 w (openC id i off K.os.length w.cells).1,{K with os:=K.os++(openC id i off K.os.length w.cells).2})
def clo(c:AV):Bool:=match c with | .int _ _=>zt | .bool _=>zt | .str _=>zt | .fsl _ _=>zt | .fptr _ _=>zt | .nilsl=>zt | .nilptr=>zt | .nilmap=>zt | .nilfn=>zt | .niliface=>zt|_=>zf
def Ci(es:List AV):Bool:=es.all fun e=>e.cells.all clo
def Eh(c:AV):Bool:=match c with | .agg _=>zf | .tup _=>zf | .und=>zf|_=>zt
def sealC(ext r id i:Nat):Nat->List PO->List AV->Option (List AV×List PO)
 |_,os,[]=>zs ([],os)
 | o,os,c::l=>match clo c with
  |true=>(sealC ext r id i (o+1) os l).map fun p=>(c::p.1,p.2)
  | false=>match c with
   | .msl q 0 m sz=>match os[q]? with
    | some (.row 0 es z)=>if m=es.length/\sz=z/\ext<=q/\q≠r then
     (sealC ext r id i (o+1) (os.set q (.sub id i o)) l).map fun p=>(ownd 0 sz es::p.1,p.2)else znq
    |_=>znq
   |_=>znq
def rawAt(os:List PO)(id:Nat):Bool:=match os[id]? with|some (.row 0 _ _)=>zf|some (.row _ _ _)=>zt|_=>zf
def storeP(t:TI)(p x:AV)(K:PK):Option PK:=
 match p with
 | .ptr id i off=>match rowOf K.os 6 id with
  | some (k,es,sz)=>match es[i]? with
   | some v=>if x.cells.length=t.size/\0<t.size/\off+t.size<=sz then
    match rawAt K.os id with
    |true=>if x.cells.all Eh=zt then zs {K with os:=K.os.set id (.row k (es.set i (v.withCells off x.cells)) sz),tch:=id::K.tch}else znq
    |false=>
     if (x.cells.all clo&&((v.cells.drop off).take t.size).all clo)=zt then
      match setRow K.os 6 id (es.set i (v.withCells off x.cells))with
      |some os2=>zs {K with os:=os2,tch:=rootOf K.os 6 id::K.tch}
      |none=>znq
     else match setRow (killP K.os (rootOf K.os 6 id) (chainOf K.os 6 id)) 6 id (es.set i (v.withCells off (zqa t.size .und)))with
     | some A=>match sealC K.ext (rootOf K.os 6 id) id i off A x.cells with
      | some (cs,os1)=>match setRow os1 6 id (es.set i (v.withCells off cs))with
       |some os2=>zs {K with os:=os2,tch:=rootOf K.os 6 id::K.tch}
       |none=>znq
      |none=>znq
     |none=>znq
    else znq
   |none=>znq
  |none=>znq
 |_=>znq
def loadP(t:TI)(p:AV)(K:PK):Option (AV×PK):=
 match p with
 |.fptr v off=>(partOf t v.cells off).map (·,K)
 | .ptr id i off=>match rowOf K.os 6 id with
  | some (_,es,_)=>match es[i]? with
   | some v=>match partOf t v.cells off with
    |some w=>zs (Wd id i off w K)
    |none=>znq
   |none=>znq
  |none=>znq
 |_=>znq
def takeB(te:TI)(s:AV)(os:List PO):Option (List AV×List PO×List Nat):=
 match s with
 |.nilsl=>zs ([],os,[])
 | .msl id off n sz=>match rowOf os 6 id with
  | some (k,es,z)=>if k=0/\z=te.size/\sz=z/\off+n<=es.length then
   match os[id]? with
   |some (.row _ _ _)=>zs ((es.drop off).take n,(killP os id []).set id .dead,[id])
   | some (.sub p i o)=>match rowOf os 6 p with
    | some (kp,pes,_)=>if kp=0 then match pes[i]? with
     | some v=>match setRow (killP os (rootOf os 6 id) (chainOf os 6 p)) 6 p (pes.set i (v.withCells o [.und]))with
      |some os2=>zs ((es.drop off).take n,os2,[rootOf os 6 id])
      |none=>znq
     |none=>znq
     else znq
    |none=>znq
   |_=>znq
   else znq
  |none=>znq
 |_=>znq
def flatT(te:TI):Bool:=te.zero.cells.all fun c=>match c with | .int _ _=>zt | .bool _=>zt | .str _=>zt|_=>zf
def takeE(te:TI)(x:AV)(ext:Nat)(tc:List Nat)(os:List PO):Option (List AV×List PO):=
 match x with
 |.nilsl=>zs ([],os)
 |.fsl es _=>if F7 te.size es=zt then zs (es,os)else znq
 | .msl id off n sz=>match rowOf os 6 id with
  | some (k,es,z)=>if k=0/\z=te.size/\sz=z/\off+n<=es.length then
   match flatT te with
   |true=>if Ci es=zt then zs ((es.drop off).take n,os)else znq
   | false=>match os[id]? with
    |some (.row _ _ _)=>if off=0/\n=es.length/\ext<=id/\¬id∈tc then zs (es,(killP os id []).set id .dead)else znq
    |some (.sub _ _ _)=>if off=0/\n=es.length then(match takeB te (.msl id off n sz) os with|some (base,os2,tc2)=>if(tc2.all fun r=>decide (ext<=r) && !tc.contains r)=zt then zs (base,os2)else znq|none=>znq)else znq
    |_=>znq
   else znq
  |none=>znq
 |_=>znq
def wholeP(s:AV)(os:List PO):Bool:=match s with | .nilsl=>zt | .msl id off n _=>(match rowOf os 6 id with|some (_,es,_)=>off==0&&n==es.length|none=>zf)|_=>zf
def joinP(te:TI)(base xs:List AV)(os:List PO)(tc:List Nat)(K:PK):Option (AV×PK):=
 if (base.length+xs.length)*te.bytes<=140737488355328 then
  zs (.msl os.length 0 (base.length+xs.length) te.size,{K with os:=os++[.row 0 (base++xs) te.size],tch:=os.length::tc++K.tch})
 else znq
def U5(te:TI)(s x:AV)(K:PK):Option (AV×PK):=
 match takeB te s K.os with
 | some (base,os1,tc)=>match takeE te x K.ext tc os1 with
  |some (xs,os2)=>if(!xs.isEmpty||wholeP s K.os)=zt then joinP te base xs os2 tc K else znq
  |none=>znq
 |none=>znq
def qQ(te:TI)(s:AV)(n:Nat)(K:PK):Option (AV×PK):=
 match takeB te s K.os with
 |some (base,os1,tc)=>if(decide (0<n)||wholeP s K.os)=zt then joinP te base (zqa n te.zero) os1 tc K else znq
 |none=>znq
def newRow(k:Nat)(es:List AV)(sz:Nat)(K:PK):PK:={K with os:=K.os++[.row k es sz]}
def Gc(v:AV):Bool:=match v with | .agg _=>zt|_=>zf
def placeP(te:TI)(id:Nat):List (Nat×AV)->PK->Option PK
 |[],K=>zs K
 |(i,v)::l,K=>if Gc v=Gc te.zero then(match storeP te (.ptr id i 0) v K with|some K=>placeP te id l K|none=>znq)else znq
def placeR(sz:Nat):List (Nat×AV)->List AV->Option (List AV)
 |[],es=>zs es
 |(i,v)::l,es=>if i<es.length/\v.cells.length=sz/\v.cells.all Eh=zt then placeR sz l (es.set i v)else znq
def Cj(te:TI)(n:Nat)(ps:List (Nat×AV))(K:PK):Option (AV×PK):=
 if n*te.size<=65536/\0<te.size then
  match placeP te K.os.length ps (newRow 0 (zqa n te.zero) te.size K)with
  |some K1=>zs (.msl K.os.length 0 n te.size,K1)
  | none=>match placeR te.size ps (zqa n te.zero)with
   |some es=>zs (.msl K.os.length 0 n te.size,newRow 2 es te.size K)
   |none=>znq
 else znq
section
variable (E:Env)
def lookP(l:PF)(i:Nat):AV:=match l with|[]=>.und|p::r=>if p.1=i then p.2 else lookP r i
def opvP(x:Operand)(fr:PF):AV:=match x with | .tmp t=>lookP fr t | .const v=>ofValue v | .global g=>(match E.gl g with|some v=>.fptr v 0|none=>.any) | .func f=>.fn (.func f) [] []
def Oi(x:AV):Bool:=match x with | .msl _ _ _ _=>zf|_=>zt
def Oj(d:TD)(lo hi mx:Option AV)(x:AV):Option AV:=
 match x with
 |.fsl es f=>if es.isEmpty||mx.isSome then znq else(sliceA E d lo hi mx (.fsl es f)).map fun y=>match y with | .fsl l _=>.fsl l l.isEmpty|y=>y
 |.nilsl=>znq
 |x=>sliceA E d lo hi mx x
def KJ(d:TD)(x:AV)(K:PK):Option Nat:=
 match d with
 |.string=>x.onStr znq fun s=>zs (s5 s)
 |.slice _=>fH x
 |.map _ _=>(match x with | .nilmap=>zs 0 | .map id=>(match K.os[id]? with|some (.mapo es)=>zs (sE es)|_=>znq)|_=>znq)
 |_=>znq
def qR(sz id off n:Nat)(xs:List AV)(K:PK):Option (AV×PK):=match K.os[id]? with
 | some (.row 0 es z)=>if z=sz/\off+n<=es.length/\Ci es=zt/\Ci xs=zt then
  zs (.int .i64 (Int.ofNat (min n xs.length)),{K with os:=K.os.set id (.row 0 (es.take off++(xs.take (min n xs.length)++es.drop (off+min n xs.length))) z),tch:=id::K.tch})
  else znq
 |_=>znq
def E0(b:Builtin)(ts:List TypeId)(args:List AV)(K:PK):Option (AV×PK):=
 match b,ts,args with
 | .len,t::_,x::_=>match E.ti t with
  |some ti=>(KJ ti.desc x K).map fun n=>(.int .i64 (Int.ofNat n),K)
  |none=>znq
 | .append,t::tx::_,s::x::_=>match E.ti t,E.ti tx with
  | some ti,zs tix=>match elemOfT E ti.desc with
   | some te=>if 0<te.size then(match tix.desc with
    |.int _=>(match asNat x with|some n=>if n*te.bytes<=140737488355328 then qQ te s n K else znq|none=>znq)
    |_=>U5 te s x K)else znq
   |none=>znq
  |_,_=>znq
 | .copy,t::_,.msl id off n z::x::_=>match E.ti t with
  | some ti=>match elemOfT E ti.desc with
   |some te=>if z=te.size then(match takeE te x K.ext [] K.os with|some q=>qR te.size id off n q.1 K|none=>znq)else znq
   |none=>znq
  |none=>znq
 |.max,_,x::r=>(Ni r x).map (·,K)
 |.min,_,x::r=>(Qg r x).map (·,K)
 |_,_,_=>znq
def qS(E:Env)(t:Nat)(m k x:AV)(K:PK):Option (AV×PK):=znq
inductive OpS where
 |val (v:AV) (K:PK)
 |call (f:Nat) (args:List AV)
 |pan (v:AV)
 |bad
def Mo(x:Option (AV×PK)):OpS:=match x with|some p=>.val p.1 p.2|none=>.bad
def Bp(x:Option AV)(K:PK):OpS:=match x with|some v=>.val v K|none=>.bad
def X8(t:Nat)(f:TI->OpS):OpS:=match E.ti t with|some ti=>f ti|none=>.bad
def opvL(l:List Operand)(fr:PF):List AV:=match l with|[]=>[]|x::r=>opvP E x fr::opvL r fr
def eA(l:List (Nat×Operand))(fr:PF):List (Nat×AV):=match l with|[]=>[]|x::r=>(x.1,opvP E x.2 fr)::eA r fr
def eB(o:Option Operand)(fr:PF):Option AV:=match o with|none=>znq|some x=>zs (opvP E x fr)
def Mp(c a b:AV)(K:PK):OpS:=match c with | .bool zt=>.val a K | .bool zf=>.val b K|_=>.bad
def zU(ti:TI)(v:AV)(K:PK):OpS:=if v.cells.length=ti.size/\v.cells.all Eh=zt then .val (.ptr K.os.length 0 0) (newRow 1 [v] ti.size K)else .bad
def Q6(op:BinOp)(t:Nat)(x y:AV)(K:PK):OpS:=if Oi x=zt/\Oi y=zt then Bp (J1 op (N2 E t) x y) K else .bad
def Qb(ti:TI)(l c:AV)(K:PK):OpS:=match elemOfT E ti.desc,asNat l,asNat c with
 |some te,zs n,zs m=>if n<=m/\m*te.bytes<=140737488355328/\0<te.size then .val (.msl K.os.length 0 n te.size) (newRow 0 (zqa n te.zero) te.size K)else .bad
 |_,_,_=>.bad
def E6(ti:TI)(f:Nat)(x:AV):Option AV:=match fieldAt E ti f with|some p=>if 0<p.1.size then B0 x p.2 else znq|none=>znq
def RV(ti:TI)(f:Nat)(x:AV):Option AV:=match fieldAt E ti f with|some p=>(match x with | .agg cs=>partOf p.1 cs p.2|_=>znq)|none=>znq
def Gd(ti:TI)(x i:AV):Option AV:=match asNat i with|some n=>S3 E ti.desc n x|none=>znq
def RW(ti:TI)(x i:AV):Option AV:=match asNat i with|some n=>Ew E ti.desc n x|none=>znq
def EA(E:Env)(ti:TI)(ok:Bool)(m k:AV)(K:PK):Option AV:=znq
def Mq(g:AV)(args:List AV):OpS:=match g with | .fn f first caps=>(match f with | .func n=>.call n (first++(args++caps))|_=>.bad)|_=>.bad
def prim(op:Op)(fr:PF)(K:PK):OpS:=
 match op with
 |.move x=>.val (opvP E x fr) K
 |.assign x=>.val (opvP E x fr) K
 |.pick c a b=>Mp (opvP E c fr) (opvP E a fr) (opvP E b fr) K
 |.alloc t=>X8 E t fun ti=>.val (.ptr K.os.length 0 0) (newRow 1 [ti.zero] ti.size K)
 |.box t x=>X8 E t fun ti=>zU ti (opvP E x fr) K
 |.build t ps=>X8 E t fun ti=>Bp (R9 E ti (eA E ps.toList fr)) K
 |.buildSlice t n ps=>X8 E t fun ti=>match elemOfT E ti.desc with|some te=>Mo (Cj te n (eA E ps.toList fr) K)|none=>.bad
 |.load t a=>X8 E t fun ti=>Mo (loadP ti (opvP E a fr) K)
 |.store t a x=>X8 E t fun ti=>Mo ((storeP ti (opvP E a fr) (opvP E x fr) K).map fun K=>(.und,K))
 |.nilCheck x=>Bp (j7 (opvP E x fr)) K
 |.binOp op t x y _=>Q6 E op t (opvP E x fr) (opvP E y fr) K
 |.unOp op _ x=>Bp (Kp op (opvP E x fr)) K
 |.convert s d x=>X8 E s fun _=>X8 E d fun A=>Bp (R8 A.desc (opvP E x fr)) K
 |.makeInterface t x=>X8 E t fun ti=>bif V0 ti.desc then .val (.iface t (opvP E x fr)) K else .bad
 |.makeFunc f first caps=>.val (.fn f (opvL E first.toList fr) (opvL E caps.toList fr)) K
 |.makeMap _ r=>(match r with|none=>.val (.map K.os.length) {K with os:=K.os++[.mapo []]}|some _=>.bad)
 |.makeSlice t l c=>X8 E t fun ti=>Qb E ti (opvP E l fr) (opvP E c fr) K
 |.slice t x lo hi mx=>X8 E t fun ti=>bif hi.isNone&&mx.isSome then .bad else Bp (Oj E ti.desc (eB E lo fr) (eB E hi fr) (eB E mx fr) (opvP E x fr)) K
 |.fieldAddr t x f=>X8 E t fun ti=>Bp (E6 E ti f (opvP E x fr)) K
 |.field t x f=>X8 E t fun ti=>Bp (RV E ti f (opvP E x fr)) K
 |.indexAddr t x i=>X8 E t fun ti=>Bp (Gd E ti (opvP E x fr) (opvP E i fr)) K
 |.index t x i=>X8 E t fun ti=>Bp (RW E ti (opvP E x fr) (opvP E i fr)) K
 |.lookup t m k ok=>X8 E t fun ti=>Bp (EA E ti ok (opvP E m fr) (opvP E k fr) K) K
 |.mapUpdate t m k x=>Mo (qS E t (opvP E m fr) (opvP E k fr) (opvP E x fr) K)
 |.insert t m k x=>Mo (qS E t (opvP E m fr) (opvP E k fr) (opvP E x fr) K)
 |.typeAssert x _ t ok=>X8 E t fun ti=>bif V0 ti.desc && !ok then Bp (Kt t (opvP E x fr)) K else .bad
 |.extract t i=>(match opvP E t fr with | .tup vs=>Bp vs[i]? K|_=>.bad)
 | .call c=>(match c.callee with
  |.builtin b=>Mo (E0 E b c.argTypes.toList (opvL E c.args.toList fr) K)
  |.value g=>Mq (opvP E g fr) (opvL E c.args.toList fr)
  |.invoke _ _=>.bad)
 |.panic x=>(match opvP E x fr with | .iface t v=>.pan (.iface t v)|_=>.bad)
 |_=>.bad
def fslN(es:List AV):AV:=.fsl es es.isEmpty
def consO(a:Option AV)(l:Option (List AV)):Option (List AV):=match a with|some a=>(match l with|some l=>zs (a::l)|none=>znq)|none=>znq
mutual
def frzC:AV->Option AV
 |.int k n=>zs (.int k n)
 |.bool b=>zs (.bool b)
 |.str s=>zs (.str s)
 |.agg cs=>(match frzL cs with|some cs=>zs (.agg cs)|none=>znq)
 |.tup cs=>(match cs with | .ptr k 0 _::es=>(match frzL es with|some es=>(match k with|1=>(match es with|[v]=>zs (.fptr v 0)|_=>znq)|_=>zs (fslN es))|none=>znq)|_=>znq)
 |.fsl es _=>(match frzL es with|some es=>zs (fslN es)|none=>znq)
 |.fptr v o=>(match frzC v with|some v=>zs (.fptr v o)|none=>znq)
 |.msl _ _ _ _=>znq
 |.ptr _ _ _=>znq
 |.nilsl=>zs (.fsl [] zt)
 |.nilptr=>zs .nilptr
 |.nilmap=>zs .nilmap
 |.map _=>znq
 |.fn _ _ _=>znq
 |.nilfn=>zs .nilfn
 |.iface _ _=>znq
 |.niliface=>zs .niliface
 |.any=>znq
 | .und=>znq
def frzL:List AV->Option (List AV)
 |[]=>zs []
 |v::l=>consO (frzC v) (frzL l)
end
def viewV(os:List PO)(v:AV):Option AV:=
 match v with
 | .msl id off n sz=>(match rowOf os 6 id with
  |some (k,es,z)=>if k=0/\sz=z/\off+n<=es.length then(match frzL ((es.drop off).take n)with|some es=>zs (fslN es)|none=>znq)else znq
  |none=>znq)
 | .ptr id i off=>(match rowOf os 6 id with
  |some (k,es,z)=>if k=0 then(match es[i]? with|some v=>(match frzC v with|some v=>zs (.fptr v off)|none=>znq)|none=>znq)else znq
  |none=>znq)
 |.tup _=>znq
 |.agg _=>znq
 |v=>frzC v
def viewL(os:List PO):List AV->Option (List AV)
 |[]=>zs []
 |v::l=>consO (viewV os v) (viewL os l)
def viewA(os:List PO)(v:AV):Option AV:=match v with | .agg cs=>(match viewL os cs with|some cs=>zs (.agg cs)|none=>znq)|v=>viewV os v
def viewAs(os:List PO):List AV->Option (List AV)
 |[]=>zs []
 |v::l=>consO (viewA os v) (viewAs os l)
mutual
def J3:AV->List Nat
 |.int _ _=>[]
 |.bool _=>[]
 |.str _=>[]
 |.agg cs=>G9 cs
 |.tup cs=>G9 cs
 |.fsl _ _=>[]
 |.fptr _ _=>[]
 |.msl id _ _ _=>[id]
 |.ptr id _ _=>[id]
 |.nilsl=>[]
 |.nilptr=>[]
 |.nilmap=>[]
 |.map id=>[id]
 |.fn _ a b=>G9 a++G9 b
 |.nilfn=>[]
 |.iface _ v=>J3 v
 |.niliface=>[]
 |.any=>[]
 | .und=>[]
def G9:List AV->List Nat
 |[]=>[]
 |v::l=>J3 v++G9 l
end
mutual
def noF:AV->Bool
 |.int _ _=>zt
 |.bool _=>zt
 |.str _=>zt
 |.agg cs=>noFL cs
 |.tup cs=>(match cs with | .ptr _ 0 _::es=>noFL es|_=>zf)
 |.nilsl=>zt
 |.nilptr=>zt
 |.nilmap=>zt
 |.nilfn=>zt
 |.niliface=>zt
 |_=>zf
def noFL:List AV->Bool
 |[]=>zt
 |v::l=>noF v&&noFL l
end
mutual
def G6(σ:Nat->Option Nat):AV->AV
 |.int k n=>.int k n
 |.bool b=>.bool b
 |.str s=>.str s
 |.agg cs=>.agg (renL σ cs)
 |.tup cs=>.tup (renL σ cs)
 |.fsl es f=>.fsl es f
 |.fptr v o=>.fptr v o
 |.msl id off n sz=>(match σ id with|some j=>.msl j off n sz|none=>.und)
 |.ptr id i o=>(match σ id with|some j=>.ptr j i o|none=>.und)
 |.nilsl=>.nilsl
 |.nilptr=>.nilptr
 |.nilmap=>.nilmap
 |.map id=>(match σ id with|some j=>.map j|none=>.und)
 |.fn f a b=>.fn f (renL σ a) (renL σ b)
 |.nilfn=>.nilfn
 |.iface t v=>.iface t (G6 σ v)
 |.niliface=>.niliface
 |.any=>.und
 | .und=>.und
def renL(σ:Nat->Option Nat):List AV->List AV
 |[]=>[]
 |v::l=>G6 σ v::renL σ l
end
def posOf(l:List Nat)(id:Nat):Option Nat:=match l with|[]=>znq|j::r=>if j=id then zs 0 else(posOf r id).map (· + 1)
def i7(s:Nat->List Nat):Nat->List Nat->List Nat->List Nat
 |0,_,acc=>acc
 |_+1,[],acc=>acc
 |n+1,id::todo,acc=>if id∈acc then i7 s n todo acc else i7 s n (todo++s id) (acc++[id])
def eC(e:Option PO):List Nat:=match e with|some (.row 0 _ _)=>[]|some (.row _ es _)=>G9 es|_=>[]
def jS(os:List PO)(id:Nat):List Nat:=match os[id]? with|some (.sub p _ _)=>[p]|e=>eC e
def renPO(σ:Nat->Option Nat)(e:PO):PO:=match e with
 |.row 0 es sz=>.row 0 es sz
 |.row k es sz=>.row k (renL σ es) sz
 |.mapo es=>.mapo es
 |.sub p i o=>(match σ p with|some q=>.sub q i o|none=>.dead)
 | .dead=>.dead
def entryAt(os:List PO)(id:Nat):PO:=match os[id]? with|some e=>e|none=>.dead
def markIds(keep:List Nat)(fr:PF)(K:PK):List Nat:=i7 (jS K.os) 64 ((List.range K.ext).flatMap (jS K.os)++G9 (keep.map (lookP fr))) (List.range K.ext)
def KK(ids:List Nat)(K:PK)(ext:Nat)(tch:List Nat):PK:={os:=ids.map fun id=>renPO (posOf ids) (entryAt K.os id),ext:=ext,tch:=tch}
def J7(keep:List Nat)(fr:PF)(K:PK):PF×PK:=
 (keep.map fun i=>(i,G6 (posOf (markIds keep fr K)) (lookP fr i)),KK (markIds keep fr K) K K.ext (K.tch.filter (· < K.ext)))
def cutPO(e:PO):PO:=match e with | .sub _ _ _=>.dead|e=>e
def focusIds(args:List AV)(K:PK):List Nat:=i7 (fun id=>eC K.os[id]?) 64 (G9 args) []
def focusK(ids:List Nat)(K:PK):PK:={os:=ids.map fun id=>cutPO (renPO (posOf ids) (entryAt K.os id)),ext:=ids.length,tch:=[]}
def backN(ids:List Nat)(base e:Nat):Option Nat:=match ids[e]? with|some id=>zs id|none=>zs (base+(e-ids.length))
def killU(os:List PO)(ids:List Nat):Nat->List PO->List PO
 |_,[]=>[]
 |j,e::l=>(match e with | .sub p i o=>if ids.contains j||(chainOf os 6 p).any (fun q=>ids.contains q)then .dead else .sub p i o|e=>e)::killU os ids (j+1) l
def putBack(ρ:Nat->Option Nat):List Nat->List PO->List PO->Option (List PO)
 |[],_,os=>zs os
 |_::_,[],_=>znq
 | id::ids,e::l,os=>match os[id]? with
  | some (.row _ _ _)=>(match e with
   |.row k es sz=>putBack ρ ids l (os.set id (renPO ρ (.row k es sz)))
   |.dead=>putBack ρ ids l (os.set id .dead)
   |_=>znq)
  |some (.mapo _)=>(match e with | .mapo es=>putBack ρ ids l (os.set id (.mapo es))|_=>znq)
  |_=>(match e with | .dead=>putBack ρ ids l os|_=>znq)
def mergeK(ids:List Nat)(K K1:PK):Option PK:=
 if ids.all (fun i=>decide (i<K.os.length))=zt then match putBack (backN ids K.os.length) ids K1.os (killU K.os ids 0 K.os)with
 |some os=>zs {os:=os++(K1.os.drop ids.length).map (renPO (backN ids K.os.length)),ext:=K.ext,tch:=(K1.tch.filter (· < ids.length)).map (fun j=>ids.getD j 0)++K.tch}
 |none=>znq
 else znq
def openT:Nat->List AV->List AV×List PO
 |_,[]=>([],[])
 | nx,c::r=>match ownOf c with
  |some (k,es,sz)=>((match k with|1=>.ptr nx 0 0|_=>.msl nx 0 es.length sz)::(openT (nx+1) r).1,.row 0 es sz::(openT (nx+1) r).2)
  |none=>(c::(openT nx r).1,(openT nx r).2)
def openTs:Nat->List AV->List AV×List PO
 |_,[]=>([],[])
 |nx,v::r=>(N7 v (openT nx v.cells).1::(openTs (nx+(openT nx v.cells).2.length) r).1,(openT nx v.cells).2++(openTs (nx+(openT nx v.cells).2.length) r).2)
def okRs(rs:List AV):Bool:=rs.all fun v=>v.cells.all fun c=>(ownOf c).isSome||clo c
def viewW(os:List PO)(v:AV):Option AV:=match viewV os v with
 |some w=>zs w
 | none=>match v with
  | .msl id off n sz=>(match rawAt os id with
   | true=>(match os[id]? with
    |some (.row _ es z)=>if sz=z/\off+n<=es.length then(match viewAs os ((es.drop off).take n)with|some es=>zs (fslN es)|none=>znq)else znq
    |_=>znq)
   |false=>znq)
  |_=>znq
def viewWL(os:List PO):List AV->Option (List AV)
 |[]=>zs []
 |v::l=>consO (viewW os v) (viewWL os l)
def viewWA(os:List PO)(v:AV):Option AV:=match v with | .agg cs=>(match viewWL os cs with|some cs=>zs (.agg cs)|none=>znq)|v=>viewW os v
def Rv(os:List PO):List AV->Option (List AV)
 |[]=>zs []
 |v::l=>consO (viewWA os v) (Rv os l)
def viewX(os:List PO)(l:List AV):Option (List AV):=match viewAs os l with|some as1=>zs as1|none=>Rv os l
def tcall(g:List AV->Option (List AV))(args:List AV)(K:PK):Option (List AV×PK):=
 match viewX K.os args with
 | some as1=>(match g as1 with
  |some rs=>if(okRs rs&&((G9 args).isEmpty||noFL rs))=zt then zs ((openTs K.os.length rs).1,{K with os:=K.os++(openTs K.os.length rs).2})else znq
  |none=>znq)
 |none=>znq
inductive PC where
 |skip
 |reg (draw:Bool) (l:List XOp)
 |seq (a b:PC)
 |cond (c:Operand) (a b:PC)
 |block (id:Nat) (c:PC)
 |loop (c:PC)
 |scope (c:PC)
 |exit (id:Nat)
 |ret
 |pre (keep:List Nat) (c:PC)
 |post (keep:List Nat) (c:PC)
 |rfn (g:Operand) (ps:List Tmp) (a b:PC)
 |itf (x:XC) (c:PC)
 |yreg (p0:PC) (gd:Option (Option Tmp×Bool)) (yt:Tmp) (p1:PC) (yd:Tmp) (args:List Operand) (p2:PC)
 |dfr (x:XC) (a:PC) (g:Operand) (c:PC)
 |rcv (x:XC) (d d2:Tmp) (c:PC)
def PC.er:PC->XC
 |.skip=>.skip
 |.reg d l=>.reg d l
 |.seq a b=>.seq a.er b.er
 |.cond c a b=>.cond c a.er b.er
 |.block i c=>.block i c.er
 |.loop c=>.loop c.er
 |.scope c=>.scope c.er
 |.exit i=>.exit i
 |.ret=>.ret
 |.pre _ c=>c.er
 |.post _ c=>c.er
 |.rfn g ps a b=>.rfn g ps a.er b.er
 |.itf x _=>x
 |.yreg _ _ _ _ _ _ _=>.bad
 |.dfr x _ _ _=>x
 | .rcv x _ _ _=>x
def PC.pieces:PC->List XC
 |.seq a b=>a.er::b.pieces
 |c=>[c.er]
def PC.eri:PC->IC
 |.reg d l=>.reg (.reg d l)
 |.seq a b=>.seq a.eri b.eri
 |.cond c a b=>.cond c a.eri b.eri
 |.block i c=>.block i c.eri
 |.loop c=>.loop c.eri
 |.exit i=>.exit i
 |.ret=>.ret
 |.pre _ c=>c.eri
 |.post _ c=>c.eri
 |.yreg p0 gd yt p1 yd args p2=>.yreg p0.er gd yt p1.er yd args p2.er
 |_=>.skip
structure RC where
 ps:List Tmp
 a:PC
 b:PC
 fr:PF
structure PFn where
 code:PC
 nt:Nat
 rs:List ResultVar
 inp:Bool
def itOf(p:Option PFn):Option (Nat×PC):=match p with|some ⟨.itf _ c,nt,_,_⟩=>zs (nt,c)|_=>znq
def rcOf(p:Option PFn):Option (Nat×Tmp×Tmp×PC):=match p with|some ⟨.rcv _ d d2 c,nt,[],_⟩=>zs (nt,d,d2,c)|_=>znq
def inpOf(p:Option PFn):Bool:=match p with|some p=>p.inp|none=>zf
structure PE where
 E:Env
 T:Nat->Option (List AV->Option (List AV))
 fn:Nat->Option PFn
inductive PJ where
 |code (c:PC) (fr:PF) (K:PK)
 |ops (l:List XOp) (fr:PF) (K:PK)
 |opsD (l:List XOp) (fr:PF) (K:PK)
 |opsS (S:List PK) (l:List XOp) (fr:PF) (K:PK)
 |call (f:Nat) (args:List AV) (K:PK)
 |body (f:Nat) (args:List AV) (K:PK)
 |iter (c:RC) (m:Nat) (ic:PC) (p:Option Ex) (fr:PF) (K:PK)
 |round (c:RC) (args:List AV) (K:PK)
 |dfc (a:PC) (g:Operand) (c:PC) (fr:PF) (K:PK)
 |rcv (x v:AV) (K:PK)
def bodyJ(c:PC)(fr:PF)(K:PK):PJ:=match c with | .dfr _ a g c=>.dfc a g c fr K | .rcv _ _ _ _=>.rcv .und .und K|c=>.code c fr K
inductive PR where
 |ok (e:Ex) (fr:PF) (K:PK)
 |val (vs:List AV) (K:PK)
 |pan (v:AV) (K:PK)
 |itr (e:Ex) (p:Option Ex) (fr:PF) (K:PK)
def setP(d:Option Tmp)(v:AV)(fr:PF):PF:=match d with|none=>fr|some t=>(t,v)::fr
def guardP(g:Option (Option Tmp×Bool))(fr:PF):Option Bool:=match g with
 |none=>zs zt
 |some (znq,_)=>zs zf
 |some (zs t,w)=>j8 w (lookP fr t)
def enterP:Nat->List AV->PF
 |_,[]=>[]
 |i,v::l=>(i,v)::enterP (i+1) l
def resP(E:Env):List ResultVar->PF->PK->Option (List AV×PK)
 |[],_,K=>zs ([],K)
 |.tmp t::l,fr,K=>match resP E l fr K with|some (vs,K)=>zs (lookP fr t::vs,K)|none=>znq
 | .cell a t::l,fr,K=>match E.ti t with
  | some ti=>match loadP ti (lookP fr a) K with
   |some (v,K)=>match resP E l fr K with|some (vs,K)=>zs (v::vs,K)|none=>znq
   |none=>znq
  |none=>znq
def setPs':List Tmp->List AV->PF->PF
 |[],_,fr=>fr
 |_::_,[],fr=>fr
 |p::ps,v::l,fr=>setPs' ps l ((p,v)::fr)
def wentOn(e:Ex):Bool:=match e with | .normal=>zt|_=>zf
def Ok(e:Ex):Option Ex:=match e with | .normal=>znq|e=>zs e
def j1(E:Env):List XOp->List Bool->PF->PK->Bool
 |[],_,_,_=>zt
 |_::_,[],_,_=>zf
 |o::l,zt::s,fr,K=>j1 E l s (setP o.dst skipped fr) K
 | o::l,zf::s,fr,K=>match guardP o.gd fr with
  | some zt=>!o.quiet&&(match prim E o.op fr K with
   |.val v K=>j1 E l s (setP o.dst v fr) K
   |_=>zf)
  |some zf=>j1 E l s (setP o.dst skipped fr) K
  |none=>zf
def r8(n:Nat)(l:List XOp)(K:PK):Bool:=K.tch.all (fun i=>decide (n<=i))||l.all (fun o=>!o.careful)
def GS(os:List PO)(id:Nat):Bool:=match os[id]? with|some (.row _ _ _)=>zt|_=>zf
def jT(os:List PO)(S:PK)(v:AV):Bool:=match v with | .ptr id _ _=>GS S.os id&&(!S.tch.contains id&&GS os id)|_=>zf
def KL(E:Env)(S:PK)(os:List PO)(fr:PF)(op:Op):Bool:=match op with | .load _ a=>jT os S (opvP E a fr)|_=>zf
def GT(E:Env)(S:PK)(K:PK)(fr:PF)(o:XOp):Bool:=match o.careful with|false=>zt|true=>KL E S K.os fr o.op
def eD(E:Env)(S:List PK)(K:PK)(fr:PF)(o:XOp):Bool:=S.all fun s=>GT E s K fr o
def evG(P:PE)(ev:PJ->Option PR):PJ->Option PR
 |.code .skip fr K=>zs (.ok .normal fr K)
 |.code (.reg zf l) fr K=>ev (.ops l fr K)
 |.code (.reg zt l) fr K=>ev (.opsD l fr K)
 | .code (.seq a b) fr K=>do
  match <-ev (.code a fr K)with
  |.ok .normal fr K=>ev (.code b fr K)
  |.ok (.exit i) fr K=>pure (.ok (.exit i) fr K)
  |.ok .ret fr K=>pure (.ok .ret fr K)
  |.pan v K=>pure (.pan v K)
  |.val _ _=>znq
  |.itr _ _ _ _=>znq
 | .code (.cond c a b) fr K=>match opvP P.E c fr with
  |.bool zt=>ev (.code a fr K)
  |.bool zf=>ev (.code b fr K)
  |_=>znq
 | .code (.block i c) fr K=>do
  match <-ev (.code c fr K)with
  |.ok .normal fr K=>pure (.ok .normal fr K)
  |.ok (.exit j) fr K=>if j=i then pure (.ok .normal fr K)else pure (.ok (.exit j) fr K)
  |.ok .ret fr K=>pure (.ok .ret fr K)
  |.pan v K=>pure (.pan v K)
  |.val _ _=>znq
  |.itr _ _ _ _=>znq
 | .code (.loop c) fr K=>do
  match <-ev (.code c fr K)with
  |.ok .normal fr K=>ev (.code (.loop c) fr K)
  |.ok (.exit i) fr K=>pure (.ok (.exit i) fr K)
  |.ok .ret fr K=>pure (.ok .ret fr K)
  |.pan v K=>pure (.pan v K)
  |.val _ _=>znq
  |.itr _ _ _ _=>znq
 |.code (.scope c) fr K=>ev (.code c fr K)
 |.code (.exit i) fr K=>zs (.ok (.exit i) fr K)
 |.code .ret fr K=>zs (.ok .ret fr K)
 |.code (.pre k c) fr K=>ev (.code c (J7 k fr K).1 (J7 k fr K).2)
 | .code (.post k c) fr K=>do
  match <-ev (.code c fr K)with
  |.ok .normal fr K=>pure (.ok .normal (J7 k fr K).1 (J7 k fr K).2)
  |.ok (.exit i) fr K=>pure (.ok (.exit i) fr K)
  |.ok .ret fr K=>pure (.ok .ret fr K)
  |.pan v K=>pure (.pan (lookP (J7 [0] [(0,v)] K).1 0) (J7 [0] [(0,v)] K).2)
  |.val _ _=>znq
  |.itr _ _ _ _=>znq
 | .code (.rfn g ps a b) fr K=>match opvP P.E g fr with
  | .fn (.func n) [] caps=>match itOf (P.fn n)with
   | some (nt,ic)=>if caps.length+1<=nt then do
    match <-ev (.iter ⟨ps,a,b,fr⟩ itMax ic znq (enterP 0 (.any::caps)) ⟨K.os,K.os.length,[]⟩)with
    |.itr .normal p _ K1=>pure (.ok (uS p) fr ⟨K1.os,K.ext,K1.tch++K.tch⟩)
    |.itr .ret p _ K1=>pure (.ok (uS p) fr ⟨K1.os,K.ext,K1.tch++K.tch⟩)
    |_=>znq
    else znq
   |none=>znq
  |_=>znq
 |.code (.itf _ _) fr K=>znq
 |.code (.yreg _ _ _ _ _ _ _) fr K=>znq
 |.code (.dfr _ _ _ _) fr K=>znq
 |.code (.rcv _ _ _ _) fr K=>znq
 | .dfc a g c fr K=>do
  match <-ev (.code a fr K)with
  | .ok .normal fr K=>do
   match <-ev (.code c fr ⟨K.os,K.os.length,[]⟩)with
   | .ok .normal fr2 K2=>do
    match <-ev (.rcv (opvP P.E g fr) .niliface ⟨K2.os,K2.os.length,[]⟩)with
    |.ok _ _ K3=>pure (.ok .ret fr2 ⟨K3.os,K.ext,K3.tch++(K2.tch++K.tch)⟩)
    |_=>znq
   | .ok .ret fr2 K2=>do
    match <-ev (.rcv (opvP P.E g fr) .niliface ⟨K2.os,K2.os.length,[]⟩)with
    |.ok _ _ K3=>pure (.ok .ret fr2 ⟨K3.os,K.ext,K3.tch++(K2.tch++K.tch)⟩)
    |_=>znq
   | .pan v K2=>do
    match <-ev (.rcv (opvP P.E g fr) v ⟨K2.os,K2.os.length,[]⟩)with
    |.ok _ _ K3=>pure (.ok .ret fr ⟨K3.os,K.ext,K3.tch++(K2.tch++K.tch)⟩)
    |_=>znq
   |_=>znq
  |_=>znq
 | .rcv x v K=>match x with
  | .fn (.func n) [] caps=>match rcOf (P.fn n)with
   | some (nt,d,d2,c)=>if caps.length<=nt then do
    match <-ev (.code c (setPs' [d,d2] [v,v] (enterP 0 caps)) K)with
    |.ok .normal fr K=>pure (.ok .normal fr K)
    |.ok .ret fr K=>pure (.ok .normal fr K)
    |_=>znq
    else znq
   |none=>znq
  |_=>znq
 | .round c args K=>if args.length=c.ps.length then do
  match <-ev (.code c.a (setPs' c.ps args c.fr) K)with
  |.ok .normal fr K=>ev (.code c.b fr K)
  |_=>znq
  else znq
 |.iter c 0 ic p fr K=>znq
 | .iter c (m+1) (.reg d l) p fr K=>do
  match <-ev (.code (.reg d l) fr K)with
  |.ok .normal fr K=>pure (.itr .normal p fr K)
  |_=>znq
 | .iter c (m+1) (.seq a b) p fr K=>do
  match <-ev (.iter c m a p fr K)with
  |.itr .normal p fr K=>ev (.iter c m b p fr K)
  |.itr (.exit i) p fr K=>pure (.itr (.exit i) p fr K)
  |.itr .ret p fr K=>pure (.itr .ret p fr K)
  |_=>znq
 | .iter c (m+1) (.cond x a b) p fr K=>match opvP P.E x fr with
  |.bool zt=>ev (.iter c m a p fr K)
  |.bool zf=>ev (.iter c m b p fr K)
  |_=>znq
 | .iter c (m+1) (.block i a) p fr K=>do
  match <-ev (.iter c m a p fr K)with
  |.itr .normal p fr K=>pure (.itr .normal p fr K)
  |.itr (.exit j) p fr K=>if j=i then pure (.itr .normal p fr K)else pure (.itr (.exit j) p fr K)
  |.itr .ret p fr K=>pure (.itr .ret p fr K)
  |_=>znq
 | .iter c (m+1) (.loop a) p fr K=>do
  match <-ev (.iter c m a p fr K)with
  |.itr .normal p fr K=>ev (.iter c m (.loop a) p fr K)
  |.itr (.exit i) p fr K=>pure (.itr (.exit i) p fr K)
  |.itr .ret p fr K=>pure (.itr .ret p fr K)
  |_=>znq
 |.iter c (m+1) .skip p fr K=>zs (.itr .normal p fr K)
 |.iter c (m+1) (.exit i) p fr K=>zs (.itr (.exit i) p fr K)
 |.iter c (m+1) .ret p fr K=>zs (.itr .ret p fr K)
 |.iter c (m+1) (.pre k a) p fr K=>ev (.iter c (m+1) a p (J7 k fr K).1 (J7 k fr K).2)
 | .iter c (m+1) (.post k a) p fr K=>do
  match <-ev (.iter c (m+1) a p fr K)with
  |.itr .normal p fr K=>pure (.itr .normal p (J7 k fr K).1 (J7 k fr K).2)
  |r=>pure r
 | .iter c (m+1) (.yreg p0 gd yt p1 yd args p2) p fr K=>do
  match <-ev (.code p0 fr K)with
  | .ok .normal fr K=>match guardP gd fr with
   | some zt=>match p with
    | none=>do
     match <-ev (.code p1 ((yt,.any)::fr) K)with
     | .ok .normal fr K=>match guardP gd fr with
      | some zt=>do
       match <-ev (.round c (opvL P.E args fr) ⟨K.os,K.os.length,[]⟩)with
       | .ok e _ K1=>do
        match <-ev (.code p2 ((yd,.bool (wentOn e))::fr) ⟨K1.os,K.ext,K1.tch++K.tch⟩)with
        |.ok .normal fr K=>pure (.itr .normal (Ok e) fr K)
        |_=>znq
       |_=>znq
      |_=>znq
     |_=>znq
    |some _=>znq
   | some zf=>do
    match <-ev (.code p1 ((yt,skipped)::fr) K)with
    | .ok .normal fr K=>match guardP gd fr with
     | some zf=>do
      match <-ev (.code p2 ((yd,skipped)::fr) K)with
      |.ok .normal fr K=>pure (.itr .normal p fr K)
      |_=>znq
     |_=>znq
    |_=>znq
   |none=>znq
  |_=>znq
 |.iter c (m+1) _ p fr K=>znq
 |.ops [] fr K=>zs (.ok .normal fr K)
 | .ops (o::l) fr K=>match guardP o.gd fr with
  | some zt=>match prim P.E o.op fr K with
   |.val v K=>ev (.ops l (setP o.dst v fr) K)
   | .call f args=>do
    match <-ev (.call f args K)with
    |.val vs K=>ev (.ops l (setP o.dst (oneOrTup vs) fr) K)
    |.pan v K=>pure (.pan v K)
    |.ok _ _ _=>znq
    |.itr _ _ _ _=>znq
   |.pan v=>zs (.pan v K)
   |.bad=>znq
  |some zf=>ev (.ops l (setP o.dst skipped fr) K)
  |none=>znq
 |.opsD [] fr K=>zs (.ok .normal fr K)
 | .opsD (o::l) fr K=>match guardP o.gd fr with
  | some zt=>match o.quiet with
   | true=>match prim P.E o.op fr {K with tch:=[]}with
    |.val v K1=>if r8 K.os.length l K1=zt then ev (.opsD l (setP o.dst v fr) {K1 with tch:=K1.tch++K.tch})else ev (.opsS [⟨K.os,0,K1.tch⟩] l (setP o.dst v fr) {K1 with tch:=K1.tch++K.tch})
    | .call f args=>do
     match <-ev (.call f args {K with tch:=[]})with
     |.val vs K1=>if r8 K.os.length l K1=zt then ev (.opsD l (setP o.dst (oneOrTup vs) fr) {K1 with tch:=K1.tch++K.tch})else ev (.opsS [⟨K.os,0,K1.tch⟩] l (setP o.dst (oneOrTup vs) fr) {K1 with tch:=K1.tch++K.tch})
     |.pan v K1=>if j1 P.E l o.late (setP o.dst skipped fr) K=zt then zs (.pan v {K1 with tch:=K1.tch++K.tch})else znq
     |.ok _ _ _=>znq
     |.itr _ _ _ _=>znq
    |.pan v=>znq
    |.bad=>znq
   | false=>match prim P.E o.op fr K with
    |.val v K=>ev (.opsD l (setP o.dst v fr) K)
    | .call f args=>do
     match <-ev (.call f args K)with
     |.val vs K=>ev (.opsD l (setP o.dst (oneOrTup vs) fr) K)
     |.pan v K1=>if j1 P.E l o.late (setP o.dst skipped fr) K=zt then zs (.pan v K1)else znq
     |.ok _ _ _=>znq
     |.itr _ _ _ _=>znq
    |.pan v=>if j1 P.E l o.late (setP o.dst skipped fr) K=zt then zs (.pan v K)else znq
    |.bad=>znq
  |some zf=>ev (.opsD l (setP o.dst skipped fr) K)
  |none=>znq
 |.opsS S [] fr K=>zs (.ok .normal fr K)
 | .opsS S (o::l) fr K=>match guardP o.gd fr with
  | some zt=>match o.quiet with
   | true=>match prim P.E o.op fr {K with tch:=[]}with
    |.val v K1=>ev (.opsS (⟨K.os,0,K1.tch⟩::S) l (setP o.dst v fr) {K1 with tch:=K1.tch++K.tch})
    |_=>znq
   | false=>if eD P.E S K fr o=zt then match prim P.E o.op fr K with
    |.val v K=>ev (.opsS S l (setP o.dst v fr) K)
    | .call f args=>do
     match <-ev (.call f args K)with
     |.val vs K=>ev (.opsS S l (setP o.dst (oneOrTup vs) fr) K)
     |_=>znq
    |_=>znq
   else znq
  |some zf=>ev (.opsS S l (setP o.dst skipped fr) K)
  |none=>znq
 | .call f args K=>match P.T f with
  | some g=>match tcall g args K with
   |some (vs,K)=>zs (.val vs K)
   |none=>znq
  | none=>match inpOf (P.fn f)with
   | true=>do
    match <-ev (.body f args ⟨K.os,K.os.length,[]⟩)with
    |.val vs K1=>pure (.val vs ⟨K1.os,K.ext,K1.tch++K.tch⟩)
    |.pan v K1=>pure (.pan v ⟨K1.os,K.ext,K1.tch++K.tch⟩)
    |.ok _ _ _=>znq
    |.itr _ _ _ _=>znq
   | false=>do
    match <-ev (.body f (renL (posOf (focusIds args K)) args) (focusK (focusIds args K) K))with
    | .val vs K1=>match mergeK (focusIds args K) K K1 with
     |some K'=>pure (.val (renL (backN (focusIds args K) K.os.length) vs) K')
     |none=>znq
    | .pan v K1=>match mergeK (focusIds args K) K K1 with
     |some K'=>pure (.pan (G6 (backN (focusIds args K) K.os.length) v) K')
     |none=>znq
    |.ok _ _ _=>znq
    |.itr _ _ _ _=>znq
 | .body f args K=>match P.fn f with
  | some p=>if args.length<=p.nt then do
   match <-ev (bodyJ p.code (enterP 0 args) K)with
   |.ok (.exit _) _ _=>znq
   | .ok .normal fr K=>match resP P.E p.rs fr K with
    |some (vs,K)=>pure (.val vs K)
    |none=>znq
   | .ok .ret fr K=>match resP P.E p.rs fr K with
    |some (vs,K)=>pure (.val vs K)
    |none=>znq
   |.pan v K=>pure (.pan v K)
   |.val _ _=>znq
   |.itr _ _ _ _=>znq
   else znq
  |none=>znq
def KM{α:Type}(a b:Option α):Prop:=a=znq\/a=b
theorem KM.bnd{α β:Type}{a b:Option α}{f g:α->Option β}(h:KM a b)(k:∀q,KM (f q) (g q)):KM (a >>= f) (b >>= g):=by
 rcases h with rfl|rfl
 . exact .inl rfl
 . cases a with
   |none=>exact .inl rfl
   |some q=>exact k q
theorem zV(P:PE){e1 e2:PJ->Option PR}(h:∀j,KM (e1 j) (e2 j))(j:PJ):KM (evG P e1 j) (evG P e2 j):=by
 unfold evG
 repeat' first|exact .inr rfl|exact h _|refine .bnd (h _) fun q=>?_|split
def evP(P:PE)(j:PJ):Option PR:=evG P (evP P) j
partial_fixpoint monotonicity fun x y h j=>by
 have A:=zV P (e1:=x) (e2:=y) (fun j=>by
  have B:=h j
  revert B
  generalize x j=a;generalize y j=b;intro B;cases B with
  |bot=>exact .inl rfl
  |refl=>exact .inr rfl) j
 dsimp only
 revert A
 generalize evG P x j=a;generalize evG P y j=b;intro A;rcases A with rfl|rfl
 . exact .bot
 . exact .refl
def evF(P:PE):Nat->PJ->Option PR
 |0=>fun _=>znq
 |n+1=>evG P (evF P n)
theorem evF_le(P:PE):∀(n:Nat)(j:PJ),KM (evF P n j) (evP P j)
 |0,_=>.inl rfl
 |n+1,j=>by rw[evP];exact zV P (evF_le P n) j
theorem nC{P:PE}{n:Nat}{j:PJ}{r:PR}(h:evF P n j=zs r):evP P j=zs r:=by
 rcases evF_le P n j with e|e
 . rw[e]at h;cases h
 . rw[<-e];exact h
end
end
def isAg(v:AV):Bool:=match v with | .agg _=>zt|_=>zf
theorem C8{v:AV}(h:isAg v=zf):v.cells=[v]:=by cases v<;>first|rfl|cases h
inductive Emp:AV->Prop where
 |nil:Emp .nilsl
 |fsl:Emp (.fsl [] zf)
inductive Fz(Z:Nat->Prop)(h:Heap):AV->AV->Prop where
 |int (k:IntKind) (n:Int):Fz Z h (.int k n) (.int k n)
 |bool (b:Bool):Fz Z h (.bool b) (.bool b)
 |str (s:List UInt8):Fz Z h (.str s) (.str s)
 |nilsl:Fz Z h .nilsl .nilsl
 |nilptr:Fz Z h .nilptr .nilptr
 |nilmap:Fz Z h .nilmap .nilmap
 |nilfn:Fz Z h .nilfn .nilfn
 |niliface:Fz Z h .niliface .niliface
 |agg {xs ys:List AV}:xs.length=ys.length->(∀(i:Nat) x y,xs[i]?=zs x->ys[i]?=zs y->Fz Z h x y)->ys.all clo=zt->Fz Z h (.agg xs) (.agg ys)
 |emp {x:AV}:Emp x->Fz Z h x (.fsl [] zt)
 |fsl {es es':List AV} {f f':Bool}:es.length=es'.length->(∀(i:Nat) x y,es[i]?=zs x->es'[i]?=zs y->Fz Z h x y)->f=zf->Fz Z h (.fsl es f) (.fsl es' f')
 |view {id off n sz:Nat} {row es':List AV} {f':Bool}:Z id->h.get id=zs (.row row sz)->off+n<=row.length->es'.length=n->(∀(i:Nat) x y,row[off+i]?=zs x->es'[i]?=zs y->Fz Z h x y)->(∀(i:Nat) x,i<n->row[off+i]?=zs x->x.cells.length=sz)->Fz Z h (.msl id off n sz) (.fsl es' f')
 |fptr {v v':AV} (o:Nat):Fz Z h v v'->Fz Z h (.fptr v o) (.fptr v' o)
 |pview {id i o sz:Nat} {v v':AV} {row:List AV}:Z id->h.get id=zs (.row row sz)->row[i]?=zs v->Fz Z h v v'->Fz Z h (.ptr id i o) (.fptr v' o)
section
variable {Z Z':Nat->Prop}{h h':Heap}{x y:AV}
theorem Fz.shape(f:Fz Z h x y):x.cells.length=y.cells.length/\isAg x=isAg y:=by
 cases f with
 |agg A _ _=>exact⟨A,rfl⟩
 |emp e=>cases e<;>exact⟨rfl,rfl⟩
 |_=>exact⟨rfl,rfl⟩
theorem Fz.mono(f:Fz Z h x y)(hZ:∀id,Z id->Z' id/\h'.get id=h.get id):Fz Z' h' x y:=by
 induction f with
 |agg A _ B ih=>exact .agg A ih B
 |emp e=>exact .emp e
 |fsl A _ B ih=>exact .fsl A ih B
 |view A h2 B C _ G ih=>exact .view (hZ _ A).1 ((hZ _ A).2.trans h2) B C ih G
 |fptr o _ ih=>exact .fptr o ih
 |pview A h2 B _ ih=>exact .pview (hZ _ A).1 ((hZ _ A).2.trans h2) B ih
 |int=>exact .int _ _
 |bool=>exact .bool _
 |str=>exact .str _
 |nilsl=>exact .nilsl
 |nilptr=>exact .nilptr
 |nilmap=>exact .nilmap
 |nilfn=>exact .nilfn
 |niliface=>exact .niliface
theorem Fz.clo(f:Fz Z h x y)(A:isAg y=zf):AM.clo y=zt:=by
 cases f<;>first|rfl|cases A
theorem Fz.cell(f:Fz Z h x y){o:Nat}{a b:AV}(ha:x.cells[o]?=zs a)(hb:y.cells[o]?=zs b):Fz Z h a b/\AM.clo b=zt:=by
 cases A:isAg y with
 |false=>
  have B:=f.shape.2.trans A;rw[C8 B]at ha;rw[C8 A]at hb;cases o with
  |zero=>cases ha;cases hb;exact⟨f,f.clo A⟩
  |succ o=>simp at ha
 |true=>
  cases f with
  |agg h1 h2 C=>exact⟨h2 o a b ha hb,zqf.1 C b (zqe hb)⟩
  |_=>cases A
theorem Fz.okc(f:Fz Z h x y)(A:AM.clo y=zt):okCell x=zt:=by
 cases f with
 |agg=>cases A
 |emp e=>cases e<;>rfl
 |_=>rfl
end
def refK(k id n sz:Nat):AV:=match k with|1=>.ptr id 0 0|_=>.msl id 0 n sz
def uU(ow:Nat->Option (List Nat))(L:List Nat):Prop:=∀c t,ow c≠zs (L++t)
def GU(ow:Nat->Option (List Nat))(L:List Nat)(n sz:Nat):Prop:=∀c t,ow c=zs (L++t)->t=[]\/∃i o q,t=i::o::q/\i<n/\o<sz
inductive CR(Z:Nat->Prop)(ow:Nat->Option (List Nat))(h:Heap):List Nat->AV->AV->Prop where
 |val {L:List Nat} {x y:AV}:Fz Z h x y->clo y=zt->uU ow L->CR Z ow h L x y
 |und {L:List Nat} {x:AV}:CR Z ow h L x .und
 |nil {L:List Nat} {x:AV} {sz:Nat}:(x=.nilsl\/x=.nilsl)->uU ow L->CR Z ow h L x (ownd 0 sz [])
 | own {L:List Nat} {k id sz:Nat} {ces es:List AV}:ow id=zs L->id<h.next->h.get id=zs (.row ces sz)->ces.length=es.length->GU ow L es.length sz ->
  (∀(i:Nat) x y,ces[i]?=zs x->es[i]?=zs y->x.cells.length=sz/\y.cells.length=sz/\isAg x=isAg y) ->
  (∀(i:Nat) x y,ces[i]?=zs x->es[i]?=zs y->∀(o:Nat) a b,x.cells[o]?=zs a->y.cells[o]?=zs b->CR Z ow h (L++[i,o]) a b)->CR Z ow h L (refK k id es.length sz) (ownd k sz es)
def loP(os:List PO):Nat->Nat->Option (List Nat)
 |0,_=>znq
 | n+1,id=>match os[id]? with
  |some (.row _ _ _)=>zs [id]
  |some (.mapo _)=>zs [id]
  |some (.sub p i o)=>(loP os n p).map (· ++ [i,o])
  |_=>znq
inductive VR(Z:Nat->Prop)(ow:Nat->Option (List Nat))(h:Heap)(os:List PO):AV->AV->Prop where
 |fz {x y:AV}:Fz Z h x y->VR Z ow h os x y
 |und {x:AV}:VR Z ow h os x .und
 |any:VR Z ow h os .any .any
 |msl {id c off n sz:Nat}:(∀L,loP os 6 id=zs L->ow c=zs L)->id<os.length->VR Z ow h os (.msl c off n sz) (.msl id off n sz)
 |mnil {x:AV} {id sz:Nat}:(x=.nilsl\/x=.nilsl)->(∀L,loP os 6 id=zs L->∀c,ow c≠zs L)->id<os.length->VR Z ow h os x (.msl id 0 0 sz)
 |ptr {id c i off:Nat}:(∀L,loP os 6 id=zs L->ow c=zs L)->id<os.length->VR Z ow h os (.ptr c i off) (.ptr id i off)
 |map {id c:Nat}:(∀L,loP os 6 id=zs L->ow c=zs L)->id<os.length->VR Z ow h os (.map c) (.map id)
 |agg {xs ys:List AV}:xs.length=ys.length->(∀(i:Nat) x y,xs[i]?=zs x->ys[i]?=zs y->VR Z ow h os x y)->VR Z ow h os (.agg xs) (.agg ys)
 |tup {xs ys:List AV}:xs.length=ys.length->(∀(i:Nat) x y,xs[i]?=zs x->ys[i]?=zs y->VR Z ow h os x y)->VR Z ow h os (.tup xs) (.tup ys)
 |fn {f:Fn} {as1 bs as' bs':List AV}:as1.length=as'.length->(∀(i:Nat) x y,as1[i]?=zs x->as'[i]?=zs y->VR Z ow h os x y)->bs.length=bs'.length->(∀(i:Nat) x y,bs[i]?=zs x->bs'[i]?=zs y->VR Z ow h os x y)->VR Z ow h os (.fn f as1 bs) (.fn f as' bs')
 |iface {t:TypeId} {x y:AV}:VR Z ow h os x y->VR Z ow h os (.iface t x) (.iface t y)
def eS(sz:Nat)(ces es:List AV):Prop:=ces.length=es.length/\∀(i:Nat) x y,ces[i]?=zs x->es[i]?=zs y->x.cells.length=sz/\y.cells.length=sz/\isAg x=isAg y
structure RawR(R:AV->AV->Prop)(ow:Nat->Option (List Nat))(h:Heap)(r:Nat)(es:List AV)(sz:Nat)(c:Nat)(ces:List AV):Prop where
 o:ow c=zs [r]
 lt:c<h.next
 get:h.get c=zs (.row ces sz)
 sh:eS sz ces es
 vr:∀(i:Nat) x y,ces[i]?=zs x->es[i]?=zs y->∀(o:Nat) a b,x.cells[o]?=zs a->y.cells[o]?=zs b->R a b
 okp:∀(i:Nat) y,es[i]?=zs y->∀b,b∈y.cells->Eh b=zt\/b=.und
 no:∀a t,ow a=zs (r::t)->t=[]
structure MapR(Z:Nat->Prop)(ow:Nat->Option (List Nat))(h:Heap)(r:Nat)(es:List (AV×AV))(c:Nat)(ces:List (AV×AV)):Prop where
 o:ow c=zs [r]
 lt:c<h.next
 get:h.get c=zs (.mapo ces)
 len:ces.length=es.length
 kv:∀(i:Nat) x y,ces[i]?=zs x->es[i]?=zs y->x.1=y.1/\Fz Z h x.2 y.2
 no:∀a t,ow a=zs (r::t)->t=[]
def isRt(os:List PO)(r:Nat):Bool:=match os[r]? with|some (.row _ _ _)=>zt|some (.mapo _)=>zt|_=>zf
structure PT(R:AV->AV->Prop)(Z:Nat->Prop)(ow:Nat->Option (List Nat))(h:Heap)(os:List PO):Prop where
 row:∀(r:Nat) es sz,os[r]?=zs (.row 0 es sz)->∃x,CR Z ow h [r] x (ownd 0 sz es)
 raw:∀(r:Nat) k es sz,os[r]?=zs (.row k es sz)->k≠0->∃c ces,RawR R ow h r es sz c ces
 map:∀(r:Nat) es,os[r]?=zs (.mapo es)->∃c ces,MapR Z ow h r es c ces
 inj:∀a b L,ow a=zs L->ow b=zs L->a=b
 live:∀a L,ow a=zs L->a<h.next/\¬Z a/\∃r t,L=r::t/\isRt os r=zt
 zb:∀a,Z a->a<h.next
 sb:∀(j:Nat) p i o,os[j]?=zs (.sub p i o)->p<os.length
abbrev G2(Z:Nat->Prop)(ow:Nat->Option (List Nat))(h:Heap)(os:List PO):Prop:=PT (VR Z ow h os) Z ow h os
section
variable {Z Z':Nat->Prop}{ow ow':Nat->Option (List Nat)}{h h':Heap}{os os':List PO}{x y:AV}{L L':List Nat}
theorem CR.reloc(c:CR Z ow h L x y)(hn:h.next<=h'.next)(hZ:∀id,Z id->Z' id/\h'.get id=h.get id)(ho:∀id q,ow' id=zs (L'++q)↔ow id=zs (L++q))(hg:∀id q,ow id=zs (L++q)->h'.get id=h.get id):CR Z' ow' h' L' x y:=by
 induction c generalizing L' with
 |val f e n=>exact .val (f.mono hZ) e fun c t hc=>n c t ((ho c t).1 hc)
 |und=>exact .und
 |nil e n=>exact .nil e fun c t hc=>n c t ((ho c t).1 hc)
 |own G h2 h3 H A J _ ih=>
  have ho1:=(ho _ []).2 (by simpa using G);refine .own (by grind) (zqu h2 hn) (by grind) H (fun c t hc=>A c t ((ho c t).1 hc)) J fun i x y B C o a b ha hb=>?_
  refine ih i x y B C o a b ha hb (fun id q=>?_) (fun id q hq=>?_)
  . grind
  grind
theorem CR.shape(c:CR Z ow h L x y)(hy:y≠.und):isAg x=zf:=by
 cases c with
 |val f e _=>
  rw[f.shape.2];cases y<;>first|rfl|cases e
 |und=>grind
 |nil e n=>rcases e with rfl|rfl<;>rfl
 |own=>rename_i k _ _ _ _ _ _ _ _ _ _ _;unfold refK;split<;>rfl
def Keep'(ow:Nat->Option (List Nat))(os:List PO)(ow':Nat->Option (List Nat))(os':List PO):Prop:=os.length<=os'.length/\∀id<os.length,∀L',loP os' 6 id=zs L'->∃L,loP os 6 id=zs L/\∀c,ow c=zs L↔ow' c=zs L'
theorem VR.keep(v:VR Z ow h os x y)(hZ:∀id,Z id->Z' id/\h'.get id=h.get id)(C:Keep' ow os ow' os'):VR Z' ow' h' os' x y:=by
 have B:∀{id c},(∀L,loP os 6 id=zs L->ow c=zs L)->id<os.length->(∀L,loP os' 6 id=zs L->ow' c=zs L)/\id<os'.length:=fun{id c} A h2=>by
  refine⟨fun L hL=>?_,zqu h2 C.1⟩;obtain⟨G,H,J⟩:=C.2 id h2 L hL;exact(J c).1 (A G H)
 induction v with
 |fz f=>exact .fz (f.mono hZ)
 |und=>exact .und
 |any=>exact .any
 |msl A h2=>exact .msl (B A h2).1 (B A h2).2
 |mnil e m n=>exact .mnil e (fun L hL c hc=>by
  obtain⟨G,H,J⟩:=C.2 _ n L hL;exact m G H c ((J c).2 hc)) (zqu n C.1)
 |ptr A h2=>exact .ptr (B A h2).1 (B A h2).2
 |map A h2=>exact .map (B A h2).1 (B A h2).2
 |agg A _ ih=>exact .agg A ih
 |tup A _ ih=>exact .tup A ih
 |fn A _ U _ N Q=>exact .fn A N U Q
 |iface _ ih=>exact .iface ih
theorem PT.imp{R B:AV->AV->Prop}(s:PT R Z ow h os)(f:∀x y,R x y->B x y):PT B Z ow h os:=
 ⟨s.row,fun r k es sz C A=>by
   obtain⟨c,ces,q⟩:=s.raw r k es sz C A;exact⟨c,ces,q.o,q.lt,q.get,q.sh,fun i x y G H o a b ha hb=>f a b (q.vr i x y G H o a b ha hb),q.okp,q.no⟩,s.map,s.inj,s.live,s.zb,s.sb⟩
theorem G2.to(s:PT (VR Z ow h os) Z' ow' h' os')(hZ:∀id,Z id->Z' id/\h'.get id=h.get id)(A:Keep' ow os ow' os'):G2 Z' ow' h' os':=s.imp fun _ _ v=>v.keep hZ A
theorem Ad{c:AV}{k sz:Nat}{es:List AV}(e:ownOf c=zs (k,es,sz)):c=ownd k sz es:=by
 unfold ownOf at e;split at e
 . cases e;rfl
 . cases e
theorem We(k sz:Nat)(es:List AV):ownd k sz es≠.und:=by intro e;cases e
theorem qT{k sz k' A:Nat}{es es':List AV}(e:ownd k sz es=ownd k' A es'):k=k'/\sz=A/\es=es':=by
 unfold ownd at e;grind
theorem CR.inv{k sz:Nat}{es:List AV}(c:CR Z ow h L x (ownd k sz es)):
 (k=0/\es=[]/\(x=.nilsl\/x=.nilsl)/\uU ow L)\/∃id ces,x=refK k id es.length sz/\ow id=zs L/\id<h.next/\h.get id=zs (.row ces sz)/\eS sz ces es/\GU ow L es.length sz/\
   ∀(i:Nat) x y,ces[i]?=zs x->es[i]?=zs y->∀(o:Nat) a b,x.cells[o]?=zs a->y.cells[o]?=zs b->CR Z ow h (L++[i,o]) a b:=by
 generalize hy:ownd k sz es=y at c;cases c with
 |val f e _=>subst hy;cases e
 |und=>grind[We]
 |nil e n=>obtain⟨rfl,rfl,rfl⟩:=qT hy;grind
 |own B h2 C G A H J=>obtain⟨rfl,rfl,rfl⟩:=qT hy;exact .inr ⟨_,_,rfl,B,h2,C,⟨G,H⟩,A,J⟩
theorem PT.get{R:AV->AV->Prop}(s:PT R Z ow h os):∀(n id k:Nat)(es:List AV)(sz:Nat),rowOf os n id=zs (k,es,sz) ->
 ∃L,loP os n id=zs L/\((rawAt os id=zt/\L=[id]/\∃c ces,RawR R ow h id es sz c ces)\/(rawAt os id=zf/\∃x,CR Z ow h L x (ownd k sz es)))
 |0,_,_,_,_,e=>by cases e
 |n + 1,id,k,es,sz,e=>by
  unfold rowOf at e;unfold loP rawAt;cases J:os[id]? with
  |none=>grind
  |some q=>
   rw[J]at e;cases q with
   |row k' es' sz'=>
    cases e;refine⟨[id],rfl,?_⟩;cases k with
    |zero=>exact .inr ⟨rfl,s.row id es sz J⟩
    |succ k=>exact .inl ⟨rfl,rfl,s.raw id _ es sz J (by omega)⟩
   |sub p i o=>
    simp only at e;cases N:rowOf os n p with
    |none=>grind
    |some t=>
     obtain⟨kp,A,G⟩:=t;rw[N]at e;simp only at e;cases hi:A[i]? with
     |none=>grind
     |some v=>
      rw[hi]at e;simp only at e;cases ho:v.cells[o]? with
      |none=>grind
      |some c=>
       rw[ho]at e;have Q:=Ad e;subst Q;obtain⟨V,hl,hc⟩:=PT.get s n p kp A G N;refine⟨V++[i,o],by grind,.inr ⟨rfl,?_⟩⟩;rcases hc with⟨_,_,c,ces,H⟩|⟨_,x,H⟩
       . rcases H.okp i v hi _ (zqe ho)with h|h
         . cases h
         grind[We]
       . rcases H.inv with⟨_,e2,_⟩|⟨cid,ces,_,_,_,_,B,_,hcr⟩
         . grind
         . have C:i<ces.length:=by rw[B.1];grind
           have U:=zqd C;have hs:=B.2 i _ v U hi;grind
   |_=>cases e
end
def Und(L M:List Nat):Prop:=∃t,M=L++t
theorem Und.refl(L:List Nat):Und L L:=⟨[],by simp⟩
theorem Wf{L t:List Nat}{i o i' o':Nat}{q:List Nat}(h:Und ((L++[i,o])++t) (L++[i',o']++q)):i=i'/\o=o':=by
 obtain⟨u,hu⟩:=h;simp_all
theorem KN{L t:List Nat}{i o:Nat}(h:Und ((L++[i,o])++t) L):False:=by
 obtain⟨u,hu⟩:=h;simp_all
structure Dl(Z:Nat->Prop)(ow:Nat->Option (List Nat))(h:Heap)(Z':Nat->Prop)(ow':Nat->Option (List Nat))(h':Heap)(L:List Nat):Prop where
 hn:h.next<=h'.next
 hZ:∀id,Z id->Z' id/\h'.get id=h.get id
 ho:∀id M,¬Und L M->(ow' id=zs M↔ow id=zs M)
 hg:∀id M,ow id=zs M->¬Und L M->h'.get id=h.get id
section
variable {Z Z':Nat->Prop}{ow ow':Nat->Option (List Nat)}{h h':Heap}{os os':List PO}{x y:AV}{L L0 M:List Nat}
theorem Dl.tree(d:Dl Z ow h Z' ow' h' L)(A:∀q,¬Und L (M++q))(c:CR Z ow h M x y):CR Z' ow' h' M x y:=
 c.reloc d.hn d.hZ (fun id q=>d.ho id _ (A q)) (fun id q e=>d.hg id _ e (A q))
theorem Qc{v c:AV}{o:Nat}(ho:o<v.cells.length)(hc:isAg c=zf):(putCl v o c).cells=v.cells.set o c/\isAg (putCl v o c)=isAg v:=by
 cases A:isAg v with
 |false=>
  have e1:putCl v o c=c:=by cases v<;>first|rfl|cases A
  have e2:=C8 A;rw[e2]at ho
  have:o=0:=by grind
  subst this;rw[e1,e2,C8 hc,hc];grind
 |true=>cases v<;>first|exact⟨rfl,rfl⟩|cases A
theorem CR.up{k sz i o:Nat}{es:List AV}{v c G:AV}{t:List Nat}(Y:CR Z ow h M x (ownd k sz es))(d:Dl Z ow h Z' ow' h' (M++[i,o]++t))(hin:GU ow' M es.length sz)(hi:es[i]?=zs v)(ho:v.cells[o]?=zs c)(hc:isAg G=zf)
 (H:∀a,CR Z ow h (M++[i,o]) a c->CR Z' ow' h' (M++[i,o]) a G):CR Z' ow' h' M x (ownd k sz (es.set i (putCl v o G))):=by
 rcases Y.inv with⟨_,e2,_⟩|⟨id,ces,rfl,V,h2,h3,U,_,X⟩
 . grind
 . have N:o<v.cells.length:=(zqb.1 ho).1
   have Q:=Qc N hc;have C:¬Und (M++[i,o]++t) M:=KN;rw[show es.length=(es.set i (putCl v o G)).length by simp];refine CR.own ((d.ho _ _ C).2 V) (zqu h2 d.hn) ((d.hg _ _ V C).trans h3) (by simpa using U.1) (by grind) (fun j x y H A=>?_) (fun j x y B A o' a b ha hb=>?_)
   . rw [zqc]at A
     split at A
     . rename_i e
       subst e;split at A
       . cases A
         have:=U.2 i x v H hi
         grind
       . cases A
     . exact U.2 j x y H A
   . rw [zqc]at A
     split at A
     . rename_i e
       subst e;split at A
       . cases A
         rw[Q.1,zqc]at hb;by_cases e:o=o'
         . grind
         . rw[if_neg e]at hb
           exact d.tree (fun q J=>e (Wf J).2) (X i x v B hi o' a b ha hb)
       . cases A
     . rename_i e
       exact d.tree (fun q J=>e (Wf J).1) (X j x y B A o' a b ha hb)
theorem setRow_eq:∀(n id:Nat)(es':List AV)(os':List PO),setRow os n id es'=zs os'->∃r k es sz A,os[r]?=zs (.row k es sz)/\os'=os.set r (.row k A sz)/\r=rootOf os n id
 |0,_,_,_,e=>by cases e
 |n + 1,id,es',os',e=>by
  unfold setRow at e;unfold rootOf;cases C:os[id]? with
  |none=>grind
  |some q=>
   rw[C]at e;cases q with
   |row k es sz=>grind
   |sub p i o=>
    simp only at e;cases G:rowOf os n p with
    |none=>grind
    |some t=>
     obtain⟨kp,B,psz⟩:=t;rw[G]at e;simp only at e;cases hi:B[i]? with
     |none=>grind
     |some v=>
      rw[hi]at e;simp only at e;cases ho:v.cells[o]? with
      |none=>grind
      |some c=>
       rw[ho]at e;simp only at e;cases hc:ownOf c with
       |none=>grind
       |some t=>
        obtain⟨k,es,sz⟩:=t;rw[hc]at e;exact setRow_eq n p _ os' e
   |_=>cases e
theorem Be{r k k' sz A:Nat}{es es':List AV}(B:os[r]?=zs (.row k es sz)):∀(n id:Nat),loP (os.set r (.row k' es' A)) n id=loP os n id
 |0,_=>rfl
 |n + 1,id=>by
  unfold loP;rw[zqc];have hlt:r<os.length:=(zqb.1 B).1;by_cases e:r=id
  . grind
  . rw [if_neg e]
    cases os[id]? with
    |none=>rfl
    |some q=>
     cases q with
     |sub p i o=>simp only[Be B n p]
     |_=>rfl
theorem isRt_set{r k k' sz A:Nat}{es es':List AV}(hr:os[r]?=zs (.row k es sz))(id:Nat):isRt (os.set r (.row k' es' A)) id=isRt os id:=by
 unfold isRt;grind
theorem J8:∀(n id:Nat)(L:List Nat),loP os n id=zs L->∃t,L=rootOf os n id::t/\isRt os (rootOf os n id)=zt/\(t=[]->rootOf os n id=id)
 |0,_,_,e=>by cases e
 |n + 1,id,L,e=>by
  unfold loP at e;unfold rootOf;cases C:os[id]? with
  |none=>grind
  |some q=>
   rw[C]at e;cases q with
   |dead=>cases e
   |sub p i o=>
    simp only at e;cases A:loP os n p with
    |none=>grind
    |some B=>
     rw[A]at e;cases e;obtain⟨t,h1,h2,_⟩:=J8 n p B A;simp_all
   |_=>cases e;exact⟨[],rfl,by grind[isRt],fun _=>rfl⟩
theorem PT.set{R:AV->AV->Prop}(s:PT R Z ow h os)(d:Dl Z ow h Z' ow' h' L)
 (hinj:∀a b L,ow' a=zs L->ow' b=zs L->a=b)(hlive:∀a L,ow' a=zs L->a<h'.next/\¬Z' a/\∃r t,L=r::t/\isRt os r=zt)(hzb:∀a,Z' a->a<h'.next)
 (hin:∀M n sz t,L=M++t->t≠[]->GU ow M n sz->GU ow' M n sz):
 ∀ (n id k:Nat) (es:List AV) (sz:Nat) (es':List AV) (os':List PO) (L0 t:List Nat),L=L0++t->rowOf os n id=zs (k,es,sz)->loP os n id=zs L0->rawAt os id=zf->setRow os n id es'=zs os' ->
   (∀x,CR Z ow h L0 x (ownd k sz es)->CR Z' ow' h' L0 x (ownd k sz es'))->PT R Z' ow' h' os'
 |0,_,_,_,_,_,_,_,_,_,e,_,_,_,_=>by cases e
 |n + 1,id,k,es,sz,es',os',L0,t,hL,e,hlo,hraw,hset,hcr=>by
  unfold rowOf at e;unfold setRow at hset;unfold loP at hlo;cases he:os[id]? with
  |none=>grind
  |some q=>
   rw[he]at e hset hlo;cases q with
   |row k0 es0 sz0=>
    cases e;cases hset;cases hlo;have aa:k=0:=by
     grind[rawAt]
    subst aa;subst hL;have B:∀r q,r≠id->¬Und ([id]++t) (r::q):=fun r q V ⟨u,hu⟩=>by
     grind
    have ab:id<os.length:=(zqb.1 he).1;refine⟨fun r C J A=>?_,fun r k1 C J A V=>?_,fun r C A=>?_,hinj,fun a L ha=>?_,hzb,fun j p i o Y=>?_⟩
    . rw [zqc]at A
      by_cases e:id=r
      . subst e
        rw[if_pos rfl,if_pos ab]at A;cases A;obtain⟨x,H⟩:=s.row id es sz he;grind
      . rw[if_neg e]at A
        obtain⟨x,H⟩:=s.row r C J A;exact⟨x,d.tree (by grind) H⟩
    . rw [zqc]at A
      by_cases e:id=r
      . grind
      . rw[if_neg e]at A
        obtain⟨c,ces,A⟩:=s.raw r k1 C J A V;have G:=B r [] (fun N=>e N.symm);exact⟨c,ces,(d.ho _ _ G).2 A.o,zqu A.lt d.hn,(d.hg _ _ A.o G).trans A.get,A.sh,A.vr,A.okp,fun a t ha=>A.no a t ((d.ho _ _ (B r t (fun N=>e N.symm))).1 ha)⟩
    . rw [zqc]at A
      by_cases e:id=r
      . grind
      . rw[if_neg e]at A
        obtain⟨c,ces,A⟩:=s.map r C A;have G:=B r [] (fun N=>e N.symm);exact⟨c,ces,(d.ho _ _ G).2 A.o,zqu A.lt d.hn,(d.hg _ _ A.o G).trans A.get,A.len,fun i x y H hy=>⟨(A.kv i x y H hy).1,(A.kv i x y H hy).2.mono d.hZ⟩,fun a t ha=>A.no a t ((d.ho _ _ (B r t (fun N=>e N.symm))).1 ha)⟩
    . grind[isRt_set]
    . rw[zqc]at Y
      by_cases e:id=j
      . grind
      . rw[if_neg e]at Y;rw[zqg];exact s.sb j p i o Y
   |sub p i o=>
    simp only at e hset hlo;cases hp:rowOf os n p with
    |none=>grind
    |some t1=>
     obtain⟨kp,U,X⟩:=t1;rw[hp]at e hset;simp only at e hset;cases hi:U[i]? with
     |none=>grind
     |some v=>
      rw[hi]at e hset;simp only at e hset;cases ho:v.cells[o]? with
      |none=>grind
      |some c=>
       rw [ho]at e hset;simp only at e hset;have ec:=Ad e;subst ec;rw[e]at hset;obtain⟨Lp,hl,hc⟩:=s.get n p kp U X hp;rw[hl]at hlo;cases hlo;have Q:rawAt os p=zf:=by
        rcases hc with⟨_,_,c,ces,A⟩|⟨h,_⟩
        . rcases A.okp i v hi _ (zqe ho)with h|h
          . cases h
          grind[We]
        . exact h
       have d':=d;rw[hL]at d';refine PT.set s d hinj hlive hzb hin n p kp U X _ os' Lp ([i,o]++t) (by grind) hp hl Q hset fun x H=>?_
       refine H.up d' ?_ hi ho rfl hcr;rcases H.inv with⟨_,e2,_⟩|⟨_,_,_,_,_,_,_,h4,_⟩
       . grind
       grind
   |_=>cases e
end
structure Stp(b:Nat)(Z:Nat->Prop)(ow:Nat->Option (List Nat))(h:Heap)(K:PK)(Z':Nat->Prop)(ow':Nat->Option (List Nat))(h':Heap)(K':PK):Prop where
 nx:h.next<=h'.next
 zz:∀id,Z id->Z' id/\h'.get id=h.get id
 zn:∀id,Z' id->Z id\/h.next<=id
 un:∀id,id<h.next->ow id=znq->h'.get id=h.get id
 uo:∀id L,ow' id=zs L->id<h.next->ow id≠znq
 th:∃l,h'.tch=l++h.tch/\∀id∈l,h.next<=id\/∃r t,ow id=zs (r::t)/\(r<b->r∈K'.tch)
 mv:∀id r t,ow id=zs (r::t)->r<K.ext->(∃t',ow' id=zs (r::t'))\/r∈K'.tch
 tm:∀r∈K.tch,r<K.ext->r∈K'.tch
 ex:K'.ext=K.ext
 xk:∀j,j<K.ext->∀c,isRt K'.os j=zt->(ow c=zs [j]↔ow' c=zs [j])
 rd:∀j,j<K.ext->isRt K'.os j=zt->isRt K.os j=zt
section
variable {b:Nat}{Z Z' Z2:Nat->Prop}{ow ow' ow2:Nat->Option (List Nat)}{h h' h2:Heap}{K K' K2:PK}{os os' os2:List PO}{x y:AV}{L L0 M:List Nat}
theorem Stp.refl(b:Nat)(Z:Nat->Prop)(ow:Nat->Option (List Nat))(h:Heap)(K:PK):Stp b Z ow h K Z ow h K:=
 ⟨zqt _,fun id hz=>⟨hz,rfl⟩,fun id hz=>.inl hz,fun _ _ _=>rfl,(by grind),(by simp_all),fun id r t ho _=>.inl ⟨t,ho⟩,fun r A _=>A,rfl,fun j _ c _=>.rfl,fun j _ B=>B⟩
theorem Stp.trans(s:G2 Z ow h K.os)(a:Stp K.ext Z ow h K Z' ow' h' K')(c:Stp K'.ext Z' ow' h' K' Z2 ow2 h2 K2):Stp K.ext Z ow h K Z2 ow2 h2 K2:=by
 obtain⟨U,e1,V⟩:=a.th;obtain⟨X,e2,Y⟩:=c.th;have hex:=a.ex;refine⟨zqy a.nx c.nx,fun id hz=>⟨(c.zz id (a.zz id hz).1).1,(c.zz id (a.zz id hz).1).2.trans (a.zz id hz).2⟩,fun id hz=>?_,fun id hl ho=>?_,fun id L ho hl=>?_,⟨X++U,by grind,fun id hi=>?_⟩,fun id r t ho A=>?_,fun r A hl=>c.tm r (a.tm r A hl) (by grind),c.ex.trans a.ex,fun j H N A=>?_,fun j H A=>a.rd j H (c.rd j (by grind) A)⟩
 . rcases c.zn id hz with h|h
   . exact a.zn id h
   . exact .inr (zqy a.nx h)
 . have C:=a.un id hl ho
   have B:ow' id=znq:=by
    cases e:ow' id with
    |none=>rfl
    |some L=>exact absurd ho (a.uo id L e hl)
   exact(c.un id (zqu hl a.nx) B).trans C
 . cases e:ow' id with
   |none=>exact absurd e (c.uo id L ho (zqu hl a.nx))
   |some L'=>exact a.uo id L' e hl
 . rcases zqo.1 hi with hi|hi
   . rcases Y id hi with h|⟨r,t,C,h2⟩
     . exact .inl (zqy a.nx h)
     . by_cases hl:id<h.next
       . cases e:ow id with
         |none=>exact absurd e (a.uo id _ C hl)
         |some L=>
          obtain⟨_,_,J,Q,rfl,_⟩:=s.live id L e;refine .inr ⟨J,Q,rfl,fun A=>?_⟩;rcases a.mv id J Q e A with⟨t',B⟩|B
          . grind
          . exact c.tm J B (by grind)
       grind
   . rcases V id hi with h|⟨r,t,C,h2⟩
     . exact .inl h
     . exact .inr ⟨r,t,C,fun A=>c.tm r (h2 A) (by grind)⟩
 . rcases a.mv id r t ho A with⟨t',B⟩|B
   . rcases c.mv id r t' B (by grind)with h|h
     . exact .inl h
     grind
   . exact .inr (c.tm r B (by grind))
 . have G:j<K'.ext:=by grind
   exact(a.xk j H N (c.rd j G A)).trans (c.xk j G N A)
theorem Keep'.refl(ow:Nat->Option (List Nat))(os:List PO):Keep' ow os ow os:=⟨zqt _,(by grind)⟩
theorem Keep'.trans(a:Keep' ow os ow' os')(c:Keep' ow' os' ow2 os2):Keep' ow os ow2 os2:=⟨zqy a.1 c.1,fun id hi A hl=>by
 obtain⟨B,C,h2⟩:=c.2 id (zqu hi a.1) A hl;obtain⟨L0,h3,h4⟩:=a.2 id hi B C;grind⟩
def Wk(os os':List PO):Prop:=os'.length=os.length/\∀j:Nat,os'[j]?=os[j]?\/∃p i o,os[j]?=zs (.sub p i o)/\os'[j]?=zs .dead
theorem Wk.row(w:Wk os os'){r k sz:Nat}{es:List AV}:os'[r]?=zs (.row k es sz)↔os[r]?=zs (.row k es sz):=by
 rcases w.2 r with e|⟨p,i,o,e1,e2⟩
 . rw[e]
 grind
theorem Wk.map(w:Wk os os'){r:Nat}{es:List (AV×AV)}:os'[r]?=zs (.mapo es)↔os[r]?=zs (.mapo es):=by
 rcases w.2 r with e|⟨p,i,o,e1,e2⟩
 . rw[e]
 grind
theorem Wk.rt(w:Wk os os')(r:Nat):isRt os' r=isRt os r:=by
 unfold isRt;rcases w.2 r with e|⟨p,i,o,e1,e2⟩
 . rw[e]
 grind
theorem Wk.raw(w:Wk os os')(r:Nat):rawAt os' r=rawAt os r:=by
 unfold rawAt;rcases w.2 r with e|⟨p,i,o,e1,e2⟩
 . rw[e]
 grind
theorem Wk.lo(w:Wk os os'):∀(n id:Nat)(L:List Nat),loP os' n id=zs L->loP os n id=zs L
 |0,_,_,e=>by cases e
 |n + 1,id,L,e=>by
  unfold loP at e|-;rcases w.2 id with e1|⟨p,i,o,e1,e2⟩
  . rw [e1]at e
    cases B:os[id]? with
    |none=>rw[B]at e;cases e
    |some q=>
     rw[B]at e;cases q with
     |sub p i o=>
      simp only at e|-;cases A:loP os' n p with
      |none=>rw[A]at e;cases e
      |some C=>rw[A]at e;rw[Wk.lo w n p C A];exact e
     |dead=>cases e
     |_=>exact e
  . rw[e2]at e;cases e
theorem Wk.keep(w:Wk os os'):Keep' ow os ow os':=⟨Nat.le_of_eq w.1.symm,fun id _ L' hl=>⟨L',w.lo 6 id L' hl,fun _=>.rfl⟩⟩
theorem PT.wk{R:AV->AV->Prop}(s:PT R Z ow h os)(w:Wk os os'):PT R Z ow h os':=by
 refine⟨fun r es sz A=>s.row r es sz (w.row.1 A),fun r k es sz A B=>?_,fun r es A=>s.map r es (w.map.1 A),s.inj,fun a L ha=>?_,s.zb,fun j p i o C=>?_⟩
 . obtain⟨c,ces,A⟩:=s.raw r k es sz (w.row.1 A) B
   grind
 . obtain⟨G,h2,r,t,H,J⟩:=s.live a L ha
   exact⟨G,h2,r,t,H,by rw[w.rt];exact J⟩
 . rcases w.2 j with e|⟨p',i',o',e1,e2⟩
   . rw[e]at C;rw[w.1];exact s.sb j p i o C
   grind
theorem Kb(os:List PO)(r:Nat)(keep:List Nat):∀(l:List PO)(j i:Nat),(X7 os r keep j l)[i]?=(l[i]?).map fun e=>match e with | .sub p a o=>if rootOf os 6 (j+i)=r/\¬(j+i)∈keep then .dead else .sub p a o|e=>e
 |[],j,i=>by simp[X7]
 |e::l,j,0=>rfl
 |e::l,j,i+1=>by
  show(X7 os r keep (j+1) l)[i]?=(l[i]?).map _
  rw[Kb os r keep l (j+1) i,show j+1+i=j+(i+1) by omega]
theorem Wg(os:List PO)(r:Nat)(keep:List Nat):∀(l:List PO)(j:Nat),(X7 os r keep j l).length=l.length
 |[],_=>rfl
 |e::l,j=>by show(X7 os r keep (j+1) l).length+1=l.length+1;rw[Wg]
theorem Mr(os:List PO)(r:Nat)(keep:List Nat):Wk os (killP os r keep):=by
 refine⟨Wg _ _ _ _ _,fun j=>?_⟩;unfold killP;rw[Kb,zqz];grind
theorem killP_sub{r j p i o:Nat}{keep:List Nat}(h:(killP os r keep)[j]?=zs (.sub p i o)):rootOf os 6 j≠r\/j∈keep:=by
 unfold killP at h;rw[Kb,zqz]at h;grind
theorem loP_app{ps:List PO}(A:∀(j:Nat) p i o,os[j]?=zs (.sub p i o)->p<os.length):∀(n id:Nat),id<os.length->loP (os++ps) n id=loP os n id
 |0,_,_=>rfl
 |n+1,id,hi=>by
  unfold loP;rw[List.getElem?_append_left hi];cases B:os[id]? with
  |none=>rfl
  |some q=>
   cases q with
   |sub p i o=>simp only[loP_app A n p (A id p i o B)]
   |_=>rfl
theorem Ms{ps:List PO}(hsb:∀(j:Nat) p i o,os[j]?=zs (.sub p i o)->p<os.length)(ho:∀id<os.length,∀L,loP os 6 id=zs L->∀c,ow c=zs L↔ow' c=zs L):Keep' ow os ow' (os++ps):=
 ⟨by simp,(by grind[Go.AM.loP_app])⟩
theorem Wh{ps:List PO}{r:Nat}(hr:isRt os r=zt):isRt (os++ps) r=zt:=by
 grind[isRt]
theorem isRt_lt{r:Nat}(hr:isRt os r=zt):r<os.length:=by
 grind[isRt]
theorem PT.subs{R:AV->AV->Prop}(s:PT R Z ow h os){ps:List PO}(H:∀e∈ps,∃p i o,e=.sub p i o/\p<os.length):PT R Z ow h (os++ps)/\Keep' ow os ow (os++ps):=by
 have keep:Keep' ow os ow (os++ps):=Ms s.sb fun _ _ _ _ _=>.rfl
 have B:∀{r:Nat}{e:PO},(os++ps)[r]?=zs e->os[r]?=zs e\/∃p i o,e=.sub p i o/\p<os.length:=fun{r e} A=>by
  rw[zqm]at A;split at A
  . grind
  . exact .inr (H e (zqe A))
 refine⟨⟨fun r es sz A=>?_,fun r k es sz A C=>?_,fun r es A=>?_,s.inj,fun a L ha=>?_,s.zb,fun j p i o G=>?_⟩,keep⟩
 . rcases B A with A|⟨_,_,_,e,_⟩
   . exact s.row r es sz A
   . cases e
 . rcases B A with A|⟨_,_,_,e,_⟩
   . obtain⟨c,ces,A⟩:=s.raw r k es sz A C
     grind
   . cases e
 . rcases B A with A|⟨_,_,_,e,_⟩
   . exact s.map r es A
   . cases e
 . obtain⟨h1,h2,r,t,h3,h4⟩:=s.live a L ha
   grind[Wh]
 . rw[zqq]
   rcases B G with G|⟨_,_,_,e,h⟩
   . have:=s.sb j p i o G;omega
   grind
end
section
variable {E:Env}{Z Z':Nat->Prop}{ow ow':Nat->Option (List Nat)}{h h':Heap}{K K':PK}{os os':List PO}{x y:AV}{L M:List Nat}
def VL(Z:Nat->Prop)(ow:Nat->Option (List Nat))(h:Heap)(os:List PO)(xs ys:List AV):Prop:=xs.length=ys.length/\∀(i:Nat) x y,xs[i]?=zs x->ys[i]?=zs y->VR Z ow h os x y
theorem VL.nil:VL Z ow h os [] []:=⟨rfl,fun i x y A=>by simp at A⟩
theorem VL.cons{xs ys:List AV}(a:VR Z ow h os x y)(l:VL Z ow h os xs ys):VL Z ow h os (x::xs) (y::ys):=⟨by simp[l.1],fun i u v A B=>by
 cases i with
 |zero=>grind
 |succ i=>exact l.2 i u v A B⟩
theorem VL.inv{xs ys:List AV}{u v:AV}(l:VL Z ow h os (u::xs) (v::ys)):VR Z ow h os u v/\VL Z ow h os xs ys:=⟨l.2 0 u v rfl rfl,by have:=l.1;grind,fun i x y A B=>l.2 (i+1) x y A B⟩
theorem VL.app{xs ys us vs:List AV}(a:VL Z ow h os xs ys)(b:VL Z ow h os us vs):VL Z ow h os (xs++us) (ys++vs):=⟨by simp[a.1,b.1],fun i u v A B=>by
 rw[zqm]at A B;rw[a.1]at A;split at A
 . rename_i e;rw[if_pos e]at B;exact a.2 i u v A B
 . rename_i e;rw[if_neg e]at B;exact b.2 _ u v A B⟩
theorem VL.keep{xs ys:List AV}(a:VL Z ow h os xs ys)(hZ:∀id,Z id->Z' id/\h'.get id=h.get id)(A:Keep' ow os ow' os'):VL Z' ow' h' os' xs ys:=⟨a.1,fun i x y B C=>(a.2 i x y B C).keep hZ A⟩
theorem VR.agL{xs ys:List AV}(l:VL Z ow h os xs ys):VR Z ow h os (.agg xs) (.agg ys):=.agg l.1 l.2
theorem VR.agI{ys:List AV}(v:VR Z ow h os x (.agg ys)):∃xs,x=.agg xs/\VL Z ow h os xs ys:=by
 cases v with
 |fz f=>cases f with|agg A h2 h3=>exact⟨_,rfl,A,fun i x y B C=>.fz (h2 i x y B C)⟩
 |agg A h2=>exact⟨_,rfl,A,h2⟩
theorem VR.fzc(v:VR Z ow h os x y)(hc:clo y=zt):Fz Z h x y:=by
 cases v with
 |fz f=>exact f
 |_=>cases hc
theorem VR.isI{k:IntKind}{n:Int}(v:VR Z ow h os x (.int k n)):x=.int k n:=by cases v with|fz f=>cases f;rfl
theorem VR.isB{b:Bool}(v:VR Z ow h os x (.bool b)):x=.bool b:=by cases v with|fz f=>cases f;rfl
theorem VR.isS{s:List UInt8}(v:VR Z ow h os x (.str s)):x=.str s:=by cases v with|fz f=>cases f;rfl
theorem VR.isN(v:VR Z ow h os x .nilsl):x=.nilsl:=by cases v with|fz f=>cases f;rfl
theorem VR.i(k:IntKind)(n:Int):VR Z ow h os (.int k n) (.int k n):=.fz (.int k n)
theorem VR.b(b:Bool):VR Z ow h os (.bool b) (.bool b):=.fz (.bool b)
theorem VR.shape(v:VR Z ow h os x y)(hy:y≠.und):x.cells.length=y.cells.length/\isAg x=isAg y:=by
 cases v with
 |fz f=>exact f.shape
 |und=>grind
 |agg A h2=>exact⟨A,rfl⟩
 |mnil e _ _=>rcases e with rfl|rfl<;>exact⟨rfl,rfl⟩
 |_=>exact⟨rfl,rfl⟩
theorem VR.cells(v:VR Z ow h os x y)(A:y≠.und):VL Z ow h os x.cells y.cells:=by
 cases e:isAg y with
 |true=>
  cases y with
  |agg ys=>obtain⟨xs,rfl,h⟩:=v.agI;exact h
  |_=>cases e
 |false=>rw[C8 e,C8 ((v.shape A).2.trans e)];exact .cons v .nil
theorem aK(v:Value):VR Z ow h os (Er v) (Er v):=by
 cases v with
 |int k n=>exact .i k n
 |bool b=>exact .b b
 |string s=>exact .fz (.str _)
 |pointer a=>cases a<;>first|exact .fz .nilptr|exact .any
 |slice a n c=>
  cases a with
  |some=>exact .any
  |none=>cases n<;>first|exact .any|(cases c<;>first|exact .any|exact .fz .nilsl)
 |map r=>cases r<;>first|exact .fz .nilmap|exact .any
 |nilFunc=>exact .fz .nilfn
 |nilIface=>exact .fz .niliface
 |agg=>exact .und
 |tuple=>exact .und
 |_=>exact .any
theorem zW(v:Value):VR Z ow h os (ofValue v) (ofValue v):=by
 have A:=aK (Z:=Z) (ow:=ow) (h:=h) (os:=os) v;cases v with
 |agg cs=>
  refine .agg rfl fun i x y hx hy=>?_
  grind[aK]
 |_=>exact A
structure r7(Z:Nat->Prop)(ow:Nat->Option (List Nat))(h:Heap)(os:List PO)(nt:Nat)(frc:Tr)(fr:PF):Prop where
 v:∀i,VR Z ow h os (frc.get i) (lookP fr i)
 has:∀i,i<nt->frc.has i=zt
theorem r7.keep{nt:Nat}{frc:Tr}{fr:PF}(a:r7 Z ow h os nt frc fr)(hZ:∀id,Z id->Z' id/\h'.get id=h.get id)(A:Keep' ow os ow' os'):r7 Z' ow' h' os' nt frc fr:=⟨fun i=>(a.v i).keep hZ A,a.has⟩
theorem r7.set{nt t:Nat}{frc:Tr}{fr:PF}(a:r7 Z ow h os nt frc fr)(A:t<nt)(v:VR Z ow h os x y):r7 Z ow h os nt (frc.set t x) ((t,y)::fr):=by
 refine⟨fun i=>?_,fun i hi=>by rw[Tr.has_set];exact a.has i hi⟩;show VR Z ow h os _ (if t=i then y else lookP fr i)
 split
 . rename_i e;subst e;rw[Tr.get_set_eq,a.has t A,if_pos rfl];exact v
 . rename_i e;rw[Tr.get_set_ne _ _ _ _ e];exact a.v i
def BG(E:Env):Prop:=∀g v,E.gl g=zs v->∀Z h,Fz Z h v v
theorem Ae(hg:BG E){nt:Nat}{frc:Tr}{fr:PF}(a:r7 Z ow h os nt frc fr)(o:Operand):VR Z ow h os (opv E o frc) (opvP E o fr):=by
 cases o with
 |tmp t=>exact a.v t
 |const v=>exact zW v
 |global g=>
  show VR Z ow h os (match E.gl g with|some v=>.fptr v 0|none=>.any) (match E.gl g with|some v=>.fptr v 0|none=>.any)
  cases e:E.gl g with
  |none=>exact .any
  |some v=>exact .fz (.fptr 0 (hg g v e Z h))
 |func f=>exact .fn rfl (fun i x y A=>by simp at A) rfl (fun i x y A=>by simp at A)
theorem Gy(hg:BG E){nt:Nat}{frc:Tr}{fr:PF}(a:r7 Z ow h os nt frc fr):∀l:List Operand,VL Z ow h os (opvs E l frc) (opvL E l fr)
 |[]=>.nil
 |o::l=>.cons (Ae hg a o) (Gy hg a l)
theorem I3{t:TI}(hd:s8 t.desc=zf)(cs:List AV)(o:Nat):partOf t cs o=cs[o]?:=by
 grind[partOf,R3]
theorem U6{t:TI}(hd:s8 t.desc=zt)(cs:List AV)(o:Nat):partOf t cs o=if o+t.size<=cs.length then zs (.agg ((cs.drop o).take t.size))else znq:=by
 simp_all[partOf,A5,G8,G7]
theorem Gz{α:Type}{h:Heap}{id:Nat}{es:List AV}{sz:Nat}{d:α}{f:List AV->Nat->α}(hg:h.get id=zs (.row es sz)):h.onRow id d f=f es sz:=by
 grind[Heap.onRow]
theorem eE{id i o sz:Nat}{es:List AV}{x:AV}(hg:h.get id=zs (.row es sz))(A:es[i]?=zs x)(t:TI):Ev t (.ptr id i o) h=partOf t x.cells o:=by
 show h.onRow id znq (fun es _=>A6 (Es es i) fun v=>partOf t v.cells o)=_
 rw[Gz hg,R3,A];rfl
theorem n8{α:Type}{xs:List α}{off n i:Nat}:((xs.drop off).take n)[i]?=if i<n then xs[off+i]? else znq:=by
 grind
theorem Mt{R:Nat->AV->AV->Prop}{t:TI}{xs ys:List AV}{off:Nat}{w:AV}(hl:xs.length=ys.length)(hr:∀(i:Nat) x y,xs[i]?=zs x->ys[i]?=zs y->R i x y)(A:partOf t ys off=zs w):
 ∃w0,partOf t xs off=zs w0/\((∃us vs,w0=.agg us/\w=.agg vs/\us.length=vs.length/\s8 t.desc=zt/\vs.length=t.size/\off+t.size<=ys.length/\∀(i:Nat) x y,us[i]?=zs x->vs[i]?=zs y->R (off+i) x y)\/(s8 t.desc=zf/\ys[off]?=zs w/\xs[off]?=zs w0/\R off w0 w)):=by
 cases B:s8 t.desc with
 |true=>
  rw[U6 B]at A|-;grind
 |false=>
  rw[I3 B]at A|-;grind
theorem Fz.part{t:TI}{off:Nat}{w:AV}(f:Fz Z h x y)(A:partOf t y.cells off=zs w):∃w0,partOf t x.cells off=zs w0/\Fz Z h w0 w:=by
 obtain⟨w0,G,h2⟩:=Mt (R:=fun _ a b=>Fz Z h a b/\AM.clo b=zt) f.shape.1 (fun i a b ha hb=>f.cell ha hb) A;refine⟨w0,G,?_⟩;rcases h2 with⟨us,vs,rfl,rfl,H,_,_,_,J⟩|⟨_,_,_,N,_⟩
 . refine .agg H (fun i x y B C=>(J i x y B C).1) (zqf.2 fun b hb=>?_)
   grind[zqi]
 . exact N
theorem nD(w:AV):N7 w w.cells=w:=by
 cases w<;>rfl
theorem Mu:∀(n id:Nat)(L:List Nat),loP os n id=zs L->loP os (n+1) id=zs L
 |0,_,_,e=>by cases e
 |n + 1,id,L,e=>by
  unfold loP at e|-;cases C:os[id]? with
  |none=>grind
  |some q=>
   rw[C]at e;cases q with
   |sub p i o=>
    simp only at e|-;cases A:loP os n p with
    |none=>grind
    |some B=>rw[A]at e;rw[Mu n p B A];exact e
   |dead=>cases e
   |_=>exact e
theorem Kc(id i:Nat):∀(o nx:Nat)(ys:List AV),(∀b∈ys,Eh b=zt\/b=.und)->openC id i o nx ys=(ys,[])
 |_,_,[],_=>rfl
 |o,nx,c::l,hb=>by
  have hc:ownOf c=znq:=by
   cases e:ownOf c with
   |none=>rfl
   |some t=>
    obtain⟨k,es,sz⟩:=t
    have:=Ad e
    subst this;rcases hb _ (zqh ..)with h|h
    . cases h
    grind[We]
  unfold openC;rw[hc];simp only[Kc id i (o+1) nx l (by grind)]
theorem Wi{id i:Nat}(G:∀Q,loP os 5 id=zs Q->Q=L):∀(ys xs:List AV)(o nx:Nat),xs.length=ys.length->(∀(j:Nat) a b,xs[j]?=zs a->ys[j]?=zs b->CR Z ow h (L++[i,o+j]) a b) ->
 (∀(m:Nat) e,(openC id i o nx ys).2[m]?=zs e->os[nx+m]?=zs e)->VL Z ow h os xs (openC id i o nx ys).1/\(∀e∈(openC id i o nx ys).2,∃q,e=.sub id i q)
 |[],xs,o,nx,hl,_,_=>by
  have:xs=[]:=(by grind)
  subst this;exact⟨.nil,fun e N=>by cases N⟩
 |c::ys,[],o,nx,hl,_,_=>by simp at hl
 |c :: ys,a::xs,o,nx,hl,hr,hos=>by
  have H:=hr 0 a c rfl rfl;have J:∀(j:Nat) u v,xs[j]?=zs u->ys[j]?=zs v->CR Z ow h (L++[i,o+1+j]) u v:=fun j u v U V=>by
   have:=hr (j+1) u v U V
   grind
  unfold openC at hos|-;cases e:ownOf c with
  |none=>
   rw[e]at hos;have ih:=Wi G ys xs (o+1) nx (by simpa using hl) J hos;refine⟨.cons ?_ ih.1,ih.2⟩;cases H with
   |val f _ _=>exact .fz f
   |und=>exact .und
   |_=>cases e
  |some t=>
   obtain⟨k,es,sz⟩:=t
   have:=Ad e
   subst this;rw[e]at hos;simp only at hos|-;have h0:os[nx]?=zs (.sub id i o):=by simpa using hos 0 _ rfl
   have B:nx<os.length:=(zqb.1 h0).1;have ih:=Wi G ys xs (o+1) (nx+1) (by simpa using hl) J fun m e N=>by
    have:=hos (m+1) e N
    grind
   refine⟨.cons ?_ ih.1,fun e N=>?_⟩
   . have hL:∀L',loP os 6 nx=zs L'->L'=L++[i,o]:=fun L' A=>by
      unfold loP at A;rw[h0]at A;simp only at A;cases hp:loP os 5 id with
      |_=>grind
     rcases H.inv with⟨rfl,rfl,e1,e2⟩|⟨C,ces,rfl,h1,_⟩
     . exact .mnil e1 (fun L' A c hc=>e2 c [] (by grind)) B
     . have h1':ow C=zs (L++[i,o]):=by grind
       have X:VR Z ow h os (.ptr C 0 0) (.ptr nx 0 0):=.ptr (by grind) B;have a2:VR Z ow h os (.msl C 0 es.length sz) (.msl nx 0 es.length sz):=.msl (by grind) B;rcases k with _|_|k
       . exact a2
       . exact X
       . exact a2
   grind
theorem jU(s:G2 Z ow h K.os){t:TI}{p v pc:AV}(hp:VR Z ow h K.os pc p)(hl:loadP t p K=zs (v,K')):
 ∃vc,Ev t pc h=zs vc/\G2 Z ow h K'.os/\Keep' ow K.os ow K'.os/\VR Z ow h K'.os vc v/\K'.ext=K.ext/\K'.tch=K.tch/\∃ps,K'.os=K.os++ps/\∀e∈ps,∃a b c,e=.sub a b c:=by
 cases p with
 |fptr v0 off=>
  have hl:(partOf t v0.cells off).map (·,K)=zs (v,K'):=hl;cases hq:partOf t v0.cells off with
  |none=>rw[hq]at hl;cases hl
  |some w=>
   rw[hq]at hl;cases hl;cases hp with
   |fz f=>
    cases f with
    |fptr o f1=>
     obtain⟨w0,J,h2⟩:=f1.part hq;exact⟨w0,J,s,.refl _ _,.fz h2,rfl,rfl,[],by simp,by simp⟩
    |pview hz hg hi f1=>
     obtain⟨w0,J,h2⟩:=f1.part hq;exact⟨w0,(eE hg hi t).trans J,s,.refl _ _,.fz h2,rfl,rfl,[],by simp,by simp⟩
 |ptr id i off=>
  unfold loadP at hl;simp only at hl;cases hr:rowOf K.os 6 id with
  |none=>rw[hr]at hl;cases hl
  |some q=>
   obtain⟨k,es,sz⟩:=q;rw[hr]at hl;simp only at hl;cases hi:es[i]? with
   |none=>rw[hi]at hl;cases hl
   |some e=>
    rw[hi]at hl;simp only at hl;cases hw:partOf t e.cells off with
    |none=>rw[hw]at hl;cases hl
    |some w=>
     rw [hw]at hl;have hl:=Option.some.inj hl;obtain⟨L,af,hc⟩:=s.get 6 id k es sz hr;obtain⟨c,rfl,ad,ag⟩:∃c,pc=.ptr c i off/\ow c=zs L/\id<K.os.length:=by
      cases hp with
      |fz f=>cases f
      |ptr a b=>exact⟨_,rfl,a L af,b⟩
     rcases hc with⟨_,rfl,c0,ces,A⟩|⟨_,x0,ah⟩
     . have:c=c0:=s.inj _ _ _ ad A.o
       subst this;have U:i<ces.length:=by rw[A.sh.1];exact(zqb.1 hi).1
       have B:=zqd U;have G:=A.sh.2 i _ e B hi;obtain⟨w0,J,h2⟩:=Mt (R:=fun _ a b=>VR Z ow h K.os a b/\(Eh b=zt\/b=.und)) (G.1.trans G.2.1.symm) (fun o a b ha hb=>⟨A.vr i _ e B hi o a b ha hb,A.okp i e hi b (zqe hb)⟩) hw;have Y:∀b∈w.cells,Eh b=zt\/b=.und:=by
        rcases h2 with⟨us,vs,rfl,rfl,Q,_,_,_,h4⟩|⟨_,h5,_,X⟩
        . intro b hb
          obtain⟨j,hj⟩:=zqi hb;have ae:j<us.length:=by rw[Q];exact(zqb.1 hj).1
          exact(h4 j _ b (zqd ae) hj).2
        . intro b hb
          have aa:isAg w=zf:=by rcases X.2 with h|h<;>cases w<;>first|rfl|cases h
          rw[C8 aa]at hb;rw[zqn.1 hb];exact X.2
       have e1:Wd id i off w K=(w,K):=by
        unfold Wd;rw[Kc id i off _ _ Y,nD];simp
       rw[e1]at hl;cases hl;refine⟨w0,(eE A.get B t).trans J,s,.refl _ _,?_,rfl,rfl,[],by simp,by simp⟩;rcases h2 with⟨us,vs,rfl,rfl,Q,_,_,_,h4⟩|⟨_,h5,_,X⟩
       . exact .agg Q fun j x y hx hy=>(h4 j x y hx hy).1
       . exact X.1
     . rcases ah.inv with⟨_,e2,_⟩|⟨c0,ces,_,J,h2,Q,hs,_,h5⟩
       . subst e2;simp at hi
       have:c=c0:=s.inj _ _ _ ad J
       subst this;have U:i<ces.length:=by rw[hs.1];grind
       have B:=zqd U;have G:=hs.2 i _ e B hi;obtain⟨w0,g1,g2⟩:=Mt (R:=fun o a b=>CR Z ow h (L++[i,o]) a b) (G.1.trans G.2.1.symm) (by grind) hw;by_cases hu:w=.und
       . subst hu
         have e1:Wd id i off .und K=(.und,K):=by
          unfold Wd;rw[Kc id i off _ _ (fun b hb=>.inr (by simpa using zqn.1 hb))];simp[N7];rfl
         rw[e1]at hl;cases hl;exact⟨w0,(eE Q B t).trans g1,s,.refl _ _,.und,rfl,rfl,[],by simp,by simp⟩
       have hcell:w0.cells.length=w.cells.length/\isAg w0=isAg w/\∀(j:Nat) a b,w0.cells[j]?=zs a->w.cells[j]?=zs b->CR Z ow h (L++[i,off+j]) a b:=by
        rcases g2 with⟨us,vs,rfl,rfl,Q,_,_,_,h4⟩|⟨_,h5',h6',X⟩
        . exact⟨Q,rfl,h4⟩
        . have V:=X.shape hu
          have ab:isAg w=zf:=by
           cases X with
           |val f e=>exact(f.shape.2).symm.trans V
           |und=>grind
           |_=>rfl
          rw[C8 ab,C8 V];refine⟨rfl,V.trans ab.symm,fun j a b ha hb=>?_⟩;grind
       obtain ⟨q1,q2,q3⟩:=hcell;have ac:∀L1,loP (K.os++(openC id i off K.os.length w.cells).2) 5 id=zs L1->L1=L:=fun L1 J=>by
        rw[loP_app s.sb 5 id ag]at J;grind[Mu]
       have N:=Wi (os:=K.os++(openC id i off K.os.length w.cells).2) (Z:=Z) (ow:=ow) (h:=h) ac w.cells w0.cells off K.os.length q1 q3 fun m e he=>by
        simp_all[List.getElem?_append_right]
       have H:=s.subs (ps:=(openC id i off K.os.length w.cells).2) fun e he=>by
        obtain⟨q,rfl⟩:=N.2 e he;grind
       cases hl;refine⟨w0,(eE Q B t).trans g1,G2.to H.1 (fun _ hz=>⟨hz,rfl⟩) H.2,H.2,?_,rfl,rfl,_,rfl,fun e he=>by
        obtain⟨q,rfl⟩:=N.2 e he;grind⟩
       show VR Z ow h (K.os++(openC id i off K.os.length w.cells).2) w0 (N7 w (openC id i off K.os.length w.cells).1)
       cases C:isAg w with
       |true=>
        cases w with
        |agg ws=>
         cases w0 with
         |agg us=>exact .agL N.1
         |_=>rw[C]at q2;cases q2
        |_=>cases C
       |false=>
        have k1:=N.1;rw[C8 C,C8 (q2.trans C)]at k1;rw[C8 C]
        have:∀vs:List AV,VL Z ow h (K.os++(openC id i off K.os.length [w]).2) [w0] vs->VR Z ow h (K.os++(openC id i off K.os.length [w]).2) w0 (N7 w vs):=fun vs hv=>by
         cases vs with
         |nil=>have:=hv.1;simp at this
         |cons v vs=>cases w<;>first|exact hv.inv.1|cases C
        grind
 |_=>cases hl
end
theorem Q1{v:AV}{off:Nat}{ncs:List AV}(hf:off+ncs.length<=v.cells.length)(hn:0<ncs.length)(ha:∀c∈ncs,isAg c=zf):(v.withCells off ncs).cells=lsplice v.cells off ncs/\isAg (v.withCells off ncs)=isAg v:=by
 cases A:isAg v with
 |true=>
  cases v with
  |agg cs=>exact⟨U1 cs off ncs,rfl⟩
  |_=>cases A
 |false=>
  have e1:=C8 A;rw[e1]at hf|-;simp at hf;cases ncs with
  |nil=>simp at hn
  |cons x r=>
   simp at hf;have B:r=[]:=zqj (by omega);subst B;have ho:off=0:=by grind
   subst ho;have hx:=ha x (zqh ..);have e2:v.withCells 0 [x]=x:=by cases v<;>first|rfl|cases A
   grind[lsplice,C8]
theorem j2{α:Type}{l us:List α}{p j:Nat}(h:p+us.length<=l.length):(lsplice l p us)[j]?=if p<=j/\j<p+us.length then us[j-p]? else l[j]?:=by
 grind[lsplice]
section
variable {E:Env}{Z Z':Nat->Prop}{ow ow':Nat->Option (List Nat)}{h h':Heap}{K K':PK}{os os':List PO}{x y:AV}{L M:List Nat}
theorem VR.okc(v:VR Z ow h os x y)(A:Eh y=zt):okCell x=zt:=by
 cases v with
 |fz f=>
  cases f with
  |agg=>cases A
  |emp e=>cases e<;>rfl
  |_=>rfl
 |und=>cases A
 |mnil e _ _=>rcases e with rfl|rfl<;>rfl
 |agg=>cases A
 |tup=>cases A
 |_=>rfl
theorem clo_okP{y:AV}(A:clo y=zt):Eh y=zt:=by cases y<;>first|rfl|cases A
theorem qU{y:AV}(A:clo y=zt):isAg y=zf:=by cases y<;>first|rfl|cases A
theorem EB{y:AV}(A:Eh y=zt):isAg y=zf:=by cases y<;>first|rfl|cases A
theorem okCell_nag{y:AV}(A:okCell y=zt):isAg y=zf:=by cases y<;>first|rfl|cases A
theorem store_g{id i sz off:Nat}{es:List AV}{e v:AV}{t:TI}(hg:h.get id=zs (.row es sz))(A:es[i]?=zs e)(B:v.cells.length=t.size)(h2:0<t.size)(C:off+t.size<=sz)(G:∀c∈v.cells,okCell c=zt):Cw t (.ptr id i off) v h=zs (h.set id (.row (es.set i (e.withCells off v.cells)) sz)):=by
 show h.onRow id znq (Sl t id i off v.cells h)=_
 rw[Gz hg];show A6 (Es es i) (fun old=>B3 (Nat.beq (lenL v.cells) t.size&&Nat.blt 0 t.size&&Nat.ble (Nat.add off t.size) sz&&D5 v.cells) (zs (h.set id (.row (setL es i (old.withCells off v.cells)) sz))))=_
 rw[R3,A,A5,B,zka,(G5 _).2 G];simp only[At];have e1:Nat.blt 0 t.size=zt:=zqv h2;have e2:Nat.ble (Nat.add off t.size) sz=zt:=zqv C;rw[e1,e2];rfl
theorem eS.set{sz i off:Nat}{ces es ncs A:List AV}{a e:AV}(G:eS sz ces es)(ha:ces[i]?=zs a)(H:es[i]?=zs e)(hf:off+A.length<=sz)(hl:ncs.length=A.length)(hn:0<A.length)(N:∀c∈ncs,isAg c=zf)(h2:∀c∈A,isAg c=zf):
 eS sz (ces.set i (a.withCells off ncs)) (es.set i (e.withCells off A)):=by
 have h0:=G.2 i a e ha H;have w1:=Q1 (v:=a) (off:=off) (ncs:=ncs) (by omega) (by omega) N;have w2:=Q1 (v:=e) (off:=off) (ncs:=A) (by omega) hn h2;refine⟨by simp[G.1],fun j x y B C=>?_⟩;rw[zqc]at B C;by_cases J:i=j
 . subst J
   rw[if_pos rfl,if_pos (zqb.1 ha).1]at B;rw[if_pos rfl,if_pos (zqb.1 H).1]at C;grind[S6]
 . rw[if_neg J]at B C;exact G.2 j x y B C
theorem aL{R:Nat->Nat->AV->AV->Prop}{sz i off:Nat}{ces es ncs A:List AV}{a e:AV}(N:eS sz ces es)(ha:ces[i]?=zs a)(J:es[i]?=zs e)(hf:off+A.length<=sz)(hl:ncs.length=A.length)(hn:0<A.length)(Q:∀c∈ncs,isAg c=zf)(h2:∀c∈A,isAg c=zf)
 (hold:∀(j:Nat) x y,ces[j]?=zs x->es[j]?=zs y->∀(o:Nat) u w,(j=i->o<off\/off+A.length<=o)->x.cells[o]?=zs u->y.cells[o]?=zs w->R j o u w)(hnew:∀(o:Nat) u w,ncs[o]?=zs u->A[o]?=zs w->R i (off+o) u w):
 ∀(j:Nat) x y,(ces.set i (a.withCells off ncs))[j]?=zs x->(es.set i (e.withCells off A))[j]?=zs y->∀(o:Nat) u w,x.cells[o]?=zs u->y.cells[o]?=zs w->R j o u w:=by
 have h0:=N.2 i a e ha J;have U:=Q1 (v:=a) (off:=off) (ncs:=ncs) (by omega) (by omega) Q;have V:=Q1 (v:=e) (off:=off) (ncs:=A) (by omega) hn h2;intro j x y G H o u w B C;rw[zqc]at G H;by_cases X:i=j
 . subst X
   rw[if_pos rfl,if_pos (zqb.1 ha).1]at G;rw[if_pos rfl,if_pos (zqb.1 J).1]at H;cases G;cases H;rw[U.1,j2 (by omega)]at B;rw[V.1,j2 (by omega)]at C;rw[hl]at B;split at B
   . rename_i hc
     rw[if_pos hc]at C
     have:=hnew (o-off) u w B C
     simp_all
   . rename_i hc
     rw[if_neg hc]at C;grind
 grind
theorem Stp.store{b c:Nat}{os1:List PO}{r:Nat}{t:List Nat}{ob:AObj}{R:AV->AV->Prop}(s:PT R Z ow h K.os)(hc:ow c=zs (r::t))(hlen:isRt K.os r=zt)
 (h1:∀id L,ow' id=zs L->id<h.next->ow id≠znq)(h2:∀id q t,ow id=zs (q::t)->q<K.ext->(∃t',ow' id=zs (q::t'))\/q=r)(h3:∀j,j<K.ext->∀c,isRt os1 j=zt->(ow c=zs [j]↔ow' c=zs [j]))(h4:∀j,j<K.ext->isRt os1 j=zt->isRt K.os j=zt):
 Stp b Z ow h K Z ow' (h.set c ob) {K with os:=os1,tch:=r::K.tch}:=by
 have hne:∀id,ow id=znq->id≠c:=(by grind)
 refine⟨zqt _,fun id hz=>⟨hz,Heap.get_set_ne _ _ fun e=>?_⟩,fun id hz=>.inl hz,(by grind[Go.AM.Heap.get_set_ne]),h1,⟨[c],rfl,fun id hi=>?_⟩,fun id q t' ho A=>?_,fun q A _=>zqr _ A,rfl,h3,h4⟩
 . subst e;exact(s.live _ _ hc).2.1 hz
 . grind
 grind
end
section
variable {E:Env}{Z Z':Nat->Prop}{ow ow':Nat->Option (List Nat)}{h h':Heap}{K K':PK}{os os':List PO}{x y:AV}{L M:List Nat}
theorem loP_uniq{n m id:Nat}{L L':List Nat}(A:loP os n id=zs L)(h2:loP os m id=zs L'):L=L':=by
 have up:∀k n id L,loP os n id=zs L->loP os (n+k) id=zs L:=fun k=>by
  induction k with
  |zero=>grind
  |succ k ih=>grind[Mu]
 have a:=up m n id L A;grind
theorem aM{j:Nat}{B:List Nat}(C:loP os 6 j=zs B):∀(n id:Nat)(L:List Nat),loP os n id=zs L->j∈chainOf os n id->B.length<=L.length
 |0,_,_,e,_=>by cases e
 |n + 1,id,L,e,A=>by
  unfold chainOf at A;rcases List.mem_cons.1 A with rfl|A
  . rw[loP_uniq C e];grind
  . unfold loP at e
    cases J:os[id]? with
    |none=>grind
    |some q=>
     rw[J]at A e;cases q with
     |sub p i o=>
      simp only at A e;cases G:loP os n p with
      |none=>grind
      |some H=>
       rw[G]at e;cases e
       have:=aM C n p H G A
       simp;omega
     |_=>cases A
theorem kill_alive{id j:Nat}{L C t:List Nat}(A:loP os 6 id=zs L)(B:loP (killP os (rootOf os 6 id) (chainOf os 6 id)) 6 j=zs C)(hne:t≠[]):¬Und (L++t) C:=by
 rintro⟨u,rfl⟩
 have w:=Mr os (rootOf os 6 id) (chainOf os 6 id);have h2:=w.lo 6 j _ B;obtain⟨t0,hL,_⟩:=J8 6 id L A;have hlen:(L++t++u).length>L.length:=by
  cases t with
  |nil=>grind
  |cons a t=>simp
 have hL0:L.length>0:=by grind
 unfold loP at B;cases G:(killP os (rootOf os 6 id) (chainOf os 6 id))[j]? with
 |none=>grind
 |some q=>
  rw[G]at B;cases q with
  |dead=>cases B
  |sub p i o=>
   rcases killP_sub G with h|h
   . obtain⟨t1,h3,_⟩:=J8 6 j _ h2
     grind
   . have:=aM h2 6 id L A h
     omega
  |_=>grind
theorem aN{q:Nat}{e:PO}:∀(n id:Nat),rootOf os n id≠q->(∀p i o,os[q]?≠zs (.sub p i o))->rowOf (os.set q e) n id=rowOf os n id
 |0,_,_,_=>rfl
 |n + 1,id,hne,hq=>by
  unfold rowOf;rw[zqc];by_cases hid:q=id
  . subst hid
    unfold rootOf at hne;grind
  . rw [if_neg hid]
    unfold rootOf at hne;cases B:os[id]? with
    |none=>rfl
    |some A=>
     rw[B]at hne;cases A with
     |sub p i o=>simp only at hne|-;rw[aN n p hne hq]
     |_=>rfl
theorem Mv:∀(n id k:Nat)(es es':List AV)(sz:Nat)(os':List PO),rowOf os n id=zs (k,es,sz)->setRow os n id es'=zs os'->rowOf os' n id=zs (k,es',sz)
 |0,_,_,_,_,_,_,e,_=>by cases e
 |n + 1,id,k,es,es',sz,os',e,hs=>by
  obtain⟨r,kr,esr,szr,esr',hr,hos,hrt⟩:=setRow_eq _ _ _ _ hs;unfold rowOf at e;unfold setRow at hs;cases J:os[id]? with
  |none=>grind
  |some q=>
   rw[J]at e hs;cases q with
   |row k0 es0 sz0=>
    cases e;cases hs;unfold rowOf;grind
   |sub p i o=>
    have hne:r≠id:=(by grind)
    simp only at e hs;cases H:rowOf os n p with
    |none=>grind
    |some t=>
     obtain⟨kp,A,G⟩:=t;rw[H]at e hs;simp only at e hs;cases hi:A[i]? with
     |none=>grind
     |some v=>
      rw[hi]at e hs;simp only at e hs;cases ho:v.cells[o]? with
      |none=>grind
      |some c=>
       rw[ho]at e hs;simp only at e hs;rw[e]at hs;have ih:=Mv n p kp A _ G os' H hs;unfold rowOf;have hid:os'[id]?=zs (.sub p i o):=by grind
       rw[hid];simp only;rw[ih];simp only;have C:i<A.length:=(zqb.1 hi).1;rw[zqc,if_pos rfl,if_pos C];simp only;have B:=(zqb.1 ho).1;rw[(Qc (c:=ownd k sz es') B rfl).1,zqc,if_pos rfl,if_pos B];rfl
   |_=>cases e
noncomputable def clr(ow:Nat->Option (List Nat))(P:List Nat->Prop):Nat->Option (List Nat):=fun id=>match ow id with
 |some M=>(open Classical in if P M then znq else zs M)
 |none=>znq
theorem clr_some{P:List Nat->Prop}{id:Nat}{M:List Nat}:clr ow P id=zs M↔ow id=zs M/\¬P M:=by
 unfold clr;grind
def AtC(L:List Nat)(i off n:Nat)(M:List Nat):Prop:=∃o,off<=o/\o<off+n/\Und (L++[i,o]) M
theorem Mw{L M:List Nat}{i off n:Nat}(h:AtC L i off n M):Und L M:=by
 obtain⟨o,_,_,t,rfl⟩:=h;exact⟨[i,o]++t,by simp⟩
theorem Ge{L q:List Nat}{i off n i' o':Nat}(h:AtC L i off n (L++[i',o']++q)):i'=i/\off<=o'/\o'<off+n:=by
 obtain⟨o,h1,h2,A⟩:=h
 have:=Wf (t:=[]) (by simpa using A)
 omega
theorem CR.cells{k sz i off:Nat}{es ncs A:List AV}{c:Nat}{ces:List AV}{a e:AV}(N:ow' c=zs L)(h2:c<h'.next)(hg:h'.get c=zs (.row (ces.set i (a.withCells off ncs)) sz))(H:eS sz ces es)(ha:ces[i]?=zs a)(J:es[i]?=zs e)(hf:off+A.length<=sz)(hl:ncs.length=A.length)(hn:0<A.length)(B:∀c∈ncs,isAg c=zf)(C:∀c∈A,isAg c=zf)(hin:GU ow' L es.length sz)
 (hold:∀(j:Nat) x y,ces[j]?=zs x->es[j]?=zs y->∀(o:Nat) u w,(j=i->o<off\/off+A.length<=o)->x.cells[o]?=zs u->y.cells[o]?=zs w->CR Z' ow' h' (L++[j,o]) u w)(hnew:∀(o:Nat) u w,ncs[o]?=zs u->A[o]?=zs w->CR Z' ow' h' (L++[i,off+o]) u w):
 CR Z' ow' h' L (refK k c es.length sz) (ownd k sz (es.set i (e.withCells off A))):=by
 have G:=H.set ha J hf hl hn B C;rw[show es.length=(es.set i (e.withCells off A)).length by simp];exact .own N h2 hg G.1 (by grind) G.2 (aL (R:=fun j o u w=>CR Z' ow' h' (L++[j,o]) u w) H ha J hf hl hn B C hold hnew)
theorem nag_rep{n:Nat}:∀c∈zqa n AV.und,isAg c=zf:=fun c hc=>by rw[(List.mem_replicate.1 hc).2];rfl
theorem PT.forget{R:AV->AV->Prop}(s:PT R Z ow h os){id k i off n:Nat}{es:List AV}{sz:Nat}{e:AV}(hr:rowOf os 6 id=zs (k,es,sz))(G:rawAt os id=zf)(N:loP os 6 id=zs L)(Q:es[i]?=zs e)(hf:off+n<=sz)(hn:0<n)
 (halive:∀j B,loP os 6 j=zs B->¬AtC L i off n B)(hset:setRow os 6 id (es.set i (e.withCells off (zqa n .und)))=zs os'):
 PT R Z (clr ow (AtC L i off n)) h os'/\Keep' ow os (clr ow (AtC L i off n)) os'/\(∀o,o<n->uU (clr ow (AtC L i off n)) (L++[i,off+o])):=by
 have d:Dl Z ow h Z (clr ow (AtC L i off n)) h L:=⟨zqt _,fun _ hz=>⟨hz,rfl⟩,fun id M hM=>by
  rw[clr_some];exact⟨fun h=>h.1,fun h=>⟨h,fun ha=>hM (Mw ha)⟩⟩,fun _ _ _ _=>rfl⟩
 have hlen:es.length=es.length:=rfl;have hkeep:∀j,j<os.length->∀B,loP os 6 j=zs B->∀c,ow c=zs B↔clr ow (AtC L i off n) c=zs B:=(by grind[Go.AM.clr_some])
 obtain⟨r,k0,es0,sz0,es0',hr0,hos,_⟩:=setRow_eq _ _ _ _ hset;have H:∀M m z,GU ow M m z->GU (clr ow (AtC L i off n)) M m z:=fun M m z hi c t hc=>hi c t (clr_some.1 hc).1
 refine⟨?_,⟨by grind,fun j hj B h1=>?_⟩,fun o ho c t hc=>(clr_some.1 hc).2 ⟨off+o,by omega,by omega,t,rfl⟩⟩
 . refine s.set d (fun a b M ha hb=>s.inj a b M (clr_some.1 ha).1 (clr_some.1 hb).1) (fun a M ha=>s.live a M (clr_some.1 ha).1) s.zb (fun M m z t _ _ hi=>H M m z hi) 6 id k es sz _ os' L [] (by simp) hr N G hset fun x U=>?_
   rcases U.inv with⟨_,e2,_⟩|⟨c,ces,rfl,h1,h2,h3,J,h5,h6⟩
   . grind
   . have aa:i<ces.length:=by rw[J.1];grind
     have ha:=zqd aa;have hsh:=J.2 i _ e ha Q;have w2:=Q1 (v:=e) (off:=off) (ncs:=zqa n .und) (by rw[zqk];omega) (by simpa using hn) nag_rep;have ab:clr ow (AtC L i off n) c=zs L:=(by grind[Go.AM.clr_some])
     rw[show es.length=(es.set i (e.withCells off (zqa n .und))).length by simp];refine .own ab h2 h3 (by simpa using J.1) (by grind) (fun j x y U A=>?_) (fun j x y V A o a b X hb=>?_)
     . rw [zqc]at A
       by_cases C:i=j
       . subst C
         rw[if_pos rfl,if_pos (zqb.1 Q).1]at A;grind[S6]
       . rw[if_neg C]at A;exact J.2 j x y U A
     . have old:∀b,(∃y,es[j]?=zs y/\y.cells[o]?=zs b)->(j=i->o<off\/off+n<=o)->CR Z (clr ow (AtC L i off n)) h (L++[j,o]) a b:=fun b ⟨y,A,hb⟩ hjo=>by
        refine(h6 j x y V A o a b X hb).reloc (zqt _) (fun _ hz=>⟨hz,rfl⟩) (fun id q=>?_) (fun _ _ _=>rfl);rw[clr_some];exact⟨fun h=>h.1,fun h=>⟨h,fun Y=>by have:=Ge Y;grind⟩⟩
       rw[zqc]at A;by_cases C:i=j
       . subst C
         rw[if_pos rfl,if_pos (zqb.1 Q).1]at A;cases A;rw[w2.1,j2 (by rw[zqk];omega)]at hb;rw[zqk]at hb;split at hb
         . rw[List.getElem?_replicate]at hb
           split at hb
           . cases hb;exact .und
           . cases hb
         grind
       . rw[if_neg C]at A
         exact old b ⟨y,A,hb⟩ fun e=>absurd e.symm C
 grind[Be]
end
section
variable {E:Env}{R:AV->AV->Prop}{Z Z':Nat->Prop}{ow ow':Nat->Option (List Nat)}{h h':Heap}{K K':PK}{os os':List PO}{x y:AV}{L M:List Nat}
theorem PT.drop(s:PT R Z ow h os){q:Nat}{e:PO}(he:(∃p i o,e=.sub p i o/\p<os.length)\/e=.dead):PT R Z (clr ow (Und [q])) h (os.set q e):=by
 have hne:∀r t,r≠q->¬Und [q] (r::t):=fun r t C ⟨u,hu⟩=>by grind
 have A:∀{r:Nat}{G:PO},(os.set q e)[r]?=zs G->(r≠q/\os[r]?=zs G)\/G=e:=(by grind)
 have hee:(∀k es sz,e≠.row k es sz)/\∀es,e≠.mapo es:=by
  grind
 have ho:∀r id t,r≠q->(clr ow (Und [q]) id=zs (r::t)↔ow id=zs (r::t)):=(by grind[Go.AM.clr_some])
 refine⟨fun r es sz C=>?_,fun r k es sz C H=>?_,fun r es C=>?_,fun a b M ha hb=>s.inj a b M (clr_some.1 ha).1 (clr_some.1 hb).1,fun a M ha=>?_,s.zb,fun j p i o J=>?_⟩
 . rcases A C with⟨B,h2⟩|h
   . obtain⟨x,N⟩:=s.row r es sz h2
     exact⟨x,N.reloc (zqt _) (fun _ hz=>⟨hz,rfl⟩) (fun id t=>ho r id t B) (fun _ _ _=>rfl)⟩
   grind
 . rcases A C with⟨B,h2⟩|h
   . obtain⟨c,ces,g⟩:=s.raw r k es sz h2 H
     exact⟨c,ces,(ho r c [] B).2 g.o,g.lt,g.get,g.sh,g.vr,g.okp,fun a t ha=>g.no a t ((ho r a t B).1 ha)⟩
   grind
 . rcases A C with⟨B,h2⟩|h
   . obtain⟨c,ces,g⟩:=s.map r es h2
     exact⟨c,ces,(ho r c [] B).2 g.o,g.lt,g.get,g.len,g.kv,fun a t ha=>g.no a t ((ho r a t B).1 ha)⟩
   grind
 . obtain⟨B,h2⟩:=clr_some.1 ha
   obtain⟨Q,U,r,t,rfl,h5⟩:=s.live a M B;have hrq:r≠q:=fun e=>h2 ⟨t,by rw[e];rfl⟩
   refine⟨Q,U,r,t,rfl,?_⟩;grind[isRt]
 . rw[zqg]
   rcases A J with⟨_,h2⟩|h
   . exact s.sb j p i o h2
   grind
noncomputable def rlb(ow:Nat->Option (List Nat))(q:Nat)(L:List Nat):Nat->Option (List Nat):=fun id=>match ow id with
 |some (p::t)=>if p=q then zs (L++t)else zs (p::t)
 |e=>e
theorem zX{q id:Nat}(hne:∀a M,ow a=zs M->M≠[]):rlb ow q L id=zs M↔(∃t,ow id=zs (q::t)/\M=L++t)\/(ow id=zs M/\∀t,M≠q::t):=by
 unfold rlb;grind
theorem loP_seal{q id i o:Nat}{L:List Nat}{e:PO}(H:os[q]?=zs e)(A:isRt os q=zt)(hL:∀n N,loP os n id=zs N->N=L)(B:∀t,L≠q::t):∀(n j:Nat)(L':List Nat),loP (os.set q (.sub id i o)) n j=zs L'->(∃t,loP os n j=zs (q::t)/\L'=L++[i,o]++t)\/(loP os n j=zs L'/\∀t,L'≠q::t)
 |0,_,_,h=>by cases h
 |n + 1,j,L',hl=>by
  unfold loP at hl;rw[zqc]at hl;by_cases Q:q=j
  . subst Q
    rw[if_pos rfl,if_pos (zqb.1 H).1]at hl;simp only at hl;cases C:loP (os.set q (.sub id i o)) n id with
    |none=>grind
    |some G=>
     rw [C]at hl;cases hl;have hLp:G=L:=by
      rcases loP_seal H A hL B n id G C with⟨t,J,_⟩|⟨J,_⟩
      . grind
      grind
     grind[loP,isRt]
  . rw [if_neg Q]at hl
    unfold loP;cases V:os[j]? with
    |none=>grind
    |some U=>
     rw[V]at hl;cases U with
     |dead=>cases hl
     |sub p a b=>
      simp only at hl|-;cases C:loP (os.set q (.sub id i o)) n p with
      |none=>grind
      |some G=>
       rw[C]at hl;cases hl;rcases loP_seal H A hL B n p G C with⟨t,J,rfl⟩|⟨J,h2⟩
       . grind
       grind[J8]
     |_=>grind
structure Sealed(R:AV->AV->Prop)(Z:Nat->Prop)(ow:Nat->Option (List Nat))(h:Heap)(os:List PO)(ext:Nat)(L:List Nat)(i o0 d:Nat)(xs cs:List AV)(owf:Nat->Option (List Nat))(os':List PO):Prop where
 pt:PT R Z (clr owf (AtC L i o0 (d+xs.length))) h os'
 inj:∀a b M,owf a=zs M->owf b=zs M->a=b
 live:∀a M,owf a=zs M->a<h.next/\¬Z a
 keep:Keep' ow os owf os'
 len:cs.length=xs.length
 cr:∀(j:Nat) a b,xs[j]?=zs a->cs[j]?=zs b->CR Z owf h (L++[i,o0+d+j]) a b/\isAg b=zf/\b≠.und
 at_:∀id M,Und L M->¬AtC L i (o0+d) xs.length M->(owf id=zs M↔ow id=zs M)
 no:∀id M,owf id=zs M->¬AtC L i (o0+d) xs.length M->ow id=zs M
 lo:∀id q t,ow id=zs (q::t)->q<ext->owf id=zs (q::t)
 sm:∀id,owf id=znq↔ow id=znq
 rt:∀j:Nat,j<ext->os'[j]?=os[j]?
 rt':∀j:Nat,isRt os' j=zt->isRt os j=zt
 oth:∀j:Nat,(∀k es sz,os[j]?≠zs (.row k es sz))->os'[j]?=os[j]?
 ne:os'.length=os.length
theorem AtC.split{i o0 d:Nat}:AtC L i o0 (d+1) M↔AtC L i o0 d M\/Und (L++[i,o0+d]) M:=by
 constructor
 . rintro⟨o,A,h2,B⟩
   by_cases e:o=o0+d
   . grind
   . exact .inl ⟨o,A,by omega,B⟩
 . rintro(⟨o,A,h2,B⟩|h)
   . exact⟨o,A,by omega,B⟩
   . exact⟨o0+d,by omega,by omega,h⟩
theorem Wj{ext r id i o0:Nat}{tl:List Nat}(aa:L=r::tl):∀(ys xs cs:List AV)(d:Nat)(os os':List PO)(ow:Nat->Option (List Nat)),sealC ext r id i (o0+d) os ys=zs (cs,os') ->
 PT R Z (clr ow (AtC L i o0 d)) h os->(∀a b M,ow a=zs M->ow b=zs M->a=b)->(∀a M,ow a=zs M->a<h.next/\¬Z a)->(∀a M,ow a=zs M->M≠[])->(∀n H,loP os n id=zs H->H=L)->(id<os.length)->(∀j H,loP os 6 j=zs H->¬AtC L i (o0+d) ys.length H) ->
 (∀j,j<ys.length->uU ow (L++[i,o0+d+j]))->VL Z ow h os xs ys->∃owf,Sealed R Z ow h os ext L i o0 d xs cs owf os'
 |[],xs,cs,d,os,os',ow,hs,hp,hinj,hlive,hne,hL,hidl,hal,hno,hv=>by
  cases hs
  have:xs=[]:=zqj hv.1
  subst this;exact⟨ow,hp,hinj,hlive,.refl _ _,rfl,fun j a b ha=>by simp at ha,fun _ _ _ _=>.rfl,fun _ _ h _=>h,fun _ _ _ h _=>h,fun _=>.rfl,fun _ _=>rfl,fun _ h=>h,fun _ _=>rfl,rfl⟩
 |c::ys,[],cs,d,os,os',ow,hs,hp,hinj,hlive,hne,hL,hidl,hal,hno,hv=>by have:=hv.1;simp at this
 |c :: ys,a :: xs,cs,d,os,os',ow,hs,hp,hinj,hlive,hne,hL,hidl,hal,hno,hv=>by
  obtain ⟨Y,ag⟩:=hv.inv;have G:uU ow (L++[i,o0+d]):=hno 0 (by simp);have ad:∀j,j<ys.length->uU ow (L++[i,o0+(d+1)+j]):=fun j hj=>by
   have:=hno (j+1) (by grind)
   grind
  have ah:∀j H,loP os 6 j=zs H->¬AtC L i (o0+(d+1)) ys.length H:=fun j H A ⟨o,h2,B,Q⟩=>hal j H A ⟨o,by omega,by simp;omega,Q⟩
  have an:(a::xs).length=xs.length+1:=rfl;have hyl:=ag.1;unfold sealC at hs;cases hc:clo c with
  |true=>
   rw[hc]at hs;simp only at hs;cases hq:sealC ext r id i (o0+d+1) os ys with
   |none=>grind
   |some p=>
    rw [hq]at hs;cases hs;have ao:PT R Z (clr ow (AtC L i o0 (d+1))) h os:=by
     have e:clr ow (AtC L i o0 (d+1))=clr ow (AtC L i o0 d):=by
      funext id
      apply Option.ext;intro M;show clr ow _ id=zs M↔clr ow _ id=zs M
      rw[clr_some,clr_some,AtC.split];exact⟨(by grind),fun⟨A,h2⟩=>⟨A,fun h=>h.elim h2 fun⟨t,ht⟩=>G id t (by grind)⟩⟩
     grind
    obtain⟨owf,g⟩:=Wj aa ys xs p.1 (d+1) os p.2 ow (by omega) ao hinj hlive hne hL hidl ah ad ag;have N:∀M,¬AtC L i (o0+d) (xs.length+1) M->¬AtC L i (o0+(d+1)) xs.length M:=fun M U ⟨o,A,h2,B⟩=>U ⟨o,by omega,by omega,B⟩
    have ap:uU owf (L++[i,o0+d]):=fun c' t am=>by
     have:=g.no c' _ am fun J=>by have:=Ge J;omega
     exact G c' t this
    refine⟨owf,?_,g.inj,g.live,g.keep,by simp[g.len],fun j a' b' ha hb=>?_,fun id M V U=>g.at_ id M V (N M U),fun id M A U=>g.no id M A (N M U),g.lo,g.sm,g.rt,g.rt',g.oth,g.ne⟩
    . have:=g.pt
      rw[an,show d+(xs.length+1)=d+1+xs.length by omega];exact this
    . cases j with
      |zero=>cases ha;cases hb;exact⟨.val (Y.fzc hc |>.mono fun _ hz=>⟨hz,rfl⟩) hc ap,qU hc,fun e=>by rw[e]at hc;cases hc⟩
      |succ j=>
       have:=g.cr j a' b' ha hb
       rw[show o0+d+(j+1)=o0+(d+1)+j by omega];exact this
  |false=>
   rw[hc]at hs;simp only at hs;cases c with
   |msl q off m sz=>
    cases off with
    |succ off=>cases hs
    |zero=>
     simp only at hs;cases hq:os[q]? with
     |none=>rw[hq]at hs;cases hs
     |some e=>
      rw[hq]at hs;cases e with
      |row k es z=>
       cases k with
       |succ k=>cases hs
       |zero=>
        simp only at hs;split at hs
        . rename_i af
          obtain⟨hm,hz,hext,ak⟩:=af;subst hz;cases hr:sealC ext r id i (o0+d+1) (os.set q (.sub id i (o0+d))) ys with
          |none=>rw[hr]at hs;cases hs
          |some p=>
           rw[hr]at hs;cases hs;have ab:∀t,L≠q::t:=fun t e=>ak (by rw[aa]at e;cases e;rfl)
           have X:isRt os q=zt:=by unfold isRt;rw[hq]
           have hqlt:=(zqb.1 hq).1;have hneq:q≠id:=fun e=>by
            have:=hL 6 [q] (by grind[loP])
            exact ab [] this.symm
           obtain⟨xq,al⟩:=hp.row q es sz hq;have hnL:∀M,L++[i,o0+d]++M≠[]:=fun M e=>by simp at e
           have C:∀id M,rlb ow q (L++[i,o0+d]) id=zs M↔(∃t,ow id=zs (q::t)/\M=L++[i,o0+d]++t)\/(ow id=zs M/\∀t,M≠q::t):=fun id M=>zX hne
           have ai:clr (rlb ow q (L++[i,o0+d])) (AtC L i o0 (d+1))=clr (clr ow (AtC L i o0 d)) (Und [q]):=by
            funext id'
            apply Option.ext;intro M;show clr _ _ id'=zs M↔clr _ _ id'=zs M
            rw[clr_some,clr_some,clr_some,C,AtC.split]
            constructor
            . rintro⟨⟨t,A,rfl⟩|⟨A,h2⟩,B⟩
              . exact absurd (.inr ⟨t,rfl⟩) B
              . exact⟨⟨A,fun h=>B (.inl h)⟩,fun⟨u,V⟩=>h2 u V⟩
            . rintro⟨⟨A,h2⟩,B⟩
              exact⟨.inr ⟨A,fun t e=>B ⟨t,e⟩⟩,fun h=>h.elim h2 fun⟨t,ht⟩=>G id' t (by grind)⟩
           have aq:PT R Z (clr (rlb ow q (L++[i,o0+d])) (AtC L i o0 (d+1))) h (os.set q (.sub id i (o0+d))):=by
            rw[ai];exact hp.drop (.inl ⟨id,i,o0+d,rfl,hidl⟩)
           have aj:Keep' ow os (rlb ow q (L++[i,o0+d])) (os.set q (.sub id i (o0+d))):=⟨by simp,fun j hj L' hl=>by
            rcases loP_seal hq X hL ab 6 j L' hl with⟨t,A,rfl⟩|⟨A,h2⟩
            . refine⟨_,A,fun c=>⟨(by grind),fun hc=>?_⟩⟩
              rcases(C c _).1 hc with⟨t',h2,B⟩|⟨h2,_⟩
              . grind[zql]
              . exact absurd h2 (G c t)
            . refine⟨_,A,fun c=>⟨fun hc=>(C c _).2 (.inr ⟨hc,h2⟩),fun hc=>?_⟩⟩
              rcases(C c _).1 hc with⟨t',B,Q⟩|⟨B,_⟩
              . exact absurd ⟨o0+d,zqt _,by simp,t',Q⟩ (hal j L' A)
              . exact B⟩
           have hcell:CR Z (rlb ow q (L++[i,o0+d])) h (L++[i,o0+d]) a (ownd 0 sz es):=by
            have ae:∀id' t,rlb ow q (L++[i,o0+d]) id'=zs (L++[i,o0+d]++t)↔clr ow (AtC L i o0 d) id'=zs ([q]++t):=fun id' t=>by
             rw[C,clr_some]
             constructor
             . rintro (⟨t',A,h2⟩|⟨A,_⟩)
               . have:=zql h2;subst this
                 exact ⟨A,fun J=>by
                  obtain⟨u,V⟩:=Mw J;rw[aa]at V;simp at V;exact ak V.1⟩
               . exact absurd A (G id' t)
             grind
            have ar:a=xq\/(es=[]/\(a=.nilsl\/a=.nilsl)/\uU (clr ow (AtC L i o0 d)) [q]):=by
             rcases al.inv with⟨_,h2,B,Q⟩|⟨cid,ces,rfl,A,_⟩
             . refine .inr ⟨h2,?_,Q⟩
               generalize hy:AV.msl q 0 m sz=y at Y;cases Y with
               |fz f=>cases f<;>cases hy
               |mnil e _ _=>exact e
               |msl h5 h6=>
                cases hy
                have:=h5 [q] (by grind[loP])
                exact absurd (clr_some.2 ⟨this,fun J=>by
                 obtain⟨u,V⟩:=Mw J;grind⟩) (Q _ [])
               |_=>cases hy
             . generalize hy:AV.msl q 0 m sz=y at Y
               cases Y with
               |fz f=>cases f<;>cases hy
               |mnil _ h5 _=>
                grind[loP,clr_some]
               |msl h5 h6=>
                cases hy;have h7:=h5 [q] (by grind[loP])
                have:=hinj _ _ _ h7 (clr_some.1 A).1
                subst this
                left;rw[hm];rfl
               |_=>cases hy
            rcases ar with rfl|⟨h2,B,Q⟩
            . exact al.reloc (zqt _) (fun _ hz=>⟨hz,rfl⟩) ae (fun _ _ _=>rfl)
            . subst h2
              exact .nil B fun c t hc=>Q c t ((ae c t).1 hc)
           have q1:∀a b M,rlb ow q (L++[i,o0+d]) a=zs M->rlb ow q (L++[i,o0+d]) b=zs M->a=b:=fun a b M ha hb=>by
            rcases(C _ _).1 ha with⟨t,A,rfl⟩|⟨A,h2⟩
            . rcases(C _ _).1 hb with⟨t',B,Q⟩|⟨B,_⟩
              . grind[zql]
              . exact absurd B (G _ _)
            . rcases(C _ _).1 hb with⟨t',B,rfl⟩|⟨B,_⟩
              . exact absurd A (G _ _)
              grind
           have q2:∀a M,rlb ow q (L++[i,o0+d]) a=zs M->a<h.next/\¬Z a:=(by grind)
           have q3:∀a M,rlb ow q (L++[i,o0+d]) a=zs M->M≠[]:=(by grind)
           have q4:∀n H,loP (os.set q (.sub id i (o0+d))) n id=zs H->H=L:=fun n H hl=>by
            rcases loP_seal hq X hL ab n id H hl with⟨t,A,_⟩|⟨A,_⟩
            . grind
            grind
           have q5:∀j H,loP (os.set q (.sub id i (o0+d))) 6 j=zs H->¬AtC L i (o0+(d+1)) ys.length H:=fun j H hl=>by
            rcases loP_seal hq X hL ab 6 j H hl with⟨t,A,rfl⟩|⟨A,_⟩
            . intro J;have:=Ge J;omega
            grind
           have q6:∀j,j<ys.length->uU (rlb ow q (L++[i,o0+d])) (L++[i,o0+(d+1)+j]):=fun j hj c t hc=>by
            rcases(C _ _).1 hc with⟨t',_,h2⟩|⟨h2,_⟩
            . grind[zql]
            . exact ad j hj c t h2
           obtain⟨owf,g⟩:=Wj aa ys xs p.1 (d+1) (os.set q (.sub id i (o0+d))) p.2 (rlb ow q (L++[i,o0+d])) (by omega) aq q1 q2 q3 q4 (by grind) q5 q6 (ag.keep (fun _ hz=>⟨hz,rfl⟩) aj);have N:∀M,¬AtC L i (o0+d) (xs.length+1) M->¬AtC L i (o0+(d+1)) xs.length M/\¬Und (L++[i,o0+d]) M:=fun M U=>⟨fun⟨o,A,h2,B⟩=>U ⟨o,by omega,by omega,B⟩,fun h=>U ⟨o0+d,by omega,by omega,h⟩⟩
           have ac:CR Z owf h (L++[i,o0+d]) a (ownd 0 sz es):=by
            refine hcell.reloc (zqt _) (fun _ hz=>⟨hz,rfl⟩) (fun id' t=>?_) (fun _ _ _=>rfl);exact g.at_ id' _ ⟨[i,o0+d]++t,by simp⟩ fun J=>by have:=Ge J;omega
           refine⟨owf,?_,g.inj,g.live,aj.trans g.keep,by simp[g.len],fun j a' b' ha hb=>?_,fun id' M V U=>?_,fun id' M A U=>?_,fun id' q' t A h2=>?_,fun id'=>?_,fun j hj=>?_,fun j hj=>?_,fun j hj=>?_,by rw[g.ne];simp⟩
           . have:=g.pt
             grind
           . cases j with
             |zero=>cases ha;cases hb;exact⟨ac,rfl,We _ _ _⟩
             |succ j=>
              have:=g.cr j a' b' ha hb
              grind
           . obtain ⟨A,h2⟩:=N M U
             rw[g.at_ id' M V A,C];obtain⟨u,V⟩:=V
             constructor
             . rintro(⟨t,_,Q⟩|⟨B,_⟩)
               . exact absurd ⟨t,Q⟩ h2
               . exact B
             grind
           . obtain⟨h2,B⟩:=N M U
             rcases(C _ _).1 (g.no id' M A h2)with⟨t,_,Q⟩|⟨Q,_⟩
             . exact absurd ⟨t,Q⟩ B
             . exact Q
           . exact g.lo id' q' t (by grind) h2
           . rw [g.sm id']
             constructor
             . intro A
               cases e:ow id' with
               |none=>rfl
               |some M=>
                by_cases U:∃t,M=q::t
                . obtain⟨t,rfl⟩:=U
                  rw[(C id' _).2 (.inl ⟨t,e,rfl⟩)]at A;cases A
                grind
             grind[rlb]
           . rw[g.rt j hj,zqc,if_neg (by omega)]
           . have:=g.rt' j hj
             unfold isRt at this|-;grind
           . have hqj:q≠j:=(by grind)
             have:(os.set q (.sub id i (o0+d)))[j]?=os[j]?:=by grind
             rw[g.oth j (by grind),this]
        . cases hs
      |_=>cases hs
   |_=>cases hs
end
section
variable {E:Env}{R:AV->AV->Prop}{Z Z':Nat->Prop}{ow ow':Nat->Option (List Nat)}{h h':Heap}{K K':PK}{os os':List PO}{x y:AV}{L M:List Nat}
theorem Ha{id k sz:Nat}{es:List AV}(B:rowOf os 6 id=zs (k,es,sz))(A:rawAt os id=zt):os[id]?=zs (.row k es sz)/\k≠0:=by
 unfold rowOf at B;unfold rawAt at A;grind
theorem PT.rawset(s:PT R Z ow h os){id k sz i off c:Nat}{es ces ncs A:List AV}{a e:AV}(hr:os[id]?=zs (.row k es sz))(hk:k≠0)(g:RawR R ow h id es sz c ces)(ha:ces[i]?=zs a)(he:es[i]?=zs e)(hf:off+A.length<=sz)(hl:ncs.length=A.length)(hn:0<A.length)(h1:∀c∈ncs,isAg c=zf)(h2:∀c∈A,Eh c=zt)
 (hR:∀(o:Nat) u w,ncs[o]?=zs u->A[o]?=zs w->R u w):PT R Z ow (h.set c (.row (ces.set i (a.withCells off ncs)) sz)) (os.set id (.row k (es.set i (e.withCells off A)) sz)):=by
 have hlt:id<os.length:=(zqb.1 hr).1;have J:∀r t d,r≠id->ow d=zs (r::t)->(h.set c (.row (ces.set i (a.withCells off ncs)) sz)).get d=h.get d:=fun r t d G ho=>Heap.get_set_ne _ _ fun e=>by
  subst e;rw[g.o]at ho;grind
 have hz:∀d,Z d->Z d/\(h.set c (.row (ces.set i (a.withCells off ncs)) sz)).get d=h.get d:=fun d hd=>⟨hd,Heap.get_set_ne _ _ fun e=>by subst e;exact(s.live _ _ g.o).2.1 hd⟩
 have U:∀{r:Nat}{e':PO},(os.set id (.row k (es.set i (e.withCells off A)) sz))[r]?=zs e'->(r≠id/\os[r]?=zs e')\/(r=id/\e'=.row k (es.set i (e.withCells off A)) sz):=(by grind)
 have Y:∀c∈A,isAg c=zf:=fun c hc=>EB (h2 c hc)
 refine⟨fun r H V X=>?_,fun r k1 H V X G=>?_,fun r H X=>?_,s.inj,fun d M hd=>?_,s.zb,fun j p q o X=>?_⟩
 . rcases U X with⟨G,C⟩|⟨_,C⟩
   . obtain⟨x,hx⟩:=s.row r H V C
     exact⟨x,hx.reloc (zqt _) hz (fun _ _=>.rfl) (fun d t hd=>J r t d G hd)⟩
   grind
 . rcases U X with⟨aa,C⟩|⟨rfl,C⟩
   . obtain⟨c1,N,B⟩:=s.raw r k1 H V C G
     exact⟨c1,N,B.o,B.lt,(J r [] c1 aa B.o).trans B.get,B.sh,B.vr,B.okp,B.no⟩
   . cases C
     refine⟨c,_,g.o,g.lt,Heap.get_set_eq _ _ g.get,g.sh.set ha he hf hl hn h1 Y,aL (R:=fun _ _ u w=>R u w) g.sh ha he hf hl hn h1 Y (fun j x y hx Q o u w _ hu hw=>g.vr j x y hx Q o u w hu hw) hR,fun j y Q b hb=>?_,g.no⟩;rw[zqc]at Q;by_cases ej:i=j
     . subst ej
       rw[if_pos rfl,if_pos (zqb.1 he).1]at Q;cases Q;have h0:=g.sh.2 i a e ha he;rw[(Q1 (by omega) hn Y).1]at hb;unfold lsplice at hb;rcases zqo.1 hb with hb|hb
       . exact g.okp i e he b (List.mem_of_mem_take hb)
       . rcases zqo.1 hb with hb|hb
         . grind
         . exact g.okp i e he b (List.mem_of_mem_drop hb)
     . rw[if_neg ej]at Q;exact g.okp j y Q b hb
 . rcases U X with⟨G,C⟩|⟨_,C⟩
   . obtain⟨c1,N,B⟩:=s.map r H C
     exact⟨c1,N,B.o,B.lt,(J r [] c1 G B.o).trans B.get,B.len,fun i x y hx Q=>⟨(B.kv i x y hx Q).1,(B.kv i x y hx Q).2.mono hz⟩,B.no⟩
   . cases C
 . obtain⟨C,h4,r,t,h5,h6⟩:=s.live d M hd
   exact⟨C,h4,r,t,h5,by grind[isRt_set]⟩
 . rw[zqg]
   rcases U X with⟨_,C⟩|⟨_,C⟩
   . exact s.sb j p q o C
   . cases C
theorem Yl{α:Type}{l us vs:List α}{p:Nat}(h:p+us.length<=l.length)(e:us.length=vs.length):lsplice (lsplice l p us) p vs=lsplice l p vs:=by
 apply List.ext_getElem?;grind[j2,S6]
theorem Qy{v:AV}{off:Nat}{us vs:List AV}(h:off+us.length<=v.cells.length)(e:us.length=vs.length)(A:∀c∈us,isAg c=zf):(v.withCells off us).withCells off vs=v.withCells off vs:=by
 cases v with
 |agg cs=>
  show AV.agg (O4 (O4 cs off us) off vs)=.agg (O4 cs off vs)
  rw[U1,U1,U1,Yl (l:=cs) h e]
 |_=>
  cases us with
  |nil=>
   cases vs with
   |nil=>rfl
   |cons=>simp at e
  |cons u us=>
   cases vs with
   |nil=>simp at e
   |cons v vs=>
    cases us with
    |nil=>
     cases vs with
     |nil=>
      have:=A u (zqh ..)
      show AV.withCells u off [v]=v
      cases u<;>first|rfl|cases this
     |cons=>simp at e
    |cons=>cases vs<;>first|rfl|(simp at e)
theorem zY{P:List Nat->Prop}(hP:∀M,¬P M):clr ow P=ow:=by
 grind[clr]
theorem Gf{i off n:Nat}:¬AtC L i off n L:=fun⟨o,_,_,u,A⟩=>by have:=congrArg zqp A;simp at this
theorem Wl:∀(n id:Nat)(es':List AV)(os':List PO),setRow os n id es'=zs os'->∃k es sz,rowOf os n id=zs (k,es,sz)
 |0,_,_,_,e=>by cases e
 |n + 1,id,es',os',e=>by
  unfold setRow at e;unfold rowOf;cases A:os[id]? with
  |none=>grind
  |some q=>
   rw[A]at e;cases q with
   |row k es sz=>grind
   |sub p i o=>
    simp only at e|-;cases hp:rowOf os n p with
    |none=>grind
    |some t=>
     grind
   |_=>cases e
theorem Wm:∀(n id:Nat)(t:Nat×List AV×Nat),rowOf os n id=zs t->rowOf os (n+1) id=zs t
 |0,_,_,e=>by cases e
 |n + 1,id,t,e=>by
  unfold rowOf at e|-;cases B:os[id]? with
  |none=>grind
  |some q=>
   rw[B]at e;cases q with
   |sub p i o=>
    simp only at e|-;cases A:rowOf os n p with
    |none=>grind
    |some u=>rw[A]at e;rw[Wm n p u A];exact e
   |dead=>cases e
   |_=>exact e
theorem Wn(w:Wk os os'):∀(n id:Nat)(t:Nat×List AV×Nat),rowOf os' n id=zs t->rowOf os n id=zs t
 |0,_,_,e=>by cases e
 |n + 1,id,t,e=>by
  unfold rowOf at e|-;rcases w.2 id with e1|⟨p,i,o,e1,e2⟩
  . rw [e1]at e
    cases B:os[id]? with
    |none=>grind
    |some q=>
     rw[B]at e;cases q with
     |sub p i o=>
      simp only at e|-;cases A:rowOf os' n p with
      |none=>grind
      |some u=>rw[A]at e;rw[Wn w n p u A];exact e
     |dead=>cases e
     |_=>exact e
  grind
theorem Wo{q:Nat}{e:PO}:∀(n id:Nat),rootOf os n id≠q->(∀p i o,os[q]?≠zs (.sub p i o))->rootOf (os.set q e) n id=rootOf os n id
 |0,_,_,_=>rfl
 |n + 1,id,hne,hq=>by
  unfold rootOf;rw[zqc];by_cases hid:q=id
  . subst hid
    unfold rootOf at hne;grind
  . rw [if_neg hid]
    unfold rootOf at hne;cases B:os[id]? with
    |none=>rfl
    |some A=>
     rw[B]at hne;cases A with
     |sub p i o=>simp only at hne|-;rw[Wo n p hne hq]
     |_=>rfl
theorem sealC_row{ext r id i j:Nat}:∀(ys cs:List AV)(o:Nat)(os os':List PO),sealC ext r id i o os ys=zs (cs,os')->rootOf os 6 j=r->rowOf os' 6 j=rowOf os 6 j/\rootOf os' 6 j=r/\rawAt os' j=rawAt os j
 |[],cs,o,os,os',hs,hr=>by cases hs;grind
 |c :: ys,cs,o,os,os',hs,hr=>by
  unfold sealC at hs;cases hc:clo c with
  |true=>
   rw[hc]at hs;simp only at hs;cases B:sealC ext r id i (o+1) os ys with
   |none=>grind
   |some p=>rw[B]at hs;cases hs;exact sealC_row ys p.1 (o+1) os p.2 B hr
  |false=>
   rw[hc]at hs;simp only at hs;cases c with
   |msl q off m sz=>
    cases off with
    |succ off=>cases hs
    |zero=>
     simp only at hs;cases B:os[q]? with
     |none=>grind
     |some e=>
      rw[B]at hs;cases e with
      |row k es z=>
       cases k with
       |succ k=>cases hs
       |zero=>
        simp only at hs;split at hs
        . rename_i hcond
          cases A:sealC ext r id i (o+1) (os.set q (.sub id i o)) ys with
          |none=>grind
          |some p=>
           rw[A]at hs;cases hs;have C:rootOf os 6 j≠q:=by grind
           have G:∀p i o,os[q]?≠zs (.sub p i o):=fun p i o e=>by grind
           have hqj:q≠j:=(by grind[Go.AM.rootOf])
           obtain⟨h1,h2,h3⟩:=sealC_row ys p.1 (o+1) _ p.2 A ((Wo 6 j C G).trans hr);simp_all[rawAt,aN]
        . cases hs
      |_=>cases hs
   |_=>cases hs
theorem uD{r k sz A:Nat}{es es':List AV}(hr:os[r]?=zs (.row k es sz))(id:Nat):rawAt (os.set r (.row k es' A)) id=rawAt os id:=by
 unfold rawAt;grind
theorem Kd:∀(n id:Nat)(es':List AV)(os':List PO),setRow os n id es'=zs os'->∃r k es sz A,os[r]?=zs (.row k es sz)/\os'=os.set r (.row k A sz):=(by grind[Go.AM.setRow_eq])
theorem aO(s:G2 Z ow h K.os){t:TI}{p pc xc:AV}(hp:VR Z ow h K.os pc p)(hx:VR Z ow h K.os xc x)(B:storeP t p x K=zs K'):
 ∃h' ow',Cw t pc xc h=zs h'/\G2 Z ow' h' K'.os/\Keep' ow K.os ow' K'.os/\(∀b,Stp b Z ow h K Z ow' h' K'):=by
 cases p with
 |ptr id i off=>
  unfold storeP at B;simp only at B;cases hr:rowOf K.os 6 id with
  |none=>rw[hr]at B;cases B
  |some q=>
   obtain⟨k,es,sz⟩:=q;rw[hr]at B;simp only at B;cases hi:es[i]? with
   |none=>rw[hi]at B;cases B
   |some e=>
    rw[hi]at B;simp only at B;split at B
    . rename_i hc
      obtain ⟨au,bb,br⟩:=hc;obtain⟨L,an,ad⟩:=s.get 6 id k es sz hr;obtain⟨c,rfl,U,bt⟩:∃c,pc=.ptr c i off/\ow c=zs L/\id<K.os.length:=by
       cases hp with
       |fz f=>cases f
       |ptr a b=>exact⟨_,rfl,a L an,b⟩
      obtain⟨tl,av,aw,_⟩:=J8 6 id L an;have Q:∀ob d,Z d->Z d/\(h.set c ob).get d=h.get d:=fun ob d A=>⟨A,Heap.get_set_ne _ _ fun e=>by subst e;exact(s.live _ _ U).2.1 A⟩
      cases J:rawAt K.os id with
      |true=>
       rw[J]at B;simp only at B;split at B
       . rename_i ap
         cases B;rw[zqf]at ap;have aa:x≠.und:=fun e=>by subst e;exact absurd (ap .und (zqh ..)) (by decide)
         have ab:=hx.cells aa;have a4:=hx.shape aa;rcases ad with⟨_,rfl,c0,ces,g⟩|⟨h1,_⟩
         . have:c=c0:=s.inj _ _ _ U g.o
           subst this;obtain⟨bc,hk⟩:=Ha hr J;have a5:i<ces.length:=by rw[g.sh.1];exact(zqb.1 hi).1
           have ha:=zqd a5;have ae:∀d∈xc.cells,okCell d=zt:=fun d A=>by
            obtain⟨j,Y⟩:=zqi A;have ac:j<x.cells.length:=by rw[<-ab.1];exact(zqb.1 Y).1
            exact(ab.2 j d _ Y (zqd ac)).okc (ap _ (List.getElem_mem ac))
           have ak:Keep' ow K.os ow (K.os.set id (.row k (es.set i (e.withCells off x.cells)) sz)):=⟨by simp,fun j _ L' hl=>⟨L',by rw[Be bc]at hl;exact hl,fun _=>.rfl⟩⟩
           refine⟨_,ow,store_g g.get ha (a4.1.trans au) bb br ae,G2.to (s.rawset bc hk g ha hi (by omega) (a4.1) (by omega) (fun d A=>okCell_nag (ae d A)) ap (fun o u w X N=>ab.2 o u w X N)) (Q _) ak,ak,fun b=>?_⟩;have bx:=Stp.store (b:=b) (ow':=ow) (os1:=K.os.set id (.row k (es.set i (e.withCells off x.cells)) sz)) (ob:=.row (ces.set i (ces[i].withCells off xc.cells)) sz) s (r:=id) (t:=[]) (c:=c) U (by have e:=(List.cons.inj av).1;rw[<-e]at aw;exact aw) (fun d M A _ e=>by rw[A]at e;cases e) (fun d q t ho _=>.inl ⟨t,ho⟩) (fun j _ c _=>.rfl) (fun j _ Y=>by rw[isRt_set bc]at Y;exact Y);exact bx
         . rw[J]at h1;cases h1
       . cases B
      |false=>
       rw[J]at B;simp only at B;rcases ad with⟨h1,_⟩|⟨_,x0,ad⟩
       . rw[J]at h1;cases h1
       rcases ad.inv with⟨_,e2,_⟩|⟨c0,ces,_,h1,h2,h3,bf,b7,h5⟩
       . subst e2;simp at hi
       have:c=c0:=s.inj _ _ _ U h1
       subst this;have a5:i<ces.length:=by rw[bf.1];grind
       have ha:=zqd a5;have a4:=bf.2 i _ e ha hi;split at B
       . -- nothing that leads anywhere
         rename_i aj;rw[Bool.and_eq_true,zqf,zqf]at aj;obtain⟨ag,bu⟩:=aj;cases H:setRow K.os 6 id (es.set i (e.withCells off x.cells))with
         |none=>grind
         |some os2=>
          rw[H]at B;cases B;have aa:x≠.und:=fun e=>by subst e;exact absurd (ag .und (zqh ..)) (by decide)
          have ab:=hx.cells aa;have aq:=hx.shape aa;have ae:∀d∈xc.cells,okCell d=zt:=fun d A=>by
           obtain⟨j,Y⟩:=zqi A;have ac:j<x.cells.length:=by grind
           exact(ab.2 j d _ Y (zqd ac)).okc (by grind[Go.AM.clo_okP])
          have d:Dl Z ow h Z ow (h.set c (.row (ces.set i (ces[i].withCells off xc.cells)) sz)) L:=⟨zqt _,Q _,fun _ _ _=>.rfl,fun d M A hM=>Heap.get_set_ne _ _ fun e=>by subst e;rw[U]at A;cases A;exact hM (.refl _)⟩
          obtain⟨r,k0,es0,sz0,es0',bd,hos,_⟩:=setRow_eq _ _ _ _ H;have ak:Keep' ow K.os ow os2:=⟨by grind,fun j _ L' hl=>⟨L',by grind[Be],fun _=>.rfl⟩⟩
          refine⟨_,ow,(by grind[Go.AM.store_g]),G2.to (s.set d s.inj s.live s.zb (fun _ _ _ _ _ _ hi=>hi) 6 id k es sz _ os2 L [] (by simp) hr an J H fun x1 a0=>?_) (Q _) ak,ak,fun b=>Stp.store s (r:=rootOf K.os 6 id) (t:=tl) (c:=c) (by grind) aw (by grind) (fun d q t ho _=>.inl ⟨t,ho⟩) (fun j _ c _=>.rfl) (by grind[Go.AM.isRt_set])⟩;rcases a0.inv with⟨_,e2,_⟩|⟨c1,bw,rfl,g1,g2,g3,g4,g5,g6⟩
          . grind
          . have:c=c1:=s.inj _ _ _ U g1
            subst this;rw[h3]at g3;cases g3;have hreloc:∀M u w,(∀q,M++q≠L)->CR Z ow h M u w->CR Z ow (h.set c (.row (ces.set i (ces[i].withCells off xc.cells)) sz)) M u w:=fun M u w hM hc=>hc.reloc (zqt _) (Q _) (fun _ _=>.rfl) (fun d q A=>Heap.get_set_ne _ _ (by grind))
            have ax:∀(j o:Nat)(q:List Nat),L++[j,o]++q≠L:=(by simp_all)
            refine CR.cells (a:=ces[i]) (ncs:=xc.cells) U h2 (Heap.get_set_eq _ _ h3) bf ha hi (by omega) aq.1 (by omega) (fun d A=>okCell_nag (ae d A)) (fun d A=>qU (ag d A)) b7 (by simp_all) (fun o u w X N=>?_);have hol:o<x.cells.length:=(zqb.1 N).1;refine .val (((ab.2 o u w X N).fzc (ag w (zqe N))).mono (Q _)) (ag w (zqe N)) ?_;have bz:off+o<e.cells.length:=by omega
            have b1:off+o<ces[i].cells.length:=by omega
            have hold:=h5 i _ e ha hi (off+o) _ _ (zqd b1) (zqd bz);have ay:clo (e.cells[off+o])=zt:=bu _ (zqe (i:=o) (by simp_all));generalize e.cells[off+o]=w' at hold ay;generalize (ces[i]).cells[off+o]=u' at hold;cases hold with
            |val _ _ n=>exact n
            |_=>cases ay
       . -- the cells take in what is theirs
         cases V:setRow (killP K.os (rootOf K.os 6 id) (chainOf K.os 6 id)) 6 id (es.set i (e.withCells off (zqa t.size .und)))with
         |none=>grind
         |some ai=>
          rw[V]at B;simp only at B;cases G:sealC K.ext (rootOf K.os 6 id) id i off ai x.cells with
          |none=>grind
          |some q=>
           obtain⟨cs,os1⟩:=q;rw[G]at B;simp only at B;cases H:setRow os1 6 id (es.set i (e.withCells off cs))with
           |none=>rw[H]at B;cases B
           |some os2=>
            rw [H]at B;cases B;have hlen:x.cells.length=t.size:=au;have aa:x≠.und:=fun e=>by
             subst e;unfold sealC at G;cases G
            have ab:=hx.cells aa;have aq:=hx.shape aa;have N:=Mr K.os (rootOf K.os 6 id) (chainOf K.os 6 id);obtain⟨k',es',sz',be⟩:=Wl _ _ _ _ V
            have:=Wn N 6 id _ be
            rw[hr]at this;cases this;have s1:=s.wk N;have a6:rawAt (killP K.os (rootOf K.os 6 id) (chainOf K.os 6 id)) id=zf:=(N.raw id).trans J;obtain⟨Lk,ao,_⟩:=s1.get 6 id k es sz be
            have:=N.lo 6 id Lk ao
            rw[an]at this;cases this;have ar:∀j L1,loP (killP K.os (rootOf K.os 6 id) (chainOf K.os 6 id)) 6 j=zs L1->¬AtC L i off t.size L1:=fun j L1 h1 ⟨o,_,_,X⟩=>kill_alive an h1 (by simp) X
            obtain⟨s2,k2,n2⟩:=s1.forget be a6 ao hi br bb ar V;obtain⟨r0,kr0,er0,sr0,er0',bd,ah⟩:=Kd _ _ _ _ V;have bg:∀n j,loP ai n j=loP (killP K.os (rootOf K.os 6 id) (chainOf K.os 6 id)) n j:=fun n j=>by rw[ah,Be bd]
            have bh:VL Z (clr ow (AtC L i off t.size)) h ai xc.cells x.cells:=ab.keep (fun _ hz=>⟨hz,rfl⟩) (N.keep.trans k2);have az:rootOf ai 6 id=rootOf K.os 6 id:=by
             obtain⟨t1,h1,_⟩:=J8 6 id L ((bg 6 id).trans ao);rw[av]at h1;exact(List.cons.inj h1).1.symm
            obtain ⟨owf,g⟩:=Wj (R:=VR Z ow h K.os) (Z:=Z) (h:=h) (o0:=off) av x.cells xc.cells cs 0 ai os1 (clr ow (AtC L i off t.size)) G (by rw[zY (fun M ⟨o,h1,h2,_⟩=>by omega)];exact s2) s2.inj (fun a M ha=>⟨(s2.live a M ha).1,(s2.live a M ha).2.1⟩) (fun a M ha e=>by obtain⟨_,_,r,t,h,_⟩:=s2.live a M ha;grind) (by grind[Go.AM.loP_uniq]) (by rw[ah,zqg,N.1];exact bt) (by grind) (fun j Y=>n2 j (by omega)) bh;have bi:∀d∈xc.cells,okCell d=zt:=fun d A=>by
             obtain⟨j,Y⟩:=zqi A;have ac:j<cs.length:=by rw[g.len];grind
             obtain⟨ad,_,b5⟩:=g.cr j d _ Y (zqd ac);generalize cs[j]=b at ad b5;cases ad with
             |val f e _=>exact f.okc e
             |und=>grind
             |nil e _=>rcases e with rfl|rfl<;>rfl
             |own=>unfold refK;split<;>rfl
            have bj:cs.length=t.size:=by rw[g.len,aq.1,au]
            have bk:∀d∈cs,isAg d=zf:=fun d A=>by
             obtain⟨j,Y⟩:=zqi A;have ac:j<xc.cells.length:=by grind
             exact(g.cr j _ d (zqd ac) Y).2.1
            have bm:rowOf os1 6 id=zs (k,es.set i (e.withCells off (zqa t.size .und)),sz):=by
             rw[(sealC_row _ _ _ _ _ G az).1];grind[Mv]
            have a7:rawAt ai id=zf:=by grind[uD]
            have a9:rawAt os1 id=zf:=(sealC_row _ _ _ _ _ G az).2.2.trans a7;have hA:∀M,¬Und L M->¬AtC L i off t.size M:=fun M hM ha=>hM (Mw ha)
            have bn:xc.cells.length=t.size:=aq.1.trans au;have al:=g.pt;rw[zqz,bn]at al;have bo:loP os1 6 id=zs L:=by
             obtain ⟨L1,h6,_⟩:=al.get 6 id _ _ _ bm;have hle:L1=L:=by
              have:=g.keep.2 id (by rw[ah,zqg,N.1];exact bt) L1 h6
              obtain⟨L2,h7,h8⟩:=this;have h9:L2=L:=(by grind)
              subst h9;have aj:clr ow (AtC L2 i off t.size) c=zs L2:=clr_some.2 ⟨U,Gf⟩;have h10:=(h8 c).1 aj;have h11:owf c=zs L2:=(g.at_ c L2 (.refl _) Gf).2 aj;grind
             grind
            have am:owf c=zs L:=(g.at_ c L (.refl _) Gf).2 (clr_some.2 ⟨U,Gf⟩);have d:Dl Z (clr owf (AtC L i off t.size)) h Z owf (h.set c (.row (ces.set i (ces[i].withCells off xc.cells)) sz)) L:=⟨zqt _,Q _,(by grind[Go.AM.clr_some]),fun d M A hM=>Heap.get_set_ne _ _ fun e=>by
             subst e
             have:=(clr_some.1 A).1
             rw[am]at this;cases this;exact hM (.refl _)⟩
            have af:∀j,¬AtC L i off t.size [j]:=fun j ⟨o,_,_,u,X⟩=>by
             simp_all
            obtain ⟨r3,k3,e3,z3,e3',b6,bv⟩:=Kd _ _ _ _ H;have ba:∀a M,owf a=zs M->a<(h.set c (.row (ces.set i (ces[i].withCells off xc.cells)) sz)).next/\¬Z a/\∃r t,M=r::t/\isRt os1 r=zt:=fun a M ha=>by
             refine⟨(g.live a M ha).1,(g.live a M ha).2,?_⟩;by_cases C:AtC L i off t.size M
             . obtain⟨o,_,_,u,rfl⟩:=C
               obtain⟨_,_,r,t,h6,h7⟩:=al.live c L (clr_some.2 ⟨am,Gf⟩);grind
             . exact(al.live a M (clr_some.2 ⟨ha,C⟩)).2.2
            have b2:Keep' owf os1 owf os2:=⟨by grind,fun j _ L' hl=>⟨L',by grind[Be],fun _=>.rfl⟩⟩
            have bq:Keep' ow K.os owf os2:=((N.keep.trans k2).trans g.keep).trans b2;refine⟨_,owf,(by grind[Go.AM.store_g]),G2.to (al.set d g.inj ba s2.zb (fun M m z u0 hM hu0 hi=>?_) 6 id k _ sz _ os2 L [] (by simp) bm bo a9 H fun x1 a0=>?_) (Q _) bq,bq,fun b=>Stp.store s (r:=rootOf K.os 6 id) (t:=tl) (c:=c) (by grind) aw (fun d M A _=>?_) (fun d q u0 ho hq=>?_) (fun j Y c' _=>?_) (fun j _ Y=>?_)⟩
            . intro c' t' a1
              by_cases C:AtC L i off t.size (M++t')
              . obtain ⟨o,_,_,u,X⟩:=C
                rw[hM]at X
                have:t'=u0++([i,o]++u):=by
                 grind[zql]
                rcases hi c u0 (by grind[clr_some])with h|⟨i',o',q,h,h8,h9⟩
                . grind
                grind
              . exact hi c' t' (clr_some.2 ⟨a1,C⟩)
            . rcases a0.inv with⟨_,e2,_⟩|⟨c1,bw,rfl,g1,g2,g3,g4,g5,g6⟩
              . simp_all
              . have:c=c1:=g.inj _ _ _ am (clr_some.1 g1).1
                subst this;rw[h3]at g3;cases g3;have hil:=(zqb.1 hi).1;have w2:=Q1 (v:=e) (off:=off) (ncs:=zqa t.size .und) (by rw[zqk];omega) (by simpa using bb) nag_rep;have b3:(es.set i (e.withCells off (zqa t.size .und)))[i]?=zs (e.withCells off (zqa t.size .und)):=by grind
                have b4:es.set i (e.withCells off cs)=(es.set i (e.withCells off (zqa t.size .und))).set i ((e.withCells off (zqa t.size .und)).withCells off cs):=by
                 rw[List.set_set,Qy (by rw[zqk];omega) (by rw[zqk];exact bj.symm) nag_rep]
                rw[b4];have ax:∀(j o:Nat)(q:List Nat),L++[j,o]++q≠L:=(by simp_all)
                refine CR.cells (a:=ces[i]) (ncs:=xc.cells) am h2 (Heap.get_set_eq _ _ h3) g4 ha b3 (by omega) (by omega) (by omega) (fun d A=>okCell_nag (bi d A)) bk (fun c' t' a1=>?_) (fun j x y hx hy o u w hjo X N=>?_) (fun o u w X N=>?_)
                . by_cases C:AtC L i off t.size (L++t')
                  . obtain⟨o,ho1,ho2,u,X⟩:=C
                    grind[zql]
                  . exact g5 c' t' (clr_some.2 ⟨a1,C⟩)
                . refine (g6 j x y hx hy o u w X N).reloc (zqt _) (Q _) (fun d q=>?_) (fun d q A=>Heap.get_set_ne _ _ fun e=>?_)
                  . rw[clr_some]
                    exact⟨fun h=>⟨h,fun C=>by have:=Ge C;grind⟩,fun h=>h.1⟩
                  simp_all
                . refine(g.cr o u w X N).1.reloc (zqt _) (Q _) (fun _ _=>.rfl) (fun d q A=>Heap.get_set_ne _ _ fun e=>?_)
                  subst e;rw[am]at A;exact ax i _ q (Option.some.inj A).symm
            . intro e
              have:=(g.sm d).2 (by unfold clr;rw[e])
              rw[this]at A;cases A
            . by_cases C:AtC L i off t.size (q::u0)
              . right
                obtain⟨u,X⟩:=Mw C;rw[av]at X;simp at X;exact X.1
              . exact .inl ⟨_,g.lo d q _ (clr_some.2 ⟨ho,C⟩) hq⟩
            . constructor
              . exact fun h=>g.lo c' j [] (clr_some.2 ⟨h,af j⟩) Y
              . exact fun h=>(clr_some.1 (g.no c' [j] h (by rw[bn];exact af j))).1
            . rw[bv,isRt_set b6]at Y
              have:=g.rt' j Y
              rw[ah,isRt_set bd,N.rt]at this;exact this
    . cases B
 |_=>cases B
end
section
variable {E:Env}{R:AV->AV->Prop}{Z Z':Nat->Prop}{ow ow':Nat->Option (List Nat)}{h h':Heap}{K K':PK}{os os':List PO}{x y:AV}{L M:List Nat}
theorem PT.noHead(s:PT R Z ow h os)(d:Nat)(t:List Nat):ow d≠zs (os.length::t):=fun e=>by
 obtain⟨_,_,r,t',A,h2⟩:=s.live _ _ e;cases A;exact absurd (isRt_lt h2) (by omega)
theorem PT.new(s:PT R Z ow h os)(e:PO)(hn:h.next<=h'.next)(hZ:∀d,Z d->h'.get d=h.get d)(hg:∀d M,ow d=zs M->h'.get d=h.get d)(ho:∀d M,(∀t,M≠os.length::t)->(ow' d=zs M↔ow d=zs M))
 (hinj:∀a b t,ow' a=zs (os.length::t)->ow' b=zs (os.length::t)->a=b)(hlive:∀d t,ow' d=zs (os.length::t)->d<h'.next/\¬Z d)(hrt:isRt (os++[e]) os.length=zt)
 (h0:∀es sz,e=.row 0 es sz->∃x,CR Z ow' h' [os.length] x (ownd 0 sz es))(h1:∀k es sz,e=.row k es sz->k≠0->∃c ces,RawR R ow' h' os.length es sz c ces)(h2:∀es,e=.mapo es->∃c ces,MapR Z ow' h' os.length es c ces):PT R Z ow' h' (os++[e]):=by
 have A:∀{r:Nat}{N:PO},(os++[e])[r]?=zs N->(r<os.length/\os[r]?=zs N)\/(r=os.length/\N=e):=(by grind)
 have hz:∀d,Z d->Z d/\h'.get d=h.get d:=fun d G=>⟨G,hZ d G⟩
 have B:∀{r:Nat}(t t':List Nat),r<os.length->r::t≠os.length::t':=fun t t' hl e=>by grind
 refine⟨fun r es sz H=>?_,fun r k es sz H U=>?_,fun r es H=>?_,fun a b M ha hb=>?_,fun d M G=>?_,fun d G=>zqu (s.zb d G) hn,fun j p i o H=>?_⟩
 . rcases A H with⟨hl,C⟩|⟨rfl,rfl⟩
   . obtain⟨x,J⟩:=s.row r es sz C
     exact⟨x,J.reloc hn hz (by grind) (fun d t G=>hg d _ G)⟩
   grind
 . rcases A H with⟨hl,C⟩|⟨rfl,rfl⟩
   . obtain⟨c,ces,g⟩:=s.raw r k es sz C U
     exact⟨c,ces,(ho c _ fun t'=>B [] t' hl).2 g.o,zqu g.lt hn,(hg c _ g.o).trans g.get,g.sh,g.vr,g.okp,fun a t ha=>g.no a t ((ho a _ fun t'=>B t t' hl).1 ha)⟩
   grind
 . rcases A H with⟨hl,C⟩|⟨rfl,rfl⟩
   . obtain⟨c,ces,g⟩:=s.map r es C
     exact⟨c,ces,(ho c _ fun t'=>B [] t' hl).2 g.o,zqu g.lt hn,(hg c _ g.o).trans g.get,g.len,fun i x y J Q=>⟨(g.kv i x y J Q).1,(g.kv i x y J Q).2.mono hz⟩,fun a t ha=>g.no a t ((ho a _ fun t'=>B t t' hl).1 ha)⟩
   grind
 . by_cases V:∃t,M=os.length::t
   . grind
   . exact s.inj a b M (by grind) (by grind)
 . by_cases V:∃t,M=os.length::t
   . grind
   . obtain⟨C,h4,r,t,h5,h6⟩:=s.live d M (by grind)
     grind[Wh]
 . rw[zqq]
   rcases A H with⟨hl,C⟩|⟨rfl,rfl⟩
   . have:=s.sb j p i o C;omega
   grind[isRt]
theorem Wp(s:PT R Z ow h os){e:PO}(ho:∀d M,(∀t,M≠os.length::t)->(ow' d=zs M↔ow d=zs M)):Keep' ow os ow' (os++[e]):=
 Ms s.sb fun id hi L hl c=>(ho c L fun t e=>by
  obtain⟨t',A,h2,_⟩:=J8 _ _ _ hl;rw[A]at e;have h3:=isRt_lt h2;grind).symm
def j3(ow:Nat->Option (List Nat))(c:Nat)(L:List Nat):Nat->Option (List Nat):=fun d=>if d=c then zs L else ow d
theorem zZ(s:PT R Z ow h os){c:Nat}(hc:ow c=znq)(d:Nat)(M:List Nat)(hM:∀t,M≠os.length::t):j3 ow c [os.length] d=zs M↔ow d=zs M:=by
 unfold j3;grind
theorem own1_new(s:PT R Z ow h os){c d:Nat}{t:List Nat}:j3 ow c [os.length] d=zs (os.length::t)↔d=c/\t=[]:=by
 unfold j3;split
 . grind
 . rename_i e
   exact⟨fun h=>absurd h (s.noHead d t),fun h=>absurd h.1 e⟩
theorem PT.next_none(s:PT R Z ow h os):ow h.next=znq:=by
 cases e:ow h.next with
 |none=>rfl
 |some M=>exact absurd (s.live _ _ e).1 (by omega)
theorem PT.lay(s:PT R Z ow h os){e:PO}{ob:AObj}(B:isRt (os++[e]) os.length=zt)
 (h0:∀es sz,e=.row 0 es sz->∃x,CR Z (j3 ow h.next [os.length]) (h.push ob) [os.length] x (ownd 0 sz es))(h1:∀k es sz,e=.row k es sz->k≠0->∃c ces,RawR R (j3 ow h.next [os.length]) (h.push ob) os.length es sz c ces)(h2:∀es,e=.mapo es->∃c ces,MapR Z (j3 ow h.next [os.length]) (h.push ob) os.length es c ces):
 PT R Z (j3 ow h.next [os.length]) (h.push ob) (os++[e])/\Keep' ow os (j3 ow h.next [os.length]) (os++[e]):=by
 have hg:∀d,d<h.next->(h.push ob).get d=h.get d:=(by grind[Go.AM.Heap.get_push_ne])
 have ho:=zZ s s.next_none;exact⟨s.new e (zqw _) (fun d A=>hg d (s.zb d A)) (fun d M A=>hg d (s.live d M A).1) ho (by grind[Go.AM.own1_new]) (fun d t A=>by
  have:=((own1_new s).1 A).1
  subst this;exact⟨zqx _,fun hz=>absurd (s.zb _ hz) (by omega)⟩) B h0 h1 h2,Wp s ho⟩
theorem Stp.lay{b:Nat}{ob:AObj}{ps:List PO}(s:PT R Z ow h K.os)(hx:K.ext<=K.os.length):Stp b Z ow h K Z (j3 ow h.next [K.os.length]) (h.push ob) {K with os:=K.os++ps}:=by
 have hg:∀d,d<h.next->(h.push ob).get d=h.get d:=(by grind[Go.AM.Heap.get_push_ne])
 have hne:∀d M,ow d=zs M->d≠h.next:=fun d M A e=>by have:=(s.live d M A).1;omega
 refine⟨zqw _,fun d hz=>⟨hz,hg d (s.zb d hz)⟩,fun d hz=>.inl hz,fun d A _=>hg d A,fun d M A hl e=>?_,⟨[],rfl,fun d A=>by cases A⟩,fun d r t ho _=>.inl ⟨t,?_⟩,fun r B _=>B,rfl,fun j C c B=>?_,fun j C B=>?_⟩
 . simp_all[j3]
 . simp_all[j3]
 . unfold j3
   grind
 grind[isRt]
def KO(E:Env):Prop:=∀t ti,E.ti t=zs ti->(∀Z h,Fz Z h ti.zero ti.zero)/\ti.zero.cells.length=ti.size
theorem Ck(os:List PO){e:PO}(he:(∃k es sz,e=.row k es sz)\/∃es,e=.mapo es):isRt (os++[e]) os.length=zt:=by
 unfold isRt;grind
theorem Rw(h:Heap)(ob:AObj):(h.push ob).get h.next=zs ob:=Heap.get_push_eq h ob
theorem Mx(s:PT R Z ow h os)(a:Nat)(t:List Nat)(ha:j3 ow h.next [os.length] a=zs (os.length::t)):t=[]:=((own1_new s).1 ha).2
theorem U7(ow:Nat->Option (List Nat))(c:Nat)(L:List Nat):j3 ow c L c=zs L:=by unfold j3;grind
theorem Ol(os:List PO){e:PO}(he:(∃k es sz,e=.row k es sz)\/∃es,e=.mapo es):loP (os++[e]) 6 os.length=zs [os.length]:=by
 unfold loP;grind
theorem qV(s:G2 Z ow h K.os)(B:K.ext<=K.os.length){sz:Nat}{v vc:AV}(J:VR Z ow h K.os vc v)(hl:v.cells.length=sz)(ho:∀b∈v.cells,Eh b=zt):
 G2 Z (j3 ow h.next [K.os.length]) (h.push (.row [vc] sz)) (newRow 1 [v] sz K).os/\Keep' ow K.os (j3 ow h.next [K.os.length]) (newRow 1 [v] sz K).os/\VR Z (j3 ow h.next [K.os.length]) (h.push (.row [vc] sz)) (newRow 1 [v] sz K).os (.ptr h.next 0 0) (.ptr K.os.length 0 0)/\∀b,Stp b Z ow h K Z (j3 ow h.next [K.os.length]) (h.push (.row [vc] sz)) (newRow 1 [v] sz K):=by
 have C:v≠.und:=fun e=>by subst e;exact absurd (ho .und (zqh ..)) (by decide)
 have hsh:=J.shape C;have H:=J.cells C;have Q:(∃k es z,PO.row 1 [v] sz=.row k es z)\/∃es,PO.row 1 [v] sz=.mapo es:=.inl ⟨_,_,_,rfl⟩;have A:=PT.lay (ob:=.row [vc] sz) s (e:=.row 1 [v] sz) (Ck _ Q) (fun es z e=>by cases e) (fun k es z e hk=>by
  cases e;refine⟨h.next,[vc],U7 _ _ _,zqx _,Rw h _,⟨rfl,fun i x y B G=>?_⟩,fun i x y B G o a b ha hb=>?_,fun i y G b hb=>?_,Mx s⟩
  . grind
  . cases i with
    |zero=>cases B;cases G;exact H.2 o a b ha hb
    |succ i=>simp at B
  grind) (fun es e=>by cases e)
 refine⟨G2.to A.1 (fun d N=>⟨N,Heap.get_push_ne h _ (by have:=s.zb d N;omega)⟩) A.2,A.2,.ptr (fun L hL=>?_) (by show _<(K.os++[PO.row 1 [v] sz]).length;simp),fun b=>Stp.lay s B⟩;have hL:loP (K.os++[PO.row 1 [v] sz]) 6 K.os.length=zs L:=hL;grind[Ol,U7]
theorem jV(s:G2 Z ow h K.os)(B:K.ext<=K.os.length){sz n:Nat}{z:AV}(hz:∀Z h,Fz Z h z z)(hl:z.cells.length=sz):
 G2 Z (j3 ow h.next [K.os.length]) (h.push (.row (zqa n z) sz)) (newRow 0 (zqa n z) sz K).os/\Keep' ow K.os (j3 ow h.next [K.os.length]) (newRow 0 (zqa n z) sz K).os/\VR Z (j3 ow h.next [K.os.length]) (h.push (.row (zqa n z) sz)) (newRow 0 (zqa n z) sz K).os (.msl h.next 0 n sz) (.msl K.os.length 0 n sz)/\∀b,Stp b Z ow h K Z (j3 ow h.next [K.os.length]) (h.push (.row (zqa n z) sz)) (newRow 0 (zqa n z) sz K):=by
 have J:(∃k es C,PO.row 0 (zqa n z) sz=.row k es C)\/∃es,PO.row 0 (zqa n z) sz=.mapo es:=.inl ⟨_,_,_,rfl⟩;have hrep:∀{i:Nat}{x:AV},(zqa n z)[i]?=zs x->x=z:=(by grind)
 have A:=PT.lay (ob:=.row (zqa n z) sz) s (e:=.row 0 (zqa n z) sz) (Ck _ J) (fun es C e=>by
  cases e;refine⟨_,.own (k:=0) (U7 _ _ _) (zqx _) (Rw h _) rfl (fun c t hc=>.inl (Mx s c t hc)) (fun i x y B G=>?_) (fun i x y B G o a b ha hb=>?_)⟩
  . grind
  . rw [hrep B]at ha
    rw[hrep G]at hb
    have:=(hz Z (h.push (.row (zqa n z) sz))).cell ha hb
    exact .val this.1 this.2 fun c t hc=>by
     grind[Mx]) (by grind) (fun es e=>by cases e)
 refine⟨G2.to A.1 (fun d H=>⟨H,Heap.get_push_ne h _ (by have:=s.zb d H;omega)⟩) A.2,A.2,.msl (fun L hL=>?_) (by show _<(K.os++[PO.row 0 (zqa n z) sz]).length;simp),fun b=>Stp.lay s B⟩;have hL:loP (K.os++[PO.row 0 (zqa n z) sz]) 6 K.os.length=zs L:=hL;grind[Ol,U7]
theorem uE(s:G2 Z ow h K.os)(B:K.ext<=K.os.length):
 G2 Z (j3 ow h.next [K.os.length]) (h.push (.mapo [])) (K.os++[.mapo []])/\Keep' ow K.os (j3 ow h.next [K.os.length]) (K.os++[.mapo []])/\VR Z (j3 ow h.next [K.os.length]) (h.push (.mapo [])) (K.os++[.mapo []]) (.map h.next) (.map K.os.length)/\∀b,Stp b Z ow h K Z (j3 ow h.next [K.os.length]) (h.push (.mapo [])) {K with os:=K.os++[.mapo []]}:=by
 have H:(∃k es C,PO.mapo []=.row k es C)\/∃es,PO.mapo []=.mapo es:=.inr ⟨_,rfl⟩;have A:=PT.lay (ob:=.mapo []) s (e:=.mapo []) (Ck _ H) (fun es C e=>by cases e) (fun k es z e hk=>by cases e) (fun es e=>by
  cases e;exact⟨h.next,[],U7 _ _ _,zqx _,Rw h _,rfl,fun i x y B=>by simp at B,Mx s⟩)
 refine⟨G2.to A.1 (fun d G=>⟨G,Heap.get_push_ne h _ (by have:=s.zb d G;omega)⟩) A.2,A.2,.map (fun L hL=>?_) (by simp),fun b=>Stp.lay s B⟩;grind[Ol,U7]
end
section
variable {E:Env}{R:AV->AV->Prop}{Z Z':Nat->Prop}{ow ow' owk:Nat->Option (List Nat)}{h h':Heap}{K K':PK}{os os':List PO}{x y:AV}{L M:List Nat}
noncomputable def nF(ow:Nat->Option (List Nat))(Gn:List Nat->Prop)(G:Nat->Nat->List Nat)(N sz c n:Nat):Nat->Option (List Nat):=fun d=>open Classical in
 if d=c then zs [n]else match ow d with
 |none=>znq
 |some M=>if hx:∃p:Nat×Nat×List Nat,p.1<N/\p.2.1<sz/\M=G p.1 p.2.1++p.2.2 then zs (n::hx.choose.1::hx.choose.2.1::hx.choose.2.2)else if Gn M then znq else zs M
theorem Hb{Gn:List Nat->Prop}{G:Nat->Nat->List Nat}{N sz c n d:Nat}{M':List Nat}(X:∀i o t,i<N->o<sz->Gn (G i o++t))(Y:∀i o t i' o' t',i<N->o<sz->i'<N->o'<sz->G i o++t=G i' o'++t'->i=i'/\o=o'/\t=t'):
 nF ow Gn G N sz c n d=zs M'↔(d=c/\M'=[n])\/(d≠c/\∃i o t,i<N/\o<sz/\ow d=zs (G i o++t)/\M'=n::i::o::t)\/(d≠c/\ow d=zs M'/\¬Gn M'):=by
 unfold nF;by_cases U:d=c
 . grind
 . rw [if_neg U]
   cases e:ow d with
   |none=>
    grind
   |some M=>
    simp only;by_cases H:∃p:Nat×Nat×List Nat,p.1<N/\p.2.1<sz/\M=G p.1 p.2.1++p.2.2
    . rw [dif_pos H]
      have V:=H.choose_spec;generalize H.choose=p at V;obtain⟨J,h2,Q⟩:=V
      constructor
      . intro h;cases h
        exact .inr (.inl ⟨U,_,_,_,J,h2,by rw[Q],rfl⟩)
      . rintro (⟨h,_⟩|⟨_,i,o,t,A,B,C,rfl⟩|⟨_,A,B⟩)
        . exact absurd h U
        . have C:=Option.some.inj C
          rw[Q]at C;obtain⟨a,b,c⟩:=Y _ _ _ _ _ _ J h2 A B C;rw[a,b,c]
        . cases A
          exact absurd (by rw[Q];exact X _ _ _ J h2) B
    . rw [dif_neg H]
      by_cases hg:Gn M
      . rw [if_pos hg]
        constructor
        . intro h;cases h
        . rintro(⟨h,_⟩|⟨_,i,o,t,A,B,C,rfl⟩|⟨_,A,B⟩)
          . grind
          . simp_all
          grind
      grind
theorem PT.graft(s:PT R Z owk h os){Gn:List Nat->Prop}{G:Nat->Nat->List Nat}{sz c:Nat}{ces es:List AV}(J:∀d M,owk d=zs M↔ow d=zs M/\¬Gn M)(hinj:∀a b M,ow a=zs M->ow b=zs M->a=b)(hlive:∀a M,ow a=zs M->a<h.next/\¬Z a)
 (hG:∀i o t,i<es.length->o<sz->Gn (G i o++t))(hu:∀i o t i' o' t',i<es.length->o<sz->i'<es.length->o'<sz->G i o++t=G i' o'++t'->i=i'/\o=o'/\t=t')(hs:eS sz ces es)
 (hcr:∀(i:Nat) x y,ces[i]?=zs x->es[i]?=zs y->∀(o:Nat) a b,x.cells[o]?=zs a->y.cells[o]?=zs b->CR Z ow h (G i o) a b)(hn:h.next<=h'.next)(hZ:∀d,Z d->h'.get d=h.get d)(hc:c<h'.next)(hcz:¬Z c)(hget:h'.get c=zs (.row ces sz))(hoc:∀M,ow c=zs M->Gn M/\∀i o t,i<es.length->o<sz->M≠G i o++t)
 (hg:∀d M,ow d=zs M->(¬Gn M\/∃i o t,i<es.length/\o<sz/\M=G i o++t)->h'.get d=h.get d):
 PT R Z (nF ow Gn G es.length sz c os.length) h' (os++[.row 0 es sz])/\Keep' owk os (nF ow Gn G es.length sz c os.length) (os++[.row 0 es sz]):=by
 have gs:=fun d M'=>Hb (ow:=ow) (c:=c) (n:=os.length) (d:=d) (M':=M') hG hu
 have hz:∀d,Z d->Z d/\h'.get d=h.get d:=fun d A=>⟨A,hZ d A⟩
 have ho:∀d M,(∀t,M≠os.length::t)->(nF ow Gn G es.length sz c os.length d=zs M↔owk d=zs M):=(by grind)
 have hno:∀d t,ow d=zs (os.length::t)->Gn (os.length::t):=fun d t A=>Classical.byContradiction fun hg=>s.noHead d t ((J _ _).2 ⟨A,hg⟩)
 refine⟨s.new _ hn hZ (by grind) ho (fun a b t ha hb=>?_) (fun d t A=>?_) (Ck _ (.inl ⟨_,_,_,rfl⟩)) (fun es' sz' e=>?_) (by grind) (fun es' e=>by cases e),Wp s ho⟩
 . grind
 . grind
 . cases e
   have B:nF ow Gn G es.length sz c os.length c=zs [os.length]:=(gs c _).2 (.inl ⟨rfl,rfl⟩);refine⟨_,.own (k:=0) B hc hget hs.1 (fun d t A=>?_) hs.2 fun i x y H C o a b ha hb=>?_⟩
   . grind
   . have hi:i<es.length:=(zqb.1 C).1
     have hoo:o<sz:=by
      have:=(zqb.1 hb).1
      rw[(hs.2 i x y H C).2.1]at this;exact this
     refine(hcr i x y H C o a b ha hb).reloc hn hz (fun d q=>?_) (by grind);rw[gs];grind
end
section
variable {E:Env}{R:AV->AV->Prop}{Z Z':Nat->Prop}{ow ow' ow1:Nat->Option (List Nat)}{h h':Heap}{K K':PK}{os os' os1:List PO}{x y:AV}{L M:List Nat}
theorem jW{q:Nat}:∀(n j:Nat)(L:List Nat),loP (os.set q .dead) n j=zs L->loP os n j=zs L
 |0,_,_,e=>by cases e
 |n + 1,j,L,e=>by
  unfold loP at e|-;rw[zqc]at e;by_cases C:q=j
  . grind
  . rw [if_neg C]at e
    cases G:os[j]? with
    |none=>grind
    |some a=>
     rw[G]at e;cases a with
     |sub p i o=>
      simp only at e|-;cases A:loP (os.set q .dead) n p with
      |none=>grind
      |some B=>rw[A]at e;rw[jW n p B A];exact e
     |dead=>cases e
     |_=>exact e
theorem PT.giveup(s:PT R Z ow h os)(id:Nat):PT R Z (clr ow (Und [id])) h ((killP os id []).set id .dead)/\Keep' ow os (clr ow (Und [id])) ((killP os id []).set id .dead)/\
 (∀n j L,loP ((killP os id []).set id .dead) n j=zs L->loP os n j=zs L)/\(∀j,isRt ((killP os id []).set id .dead) j=zt->isRt os j=zt/\j≠id)/\((killP os id []).set id .dead).length=os.length/\∀j,j≠id->((killP os id []).set id .dead)[j]?=os[j]?\/∃p i o,os[j]?=zs (.sub p i o):=by
 have w:=Mr os id [];have B:∀n j L,loP ((killP os id []).set id .dead) n j=zs L->loP os n j=zs L:=fun n j L hl=>w.lo n j L (jW n j L hl)
 refine⟨(s.wk w).drop (.inr rfl),⟨by rw[zqg,w.1];grind,fun j A L' hl=>⟨L',B _ _ _ hl,fun c=>?_⟩⟩,B,fun j A=>?_,by rw[zqg,w.1],fun j A=>?_⟩
 . rw [clr_some]
   refine⟨fun h=>⟨h,fun⟨t,ht⟩=>?_⟩,fun h=>h.1⟩;have h2:=B _ _ _ hl;unfold loP at hl;rw[zqc]at hl;by_cases e:id=j
   . grind
   . rw [if_neg e]at hl
     cases C:(killP os id [])[j]? with
     |none=>grind
     |some a=>
      rw[C]at hl;cases a with
      |dead=>cases hl
      |sub p i o=>
       rcases killP_sub C with h|h
       . grind[J8]
       . cases h
      |_=>grind
 . unfold isRt at A
   rw[zqc]at A;by_cases e:id=j
   . grind
   . rw[if_neg e]at A
     exact⟨by rw[<-w.rt];exact A,fun G=>e G.symm⟩
 . rw[zqc,if_neg (fun e=>A e.symm)]
   rcases w.2 j with h|⟨p,i,o,h,_⟩
   . exact .inl h
   grind
structure TkB(R:AV->AV->Prop)(Z:Nat->Prop)(ow:Nat->Option (List Nat))(h:Heap)(os:List PO)(te:TI)(sc s:AV)(base:List AV)(os1:List PO)(tc:List Nat)(ow1:Nat->Option (List Nat)):Prop where
 pt:PT R Z ow1 h os1
 keep:Keep' ow os ow1 os1
 len:os1.length=os.length
 rt:∀j,isRt os1 j=zt->isRt os j=zt
 sb:∀d M,ow1 d=zs M->ow d=zs M
 tcr:∀d r t,ow d=zs (r::t)->ow1 d=zs (r::t)\/r∈tc
 lo:∀n j L,loP os1 n j=zs L->loP os n j=zs L
 rd:∀j,isRt os1 j=zt->∀d,ow d=zs [j]->ow1 d=zs [j]
 alt:((sc=.nilsl\/sc=.nilsl)/\base=[]/\(ow1=ow\/∃r t,r∈tc/\∀d M,ow1 d=zs M↔ow d=zs M/\¬Und (r::t) M))\/∃c off n L es ces,sc=.msl c off n te.size/\ow c=zs L/\c<h.next/\h.get c=zs (.row ces te.size)/\eS te.size ces es/\off+n<=es.length/\base=(es.drop off).take n/\
  (∀(i:Nat) x y,ces[i]?=zs x->es[i]?=zs y->∀(o:Nat) a b,x.cells[o]?=zs a->y.cells[o]?=zs b->CR Z ow h (L++[i,o]) a b)/\(∀d M,ow1 d=zs M↔ow d=zs M/\¬Und L M)/\(∃r t,L=r::t/\r∈tc)/\(wholeP s os=zt->off=0/\n=es.length)
theorem Wq{te:TI}{s sc:AV}{base:List AV}{tc:List Nat}(p:PT R Z ow h os)(hv:VR Z ow h os sc s)(A:takeB te s os=zs (base,os1,tc)):∃ow1,TkB R Z ow h os te sc s base os1 tc ow1:=by
 cases s with
 |nilsl=>
  cases A;exact⟨ow,p,.refl _ _,rfl,fun _ h=>h,fun _ _ h=>h,fun _ _ _ h=>.inl h,fun _ _ _ h=>h,fun _ _ _ h=>h,.inl ⟨.inl hv.isN,rfl,.inl rfl⟩⟩
 |msl id off n sz=>
  unfold takeB at A;simp only at A;cases H:rowOf os 6 id with
  |none=>rw[H]at A;cases A
  |some q=>
   obtain⟨k,es,z⟩:=q;rw[H]at A;simp only at A;split at A
   . rename_i hc
     obtain ⟨rfl,rfl,rfl,ap⟩:=hc;obtain⟨L,C,ae⟩:=p.get 6 id 0 es te.size H;have ah:rawAt os id=zf:=by
      cases e:rawAt os id with
      |false=>rfl
      |true=>exact absurd rfl (Ha H e).2
     obtain ⟨x0,ae⟩:∃x,CR Z ow h L x (ownd 0 te.size es):=by
      rcases ae with⟨h1,_⟩|⟨_,h⟩
      . rw[ah]at h1;cases h1
      . exact h
     obtain⟨tl,am,hrt,_⟩:=J8 6 id L C;have V:∀ow1:Nat->Option (List Nat),(∀d M,ow1 d=zs M↔ow d=zs M/\¬Und L M)->∀tc:List Nat,rootOf os 6 id∈tc->((sc=.nilsl\/sc=.nilsl)/\(es.drop off).take n=[]/\(ow1=ow\/∃r t,r∈tc/\∀d M,ow1 d=zs M↔ow d=zs M/\¬Und (r::t) M))\/∃c B n' L es' ces,sc=.msl c B n' te.size/\ow c=zs L/\c<h.next/\h.get c=zs (.row ces te.size)/\eS te.size ces es'/\B+n'<=es'.length/\(es.drop off).take n=(es'.drop B).take n'/\
      (∀(i:Nat) x y,ces[i]?=zs x->es'[i]?=zs y->∀(o:Nat) a b,x.cells[o]?=zs a->y.cells[o]?=zs b->CR Z ow h (L++[i,o]) a b)/\(∀d M,ow1 d=zs M↔ow d=zs M/\¬Und L M)/\(∃r t,L=r::t/\r∈tc)/\(wholeP (.msl id off n te.size) os=zt->B=0/\n'=es'.length):=by
      intro ow1 h1 tc ag;generalize hy:AV.msl id off n te.size=y at hv;cases hv with
      |fz f=>cases f<;>cases hy
      |mnil e _ _=>
       cases hy;exact .inl ⟨e,by simp,.inr ⟨_,tl,ag,by rw[<-am];exact h1⟩⟩
      |@msl id' c B n' sz' h2 h3=>
       cases hy;have ac:=h2 L C;rcases ae.inv with⟨_,_,_,h4⟩|⟨c0,ces,_,h4,X,h6,h7,_,h9⟩
       . exact absurd (by simpa using ac) (h4 c [])
       . have:c=c0:=p.inj _ _ _ ac h4
         subst this;refine .inr ⟨c,off,n,L,es,ces,rfl,ac,X,h6,h7,ap,rfl,h9,h1,⟨_,tl,am,ag⟩,fun hw=>?_⟩;unfold wholeP at hw;simp only at hw;rw[H]at hw;simp only[Bool.and_eq_true,beq_iff_eq]at hw;exact hw
      |_=>cases hy
     cases he:os[id]? with
     |none=>grind
     |some e=>
      rw[he]at A;cases e with
      |row k es0 z0=>
       cases A;have hLid:L=[id]:=by grind[loP]
       have hrid:rootOf os 6 id=id:=by grind
       obtain⟨g1,g2,g3,g4,g5,_⟩:=p.giveup id;refine⟨clr ow (Und [id]),g1,g2,g5,fun j hj=>(g4 j hj).1,fun d M N=>(clr_some.1 N).1,fun d r t N=>?_,g3,fun j hj d N=>clr_some.2 ⟨N,fun⟨u,Q⟩=>(g4 j hj).2 (List.cons.inj Q).1⟩,V _ (by grind[Go.AM.clr_some]) _ (by grind)⟩;by_cases e:r=id
       . right;rw[e];exact zqn.2 rfl
       . left;exact clr_some.2 ⟨N,fun⟨u,Q⟩=>e (List.cons.inj Q).1⟩
      |sub q i o=>
       simp only at A;cases hp:rowOf os 6 q with
       |none=>rw[hp]at A;cases A
       |some t1=>
        obtain⟨kp,J,pz⟩:=t1;rw[hp]at A;simp only at A;split at A
        . rename_i ao
          subst ao;cases hi:J[i]? with
          |none=>rw[hi]at A;cases A
          |some v=>
           rw[hi]at A;simp only at A;cases G:setRow (killP os (rootOf os 6 id) (chainOf os 6 q)) 6 q (J.set i (v.withCells o [.und]))with
           |none=>rw[G]at A;cases A
           |some os2=>
            rw [G]at A;cases A;have hroot:rootOf os 6 q=rootOf os 6 id:=by
             have e1:rootOf os 6 id=rootOf os 5 q:=by
              grind[rootOf]
             obtain ⟨Y,ai,_⟩:=p.get 6 q 0 J pz hp;have X:loP os 5 q=zs Y:=by
              unfold loP at C;rw[he]at C;simp only at C;cases X:loP os 5 q with
              |none=>grind
              |some L5=>rw[loP_uniq X ai]
             grind[J8]
            have w:=Mr os (rootOf os 6 id) (chainOf os 6 q);obtain⟨k',pes',pz',af⟩:=Wl _ _ _ _ G
            have:=Wn w 6 q _ af
            rw [hp]at this;cases this;have pk:=p.wk w;have ad:rawAt os q=zf:=by
             cases e:rawAt os q with
             |false=>rfl
             |true=>exact absurd rfl (Ha hp e).2
            obtain ⟨Y,aa,_⟩:=pk.get 6 q 0 J pz af;have ai:=w.lo 6 q Y aa;have aj:L=Y++[i,o]:=by
             unfold loP at C;rw[he]at C;simp only at C;cases X:loP os 5 q with
             |none=>grind
             |some L5=>grind[loP_uniq]
            have hvo:o<v.cells.length/\v.cells.length=pz:=by
             unfold rowOf at H;rw[he]at H;simp only at H;cases X:rowOf os 5 q with
             |none=>grind
             |some t5=>
              obtain⟨k5,es5,z5⟩:=t5;have h6:=Wm 5 q _ X;rw[hp]at h6;cases h6;rw[X]at H;simp only at H;rw[hi]at H;simp only at H;cases ho:v.cells[o]? with
              |none=>grind
              |some c=>
               refine⟨(zqb.1 ho).1,?_⟩;obtain⟨_,_,hq⟩:=p.get 6 q 0 J pz hp;rcases hq with⟨h1,_⟩|⟨_,xq,hq⟩
               . grind
               . rcases hq.inv with⟨_,e2,_⟩|⟨_,cq,_,_,_,_,an,_⟩
                 . grind
                 . have hl:i<cq.length:=by rw[an.1];grind
                   exact(an.2 i _ v (zqd hl) hi).2.1
            have ak:∀M,AtC Y i o 1 M↔Und L M:=fun M=>by
             rw[aj]
             constructor
             . rintro⟨o',h1,h2,h3⟩
               grind
             . exact fun h=>⟨o,zqt _,by omega,h⟩
            have U:∀j L1,loP (killP os (rootOf os 6 id) (chainOf os 6 q)) 6 j=zs L1->¬AtC Y i o 1 L1:=(by grind[Go.AM.kill_alive])
            obtain⟨s2,k2,_⟩:=pk.forget (n:=1) af ((w.raw q).trans ad) aa hi (by omega) (by omega) U G;obtain⟨r0,kr0,er0,sr0,er0',aq,ab⟩:=Kd _ _ _ _ G;have al:∀d M,clr ow (AtC Y i o 1) d=zs M↔ow d=zs M/\¬Und L M:=fun d M=>by rw[clr_some,ak]
            refine ⟨clr ow (AtC Y i o 1),s2,w.keep.trans k2,by rw[ab,zqg,w.1],fun j hj=>by rw[ab,isRt_set aq,w.rt]at hj;exact hj,fun d M N=>(clr_some.1 N).1,fun d r t N=>?_,fun n j L hl=>w.lo n j L (by grind[Be]),fun j _ d N=>(al _ _).2 ⟨N,fun⟨u,Q⟩=>by
             rw[aj]at Q
             have:=congrArg zqp Q
             grind⟩,V _ al _ (zqn.2 rfl)⟩
            by_cases Q:Und L (r::t)
            . right
              obtain⟨u,Q⟩:=Q;grind
            grind
        . cases A
      |_=>cases A
   . cases A
 |_=>cases A
end
section
variable {E:Env}{R:AV->AV->Prop}{Z Z':Nat->Prop}{ow ow' ow1 ow2:Nat->Option (List Nat)}{h h':Heap}{K K':PK}{os os' os1 os2:List PO}{x y:AV}{L M:List Nat}
theorem Rx{id off n s sz:Nat}{row:List AV}(hg:h.get id=zs (.row row sz))(hn:off+n<=row.length):elems (.msl id off n s) h=zs ((row.drop off).take n):=by
 show h.onRow id znq (fun es _=>bif Nat.ble (Nat.add off n) (lenL es)then zs (takeL (dropL es off) n)else znq)=_
 rw[Gz hg,A5];simp_all[zqv,G8,G7]
theorem Fz.elems{es:List AV}{f:Bool}(z:Fz Z h x (.fsl es f)):∃xs,elems x h=zs xs/\xs.length=es.length/\∀(i:Nat) a b,xs[i]?=zs a->es[i]?=zs b->Fz Z h a b:=by
 cases z with
 |emp e=>
  cases e with
  |_=>exact⟨[],rfl,rfl,fun i a b ha=>by simp at ha⟩
 |fsl A h2 B=>exact⟨_,rfl,A,h2⟩
 |view A h2 B h4 h5 h6=>
  refine⟨_,Rx h2 B,by simp;omega,fun i a b ha hb=>?_⟩;grind
structure TkE(R:AV->AV->Prop)(Z:Nat->Prop)(ow1:Nat->Option (List Nat))(h:Heap)(os1:List PO)(ext:Nat)(tc:List Nat)(te:TI)(xcs xs:List AV)(os2:List PO)(ow2:Nat->Option (List Nat)):Prop where
 pt:PT R Z ow2 h os2
 keep:Keep' ow1 os1 ow2 os2
 len:os2.length=os1.length
 rt:∀j,isRt os2 j=zt->isRt os1 j=zt
 sb:∀d M,ow2 d=zs M->ow1 d=zs M
 ex:∀d r t,ow1 d=zs (r::t)->r<ext->ow2 d=zs (r::t)
 ln:xcs.length=xs.length
 alt:(ow2=ow1/\∀(i:Nat) a b,xcs[i]?=zs a->xs[i]?=zs b->Fz Z h a b/\b.cells.length=te.size)\/∃q u,ext<=q/\¬q∈tc/\eS te.size xcs xs/\
  (∀(i:Nat) x y,xcs[i]?=zs x->xs[i]?=zs y->∀(o:Nat) a b,x.cells[o]?=zs a->y.cells[o]?=zs b->CR Z ow1 h (q::u++[i,o]) a b)/\(∀d M,ow2 d=zs M↔ow1 d=zs M/\¬Und (q::u) M)
theorem TkE.closed(p:PT R Z ow1 h os1){ext:Nat}{tc:List Nat}{te:TI}{xcs xs:List AV}(hl:xcs.length=xs.length)(hz:∀(i:Nat) a b,xcs[i]?=zs a->xs[i]?=zs b->Fz Z h a b/\b.cells.length=te.size):TkE R Z ow1 h os1 ext tc te xcs xs os1 ow1:=
 ⟨p,.refl _ _,rfl,fun _ h=>h,fun _ _ h=>h,fun _ _ _ h _=>h,hl,.inl ⟨rfl,hz⟩⟩
theorem Dq{sz:Nat}{xcs xs:List AV}(hl:xcs.length=xs.length)(hz:∀(i:Nat) a b,xcs[i]?=zs a->xs[i]?=zs b->a.cells.length=sz):F7 sz xcs=zt:=by
 grind[o8,zqi]
theorem jX{te:TI}{xc x:AV}{xs:List AV}{ext:Nat}{tc:List Nat}(p:PT R Z ow1 h os1)(hv:VR Z ow1 h os1 xc x)(A:takeE te x ext tc os1=zs (xs,os2)):∃ow2 xcs,elems xc h=zs xcs/\F7 te.size xcs=zt/\TkE R Z ow1 h os1 ext tc te xcs xs os2 ow2:=by
 cases x with
 |nilsl=>
  cases A;rw[hv.isN];exact⟨ow1,[],rfl,rfl,.closed p rfl fun i a b ha=>by simp at ha⟩
 |fsl es f=>
  unfold takeE at A;simp only at A;split at A
  . rename_i hs
    cases A;cases hv with
    |fz z=>
     obtain⟨xcs,Y,h2,B⟩:=z.elems;rw[o8]at hs;have N:∀(i:Nat) a b,xcs[i]?=zs a->xs[i]?=zs b->Fz Z h a b/\b.cells.length=te.size:=fun i a b ha hb=>⟨B i a b ha hb,hs b (zqe hb)⟩
     exact⟨ow1,xcs,Y,Dq h2 fun i a b ha hb=>(B i a b ha hb).shape.1.trans (N i a b ha hb).2,.closed p h2 N⟩
  . cases A
 |msl id off n sz=>
  unfold takeE at A;simp only at A;cases H:rowOf os1 6 id with
  |none=>rw[H]at A;cases A
  |some q=>
   obtain⟨k,es,z⟩:=q;rw[H]at A;simp only at A;split at A
   . rename_i hc
     obtain ⟨rfl,rfl,rfl,hle⟩:=hc;obtain⟨L,V,ag⟩:=p.get 6 id 0 es te.size H;have ai:rawAt os1 id=zf:=by
      cases e:rawAt os1 id with
      |false=>rfl
      |true=>exact absurd rfl (Ha H e).2
     obtain ⟨x0,ag⟩:∃x,CR Z ow1 h L x (ownd 0 te.size es):=by
      rcases ag with⟨Y,_⟩|⟨_,h⟩
      . rw[ai]at Y;cases Y
      . exact h
     have ab:((xc=.nilsl\/xc=.nilsl)/\n=0/\off=0/\∀c,ow1 c≠zs L)\/∃c ces,xc=.msl c off n te.size/\ow1 c=zs L/\h.get c=zs (.row ces te.size)/\eS te.size ces es/\∀(i:Nat) x y,ces[i]?=zs x->es[i]?=zs y->∀(o:Nat) a b,x.cells[o]?=zs a->y.cells[o]?=zs b->CR Z ow1 h (L++[i,o]) a b:=by
      generalize hy:AV.msl id off n te.size=y at hv;cases hv with
      |fz f=>cases f<;>cases hy
      |mnil e Y _=>
       cases hy;exact .inl ⟨e,rfl,rfl,Y L V⟩
      |@msl id' c off' n' sz' h2 B=>
       cases hy;have af:=h2 L V;rcases ag.inv with⟨_,_,_,N⟩|⟨c0,ces,_,N,h5,h6,h7,_,h9⟩
       . exact absurd (by simpa using af) (N c [])
       . have:c=c0:=p.inj _ _ _ af N
         subst this;exact .inr ⟨c,ces,rfl,af,h6,h7,h9⟩
      |_=>cases hy
     have Q:(xc=.nilsl\/xc=.nilsl)->elems xc h=zs []:=fun e=>by rcases e with rfl|rfl<;>rfl
     cases an:flatT te with
     |true=>
      rw[an]at A;simp only at A;split at A
      . rename_i ao
        cases A;rcases ab with⟨e,rfl,rfl,_⟩|⟨c,ces,rfl,Y,h2,B,N⟩
        . exact⟨ow1,[],Q e,rfl,.closed p (by simp) fun i a b ha=>by simp at ha⟩
        . have hz:∀(i:Nat) a b,ces[i]?=zs a->es[i]?=zs b->Fz Z h a b/\b.cells.length=te.size:=fun i a b ha hb=>by
           have G:=B.2 i a b ha hb;have aj:∀u∈b.cells,clo u=zt:=fun u hu=>zqf.1 (zqf.1 ao b (zqe hb)) u hu
           have C:∀(o:Nat) u w,a.cells[o]?=zs u->b.cells[o]?=zs w->Fz Z h u w:=fun o u w hu hw=>by
            have hc:=N i a b ha hb o u w hu hw;have ap:=aj w (zqe hw);cases hc with
            |val f _ _=>exact f
            |_=>cases ap
           refine⟨?_,G.2.1⟩;cases aa:isAg b with
           |true=>
            cases b with
            |agg bs=>
             cases a with
             |agg as1=>exact .agg (G.1.trans G.2.1.symm) C (zqf.2 aj)
             |_=>rw[aa]at G;cases G.2.2
            |_=>cases aa
           |false=>
            have aq:=G.2.2.trans aa;rw[C8 aa,C8 aq]at C;exact C 0 a b rfl rfl
          have ak:ces.length=es.length:=B.1;refine⟨ow1,(ces.drop off).take n,Rx h2 (by omega),Dq (xs:=(es.drop off).take n) (by simp[ak]) (fun i a b ha hb=>?_),.closed p (by simp[ak]) fun i a b ha hb=>?_⟩
          . rw[n8]at ha hb
            split at ha
            . rename_i hi;rw[if_pos hi]at hb;exact(B.2 _ a b ha hb).1
            . cases ha
          . rw[n8]at ha hb
            split at ha
            . rename_i hi;rw[if_pos hi]at hb;exact hz _ a b ha hb
            . cases ha
      . cases A
     |false=>
      rw[an]at A;simp only at A;cases he:os1[id]? with
      |none=>rw[he]at A;cases A
      |some e=>
       rw[he]at A;cases e with
       |sub=>
        simp only at A;split at A
        . rename_i ae
          obtain⟨rfl,rfl⟩:=ae;cases hb:takeB te (.msl id 0 es.length te.size) os1 with
          |none=>rw[hb]at A;cases A
          |some w=>
           obtain⟨base,o2,ar⟩:=w;rw[hb]at A;simp only at A;split at A
           . rename_i ah
             cases A;obtain⟨ow2,J⟩:=Wq p hv hb;have U:∀r∈ar,ext<=r/\¬r∈tc:=fun r H=>by
              have:=zqf.1 ah r H
              simpa using this
             have al:∀d r t,ow1 d=zs (r::t)->r<ext->ow2 d=zs (r::t):=fun d r t X hlt=>(J.tcr d r t X).resolve_right fun h=>by have:=(U r h).1;omega
             rcases J.alt with⟨e,rfl,hz⟩|⟨c,off,n,L,es',ces,rfl,Y,_,h2,B,N,rfl,h5,h6,⟨r,t,rfl,h7⟩,h8⟩
             . refine⟨ow2,[],Q e,rfl,J.pt,J.keep,J.len,J.rt,J.sb,al,rfl,?_⟩
               rcases hz with rfl|⟨r,t,H,hz⟩
               . exact .inl ⟨rfl,fun i a b ha=>by simp at ha⟩
               . exact .inr ⟨r,t,(U r H).1,(U r H).2,⟨rfl,fun i x y hx=>by simp at hx⟩,fun i x y hx=>by simp at hx,hz⟩
             . obtain⟨rfl,rfl⟩:=h8 (by unfold wholeP;simp only;rw[H];simp)
               have e0:(es'.drop 0).take es'.length=es':=by simp
               rw[e0];refine⟨ow2,ces,?_,Dq B.1 fun i a b ha hb=>(B.2 i a b ha hb).1,J.pt,J.keep,J.len,J.rt,J.sb,al,B.1,.inr ⟨r,t,(U r h7).1,(U r h7).2,B,h5,h6⟩⟩
               have:=Rx (s:=te.size) (off:=0) (n:=es'.length) h2 (by rw[B.1];omega)
               rw[this,List.drop_zero,<-B.1,zqs]
           . cases A
        . cases A
       |row k es0 z0=>
        simp only at A;split at A
        . rename_i ae
          obtain⟨rfl,rfl,ac,ad⟩:=ae;cases A;have am:L=[id]:=by unfold loP at V;rw[he]at V;cases V;rfl
          subst am;obtain⟨g1,g2,g3,g4,g5,_⟩:=p.giveup id;rcases ab with⟨e,au,_,_⟩|⟨c,ces,rfl,Y,h2,B,N⟩
          . have:xs=[]:=zqj au
            subst this;refine⟨clr ow1 (Und [id]),[],Q e,rfl,g1,g2,g5,fun j hj=>(g4 j hj).1,fun d M X=>(clr_some.1 X).1,fun d r t X H=>clr_some.2 ⟨X,fun⟨u,hu⟩=>by grind⟩,rfl,?_⟩;exact .inr ⟨id,[],ac,ad,⟨rfl,fun i x y hx=>by simp at hx⟩,fun i x y hx=>by simp at hx,fun d M=>clr_some⟩
          . refine⟨clr ow1 (Und [id]),ces,?_,Dq B.1 fun i a b ha hb=>(B.2 i a b ha hb).1,g1,g2,g5,fun j hj=>(g4 j hj).1,fun d M X=>(clr_some.1 X).1,fun d r t X H=>clr_some.2 ⟨X,fun⟨u,hu⟩=>by grind⟩,B.1,.inr ⟨id,[],ac,ad,B,N,fun d M=>clr_some⟩⟩
            have:=Rx (s:=te.size) (off:=0) (n:=xs.length) h2 (by rw[B.1];omega)
            rw[this,List.drop_zero,<-B.1,zqs]
        . cases A
       |_=>cases A
   . cases A
 |_=>cases A
end
section
variable {E:Env}{R:AV->AV->Prop}{Z Z':Nat->Prop}{ow ow' ow1 ow2:Nat->Option (List Nat)}{h h':Heap}{K K':PK}{os os' os1 os2:List PO}{x y:AV}{L M:List Nat}
theorem EC{te:TI}{s:AV}(B:s=.nilsl\/s=.nilsl){x:AV}{r:List AV}(hb:(x::r).length*te.bytes<=140737488355328):H4 te s (x::r) h=zs (.msl h.next 0 (x::r).length te.size,h.push (.row (x::r) te.size)):=by
 have A:Ao te [] zt (x::r) h=zs (.msl h.next 0 (x::r).length te.size,h.push (.row (x::r) te.size)):=by
  show M6 (Nat.add 0 (lenL (x::r))) (fun n=>B3 (zt&&Nat.ble (Nat.mul n te.bytes) 140737488355328&&j6 te.size []) (Sk (x::r) fun l=>zs (AV.msl h.next 0 n te.size,h.push (.row l te.size))))=_
  rw[B6,A5,show Nat.add 0 (x::r).length=(x::r).length from zqz _]
  have:Nat.ble (Nat.mul (x::r).length te.bytes) 140737488355328=zt:=zqv hb
  rw[this,Bs];rfl
 rcases B with rfl|rfl<;>exact A
theorem ED{te:TI}{c off n:Nat}{ces:List AV}{x:AV}{r:List AV}(hg:h.get c=zs (.row ces te.size))(hn:off+n<=ces.length)(hb:(n+(x::r).length)*te.bytes<=140737488355328):
 H4 te (.msl c off n te.size) (x::r) h=zs (.msl h.next 0 (n+(x::r).length) te.size,(h.del c).push (.row ((ces.drop off).take n++(x::r)) te.size)):=by
 show h.onRow c znq (Kq te c off n (x::r) h)=_
 rw[Gz hg];show M6 (Nat.add n (lenL (x::r))) (fun m=>B3 (Nat.ble (Nat.add off n) (lenL ces)&&Nat.beq te.size te.size&&Nat.ble (Nat.mul m te.bytes) 140737488355328) (Sk (appL (takeL (dropL ces off) n) (x::r)) fun l=>zs (AV.msl h.next 0 m te.size,(h.del c).push (.row l te.size))))=_
 rw[B6,A5,A5,zka];have e1:Nat.ble (Nat.add off n) ces.length=zt:=zqv hn;have e2:Nat.ble (Nat.mul (Nat.add n (x::r).length) te.bytes) 140737488355328=zt:=zqv hb;rw[e1,e2,Bs,L7,G8,G7];rfl
theorem EE{sz off n:Nat}{ces es xcs xs:List AV}(C:eS sz ces es)(h2:eS sz xcs xs):eS sz ((ces.drop off).take n++xcs) ((es.drop off).take n++xs):=by
 have hl:((ces.drop off).take n).length=((es.drop off).take n).length:=by simp[C.1]
 refine⟨by simp[C.1,h2.1],fun i x y A B=>?_⟩;rw[zqm]at A B;rw[hl]at A;split at A
 . rename_i hi
   rw[if_pos hi]at B;rw[n8]at A B;split at A
   . rename_i G;rw[if_pos G]at B;exact C.2 _ x y A B
   . cases A
 . rename_i hi;rw[if_neg hi]at B;exact h2.2 _ x y A B
theorem Stp.join{b:Nat}{tc:List Nat}{e:PO}{owf:Nat->Option (List Nat)}(p:G2 Z ow h K.os)(hx:K.ext<=K.os.length)(hol:os2.length=K.os.length)(hn:h.next<=h'.next)(A:∀d,d<h.next->ow d=znq->h'.get d=h.get d)
 (hth:∃l,h'.tch=l++h.tch/\∀d∈l,∃r t,ow d=zs (r::t)/\r∈tc)(huo:∀d M,owf d=zs M->d<h.next->ow d≠znq)(hmv:∀d r t,ow d=zs (r::t)->r<K.ext->owf d=zs (r::t)\/r∈tc)
 (hxk:∀j,j<K.ext->isRt os2 j=zt->∀d,ow d=zs [j]↔owf d=zs [j])(hrt:∀j,isRt os2 j=zt->isRt K.os j=zt):Stp b Z ow h K Z owf h' {K with os:=os2++[e],tch:=os2.length::tc++K.tch}:=by
 have B:∀j,j<K.ext->isRt (os2++[e]) j=zt->isRt os2 j=zt:=(by grind[Go.AM.isRt])
 obtain⟨l,C,hl2⟩:=hth;refine⟨hn,fun d hz=>⟨hz,A d (p.zb d hz) ?_⟩,fun _ hz=>.inl hz,A,huo,⟨l,C,fun d H=>?_⟩,fun d r t H G=>?_,(by grind),rfl,(by grind),fun j J G=>hrt j (B j J G)⟩
 . cases e:ow d with
   |none=>rfl
   |some M=>exact absurd hz (p.live _ _ e).2.1
 . grind
 grind
theorem qW{te:TI}{s sc v:AV}{base xs xcs:List AV}{tc:List Nat}(p:G2 Z ow h K.os)(hx:K.ext<=K.os.length)(Q:TkB (VR Z ow h K.os) Z ow h K.os te sc s base os1 tc ow1)(H:TkE (VR Z ow h K.os) Z ow1 h os1 K.ext tc te xcs xs os2 ow2)
 (hw:(!xs.isEmpty||wholeP s K.os)=zt)(U:joinP te base xs os2 tc K=zs (v,K')):∃vc h' owf,H4 te sc xcs h=zs (vc,h')/\G2 Z owf h' K'.os/\Keep' ow K.os owf K'.os/\VR Z owf h' K'.os vc v/\∀b,Stp b Z ow h K Z owf h' K':=by
 unfold joinP at U;split at U
 . rename_i hb
   cases U;have am:os2.length=K.os.length:=H.len.trans Q.len;have ae:=H.ln;obtain⟨q,u,hq1,a6,av,aw,ax⟩:∃q u,(∀t r,q::t≠r\/True)/\(q=os2.length\/(K.ext<=q/\¬q∈tc))/\eS te.size xcs xs/\(∀(i:Nat) x y,xcs[i]?=zs x->xs[i]?=zs y->∀(o:Nat) a b,x.cells[o]?=zs a->y.cells[o]?=zs b->CR Z ow1 h (q::u++[i,o]) a b)/\(∀d M,ow2 d=zs M↔ow1 d=zs M/\¬Und (q::u) M):=by
    rcases H.alt with⟨B,h2⟩|⟨q,u,B,h2,h3,h4,h5⟩
    . have ap:∀d t,ow1 d≠zs (os2.length::t):=fun d t e=>by
       have:=H.pt.noHead d t
       rw[B]at this;exact this e
      refine⟨os2.length,[],fun _ _=>.inr trivial,.inl rfl,⟨ae,fun i x y hx hy=>⟨(h2 i x y hx hy).1.shape.1.trans (h2 i x y hx hy).2,(h2 i x y hx hy).2,(h2 i x y hx hy).1.shape.2⟩⟩,fun i x y hx hy o a b ha hb=>?_,fun d M=>?_⟩
      . have:=(h2 i x y hx hy).1.cell ha hb
        exact .val this.1 this.2 fun c t e=>ap c ([i,o]++t) (by grind)
      . rw[B];exact⟨fun h=>⟨h,fun⟨u,hu⟩=>ap d u (by grind)⟩,fun h=>h.1⟩
    . exact⟨q,u,fun _ _=>.inr trivial,.inr ⟨B,h2⟩,h3,h4,h5⟩
   have C:Keep' ow K.os ow2 os2:=Q.keep.trans H.keep;have ai:loP (os2++[PO.row 0 (base++xs) te.size]) 6 os2.length=zs [os2.length]:=Ol _ (.inl ⟨_,_,_,rfl⟩);have af:os2.length<(os2++[PO.row 0 (base++xs) te.size]).length:=by simp
   have N:∀j,isRt os2 j=zt->isRt K.os j=zt:=fun j U=>Q.rt j (H.rt j U)
   have aj:∀j,j<K.ext->isRt (os2++[PO.row 0 (base++xs) te.size]) j=zt->isRt os2 j=zt:=(by grind[Go.AM.isRt])
   have aq:∀j,j<K.ext->isRt os2 j=zt->∀d,ow d=zs [j]->ow2 d=zs [j]:=fun j U V d A=>H.ex d j [] (Q.rd j (H.rt j V) d A) U
   rcases Q.alt with⟨ah,ac,_⟩|⟨c,off,n,L,es,ces,rfl,ab,ay,ak,hs,a7,ac,a9,al,⟨r,tl,ba,hrtc⟩,bb⟩
   . -- nothing was there
     subst ac;cases xcs with
     |nil=>
      have an:xs=[]:=zqj ae.symm;subst an;have ho:∀d M,(∀t,M≠os2.length::t)->(ow2 d=zs M↔ow2 d=zs M):=fun _ _ _=>.rfl
      have J:=PT.new (ow':=ow2) (h':=h) H.pt (.row 0 ([]++[]) te.size) (zqt _) (fun _ _=>rfl) (fun _ _ _=>rfl) ho (fun a b t ha=>absurd ha (H.pt.noHead a t)) (fun d t A=>absurd A (H.pt.noHead d t)) (Ck _ (.inl ⟨_,_,_,rfl⟩)) (fun es sz e=>by
       cases e;exact⟨sc,.nil ah fun c t hc=>H.pt.noHead c t (by grind)⟩) (by grind) (fun es e=>by cases e)
      have hk:=C.trans (Wp H.pt (e:=.row 0 ([]++[]) te.size) ho);refine⟨sc,h,ow2,by rcases ah with rfl|rfl<;>rfl,G2.to J (fun _ hz=>⟨hz,rfl⟩) hk,hk,.mnil ah (fun L hL c hc=>?_) af,fun b=>⟨zqt _,fun _ hz=>⟨hz,rfl⟩,fun _ hz=>.inl hz,fun _ _ _=>rfl,fun d M A _ e=>?_,⟨[],rfl,fun d A=>by cases A⟩,fun d r t A V=>?_,fun r V _=>?_,rfl,fun j U c V=>?_,fun j U V=>N j (aj j U V)⟩⟩
      . rw[ai]at hL;cases hL
        exact H.pt.noHead c [] hc
      . have:=Q.sb d M (H.sb d M A)
        grind
      . rcases Q.tcr d r t A with B|B
        . exact .inl ⟨t,H.ex d r t B V⟩
        grind
      . exact zqr _ (List.mem_append_right _ V)
      . exact⟨fun h=>aq j U (aj j U V) c h,fun h=>Q.sb c _ (H.sb c _ h)⟩
     |cons xh xr=>
      have X:∀d,d<h.next->(h.push (.row (xh::xr) te.size)).get d=h.get d:=fun d A=>Heap.get_push_ne h _ (by omega)
      have Y:∀i o t,i<([]++xs).length->o<te.size->Und (q::u) (q::u++[i,o]++t):=fun i o t _ _=>⟨[i,o]++t,by simp⟩
      have aa:∀i o t i' o' t',i<([]++xs).length->o<te.size->i'<([]++xs).length->o'<te.size->q::u++[i,o]++t=q::u++[i',o']++t'->i=i'/\o=o'/\t=t':=fun i o t i' o' t' _ _ _ _ e=>by simp at e;exact e
      have ar:ow1 h.next=znq:=Q.pt.next_none;have J:=PT.graft (owk:=ow2) (ow:=ow1) (c:=h.next) (ces:=xh::xr) (es:=[]++xs) (h':=h.push (.row (xh::xr) te.size)) H.pt (Gn:=Und (q::u)) (G:=fun i o=>q::u++[i,o]) ax Q.pt.inj (fun a M ha=>⟨(Q.pt.live a M ha).1,(Q.pt.live a M ha).2.1⟩) Y aa av aw (zqw _) (fun d A=>X d (p.zb d A)) (zqx _) (fun hz=>absurd (p.zb _ hz) (by omega)) (Heap.get_push_eq h _) (by grind) (fun d M A _=>X d (Q.pt.live d M A).1);have gs:=fun d M'=>Hb (Gn:=Und (q::u)) (G:=fun i o=>q::u++[i,o]) (ow:=ow1) (c:=h.next) (n:=os2.length) (d:=d) (M':=M') Y aa
      have hk:=C.trans J.2;refine⟨_,_,_,EC ah (by rw[ae];simpa using hb),G2.to J.1 (fun d hz=>⟨hz,X d (p.zb d hz)⟩) hk,hk,?_,fun b=>Stp.join p hx am (zqw _) (fun d A _=>X d A) ⟨[],rfl,fun d A=>by cases A⟩ (fun d M A hl e=>?_) (fun d r t A V=>?_) (fun j U V d=>?_) N⟩
      . have e1:(AV.msl os2.length 0 (([]:List AV).length+xs.length) te.size)=.msl os2.length 0 (xh::xr).length te.size:=by grind
        rw[e1];exact .msl (fun L hL=>by rw[ai]at hL;cases hL;exact(gs _ _).2 (.inl ⟨rfl,rfl⟩)) af
      . rcases(gs d M).1 A with⟨B,_⟩|⟨_,i,o,t,_,_,B,_⟩|⟨_,B,_⟩
        . omega
        . have:=Q.sb _ _ B;grind
        . have:=Q.sb _ _ B;grind
      . rcases Q.tcr d r t A with B|B
        . refine .inl ((gs d _).2 (.inr (.inr ⟨(by grind),B,?_⟩)))
          have:=H.ex d r t B V
          grind
        grind
      . constructor
        . grind
        . intro A
          rcases(gs d _).1 A with⟨_,B⟩|⟨_,i,o,t,_,_,_,B⟩|⟨_,B,_⟩
          . grind
          . cases B
          . exact Q.sb _ _ B
   . subst ac
     have hqr:q≠r:=fun e=>by
      rcases a6 with B|⟨_,B⟩
      . obtain⟨_,_,r',t',h2,h3⟩:=p.live c L ab
        rw[ba]at h2
        have:=(List.cons.inj h2).1
        have:=isRt_lt h3
        omega
      grind
     have az:∀t,¬Und L (q::t):=fun t ⟨u,hu⟩=>by grind
     have a0:∀t,¬Und (q::u) (L++t):=fun t ⟨u,hu⟩=>by grind
     have ao:∀d M,ow2 d=zs M↔ow d=zs M/\¬(Und L M\/Und (q::u) M):=fun d M=>by
      rw[ax,al];exact⟨fun⟨⟨B,h2⟩,h3⟩=>⟨B,fun h=>h.elim h2 h3⟩,fun⟨B,h2⟩=>⟨⟨B,fun h=>h2 (.inl h)⟩,fun h=>h2 (.inr h)⟩⟩
     have ad:∀a M,ow a=zs M->a<h.next/\¬Z a:=fun a M ha=>⟨(p.live a M ha).1,(p.live a M ha).2.1⟩
     have hxcr:∀(i:Nat) x y,xcs[i]?=zs x->xs[i]?=zs y->∀(o:Nat) a b,x.cells[o]?=zs a->y.cells[o]?=zs b->CR Z ow h (q::u++[i,o]) a b:=fun i x y hx hy o a b ha hb=>(aw i x y hx hy o a b ha hb).reloc (zqt _) (fun _ hz=>⟨hz,rfl⟩) (fun d t=>by
      rw[al];exact⟨fun h=>⟨h,fun hu=>az (u++[i,o]++t) (by simpa using hu)⟩,fun h=>h.1⟩) (fun _ _ _=>rfl)
     have a1:((es.drop off).take n).length=n:=by simp;omega
     have hLu:∀i o t i' o' t',L++[i,o]++t=L++[i',o']++t'->i=i'/\o=o'/\t=t':=(by simp_all)
     have a4:∀i o t,L≠L++[i,o]++t:=fun i o t e=>by have:=congrArg zqp e;simp at this
     have au:=EE (off:=off) (n:=n) hs av;cases xcs with
     |nil=>
      have an:xs=[]:=zqj ae.symm;subst an;obtain⟨rfl,rfl⟩:=bb (by grind);have e1:(es.drop 0).take es.length++([]:List AV)=es:=by simp
      have Y:∀i o t,i<es.length->o<te.size->(fun M=>Und L M\/Und (q::u) M) (L++[i,o]++t):=fun i o t _ _=>.inl ⟨[i,o]++t,by simp⟩
      have aa:∀i o t i' o' t',i<es.length->o<te.size->i'<es.length->o'<te.size->L++[i,o]++t=L++[i',o']++t'->i=i'/\o=o'/\t=t':=(by grind)
      have J:=PT.graft (owk:=ow2) (ow:=ow) (c:=c) (ces:=ces) (es:=es) (h':=h) H.pt (Gn:=fun M=>Und L M\/Und (q::u) M) (G:=fun i o=>L++[i,o]) ao p.inj ad Y aa hs a9 (zqt _) (fun _ _=>rfl) ay (ad c L ab).2 ak (fun M hM=>by rw[ab]at hM;cases hM;exact⟨.inl (.refl _),fun i o t _ _ e=>a4 i o t e⟩) (fun _ _ _ _=>rfl);have gs:=fun d M'=>Hb (Gn:=fun M=>Und L M\/Und (q::u) M) (G:=fun i o=>L++[i,o]) (ow:=ow) (c:=c) (n:=os2.length) (d:=d) (M':=M') Y aa
      have hk:=C.trans J.2;refine⟨.msl c 0 es.length te.size,h,nF ow (fun M=>Und L M\/Und (q::u) M) (fun i o=>L++[i,o]) es.length te.size c os2.length,rfl,?_,?_,?_,fun b=>?_⟩
      . show G2 Z _ h (os2++[.row 0 ((es.drop 0).take es.length++[]) te.size])
        rw[e1];exact G2.to J.1 (fun _ hz=>⟨hz,rfl⟩) hk
      . grind
      . have e2:((es.drop 0).take es.length).length+([]:List AV).length=es.length:=by simp
        rw[e2];exact .msl (by grind) af
      . refine Stp.join p hx am (zqt _) (fun _ _ _=>rfl) ⟨[],rfl,fun d A=>by cases A⟩ (fun d M A hl e=>?_) (fun d r' t A V=>?_) (fun j U V d=>?_) N
        . grind
        . by_cases hu:Und L (r'::t)
          . right
            obtain⟨u,hu⟩:=hu;grind
          . left
            refine(gs d _).2 (.inr (.inr ⟨fun e=>(by subst e;rw[ab]at A;cases A;exact hu (.refl _)),A,fun h=>h.elim hu fun⟨u,hu⟩=>?_⟩));grind
        . constructor
          . intro A
            have B:=aq j U V d A;obtain⟨h2,h3⟩:=(ao d _).1 B;exact(gs d _).2 (.inr (.inr ⟨fun e=>(by subst e;rw[ab]at h2;cases h2;exact h3 (.inl (.refl _))),h2,h3⟩))
          grind
     |cons xh xr=>
      have X:∀d,d<h.next->d≠c->((h.del c).push (.row ((ces.drop off).take n++(xh::xr)) te.size)).get d=h.get d:=fun d A hc=>(Heap.get_push_ne _ _ (show d≠(h.del c).next by show d≠h.next;omega)).trans (Heap.get_del_ne h fun e=>hc e.symm)
      have Y:∀i o t,i<((es.drop off).take n++xs).length->o<te.size->(fun M=>Und L M\/Und (q::u) M) ((fun i o=>if i<n then L++[off+i,o]else q::u++[i-n,o]) i o++t):=fun i o t _ _=>by
       show Und L ((if i<n then L++[off+i,o]else q::u++[i-n,o])++t)\/Und (q::u) ((if i<n then L++[off+i,o]else q::u++[i-n,o])++t)
       split
       . exact .inl ⟨[off+i,o]++t,by simp⟩
       . exact .inr ⟨[i-n,o]++t,by simp⟩
      have aa:∀i o t i' o' t',i<((es.drop off).take n++xs).length->o<te.size->i'<((es.drop off).take n++xs).length->o'<te.size->(fun i o=>if i<n then L++[off+i,o]else q::u++[i-n,o]) i o++t=(fun i o=>if i<n then L++[off+i,o]else q::u++[i-n,o]) i' o'++t'->i=i'/\o=o'/\t=t':=fun i o t i' o' t' _ _ _ _ e=>by
       have e:(if i<n then L++[off+i,o]else q::u++[i-n,o])++t=(if i'<n then L++[off+i',o']else q::u++[i'-n,o'])++t':=e;split at e
       . split at e
         . grind
         grind
       . split at e
         . grind
         . simp at e
           grind
      have ag:∀(i:Nat) x y,((ces.drop off).take n++(xh::xr))[i]?=zs x->((es.drop off).take n++xs)[i]?=zs y->∀(o:Nat) a b,x.cells[o]?=zs a->y.cells[o]?=zs b->CR Z ow h ((fun i o=>if i<n then L++[off+i,o]else q::u++[i-n,o]) i o) a b:=fun i x y hx hy o a b ha hb=>by
       show CR Z ow h (if i<n then L++[off+i,o]else q::u++[i-n,o]) a b
       have a5:((ces.drop off).take n).length=n:=by simp[hs.1];omega
       rw[zqm,a5]at hx;rw[zqm,a1]at hy;split
       . rename_i hi
         rw[if_pos hi,n8,if_pos hi]at hx hy;grind
       grind
      have ar:ow h.next=znq:=p.next_none;have J:=PT.graft (owk:=ow2) (ow:=ow) (c:=h.next) (ces:=(ces.drop off).take n++(xh::xr)) (es:=(es.drop off).take n++xs) (h':=(h.del c).push (.row ((ces.drop off).take n++(xh::xr)) te.size)) H.pt (Gn:=fun M=>Und L M\/Und (q::u) M) (G:=fun i o=>if i<n then L++[off+i,o]else q::u++[i-n,o]) ao p.inj ad Y aa au ag (zqw _) (fun d A=>X d (p.zb d A) fun e=>(ad c L ab).2 (e▸A)) (zqx _) (fun hz=>absurd (p.zb _ hz) (by omega)) (Heap.get_push_eq _ _) (by grind) (fun d M A hg=>X d (ad d M A).1 fun e=>by
       subst e;rw[ab]at A;cases A;rcases hg with B|⟨i,o,t,_,_,B⟩
       . exact B (.inl (.refl _))
       . have B:L=(if i<n then L++[off+i,o]else q::u++[i-n,o])++t:=B
         split at B
         . grind
         . exact a0 [] ⟨[i-n,o]++t,by grind⟩)
      have gs:=fun d M'=>Hb (Gn:=fun M=>Und L M\/Und (q::u) M) (G:=fun i o=>if i<n then L++[off+i,o]else q::u++[i-n,o]) (ow:=ow) (c:=h.next) (n:=os2.length) (d:=d) (M':=M') Y aa
      have hk:=C.trans J.2;refine⟨_,_,_,ED ak (by rw[hs.1];exact a7) (by grind),G2.to J.1 (fun d hz=>⟨hz,X d (p.zb d hz) fun e=>(ad c L ab).2 (e▸hz)⟩) hk,hk,?_,fun b=>Stp.join p hx am (zqw _) (by grind) ⟨[c],rfl,fun d A=>?_⟩ (fun d M A hl e=>?_) (fun d r' t A V=>?_) (fun j U V d=>?_) N⟩
      . have e2:((es.drop off).take n).length+xs.length=n+(xh::xr).length:=by grind
        rw[e2];exact .msl (by grind) af
      . grind
      . grind
      . by_cases hu:Und L (r'::t)
        . right
          obtain⟨u,hu⟩:=hu;grind
        . left
          refine(gs d _).2 (.inr (.inr ⟨(by grind),A,fun h=>h.elim hu fun⟨u,hu⟩=>?_⟩));grind
      grind
 . cases U
end
section
variable {E:Env}{R:AV->AV->Prop}{Z Z':Nat->Prop}{ow ow' ow1 ow2:Nat->Option (List Nat)}{h h':Heap}{K K':PK}{os os' os1 os2:List PO}{x y xc yc v:AV}{L M:List Nat}
theorem AA{f:IntKind->Int->Int->Option AV}(A:VR Z ow h os xc x)(B:VR Z ow h os yc y)(e:a8 x y f=zs v):a8 xc yc f=zs v:=by
 obtain⟨k,n,rfl,e1⟩:=B5 e;obtain⟨k',m,rfl,_⟩:=B5 e1;rw[A.isI,B.isI];exact e
def Bn(v:AV):Bool:=match v with | .int _ _=>zt | .bool _=>zt | .str _=>zt|_=>zf
theorem Wr(e:Bn v=zt):VR Z ow h os v v:=by
 cases v<;>first|exact .i _ _|exact .b _|exact .fz (.str _)|cases e
theorem mkInt_pl{k:IntKind}{n:Int}(e:x8 k n=zs v):Bn v=zt:=by rw[x8,Nh]at e;cases e;rfl
theorem Z8{b:Bool}(e:F3 b=zs v):Bn v=zt:=by cases b<;>cases e<;>rfl
theorem aP{k:EqK}{b:Bool}(A:VR Z ow h os xc x)(G:Oi x=zt)(e:s9 k x=zs b):s9 k xc=zs b:=by
 cases k with
 |slc=>
  cases x with
  |nilsl=>rw[A.isN];exact e
  |msl=>cases G
  |fsl es f=>
   cases A with
   |fz z=>
    cases z with
    |emp em=>cases e
    |fsl C h2 H=>
     rename_i B f0;cases es with
     |nil=>
      have:B=[]:=zqj C
      subst this;rw[H];cases f with
      |true=>cases e
      |false=>exact e
     |cons=>
      cases B with
      |nil=>simp at C
      |cons=>exact e
    |view=>
     have:b=zf:=by
      cases es with
      |nil=>cases f<;>cases e;rfl
      |cons=>cases e;rfl
     subst this;rfl
  |_=>cases e
 |ptr=>
  cases x with
  |nilptr=>cases A with|fz z=>cases z;exact e
  | ptr=>cases A with
   |fz z=>cases z
   |ptr=>exact e
  |fptr=>cases A with|fz z=>cases z<;>exact e
  |_=>cases e
 |map=>
  cases x with
  |nilmap=>cases A with|fz z=>cases z;exact e
  | map=>cases A with
   |fz z=>cases z
   |map=>exact e
  |_=>cases e
 |ifc=>
  cases x with
  |niliface=>cases A with|fz z=>cases z;exact e
  | iface=>cases A with
   |fz z=>cases z
   |iface=>exact e
  |_=>cases e
 |_=>cases e
theorem uF{k:EqK}{b:Bool}(hx:VR Z ow h os xc x)(G:VR Z ow h os yc y)(hmx:Oi x=zt)(B:Oi y=zt)(e:Et k x y=zs b):Et k xc yc=zs b:=by
 unfold Et at e|-;cases A:s9 k y with
 |none=>rw[A]at e;cases e
 |some c=>
  rw[A]at e;rw[aP G B A];cases C:s9 k x with
  |none=>rw[C]at e;cases c<;>cases e
  |some d=>grind[aP]
def KP(v:AV):Bool:=match v with | .agg _=>zt | .int _ _=>zt | .bool _=>zt | .str _=>zt|_=>zf
theorem EF{k:EqK}{z:AV}(hz:KP z=zf):vM k z yc=Et k z yc:=by cases z<;>first|rfl|cases hz
theorem AB(B:VR Z ow h os xc x)(hu:x≠.und)(hz:KP x=zf):KP xc=zf:=by
 cases B with
 |und=>grind
 |mnil A=>rcases A with rfl|rfl<;>rfl
 |agg=>cases hz
 |fz f=>
  cases f with
  |emp A=>cases A<;>rfl
  |agg=>cases hz
  |int=>cases hz
  |bool=>cases hz
  |str=>cases hz
  |_=>rfl
 |_=>rfl
theorem qX{k:EqK}{b:Bool}(A:VR Z ow h os xc x)(B:VR Z ow h os yc y)(C:Oi x=zt)(G:Oi y=zt)(e:vM k x y=zs b):vM k xc yc=zs b:=by
 cases x with
 |agg a=>cases e
 |bool a=>obtain⟨c,rfl,_⟩:=Au e;rw[A.isB,B.isB];exact e
 |int j a=>obtain⟨_,c,rfl,_⟩:=B5 e;rw[A.isI,B.isI];exact e
 |str a=>obtain⟨c,rfl,_⟩:=J5 e;rw[A.isS,B.isS];exact e
 | und=>unfold vM Et at e;cases H:s9 k y with
  |none=>simp only[H]at e;cases e
  |some c=>simp only[H]at e;cases c<;>(cases k<;>cases e)
 |_=>
  have J:=uF A B C G e;rw[EF (AB A (by intro e;cases e) rfl)];exact J
theorem nG{op:BinOp}{k:EqK}(B:VR Z ow h os xc x)(C:VR Z ow h os yc y)(hmx:Oi x=zt)(hmy:Oi y=zt)(e:J1 op k x y=zs v):J1 op k xc yc=zs v/\Bn v=zt:=by
 have A:∀f:IntKind->Int->Int->Option AV,(∀k a b v,f k a b=zs v->Bn v=zt)->a8 x y f=zs v->a8 xc yc f=zs v/\Bn v=zt:=fun f hf e=>by
  refine⟨AA B C e,?_⟩;obtain⟨k,n,rfl,e1⟩:=B5 e;obtain⟨k',m,rfl,e2⟩:=B5 e1;grind
 have G:∀{k n v},O5 k n=zs v->Bn v=zt:=fun e=>mkInt_pl e
 have hob:∀{o:Option Bool}{f:Bool->Bool},A6 o (fun b=>F3 (f b))=zs v->Bn v=zt:=fun{o f} e=>by
  obtain⟨b,_,h2⟩:=A1 e;exact Z8 h2
 cases op with
 |add=>
  have e:HI x y=zs v:=e;show HI xc yc=zs v/\_
  cases x with
  |str a=>
   obtain⟨c,rfl,e1⟩:=J5 e;rw[B.isS,C.isS];refine⟨e,?_⟩;cases hb:Nat.ble (Nat.add (s5 a) (s5 c)) 4611686018427387904 with
   |false=>grind
   |true=>rw[hb]at e1;cases e1;rfl
  |int k n=>
   rw[B.isI]
   have:=A (fun k a b=>O5 k (a+b)) (fun _ _ _ _ e=>G e) e
   rw[B.isI]at this;exact this
  |_=>cases e
 |sub=>exact A _ (fun _ _ _ _ e=>G e) e
 |mul=>exact A _ (fun _ _ _ _ e=>G e) e
 |quo=>exact A (fun k a b=>bif intEq b 0 then znq else O5 k (a.tdiv b)) (by grind) e
 |rem=>exact A (fun k a b=>bif intEq b 0 then znq else x8 k (a.tmod b)) (by grind[Go.AM.mkInt_pl]) e
 |and=>exact A _ (fun _ _ _ _ e=>mkInt_pl e) e
 |or=>exact A _ (fun _ _ _ _ e=>mkInt_pl e) e
 |xor=>exact A _ (fun _ _ _ _ e=>mkInt_pl e) e
 |shl=>
  obtain⟨k,n,rfl,e1⟩:=B5 (show LU x y=zs v from e);obtain⟨k',m,rfl,e2⟩:=B5 e1;rw[B.isI,C.isI];refine⟨e,?_⟩;cases m with
  |ofNat m=>exact G e2
  |negSucc m=>cases e2
 |shr=>
  obtain⟨k,n,rfl,e1⟩:=B5 (show LW x y=zs v from e);obtain⟨k',m,rfl,e2⟩:=B5 e1;rw[B.isI,C.isI];refine⟨e,?_⟩;cases m with
  |ofNat m=>exact mkInt_pl e2
  |negSucc m=>cases e2
 |eql=>
  have e:A6 (vM k x y) F3=zs v:=e;obtain⟨b,H,h2⟩:=A1 e;refine⟨?_,Z8 h2⟩;show A6 (vM k xc yc) F3=zs v
  grind[qX]
 |neq=>
  have e:A6 (vM k x y) (fun b=>F3 (!b))=zs v:=e;obtain⟨b,H,h2⟩:=A1 e;refine⟨?_,Z8 h2⟩;show A6 (vM k xc yc) (fun b=>F3 (!b))=zs v
  grind[qX]
 |lss=>exact A _ (fun _ _ _ _ e=>Z8 e) e
 |leq=>exact A _ (fun _ _ _ _ e=>Z8 e) e
 |gtr=>exact A _ (fun _ _ _ _ e=>Z8 e) e
 |geq=>exact A _ (fun _ _ _ _ e=>Z8 e) e
 |_=>cases e
theorem uG{op:UnOp}(A:VR Z ow h os xc x)(e:Kp op x=zs v):Kp op xc=zs v/\Bn v=zt:=by
 cases op with
 |neg=>obtain⟨k,n,rfl,e1⟩:=B5 (show x.onInt znq (fun k n=>O5 k (0-n))=zs v from e);rw[A.isI];exact⟨e,mkInt_pl e1⟩
 |not=>obtain⟨b,rfl,e1⟩:=Au (show x.onBool znq (fun b=>F3 (!b))=zs v from e);rw[A.isB];grind[Z8]
 |_=>cases e
theorem eF{d:TD}(A:VR Z ow h os xc x)(e:R8 d x=zs v):R8 d xc=zs v/\Bn v=zt:=by
 cases d with
 |int k=>obtain⟨j,n,rfl,e1⟩:=B5 (show x.onInt znq (fun _ n=>O5 k n)=zs v from e);rw[A.isI];exact⟨e,mkInt_pl e1⟩
 |string=>obtain⟨s,rfl,e1⟩:=J5 (show x.onStr znq (fun s=>zs (.str s))=zs v from e);rw[A.isS];cases e1;exact⟨rfl,rfl⟩
 |_=>cases e
theorem x5{n:Nat}(A:VR Z ow h os xc x)(e:asNat x=zs n):asNat xc=zs n:=by
 obtain⟨k,m,rfl,_⟩:=B5 e;rw[A.isI];exact e
theorem eG(A:VR Z ow h os xc x)(e:j7 x=zs v):∃vc,j7 xc=zs vc/\VR Z ow h os vc v:=by
 cases x with
 |fptr u o=>
  cases e;cases A with
  | fz z=>cases z with
   |fptr o f=>exact⟨_,rfl,.fz (.fptr o f)⟩
   |pview a b c d=>exact⟨_,rfl,.fz (.pview a b c d)⟩
 |ptr id i o=>
  cases e;cases A with
  |fz z=>cases z
  |ptr a b=>exact⟨_,rfl,.ptr a b⟩
 |map id=>
  cases e;cases A with
  |fz z=>cases z
  |map a b=>exact⟨_,rfl,.map a b⟩
 |fn f a b=>
  cases A with
  |fz z=>cases z
  |fn B h2 C G=>
   cases f with
   |func n=>cases e;exact⟨_,rfl,.fn B h2 C G⟩
   |_=>cases e
 |_=>cases e
theorem Qd{d:Nat}(B:VR Z ow h os xc x)(e:B0 x d=zs v):∃vc,B0 xc d=zs vc/\VR Z ow h os vc v:=by
 have C:∀(u:AV)(o:Nat),B0 (.fptr u o) d=zs (.fptr u (o+d)):=fun u o=>B6 (Nat.add o d) (fun o=>zs (AV.fptr u o))
 have A:∀(id i o:Nat),B0 (.ptr id i o) d=zs (.ptr id i (o+d)):=fun id i o=>B6 (Nat.add o d) (fun o=>zs (AV.ptr id i o))
 cases x with
 |fptr u o=>
  rw[C]at e;cases e;cases B with
  | fz z=>cases z with
   |fptr o f=>exact⟨_,C _ _,.fz (.fptr _ f)⟩
   |pview a b c f=>exact⟨_,A _ _ _,.fz (.pview a b c f)⟩
 |ptr id i o=>
  rw[A]at e;cases e;cases B with
  |fz z=>cases z
  |ptr a b=>exact⟨_,A _ _ _,.ptr a b⟩
 |_=>cases e
theorem VL.part{xs ys:List AV}{t:TI}{off:Nat}(hl:VL Z ow h os xs ys)(e:partOf t ys off=zs v):∃vc,partOf t xs off=zs vc/\VR Z ow h os vc v:=by
 obtain⟨w0,A,h2⟩:=Mt (R:=fun _ a b=>VR Z ow h os a b) hl.1 hl.2 e;refine⟨w0,A,?_⟩;rcases h2 with⟨us,vs,rfl,rfl,B,_,_,_,C⟩|⟨_,_,_,G⟩
 . exact .agg B C
 . exact G
theorem Ym{d:TD}{i:Nat}(H:VR Z ow h os xc x)(e:S3 E d i x=zs v):∃vc,S3 E d i xc=zs vc/\VR Z ow h os vc v:=by
 cases d with
 |slice A=>
  have e:onTI E A znq (fun te=>fK te i x)=zs v:=e;show ∃vc,onTI E A znq (fun te=>fK te i xc)=zs vc/\_
  unfold onTI at e|-;cases Q:E.ti A with
  |none=>simp_all
  |some te=>
   rw[Q]at e;simp only at e|-;have e:fK te i x=zs v:=e;show ∃vc,fK te i xc=zs vc/\_
   have J:∀id off n sz,fK te i (.msl id off n sz)=if i<n/\sz=te.size then zs (AV.ptr id (off+i) 0)else znq:=fun id off n sz=>by
    show B3 (Nat.blt i n&&Nat.beq sz te.size) (M6 (Nat.add off i) fun o=>zs (AV.ptr id o 0))=_
    rw[B6];by_cases hc:i<n/\sz=te.size
    . rw[if_pos hc,hc.2,zka]
      have:Nat.blt i n=zt:=zqv hc.1
      rw[this];rfl
    . rw [if_neg hc]
      cases hg:(Nat.blt i n&&Nat.beq sz te.size)with
      |false=>rfl
      |true=>
       simp_all
   have hf:∀es f,fK te i (.fsl es f)=match es[i]? with|some u=>if u.cells.length=te.size then zs (.fptr u 0)else znq|none=>znq:=fun es f=>by
    show A6 (Es es i) (fun v=>B3 (Nat.beq (lenL v.cells) te.size) (zs (AV.fptr v 0)))=_
    rw[R3];cases es[i]? with
    |none=>rfl
    |some u=>
     show B3 (Nat.beq (lenL u.cells) te.size) (zs (AV.fptr u 0))=if u.cells.length=te.size then zs (AV.fptr u 0)else znq
     rw[A5];by_cases hc:u.cells.length=te.size
     . rw[if_pos hc,hc,zka];rfl
     . rw[if_neg hc]
       cases hb:Nat.beq u.cells.length te.size with
       |false=>rfl
       |true=>simp_all
   cases x with
   |fsl es f=>
    rw[hf]at e;cases G:es[i]? with
    |none=>grind
    |some u=>
     rw[G]at e;simp only at e;split at e
     . rename_i hsz
       cases e;cases H with
       |fz z=>
        cases z with
        |emp em=>simp at G
        |fsl C h2 N=>
         rename_i B f0;have hl:i<B.length:=by grind
         have hz:=h2 i _ u (zqd hl) G;refine⟨.fptr B[i] 0,?_,.fz (.fptr 0 hz)⟩;rw[hf,zqd hl];simp only;rw[if_pos (hz.shape.1.trans hsz)]
        |view C h2 N U X Y=>
         rename_i id off n sz row;have hi:i<n:=by grind
         have hl:off+i<row.length:=by omega
         have hz:=X i _ u (zqd hl) G;have V:=Y i _ hi (zqd hl);refine⟨.ptr id (off+i) 0,?_,.fz (.pview C h2 (zqd hl) hz)⟩;rw[J,if_pos ⟨hi,by rw[<-V,hz.shape.1,hsz]⟩]
     . cases e
   |msl id off n sz=>
    rw[J]at e;split at e
    . rename_i hc
      cases e;cases H with
      |fz z=>cases z
      |mnil _ _ _=>omega
      |msl a b=>exact⟨_,by rw[J,if_pos hc],.ptr a b⟩
    . cases e
   |_=>cases e
 |array len A=>
  have e:onTI E A znq (fun te=>B3 (Nat.blt i len&&Nat.blt 0 te.size) (B0 x (Nat.mul i te.size)))=zs v:=e;show ∃vc,onTI E A znq (fun te=>B3 (Nat.blt i len&&Nat.blt 0 te.size) (B0 xc (Nat.mul i te.size)))=zs vc/\_
  unfold onTI at e|-;cases Q:E.ti A with
  |none=>simp_all
  |some te=>
   rw[Q]at e;simp only at e|-;obtain⟨C,h2⟩:=A7 e;obtain⟨vc,N,U⟩:=Qd H h2;exact⟨vc,by rw[C];exact N,U⟩
 |_=>cases e
theorem uH{d:TD}{i:Nat}(B:VR Z ow h os xc x)(e:Ew E d i x=zs v):∃vc,Ew E d i xc=zs vc/\VR Z ow h os vc v:=by
 cases d with
 |string=>
  obtain⟨s,rfl,e1⟩:=J5 (show x.onStr znq (fun s=>A6 (HJ s i) fun b=>zs (.int .u8 (Int.ofNat b.toNat)))=zs v from e);rw[B.isS];obtain⟨b,_,h2⟩:=A1 e1;cases h2;exact⟨_,e,.i _ _⟩
 |array len A=>
  have e:onTI E A znq (fun te=>B3 (Nat.blt i len) (x.onAgg znq fun cs=>partOf te cs (Nat.mul i te.size)))=zs v:=e;show ∃vc,onTI E A znq (fun te=>B3 (Nat.blt i len) (xc.onAgg znq fun cs=>partOf te cs (Nat.mul i te.size)))=zs vc/\_
  unfold onTI at e|-;cases N:E.ti A with
  |none=>simp_all
  |some te=>
   rw[N]at e;simp only at e|-;obtain⟨C,h2⟩:=A7 e;obtain⟨cs,rfl,G⟩:=Jg h2;obtain⟨xs,rfl,hl⟩:=B.agI;obtain⟨vc,H,J⟩:=hl.part G;exact⟨vc,by rw[C];exact H,J⟩
 |_=>cases e
end
end Go.AM
