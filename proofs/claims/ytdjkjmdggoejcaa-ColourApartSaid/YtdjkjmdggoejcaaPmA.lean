/- The tree machine: code as trees, memory by kept numbers, and that it says what the machine does. Conditions: none. -/
import Derived.Test.YtdjkjmdggoejcaaAmEight
set_option linter.unusedVariables false
set_option linter.unusedSimpArgs false
set_option linter.unusedSectionVars false
set_option linter.defProp false
set_option maxHeartbeats 4000000
open List renaming length→lz
open Option renaming some→zs,none→znq
open Bool renaming true→zt,false→zf
open List renaming replicate→zqa,getElem?_eq_some_iff→zqb,getElem?_set→zqc,getElem?_eq_getElem→zqd,mem_of_getElem?→zqe,all_eq_true→zqf,length_set→zqg,mem_cons_self→zqh,getElem?_of_mem→zqi,length_replicate→zqj,append_cancel_left→zqk,getElem?_append→zql,eq_nil_of_length_eq_zero→zqm,length→zqn,mem_singleton→zqo,mem_append→zqp,length_append→zqq,mem_cons_of_mem→zqr,take_length→zqs
open Nat renaming le_refl→zqt,lt_of_lt_of_le→zqu,zero_add→zqv,ble_eq_true_of_le→zqw,le_succ→zqx,lt_succ_self→zqy,le_trans→zqz
namespace Go.AM
def Le{α:Type}(bad r r':α):Prop:=r=bad\/r'=r
section
variable {α β:Type}{b r r':α}{c:β}
theorem Le.same:Le b r r:=.inr rfl
theorem Le.none:Le b b r:=.inl rfl
theorem Le.bind{k k':α->β}(h:Le b r r')(B:k b=c)(hkk:∀x,Le c (k x) (k' x)):Le c (k r) (k' r'):=by
 rcases h with h|h
 . subst h;exact .inl B
 grind
theorem Le.map{k:α->β}(h:Le b r r')(B:k b=c):Le c (k r) (k r'):=h.bind B fun _=>.same
theorem Le.cond{t:Bool}{x y B C:α}(h1:Le b x B)(h2:Le b y C):Le b (bif t then x else y) (bif t then B else C):=by
 grind
theorem Le.of_ne(h:Le b r r')(hn:r≠b):r'=r:=h.elim (fun e=>absurd e hn) id
end
section
variable {E:Env}{call call':E3}{ih ih':E9}
def FO(call call':E3):Prop:=∀f l h,Le Res.bad (call f l h) (call' f l h)
def Zl(ih ih':E9):Prop:=∀c fr h,Le cz.bad (ih c fr h) (ih' c fr h)
theorem Rx(hc:FO call call')(op:Op)(fr:Tr)(h:Vg):Le .bad (fg E call op fr h) (fg E call' op fr h):=by
 cases op with
 |call c=>
  obtain⟨B,args,ts⟩:=c;cases B with
  |value f=>
   show Le _ (Y9 call (opv E f fr) (fk E args.toList fr) h) (Y9 call' (opv E f fr) (fk E args.toList fr) h)
   cases opv E f fr with
   |fn g first caps=>
    cases g with
    |func n=>exact hc _ _ _
    |_=>exact .same
   |_=>exact .same
  |_=>exact .same
 |_=>exact .same
theorem lw{α:Type}{b:α}{o:Option Bool}{t t' f f':α}(h1:Le b t t')(h2:Le b f f'):Le b (iw o b t f) (iw o b t' f'):=by
 cases o with
 |none=>exact .same
 |some x=>cases x<;>assumption
theorem Vb(hc:FO call call'):∀(l:List XOp)(fr:Tr)(h:Vg),Le .bad (I3 E call l fr h) (I3 E call' l fr h)
 |[],_,_=>.same
 |o :: l,fr,h=>lw ((Rx hc o.op fr h).bind (k:=X4 o.dst (I3 E call l) fr) (k':=X4 o.dst (I3 E call' l) fr) rfl fun x=>by
     cases x with
     |ok v h'=>exact Vb hc l _ _
     |_=>exact .same) (Vb hc l _ _)
theorem gD(hc:FO call call')(o:XOp)(fr:Tr)(h:Vg)(d:List Nat):Le .bad (dq E call o fr h d) (dq E call' o fr h d):=by
 unfold dq;exact .cond ((Rx hc o.op fr _).map rfl) (.cond (.cond ((Rx hc o.op fr h).map rfl) .same) ((Rx hc o.op fr h).map rfl))
theorem Mx(hc:FO call call'):∀(l:List XOp)(late:List Bool)(fr:Tr)(h:Vg)(d:List Nat),Le zf (fb E call l late fr h d) (fb E call' l late fr h d)
 |[],_,_,_,_=>.same
 |o::l,[],fr,h,d=>.same
 |o::l,zt::late,fr,h,d=>Mx hc l late _ h d
 |o :: l,zf::late,fr,h,d=>lw ((gD hc o fr h d).bind (k:=fw o.dst (fb E call l late) fr) (k':=fw o.dst (fb E call' l late) fr) rfl fun x=>by
     cases x with
     |ok v h' d'=>exact Mx hc l late _ _ _
     |_=>exact .same) (Mx hc l late _ h d)
theorem Oo(hc:FO call call'):∀(l:List XOp)(fr:Tr)(h:Vg)(d:List Nat),Le .bad (dm E call l fr h d) (dm E call' l fr h d)
 |[],_,_,_=>.same
 |o :: l,fr,h,d=>lw ((gD hc o fr h d).bind (k:=O6 o.dst (dm E call l) (fb E call l o.late (co o.dst Yw fr) h d) fr) (k':=O6 o.dst (dm E call' l) (fb E call' l o.late (co o.dst Yw fr) h d) fr) rfl fun x=>by
     cases x with
     |ok v h' d'=>exact Oo hc l _ _ _
     |pan v h'=>exact(Mx hc l o.late (co o.dst Yw fr) h d).map (k:=fun w=>bif w then cz.pan v h' else .bad) rfl
     |bad=>exact .same) (Oo hc l _ _ _)
theorem yH(hi:Zl ih ih')(m:FM)(nt:Nat)(caps:List AV)(p:AV)(h:Vg):Le .bad (DD ih m nt caps p h) (DD ih' m nt caps p h):=by
 cases m with
 |rcv d d2 rest=>exact .cond ((hi _ _ _).map rfl) .same
 |_=>exact .same
theorem yI(hi:Zl ih ih')(f:Nat)(caps:List AV)(p:AV)(h:Vg):Le .bad (Sp E ih f caps p h) (Sp E ih' f caps p h):=by
 unfold Sp;cases E.fn f with
 |none=>exact .same
 |some fi=>exact .cond (yH hi _ _ _ _ _) .same
theorem mY(hi:Zl ih ih')(x p:AV)(h:Vg):Le .bad (Du E ih x p h) (Du E ih' x p h):=by
 cases x with
 |fn f first caps=>
  cases f with
  |func n=>exact .cond (yI hi _ _ _ _) .same
  |_=>exact .same
 |_=>exact .same
theorem pT(hi:Zl ih ih')(x:AV)(rs:List ResultVar)(fr:Tr)(r:cz):Le .bad (J4 E ih x rs fr r) (J4 E ih' x rs fr r):=by
 cases r with
 |ok e B h=>
  cases e with
  |exit _=>exact .same
  |_=>exact(mY hi _ _ _).map (k:=j8 E rs B) rfl
 |pan v h=>exact(mY hi _ _ _).map (k:=j8 E rs fr) rfl
 |bad=>exact .same
theorem mZ(hi:Zl ih ih')(g:Operand)(rest:XC)(rs:List ResultVar):∀(pre:List XC)(fr:Tr)(h:Vg),Le .bad (s5 E ih g rest rs pre fr h) (s5 E ih' g rest rs pre fr h)
 |[],fr,h=>(hi rest fr h).bind (k:=J4 E ih (opv E g fr) rs fr) (k':=J4 E ih' (opv E g fr) rs fr) rfl fun r=>pT hi _ _ _ r
 |p::pre,fr,h=>(hi p fr h).bind (k:=Ah (s5 E ih g rest rs pre)) (k':=Ah (s5 E ih' g rest rs pre)) rfl fun r=>by
  cases r with
  | ok e B h2=>cases e with
   |normal=>exact mZ hi g rest rs pre B h2
   |_=>exact .same
  |_=>exact .same
theorem yJ(hi:Zl ih ih')(ks:List Nat)(args:List AV)(h:Vg):Le .bad (iZ E ih ks args h) (iZ E ih' ks args h):=.same
theorem uW(hi:Zl ih ih')(B:FI)(args:List AV)(h:Vg):Le .bad (Ps E ih B args h) (Ps E ih' B args h):=by
 unfold Ps;cases B.mode with
 |dfr pre g rest=>grind[mZ]
 |rcv _ _ _=>exact .same
 |_=>exact(hi B.code _ h).map (k:=J0 E B.results) rfl
theorem Zm(hi:Zl ih ih')(f:Nat)(args:List AV)(h:Vg):Le .bad (O7 E ih f args h) (O7 E ih' f args h):=by
 unfold O7;refine .cond .same ?_;cases E.dlf f with
 |some ks=>grind[yJ]
 |none=>
  dsimp only;cases wg E f args h with
  |some r=>exact .same
  |none=>
   dsimp only;cases E.fn f with
   |none=>exact .same
   |some B=>exact .cond (uW hi B args h) .same
theorem gE(hi:Zl ih ih'):FO (G8 E ih) (G8 E ih'):=fun f l h=>by
 unfold G8;exact .cond ((Zm hi f l _).map rfl) (Zm hi f l h)
theorem jv{k k':Tr->Vg->gn}(B:∀fr h,Le .bad (k fr h) (k' fr h)){r r':cz}(h:Le .bad r r'):Le .bad (J1 k r) (J1 k' r'):=
 h.bind (k:=J1 k) (k':=J1 k') rfl fun x=>by
  cases x with
  | ok e fr h=>cases e with
   |normal=>exact B fr h
   |_=>exact .same
  |_=>exact .same
def MB(Y B:List AV->Vg->cz):Prop:=∀l h,Le .bad (Y l h) (B l h)
theorem uX{k k':Tr->Vg->cz}(B:∀fr h,Le .bad (k fr h) (k' fr h)){r r':cz}(h:Le .bad r r'):Le .bad (Dm k r) (Dm k' r'):=
 h.bind (k:=Dm k) (k':=Dm k') rfl fun x=>by
  cases x with
  | ok e fr h=>cases e with
   |normal=>exact B fr h
   |_=>exact .same
  |_=>exact .same
theorem pU(hi:Zl ih ih')(ps:List Tmp)(a b:XC)(fr:Tr):MB (ee ih ps a b fr) (ee ih' ps a b fr):=fun l h =>
 .cond (uX (fun fr h=>hi b fr h) (hi a _ h)) .same
theorem yK(hi:Zl ih ih')(p2:XC)(yd:Tmp)(fr:Tr){r r':cz}(h:Le .bad r r'):Le .bad (Ia ih p2 yd fr r) (Ia ih' p2 yd fr r'):=
 h.bind (k:=Ia ih p2 yd fr) (k':=Ia ih' p2 yd fr) rfl fun x=>by
  cases x with
  |ok e fr h=>cases e<;>exact jv (fun _ _=>.same) (hi _ _ _)
  |_=>exact .same
theorem yb(hi:Zl ih ih'){Y B:List AV->Vg->cz}(C:MB Y B)(nt:Nat)(gd:Option (Option Tmp×Bool))(yt:Tmp)(p1:XC)(yd:Tmp)(args:List Operand)(p2:XC)(p:Option Ex)(fr:Tr)(h:Vg):
 Le .bad (dY E ih nt Y gd yt p1 yd args p2 p fr h) (dY E ih' nt B gd yt p1 yd args p2 p fr h):=by
 unfold dY;cases p with
 |some _=>exact .same
 |none=>exact .cond (jv (fun fr h=>lw (yK hi p2 yd fr (C _ _)) .same) (hi _ _ _)) .same
theorem c0l(hi:Zl ih ih')(gd:Option (Option Tmp×Bool))(yt:Tmp)(p1:XC)(yd:Tmp)(p2:XC)(p:Option Ex)(fr:Tr)(h:Vg):
 Le .bad (zJ ih gd yt p1 yd p2 p fr h) (zJ ih' gd yt p1 yd p2 p fr h):=by
 unfold zJ;exact jv (fun fr h=>lw .same (jv (fun _ _=>.same) (hi _ _ _))) (hi _ _ _)
theorem nA{b B:Option Ex->Tr->Vg->gn}(hb:∀p fr h,Le .bad (b p fr h) (B p fr h)){r r':gn}(h:Le .bad r r'):Le .bad (Ll b r) (Ll B r'):=
 h.bind (k:=Ll b) (k':=Ll B) rfl fun x=>by
  cases x with
  | ok e p fr h=>cases e with
   |normal=>exact hb p fr h
   |_=>exact .same
  |bad=>exact .same
theorem uY(hi:Zl ih ih'){Y C:List AV->Vg->cz}(G:MB Y C)(nt:Nat):∀(m:Nat)(c:IC)(p:Option Ex)(fr:Tr)(h:Vg),Le .bad (evI E ih nt Y m c p fr h) (evI E ih' nt C m c p fr h)
 |0,c,p,fr,h=>.same
 |m+1,c,p,fr,h=>by
  have B:=uY hi G nt m;show Le .bad (dZ E ih nt Y (evI E ih nt Y m) c p fr h) (dZ E ih' nt C (evI E ih' nt C m) c p fr h)
  cases c with
  |reg x=>exact jv (fun _ _=>.same) (hi _ _ _)
  |yreg p0 gd yt p1 yd args p2=>exact jv (by grind[Go.AM.lw,Go.AM.yb,Go.AM.c0l]) (hi _ _ _)
  |seq a b=>exact nA (fun p fr h=>B b p fr h) (B a p fr h)
  |cond x a b=>
   show Le .bad ((opv E x fr).onBool .bad fun t=>match t with|true=>evI E ih nt Y m a p fr h|false=>evI E ih nt Y m b p fr h) ((opv E x fr).onBool .bad fun t=>match t with|true=>evI E ih' nt C m a p fr h|false=>evI E ih' nt C m b p fr h)
   cases opv E x fr with
   |bool t=>cases t;exact B b p fr h;exact B a p fr h
   |_=>exact .same
  |block id c=>exact(B c p fr h).map (k:=Js id) rfl
  |loop c=>exact nA (fun p fr h=>B (.loop c) p fr h) (B c p fr h)
  |_=>exact .same
theorem FP(hi:Zl ih ih'){Y B:List AV->Vg->cz}(C:MB Y B)(m:FM)(nt:Nat)(caps:List AV)(h:Vg):Le .bad (itM E ih m nt caps Y h) (itM E ih' m nt caps B h):=by
 cases m with
 |itf c=>exact(uY hi C nt je c znq _ h).map (k:=wh) rfl
 |_=>exact .same
theorem FQ(hi:Zl ih ih'){Y B:List AV->Vg->cz}(C:MB Y B)(f:Nat)(caps:List AV)(h:Vg):Le .bad (itF E ih f caps Y h) (itF E ih' f caps B h):=by
 unfold itF;cases E.fn f with
 |none=>exact .same
 |some fi=>exact .cond (FP hi C _ _ _ _) .same
theorem yL(hi:Zl ih ih')(ps:List Tmp)(a b:XC)(fr:Tr)(h:Vg)(g:AV):Le .bad (qq E ih ps a b fr h g) (qq E ih' ps a b fr h g):=by
 cases g with
 |fn f first caps=>
  cases f with
  |func n=>exact .cond ((FQ hi (pU hi ps a b fr) n caps h).map (k:=mz fr) rfl) .same
  |_=>exact .same
 |_=>exact .same
theorem nB{b B:Tr->Vg->cz}(hb:∀fr h,Le .bad (b fr h) (B fr h)){r r':cz}(h:Le .bad r r'):Le .bad (Dv b r) (Dv B r'):=
 h.bind (k:=Dv b) (k':=Dv B) rfl fun x=>by
  cases x with
  | ok e fr h=>cases e with
   |normal=>exact hb fr h
   |_=>exact .same
  |_=>exact .same
theorem yM(hi:Zl ih ih')(c:XC)(fr:Tr)(h:Vg):Le .bad (step E ih c fr h) (step E ih' c fr h):=by
 have B:=gE (E:=E) hi;cases c with
 |reg d l=>
  cases d with
  |false=>exact Vb B l fr h
  |true=>exact Oo B l fr h []
 |seq a b=>exact nB (hi b) (hi a fr h)
 |loop a=>exact nB (hi (.loop a)) (hi a fr h)
 |scope a=>exact hi a fr h
 |block id a=>exact(hi a fr h).map (k:=Em id) rfl
 |cond x a b=>
  show Le .bad (Pt (ih a) (ih b) (opv E x fr) fr h) (Pt (ih' a) (ih' b) (opv E x fr) fr h)
  cases opv E x fr with
  |bool t=>cases t;exact hi b fr h;exact hi a fr h
  |_=>exact .same
 |rfn g ps a b=>exact yL hi ps a b fr h _
 |rngm R y=>exact .same
 |_=>exact .same
theorem wo:∀n:Nat,Zl (ev E n) (ev E (n+1))
 |0=>fun c fr h=>.none
 |n+1=>fun c fr h=>yM (wo n) c fr h
theorem CH(n k:Nat):Zl (ev E n) (ev E (n+k)):=by
 induction k with
 |zero=>exact fun _ _ _=>.same
 |succ k ih=>
  intro c fr h;rcases ih c fr h with e|e
  . exact .inl e
  . rcases wo (E:=E) (n+k) c fr h with e2|e2
    . exact .inl (e.symm.trans e2)
    . exact .inr (e2.trans e)
theorem yN(n k:Nat):FO (G8 E (ev E n)) (G8 E (ev E (n+k))):=gE (CH n k)
end
structure Lim{R:Type}(bad:R)(g:Nat->R)(r:R):Prop where
 ok:r≠bad->∃n,∀m,n<=m->g m=r
 no:r=bad->∀m,g m=bad
 early:∀n,g n=bad\/g n=r
open Classical in
noncomputable def nC{R:Type}(bad:R)(g:Nat->R):R:=if hx:∃n,g n≠bad then g hx.choose else bad
theorem Zn{R:Type}{bad:R}{g:Nat->R}(G:∀n k,Le bad (g n) (g (n+k))):Lim bad g (nC bad g):=by
 unfold nC;by_cases B:∃n,g n≠bad
 . rw [dif_pos B]
   have C:∀n,g n≠bad->∀m,n<=m->g m=g n:=fun n hn m hm'=>by
    have:=(G n (m-n)).of_ne hn
    grind
   refine⟨fun _=>⟨B.choose,C _ B.choose_spec⟩,fun e=>absurd e B.choose_spec,fun n=>?_⟩;grind
 . rw[dif_neg B]
   have:∀n,g n=bad:=(by grind)
   exact⟨fun e=>absurd rfl e,fun _ m=>this m,fun n=>.inl (this n)⟩
theorem Lim.unique{R:Type}{bad:R}{g:Nat->R}{r r':R}(h:Lim bad g r)(h':Lim bad g r'):r=r':=by
 by_cases e:r=bad
 . by_cases B:r'=bad
   . rw[e,B]
   . obtain⟨n,hn⟩:=h'.ok B
     exact absurd ((hn n (zqt _)).symm.trans (h.no e n)) B
 . by_cases B:r'=bad
   . obtain⟨n,hn⟩:=h.ok e
     exact absurd ((hn n (zqt _)).symm.trans (h'.no B n)) e
   . obtain⟨n,hn⟩:=h.ok e
     obtain⟨m,C⟩:=h'.ok B;exact(hn (n+m) (by omega)).symm.trans (C (n+m) (by omega))
theorem Lim.const{R:Type}{bad r:R}:Lim bad (fun _=>r) r:=⟨fun _=>⟨0,fun _ _=>rfl⟩,fun e _=>e,fun _=>.inr rfl⟩
theorem Lim.shift{R:Type}{bad:R}{g:Nat->R}{r:R}(h:Lim bad (fun n=>g (n+1)) r)(h0:g 0=bad):Lim bad g r:=by
 refine⟨fun e=>?_,fun e m=>?_,fun m=>?_⟩
 . obtain⟨n,hn⟩:=h.ok e
   exact⟨n+1,fun m hm=>by have:=hn (m-1) (by omega);grind⟩
 . cases m with
   |succ m=>exact h.no e m
   |zero=>exact h0
 . cases m with
   |succ m=>exact h.early m
   |zero=>grind
theorem Lim.bind{R S:Type}{bad:R}{B:S}{g:Nat->R}{r:R}{k:Nat->R->S}{s:R->S}(hg:Lim bad g r)(G:∀n,k n bad=B)(H:s bad=B)(hl:r≠bad->Lim B (fun n=>k n r) (s r)):Lim B (fun n=>k n (g n)) (s r):=by
 by_cases e:r=bad
 . subst e
   have:∀n,k n (g n)=B:=fun n=>by rw[hg.no rfl n];exact G n
   exact⟨fun e=>absurd H e,fun _ m=>this m,fun n=>.inl (this n)⟩
 . have hl:=hl e
   refine⟨fun C=>?_,fun C m=>?_,fun m=>?_⟩
   . obtain⟨n,hn⟩:=hg.ok e
     obtain⟨m,hm⟩:=hl.ok C;exact⟨n+m,(by grind)⟩
   . show k m (g m)=B
     rcases hg.early m with h|h
     . grind
     . rw[h];exact hl.no C m
   . rcases hg.early m with h|h
     . grind
     . show k m (g m)=B\/k m (g m)=s r
       rw[h];exact hl.early m
section
variable {E:Env}
noncomputable def evω(E:Env):E9:=fun c fr h=>nC .bad fun n=>ev E n c fr h
noncomputable def du(E:Env):E3:=fun f l h=>nC .bad fun n=>G8 E (ev E n) f l h
theorem ga(c:XC)(fr:Tr)(h:Vg):Lim .bad (fun n=>ev E n c fr h) (evω E c fr h):=Zn fun n k=>CH n k c fr h
theorem By(f:Nat)(l:List AV)(h:Vg):Lim .bad (fun n=>G8 E (ev E n) f l h) (du E f l h):=Zn fun n k=>yN n k f l h
theorem Vd(op:Op)(fr:Tr)(h:Vg):Lim .bad (fun n=>fg E (G8 E (ev E n)) op fr h) (fg E (du E) op fr h):=by
 cases op with
 |call c=>
  obtain⟨B,args,ts⟩:=c;cases B with
  |value f=>
   show Lim .bad (fun n=>Y9 (G8 E (ev E n)) (opv E f fr) (fk E args.toList fr) h) (Y9 (du E) (opv E f fr) (fk E args.toList fr) h)
   cases opv E f fr with
   |fn g first caps=>
    cases g with
    |func n=>exact By _ _ _
    |_=>exact .const
   |_=>exact .const
  |_=>exact .const
 |_=>exact .const
theorem Oq:∀(l:List XOp)(fr:Tr)(h:Vg),Lim .bad (fun n=>I3 E (G8 E (ev E n)) l fr h) (I3 E (du E) l fr h)
 |[],fr,h=>.const
 |o :: l,fr,h=>by
  have e:∀call:E3,I3 E call (o::l) fr h=iw (cm o.gd fr) .bad (X4 o.dst (I3 E call l) fr (fg E call o.op fr h)) (I3 E call l (co o.dst Yw fr) h):=fun _=>rfl
  simp only[e];cases cm o.gd fr with
  |none=>exact .const
  |some b=>
   cases b with
   |false=>exact Oq l _ _
   |true=>
    show Lim .bad (fun n=>X4 o.dst (I3 E (G8 E (ev E n)) l) fr (fg E (G8 E (ev E n)) o.op fr h)) (X4 o.dst (I3 E (du E) l) fr (fg E (du E) o.op fr h))
    refine(Vd (E:=E) o.op fr h).bind (k:=fun n r=>X4 o.dst (I3 E (G8 E (ev E n)) l) fr r) (s:=fun r=>X4 o.dst (I3 E (du E) l) fr r) (fun _=>rfl) rfl (fun B=>?_);generalize fg E (du E) o.op fr h=r at B;cases r with
    |ok v h'=>exact Oq l _ _
    |_=>exact .const
theorem Zo(o:XOp)(fr:Tr)(h:Vg)(d:List Nat):Lim .bad (fun n=>dq E (G8 E (ev E n)) o fr h d) (dq E (du E) o fr h d):=by
 unfold dq;cases o.quiet with
 |true=>
  simp only[cond_true];exact(Vd (E:=E) o.op fr {h with tch:=[]}).bind (k:=fun _ r=>w8 h.next h.tch d r) (s:=fun r=>w8 h.next h.tch d r) (fun _=>rfl) rfl (fun _=>.const)
 |false=>
  simp only[cond_false];have B:=(Vd (E:=E) o.op fr h).bind (k:=fun _ r=>u6 d r) (s:=fun r=>u6 d r) (fun _=>rfl) rfl (fun _=>.const);cases o.careful with
  |false=>exact B
  |true=>
   simp only[cond_true];cases ly (lu E o.op fr) d with
   |false=>exact .const
   |true=>exact B
theorem Hh:∀(l:List XOp)(late:List Bool)(fr:Tr)(h:Vg)(d:List Nat),Lim zf (fun n=>fb E (G8 E (ev E n)) l late fr h d) (fb E (du E) l late fr h d)
 |[],_,_,_,_=>.const
 |o::l,[],fr,h,d=>.const
 |o::l,zt::late,fr,h,d=>Hh l late _ h d
 |o :: l,zf::late,fr,h,d=>by
  show Lim zf (fun n=>iw (cm o.gd fr) zf (fw o.dst (fb E (G8 E (ev E n)) l late) fr (dq E (G8 E (ev E n)) o fr h d)) (fb E (G8 E (ev E n)) l late (co o.dst Yw fr) h d)) (iw (cm o.gd fr) zf (fw o.dst (fb E (du E) l late) fr (dq E (du E) o fr h d)) (fb E (du E) l late (co o.dst Yw fr) h d))
  cases cm o.gd fr with
  |none=>exact .const
  |some b=>
   cases b with
   |false=>exact Hh l late _ h d
   |true=>
    refine(Zo (E:=E) o fr h d).bind (k:=fun n r=>fw o.dst (fb E (G8 E (ev E n)) l late) fr r) (s:=fun r=>fw o.dst (fb E (du E) l late) fr r) (fun _=>rfl) rfl (fun B=>?_);generalize dq E (du E) o fr h d=r at B;cases r with
    |ok v h' d'=>exact Hh l late _ _ _
    |_=>exact .const
theorem Kl:∀(l:List XOp)(fr:Tr)(h:Vg)(d:List Nat),Lim .bad (fun n=>dm E (G8 E (ev E n)) l fr h d) (dm E (du E) l fr h d)
 |[],fr,h,d=>.const
 |o :: l,fr,h,d=>by
  have e:∀call:E3,dm E call (o::l) fr h d=iw (cm o.gd fr) .bad (O6 o.dst (dm E call l) (fb E call l o.late (co o.dst Yw fr) h d) fr (dq E call o fr h d)) (dm E call l (co o.dst Yw fr) h d):=fun _=>rfl
  simp only[e];cases cm o.gd fr with
  |none=>exact .const
  |some b=>
   cases b with
   |false=>exact Kl l _ _ _
   |true=>
    refine(Zo (E:=E) o fr h d).bind (k:=fun n r=>O6 o.dst (dm E (G8 E (ev E n)) l) (fb E (G8 E (ev E n)) l o.late (co o.dst Yw fr) h d) fr r) (s:=fun r=>O6 o.dst (dm E (du E) l) (fb E (du E) l o.late (co o.dst Yw fr) h d) fr r) (fun _=>rfl) rfl (fun B=>?_);generalize dq E (du E) o fr h d=r at B;cases r with
    |ok v h' d'=>exact Kl l _ _ _
    |pan v h'=>exact(Hh l o.late (co o.dst Yw fr) h d).bind (k:=fun _ w=>bif w then cz.pan v h' else .bad) (s:=fun w=>bif w then cz.pan v h' else .bad) (fun _=>rfl) rfl (fun _=>.const)
    |bad=>exact .const
theorem gH(a b:XC)(fr:Tr)(h:Vg):Lim .bad (fun n=>Dv (ev E n b) (ev E n a fr h)) (Dv (evω E b) (evω E a fr h)):=by
 refine(ga (E:=E) a fr h).bind (k:=fun n r=>Dv (ev E n b) r) (s:=fun r=>Dv (evω E b) r) (fun _=>rfl) rfl (fun B=>?_);generalize evω E a fr h=r at B;cases r with
 | ok e fr' h'=>cases e with
  |normal=>exact ga b fr' h'
  |_=>exact .const
 |_=>exact .const
theorem c7{c:XC}{fr:Tr}{h:Vg}{r:cz}(hl:Lim .bad (fun n=>ev E (n+1) c fr h) r):evω E c fr h=r:=(ga (E:=E) c fr h).unique (Lim.shift hl rfl)
theorem FS{fr:Tr}{h:Vg}:evω E .skip fr h=.ok .normal fr h:=c7 .const
theorem MC{fr:Tr}{h:Vg}:evω E .ret fr h=.ok .ret fr h:=c7 .const
theorem FT{fr:Tr}{h:Vg}(i:Nat):evω E (.exit i) fr h=.ok (.exit i) fr h:=c7 .const
theorem CI{fr:Tr}{h:Vg}(a b:XC):evω E (.seq a b) fr h=Dv (evω E b) (evω E a fr h):=c7 (gH a b fr h)
theorem MD{fr:Tr}{h:Vg}(l:List XOp):evω E (.reg zf l) fr h=I3 E (du E) l fr h:=c7 (Oq l fr h)
theorem FU{fr:Tr}{h:Vg}(l:List XOp):evω E (.reg zt l) fr h=dm E (du E) l fr h []:=c7 (Kl l fr h [])
theorem FV{fr:Tr}{h:Vg}(x:Operand)(a b:XC):evω E (.cond x a b) fr h=Pt (evω E a) (evω E b) (opv E x fr) fr h:=c7 (by
 show Lim .bad (fun n=>Pt (ev E n a) (ev E n b) (opv E x fr) fr h) (Pt (evω E a) (evω E b) (opv E x fr) fr h)
 cases opv E x fr with
 |bool t=>cases t;exact ga b fr h;exact ga a fr h
 |_=>exact .const)
theorem yO{fr:Tr}{h:Vg}(i:Nat)(a:XC):evω E (.block i a) fr h=Em i (evω E a fr h):=
 c7 ((ga (E:=E) a fr h).bind (k:=fun _ r=>Em i r) (s:=fun r=>Em i r) (fun _=>rfl) rfl (fun _=>.const))
theorem FW{fr:Tr}{h:Vg}(a:XC):evω E (.loop a) fr h=Dv (evω E (.loop a)) (evω E a fr h):=c7 (gH a (.loop a) fr h)
theorem yP{fr:Tr}{h:Vg}(a:XC):evω E (.scope a) fr h=evω E a fr h:=c7 (ga a fr h)
theorem Xh{f:Nat}{l:List AV}{h:Vg}{r:Res}(hc:du E f l h=r)(hb:r≠.bad):∃n,run E n f l h=r:=by
 obtain⟨n,hn⟩:=(By (E:=E) f l h).ok (by grind);exact⟨n,(hn n (zqt _)).trans hc⟩
end
theorem Tr.has_mk':∀(f n i:Nat),n<2^f->(Tr.mk f n).has i=decide (i<n)
 |0,n,i,h=>by
  have:n=0:=by grind
  subst this;simp[Tr.mk_zero];rfl
 |f+1,0,i,_=>by simp[Tr.mk_succ_zero];rfl
 |f+1,k+1,0,_=>by rw[Tr.mk_succ];simp[Tr.has_zero]
 |f + 1,k+1,i+1,h=>by
  rw[Tr.mk_succ,Tr.has_succ];have e1:Nat.shiftRight i 1=i/2:=Nat.shiftRight_eq_div_pow i 1;have e2:Nat.land i 1=i%2:=Nat.and_one_is_mod i;have e3:Nat.div (k+1) 2=(k+1)/2:=rfl;have e4:Nat.div k 2=k/2:=rfl;rw[e1,e2,e3,e4];rw[Nat.pow_succ]at h;rcases Nat.mod_two_eq_zero_or_one i with hi|hi<;>rw[hi]
  . show(Tr.mk f ((k+1)/2)).has (i/2)=_
    rw[Tr.has_mk' f _ _ (by omega),decide_eq_decide];omega
  . show(Tr.mk f (k/2)).has (i/2)=_
    rw[Tr.has_mk' f _ _ (by omega),decide_eq_decide];omega
section
variable {E:Env}{fr:Tr}{h:Vg}
variable {call:E3}
theorem uZ(k:IntKind)(n:Int):Im k n=zs (.int k n):=Ns _ _
theorem Hi(k:IntKind)(n:Int):R3 k n=zs (.int k (k.wrap n)):=by unfold R3;rw[uZ,Sv]
theorem U6(b:Bool):F8 b=zs (.bool b):=by cases b<;>rfl
theorem Gh(k:IntKind):gy k k=zt:=(X5 k k).2 rfl
theorem Hj(k:IntKind)(a b:Int)(f:IntKind->Int->Int->Option AV):u4 (.int k a) (.int k b) f=f k a b:=by
 show(bif gy k k then f k a b else znq)=_
 rw[Gh];rfl
theorem ME(fl:EqK)(k:IntKind)(a b:Int):Q7 .add fl (.int k a) (.int k b)=zs (.int k (k.wrap (a+b))):=by
 show u4 (.int k a) (.int k b) (fun k a b=>R3 k (a+b))=_;rw[Hj,Hi]
theorem MF(fl:EqK)(k:IntKind)(a b:Int):Q7 .sub fl (.int k a) (.int k b)=zs (.int k (k.wrap (a-b))):=by
 show u4 _ _ _=_;rw[Hj,Hi]
theorem MG(fl:EqK)(k:IntKind)(a b:Int):Q7 .eql fl (.int k a) (.int k b)=zs (.bool (decide (a=b))):=by
 show A5 (bif gy k k then zs (mj a b)else znq) F8=_
 rw[Gh,Bm];show F8 (a==b)=_
 rw[U6];congr 2
theorem MH(fl:EqK)(k:IntKind)(a b:Int):Q7 .neq fl (.int k a) (.int k b)=zs (.bool (!decide (a=b))):=by
 show A5 (bif gy k k then zs (mj a b)else znq) (fun b=>F8 (!b))=_
 rw[Gh,Bm];show F8 (!(a==b))=_
 rw[U6];congr 2
theorem FX(fl:EqK)(a b:List UInt8):Q7 .eql fl (.str a) (.str b)=zs (.bool (decide (a=b))):=by
 show A5 (zs (Pp a b)) F8=_
 rw[Ep];show F8 (a==b)=_
 grind[U6]
theorem FY(fl:EqK)(a b:List UInt8):Q7 .neq fl (.str a) (.str b)=zs (.bool (!decide (a=b))):=by
 show A5 (zs (Pp a b)) (fun b=>F8 (!b))=_
 rw[Ep];show F8 (!(a==b))=_
 grind[U6]
theorem MI(fl:EqK)(k:IntKind)(a b:Int):Q7 .lss fl (.int k a) (.int k b)=zs (.bool (decide (a<b))):=by
 show u4 _ _ _=_;grind[Hj,U6,R6]
theorem MJ(fl:EqK)(k:IntKind)(a b:Int):Q7 .leq fl (.int k a) (.int k b)=zs (.bool (decide (a<=b))):=by
 show u4 _ _ _=_;rw[Hj,U6,R6]
theorem MK(fl:EqK)(k:IntKind)(a b:Int):Q7 .gtr fl (.int k a) (.int k b)=zs (.bool (decide (b<a))):=by
 show u4 _ _ _=_;grind[Hj,U6,R6]
theorem ML(fl:EqK)(k:IntKind)(a b:Int):Q7 .geq fl (.int k a) (.int k b)=zs (.bool (decide (b<=a))):=by
 show u4 _ _ _=_;rw[Hj,U6,R6]
theorem sx(a:Bool):Pq .not (.bool a)=zs (.bool (!a)):=U6 _
theorem Gg(k j:IntKind)(n:Int):R4 (.int k) (.int j n)=zs (.int k (k.wrap n)):=Hi _ _
end
section
variable {E:Env}{I:Nat->Prop}{h h':Vg}{sz:Nat}{v x:AV}{es:List AV}
end
section
variable {α β:Type}{R:α->β->Prop}{l:List α}{m:List β}
end
section
variable {E:Env}{fr:Tr}{h:Vg}{call:E3}{D:List Nat}
end
theorem Qf{n:Nat}:∀{l:List Nat},(∀i∈l,n<=i)->I4 n l=[]
 |[],_=>rfl
 |i::l,hl=>by
  show(bif Nat.blt i n then i::I4 n l else I4 n l)=[]
  have h1:=hl i (zqh ..)
  have:Nat.blt i n=zf:=by
   cases e:Nat.blt i n with
   |false=>rfl
   |true=>have:i+1<=n:=Nat.le_of_ble_eq_true e;omega
  rw[this];exact Qf (by grind)
noncomputable section
abbrev PF:=List (Nat×AV)
inductive PO where
 |row (k:Nat) (es:List AV) (sz:Nat)
 |mapo (es:List (AV×AV))
 |sub (p i o:Nat)
 |dead
structure PK where
 os:List PO
 ext:Nat
 tch:List Nat
def di(k sz:Nat)(es:List AV):AV:=.tup (.ptr k 0 sz::es)
def fe(c:AV):Option (Nat×List AV×Nat):=match c with | .tup (.ptr k 0 sz::es)=>zs (k,es,sz)|_=>znq
def cd(os:List PO):Nat->Nat->Option (Nat×List AV×Nat)
 |0,_=>znq
 | n + 1,id=>match os[id]? with
  |some (.row k es sz)=>zs (k,es,sz)
  | some (.sub p i o)=>match cd os n p with
   | some (_,es,_)=>match es[i]? with
    | some v=>match v.cells[o]? with
     |some c=>fe c
     |none=>znq
    |none=>znq
   |none=>znq
  |_=>znq
def od(v:AV)(o:Nat)(c:AV):AV:=match v with | .agg cs=>.agg (cs.set o c)|_=>c
def dg(os:List PO):Nat->Nat->List AV->Option (List PO)
 |0,_,_=>znq
 | n + 1,id,es'=>match os[id]? with
  |some (.row k _ sz)=>zs (os.set id (.row k es' sz))
  | some (.sub p i o)=>match cd os n p with
   | some (_,es,_)=>match es[i]? with
    | some v=>match v.cells[o]? with
     | some c=>match fe c with
      |some (k,_,sz)=>dg os n p (es.set i (od v o (di k sz es')))
      |none=>znq
     |none=>znq
    |none=>znq
   |none=>znq
  |_=>znq
def cg(os:List PO):Nat->Nat->Nat
 |0,id=>id
 |n+1,id=>match os[id]? with|some (.sub p _ _)=>cg os n p|_=>id
def ei(os:List PO):Nat->Nat->List Nat
 |0,id=>[id]
 |n+1,id=>id::(match os[id]? with|some (.sub p _ _)=>ei os n p|_=>[])
def X6(os:List PO)(r:Nat)(keep:List Nat):Nat->List PO->List PO
 |_,[]=>[]
 |j,e::l=>(match e with | .sub p i o=>if cg os 6 j=r/\¬j∈keep then .dead else .sub p i o|e=>e)::X6 os r keep (j+1) l
def gm(os:List PO)(r:Nat)(keep:List Nat):List PO:=X6 os r keep 0 os
def MM(p i o:Nat)(e:PO):Bool:=match e with | .sub p' i' o'=>p'==p&&(bne i' i||bne o' o)|_=>zf
def wq(os:List PO):Nat->Nat->PO->Bool
 |0,_,_=>zf
 |n+1,id,e=>match os[id]? with|some (.sub p i o)=>MM p i o e||wq os n p e|_=>zf
def U7(os:List PO)(r:Nat)(keep:List Nat)(id:Nat):Nat->List PO->List PO
 |_,[]=>[]
 |j,e::l=>(match e with | .sub p i o=>if cg os 6 j=r/\¬j∈keep then(bif wq os 6 id (.sub p i o)then .sub p i o else .dead)else .sub p i o|e=>e)::U7 os r keep id (j+1) l
def jg(os:List PO)(id:Nat):List PO:=U7 os (cg os 6 id) (ei os 6 id) id 0 os
def dz(id i:Nat):Nat->Nat->List AV->List AV×List PO
 |_,_,[]=>([],[])
 | o,nx,c::r=>match fe c with
  |some (k,es,sz)=>((match k with|1=>.ptr nx 0 0|_=>.msl nx 0 (lz es) sz)::(dz id i (o+1) (nx+1) r).1,.sub id i o::(dz id i (o+1) (nx+1) r).2)
  |none=>(c::(dz id i (o+1) nx r).1,(dz id i (o+1) nx r).2)
def N7(v:AV)(cs:List AV):AV:=match v with | .agg _=>.agg cs|_=>cs.headD .und
def Ve(id i off:Nat)(w:AV)(K:PK):AV×PK:=(N7 w (dz id i off (lz K.os) w.cells).1,{K with os:=K.os++(dz id i off (lz K.os) w.cells).2})
def clo(c:AV):Bool:=match c with | .int _ _=>zt | .bool _=>zt | .str _=>zt | .fsl _ _=>zt | .fptr _ _=>zt | .x0a=>zt | .x0c=>zt | .x0d=>zt | .x0e=>zt | .x0b=>zt|_=>zf
def Jm(es:List AV):Bool:=es.all fun e=>e.cells.all clo
def Gi(c:AV):Bool:=match c with | .agg _=>zf | .tup _=>zf | .und=>zf|_=>zt
def fv(ext r id i:Nat):Nat->List PO->List AV->Option (List AV×List PO)
 |_,os,[]=>zs ([],os)
 | o,os,c::l=>match clo c with
  |true=>(fv ext r id i (o+1) os l).map fun p=>(c::p.1,p.2)
  | false=>match c with
   | .msl q 0 m sz=>match os[q]? with
    | some (.row 0 es z)=>if m=lz es/\sz=z/\ext<=q/\q≠r then
     (fv ext r id i (o+1) (os.set q (.sub id i o)) l).map fun p=>(di 0 sz es::p.1,p.2)else znq
    |_=>znq
   |_=>znq
def ez(os:List PO)(id:Nat):Bool:=match os[id]? with|some (.row 0 _ _)=>zf|some (.row _ _ _)=>zt|_=>zf
def iv(t:TI)(p x:AV)(K:PK):Option PK:=
 match p with
 | .ptr id i off=>match cd K.os 6 id with
  | some (k,es,sz)=>match es[i]? with
   | some v=>if lz x.cells=t.size/\0<t.size/\off+t.size<=sz then
    match ez K.os id with
    |true=>if x.cells.all Gi=zt then zs {K with os:=K.os.set id (.row k (es.set i (v.x0f off x.cells)) sz),tch:=id::K.tch}else znq
    |false=>
     if (x.cells.all clo&&((v.cells.drop off).take t.size).all clo)=zt then
      match dg K.os 6 id (es.set i (v.x0f off x.cells))with
      |some os2=>zs {K with os:=os2,tch:=cg K.os 6 id::K.tch}
      |none=>znq
     else match dg (jg K.os id) 6 id (es.set i (v.x0f off (zqa t.size .und)))with
     | some B=>match fv K.ext (cg K.os 6 id) id i off B x.cells with
      | some (cs,os1)=>match dg os1 6 id (es.set i (v.x0f off cs))with
       |some os2=>zs {K with os:=os2,tch:=cg K.os 6 id::K.tch}
       |none=>znq
      |none=>znq
     |none=>znq
    else znq
   |none=>znq
  |none=>znq
 |_=>znq
def oe(t:TI)(p:AV)(K:PK):Option (AV×PK):=
 match p with
 |.fptr v off=>(ct t v.cells off).map (·,K)
 | .ptr id i off=>match cd K.os 6 id with
  | some (_,es,_)=>match es[i]? with
   | some v=>match ct t v.cells off with
    |some w=>zs (Ve id i off w K)
    |none=>znq
   |none=>znq
  |none=>znq
 |_=>znq
def jh(te:TI)(s:AV)(os:List PO):Option (List AV×List PO×List Nat):=
 match s with
 |.x0a=>zs ([],os,[])
 | .msl id off n sz=>match cd os 6 id with
  | some (k,es,z)=>if k=0/\z=te.size/\sz=z/\off+n<=lz es then
   match os[id]? with
   |some (.row _ _ _)=>zs ((es.drop off).take n,(gm os id []).set id .dead,[id])
   | some (.sub p i o)=>match cd os 6 p with
    | some (kp,pes,_)=>if kp=0 then match pes[i]? with
     | some v=>match dg (gm os (cg os 6 id) (ei os 6 p)) 6 p (pes.set i (v.x0f o [.und]))with
      |some os2=>zs ((es.drop off).take n,os2,[cg os 6 id])
      |none=>znq
     |none=>znq
     else znq
    |none=>znq
   |_=>znq
   else znq
  |none=>znq
 |_=>znq
def ni(te:TI):Bool:=te.zero.cells.all fun c=>match c with | .int _ _=>zt | .bool _=>zt | .str _=>zt|_=>zf
def kj(te:TI)(x:AV)(ext:Nat)(tc:List Nat)(os:List PO):Option (List AV×List PO):=
 match x with
 |.x0a=>zs ([],os)
 |.fsl es _=>if G1 te.size es=zt then zs (es,os)else znq
 | .msl id off n sz=>match cd os 6 id with
  | some (k,es,z)=>if k=0/\z=te.size/\sz=z/\off+n<=lz es then
   match ni te with
   |true=>if Jm es=zt then zs ((es.drop off).take n,os)else znq
   | false=>match os[id]? with
    |some (.row _ _ _)=>if off=0/\n=lz es/\ext<=id/\¬id∈tc then zs (es,(gm os id []).set id .dead)else znq
    |some (.sub _ _ _)=>if off=0/\n=lz es then(match jh te (.msl id off n sz) os with|some (base,os2,tc2)=>if(tc2.all fun r=>decide (ext<=r) && !tc.contains r)=zt then zs (base,os2)else znq|none=>znq)else znq
    |_=>znq
   else znq
  |none=>znq
 |_=>znq
def jm(s:AV)(os:List PO):Bool:=match s with | .x0a=>zt | .msl id off n _=>(match cd os 6 id with|some (_,es,_)=>off==0&&n==lz es|none=>zf)|_=>zf
def qh(te:TI)(base xs:List AV)(os:List PO)(tc:List Nat)(K:PK):Option (AV×PK):=
 if (lz base+lz xs)*te.bytes<=140737488355328 then
  zs (.msl (lz os) 0 (lz base+lz xs) te.size,{K with os:=os++[.row 0 (base++xs) te.size],tch:=lz os::tc++K.tch})
 else znq
def c8(te:TI)(s x:AV)(K:PK):Option (AV×PK):=
 match jh te s K.os with
 | some (base,os1,tc)=>match kj te x K.ext tc os1 with
  |some (xs,os2)=>if(!xs.isEmpty||jm s K.os)=zt then qh te base xs os2 tc K else znq
  |none=>znq
 |none=>znq
def nD(te:TI)(s:AV)(n:Nat)(K:PK):Option (AV×PK):=
 match jh te s K.os with
 |some (base,os1,tc)=>if(decide (0<n)||jm s K.os)=zt then qh te base (zqa n te.zero) os1 tc K else znq
 |none=>znq
def newRow(k:Nat)(es:List AV)(sz:Nat)(K:PK):PK:={K with os:=K.os++[.row k es sz]}
def My(v:AV):Bool:=match v with | .agg _=>zt|_=>zf
def jo(te:TI)(id:Nat):List (Nat×AV)->PK->Option PK
 |[],K=>zs K
 |(i,v)::l,K=>if My v=My te.zero then(match iv te (.ptr id i 0) v K with|some K=>jo te id l K|none=>znq)else znq
def nu(sz:Nat):List (Nat×AV)->List AV->Option (List AV)
 |[],es=>zs es
 |(i,v)::l,es=>if i<lz es/\lz v.cells=sz/\v.cells.all Gi=zt then nu sz l (es.set i v)else znq
def Bz(te:TI)(n:Nat)(ps:List (Nat×AV))(K:PK):Option (AV×PK):=
 if n*te.size<=65536/\0<te.size then
  match jo te (lz K.os) ps (newRow 0 (zqa n te.zero) te.size K)with
  |some K1=>zs (.msl (lz K.os) 0 n te.size,K1)
  | none=>match nu te.size ps (zqa n te.zero)with
   |some es=>zs (.msl (lz K.os) 0 n te.size,newRow 2 es te.size K)
   |none=>znq
 else znq
section
variable (E:Env)
def FR(l:PF)(i:Nat):AV:=match l with|[]=>.und|p::r=>if p.1=i then p.2 else FR r i
def dj(x:Operand)(fr:PF):AV:=match x with | .tmp t=>FR fr t | .const v=>ofValue v | .global g=>(match E.gl g with|some v=>.fptr v 0|none=>.any) | .func f=>.fn (.func f) [] []
def Ot(x:AV):Bool:=match x with | .msl _ _ _ _=>zf|_=>zt
def vA(d:TD)(lo hi mx:Option AV)(x:AV):Option AV:=
 match x with
 |.fsl es f=>if es.isEmpty||mx.isSome then znq else(jd E d lo hi mx (.fsl es f)).map fun y=>match y with | .fsl l _=>.fsl l l.isEmpty|y=>y
 |.x0a=>znq
 |x=>jd E d lo hi mx x
def FZ(d:TD)(x:AV)(K:PK):Option Nat:=
 match d with
 |.string=>x.onStr znq fun s=>zs (r8 s)
 |.slice _=>dT x
 |.map _ _=>(match x with | .x0d=>zs 0 | .map id=>(match K.os[id]? with|some (.mapo es)=>zs (oO es)|_=>znq)|_=>znq)
 |_=>znq
def vB(sz id off n:Nat)(xs:List AV)(K:PK):Option (AV×PK):=match K.os[id]? with
 | some (.row 0 es z)=>if z=sz/\off+n<=lz es/\Jm es=zt/\Jm xs=zt then
  zs (.int .i64 (Int.ofNat (min n (lz xs))),{K with os:=K.os.set id (.row 0 (es.take off++(xs.take (min n (lz xs))++es.drop (off+min n (lz xs)))) z),tch:=id::K.tch})
  else znq
 |_=>znq
def G5(b:Builtin)(ts:List TypeId)(args:List AV)(K:PK):Option (AV×PK):=
 match b,ts,args with
 | .len,t::_,x::_=>match E.ti t with
  |some ti=>(FZ ti.desc x K).map fun n=>(.int .i64 (Int.ofNat n),K)
  |none=>znq
 | .append,t::tx::_,s::x::_=>match E.ti t,E.ti tx with
  | some ti,zs tix=>match cu E ti.desc with
   | some te=>if 0<te.size then(match tix.desc with
    |.int _=>(match ew x with|some n=>if n*te.bytes<=140737488355328 then nD te s n K else znq|none=>znq)
    |_=>c8 te s x K)else znq
   |none=>znq
  |_,_=>znq
 | .copy,t::_,.msl id off n z::x::_=>match E.ti t with
  | some ti=>match cu E ti.desc with
   |some te=>if z=te.size then(match kj te x K.ext [] K.os with|some q=>vB te.size id off n q.1 K|none=>znq)else znq
   |none=>znq
  |none=>znq
 |.max,_,x::r=>(Nt r x).map (·,K)
 |.min,_,x::r=>(Qm r x).map (·,K)
 |_,_,_=>znq
def nE(E:Env)(t:Nat)(m k x:AV)(K:PK):Option (AV×PK):=znq
inductive OpS where
 |val (v:AV) (K:PK)
 |call (f:Nat) (args:List AV)
 |pan (v:AV)
 |bad
def Kx(x:Option (AV×PK)):OpS:=match x with|some p=>.val p.1 p.2|none=>.bad
def Km(x:Option AV)(K:PK):OpS:=match x with|some v=>.val v K|none=>.bad
def c9(t:Nat)(f:TI->OpS):OpS:=match E.ti t with|some ti=>f ti|none=>.bad
def mh(l:List Operand)(fr:PF):List AV:=match l with|[]=>[]|x::r=>dj E x fr::mh r fr
def cP(l:List (Nat×Operand))(fr:PF):List (Nat×AV):=match l with|[]=>[]|x::r=>(x.1,dj E x.2 fr)::cP r fr
def yQ(o:Option Operand)(fr:PF):Option AV:=match o with|none=>znq|some x=>zs (dj E x fr)
def Mz(c a b:AV)(K:PK):OpS:=match c with | .bool zt=>.val a K | .bool zf=>.val b K|_=>.bad
def vC(ti:TI)(v:AV)(K:PK):OpS:=if lz v.cells=ti.size/\v.cells.all Gi=zt then .val (.ptr (lz K.os) 0 0) (newRow 1 [v] ti.size K)else .bad
def f9(op:BinOp)(t:Nat)(x y:AV)(K:PK):OpS:=if Ot x=zt/\Ot y=zt then Km (Q7 op (N1 E t) x y) K else .bad
def Zp(ti:TI)(l c:AV)(K:PK):OpS:=match cu E ti.desc,ew l,ew c with
 |some te,zs n,zs m=>if n<=m/\m*te.bytes<=140737488355328/\0<te.size then .val (.msl (lz K.os) 0 n te.size) (newRow 0 (zqa n te.zero) te.size K)else .bad
 |_,_,_=>.bad
def L3(ti:TI)(f:Nat)(x:AV):Option AV:=match fieldAt E ti f with|some p=>if 0<p.1.size then C0 x p.2 else znq|none=>znq
def MN(ti:TI)(f:Nat)(x:AV):Option AV:=match fieldAt E ti f with|some p=>(match x with | .agg cs=>ct p.1 cs p.2|_=>znq)|none=>znq
def Gj(ti:TI)(x i:AV):Option AV:=match ew i with|some n=>R5 E ti.desc n x|none=>znq
def MO(ti:TI)(x i:AV):Option AV:=match ew i with|some n=>El E ti.desc n x|none=>znq
def yR(E:Env)(ti:TI)(ok:Bool)(m k:AV)(K:PK):Option AV:=znq
def Na(g:AV)(args:List AV):OpS:=match g with | .fn f first caps=>(match f with | .func n=>.call n (first++(args++caps))|_=>.bad)|_=>.bad
def gx(op:Op)(fr:PF)(K:PK):OpS:=
 match op with
 |.move x=>.val (dj E x fr) K
 |.assign x=>.val (dj E x fr) K
 |.pick c a b=>Mz (dj E c fr) (dj E a fr) (dj E b fr) K
 |.alloc t=>c9 E t fun ti=>.val (.ptr (lz K.os) 0 0) (newRow 1 [ti.zero] ti.size K)
 |.box t x=>c9 E t fun ti=>vC ti (dj E x fr) K
 |.build t ps=>c9 E t fun ti=>Km (X3 E ti (cP E ps.toList fr)) K
 |.buildSlice t n ps=>c9 E t fun ti=>match cu E ti.desc with|some te=>Kx (Bz te n (cP E ps.toList fr) K)|none=>.bad
 |.load t a=>c9 E t fun ti=>Kx (oe ti (dj E a fr) K)
 |.store t a x=>c9 E t fun ti=>Kx ((iv ti (dj E a fr) (dj E x fr) K).map fun K=>(.und,K))
 |.nilCheck x=>Km (Bk (dj E x fr)) K
 |.binOp op t x y _=>f9 E op t (dj E x fr) (dj E y fr) K
 |.unOp op _ x=>Km (Pq op (dj E x fr)) K
 |.convert s d x=>c9 E s fun _=>c9 E d fun B=>Km (R4 B.desc (dj E x fr)) K
 |.makeInterface t x=>c9 E t fun ti=>bif V0 ti.desc then .val (.iface t (dj E x fr)) K else .bad
 |.makeFunc f first caps=>.val (.fn f (mh E first.toList fr) (mh E caps.toList fr)) K
 |.makeMap _ r=>(match r with|none=>.val (.map (lz K.os)) {K with os:=K.os++[.mapo []]}|some _=>.bad)
 |.makeSlice t l c=>c9 E t fun ti=>Zp E ti (dj E l fr) (dj E c fr) K
 |.slice t x lo hi mx=>c9 E t fun ti=>bif hi.isNone&&mx.isSome then .bad else Km (vA E ti.desc (yQ E lo fr) (yQ E hi fr) (yQ E mx fr) (dj E x fr)) K
 |.fieldAddr t x f=>c9 E t fun ti=>Km (L3 E ti f (dj E x fr)) K
 |.field t x f=>c9 E t fun ti=>Km (MN E ti f (dj E x fr)) K
 |.indexAddr t x i=>c9 E t fun ti=>Km (Gj E ti (dj E x fr) (dj E i fr)) K
 |.index t x i=>c9 E t fun ti=>Km (MO E ti (dj E x fr) (dj E i fr)) K
 |.lookup t m k ok=>c9 E t fun ti=>Km (yR E ti ok (dj E m fr) (dj E k fr) K) K
 |.mapUpdate t m k x=>Kx (nE E t (dj E m fr) (dj E k fr) (dj E x fr) K)
 |.insert t m k x=>Kx (nE E t (dj E m fr) (dj E k fr) (dj E x fr) K)
 |.typeAssert x _ t ok=>c9 E t fun ti=>bif V0 ti.desc && !ok then Km (aW t (dj E x fr)) K else .bad
 |.extract t i=>(match dj E t fr with | .tup vs=>Km vs[i]? K|_=>.bad)
 | .call c=>(match c.callee with
  |.builtin b=>Kx (G5 E b c.argTypes.toList (mh E c.args.toList fr) K)
  |.value g=>Na (dj E g fr) (mh E c.args.toList fr)
  |.invoke _ _=>.bad)
 |.panic x=>(match dj E x fr with | .iface t v=>.pan (.iface t v)|_=>.bad)
 |_=>.bad
def Vx(es:List AV):AV:=.fsl es es.isEmpty
def gu(a:Option AV)(l:Option (List AV)):Option (List AV):=match a with|some a=>(match l with|some l=>zs (a::l)|none=>znq)|none=>znq
mutual
def ji:AV->Option AV
 |.int k n=>zs (.int k n)
 |.bool b=>zs (.bool b)
 |.str s=>zs (.str s)
 |.agg cs=>(match frzL cs with|some cs=>zs (.agg cs)|none=>znq)
 |.tup cs=>(match cs with | .ptr k 0 _::es=>(match frzL es with|some es=>(match k with|1=>(match es with|[v]=>zs (.fptr v 0)|_=>znq)|_=>zs (Vx es))|none=>znq)|_=>znq)
 |.fsl es _=>(match frzL es with|some es=>zs (Vx es)|none=>znq)
 |.fptr v o=>(match ji v with|some v=>zs (.fptr v o)|none=>znq)
 |.msl _ _ _ _=>znq
 |.ptr _ _ _=>znq
 |.x0a=>zs (.fsl [] zt)
 |.x0c=>zs .x0c
 |.x0d=>zs .x0d
 |.map _=>znq
 |.fn _ _ _=>znq
 |.x0e=>zs .x0e
 |.iface _ _=>znq
 |.x0b=>zs .x0b
 |.any=>znq
 | .und=>znq
def frzL:List AV->Option (List AV)
 |[]=>zs []
 |v::l=>gu (ji v) (frzL l)
end
def gh(os:List PO)(v:AV):Option AV:=
 match v with
 | .msl id off n sz=>(match cd os 6 id with
  |some (k,es,z)=>if k=0/\sz=z/\off+n<=lz es then(match frzL ((es.drop off).take n)with|some es=>zs (Vx es)|none=>znq)else znq
  |none=>znq)
 | .ptr id i off=>(match cd os 6 id with
  |some (k,es,z)=>if k=0 then(match es[i]? with|some v=>(match ji v with|some v=>zs (.fptr v off)|none=>znq)|none=>znq)else znq
  |none=>znq)
 |.tup _=>znq
 |.agg _=>znq
 |v=>ji v
def og(os:List PO):List AV->Option (List AV)
 |[]=>zs []
 |v::l=>gu (gh os v) (og os l)
def viewA(os:List PO)(v:AV):Option AV:=match v with | .agg cs=>(match og os cs with|some cs=>zs (.agg cs)|none=>znq)|v=>gh os v
def gb(os:List PO):List AV->Option (List AV)
 |[]=>zs []
 |v::l=>gu (viewA os v) (gb os l)
mutual
def O4:AV->List Nat
 |.int _ _=>[]
 |.bool _=>[]
 |.str _=>[]
 |.agg cs=>refsL cs
 |.tup cs=>refsL cs
 |.fsl _ _=>[]
 |.fptr _ _=>[]
 |.msl id _ _ _=>[id]
 |.ptr id _ _=>[id]
 |.x0a=>[]
 |.x0c=>[]
 |.x0d=>[]
 |.map id=>[id]
 |.fn _ a b=>refsL a++refsL b
 |.x0e=>[]
 |.iface _ v=>O4 v
 |.x0b=>[]
 |.any=>[]
 | .und=>[]
def refsL:List AV->List Nat
 |[]=>[]
 |v::l=>O4 v++refsL l
end
mutual
def noF:AV->Bool
 |.int _ _=>zt
 |.bool _=>zt
 |.str _=>zt
 |.agg cs=>noFL cs
 |.tup cs=>(match cs with | .ptr _ 0 _::es=>noFL es|_=>zf)
 |.x0a=>zt
 |.x0c=>zt
 |.x0d=>zt
 |.x0e=>zt
 |.x0b=>zt
 |_=>zf
def noFL:List AV->Bool
 |[]=>zt
 |v::l=>noF v&&noFL l
end
mutual
def J7(σ:Nat->Option Nat):AV->AV
 |.int k n=>.int k n
 |.bool b=>.bool b
 |.str s=>.str s
 |.agg cs=>.agg (renL σ cs)
 |.tup cs=>.tup (renL σ cs)
 |.fsl es f=>.fsl es f
 |.fptr v o=>.fptr v o
 |.msl id off n sz=>(match σ id with|some j=>.msl j off n sz|none=>.und)
 |.ptr id i o=>(match σ id with|some j=>.ptr j i o|none=>.und)
 |.x0a=>.x0a
 |.x0c=>.x0c
 |.x0d=>.x0d
 |.map id=>(match σ id with|some j=>.map j|none=>.und)
 |.fn f a b=>.fn f (renL σ a) (renL σ b)
 |.x0e=>.x0e
 |.iface t v=>.iface t (J7 σ v)
 |.x0b=>.x0b
 |.any=>.und
 | .und=>.und
def renL(σ:Nat->Option Nat):List AV->List AV
 |[]=>[]
 |v::l=>J7 σ v::renL σ l
end
def dk(l:List Nat)(id:Nat):Option Nat:=match l with|[]=>znq|j::r=>if j=id then zs 0 else(dk r id).map (· + 1)
def d8(s:Nat->List Nat):Nat->List Nat->List Nat->List Nat
 |0,_,acc=>acc
 |_+1,[],acc=>acc
 |n+1,id::todo,acc=>if id∈acc then d8 s n todo acc else d8 s n (todo++s id) (acc++[id])
def cQ(e:Option PO):List Nat:=match e with|some (.row 0 _ _)=>[]|some (.row _ es _)=>refsL es|_=>[]
def gI(os:List PO)(id:Nat):List Nat:=match os[id]? with|some (.sub p _ _)=>[p]|e=>cQ e
def dp(σ:Nat->Option Nat)(e:PO):PO:=match e with
 |.row 0 es sz=>.row 0 es sz
 |.row k es sz=>.row k (renL σ es) sz
 |.mapo es=>.mapo es
 |.sub p i o=>(match σ p with|some q=>.sub q i o|none=>.dead)
 | .dead=>.dead
def dr(os:List PO)(id:Nat):PO:=match os[id]? with|some e=>e|none=>.dead
def fu(keep:List Nat)(fr:PF)(K:PK):List Nat:=d8 (gI K.os) 64 ((List.range K.ext).flatMap (gI K.os)++refsL (keep.map (FR fr))) (List.range K.ext)
def GA(ids:List Nat)(K:PK)(ext:Nat)(tch:List Nat):PK:={os:=ids.map fun id=>dp (dk ids) (dr K.os id),ext:=ext,tch:=tch}
def M4(keep:List Nat)(fr:PF)(K:PK):PF×PK:=
 (keep.map fun i=>(i,J7 (dk (fu keep fr K)) (FR fr i)),GA (fu keep fr K) K K.ext (K.tch.filter (· < K.ext)))
def rb(e:PO):PO:=match e with | .sub _ _ _=>.dead|e=>e
def eu(args:List AV)(K:PK):List Nat:=d8 (fun id=>cQ K.os[id]?) 64 (refsL args) []
def ke(ids:List Nat)(K:PK):PK:={os:=ids.map fun id=>rb (dp (dk ids) (dr K.os id)),ext:=lz ids,tch:=[]}
def dt(ids:List Nat)(base e:Nat):Option Nat:=match ids[e]? with|some id=>zs id|none=>zs (base+(e-lz ids))
def kn(os:List PO)(ids:List Nat):Nat->List PO->List PO
 |_,[]=>[]
 |j,e::l=>(match e with | .sub p i o=>if ids.contains j||(ei os 6 p).any (fun q=>ids.contains q)then .dead else .sub p i o|e=>e)::kn os ids (j+1) l
def im(ρ:Nat->Option Nat):List Nat->List PO->List PO->Option (List PO)
 |[],_,os=>zs os
 |_::_,[],_=>znq
 | id::ids,e::l,os=>match os[id]? with
  | some (.row _ _ _)=>(match e with
   |.row k es sz=>im ρ ids l (os.set id (dp ρ (.row k es sz)))
   |.dead=>im ρ ids l (os.set id .dead)
   |_=>znq)
  |some (.mapo _)=>(match e with | .mapo es=>im ρ ids l (os.set id (.mapo es))|_=>znq)
  |_=>(match e with | .dead=>im ρ ids l os|_=>znq)
def jp(ids:List Nat)(K K1:PK):Option PK:=
 if ids.all (fun i=>decide (i<lz K.os))=zt then match im (dt ids (lz K.os)) ids K1.os (kn K.os ids 0 K.os)with
 |some os=>zs {os:=os++(K1.os.drop (lz ids)).map (dp (dt ids (lz K.os))),ext:=K.ext,tch:=(K1.tch.filter (· < lz ids)).map (fun j=>ids.getD j 0)++K.tch}
 |none=>znq
 else znq
def ed:Nat->List AV->List AV×List PO
 |_,[]=>([],[])
 | nx,c::r=>match fe c with
  |some (k,es,sz)=>((match k with|1=>.ptr nx 0 0|_=>.msl nx 0 (lz es) sz)::(ed (nx+1) r).1,.row 0 es sz::(ed (nx+1) r).2)
  |none=>(c::(ed nx r).1,(ed nx r).2)
def W2:Nat->List AV->List AV×List PO
 |_,[]=>([],[])
 |nx,v::r=>(N7 v (ed nx v.cells).1::(W2 (nx+lz (ed nx v.cells).2) r).1,(ed nx v.cells).2++(W2 (nx+lz (ed nx v.cells).2) r).2)
def re(rs:List AV):Bool:=rs.all fun v=>v.cells.all fun c=>(fe c).isSome||clo c
def viewW(os:List PO)(v:AV):Option AV:=match gh os v with
 |some w=>zs w
 | none=>match v with
  | .msl id off n sz=>(match ez os id with
   | true=>(match os[id]? with
    |some (.row _ es z)=>if sz=z/\off+n<=lz es then(match gb os ((es.drop off).take n)with|some es=>zs (Vx es)|none=>znq)else znq
    |_=>znq)
   |false=>znq)
  |_=>znq
def ou(os:List PO):List AV->Option (List AV)
 |[]=>zs []
 |v::l=>gu (viewW os v) (ou os l)
def viewWA(os:List PO)(v:AV):Option AV:=match v with | .agg cs=>(match ou os cs with|some cs=>zs (.agg cs)|none=>znq)|v=>viewW os v
def Ry(os:List PO):List AV->Option (List AV)
 |[]=>zs []
 |v::l=>gu (viewWA os v) (Ry os l)
def rg(os:List PO)(l:List AV):Option (List AV):=match gb os l with|some as1=>zs as1|none=>Ry os l
def rh(g:List AV->Option (List AV))(args:List AV)(K:PK):Option (List AV×PK):=
 match rg K.os args with
 | some as1=>(match g as1 with
  |some rs=>if(re rs&&((refsL args).isEmpty||noFL rs))=zt then zs ((W2 (lz K.os) rs).1,{K with os:=K.os++(W2 (lz K.os) rs).2})else znq
  |none=>znq)
 |none=>znq
inductive PC where
 |skip
 |reg (draw:Bool) (l:List XOp)
 |seq (a b:PC)
 |cond (c:Operand) (a b:PC)
 |block (id:Nat) (c:PC)
 |loop (c:PC)
 |scope (c:PC)
 |exit (id:Nat)
 |ret
 |pre (keep:List Nat) (c:PC)
 |post (keep:List Nat) (c:PC)
 |rfn (g:Operand) (ps:List Tmp) (a b:PC)
 |itf (x:XC) (c:PC)
 |yreg (p0:PC) (gd:Option (Option Tmp×Bool)) (yt:Tmp) (p1:PC) (yd:Tmp) (args:List Operand) (p2:PC)
 |dfr (x:XC) (a:PC) (g:Operand) (c:PC)
 |rcv (x:XC) (d d2:Tmp) (c:PC)
def PC.er:PC->XC
 |.skip=>.skip
 |.reg d l=>.reg d l
 |.seq a b=>.seq a.er b.er
 |.cond c a b=>.cond c a.er b.er
 |.block i c=>.block i c.er
 |.loop c=>.loop c.er
 |.scope c=>.scope c.er
 |.exit i=>.exit i
 |.ret=>.ret
 |.pre _ c=>c.er
 |.post _ c=>c.er
 |.rfn g ps a b=>.rfn g ps a.er b.er
 |.itf x _=>x
 |.yreg _ _ _ _ _ _ _=>.bad
 |.dfr x _ _ _=>x
 | .rcv x _ _ _=>x
def PC.pieces:PC->List XC
 |.seq a b=>a.er::b.pieces
 |c=>[c.er]
def PC.eri:PC->IC
 |.reg d l=>.reg (.reg d l)
 |.seq a b=>.seq a.eri b.eri
 |.cond c a b=>.cond c a.eri b.eri
 |.block i c=>.block i c.eri
 |.loop c=>.loop c.eri
 |.exit i=>.exit i
 |.ret=>.ret
 |.pre _ c=>c.eri
 |.post _ c=>c.eri
 |.yreg p0 gd yt p1 yd args p2=>.yreg p0.er gd yt p1.er yd args p2.er
 |_=>.skip
structure RC where
 ps:List Tmp
 a:PC
 b:PC
 fr:PF
structure PFn where
 code:PC
 nt:Nat
 rs:List ResultVar
 inp:Bool
def c0m(p:Option PFn):Option (Nat×PC):=match p with|some ⟨.itf _ c,nt,_,_⟩=>zs (nt,c)|_=>znq
def f0o(p:Option PFn):Option (Nat×Tmp×Tmp×PC):=match p with|some ⟨.rcv _ d d2 c,nt,[],_⟩=>zs (nt,d,d2,c)|_=>znq
def ox(p:Option PFn):Bool:=match p with|some p=>p.inp|none=>zf
structure PE where
 E:Env
 T:Nat->Option (List AV->Option (List AV))
 fn:Nat->Option PFn
inductive PJ where
 |code (c:PC) (fr:PF) (K:PK)
 |ops (l:List XOp) (fr:PF) (K:PK)
 |opsD (l:List XOp) (fr:PF) (K:PK)
 |opsS (S:List PK) (l:List XOp) (fr:PF) (K:PK)
 |call (f:Nat) (args:List AV) (K:PK)
 |body (f:Nat) (args:List AV) (K:PK)
 |iter (c:RC) (m:Nat) (ic:PC) (p:Option Ex) (fr:PF) (K:PK)
 |round (c:RC) (args:List AV) (K:PK)
 |dfc (a:PC) (g:Operand) (c:PC) (fr:PF) (K:PK)
 |rcv (x v:AV) (K:PK)
def ye(c:PC)(fr:PF)(K:PK):PJ:=match c with | .dfr _ a g c=>.dfc a g c fr K | .rcv _ _ _ _=>.rcv .und .und K|c=>.code c fr K
inductive PR where
 |ok (e:Ex) (fr:PF) (K:PK)
 |val (vs:List AV) (K:PK)
 |pan (v:AV) (K:PK)
 |itr (e:Ex) (p:Option Ex) (fr:PF) (K:PK)
def ia(d:Option Tmp)(v:AV)(fr:PF):PF:=match d with|none=>fr|some t=>(t,v)::fr
def ge(g:Option (Option Tmp×Bool))(fr:PF):Option Bool:=match g with
 |none=>zs zt
 |some (znq,_)=>zs zf
 |some (zs t,w)=>i7 w (FR fr t)
def ig:Nat->List AV->PF
 |_,[]=>[]
 |i,v::l=>(i,v)::ig (i+1) l
def kq(E:Env):List ResultVar->PF->PK->Option (List AV×PK)
 |[],_,K=>zs ([],K)
 |.tmp t::l,fr,K=>match kq E l fr K with|some (vs,K)=>zs (FR fr t::vs,K)|none=>znq
 | .cell a t::l,fr,K=>match E.ti t with
  | some ti=>match oe ti (FR fr a) K with
   |some (v,K)=>match kq E l fr K with|some (vs,K)=>zs (v::vs,K)|none=>znq
   |none=>znq
  |none=>znq
def ld:List Tmp->List AV->PF->PF
 |[],_,fr=>fr
 |_::_,[],fr=>fr
 |p::ps,v::l,fr=>ld ps l ((p,v)::fr)
def lf(e:Ex):Bool:=match e with | .normal=>zt|_=>zf
def Ou(e:Ex):Option Ex:=match e with | .normal=>znq|e=>zs e
def Gk(E:Env):List XOp->List Bool->PF->PK->Bool
 |[],_,_,_=>zt
 |_::_,[],_,_=>zf
 |o::l,zt::s,fr,K=>Gk E l s (ia o.dst Yw fr) K
 | o::l,zf::s,fr,K=>match ge o.gd fr with
  | some zt=>!o.quiet&&(match gx E o.op fr K with
   |.val v K=>Gk E l s (ia o.dst v fr) K
   |_=>zf)
  |some zf=>Gk E l s (ia o.dst Yw fr) K
  |none=>zf
def Ca(n:Nat)(l:List XOp)(K:PK):Bool:=K.tch.all (fun i=>decide (n<=i))||l.all (fun o=>!o.careful)
def CJ(os:List PO)(id:Nat):Bool:=match os[id]? with|some (.row _ _ _)=>zt|_=>zf
def gJ(os:List PO)(S:PK)(v:AV):Bool:=match v with | .ptr id _ _=>CJ S.os id&&(!S.tch.contains id&&CJ os id)|_=>zf
def GB(E:Env)(S:PK)(os:List PO)(fr:PF)(op:Op):Bool:=match op with | .load _ a=>gJ os S (dj E a fr)|_=>zf
def CK(E:Env)(S:PK)(K:PK)(fr:PF)(o:XOp):Bool:=match o.careful with|false=>zt|true=>GB E S K.os fr o.op
def cR(E:Env)(S:List PK)(K:PK)(fr:PF)(o:XOp):Bool:=S.all fun s=>CK E s K fr o
def evG(P:PE)(ev:PJ->Option PR):PJ->Option PR
 |.code .skip fr K=>zs (.ok .normal fr K)
 |.code (.reg zf l) fr K=>ev (.ops l fr K)
 |.code (.reg zt l) fr K=>ev (.opsD l fr K)
 | .code (.seq a b) fr K=>do
  match <-ev (.code a fr K)with
  |.ok .normal fr K=>ev (.code b fr K)
  |.ok (.exit i) fr K=>pure (.ok (.exit i) fr K)
  |.ok .ret fr K=>pure (.ok .ret fr K)
  |.pan v K=>pure (.pan v K)
  |.val _ _=>znq
  |.itr _ _ _ _=>znq
 | .code (.cond c a b) fr K=>match dj P.E c fr with
  |.bool zt=>ev (.code a fr K)
  |.bool zf=>ev (.code b fr K)
  |_=>znq
 | .code (.block i c) fr K=>do
  match <-ev (.code c fr K)with
  |.ok .normal fr K=>pure (.ok .normal fr K)
  |.ok (.exit j) fr K=>if j=i then pure (.ok .normal fr K)else pure (.ok (.exit j) fr K)
  |.ok .ret fr K=>pure (.ok .ret fr K)
  |.pan v K=>pure (.pan v K)
  |.val _ _=>znq
  |.itr _ _ _ _=>znq
 | .code (.loop c) fr K=>do
  match <-ev (.code c fr K)with
  |.ok .normal fr K=>ev (.code (.loop c) fr K)
  |.ok (.exit i) fr K=>pure (.ok (.exit i) fr K)
  |.ok .ret fr K=>pure (.ok .ret fr K)
  |.pan v K=>pure (.pan v K)
  |.val _ _=>znq
  |.itr _ _ _ _=>znq
 |.code (.scope c) fr K=>ev (.code c fr K)
 |.code (.exit i) fr K=>zs (.ok (.exit i) fr K)
 |.code .ret fr K=>zs (.ok .ret fr K)
 |.code (.pre k c) fr K=>ev (.code c (M4 k fr K).1 (M4 k fr K).2)
 | .code (.post k c) fr K=>do
  match <-ev (.code c fr K)with
  |.ok .normal fr K=>pure (.ok .normal (M4 k fr K).1 (M4 k fr K).2)
  |.ok (.exit i) fr K=>pure (.ok (.exit i) fr K)
  |.ok .ret fr K=>pure (.ok .ret fr K)
  |.pan v K=>pure (.pan (FR (M4 [0] [(0,v)] K).1 0) (M4 [0] [(0,v)] K).2)
  |.val _ _=>znq
  |.itr _ _ _ _=>znq
 | .code (.rfn g ps a b) fr K=>match dj P.E g fr with
  | .fn (.func n) [] caps=>match c0m (P.fn n)with
   | some (nt,ic)=>if lz caps+1<=nt then do
    match <-ev (.iter ⟨ps,a,b,fr⟩ je ic znq (ig 0 (.any::caps)) ⟨K.os,lz K.os,[]⟩)with
    |.itr .normal p _ K1=>pure (.ok (qK p) fr ⟨K1.os,K.ext,K1.tch++K.tch⟩)
    |.itr .ret p _ K1=>pure (.ok (qK p) fr ⟨K1.os,K.ext,K1.tch++K.tch⟩)
    |_=>znq
    else znq
   |none=>znq
  |_=>znq
 |.code (.itf _ _) fr K=>znq
 |.code (.yreg _ _ _ _ _ _ _) fr K=>znq
 |.code (.dfr _ _ _ _) fr K=>znq
 |.code (.rcv _ _ _ _) fr K=>znq
 | .dfc a g c fr K=>do
  match <-ev (.code a fr K)with
  | .ok .normal fr K=>do
   match <-ev (.code c fr ⟨K.os,lz K.os,[]⟩)with
   | .ok .normal fr2 K2=>do
    match <-ev (.rcv (dj P.E g fr) .x0b ⟨K2.os,lz K2.os,[]⟩)with
    |.ok _ _ K3=>pure (.ok .ret fr2 ⟨K3.os,K.ext,K3.tch++(K2.tch++K.tch)⟩)
    |_=>znq
   | .ok .ret fr2 K2=>do
    match <-ev (.rcv (dj P.E g fr) .x0b ⟨K2.os,lz K2.os,[]⟩)with
    |.ok _ _ K3=>pure (.ok .ret fr2 ⟨K3.os,K.ext,K3.tch++(K2.tch++K.tch)⟩)
    |_=>znq
   | .pan v K2=>do
    match <-ev (.rcv (dj P.E g fr) v ⟨K2.os,lz K2.os,[]⟩)with
    |.ok _ _ K3=>pure (.ok .ret fr ⟨K3.os,K.ext,K3.tch++(K2.tch++K.tch)⟩)
    |_=>znq
   |_=>znq
  |_=>znq
 | .rcv x v K=>match x with
  | .fn (.func n) [] caps=>match f0o (P.fn n)with
   | some (nt,d,d2,c)=>if lz caps<=nt then do
    match <-ev (.code c (ld [d,d2] [v,v] (ig 0 caps)) K)with
    |.ok .normal fr K=>pure (.ok .normal fr K)
    |.ok .ret fr K=>pure (.ok .normal fr K)
    |_=>znq
    else znq
   |none=>znq
  |_=>znq
 | .round c args K=>if lz args=lz c.ps then do
  match <-ev (.code c.a (ld c.ps args c.fr) K)with
  |.ok .normal fr K=>ev (.code c.b fr K)
  |_=>znq
  else znq
 |.iter c 0 ic p fr K=>znq
 | .iter c (m+1) (.reg d l) p fr K=>do
  match <-ev (.code (.reg d l) fr K)with
  |.ok .normal fr K=>pure (.itr .normal p fr K)
  |_=>znq
 | .iter c (m+1) (.seq a b) p fr K=>do
  match <-ev (.iter c m a p fr K)with
  |.itr .normal p fr K=>ev (.iter c m b p fr K)
  |.itr (.exit i) p fr K=>pure (.itr (.exit i) p fr K)
  |.itr .ret p fr K=>pure (.itr .ret p fr K)
  |_=>znq
 | .iter c (m+1) (.cond x a b) p fr K=>match dj P.E x fr with
  |.bool zt=>ev (.iter c m a p fr K)
  |.bool zf=>ev (.iter c m b p fr K)
  |_=>znq
 | .iter c (m+1) (.block i a) p fr K=>do
  match <-ev (.iter c m a p fr K)with
  |.itr .normal p fr K=>pure (.itr .normal p fr K)
  |.itr (.exit j) p fr K=>if j=i then pure (.itr .normal p fr K)else pure (.itr (.exit j) p fr K)
  |.itr .ret p fr K=>pure (.itr .ret p fr K)
  |_=>znq
 | .iter c (m+1) (.loop a) p fr K=>do
  match <-ev (.iter c m a p fr K)with
  |.itr .normal p fr K=>ev (.iter c m (.loop a) p fr K)
  |.itr (.exit i) p fr K=>pure (.itr (.exit i) p fr K)
  |.itr .ret p fr K=>pure (.itr .ret p fr K)
  |_=>znq
 |.iter c (m+1) .skip p fr K=>zs (.itr .normal p fr K)
 |.iter c (m+1) (.exit i) p fr K=>zs (.itr (.exit i) p fr K)
 |.iter c (m+1) .ret p fr K=>zs (.itr .ret p fr K)
 |.iter c (m+1) (.pre k a) p fr K=>ev (.iter c (m+1) a p (M4 k fr K).1 (M4 k fr K).2)
 | .iter c (m+1) (.post k a) p fr K=>do
  match <-ev (.iter c (m+1) a p fr K)with
  |.itr .normal p fr K=>pure (.itr .normal p (M4 k fr K).1 (M4 k fr K).2)
  |r=>pure r
 | .iter c (m+1) (.yreg p0 gd yt p1 yd args p2) p fr K=>do
  match <-ev (.code p0 fr K)with
  | .ok .normal fr K=>match ge gd fr with
   | some zt=>match p with
    | none=>do
     match <-ev (.code p1 ((yt,.any)::fr) K)with
     | .ok .normal fr K=>match ge gd fr with
      | some zt=>do
       match <-ev (.round c (mh P.E args fr) ⟨K.os,lz K.os,[]⟩)with
       | .ok e _ K1=>do
        match <-ev (.code p2 ((yd,.bool (lf e))::fr) ⟨K1.os,K.ext,K1.tch++K.tch⟩)with
        |.ok .normal fr K=>pure (.itr .normal (Ou e) fr K)
        |_=>znq
       |_=>znq
      |_=>znq
     |_=>znq
    |some _=>znq
   | some zf=>do
    match <-ev (.code p1 ((yt,Yw)::fr) K)with
    | .ok .normal fr K=>match ge gd fr with
     | some zf=>do
      match <-ev (.code p2 ((yd,Yw)::fr) K)with
      |.ok .normal fr K=>pure (.itr .normal p fr K)
      |_=>znq
     |_=>znq
    |_=>znq
   |none=>znq
  |_=>znq
 |.iter c (m+1) _ p fr K=>znq
 |.ops [] fr K=>zs (.ok .normal fr K)
 | .ops (o::l) fr K=>match ge o.gd fr with
  | some zt=>match gx P.E o.op fr K with
   |.val v K=>ev (.ops l (ia o.dst v fr) K)
   | .call f args=>do
    match <-ev (.call f args K)with
    |.val vs K=>ev (.ops l (ia o.dst (cj vs) fr) K)
    |.pan v K=>pure (.pan v K)
    |.ok _ _ _=>znq
    |.itr _ _ _ _=>znq
   |.pan v=>zs (.pan v K)
   |.bad=>znq
  |some zf=>ev (.ops l (ia o.dst Yw fr) K)
  |none=>znq
 |.opsD [] fr K=>zs (.ok .normal fr K)
 | .opsD (o::l) fr K=>match ge o.gd fr with
  | some zt=>match o.quiet with
   | true=>match gx P.E o.op fr {K with tch:=[]}with
    |.val v K1=>if Ca (lz K.os) l K1=zt then ev (.opsD l (ia o.dst v fr) {K1 with tch:=K1.tch++K.tch})else ev (.opsS [⟨K.os,0,K1.tch⟩] l (ia o.dst v fr) {K1 with tch:=K1.tch++K.tch})
    | .call f args=>do
     match <-ev (.call f args {K with tch:=[]})with
     |.val vs K1=>if Ca (lz K.os) l K1=zt then ev (.opsD l (ia o.dst (cj vs) fr) {K1 with tch:=K1.tch++K.tch})else ev (.opsS [⟨K.os,0,K1.tch⟩] l (ia o.dst (cj vs) fr) {K1 with tch:=K1.tch++K.tch})
     |.pan v K1=>if Gk P.E l o.late (ia o.dst Yw fr) K=zt then zs (.pan v {K1 with tch:=K1.tch++K.tch})else znq
     |.ok _ _ _=>znq
     |.itr _ _ _ _=>znq
    |.pan v=>znq
    |.bad=>znq
   | false=>match gx P.E o.op fr K with
    |.val v K=>ev (.opsD l (ia o.dst v fr) K)
    | .call f args=>do
     match <-ev (.call f args K)with
     |.val vs K=>ev (.opsD l (ia o.dst (cj vs) fr) K)
     |.pan v K1=>if Gk P.E l o.late (ia o.dst Yw fr) K=zt then zs (.pan v K1)else znq
     |.ok _ _ _=>znq
     |.itr _ _ _ _=>znq
    |.pan v=>if Gk P.E l o.late (ia o.dst Yw fr) K=zt then zs (.pan v K)else znq
    |.bad=>znq
  |some zf=>ev (.opsD l (ia o.dst Yw fr) K)
  |none=>znq
 |.opsS S [] fr K=>zs (.ok .normal fr K)
 | .opsS S (o::l) fr K=>match ge o.gd fr with
  | some zt=>match o.quiet with
   | true=>match gx P.E o.op fr {K with tch:=[]}with
    |.val v K1=>ev (.opsS (⟨K.os,0,K1.tch⟩::S) l (ia o.dst v fr) {K1 with tch:=K1.tch++K.tch})
    |_=>znq
   | false=>if cR P.E S K fr o=zt then match gx P.E o.op fr K with
    |.val v K=>ev (.opsS S l (ia o.dst v fr) K)
    | .call f args=>do
     match <-ev (.call f args K)with
     |.val vs K=>ev (.opsS S l (ia o.dst (cj vs) fr) K)
     |_=>znq
    |_=>znq
   else znq
  |some zf=>ev (.opsS S l (ia o.dst Yw fr) K)
  |none=>znq
 | .call f args K=>match P.T f with
  | some g=>match rh g args K with
   |some (vs,K)=>zs (.val vs K)
   |none=>znq
  | none=>match ox (P.fn f)with
   | true=>do
    match <-ev (.body f args ⟨K.os,lz K.os,[]⟩)with
    |.val vs K1=>pure (.val vs ⟨K1.os,K.ext,K1.tch++K.tch⟩)
    |.pan v K1=>pure (.pan v ⟨K1.os,K.ext,K1.tch++K.tch⟩)
    |.ok _ _ _=>znq
    |.itr _ _ _ _=>znq
   | false=>do
    match <-ev (.body f (renL (dk (eu args K)) args) (ke (eu args K) K))with
    | .val vs K1=>match jp (eu args K) K K1 with
     |some K'=>pure (.val (renL (dt (eu args K) (lz K.os)) vs) K')
     |none=>znq
    | .pan v K1=>match jp (eu args K) K K1 with
     |some K'=>pure (.pan (J7 (dt (eu args K) (lz K.os)) v) K')
     |none=>znq
    |.ok _ _ _=>znq
    |.itr _ _ _ _=>znq
 | .body f args K=>match P.fn f with
  | some p=>if lz args<=p.nt then do
   match <-ev (ye p.code (ig 0 args) K)with
   |.ok (.exit _) _ _=>znq
   | .ok .normal fr K=>match kq P.E p.rs fr K with
    |some (vs,K)=>pure (.val vs K)
    |none=>znq
   | .ok .ret fr K=>match kq P.E p.rs fr K with
    |some (vs,K)=>pure (.val vs K)
    |none=>znq
   |.pan v K=>pure (.pan v K)
   |.val _ _=>znq
   |.itr _ _ _ _=>znq
   else znq
  |none=>znq
def GC{α:Type}(a b:Option α):Prop:=a=znq\/a=b
theorem GC.bnd{α β:Type}{a b:Option α}{f g:α->Option β}(h:GC a b)(k:∀q,GC (f q) (g q)):GC (a >>= f) (b >>= g):=by
 rcases h with rfl|rfl
 . exact .inl rfl
 . cases a with
   |none=>exact .inl rfl
   |some q=>exact k q
theorem vD(P:PE){e1 e2:PJ->Option PR}(h:∀j,GC (e1 j) (e2 j))(j:PJ):GC (evG P e1 j) (evG P e2 j):=by
 unfold evG
 repeat' first|exact .inr rfl|exact h _|refine .bnd (h _) fun q=>?_|split
def evP(P:PE)(j:PJ):Option PR:=evG P (evP P) j
partial_fixpoint monotonicity fun x y h j=>by
 have B:=vD P (e1:=x) (e2:=y) (fun j=>by
  have C:=h j
  revert C
  generalize x j=a;generalize y j=b;intro C;cases C with
  |bot=>exact .inl rfl
  |refl=>exact .inr rfl) j
 dsimp only
 revert B
 generalize evG P x j=a;generalize evG P y j=b;intro B;rcases B with rfl|rfl
 . exact .bot
 . exact .refl
def evF(P:PE):Nat->PJ->Option PR
 |0=>fun _=>znq
 |n+1=>evG P (evF P n)
theorem wt(P:PE):∀(n:Nat)(j:PJ),GC (evF P n j) (evP P j)
 |0,_=>.inl rfl
 |n+1,j=>by rw[evP];exact vD P (wt P n) j
theorem kV{P:PE}{n:Nat}{j:PJ}{r:PR}(h:evF P n j=zs r):evP P j=zs r:=by
 rcases wt P n j with e|e
 . rw[e]at h;cases h
 . rw[<-e];exact h
end
end
def fh(v:AV):Bool:=match v with | .agg _=>zt|_=>zf
theorem D7{v:AV}(h:fh v=zf):v.cells=[v]:=by cases v<;>first|rfl|cases h
inductive Emp:AV->Prop where
 |nil:Emp .x0a
 |fsl:Emp (.fsl [] zf)
inductive Fz(Z:Nat->Prop)(h:Vg):AV->AV->Prop where
 |int (k:IntKind) (n:Int):Fz Z h (.int k n) (.int k n)
 |bool (b:Bool):Fz Z h (.bool b) (.bool b)
 |str (s:List UInt8):Fz Z h (.str s) (.str s)
 |x0a:Fz Z h .x0a .x0a
 |x0c:Fz Z h .x0c .x0c
 |x0d:Fz Z h .x0d .x0d
 |x0e:Fz Z h .x0e .x0e
 |x0b:Fz Z h .x0b .x0b
 |agg {xs ys:List AV}:lz xs=lz ys->(∀(i:Nat) x y,xs[i]?=zs x->ys[i]?=zs y->Fz Z h x y)->ys.all clo=zt->Fz Z h (.agg xs) (.agg ys)
 |emp {x:AV}:Emp x->Fz Z h x (.fsl [] zt)
 |fsl {es es':List AV} {f f':Bool}:lz es=lz es'->(∀(i:Nat) x y,es[i]?=zs x->es'[i]?=zs y->Fz Z h x y)->f=zf->Fz Z h (.fsl es f) (.fsl es' f')
 |view {id off n sz:Nat} {row es':List AV} {f':Bool}:Z id->h.get id=zs (.row row sz)->off+n<=lz row->lz es'=n->(∀(i:Nat) x y,row[off+i]?=zs x->es'[i]?=zs y->Fz Z h x y)->(∀(i:Nat) x,i<n->row[off+i]?=zs x->lz x.cells=sz)->Fz Z h (.msl id off n sz) (.fsl es' f')
 |fptr {v v':AV} (o:Nat):Fz Z h v v'->Fz Z h (.fptr v o) (.fptr v' o)
 |pview {id i o sz:Nat} {v v':AV} {row:List AV}:Z id->h.get id=zs (.row row sz)->row[i]?=zs v->Fz Z h v v'->Fz Z h (.ptr id i o) (.fptr v' o)
section
variable {Z Z':Nat->Prop}{h h':Vg}{x y:AV}
theorem Fz.shape(f:Fz Z h x y):lz x.cells=lz y.cells/\fh x=fh y:=by
 cases f with
 |agg B _ _=>exact⟨B,rfl⟩
 |emp e=>cases e<;>exact⟨rfl,rfl⟩
 |_=>exact⟨rfl,rfl⟩
theorem Fz.mono(f:Fz Z h x y)(hZ:∀id,Z id->Z' id/\h'.get id=h.get id):Fz Z' h' x y:=by
 induction f with
 |agg B _ C ih=>exact .agg B ih C
 |emp e=>exact .emp e
 |fsl B _ C ih=>exact .fsl B ih C
 |view B h2 C G _ H ih=>exact .view (hZ _ B).1 ((hZ _ B).2.trans h2) C G ih H
 |fptr o _ ih=>exact .fptr o ih
 |pview B h2 C _ ih=>exact .pview (hZ _ B).1 ((hZ _ B).2.trans h2) C ih
 |int=>exact .int _ _
 |bool=>exact .bool _
 |str=>exact .str _
 |x0a=>exact .x0a
 |x0c=>exact .x0c
 |x0d=>exact .x0d
 |x0e=>exact .x0e
 |x0b=>exact .x0b
theorem Fz.clo(f:Fz Z h x y)(B:fh y=zf):AM.clo y=zt:=by
 cases f<;>first|rfl|cases B
theorem Fz.cell(f:Fz Z h x y){o:Nat}{a b:AV}(ha:x.cells[o]?=zs a)(hb:y.cells[o]?=zs b):Fz Z h a b/\AM.clo b=zt:=by
 cases B:fh y with
 |false=>
  have C:=f.shape.2.trans B;rw[D7 C]at ha;rw[D7 B]at hb;cases o with
  |zero=>cases ha;cases hb;exact⟨f,f.clo B⟩
  |succ o=>simp at ha
 |true=>
  cases f with
  |agg h1 h2 G=>exact⟨h2 o a b ha hb,zqf.1 G b (zqe hb)⟩
  |_=>cases B
theorem Fz.okc(f:Fz Z h x y)(B:AM.clo y=zt):ff x=zt:=by
 cases f with
 |agg=>cases B
 |emp e=>cases e<;>rfl
 |_=>rfl
end
def yf(k id n sz:Nat):AV:=match k with|1=>.ptr id 0 0|_=>.msl id 0 n sz
def qM(ow:Nat->Option (List Nat))(L:List Nat):Prop:=∀c t,ow c≠zs (L++t)
def CL(ow:Nat->Option (List Nat))(L:List Nat)(n sz:Nat):Prop:=∀c t,ow c=zs (L++t)->t=[]\/∃i o q,t=i::o::q/\i<n/\o<sz
inductive CR(Z:Nat->Prop)(ow:Nat->Option (List Nat))(h:Vg):List Nat->AV->AV->Prop where
 |val {L:List Nat} {x y:AV}:Fz Z h x y->clo y=zt->qM ow L->CR Z ow h L x y
 |und {L:List Nat} {x:AV}:CR Z ow h L x .und
 |nil {L:List Nat} {x:AV} {sz:Nat}:(x=.x0a\/x=.x0a)->qM ow L->CR Z ow h L x (di 0 sz [])
 | own {L:List Nat} {k id sz:Nat} {ces es:List AV}:ow id=zs L->id<h.next->h.get id=zs (.row ces sz)->lz ces=lz es->CL ow L (lz es) sz ->
  (∀(i:Nat) x y,ces[i]?=zs x->es[i]?=zs y->lz x.cells=sz/\lz y.cells=sz/\fh x=fh y) ->
  (∀(i:Nat) x y,ces[i]?=zs x->es[i]?=zs y->∀(o:Nat) a b,x.cells[o]?=zs a->y.cells[o]?=zs b->CR Z ow h (L++[i,o]) a b)->CR Z ow h L (yf k id (lz es) sz) (di k sz es)
def loP(os:List PO):Nat->Nat->Option (List Nat)
 |0,_=>znq
 | n+1,id=>match os[id]? with
  |some (.row _ _ _)=>zs [id]
  |some (.mapo _)=>zs [id]
  |some (.sub p i o)=>(loP os n p).map (· ++ [i,o])
  |_=>znq
inductive VR(Z:Nat->Prop)(ow:Nat->Option (List Nat))(h:Vg)(os:List PO):AV->AV->Prop where
 |fz {x y:AV}:Fz Z h x y->VR Z ow h os x y
 |und {x:AV}:VR Z ow h os x .und
 |any:VR Z ow h os .any .any
 |msl {id c off n sz:Nat}:(∀L,loP os 6 id=zs L->ow c=zs L)->id<lz os->VR Z ow h os (.msl c off n sz) (.msl id off n sz)
 |mnil {x:AV} {id sz:Nat}:(x=.x0a\/x=.x0a)->(∀L,loP os 6 id=zs L->∀c,ow c≠zs L)->id<lz os->VR Z ow h os x (.msl id 0 0 sz)
 |ptr {id c i off:Nat}:(∀L,loP os 6 id=zs L->ow c=zs L)->id<lz os->VR Z ow h os (.ptr c i off) (.ptr id i off)
 |map {id c:Nat}:(∀L,loP os 6 id=zs L->ow c=zs L)->id<lz os->VR Z ow h os (.map c) (.map id)
 |agg {xs ys:List AV}:lz xs=lz ys->(∀(i:Nat) x y,xs[i]?=zs x->ys[i]?=zs y->VR Z ow h os x y)->VR Z ow h os (.agg xs) (.agg ys)
 |tup {xs ys:List AV}:lz xs=lz ys->(∀(i:Nat) x y,xs[i]?=zs x->ys[i]?=zs y->VR Z ow h os x y)->VR Z ow h os (.tup xs) (.tup ys)
 |fn {f:Fn} {as1 bs as' bs':List AV}:lz as1=lz as'->(∀(i:Nat) x y,as1[i]?=zs x->as'[i]?=zs y->VR Z ow h os x y)->lz bs=lz bs'->(∀(i:Nat) x y,bs[i]?=zs x->bs'[i]?=zs y->VR Z ow h os x y)->VR Z ow h os (.fn f as1 bs) (.fn f as' bs')
 |iface {t:TypeId} {x y:AV}:VR Z ow h os x y->VR Z ow h os (.iface t x) (.iface t y)
def dE(sz:Nat)(ces es:List AV):Prop:=lz ces=lz es/\∀(i:Nat) x y,ces[i]?=zs x->es[i]?=zs y->lz x.cells=sz/\lz y.cells=sz/\fh x=fh y
structure sy(R:AV->AV->Prop)(ow:Nat->Option (List Nat))(h:Vg)(r:Nat)(es:List AV)(sz:Nat)(c:Nat)(ces:List AV):Prop where
 o:ow c=zs [r]
 lt:c<h.next
 get:h.get c=zs (.row ces sz)
 sh:dE sz ces es
 vr:∀(i:Nat) x y,ces[i]?=zs x->es[i]?=zs y->∀(o:Nat) a b,x.cells[o]?=zs a->y.cells[o]?=zs b->R a b
 okp:∀(i:Nat) y,es[i]?=zs y->∀b,b∈y.cells->Gi b=zt\/b=.und
 no:∀a t,ow a=zs (r::t)->t=[]
structure e0y(Z:Nat->Prop)(ow:Nat->Option (List Nat))(h:Vg)(r:Nat)(es:List (AV×AV))(c:Nat)(ces:List (AV×AV)):Prop where
 o:ow c=zs [r]
 lt:c<h.next
 get:h.get c=zs (.mapo ces)
 len:lz ces=lz es
 kv:∀(i:Nat) x y,ces[i]?=zs x->es[i]?=zs y->x.1=y.1/\Fz Z h x.2 y.2
 no:∀a t,ow a=zs (r::t)->t=[]
def ek(os:List PO)(r:Nat):Bool:=match os[r]? with|some (.row _ _ _)=>zt|some (.mapo _)=>zt|_=>zf
structure PT(R:AV->AV->Prop)(Z:Nat->Prop)(ow:Nat->Option (List Nat))(h:Vg)(os:List PO):Prop where
 row:∀(r:Nat) es sz,os[r]?=zs (.row 0 es sz)->∃x,CR Z ow h [r] x (di 0 sz es)
 raw:∀(r:Nat) k es sz,os[r]?=zs (.row k es sz)->k≠0->∃c ces,sy R ow h r es sz c ces
 map:∀(r:Nat) es,os[r]?=zs (.mapo es)->∃c ces,e0y Z ow h r es c ces
 inj:∀a b L,ow a=zs L->ow b=zs L->a=b
 live:∀a L,ow a=zs L->a<h.next/\¬Z a/\∃r t,L=r::t/\ek os r=zt
 zb:∀a,Z a->a<h.next
 sb:∀(j:Nat) p i o,os[j]?=zs (.sub p i o)->p<lz os
abbrev G6(Z:Nat->Prop)(ow:Nat->Option (List Nat))(h:Vg)(os:List PO):Prop:=PT (VR Z ow h os) Z ow h os
section
variable {Z Z':Nat->Prop}{ow ow':Nat->Option (List Nat)}{h h':Vg}{os os':List PO}{x y:AV}{L L':List Nat}
theorem CR.reloc(c:CR Z ow h L x y)(hn:h.next<=h'.next)(hZ:∀id,Z id->Z' id/\h'.get id=h.get id)(ho:∀id q,ow' id=zs (L'++q)↔ow id=zs (L++q))(hg:∀id q,ow id=zs (L++q)->h'.get id=h.get id):CR Z' ow' h' L' x y:=by
 induction c generalizing L' with
 |val f e n=>exact .val (f.mono hZ) e fun c t hc=>n c t ((ho c t).1 hc)
 |und=>exact .und
 |nil e n=>exact .nil e fun c t hc=>n c t ((ho c t).1 hc)
 |own H h2 h3 J B N _ ih=>
  have ho1:=(ho _ []).2 (by simpa using H);refine .own (by grind) (zqu h2 hn) (by grind) J (fun c t hc=>B c t ((ho c t).1 hc)) N fun i x y C G o a b ha hb=>?_
  refine ih i x y C G o a b ha hb (fun id q=>?_) (fun id q hq=>?_)
  . grind
  grind
theorem CR.shape(c:CR Z ow h L x y)(hy:y≠.und):fh x=zf:=by
 cases c with
 |val f e _=>
  rw[f.shape.2];cases y<;>first|rfl|cases e
 |und=>grind
 |nil e n=>rcases e with rfl|rfl<;>rfl
 |own=>rename_i k _ _ _ _ _ _ _ _ _ _ _;unfold yf;split<;>rfl
def df(ow:Nat->Option (List Nat))(os:List PO)(ow':Nat->Option (List Nat))(os':List PO):Prop:=lz os<=lz os'/\∀id<lz os,∀L',loP os' 6 id=zs L'->∃L,loP os 6 id=zs L/\∀c,ow c=zs L↔ow' c=zs L'
theorem VR.keep(v:VR Z ow h os x y)(hZ:∀id,Z id->Z' id/\h'.get id=h.get id)(G:df ow os ow' os'):VR Z' ow' h' os' x y:=by
 have C:∀{id c},(∀L,loP os 6 id=zs L->ow c=zs L)->id<lz os->(∀L,loP os' 6 id=zs L->ow' c=zs L)/\id<lz os':=fun{id c} B h2=>by
  refine⟨fun L H=>?_,zqu h2 G.1⟩;obtain⟨J,N,Q⟩:=G.2 id h2 L H;exact(Q c).1 (B J N)
 induction v with
 |fz f=>exact .fz (f.mono hZ)
 |und=>exact .und
 |any=>exact .any
 |msl B h2=>exact .msl (C B h2).1 (C B h2).2
 |mnil e m n=>exact .mnil e (fun L H c hc=>by
  obtain⟨J,N,Q⟩:=G.2 _ n L H;exact m J N c ((Q c).2 hc)) (zqu n G.1)
 |ptr B h2=>exact .ptr (C B h2).1 (C B h2).2
 |map B h2=>exact .map (C B h2).1 (C B h2).2
 |agg B _ ih=>exact .agg B ih
 |tup B _ ih=>exact .tup B ih
 |fn B _ X _ U V=>exact .fn B U X V
 |iface _ ih=>exact .iface ih
theorem PT.imp{R C:AV->AV->Prop}(s:PT R Z ow h os)(f:∀x y,R x y->C x y):PT C Z ow h os:=
 ⟨s.row,fun r k es sz G B=>by
   obtain⟨c,ces,q⟩:=s.raw r k es sz G B;exact⟨c,ces,q.o,q.lt,q.get,q.sh,fun i x y H J o a b ha hb=>f a b (q.vr i x y H J o a b ha hb),q.okp,q.no⟩,s.map,s.inj,s.live,s.zb,s.sb⟩
theorem G6.to(s:PT (VR Z ow h os) Z' ow' h' os')(hZ:∀id,Z id->Z' id/\h'.get id=h.get id)(B:df ow os ow' os'):G6 Z' ow' h' os':=s.imp fun _ _ v=>v.keep hZ B
theorem y9{c:AV}{k sz:Nat}{es:List AV}(e:fe c=zs (k,es,sz)):c=di k sz es:=by
 unfold fe at e;split at e
 . cases e;rfl
 . cases e
theorem Vf(k sz:Nat)(es:List AV):di k sz es≠.und:=by intro e;cases e
theorem nF{k sz k' B:Nat}{es es':List AV}(e:di k sz es=di k' B es'):k=k'/\sz=B/\es=es':=by
 unfold di at e;grind
theorem CR.inv{k sz:Nat}{es:List AV}(c:CR Z ow h L x (di k sz es)):
 (k=0/\es=[]/\(x=.x0a\/x=.x0a)/\qM ow L)\/∃id ces,x=yf k id (lz es) sz/\ow id=zs L/\id<h.next/\h.get id=zs (.row ces sz)/\dE sz ces es/\CL ow L (lz es) sz/\
   ∀(i:Nat) x y,ces[i]?=zs x->es[i]?=zs y->∀(o:Nat) a b,x.cells[o]?=zs a->y.cells[o]?=zs b->CR Z ow h (L++[i,o]) a b:=by
 generalize hy:di k sz es=y at c;cases c with
 |val f e _=>subst hy;cases e
 |und=>grind[Vf]
 |nil e n=>obtain⟨rfl,rfl,rfl⟩:=nF hy;grind
 |own C h2 G H B J N=>obtain⟨rfl,rfl,rfl⟩:=nF hy;exact .inr ⟨_,_,rfl,C,h2,G,⟨H,J⟩,B,N⟩
theorem PT.get{R:AV->AV->Prop}(s:PT R Z ow h os):∀(n id k:Nat)(es:List AV)(sz:Nat),cd os n id=zs (k,es,sz) ->
 ∃L,loP os n id=zs L/\((ez os id=zt/\L=[id]/\∃c ces,sy R ow h id es sz c ces)\/(ez os id=zf/\∃x,CR Z ow h L x (di k sz es)))
 |0,_,_,_,_,e=>by cases e
 |n + 1,id,k,es,sz,e=>by
  unfold cd at e;unfold loP ez;cases N:os[id]? with
  |none=>grind
  |some q=>
   rw[N]at e;cases q with
   |row k' es' sz'=>
    cases e;refine⟨[id],rfl,?_⟩;cases k with
    |zero=>exact .inr ⟨rfl,s.row id es sz N⟩
    |succ k=>exact .inl ⟨rfl,rfl,s.raw id _ es sz N (by omega)⟩
   |sub p i o=>
    simp only at e;cases Q:cd os n p with
    |none=>grind
    |some t=>
     obtain⟨kp,B,H⟩:=t;rw[Q]at e;simp only at e;cases hi:B[i]? with
     |none=>grind
     |some v=>
      rw[hi]at e;simp only at e;cases ho:v.cells[o]? with
      |none=>grind
      |some c=>
       rw[ho]at e;have U:=y9 e;subst U;obtain⟨X,hl,hc⟩:=PT.get s n p kp B H Q;refine⟨X++[i,o],by grind,.inr ⟨rfl,?_⟩⟩;rcases hc with⟨_,_,c,ces,J⟩|⟨_,x,J⟩
       . rcases J.okp i v hi _ (zqe ho)with h|h
         . cases h
         grind[Vf]
       . rcases J.inv with⟨_,e2,_⟩|⟨cid,ces,_,_,_,_,C,_,hcr⟩
         . grind
         . have G:i<lz ces:=by rw[C.1];grind
           have V:=zqd G;have hs:=C.2 i _ v V hi;grind
   |_=>cases e
end
def Und(L M:List Nat):Prop:=∃t,M=L++t
theorem Und.refl(L:List Nat):Und L L:=⟨[],by simp⟩
theorem Nb{L t:List Nat}{i o i' o':Nat}{q:List Nat}(h:Und ((L++[i,o])++t) (L++[i',o']++q)):i=i'/\o=o':=by
 obtain⟨u,hu⟩:=h;simp_all
theorem GD{L t:List Nat}{i o:Nat}(h:Und ((L++[i,o])++t) L):False:=by
 obtain⟨u,hu⟩:=h;simp_all
structure Dl(Z:Nat->Prop)(ow:Nat->Option (List Nat))(h:Vg)(Z':Nat->Prop)(ow':Nat->Option (List Nat))(h':Vg)(L:List Nat):Prop where
 hn:h.next<=h'.next
 hZ:∀id,Z id->Z' id/\h'.get id=h.get id
 ho:∀id M,¬Und L M->(ow' id=zs M↔ow id=zs M)
 hg:∀id M,ow id=zs M->¬Und L M->h'.get id=h.get id
section
variable {Z Z':Nat->Prop}{ow ow':Nat->Option (List Nat)}{h h':Vg}{os os':List PO}{x y:AV}{L L0 M:List Nat}
theorem Dl.tree(d:Dl Z ow h Z' ow' h' L)(B:∀q,¬Und L (M++q))(c:CR Z ow h M x y):CR Z' ow' h' M x y:=
 c.reloc d.hn d.hZ (fun id q=>d.ho id _ (B q)) (fun id q e=>d.hg id _ e (B q))
theorem Qg{v c:AV}{o:Nat}(ho:o<lz v.cells)(hc:fh c=zf):(od v o c).cells=v.cells.set o c/\fh (od v o c)=fh v:=by
 cases B:fh v with
 |false=>
  have e1:od v o c=c:=by cases v<;>first|rfl|cases B
  have e2:=D7 B;rw[e2]at ho
  have:o=0:=by grind
  subst this;rw[e1,e2,D7 hc,hc];grind
 |true=>cases v<;>first|exact⟨rfl,rfl⟩|cases B
theorem CR.up{k sz i o:Nat}{es:List AV}{v c H:AV}{t:List Nat}(hr:CR Z ow h M x (di k sz es))(d:Dl Z ow h Z' ow' h' (M++[i,o]++t))(hin:CL ow' M (lz es) sz)(hi:es[i]?=zs v)(ho:v.cells[o]?=zs c)(hc:fh H=zf)
 (J:∀a,CR Z ow h (M++[i,o]) a c->CR Z' ow' h' (M++[i,o]) a H):CR Z' ow' h' M x (di k sz (es.set i (od v o H))):=by
 rcases hr.inv with⟨_,e2,_⟩|⟨id,ces,rfl,X,h2,h3,V,_,Y⟩
 . grind
 . have Q:o<lz v.cells:=(zqb.1 ho).1
   have U:=Qg Q hc;have G:¬Und (M++[i,o]++t) M:=GD;rw[show lz es=lz (es.set i (od v o H)) by simp];refine CR.own ((d.ho _ _ G).2 X) (zqu h2 d.hn) ((d.hg _ _ X G).trans h3) (by simpa using V.1) (by grind) (fun j x y J B=>?_) (fun j x y C B o' a b ha hb=>?_)
   . rw [zqc]at B
     split at B
     . rename_i e
       subst e;split at B
       . cases B
         have:=V.2 i x v J hi
         grind
       . cases B
     . exact V.2 j x y J B
   . rw [zqc]at B
     split at B
     . rename_i e
       subst e;split at B
       . cases B
         rw[U.1,zqc]at hb;by_cases e:o=o'
         . grind
         . rw[if_neg e]at hb
           exact d.tree (fun q N=>e (Nb N).2) (Y i x v C hi o' a b ha hb)
       . cases B
     . rename_i e
       exact d.tree (fun q N=>e (Nb N).1) (Y j x y C B o' a b ha hb)
theorem jq:∀(n id:Nat)(es':List AV)(os':List PO),dg os n id es'=zs os'->∃r k es sz B,os[r]?=zs (.row k es sz)/\os'=os.set r (.row k B sz)/\r=cg os n id
 |0,_,_,_,e=>by cases e
 |n + 1,id,es',os',e=>by
  unfold dg at e;unfold cg;cases G:os[id]? with
  |none=>grind
  |some q=>
   rw[G]at e;cases q with
   |row k es sz=>grind
   |sub p i o=>
    simp only at e;cases H:cd os n p with
    |none=>grind
    |some t=>
     obtain⟨kp,C,psz⟩:=t;rw[H]at e;simp only at e;cases hi:C[i]? with
     |none=>grind
     |some v=>
      rw[hi]at e;simp only at e;cases ho:v.cells[o]? with
      |none=>grind
      |some c=>
       rw[ho]at e;simp only at e;cases hc:fe c with
       |none=>grind
       |some t=>
        obtain⟨k,es,sz⟩:=t;rw[hc]at e;exact jq n p _ os' e
   |_=>cases e
theorem Ap{r k k' sz B:Nat}{es es':List AV}(C:os[r]?=zs (.row k es sz)):∀(n id:Nat),loP (os.set r (.row k' es' B)) n id=loP os n id
 |0,_=>rfl
 |n + 1,id=>by
  unfold loP;rw[zqc];have hlt:r<lz os:=(zqb.1 C).1;by_cases e:r=id
  . grind
  . rw [if_neg e]
    cases os[id]? with
    |none=>rfl
    |some q=>
     cases q with
     |sub p i o=>simp only[Ap C n p]
     |_=>rfl
theorem ij{r k k' sz B:Nat}{es es':List AV}(hr:os[r]?=zs (.row k es sz))(id:Nat):ek (os.set r (.row k' es' B)) id=ek os id:=by
 unfold ek;grind
theorem I8:∀(n id:Nat)(L:List Nat),loP os n id=zs L->∃t,L=cg os n id::t/\ek os (cg os n id)=zt/\(t=[]->cg os n id=id)
 |0,_,_,e=>by cases e
 |n + 1,id,L,e=>by
  unfold loP at e;unfold cg;cases G:os[id]? with
  |none=>grind
  |some q=>
   rw[G]at e;cases q with
   |dead=>cases e
   |sub p i o=>
    simp only at e;cases B:loP os n p with
    |none=>grind
    |some C=>
     rw[B]at e;cases e;obtain⟨t,h1,h2,_⟩:=I8 n p C B;simp_all
   |_=>cases e;exact⟨[],rfl,by grind[ek],fun _=>rfl⟩
theorem PT.set{R:AV->AV->Prop}(s:PT R Z ow h os)(d:Dl Z ow h Z' ow' h' L)
 (hinj:∀a b L,ow' a=zs L->ow' b=zs L->a=b)(hlive:∀a L,ow' a=zs L->a<h'.next/\¬Z' a/\∃r t,L=r::t/\ek os r=zt)(hzb:∀a,Z' a->a<h'.next)
 (hin:∀M n sz t,L=M++t->t≠[]->CL ow M n sz->CL ow' M n sz):
 ∀ (n id k:Nat) (es:List AV) (sz:Nat) (es':List AV) (os':List PO) (L0 t:List Nat),L=L0++t->cd os n id=zs (k,es,sz)->loP os n id=zs L0->ez os id=zf->dg os n id es'=zs os' ->
   (∀x,CR Z ow h L0 x (di k sz es)->CR Z' ow' h' L0 x (di k sz es'))->PT R Z' ow' h' os'
 |0,_,_,_,_,_,_,_,_,_,e,_,_,_,_=>by cases e
 |n + 1,id,k,es,sz,es',os',L0,t,hL,e,hlo,hraw,hset,hcr=>by
  unfold cd at e;unfold dg at hset;unfold loP at hlo;cases he:os[id]? with
  |none=>grind
  |some q=>
   rw[he]at e hset hlo;cases q with
   |row k0 es0 sz0=>
    cases e;cases hset;cases hlo;have aa:k=0:=by
     grind[ez]
    subst aa;subst hL;have C:∀r q,r≠id->¬Und ([id]++t) (r::q):=fun r q X ⟨u,hu⟩=>by
     grind
    have ab:id<lz os:=(zqb.1 he).1;refine⟨fun r G N B=>?_,fun r k1 G N B X=>?_,fun r G B=>?_,hinj,fun a L ha=>?_,hzb,fun j p i o hj=>?_⟩
    . rw [zqc]at B
      by_cases e:id=r
      . subst e
        rw[if_pos rfl,if_pos ab]at B;cases B;obtain⟨x,J⟩:=s.row id es sz he;grind
      . rw[if_neg e]at B
        obtain⟨x,J⟩:=s.row r G N B;exact⟨x,d.tree (by grind) J⟩
    . rw [zqc]at B
      by_cases e:id=r
      . grind
      . rw[if_neg e]at B
        obtain⟨c,ces,B⟩:=s.raw r k1 G N B X;have H:=C r [] (fun Q=>e Q.symm);exact⟨c,ces,(d.ho _ _ H).2 B.o,zqu B.lt d.hn,(d.hg _ _ B.o H).trans B.get,B.sh,B.vr,B.okp,fun a t ha=>B.no a t ((d.ho _ _ (C r t (fun Q=>e Q.symm))).1 ha)⟩
    . rw [zqc]at B
      by_cases e:id=r
      . grind
      . rw[if_neg e]at B
        obtain⟨c,ces,B⟩:=s.map r G B;have H:=C r [] (fun Q=>e Q.symm);exact⟨c,ces,(d.ho _ _ H).2 B.o,zqu B.lt d.hn,(d.hg _ _ B.o H).trans B.get,B.len,fun i x y J hy=>⟨(B.kv i x y J hy).1,(B.kv i x y J hy).2.mono d.hZ⟩,fun a t ha=>B.no a t ((d.ho _ _ (C r t (fun Q=>e Q.symm))).1 ha)⟩
    . grind[ij]
    . rw[zqc]at hj
      by_cases e:id=j
      . grind
      . rw[if_neg e]at hj;rw[zqg];exact s.sb j p i o hj
   |sub p i o=>
    simp only at e hset hlo;cases hp:cd os n p with
    |none=>grind
    |some t1=>
     obtain⟨kp,V,Y⟩:=t1;rw[hp]at e hset;simp only at e hset;cases hi:V[i]? with
     |none=>grind
     |some v=>
      rw[hi]at e hset;simp only at e hset;cases ho:v.cells[o]? with
      |none=>grind
      |some c=>
       rw [ho]at e hset;simp only at e hset;have ec:=y9 e;subst ec;rw[e]at hset;obtain⟨Lp,hl,hc⟩:=s.get n p kp V Y hp;rw[hl]at hlo;cases hlo;have U:ez os p=zf:=by
        rcases hc with⟨_,_,c,ces,B⟩|⟨h,_⟩
        . rcases B.okp i v hi _ (zqe ho)with h|h
          . cases h
          grind[Vf]
        . exact h
       have d':=d;rw[hL]at d';refine PT.set s d hinj hlive hzb hin n p kp V Y _ os' Lp ([i,o]++t) (by grind) hp hl U hset fun x J=>?_
       refine J.up d' ?_ hi ho rfl hcr;rcases J.inv with⟨_,e2,_⟩|⟨_,_,_,_,_,_,_,h4,_⟩
       . grind
       grind
   |_=>cases e
end
structure Stp(b:Nat)(Z:Nat->Prop)(ow:Nat->Option (List Nat))(h:Vg)(K:PK)(Z':Nat->Prop)(ow':Nat->Option (List Nat))(h':Vg)(K':PK):Prop where
 nx:h.next<=h'.next
 zz:∀id,Z id->Z' id/\h'.get id=h.get id
 zn:∀id,Z' id->Z id\/h.next<=id
 un:∀id,id<h.next->ow id=znq->h'.get id=h.get id
 uo:∀id L,ow' id=zs L->id<h.next->ow id≠znq
 th:∃l,h'.tch=l++h.tch/\∀id∈l,h.next<=id\/∃r t,ow id=zs (r::t)/\(r<b->r∈K'.tch)
 mv:∀id r t,ow id=zs (r::t)->r<K.ext->(∃t',ow' id=zs (r::t'))\/r∈K'.tch
 tm:∀r∈K.tch,r<K.ext->r∈K'.tch
 ex:K'.ext=K.ext
 xk:∀j,j<K.ext->∀c,ek K'.os j=zt->(ow c=zs [j]↔ow' c=zs [j])
 rd:∀j,j<K.ext->ek K'.os j=zt->ek K.os j=zt
section
variable {b:Nat}{Z Z' Z2:Nat->Prop}{ow ow' ow2:Nat->Option (List Nat)}{h h' h2:Vg}{K K' K2:PK}{os os' os2:List PO}{x y:AV}{L L0 M:List Nat}
theorem Stp.refl(b:Nat)(Z:Nat->Prop)(ow:Nat->Option (List Nat))(h:Vg)(K:PK):Stp b Z ow h K Z ow h K:=
 ⟨zqt _,fun id hz=>⟨hz,rfl⟩,fun id hz=>.inl hz,fun _ _ _=>rfl,(by grind),(by simp_all),fun id r t ho _=>.inl ⟨t,ho⟩,fun r B _=>B,rfl,fun j _ c _=>.rfl,fun j _ C=>C⟩
theorem Stp.trans(s:G6 Z ow h K.os)(a:Stp K.ext Z ow h K Z' ow' h' K')(c:Stp K'.ext Z' ow' h' K' Z2 ow2 h2 K2):Stp K.ext Z ow h K Z2 ow2 h2 K2:=by
 obtain⟨V,e1,X⟩:=a.th;obtain⟨Y,e2,f2⟩:=c.th;have hex:=a.ex;refine⟨zqz a.nx c.nx,fun id hz=>⟨(c.zz id (a.zz id hz).1).1,(c.zz id (a.zz id hz).1).2.trans (a.zz id hz).2⟩,fun id hz=>?_,fun id hl ho=>?_,fun id L ho hl=>?_,⟨Y++V,by grind,fun id hi=>?_⟩,fun id r t ho B=>?_,fun r B hl=>c.tm r (a.tm r B hl) (by grind),c.ex.trans a.ex,fun j J Q B=>?_,fun j J B=>a.rd j J (c.rd j (by grind) B)⟩
 . rcases c.zn id hz with h|h
   . exact a.zn id h
   . exact .inr (zqz a.nx h)
 . have G:=a.un id hl ho
   have C:ow' id=znq:=by
    cases e:ow' id with
    |none=>rfl
    |some L=>exact absurd ho (a.uo id L e hl)
   exact(c.un id (zqu hl a.nx) C).trans G
 . cases e:ow' id with
   |none=>exact absurd e (c.uo id L ho (zqu hl a.nx))
   |some L'=>exact a.uo id L' e hl
 . rcases zqp.1 hi with hi|hi
   . rcases f2 id hi with h|⟨r,t,G,h2⟩
     . exact .inl (zqz a.nx h)
     . by_cases hl:id<h.next
       . cases e:ow id with
         |none=>exact absurd e (a.uo id _ G hl)
         |some L=>
          obtain⟨_,_,N,U,rfl,_⟩:=s.live id L e;refine .inr ⟨N,U,rfl,fun B=>?_⟩;rcases a.mv id N U e B with⟨t',C⟩|C
          . grind
          . exact c.tm N C (by grind)
       grind
   . rcases X id hi with h|⟨r,t,G,h2⟩
     . exact .inl h
     . exact .inr ⟨r,t,G,fun B=>c.tm r (h2 B) (by grind)⟩
 . rcases a.mv id r t ho B with⟨t',C⟩|C
   . rcases c.mv id r t' C (by grind)with h|h
     . exact .inl h
     grind
   . exact .inr (c.tm r C (by grind))
 . have H:j<K'.ext:=by grind
   exact(a.xk j J Q (c.rd j H B)).trans (c.xk j H Q B)
theorem df.refl(ow:Nat->Option (List Nat))(os:List PO):df ow os ow os:=⟨zqt _,(by grind)⟩
theorem df.trans(a:df ow os ow' os')(c:df ow' os' ow2 os2):df ow os ow2 os2:=⟨zqz a.1 c.1,fun id hi B hl=>by
 obtain⟨C,G,h2⟩:=c.2 id (zqu hi a.1) B hl;obtain⟨L0,h3,h4⟩:=a.2 id hi C G;grind⟩
def Wk(os os':List PO):Prop:=lz os'=lz os/\∀j:Nat,os'[j]?=os[j]?\/∃p i o,os[j]?=zs (.sub p i o)/\os'[j]?=zs .dead
theorem Wk.row(w:Wk os os'){r k sz:Nat}{es:List AV}:os'[r]?=zs (.row k es sz)↔os[r]?=zs (.row k es sz):=by
 rcases w.2 r with e|⟨p,i,o,e1,e2⟩
 . rw[e]
 grind
theorem Wk.map(w:Wk os os'){r:Nat}{es:List (AV×AV)}:os'[r]?=zs (.mapo es)↔os[r]?=zs (.mapo es):=by
 rcases w.2 r with e|⟨p,i,o,e1,e2⟩
 . rw[e]
 grind
theorem Wk.rt(w:Wk os os')(r:Nat):ek os' r=ek os r:=by
 unfold ek;rcases w.2 r with e|⟨p,i,o,e1,e2⟩
 . rw[e]
 grind
theorem Wk.raw(w:Wk os os')(r:Nat):ez os' r=ez os r:=by
 unfold ez;rcases w.2 r with e|⟨p,i,o,e1,e2⟩
 . rw[e]
 grind
theorem Wk.lo(w:Wk os os'):∀(n id:Nat)(L:List Nat),loP os' n id=zs L->loP os n id=zs L
 |0,_,_,e=>by cases e
 |n + 1,id,L,e=>by
  unfold loP at e|-;rcases w.2 id with e1|⟨p,i,o,e1,e2⟩
  . rw [e1]at e
    cases C:os[id]? with
    |none=>rw[C]at e;cases e
    |some q=>
     rw[C]at e;cases q with
     |sub p i o=>
      simp only at e|-;cases B:loP os' n p with
      |none=>rw[B]at e;cases e
      |some G=>rw[B]at e;rw[Wk.lo w n p G B];exact e
     |dead=>cases e
     |_=>exact e
  . rw[e2]at e;cases e
theorem Wk.keep(w:Wk os os'):df ow os ow os':=⟨Nat.le_of_eq w.1.symm,fun id _ L' hl=>⟨L',w.lo 6 id L' hl,fun _=>.rfl⟩⟩
theorem PT.wk{R:AV->AV->Prop}(s:PT R Z ow h os)(w:Wk os os'):PT R Z ow h os':=by
 refine⟨fun r es sz B=>s.row r es sz (w.row.1 B),fun r k es sz B C=>?_,fun r es B=>s.map r es (w.map.1 B),s.inj,fun a L ha=>?_,s.zb,fun j p i o G=>?_⟩
 . obtain⟨c,ces,B⟩:=s.raw r k es sz (w.row.1 B) C
   grind
 . obtain⟨H,h2,r,t,J,N⟩:=s.live a L ha
   exact⟨H,h2,r,t,J,by rw[w.rt];exact N⟩
 . rcases w.2 j with e|⟨p',i',o',e1,e2⟩
   . rw[e]at G;rw[w.1];exact s.sb j p i o G
   grind
theorem Kn(os:List PO)(r:Nat)(keep:List Nat):∀(l:List PO)(j i:Nat),(X6 os r keep j l)[i]?=(l[i]?).map fun e=>match e with | .sub p a o=>if cg os 6 (j+i)=r/\¬(j+i)∈keep then .dead else .sub p a o|e=>e
 |[],j,i=>by simp[X6]
 |e::l,j,0=>rfl
 |e::l,j,i+1=>by
  show(X6 os r keep (j+1) l)[i]?=(l[i]?).map _
  rw[Kn os r keep l (j+1) i,show j+1+i=j+(i+1) by omega]
theorem Vh(os:List PO)(r:Nat)(keep:List Nat):∀(l:List PO)(j:Nat),lz (X6 os r keep j l)=lz l
 |[],_=>rfl
 |e::l,j=>by show(X6 os r keep (j+1) l).length+1=lz l+1;rw[Vh]
theorem Vi(os:List PO)(r:Nat)(keep:List Nat):Wk os (gm os r keep):=by
 refine⟨Vh _ _ _ _ _,fun j=>?_⟩;unfold gm;rw[Kn,zqv];grind
theorem oy{r j p i o:Nat}{keep:List Nat}(h:(gm os r keep)[j]?=zs (.sub p i o)):cg os 6 j≠r\/j∈keep:=by
 unfold gm at h;rw[Kn,zqv]at h;grind
theorem Gl(os:List PO)(r:Nat)(keep:List Nat)(id:Nat):∀(l:List PO)(j i:Nat),(U7 os r keep id j l)[i]?=(l[i]?).map fun e=>match e with | .sub p a o=>if cg os 6 (j+i)=r/\¬(j+i)∈keep then(bif wq os 6 id (.sub p a o)then .sub p a o else .dead)else .sub p a o|e=>e
 |[],j,i=>by simp[U7]
 |e::l,j,0=>rfl
 |e::l,j,i+1=>by
  show(U7 os r keep id (j+1) l)[i]?=(l[i]?).map _
  rw[Gl os r keep id l (j+1) i,show j+1+i=j+(i+1) by omega]
theorem Qh(os:List PO)(r:Nat)(keep:List Nat)(id:Nat):∀(l:List PO)(j:Nat),lz (U7 os r keep id j l)=lz l
 |[],_=>rfl
 |e::l,j=>by show(U7 os r keep id (j+1) l).length+1=lz l+1;rw[Qh]
theorem gK(os:List PO)(id:Nat):Wk os (jg os id):=by
 refine⟨Qh _ _ _ _ _ _,fun j=>?_⟩;unfold jg;rw[Gl,zqv];cases he:os[j]? with
 |none=>exact .inl rfl
 |some e=>
  cases e with
  |sub p i o=>
   simp only[Option.map_some];split
   . cases wq os 6 id (.sub p i o)with
     |true=>exact .inl rfl
     |false=>exact .inr ⟨p,i,o,rfl,rfl⟩
   . exact .inl rfl
  |_=>exact .inl rfl
theorem ri{id j p i o:Nat}(h:(jg os id)[j]?=zs (.sub p i o)):cg os 6 j≠cg os 6 id\/j∈ei os 6 id\/(os[j]?=zs (.sub p i o)/\wq os 6 id (.sub p i o)=zt):=by
 unfold jg at h;rw[Gl,zqv]at h;cases C:os[j]? with
 |none=>rw[C]at h;cases h
 |some e=>
  rw[C]at h;cases e with
  |sub H i' o'=>
   simp only[Option.map_some]at h;split at h
   . cases B:wq os 6 id (.sub H i' o')with
     |true=>rw[B]at h;cases h;exact .inr (.inr ⟨rfl,B⟩)
     |false=>rw[B]at h;cases h
   . rename_i hn
     by_cases e:cg os 6 j=cg os 6 id
     . exact .inr (.inl (Classical.byContradiction fun G=>hn ⟨e,G⟩))
     . exact .inl e
  |_=>cases h
theorem pp{ps:List PO}(B:∀(j:Nat) p i o,os[j]?=zs (.sub p i o)->p<lz os):∀(n id:Nat),id<lz os->loP (os++ps) n id=loP os n id
 |0,_,_=>rfl
 |n+1,id,hi=>by
  unfold loP;rw[List.getElem?_append_left hi];cases C:os[id]? with
  |none=>rfl
  |some q=>
   cases q with
   |sub p i o=>simp only[pp B n p (B id p i o C)]
   |_=>rfl
theorem Nc{ps:List PO}(hsb:∀(j:Nat) p i o,os[j]?=zs (.sub p i o)->p<lz os)(ho:∀id<lz os,∀L,loP os 6 id=zs L->∀c,ow c=zs L↔ow' c=zs L):df ow os ow' (os++ps):=
 ⟨by simp,(by grind[Go.AM.pp])⟩
theorem Vj{ps:List PO}{r:Nat}(hr:ek os r=zt):ek (os++ps) r=zt:=by
 grind[ek]
theorem fj{r:Nat}(hr:ek os r=zt):r<lz os:=by
 grind[ek]
theorem PT.subs{R:AV->AV->Prop}(s:PT R Z ow h os){ps:List PO}(J:∀e∈ps,∃p i o,e=.sub p i o/\p<lz os):PT R Z ow h (os++ps)/\df ow os ow (os++ps):=by
 have keep:df ow os ow (os++ps):=Nc s.sb fun _ _ _ _ _=>.rfl
 have C:∀{r:Nat}{e:PO},(os++ps)[r]?=zs e->os[r]?=zs e\/∃p i o,e=.sub p i o/\p<lz os:=fun{r e} B=>by
  rw[zql]at B;split at B
  . grind
  . exact .inr (J e (zqe B))
 refine⟨⟨fun r es sz B=>?_,fun r k es sz B G=>?_,fun r es B=>?_,s.inj,fun a L ha=>?_,s.zb,fun j p i o H=>?_⟩,keep⟩
 . rcases C B with B|⟨_,_,_,e,_⟩
   . exact s.row r es sz B
   . cases e
 . rcases C B with B|⟨_,_,_,e,_⟩
   . obtain⟨c,ces,B⟩:=s.raw r k es sz B G
     grind
   . cases e
 . rcases C B with B|⟨_,_,_,e,_⟩
   . exact s.map r es B
   . cases e
 . obtain⟨h1,h2,r,t,h3,h4⟩:=s.live a L ha
   grind[Vj]
 . rw[zqq]
   rcases C H with H|⟨_,_,_,e,h⟩
   . have:=s.sb j p i o H;omega
   grind
end
section
variable {E:Env}{Z Z':Nat->Prop}{ow ow':Nat->Option (List Nat)}{h h':Vg}{K K':PK}{os os':List PO}{x y:AV}{L M:List Nat}
def VL(Z:Nat->Prop)(ow:Nat->Option (List Nat))(h:Vg)(os:List PO)(xs ys:List AV):Prop:=lz xs=lz ys/\∀(i:Nat) x y,xs[i]?=zs x->ys[i]?=zs y->VR Z ow h os x y
theorem VL.nil:VL Z ow h os [] []:=⟨rfl,fun i x y B=>by simp at B⟩
theorem VL.cons{xs ys:List AV}(a:VR Z ow h os x y)(l:VL Z ow h os xs ys):VL Z ow h os (x::xs) (y::ys):=⟨by simp[l.1],fun i u v B C=>by
 cases i with
 |zero=>grind
 |succ i=>exact l.2 i u v B C⟩
theorem VL.inv{xs ys:List AV}{u v:AV}(l:VL Z ow h os (u::xs) (v::ys)):VR Z ow h os u v/\VL Z ow h os xs ys:=⟨l.2 0 u v rfl rfl,by have:=l.1;grind,fun i x y B C=>l.2 (i+1) x y B C⟩
theorem VL.app{xs ys us vs:List AV}(a:VL Z ow h os xs ys)(b:VL Z ow h os us vs):VL Z ow h os (xs++us) (ys++vs):=⟨by simp[a.1,b.1],fun i u v B C=>by
 rw[zql]at B C;rw[a.1]at B;split at B
 . rename_i e;rw[if_pos e]at C;exact a.2 i u v B C
 . rename_i e;rw[if_neg e]at C;exact b.2 _ u v B C⟩
theorem VL.keep{xs ys:List AV}(a:VL Z ow h os xs ys)(hZ:∀id,Z id->Z' id/\h'.get id=h.get id)(B:df ow os ow' os'):VL Z' ow' h' os' xs ys:=⟨a.1,fun i x y C G=>(a.2 i x y C G).keep hZ B⟩
theorem VR.agL{xs ys:List AV}(l:VL Z ow h os xs ys):VR Z ow h os (.agg xs) (.agg ys):=.agg l.1 l.2
theorem VR.agI{ys:List AV}(v:VR Z ow h os x (.agg ys)):∃xs,x=.agg xs/\VL Z ow h os xs ys:=by
 cases v with
 |fz f=>cases f with|agg B h2 h3=>exact⟨_,rfl,B,fun i x y C G=>.fz (h2 i x y C G)⟩
 |agg B h2=>exact⟨_,rfl,B,h2⟩
theorem VR.fzc(v:VR Z ow h os x y)(hc:clo y=zt):Fz Z h x y:=by
 cases v with
 |fz f=>exact f
 |_=>cases hc
theorem VR.isI{k:IntKind}{n:Int}(v:VR Z ow h os x (.int k n)):x=.int k n:=by cases v with|fz f=>cases f;rfl
theorem VR.isB{b:Bool}(v:VR Z ow h os x (.bool b)):x=.bool b:=by cases v with|fz f=>cases f;rfl
theorem VR.isS{s:List UInt8}(v:VR Z ow h os x (.str s)):x=.str s:=by cases v with|fz f=>cases f;rfl
theorem VR.isN(v:VR Z ow h os x .x0a):x=.x0a:=by cases v with|fz f=>cases f;rfl
theorem VR.i(k:IntKind)(n:Int):VR Z ow h os (.int k n) (.int k n):=.fz (.int k n)
theorem VR.b(b:Bool):VR Z ow h os (.bool b) (.bool b):=.fz (.bool b)
theorem VR.shape(v:VR Z ow h os x y)(hy:y≠.und):lz x.cells=lz y.cells/\fh x=fh y:=by
 cases v with
 |fz f=>exact f.shape
 |und=>grind
 |agg B h2=>exact⟨B,rfl⟩
 |mnil e _ _=>rcases e with rfl|rfl<;>exact⟨rfl,rfl⟩
 |_=>exact⟨rfl,rfl⟩
theorem VR.cells(v:VR Z ow h os x y)(B:y≠.und):VL Z ow h os x.cells y.cells:=by
 cases e:fh y with
 |true=>
  cases y with
  |agg ys=>obtain⟨xs,rfl,h⟩:=v.agI;exact h
  |_=>cases e
 |false=>rw[D7 e,D7 ((v.shape B).2.trans e)];exact .cons v .nil
theorem Zq(v:Value):VR Z ow h os (Eg v) (Eg v):=by
 cases v with
 |int k n=>exact .i k n
 |bool b=>exact .b b
 |string s=>exact .fz (.str _)
 |pointer a=>cases a<;>first|exact .fz .x0c|exact .any
 |slice a n c=>
  cases a with
  |some=>exact .any
  |none=>cases n<;>first|exact .any|(cases c<;>first|exact .any|exact .fz .x0a)
 |map r=>cases r<;>first|exact .fz .x0d|exact .any
 |nilFunc=>exact .fz .x0e
 |nilIface=>exact .fz .x0b
 |agg=>exact .und
 |tuple=>exact .und
 |_=>exact .any
theorem vE(v:Value):VR Z ow h os (ofValue v) (ofValue v):=by
 have B:=Zq (Z:=Z) (ow:=ow) (h:=h) (os:=os) v;cases v with
 |agg cs=>
  refine .agg rfl fun i x y hx hy=>?_
  grind[Zq]
 |_=>exact B
structure FrR(Z:Nat->Prop)(ow:Nat->Option (List Nat))(h:Vg)(os:List PO)(nt:Nat)(frc:Tr)(fr:PF):Prop where
 v:∀i,VR Z ow h os (frc.get i) (FR fr i)
 has:∀i,i<nt->frc.has i=zt
theorem FrR.keep{nt:Nat}{frc:Tr}{fr:PF}(a:FrR Z ow h os nt frc fr)(hZ:∀id,Z id->Z' id/\h'.get id=h.get id)(B:df ow os ow' os'):FrR Z' ow' h' os' nt frc fr:=⟨fun i=>(a.v i).keep hZ B,a.has⟩
theorem FrR.set{nt t:Nat}{frc:Tr}{fr:PF}(a:FrR Z ow h os nt frc fr)(B:t<nt)(v:VR Z ow h os x y):FrR Z ow h os nt (frc.set t x) ((t,y)::fr):=by
 refine⟨fun i=>?_,fun i hi=>by rw[Tr.has_set];exact a.has i hi⟩;show VR Z ow h os _ (if t=i then y else FR fr i)
 split
 . rename_i e;subst e;rw[Tr.get_set_eq,a.has t B,if_pos rfl];exact v
 . rename_i e;rw[Tr.get_set_ne _ _ _ _ e];exact a.v i
def wO(E:Env):Prop:=∀g v,E.gl g=zs v->∀Z h,Fz Z h v v
theorem z6(hg:wO E){nt:Nat}{frc:Tr}{fr:PF}(a:FrR Z ow h os nt frc fr)(o:Operand):VR Z ow h os (opv E o frc) (dj E o fr):=by
 cases o with
 |tmp t=>exact a.v t
 |const v=>exact vE v
 |global g=>
  show VR Z ow h os (match E.gl g with|some v=>.fptr v 0|none=>.any) (match E.gl g with|some v=>.fptr v 0|none=>.any)
  cases e:E.gl g with
  |none=>exact .any
  |some v=>exact .fz (.fptr 0 (hg g v e Z h))
 |func f=>exact .fn rfl (fun i x y B=>by simp at B) rfl (fun i x y B=>by simp at B)
theorem Hk(hg:wO E){nt:Nat}{frc:Tr}{fr:PF}(a:FrR Z ow h os nt frc fr):∀l:List Operand,VL Z ow h os (fk E l frc) (mh E l fr)
 |[]=>.nil
 |o::l=>.cons (z6 hg a o) (Hk hg a l)
theorem J3{t:TI}(hd:r9 t.desc=zf)(cs:List AV)(o:Nat):ct t cs o=cs[o]?:=by
 grind[ct,R1]
theorem Q4{t:TI}(hd:r9 t.desc=zt)(cs:List AV)(o:Nat):ct t cs o=if o+t.size<=lz cs then zs (.agg ((cs.drop o).take t.size))else znq:=by
 simp_all[ct,A4,I6,I5]
theorem Hl{α:Type}{h:Vg}{id:Nat}{es:List AV}{sz:Nat}{d:α}{f:List AV->Nat->α}(hg:h.get id=zs (.row es sz)):h.onRow id d f=f es sz:=by
 grind[Vg.onRow]
theorem cS{id i o sz:Nat}{es:List AV}{x:AV}(hg:h.get id=zs (.row es sz))(B:es[i]?=zs x)(t:TI):Ek t (.ptr id i o) h=ct t x.cells o:=by
 show h.onRow id znq (fun es _=>A5 (Eh es i) fun v=>ct t v.cells o)=_
 rw[Hl hg,R1,B];rfl
theorem m8{α:Type}{xs:List α}{off n i:Nat}:((xs.drop off).take n)[i]?=if i<n then xs[off+i]? else znq:=by
 grind
theorem Nd{R:Nat->AV->AV->Prop}{t:TI}{xs ys:List AV}{off:Nat}{w:AV}(hl:lz xs=lz ys)(hr:∀(i:Nat) x y,xs[i]?=zs x->ys[i]?=zs y->R i x y)(B:ct t ys off=zs w):
 ∃w0,ct t xs off=zs w0/\((∃us vs,w0=.agg us/\w=.agg vs/\lz us=lz vs/\r9 t.desc=zt/\lz vs=t.size/\off+t.size<=lz ys/\∀(i:Nat) x y,us[i]?=zs x->vs[i]?=zs y->R (off+i) x y)\/(r9 t.desc=zf/\ys[off]?=zs w/\xs[off]?=zs w0/\R off w0 w)):=by
 cases C:r9 t.desc with
 |true=>
  rw[Q4 C]at B|-;grind
 |false=>
  rw[J3 C]at B|-;grind
theorem Fz.part{t:TI}{off:Nat}{w:AV}(f:Fz Z h x y)(B:ct t y.cells off=zs w):∃w0,ct t x.cells off=zs w0/\Fz Z h w0 w:=by
 obtain⟨w0,H,h2⟩:=Nd (R:=fun _ a b=>Fz Z h a b/\AM.clo b=zt) f.shape.1 (fun i a b ha hb=>f.cell ha hb) B;refine⟨w0,H,?_⟩;rcases h2 with⟨us,vs,rfl,rfl,J,_,_,_,N⟩|⟨_,_,_,Q,_⟩
 . refine .agg J (fun i x y C G=>(N i x y C G).1) (zqf.2 fun b hb=>?_)
   grind[zqi]
 . exact Q
theorem kW(w:AV):N7 w w.cells=w:=by
 cases w<;>rfl
theorem Nf:∀(n id:Nat)(L:List Nat),loP os n id=zs L->loP os (n+1) id=zs L
 |0,_,_,e=>by cases e
 |n + 1,id,L,e=>by
  unfold loP at e|-;cases G:os[id]? with
  |none=>grind
  |some q=>
   rw[G]at e;cases q with
   |sub p i o=>
    simp only at e|-;cases B:loP os n p with
    |none=>grind
    |some C=>rw[B]at e;rw[Nf n p C B];exact e
   |dead=>cases e
   |_=>exact e
theorem Ko(id i:Nat):∀(o nx:Nat)(ys:List AV),(∀b∈ys,Gi b=zt\/b=.und)->dz id i o nx ys=(ys,[])
 |_,_,[],_=>rfl
 |o,nx,c::l,hb=>by
  have hc:fe c=znq:=by
   cases e:fe c with
   |none=>rfl
   |some t=>
    obtain⟨k,es,sz⟩:=t
    have:=y9 e
    subst this;rcases hb _ (zqh ..)with h|h
    . cases h
    grind[Vf]
  unfold dz;rw[hc];simp only[Ko id i (o+1) nx l (by grind)]
theorem Vk{id i:Nat}(H:∀U,loP os 5 id=zs U->U=L):∀(ys xs:List AV)(o nx:Nat),lz xs=lz ys->(∀(j:Nat) a b,xs[j]?=zs a->ys[j]?=zs b->CR Z ow h (L++[i,o+j]) a b) ->
 (∀(m:Nat) e,(dz id i o nx ys).2[m]?=zs e->os[nx+m]?=zs e)->VL Z ow h os xs (dz id i o nx ys).1/\(∀e∈(dz id i o nx ys).2,∃q,e=.sub id i q)
 |[],xs,o,nx,hl,_,_=>by
  have:xs=[]:=(by grind)
  subst this;exact⟨.nil,fun e Q=>by cases Q⟩
 |c::ys,[],o,nx,hl,_,_=>by simp at hl
 |c :: ys,a::xs,o,nx,hl,hr,hos=>by
  have J:=hr 0 a c rfl rfl;have N:∀(j:Nat) u v,xs[j]?=zs u->ys[j]?=zs v->CR Z ow h (L++[i,o+1+j]) u v:=fun j u v X Y=>by
   have:=hr (j+1) u v X Y
   grind
  unfold dz at hos|-;cases e:fe c with
  |none=>
   rw[e]at hos;have ih:=Vk H ys xs (o+1) nx (by simpa using hl) N hos;refine⟨.cons ?_ ih.1,ih.2⟩;cases J with
   |val f _ _=>exact .fz f
   |und=>exact .und
   |_=>cases e
  |some t=>
   obtain⟨k,es,sz⟩:=t
   have:=y9 e
   subst this;rw[e]at hos;simp only at hos|-;have h0:os[nx]?=zs (.sub id i o):=by simpa using hos 0 _ rfl
   have C:nx<lz os:=(zqb.1 h0).1;have ih:=Vk H ys xs (o+1) (nx+1) (by simpa using hl) N fun m e Q=>by
    have:=hos (m+1) e Q
    grind
   refine⟨.cons ?_ ih.1,fun e Q=>?_⟩
   . have hL:∀L',loP os 6 nx=zs L'->L'=L++[i,o]:=fun L' B=>by
      unfold loP at B;rw[h0]at B;simp only at B;cases hp:loP os 5 id with
      |_=>grind
     rcases J.inv with⟨rfl,rfl,e1,e2⟩|⟨G,ces,rfl,h1,_⟩
     . exact .mnil e1 (fun L' B c hc=>e2 c [] (by grind)) C
     . have h1':ow G=zs (L++[i,o]):=by grind
       have a1:VR Z ow h os (.ptr G 0 0) (.ptr nx 0 0):=.ptr (by grind) C;have V:VR Z ow h os (.msl G 0 (lz es) sz) (.msl nx 0 (lz es) sz):=.msl (by grind) C;rcases k with _|_|k
       . exact V
       . exact a1
       . exact V
   grind
theorem gL(s:G6 Z ow h K.os){t:TI}{p v pc:AV}(hp:VR Z ow h K.os pc p)(hl:oe t p K=zs (v,K')):
 ∃vc,Ek t pc h=zs vc/\G6 Z ow h K'.os/\df ow K.os ow K'.os/\VR Z ow h K'.os vc v/\K'.ext=K.ext/\K'.tch=K.tch/\∃ps,K'.os=K.os++ps/\∀e∈ps,∃a b c,e=.sub a b c:=by
 cases p with
 |fptr v0 off=>
  have hl:(ct t v0.cells off).map (·,K)=zs (v,K'):=hl;cases hq:ct t v0.cells off with
  |none=>rw[hq]at hl;cases hl
  |some w=>
   rw[hq]at hl;cases hl;cases hp with
   |fz f=>
    cases f with
    |fptr o f1=>
     obtain⟨w0,N,h2⟩:=f1.part hq;exact⟨w0,N,s,.refl _ _,.fz h2,rfl,rfl,[],by simp,by simp⟩
    |pview hz hg hi f1=>
     obtain⟨w0,N,h2⟩:=f1.part hq;exact⟨w0,(cS hg hi t).trans N,s,.refl _ _,.fz h2,rfl,rfl,[],by simp,by simp⟩
 |ptr id i off=>
  unfold oe at hl;simp only at hl;cases hr:cd K.os 6 id with
  |none=>rw[hr]at hl;cases hl
  |some q=>
   obtain⟨k,es,sz⟩:=q;rw[hr]at hl;simp only at hl;cases hi:es[i]? with
   |none=>rw[hi]at hl;cases hl
   |some e=>
    rw[hi]at hl;simp only at hl;cases hw:ct t e.cells off with
    |none=>rw[hw]at hl;cases hl
    |some w=>
     rw [hw]at hl;have hl:=Option.some.inj hl;obtain⟨L,ag,hc⟩:=s.get 6 id k es sz hr;obtain⟨c,rfl,ae,ah⟩:∃c,pc=.ptr c i off/\ow c=zs L/\id<lz K.os:=by
      cases hp with
      |fz f=>cases f
      |ptr a b=>exact⟨_,rfl,a L ag,b⟩
     rcases hc with⟨_,rfl,c0,ces,B⟩|⟨_,x0,ai⟩
     . have:c=c0:=s.inj _ _ _ ae B.o
       subst this;have V:i<lz ces:=by rw[B.sh.1];exact(zqb.1 hi).1
       have C:=zqd V;have H:=B.sh.2 i _ e C hi;obtain⟨w0,N,h2⟩:=Nd (R:=fun _ a b=>VR Z ow h K.os a b/\(Gi b=zt\/b=.und)) (H.1.trans H.2.1.symm) (fun o a b ha hb=>⟨B.vr i _ e C hi o a b ha hb,B.okp i e hi b (zqe hb)⟩) hw;have aa:∀b∈w.cells,Gi b=zt\/b=.und:=by
        rcases h2 with⟨us,vs,rfl,rfl,U,_,_,_,h4⟩|⟨_,h5,_,Y⟩
        . intro b hb
          obtain⟨j,hj⟩:=zqi hb;have af:j<lz us:=by rw[U];exact(zqb.1 hj).1
          exact(h4 j _ b (zqd af) hj).2
        . intro b hb
          have ab:fh w=zf:=by rcases Y.2 with h|h<;>cases w<;>first|rfl|cases h
          rw[D7 ab]at hb;rw[zqo.1 hb];exact Y.2
       have e1:Ve id i off w K=(w,K):=by
        unfold Ve;rw[Ko id i off _ _ aa,kW];simp
       rw[e1]at hl;cases hl;refine⟨w0,(cS B.get C t).trans N,s,.refl _ _,?_,rfl,rfl,[],by simp,by simp⟩;rcases h2 with⟨us,vs,rfl,rfl,U,_,_,_,h4⟩|⟨_,h5,_,Y⟩
       . exact .agg U fun j x y hx hy=>(h4 j x y hx hy).1
       . exact Y.1
     . rcases ai.inv with⟨_,e2,_⟩|⟨c0,ces,_,N,h2,U,hs,_,h5⟩
       . subst e2;simp at hi
       have:c=c0:=s.inj _ _ _ ae N
       subst this;have V:i<lz ces:=by rw[hs.1];grind
       have C:=zqd V;have H:=hs.2 i _ e C hi;obtain⟨w0,g1,g2⟩:=Nd (R:=fun o a b=>CR Z ow h (L++[i,o]) a b) (H.1.trans H.2.1.symm) (by grind) hw;by_cases hu:w=.und
       . subst hu
         have e1:Ve id i off .und K=(.und,K):=by
          unfold Ve;rw[Ko id i off _ _ (fun b hb=>.inr (by simpa using zqo.1 hb))];simp[N7];rfl
         rw[e1]at hl;cases hl;exact⟨w0,(cS U C t).trans g1,s,.refl _ _,.und,rfl,rfl,[],by simp,by simp⟩
       have hcell:lz w0.cells=lz w.cells/\fh w0=fh w/\∀(j:Nat) a b,w0.cells[j]?=zs a->w.cells[j]?=zs b->CR Z ow h (L++[i,off+j]) a b:=by
        rcases g2 with⟨us,vs,rfl,rfl,U,_,_,_,h4⟩|⟨_,h5',h6',Y⟩
        . exact⟨U,rfl,h4⟩
        . have X:=Y.shape hu
          have ac:fh w=zf:=by
           cases Y with
           |val f e=>exact(f.shape.2).symm.trans X
           |und=>grind
           |_=>rfl
          rw[D7 ac,D7 X];refine⟨rfl,X.trans ac.symm,fun j a b ha hb=>?_⟩;grind
       obtain ⟨q1,q2,q3⟩:=hcell;have ad:∀L1,loP (K.os++(dz id i off (lz K.os) w.cells).2) 5 id=zs L1->L1=L:=fun L1 N=>by
        rw[pp s.sb 5 id ah]at N;grind[Nf]
       have Q:=Vk (os:=K.os++(dz id i off (lz K.os) w.cells).2) (Z:=Z) (ow:=ow) (h:=h) ad w.cells w0.cells off (lz K.os) q1 q3 fun m e he=>by
        simp_all[List.getElem?_append_right]
       have J:=s.subs (ps:=(dz id i off (lz K.os) w.cells).2) fun e he=>by
        obtain⟨q,rfl⟩:=Q.2 e he;grind
       cases hl;refine⟨w0,(cS U C t).trans g1,G6.to J.1 (fun _ hz=>⟨hz,rfl⟩) J.2,J.2,?_,rfl,rfl,_,rfl,fun e he=>by
        obtain⟨q,rfl⟩:=Q.2 e he;grind⟩
       show VR Z ow h (K.os++(dz id i off (lz K.os) w.cells).2) w0 (N7 w (dz id i off (lz K.os) w.cells).1)
       cases G:fh w with
       |true=>
        cases w with
        |agg ws=>
         cases w0 with
         |agg us=>exact .agL Q.1
         |_=>rw[G]at q2;cases q2
        |_=>cases G
       |false=>
        have k1:=Q.1;rw[D7 G,D7 (q2.trans G)]at k1;rw[D7 G]
        have:∀vs:List AV,VL Z ow h (K.os++(dz id i off (lz K.os) [w]).2) [w0] vs->VR Z ow h (K.os++(dz id i off (lz K.os) [w]).2) w0 (N7 w vs):=fun vs hv=>by
         cases vs with
         |nil=>have:=hv.1;simp at this
         |cons v vs=>cases w<;>first|exact hv.inv.1|cases G
        grind
 |_=>cases hl
end
theorem Q1{v:AV}{off:Nat}{ncs:List AV}(hf:off+lz ncs<=lz v.cells)(hn:0<lz ncs)(ha:∀c∈ncs,fh c=zf):(v.x0f off ncs).cells=eh v.cells off ncs/\fh (v.x0f off ncs)=fh v:=by
 cases B:fh v with
 |true=>
  cases v with
  |agg cs=>exact⟨U3 cs off ncs,rfl⟩
  |_=>cases B
 |false=>
  have e1:=D7 B;rw[e1]at hf|-;simp at hf;cases ncs with
  |nil=>simp at hn
  |cons x r=>
   simp at hf;have C:r=[]:=zqm (by omega);subst C;have ho:off=0:=by grind
   subst ho;have hx:=ha x (zqh ..);have e2:v.x0f 0 [x]=x:=by cases v<;>first|rfl|cases B
   grind[eh,D7]
theorem d9{α:Type}{l us:List α}{p j:Nat}(h:p+lz us<=lz l):(eh l p us)[j]?=if p<=j/\j<p+lz us then us[j-p]? else l[j]?:=by
 grind[eh]
section
variable {E:Env}{Z Z':Nat->Prop}{ow ow':Nat->Option (List Nat)}{h h':Vg}{K K':PK}{os os':List PO}{x y:AV}{L M:List Nat}
theorem VR.okc(v:VR Z ow h os x y)(B:Gi y=zt):ff x=zt:=by
 cases v with
 |fz f=>
  cases f with
  |agg=>cases B
  |emp e=>cases e<;>rfl
  |_=>rfl
 |und=>cases B
 |mnil e _ _=>rcases e with rfl|rfl<;>rfl
 |agg=>cases B
 |tup=>cases B
 |_=>rfl
theorem pq{y:AV}(B:clo y=zt):Gi y=zt:=by cases y<;>first|rfl|cases B
theorem nG{y:AV}(B:clo y=zt):fh y=zf:=by cases y<;>first|rfl|cases B
theorem yS{y:AV}(B:Gi y=zt):fh y=zf:=by cases y<;>first|rfl|cases B
theorem jw{y:AV}(B:ff y=zt):fh y=zf:=by cases y<;>first|rfl|cases B
theorem pr{id i sz off:Nat}{es:List AV}{e v:AV}{t:TI}(hg:h.get id=zs (.row es sz))(B:es[i]?=zs e)(C:lz v.cells=t.size)(h2:0<t.size)(G:off+t.size<=sz)(H:∀c∈v.cells,ff c=zt):Cp t (.ptr id i off) v h=zs (h.set id (.row (es.set i (e.x0f off v.cells)) sz)):=by
 show h.onRow id znq (So t id i off v.cells h)=_
 rw[Hl hg];show A5 (Eh es i) (fun old=>B5 (Nat.beq (dw v.cells) t.size&&Nat.blt 0 t.size&&Nat.ble (Nat.add off t.size) sz&&E4 v.cells) (zs (h.set id (.row (we es i (old.x0f off v.cells)) sz))))=_
 rw[R1,B,A4,C,Nat.beq_refl,(G9 _).2 H];simp only[Ai];have e1:Nat.blt 0 t.size=zt:=zqw h2;have e2:Nat.ble (Nat.add off t.size) sz=zt:=zqw G;rw[e1,e2];rfl
theorem dE.set{sz i off:Nat}{ces es ncs B:List AV}{a e:AV}(H:dE sz ces es)(ha:ces[i]?=zs a)(J:es[i]?=zs e)(hf:off+lz B<=sz)(hl:lz ncs=lz B)(hn:0<lz B)(Q:∀c∈ncs,fh c=zf)(h2:∀c∈B,fh c=zf):
 dE sz (ces.set i (a.x0f off ncs)) (es.set i (e.x0f off B)):=by
 have h0:=H.2 i a e ha J;have w1:=Q1 (v:=a) (off:=off) (ncs:=ncs) (by omega) (by omega) Q;have w2:=Q1 (v:=e) (off:=off) (ncs:=B) (by omega) hn h2;refine⟨by simp[H.1],fun j x y C G=>?_⟩;rw[zqc]at C G;by_cases N:i=j
 . subst N
   rw[if_pos rfl,if_pos (zqb.1 ha).1]at C;rw[if_pos rfl,if_pos (zqb.1 J).1]at G;grind[R9]
 . rw[if_neg N]at C G;exact H.2 j x y C G
theorem Zr{R:Nat->Nat->AV->AV->Prop}{sz i off:Nat}{ces es ncs B:List AV}{a e:AV}(Q:dE sz ces es)(ha:ces[i]?=zs a)(N:es[i]?=zs e)(hf:off+lz B<=sz)(hl:lz ncs=lz B)(hn:0<lz B)(U:∀c∈ncs,fh c=zf)(h2:∀c∈B,fh c=zf)
 (hold:∀(j:Nat) x y,ces[j]?=zs x->es[j]?=zs y->∀(o:Nat) u w,(j=i->o<off\/off+lz B<=o)->x.cells[o]?=zs u->y.cells[o]?=zs w->R j o u w)(hnew:∀(o:Nat) u w,ncs[o]?=zs u->B[o]?=zs w->R i (off+o) u w):
 ∀(j:Nat) x y,(ces.set i (a.x0f off ncs))[j]?=zs x->(es.set i (e.x0f off B))[j]?=zs y->∀(o:Nat) u w,x.cells[o]?=zs u->y.cells[o]?=zs w->R j o u w:=by
 have h0:=Q.2 i a e ha N;have V:=Q1 (v:=a) (off:=off) (ncs:=ncs) (by omega) (by omega) U;have X:=Q1 (v:=e) (off:=off) (ncs:=B) (by omega) hn h2;intro j x y H J o u w C G;rw[zqc]at H J;by_cases Y:i=j
 . subst Y
   rw[if_pos rfl,if_pos (zqb.1 ha).1]at H;rw[if_pos rfl,if_pos (zqb.1 N).1]at J;cases H;cases J;rw[V.1,d9 (by omega)]at C;rw[X.1,d9 (by omega)]at G;rw[hl]at C;split at C
   . rename_i hc
     rw[if_pos hc]at G
     have:=hnew (o-off) u w C G
     simp_all
   . rename_i hc
     rw[if_neg hc]at G;grind
 grind
theorem Stp.store{b c:Nat}{os1:List PO}{r:Nat}{t:List Nat}{ob:io}{R:AV->AV->Prop}(s:PT R Z ow h K.os)(hc:ow c=zs (r::t))(hlen:ek K.os r=zt)
 (h1:∀id L,ow' id=zs L->id<h.next->ow id≠znq)(h2:∀id q t,ow id=zs (q::t)->q<K.ext->(∃t',ow' id=zs (q::t'))\/q=r)(h3:∀j,j<K.ext->∀c,ek os1 j=zt->(ow c=zs [j]↔ow' c=zs [j]))(h4:∀j,j<K.ext->ek os1 j=zt->ek K.os j=zt):
 Stp b Z ow h K Z ow' (h.set c ob) {K with os:=os1,tch:=r::K.tch}:=by
 have hne:∀id,ow id=znq->id≠c:=(by grind)
 refine⟨zqt _,fun id hz=>⟨hz,Vg.get_set_ne _ _ fun e=>?_⟩,fun id hz=>.inl hz,(by grind[Go.AM.Vg.get_set_ne]),h1,⟨[c],rfl,fun id hi=>?_⟩,fun id q t' ho B=>?_,fun q B _=>zqr _ B,rfl,h3,h4⟩
 . subst e;exact(s.live _ _ hc).2.1 hz
 . grind
 grind
end
section
variable {E:Env}{Z Z':Nat->Prop}{ow ow':Nat->Option (List Nat)}{h h':Vg}{K K':PK}{os os':List PO}{x y:AV}{L M:List Nat}
theorem lg{n m id:Nat}{L L':List Nat}(B:loP os n id=zs L)(h2:loP os m id=zs L'):L=L':=by
 have up:∀k n id L,loP os n id=zs L->loP os (n+k) id=zs L:=fun k=>by
  induction k with
  |zero=>grind
  |succ k ih=>grind[Nf]
 have a:=up m n id L B;grind
theorem Ov{j:Nat}{C:List Nat}(G:loP os 6 j=zs C):∀(n id:Nat)(L:List Nat),loP os n id=zs L->j∈ei os n id->lz C<=lz L
 |0,_,_,e,_=>by cases e
 |n + 1,id,L,e,B=>by
  unfold ei at B;rcases List.mem_cons.1 B with rfl|B
  . rw[lg G e];grind
  . unfold loP at e
    cases N:os[id]? with
    |none=>grind
    |some q=>
     rw[N]at B e;cases q with
     |sub p i o=>
      simp only at B e;cases H:loP os n p with
      |none=>grind
      |some J=>
       rw[H]at e;cases e
       have:=Ov G n p J H B
       simp;omega
     |_=>cases B
theorem qi{id j:Nat}{L G t:List Nat}(B:loP os 6 id=zs L)(C:loP (gm os (cg os 6 id) (ei os 6 id)) 6 j=zs G)(hne:t≠[]):¬Und (L++t) G:=by
 rintro⟨u,rfl⟩
 have w:=Vi os (cg os 6 id) (ei os 6 id);have h2:=w.lo 6 j _ C;obtain⟨t0,hL,_⟩:=I8 6 id L B;have hlen:lz (L++t++u)>lz L:=by
  cases t with
  |nil=>grind
  |cons a t=>simp
 have hL0:lz L>0:=by grind
 unfold loP at C;cases H:(gm os (cg os 6 id) (ei os 6 id))[j]? with
 |none=>grind
 |some q=>
  rw[H]at C;cases q with
  |dead=>cases C
  |sub p i o=>
   rcases oy H with h|h
   . obtain⟨t1,h3,_⟩:=I8 6 j _ h2
     grind
   . have:=Ov h2 6 id L B h
     omega
  |_=>grind
theorem Vl{j p i o:Nat}{H:List Nat}:∀(n id:Nat)(L:List Nat),wq os n id (.sub p i o)=zt->loP os n id=zs L->loP os 6 j=zs H->os[j]?=zs (.sub p i o)->∀t,¬Und (L++t) H
 |0,_,_,hs,_,_,_,_=>by cases hs
 |n + 1,id,L,hs,hlo,h1,hj,t=>by
  unfold wq at hs;unfold loP at hlo;cases Q:os[id]? with
  |none=>rw[Q]at hs;cases hs
  |some e=>
   rw[Q]at hs hlo;cases e with
   |sub q i' o'=>
    simp only at hs hlo;cases G:loP os n q with
    |none=>rw[G]at hlo;cases hlo
    |some U=>
     rw[G]at hlo;cases hlo;rcases Bool.or_eq_true _ _▸hs with h|h
     . unfold MM at h
       simp only[Bool.and_eq_true,beq_iff_eq,Bool.or_eq_true,bne_iff_ne]at h;obtain⟨rfl,B⟩:=h;unfold loP at h1;rw[hj]at h1;simp only at h1;cases N:loP os 5 p with
       |none=>rw[N]at h1;cases h1
       |some C=>
        rw[N]at h1;have e1:C++[i,o]=H:=Option.some.inj h1;subst e1;obtain rfl:=lg N G;intro J;have J:Und ((C++[i',o'])++t) (C++[i,o]):=J
        have:=Nb (L:=C) (i:=i') (o:=o') (i':=i) (o':=o) (t:=t) (q:=[]) (by rw[List.append_nil];exact J)
        rcases B with B|B
        . exact B this.1.symm
        . exact B this.2.symm
     . rw[List.append_assoc]
       exact Vl n q U h G h1 hj _
   |_=>cases hs
theorem gM{id j:Nat}{L N t:List Nat}(B:loP os 6 id=zs L)(C:loP (jg os id) 6 j=zs N)(H:t≠[]):¬Und (L++t) N:=by
 rintro⟨u,rfl⟩
 have w:=gK os id;have h2:=w.lo 6 j _ C;obtain⟨t0,Q,_⟩:=I8 6 id L B;have G:lz (L++t++u)>lz L:=by
  cases t with
  |nil=>exact absurd rfl H
  |cons a t=>simp
 have hL0:lz L>0:=by rw[Q];simp
 unfold loP at C;cases J:(jg os id)[j]? with
 |none=>rw[J]at C;cases C
 |some q=>
  rw[J]at C;cases q with
  |dead=>cases C
  |sub p i o=>
   rcases ri J with h|h|⟨h,V⟩
   . obtain⟨t1,U,_⟩:=I8 6 j _ h2
     rw[Q]at U
     have:=congrArg List.head? U
     simp at this;exact h this.symm
   . have:=Ov h2 6 id L B h
     omega
   . exact Vl 6 id L V B h2 h (t++u) ⟨[],by simp⟩
  |_=>exact absurd (congrArg zqn (Option.some.inj C)) (by simp at G|-;omega)
theorem Zs{q:Nat}{e:PO}:∀(n id:Nat),cg os n id≠q->(∀p i o,os[q]?≠zs (.sub p i o))->cd (os.set q e) n id=cd os n id
 |0,_,_,_=>rfl
 |n + 1,id,hne,hq=>by
  unfold cd;rw[zqc];by_cases hid:q=id
  . subst hid
    unfold cg at hne;grind
  . rw [if_neg hid]
    unfold cg at hne;cases C:os[id]? with
    |none=>rfl
    |some B=>
     rw[C]at hne;cases B with
     |sub p i o=>simp only at hne|-;rw[Zs n p hne hq]
     |_=>rfl
theorem Ng:∀(n id k:Nat)(es es':List AV)(sz:Nat)(os':List PO),cd os n id=zs (k,es,sz)->dg os n id es'=zs os'->cd os' n id=zs (k,es',sz)
 |0,_,_,_,_,_,_,e,_=>by cases e
 |n + 1,id,k,es,es',sz,os',e,hs=>by
  obtain⟨r,kr,esr,szr,esr',hr,hos,hrt⟩:=jq _ _ _ _ hs;unfold cd at e;unfold dg at hs;cases N:os[id]? with
  |none=>grind
  |some q=>
   rw[N]at e hs;cases q with
   |row k0 es0 sz0=>
    cases e;cases hs;unfold cd;grind
   |sub p i o=>
    have hne:r≠id:=(by grind)
    simp only at e hs;cases J:cd os n p with
    |none=>grind
    |some t=>
     obtain⟨kp,B,H⟩:=t;rw[J]at e hs;simp only at e hs;cases hi:B[i]? with
     |none=>grind
     |some v=>
      rw[hi]at e hs;simp only at e hs;cases ho:v.cells[o]? with
      |none=>grind
      |some c=>
       rw[ho]at e hs;simp only at e hs;rw[e]at hs;have ih:=Ng n p kp B _ H os' J hs;unfold cd;have hid:os'[id]?=zs (.sub p i o):=by grind
       rw[hid];simp only;rw[ih];simp only;have G:i<lz B:=(zqb.1 hi).1;rw[zqc,if_pos rfl,if_pos G];simp only;have C:=(zqb.1 ho).1;rw[(Qg (c:=di k sz es') C rfl).1,zqc,if_pos rfl,if_pos C];rfl
   |_=>cases e
noncomputable def clr(ow:Nat->Option (List Nat))(P:List Nat->Prop):Nat->Option (List Nat):=fun id=>match ow id with
 |some M=>(open Classical in if P M then znq else zs M)
 |none=>znq
theorem cf{P:List Nat->Prop}{id:Nat}{M:List Nat}:clr ow P id=zs M↔ow id=zs M/\¬P M:=by
 unfold clr;grind
def AtC(L:List Nat)(i off n:Nat)(M:List Nat):Prop:=∃o,off<=o/\o<off+n/\Und (L++[i,o]) M
theorem Nh{L M:List Nat}{i off n:Nat}(h:AtC L i off n M):Und L M:=by
 obtain⟨o,_,_,t,rfl⟩:=h;exact⟨[i,o]++t,by simp⟩
theorem Gm{L q:List Nat}{i off n i' o':Nat}(h:AtC L i off n (L++[i',o']++q)):i'=i/\off<=o'/\o'<off+n:=by
 obtain⟨o,h1,h2,B⟩:=h
 have:=Nb (t:=[]) (by simpa using B)
 omega
theorem CR.cells{k sz i off:Nat}{es ncs B:List AV}{c:Nat}{ces:List AV}{a e:AV}(Q:ow' c=zs L)(h2:c<h'.next)(hg:h'.get c=zs (.row (ces.set i (a.x0f off ncs)) sz))(J:dE sz ces es)(ha:ces[i]?=zs a)(N:es[i]?=zs e)(hf:off+lz B<=sz)(hl:lz ncs=lz B)(hn:0<lz B)(C:∀c∈ncs,fh c=zf)(G:∀c∈B,fh c=zf)(hin:CL ow' L (lz es) sz)
 (hold:∀(j:Nat) x y,ces[j]?=zs x->es[j]?=zs y->∀(o:Nat) u w,(j=i->o<off\/off+lz B<=o)->x.cells[o]?=zs u->y.cells[o]?=zs w->CR Z' ow' h' (L++[j,o]) u w)(hnew:∀(o:Nat) u w,ncs[o]?=zs u->B[o]?=zs w->CR Z' ow' h' (L++[i,off+o]) u w):
 CR Z' ow' h' L (yf k c (lz es) sz) (di k sz (es.set i (e.x0f off B))):=by
 have H:=J.set ha N hf hl hn C G;rw[show lz es=lz (es.set i (e.x0f off B)) by simp];exact .own Q h2 hg H.1 (by grind) H.2 (Zr (R:=fun j o u w=>CR Z' ow' h' (L++[j,o]) u w) J ha N hf hl hn C G hold hnew)
theorem pu{n:Nat}:∀c∈zqa n AV.und,fh c=zf:=fun c hc=>by rw[(List.mem_replicate.1 hc).2];rfl
theorem PT.forget{R:AV->AV->Prop}(s:PT R Z ow h os){id k i off n:Nat}{es:List AV}{sz:Nat}{e:AV}(hr:cd os 6 id=zs (k,es,sz))(H:ez os id=zf)(Q:loP os 6 id=zs L)(U:es[i]?=zs e)(hf:off+n<=sz)(hn:0<n)
 (halive:∀j C,loP os 6 j=zs C->¬AtC L i off n C)(hset:dg os 6 id (es.set i (e.x0f off (zqa n .und)))=zs os'):
 PT R Z (clr ow (AtC L i off n)) h os'/\df ow os (clr ow (AtC L i off n)) os'/\(∀o,o<n->qM (clr ow (AtC L i off n)) (L++[i,off+o])):=by
 have d:Dl Z ow h Z (clr ow (AtC L i off n)) h L:=⟨zqt _,fun _ hz=>⟨hz,rfl⟩,fun id M hM=>by
  rw[cf];exact⟨fun h=>h.1,fun h=>⟨h,fun ha=>hM (Nh ha)⟩⟩,fun _ _ _ _=>rfl⟩
 have hlen:lz es=lz es:=rfl;have hkeep:∀j,j<lz os->∀C,loP os 6 j=zs C->∀c,ow c=zs C↔clr ow (AtC L i off n) c=zs C:=(by grind[Go.AM.cf])
 obtain⟨r,k0,es0,sz0,es0',hr0,hos,_⟩:=jq _ _ _ _ hset;have J:∀M m z,CL ow M m z->CL (clr ow (AtC L i off n)) M m z:=fun M m z hi c t hc=>hi c t (cf.1 hc).1
 refine⟨?_,⟨by grind,fun j hj C h1=>?_⟩,fun o ho c t hc=>(cf.1 hc).2 ⟨off+o,by omega,by omega,t,rfl⟩⟩
 . refine s.set d (fun a b M ha hb=>s.inj a b M (cf.1 ha).1 (cf.1 hb).1) (fun a M ha=>s.live a M (cf.1 ha).1) s.zb (fun M m z t _ _ hi=>J M m z hi) 6 id k es sz _ os' L [] (by simp) hr Q H hset fun x V=>?_
   rcases V.inv with⟨_,e2,_⟩|⟨c,ces,rfl,h1,h2,h3,N,h5,h6⟩
   . grind
   . have ab:i<lz ces:=by rw[N.1];grind
     have ha:=zqd ab;have hsh:=N.2 i _ e ha U;have w2:=Q1 (v:=e) (off:=off) (ncs:=zqa n .und) (by rw[zqj];omega) (by simpa using hn) pu;have ac:clr ow (AtC L i off n) c=zs L:=(by grind[Go.AM.cf])
     rw[show lz es=lz (es.set i (e.x0f off (zqa n .und))) by simp];refine .own ac h2 h3 (by simpa using N.1) (by grind) (fun j x y V B=>?_) (fun j x y X B o a b Y hb=>?_)
     . rw [zqc]at B
       by_cases G:i=j
       . subst G
         rw[if_pos rfl,if_pos (zqb.1 U).1]at B;grind[R9]
       . rw[if_neg G]at B;exact N.2 j x y V B
     . have old:∀b,(∃y,es[j]?=zs y/\y.cells[o]?=zs b)->(j=i->o<off\/off+n<=o)->CR Z (clr ow (AtC L i off n)) h (L++[j,o]) a b:=fun b ⟨y,B,hb⟩ hjo=>by
        refine(h6 j x y X B o a b Y hb).reloc (zqt _) (fun _ hz=>⟨hz,rfl⟩) (fun id q=>?_) (fun _ _ _=>rfl);rw[cf];exact⟨fun h=>h.1,fun h=>⟨h,fun aa=>by have:=Gm aa;grind⟩⟩
       rw[zqc]at B;by_cases G:i=j
       . subst G
         rw[if_pos rfl,if_pos (zqb.1 U).1]at B;cases B;rw[w2.1,d9 (by rw[zqj];omega)]at hb;rw[zqj]at hb;split at hb
         . rw[List.getElem?_replicate]at hb
           split at hb
           . cases hb;exact .und
           . cases hb
         grind
       . rw[if_neg G]at B
         exact old b ⟨y,B,hb⟩ fun e=>absurd e.symm G
 grind[Ap]
end
section
variable {E:Env}{R:AV->AV->Prop}{Z Z':Nat->Prop}{ow ow':Nat->Option (List Nat)}{h h':Vg}{K K':PK}{os os':List PO}{x y:AV}{L M:List Nat}
theorem PT.drop(s:PT R Z ow h os){q:Nat}{e:PO}(he:(∃p i o,e=.sub p i o/\p<lz os)\/e=.dead):PT R Z (clr ow (Und [q])) h (os.set q e):=by
 have hne:∀r t,r≠q->¬Und [q] (r::t):=fun r t G ⟨u,hu⟩=>by grind
 have B:∀{r:Nat}{H:PO},(os.set q e)[r]?=zs H->(r≠q/\os[r]?=zs H)\/H=e:=(by grind)
 have hee:(∀k es sz,e≠.row k es sz)/\∀es,e≠.mapo es:=by
  grind
 have ho:∀r id t,r≠q->(clr ow (Und [q]) id=zs (r::t)↔ow id=zs (r::t)):=(by grind[Go.AM.cf])
 refine⟨fun r es sz G=>?_,fun r k es sz G J=>?_,fun r es G=>?_,fun a b M ha hb=>s.inj a b M (cf.1 ha).1 (cf.1 hb).1,fun a M ha=>?_,s.zb,fun j p i o N=>?_⟩
 . rcases B G with⟨C,h2⟩|h
   . obtain⟨x,Q⟩:=s.row r es sz h2
     exact⟨x,Q.reloc (zqt _) (fun _ hz=>⟨hz,rfl⟩) (fun id t=>ho r id t C) (fun _ _ _=>rfl)⟩
   grind
 . rcases B G with⟨C,h2⟩|h
   . obtain⟨c,ces,g⟩:=s.raw r k es sz h2 J
     exact⟨c,ces,(ho r c [] C).2 g.o,g.lt,g.get,g.sh,g.vr,g.okp,fun a t ha=>g.no a t ((ho r a t C).1 ha)⟩
   grind
 . rcases B G with⟨C,h2⟩|h
   . obtain⟨c,ces,g⟩:=s.map r es h2
     exact⟨c,ces,(ho r c [] C).2 g.o,g.lt,g.get,g.len,g.kv,fun a t ha=>g.no a t ((ho r a t C).1 ha)⟩
   grind
 . obtain⟨C,h2⟩:=cf.1 ha
   obtain⟨U,V,r,t,rfl,h5⟩:=s.live a M C;have hrq:r≠q:=fun e=>h2 ⟨t,by rw[e];rfl⟩
   refine⟨U,V,r,t,rfl,?_⟩;grind[ek]
 . rw[zqg]
   rcases B N with⟨_,h2⟩|h
   . exact s.sb j p i o h2
   grind
noncomputable def rlb(ow:Nat->Option (List Nat))(q:Nat)(L:List Nat):Nat->Option (List Nat):=fun id=>match ow id with
 |some (p::t)=>if p=q then zs (L++t)else zs (p::t)
 |e=>e
theorem vF{q id:Nat}(hne:∀a M,ow a=zs M->M≠[]):rlb ow q L id=zs M↔(∃t,ow id=zs (q::t)/\M=L++t)\/(ow id=zs M/\∀t,M≠q::t):=by
 unfold rlb;grind
theorem lh{q id i o:Nat}{L:List Nat}{e:PO}(J:os[q]?=zs e)(B:ek os q=zt)(Q:∀n U,loP os n id=zs U->U=L)(C:∀t,L≠q::t):∀(n j:Nat)(L':List Nat),loP (os.set q (.sub id i o)) n j=zs L'->(∃t,loP os n j=zs (q::t)/\L'=L++[i,o]++t)\/(loP os n j=zs L'/\∀t,L'≠q::t)
 |0,_,_,h=>by cases h
 |n + 1,j,L',hl=>by
  unfold loP at hl;rw[zqc]at hl;by_cases V:q=j
  . subst V
    rw[if_pos rfl,if_pos (zqb.1 J).1]at hl;simp only at hl;cases G:loP (os.set q (.sub id i o)) n id with
    |none=>grind
    |some H=>
     rw [G]at hl;cases hl;have hLp:H=L:=by
      rcases lh J B Q C n id H G with⟨t,N,_⟩|⟨N,_⟩
      . grind
      grind
     grind[loP,ek]
  . rw [if_neg V]at hl
    unfold loP;cases Y:os[j]? with
    |none=>grind
    |some X=>
     rw[Y]at hl;cases X with
     |dead=>cases hl
     |sub p a b=>
      simp only at hl|-;cases G:loP (os.set q (.sub id i o)) n p with
      |none=>grind
      |some H=>
       rw[G]at hl;cases hl;rcases lh J B Q C n p H G with⟨t,N,rfl⟩|⟨N,h2⟩
       . grind
       grind[I8]
     |_=>grind
structure c0n(R:AV->AV->Prop)(Z:Nat->Prop)(ow:Nat->Option (List Nat))(h:Vg)(os:List PO)(ext:Nat)(L:List Nat)(i o0 d:Nat)(xs cs:List AV)(owf:Nat->Option (List Nat))(os':List PO):Prop where
 pt:PT R Z (clr owf (AtC L i o0 (d+lz xs))) h os'
 inj:∀a b M,owf a=zs M->owf b=zs M->a=b
 live:∀a M,owf a=zs M->a<h.next/\¬Z a
 keep:df ow os owf os'
 len:lz cs=lz xs
 cr:∀(j:Nat) a b,xs[j]?=zs a->cs[j]?=zs b->CR Z owf h (L++[i,o0+d+j]) a b/\fh b=zf/\b≠.und
 at_:∀id M,Und L M->¬AtC L i (o0+d) (lz xs) M->(owf id=zs M↔ow id=zs M)
 no:∀id M,owf id=zs M->¬AtC L i (o0+d) (lz xs) M->ow id=zs M
 lo:∀id q t,ow id=zs (q::t)->q<ext->owf id=zs (q::t)
 sm:∀id,owf id=znq↔ow id=znq
 rt:∀j:Nat,j<ext->os'[j]?=os[j]?
 rt':∀j:Nat,ek os' j=zt->ek os j=zt
 oth:∀j:Nat,(∀k es sz,os[j]?≠zs (.row k es sz))->os'[j]?=os[j]?
 ne:lz os'=lz os
theorem AtC.split{i o0 d:Nat}:AtC L i o0 (d+1) M↔AtC L i o0 d M\/Und (L++[i,o0+d]) M:=by
 constructor
 . rintro⟨o,B,h2,C⟩
   by_cases e:o=o0+d
   . grind
   . exact .inl ⟨o,B,by omega,C⟩
 . rintro(⟨o,B,h2,C⟩|h)
   . exact⟨o,B,by omega,C⟩
   . exact⟨o0+d,by omega,by omega,h⟩
theorem Vm{ext r id i o0:Nat}{tl:List Nat}(ab:L=r::tl):∀(ys xs cs:List AV)(d:Nat)(os os':List PO)(ow:Nat->Option (List Nat)),fv ext r id i (o0+d) os ys=zs (cs,os') ->
 PT R Z (clr ow (AtC L i o0 d)) h os->(∀a b M,ow a=zs M->ow b=zs M->a=b)->(∀a M,ow a=zs M->a<h.next/\¬Z a)->(∀a M,ow a=zs M->M≠[])->(∀n J,loP os n id=zs J->J=L)->(id<lz os)->(∀j J,loP os 6 j=zs J->¬AtC L i (o0+d) (lz ys) J) ->
 (∀j,j<lz ys->qM ow (L++[i,o0+d+j]))->VL Z ow h os xs ys->∃owf,c0n R Z ow h os ext L i o0 d xs cs owf os'
 |[],xs,cs,d,os,os',ow,hs,hp,hinj,hlive,hne,hL,hidl,hal,hno,hv=>by
  cases hs
  have:xs=[]:=zqm hv.1
  subst this;exact⟨ow,hp,hinj,hlive,.refl _ _,rfl,fun j a b ha=>by simp at ha,fun _ _ _ _=>.rfl,fun _ _ h _=>h,fun _ _ _ h _=>h,fun _=>.rfl,fun _ _=>rfl,fun _ h=>h,fun _ _=>rfl,rfl⟩
 |c::ys,[],cs,d,os,os',ow,hs,hp,hinj,hlive,hne,hL,hidl,hal,hno,hv=>by have:=hv.1;simp at this
 |c :: ys,a :: xs,cs,d,os,os',ow,hs,hp,hinj,hlive,hne,hL,hidl,hal,hno,hv=>by
  obtain ⟨aa,ah⟩:=hv.inv;have H:qM ow (L++[i,o0+d]):=hno 0 (by simp);have ae:∀j,j<lz ys->qM ow (L++[i,o0+(d+1)+j]):=fun j hj=>by
   have:=hno (j+1) (by grind)
   grind
  have ai:∀j J,loP os 6 j=zs J->¬AtC L i (o0+(d+1)) (lz ys) J:=fun j J B ⟨o,h2,C,U⟩=>hal j J B ⟨o,by omega,by simp;omega,U⟩
  have ao:lz (a::xs)=lz xs+1:=rfl;have hyl:=ah.1;unfold fv at hs;cases hc:clo c with
  |true=>
   rw[hc]at hs;simp only at hs;cases hq:fv ext r id i (o0+d+1) os ys with
   |none=>grind
   |some p=>
    rw [hq]at hs;cases hs;have aq:PT R Z (clr ow (AtC L i o0 (d+1))) h os:=by
     have e:clr ow (AtC L i o0 (d+1))=clr ow (AtC L i o0 d):=by
      funext id
      apply Option.ext;intro M;show clr ow _ id=zs M↔clr ow _ id=zs M
      rw[cf,cf,AtC.split];exact⟨(by grind),fun⟨B,h2⟩=>⟨B,fun h=>h.elim h2 fun⟨t,ht⟩=>H id t (by grind)⟩⟩
     grind
    obtain⟨owf,g⟩:=Vm ab ys xs p.1 (d+1) os p.2 ow (by omega) aq hinj hlive hne hL hidl ai ae ah;have Q:∀M,¬AtC L i (o0+d) (lz xs+1) M->¬AtC L i (o0+(d+1)) (lz xs) M:=fun M V ⟨o,B,h2,C⟩=>V ⟨o,by omega,by omega,C⟩
    have ar:qM owf (L++[i,o0+d]):=fun c' t an=>by
     have:=g.no c' _ an fun N=>by have:=Gm N;omega
     exact H c' t this
    refine⟨owf,?_,g.inj,g.live,g.keep,by simp[g.len],fun j a' b' ha hb=>?_,fun id M X V=>g.at_ id M X (Q M V),fun id M B V=>g.no id M B (Q M V),g.lo,g.sm,g.rt,g.rt',g.oth,g.ne⟩
    . have:=g.pt
      rw[ao,show d+(lz xs+1)=d+1+lz xs by omega];exact this
    . cases j with
      |zero=>cases ha;cases hb;exact⟨.val (aa.fzc hc |>.mono fun _ hz=>⟨hz,rfl⟩) hc ar,nG hc,fun e=>by rw[e]at hc;cases hc⟩
      |succ j=>
       have:=g.cr j a' b' ha hb
       rw[show o0+d+(j+1)=o0+(d+1)+j by omega];exact this
  |false=>
   rw[hc]at hs;simp only at hs;cases c with
   |msl q off m sz=>
    cases off with
    |succ off=>cases hs
    |zero=>
     simp only at hs;cases hq:os[q]? with
     |none=>rw[hq]at hs;cases hs
     |some e=>
      rw[hq]at hs;cases e with
      |row k es z=>
       cases k with
       |succ k=>cases hs
       |zero=>
        simp only at hs;split at hs
        . rename_i ag
          obtain⟨hm,hz,hext,al⟩:=ag;subst hz;cases hr:fv ext r id i (o0+d+1) (os.set q (.sub id i (o0+d))) ys with
          |none=>rw[hr]at hs;cases hs
          |some p=>
           rw[hr]at hs;cases hs;have ac:∀t,L≠q::t:=fun t e=>al (by rw[ab]at e;cases e;rfl)
           have Y:ek os q=zt:=by unfold ek;rw[hq]
           have hqlt:=(zqb.1 hq).1;have hneq:q≠id:=fun e=>by
            have:=hL 6 [q] (by grind[loP])
            exact ac [] this.symm
           obtain⟨xq,am⟩:=hp.row q es sz hq;have hnL:∀M,L++[i,o0+d]++M≠[]:=fun M e=>by simp at e
           have G:∀id M,rlb ow q (L++[i,o0+d]) id=zs M↔(∃t,ow id=zs (q::t)/\M=L++[i,o0+d]++t)\/(ow id=zs M/\∀t,M≠q::t):=fun id M=>vF hne
           have aj:clr (rlb ow q (L++[i,o0+d])) (AtC L i o0 (d+1))=clr (clr ow (AtC L i o0 d)) (Und [q]):=by
            funext id'
            apply Option.ext;intro M;show clr _ _ id'=zs M↔clr _ _ id'=zs M
            rw[cf,cf,cf,G,AtC.split]
            constructor
            . rintro⟨⟨t,B,rfl⟩|⟨B,h2⟩,C⟩
              . exact absurd (.inr ⟨t,rfl⟩) C
              . exact⟨⟨B,fun h=>C (.inl h)⟩,fun⟨u,X⟩=>h2 u X⟩
            . rintro⟨⟨B,h2⟩,C⟩
              exact⟨.inr ⟨B,fun t e=>C ⟨t,e⟩⟩,fun h=>h.elim h2 fun⟨t,ht⟩=>H id' t (by grind)⟩
           have au:PT R Z (clr (rlb ow q (L++[i,o0+d])) (AtC L i o0 (d+1))) h (os.set q (.sub id i (o0+d))):=by
            rw[aj];exact hp.drop (.inl ⟨id,i,o0+d,rfl,hidl⟩)
           have ak:df ow os (rlb ow q (L++[i,o0+d])) (os.set q (.sub id i (o0+d))):=⟨by simp,fun j hj L' hl=>by
            rcases lh hq Y hL ac 6 j L' hl with⟨t,B,rfl⟩|⟨B,h2⟩
            . refine⟨_,B,fun c=>⟨(by grind),fun hc=>?_⟩⟩
              rcases(G c _).1 hc with⟨t',h2,C⟩|⟨h2,_⟩
              . grind[zqk]
              . exact absurd h2 (H c t)
            . refine⟨_,B,fun c=>⟨fun hc=>(G c _).2 (.inr ⟨hc,h2⟩),fun hc=>?_⟩⟩
              rcases(G c _).1 hc with⟨t',C,U⟩|⟨C,_⟩
              . exact absurd ⟨o0+d,zqt _,by simp,t',U⟩ (hal j L' B)
              . exact C⟩
           have hcell:CR Z (rlb ow q (L++[i,o0+d])) h (L++[i,o0+d]) a (di 0 sz es):=by
            have af:∀id' t,rlb ow q (L++[i,o0+d]) id'=zs (L++[i,o0+d]++t)↔clr ow (AtC L i o0 d) id'=zs ([q]++t):=fun id' t=>by
             rw[G,cf]
             constructor
             . rintro (⟨t',B,h2⟩|⟨B,_⟩)
               . have:=zqk h2;subst this
                 exact ⟨B,fun N=>by
                  obtain⟨u,X⟩:=Nh N;rw[ab]at X;simp at X;exact al X.1⟩
               . exact absurd B (H id' t)
             grind
            have av:a=xq\/(es=[]/\(a=.x0a\/a=.x0a)/\qM (clr ow (AtC L i o0 d)) [q]):=by
             rcases am.inv with⟨_,h2,C,U⟩|⟨cid,ces,rfl,B,_⟩
             . refine .inr ⟨h2,?_,U⟩
               generalize hy:AV.msl q 0 m sz=y at aa;cases aa with
               |fz f=>cases f<;>cases hy
               |mnil e _ _=>exact e
               |msl h5 h6=>
                cases hy
                have:=h5 [q] (by grind[loP])
                exact absurd (cf.2 ⟨this,fun N=>by
                 obtain⟨u,X⟩:=Nh N;grind⟩) (U _ [])
               |_=>cases hy
             . generalize hy:AV.msl q 0 m sz=y at aa
               cases aa with
               |fz f=>cases f<;>cases hy
               |mnil _ h5 _=>
                grind[loP,cf]
               |msl h5 h6=>
                cases hy;have h7:=h5 [q] (by grind[loP])
                have:=hinj _ _ _ h7 (cf.1 B).1
                subst this
                left;rw[hm];rfl
               |_=>cases hy
            rcases av with rfl|⟨h2,C,U⟩
            . exact am.reloc (zqt _) (fun _ hz=>⟨hz,rfl⟩) af (fun _ _ _=>rfl)
            . subst h2
              exact .nil C fun c t hc=>U c t ((af c t).1 hc)
           have q1:∀a b M,rlb ow q (L++[i,o0+d]) a=zs M->rlb ow q (L++[i,o0+d]) b=zs M->a=b:=fun a b M ha hb=>by
            rcases(G _ _).1 ha with⟨t,B,rfl⟩|⟨B,h2⟩
            . rcases(G _ _).1 hb with⟨t',C,U⟩|⟨C,_⟩
              . grind[zqk]
              . exact absurd C (H _ _)
            . rcases(G _ _).1 hb with⟨t',C,rfl⟩|⟨C,_⟩
              . exact absurd B (H _ _)
              grind
           have q2:∀a M,rlb ow q (L++[i,o0+d]) a=zs M->a<h.next/\¬Z a:=(by grind)
           have q3:∀a M,rlb ow q (L++[i,o0+d]) a=zs M->M≠[]:=(by grind)
           have q4:∀n J,loP (os.set q (.sub id i (o0+d))) n id=zs J->J=L:=fun n J hl=>by
            rcases lh hq Y hL ac n id J hl with⟨t,B,_⟩|⟨B,_⟩
            . grind
            grind
           have q5:∀j J,loP (os.set q (.sub id i (o0+d))) 6 j=zs J->¬AtC L i (o0+(d+1)) (lz ys) J:=fun j J hl=>by
            rcases lh hq Y hL ac 6 j J hl with⟨t,B,rfl⟩|⟨B,_⟩
            . intro N;have:=Gm N;omega
            grind
           have q6:∀j,j<lz ys->qM (rlb ow q (L++[i,o0+d])) (L++[i,o0+(d+1)+j]):=fun j hj c t hc=>by
            rcases(G _ _).1 hc with⟨t',_,h2⟩|⟨h2,_⟩
            . grind[zqk]
            . exact ae j hj c t h2
           obtain⟨owf,g⟩:=Vm ab ys xs p.1 (d+1) (os.set q (.sub id i (o0+d))) p.2 (rlb ow q (L++[i,o0+d])) (by omega) au q1 q2 q3 q4 (by grind) q5 q6 (ah.keep (fun _ hz=>⟨hz,rfl⟩) ak);have Q:∀M,¬AtC L i (o0+d) (lz xs+1) M->¬AtC L i (o0+(d+1)) (lz xs) M/\¬Und (L++[i,o0+d]) M:=fun M V=>⟨fun⟨o,B,h2,C⟩=>V ⟨o,by omega,by omega,C⟩,fun h=>V ⟨o0+d,by omega,by omega,h⟩⟩
           have ad:CR Z owf h (L++[i,o0+d]) a (di 0 sz es):=by
            refine hcell.reloc (zqt _) (fun _ hz=>⟨hz,rfl⟩) (fun id' t=>?_) (fun _ _ _=>rfl);exact g.at_ id' _ ⟨[i,o0+d]++t,by simp⟩ fun N=>by have:=Gm N;omega
           refine⟨owf,?_,g.inj,g.live,ak.trans g.keep,by simp[g.len],fun j a' b' ha hb=>?_,fun id' M X V=>?_,fun id' M B V=>?_,fun id' q' t B h2=>?_,fun id'=>?_,fun j hj=>?_,fun j hj=>?_,fun j hj=>?_,by rw[g.ne];simp⟩
           . have:=g.pt
             grind
           . cases j with
             |zero=>cases ha;cases hb;exact⟨ad,rfl,Vf _ _ _⟩
             |succ j=>
              have:=g.cr j a' b' ha hb
              grind
           . obtain ⟨B,h2⟩:=Q M V
             rw[g.at_ id' M X B,G];obtain⟨u,X⟩:=X
             constructor
             . rintro(⟨t,_,U⟩|⟨C,_⟩)
               . exact absurd ⟨t,U⟩ h2
               . exact C
             grind
           . obtain⟨h2,C⟩:=Q M V
             rcases(G _ _).1 (g.no id' M B h2)with⟨t,_,U⟩|⟨U,_⟩
             . exact absurd ⟨t,U⟩ C
             . exact U
           . exact g.lo id' q' t (by grind) h2
           . rw [g.sm id']
             constructor
             . intro B
               cases e:ow id' with
               |none=>rfl
               |some M=>
                by_cases V:∃t,M=q::t
                . obtain⟨t,rfl⟩:=V
                  rw[(G id' _).2 (.inl ⟨t,e,rfl⟩)]at B;cases B
                grind
             grind[rlb]
           . rw[g.rt j hj,zqc,if_neg (by omega)]
           . have:=g.rt' j hj
             unfold ek at this|-;grind
           . have hqj:q≠j:=(by grind)
             have:(os.set q (.sub id i (o0+d)))[j]?=os[j]?:=by grind
             rw[g.oth j (by grind),this]
        . cases hs
      |_=>cases hs
   |_=>cases hs
end
section
variable {E:Env}{R:AV->AV->Prop}{Z Z':Nat->Prop}{ow ow':Nat->Option (List Nat)}{h h':Vg}{K K':PK}{os os':List PO}{x y:AV}{L M:List Nat}
theorem Hm{id k sz:Nat}{es:List AV}(C:cd os 6 id=zs (k,es,sz))(B:ez os id=zt):os[id]?=zs (.row k es sz)/\k≠0:=by
 unfold cd at C;unfold ez at B;grind
theorem PT.rawset(s:PT R Z ow h os){id k sz i off c:Nat}{es ces ncs B:List AV}{a e:AV}(hr:os[id]?=zs (.row k es sz))(hk:k≠0)(g:sy R ow h id es sz c ces)(ha:ces[i]?=zs a)(he:es[i]?=zs e)(hf:off+lz B<=sz)(hl:lz ncs=lz B)(hn:0<lz B)(h1:∀c∈ncs,fh c=zf)(h2:∀c∈B,Gi c=zt)
 (hR:∀(o:Nat) u w,ncs[o]?=zs u->B[o]?=zs w->R u w):PT R Z ow (h.set c (.row (ces.set i (a.x0f off ncs)) sz)) (os.set id (.row k (es.set i (e.x0f off B)) sz)):=by
 have hlt:id<lz os:=(zqb.1 hr).1;have N:∀r t d,r≠id->ow d=zs (r::t)->(h.set c (.row (ces.set i (a.x0f off ncs)) sz)).get d=h.get d:=fun r t d H ho=>Vg.get_set_ne _ _ fun e=>by
  subst e;rw[g.o]at ho;grind
 have hz:∀d,Z d->Z d/\(h.set c (.row (ces.set i (a.x0f off ncs)) sz)).get d=h.get d:=fun d hd=>⟨hd,Vg.get_set_ne _ _ fun e=>by subst e;exact(s.live _ _ g.o).2.1 hd⟩
 have V:∀{r:Nat}{e':PO},(os.set id (.row k (es.set i (e.x0f off B)) sz))[r]?=zs e'->(r≠id/\os[r]?=zs e')\/(r=id/\e'=.row k (es.set i (e.x0f off B)) sz):=(by grind)
 have aa:∀c∈B,fh c=zf:=fun c hc=>yS (h2 c hc)
 refine⟨fun r J X Y=>?_,fun r k1 J X Y H=>?_,fun r J Y=>?_,s.inj,fun d M hd=>?_,s.zb,fun j p q o Y=>?_⟩
 . rcases V Y with⟨H,G⟩|⟨_,G⟩
   . obtain⟨x,hx⟩:=s.row r J X G
     exact⟨x,hx.reloc (zqt _) hz (fun _ _=>.rfl) (fun d t hd=>N r t d H hd)⟩
   grind
 . rcases V Y with⟨ab,G⟩|⟨rfl,G⟩
   . obtain⟨c1,Q,C⟩:=s.raw r k1 J X G H
     exact⟨c1,Q,C.o,C.lt,(N r [] c1 ab C.o).trans C.get,C.sh,C.vr,C.okp,C.no⟩
   . cases G
     refine⟨c,_,g.o,g.lt,Vg.get_set_eq _ _ g.get,g.sh.set ha he hf hl hn h1 aa,Zr (R:=fun _ _ u w=>R u w) g.sh ha he hf hl hn h1 aa (fun j x y hx U o u w _ hu hw=>g.vr j x y hx U o u w hu hw) hR,fun j y U b hb=>?_,g.no⟩;rw[zqc]at U;by_cases ej:i=j
     . subst ej
       rw[if_pos rfl,if_pos (zqb.1 he).1]at U;cases U;have h0:=g.sh.2 i a e ha he;rw[(Q1 (by omega) hn aa).1]at hb;unfold eh at hb;rcases zqp.1 hb with hb|hb
       . exact g.okp i e he b (List.mem_of_mem_take hb)
       . rcases zqp.1 hb with hb|hb
         . grind
         . exact g.okp i e he b (List.mem_of_mem_drop hb)
     . rw[if_neg ej]at U;exact g.okp j y U b hb
 . rcases V Y with⟨H,G⟩|⟨_,G⟩
   . obtain⟨c1,Q,C⟩:=s.map r J G
     exact⟨c1,Q,C.o,C.lt,(N r [] c1 H C.o).trans C.get,C.len,fun i x y hx U=>⟨(C.kv i x y hx U).1,(C.kv i x y hx U).2.mono hz⟩,C.no⟩
   . cases G
 . obtain⟨G,h4,r,t,h5,h6⟩:=s.live d M hd
   exact⟨G,h4,r,t,h5,by grind[ij]⟩
 . rw[zqg]
   rcases V Y with⟨_,G⟩|⟨_,G⟩
   . exact s.sb j p q o G
   . cases G
theorem Xi{α:Type}{l us vs:List α}{p:Nat}(h:p+lz us<=lz l)(e:lz us=lz vs):eh (eh l p us) p vs=eh l p vs:=by
 apply List.ext_getElem?;grind[d9,R9]
theorem Rd{v:AV}{off:Nat}{us vs:List AV}(h:off+lz us<=lz v.cells)(e:lz us=lz vs)(B:∀c∈us,fh c=zf):(v.x0f off us).x0f off vs=v.x0f off vs:=by
 cases v with
 |agg cs=>
  show AV.agg (O5 (O5 cs off us) off vs)=.agg (O5 cs off vs)
  rw[U3,U3,U3,Xi (l:=cs) h e]
 |_=>
  cases us with
  |nil=>
   cases vs with
   |nil=>rfl
   |cons=>simp at e
  |cons u us=>
   cases vs with
   |nil=>simp at e
   |cons v vs=>
    cases us with
    |nil=>
     cases vs with
     |nil=>
      have:=B u (zqh ..)
      show AV.x0f u off [v]=v
      cases u<;>first|rfl|cases this
     |cons=>simp at e
    |cons=>cases vs<;>first|rfl|(simp at e)
theorem vG{P:List Nat->Prop}(hP:∀M,¬P M):clr ow P=ow:=by
 grind[clr]
theorem Gp{i off n:Nat}:¬AtC L i off n L:=fun⟨o,_,_,u,B⟩=>by have:=congrArg zqn B;simp at this
theorem Vn:∀(n id:Nat)(es':List AV)(os':List PO),dg os n id es'=zs os'->∃k es sz,cd os n id=zs (k,es,sz)
 |0,_,_,_,e=>by cases e
 |n + 1,id,es',os',e=>by
  unfold dg at e;unfold cd;cases B:os[id]? with
  |none=>grind
  |some q=>
   rw[B]at e;cases q with
   |row k es sz=>grind
   |sub p i o=>
    simp only at e|-;cases hp:cd os n p with
    |none=>grind
    |some t=>
     grind
   |_=>cases e
theorem Vo:∀(n id:Nat)(t:Nat×List AV×Nat),cd os n id=zs t->cd os (n+1) id=zs t
 |0,_,_,e=>by cases e
 |n + 1,id,t,e=>by
  unfold cd at e|-;cases C:os[id]? with
  |none=>grind
  |some q=>
   rw[C]at e;cases q with
   |sub p i o=>
    simp only at e|-;cases B:cd os n p with
    |none=>grind
    |some u=>rw[B]at e;rw[Vo n p u B];exact e
   |dead=>cases e
   |_=>exact e
theorem Vp(w:Wk os os'):∀(n id:Nat)(t:Nat×List AV×Nat),cd os' n id=zs t->cd os n id=zs t
 |0,_,_,e=>by cases e
 |n + 1,id,t,e=>by
  unfold cd at e|-;rcases w.2 id with e1|⟨p,i,o,e1,e2⟩
  . rw [e1]at e
    cases C:os[id]? with
    |none=>grind
    |some q=>
     rw[C]at e;cases q with
     |sub p i o=>
      simp only at e|-;cases B:cd os' n p with
      |none=>grind
      |some u=>rw[B]at e;rw[Vp w n p u B];exact e
     |dead=>cases e
     |_=>exact e
  grind
theorem Vq{q:Nat}{e:PO}:∀(n id:Nat),cg os n id≠q->(∀p i o,os[q]?≠zs (.sub p i o))->cg (os.set q e) n id=cg os n id
 |0,_,_,_=>rfl
 |n + 1,id,hne,hq=>by
  unfold cg;rw[zqc];by_cases hid:q=id
  . subst hid
    unfold cg at hne;grind
  . rw [if_neg hid]
    unfold cg at hne;cases C:os[id]? with
    |none=>rfl
    |some B=>
     rw[C]at hne;cases B with
     |sub p i o=>simp only at hne|-;rw[Vq n p hne hq]
     |_=>rfl
theorem li{ext r id i j:Nat}:∀(ys cs:List AV)(o:Nat)(os os':List PO),fv ext r id i o os ys=zs (cs,os')->cg os 6 j=r->cd os' 6 j=cd os 6 j/\cg os' 6 j=r/\ez os' j=ez os j
 |[],cs,o,os,os',hs,hr=>by cases hs;grind
 |c :: ys,cs,o,os,os',hs,hr=>by
  unfold fv at hs;cases hc:clo c with
  |true=>
   rw[hc]at hs;simp only at hs;cases C:fv ext r id i (o+1) os ys with
   |none=>grind
   |some p=>rw[C]at hs;cases hs;exact li ys p.1 (o+1) os p.2 C hr
  |false=>
   rw[hc]at hs;simp only at hs;cases c with
   |msl q off m sz=>
    cases off with
    |succ off=>cases hs
    |zero=>
     simp only at hs;cases C:os[q]? with
     |none=>grind
     |some e=>
      rw[C]at hs;cases e with
      |row k es z=>
       cases k with
       |succ k=>cases hs
       |zero=>
        simp only at hs;split at hs
        . rename_i hcond
          cases B:fv ext r id i (o+1) (os.set q (.sub id i o)) ys with
          |none=>grind
          |some p=>
           rw[B]at hs;cases hs;have G:cg os 6 j≠q:=by grind
           have H:∀p i o,os[q]?≠zs (.sub p i o):=fun p i o e=>by grind
           have hqj:q≠j:=(by grind[Go.AM.cg])
           obtain⟨h1,h2,h3⟩:=li ys p.1 (o+1) _ p.2 B ((Vq 6 j G H).trans hr);simp_all[ez,Zs]
        . cases hs
      |_=>cases hs
   |_=>cases hs
theorem pV{r k sz B:Nat}{es es':List AV}(hr:os[r]?=zs (.row k es sz))(id:Nat):ez (os.set r (.row k es' B)) id=ez os id:=by
 unfold ez;grind
theorem Kp:∀(n id:Nat)(es':List AV)(os':List PO),dg os n id es'=zs os'->∃r k es sz B,os[r]?=zs (.row k es sz)/\os'=os.set r (.row k B sz):=(by grind[Go.AM.jq])
theorem Zt(s:G6 Z ow h K.os){t:TI}{p pc xc:AV}(hp:VR Z ow h K.os pc p)(hx:VR Z ow h K.os xc x)(B:iv t p x K=zs K'):
 ∃h' ow',Cp t pc xc h=zs h'/\G6 Z ow' h' K'.os/\df ow K.os ow' K'.os/\(∀b,Stp b Z ow h K Z ow' h' K'):=by
 cases p with
 |ptr id i off=>
  unfold iv at B;simp only at B;cases hr:cd K.os 6 id with
  |none=>rw[hr]at B;cases B
  |some q=>
   obtain⟨k,es,sz⟩:=q;rw[hr]at B;simp only at B;cases hi:es[i]? with
   |none=>rw[hi]at B;cases B
   |some e=>
    rw[hi]at B;simp only at B;split at B
    . rename_i hc
      obtain ⟨av,a9,br⟩:=hc;obtain⟨L,an,ad⟩:=s.get 6 id k es sz hr;obtain⟨c,rfl,V,bt⟩:∃c,pc=.ptr c i off/\ow c=zs L/\id<lz K.os:=by
       cases hp with
       |fz f=>cases f
       |ptr a b=>exact⟨_,rfl,a L an,b⟩
      obtain⟨tl,ba,aw,_⟩:=I8 6 id L an;have U:∀ob d,Z d->Z d/\(h.set c ob).get d=h.get d:=fun ob d C=>⟨C,Vg.get_set_ne _ _ fun e=>by subst e;exact(s.live _ _ V).2.1 C⟩
      cases N:ez K.os id with
      |true=>
       rw[N]at B;simp only at B;split at B
       . rename_i aq
         cases B;rw[zqf]at aq;have aa:x≠.und:=fun e=>by subst e;exact absurd (aq .und (zqh ..)) (by decide)
         have ab:=hx.cells aa;have a2:=hx.shape aa;rcases ad with⟨_,rfl,c0,ces,g⟩|⟨h1,_⟩
         . have:c=c0:=s.inj _ _ _ V g.o
           subst this;obtain⟨bb,hk⟩:=Hm hr N;have a3:i<lz ces:=by rw[g.sh.1];exact(zqb.1 hi).1
           have ha:=zqd a3;have ae:∀d∈xc.cells,ff d=zt:=fun d C=>by
            obtain⟨j,Y⟩:=zqi C;have ac:j<lz x.cells:=by rw[<-ab.1];exact(zqb.1 Y).1
            exact(ab.2 j d _ Y (zqd ac)).okc (aq _ (List.getElem_mem ac))
           have ak:df ow K.os ow (K.os.set id (.row k (es.set i (e.x0f off x.cells)) sz)):=⟨by simp,fun j _ L' hl=>⟨L',by rw[Ap bb]at hl;exact hl,fun _=>.rfl⟩⟩
           refine⟨_,ow,pr g.get ha (a2.1.trans av) a9 br ae,G6.to (s.rawset bb hk g ha hi (by omega) (a2.1) (by omega) (fun d C=>jw (ae d C)) aq (fun o u w hu Q=>ab.2 o u w hu Q)) (U _) ak,ak,fun b=>?_⟩;have bx:=Stp.store (b:=b) (ow':=ow) (os1:=K.os.set id (.row k (es.set i (e.x0f off x.cells)) sz)) (ob:=.row (ces.set i (ces[i].x0f off xc.cells)) sz) s (r:=id) (t:=[]) (c:=c) V (by have e:=(List.cons.inj ba).1;rw[<-e]at aw;exact aw) (fun d M C _ e=>by rw[C]at e;cases e) (fun d q t ho _=>.inl ⟨t,ho⟩) (fun j _ c _=>.rfl) (fun j _ Y=>by rw[ij bb]at Y;exact Y);exact bx
         . rw[N]at h1;cases h1
       . cases B
      |false=>
       rw[N]at B;simp only at B;rcases ad with⟨h1,_⟩|⟨_,x0,ad⟩
       . rw[N]at h1;cases h1
       rcases ad.inv with⟨_,e2,_⟩|⟨c0,ces,_,h1,h2,h3,be,b7,h5⟩
       . subst e2;simp at hi
       have:c=c0:=s.inj _ _ _ V h1
       subst this;have a3:i<lz ces:=by rw[be.1];grind
       have ha:=zqd a3;have a2:=be.2 i _ e ha hi;split at B
       . -- nothing that leads anywhere
         rename_i aj;rw[Bool.and_eq_true,zqf,zqf]at aj;obtain⟨ag,bu⟩:=aj;cases J:dg K.os 6 id (es.set i (e.x0f off x.cells))with
         |none=>grind
         |some os2=>
          rw[J]at B;cases B;have aa:x≠.und:=fun e=>by subst e;exact absurd (ag .und (zqh ..)) (by decide)
          have ab:=hx.cells aa;have ar:=hx.shape aa;have ae:∀d∈xc.cells,ff d=zt:=fun d C=>by
           obtain⟨j,Y⟩:=zqi C;have ac:j<lz x.cells:=by grind
           exact(ab.2 j d _ Y (zqd ac)).okc (by grind[Go.AM.pq])
          have d:Dl Z ow h Z ow (h.set c (.row (ces.set i (ces[i].x0f off xc.cells)) sz)) L:=⟨zqt _,U _,fun _ _ _=>.rfl,fun d M C hM=>Vg.get_set_ne _ _ fun e=>by subst e;rw[V]at C;cases C;exact hM (.refl _)⟩
          obtain⟨r,k0,es0,sz0,es0',bc,hos,_⟩:=jq _ _ _ _ J;have ak:df ow K.os ow os2:=⟨by grind,fun j _ L' hl=>⟨L',by grind[Ap],fun _=>.rfl⟩⟩
          refine⟨_,ow,(by grind[Go.AM.pr]),G6.to (s.set d s.inj s.live s.zb (fun _ _ _ _ _ _ hi=>hi) 6 id k es sz _ os2 L [] (by simp) hr an N J fun x1 a0=>?_) (U _) ak,ak,fun b=>Stp.store s (r:=cg K.os 6 id) (t:=tl) (c:=c) (by grind) aw (by grind) (fun d q t ho _=>.inl ⟨t,ho⟩) (fun j _ c _=>.rfl) (by grind[Go.AM.ij])⟩;rcases a0.inv with⟨_,e2,_⟩|⟨c1,bw,rfl,g1,g2,g3,g4,g5,g6⟩
          . grind
          . have:c=c1:=s.inj _ _ _ V g1
            subst this;rw[h3]at g3;cases g3;have hreloc:∀M u w,(∀q,M++q≠L)->CR Z ow h M u w->CR Z ow (h.set c (.row (ces.set i (ces[i].x0f off xc.cells)) sz)) M u w:=fun M u w hM hc=>hc.reloc (zqt _) (U _) (fun _ _=>.rfl) (fun d q C=>Vg.get_set_ne _ _ (by grind))
            have ax:∀(j o:Nat)(q:List Nat),L++[j,o]++q≠L:=(by simp_all)
            refine CR.cells (a:=ces[i]) (ncs:=xc.cells) V h2 (Vg.get_set_eq _ _ h3) be ha hi (by omega) ar.1 (by omega) (fun d C=>jw (ae d C)) (fun d C=>nG (ag d C)) b7 (by simp_all) (fun o u w hu Q=>?_);have hol:o<lz x.cells:=(zqb.1 Q).1;refine .val (((ab.2 o u w hu Q).fzc (ag w (zqe Q))).mono (U _)) (ag w (zqe Q)) ?_;have bz:off+o<lz e.cells:=by omega
            have b1:off+o<lz ces[i].cells:=by omega
            have hold:=h5 i _ e ha hi (off+o) _ _ (zqd b1) (zqd bz);have ay:clo (e.cells[off+o])=zt:=bu _ (zqe (i:=o) (by simp_all));generalize e.cells[off+o]=w' at hold ay;generalize (ces[i]).cells[off+o]=u' at hold;cases hold with
            |val _ _ n=>exact n
            |_=>cases ay
       . -- the cells take in what is theirs
         cases X:dg (jg K.os id) 6 id (es.set i (e.x0f off (zqa t.size .und)))with
         |none=>grind
         |some ai=>
          rw[X]at B;simp only at B;cases G:fv K.ext (cg K.os 6 id) id i off ai x.cells with
          |none=>rw[G]at B;cases B
          |some q=>
           obtain⟨cs,os1⟩:=q;rw[G]at B;simp only at B;cases J:dg os1 6 id (es.set i (e.x0f off cs))with
           |none=>rw[J]at B;cases B
           |some os2=>
            rw [J]at B;cases B;have hlen:lz x.cells=t.size:=av;have aa:x≠.und:=fun e=>by
             subst e;unfold fv at G;cases G
            have ab:=hx.cells aa;have ar:=hx.shape aa;have Q:=gK K.os id;obtain⟨k',es',sz',bd⟩:=Vn _ _ _ _ X
            have:=Vp Q 6 id _ bd
            rw[hr]at this;cases this;have s1:=s.wk Q;have a4:ez (jg K.os id) id=zf:=(Q.raw id).trans N;obtain⟨Lk,ao,_⟩:=s1.get 6 id k es sz bd
            have:=Q.lo 6 id Lk ao
            rw[an]at this;cases this;have au:∀j L1,loP (jg K.os id) 6 j=zs L1->¬AtC L i off t.size L1:=fun j L1 h1 ⟨o,_,_,hu⟩=>gM an h1 (by simp) hu
            obtain⟨s2,k2,n2⟩:=s1.forget bd a4 ao hi br a9 au X;obtain⟨r0,kr0,er0,sr0,er0',bc,ah⟩:=Kp _ _ _ _ X;have bf:∀n j,loP ai n j=loP (jg K.os id) n j:=fun n j=>by rw[ah,Ap bc]
            have bg:VL Z (clr ow (AtC L i off t.size)) h ai xc.cells x.cells:=ab.keep (fun _ hz=>⟨hz,rfl⟩) (Q.keep.trans k2);have az:cg ai 6 id=cg K.os 6 id:=by
             obtain⟨t1,h1,_⟩:=I8 6 id L ((bf 6 id).trans ao);rw[ba]at h1;exact(List.cons.inj h1).1.symm
            obtain ⟨owf,g⟩:=Vm (R:=VR Z ow h K.os) (Z:=Z) (h:=h) (o0:=off) ba x.cells xc.cells cs 0 ai os1 (clr ow (AtC L i off t.size)) G (by rw[vG (fun M ⟨o,h1,h2,_⟩=>by omega)];exact s2) s2.inj (fun a M ha=>⟨(s2.live a M ha).1,(s2.live a M ha).2.1⟩) (fun a M ha e=>by obtain⟨_,_,r,t,h,_⟩:=s2.live a M ha;rw[e]at h;cases h) (by grind[Go.AM.lg]) (by rw[ah,zqg,Q.1];exact bt) (by grind) (fun j Y=>n2 j (by omega)) bg;have bh:∀d∈xc.cells,ff d=zt:=fun d C=>by
             obtain⟨j,Y⟩:=zqi C;have ac:j<lz cs:=by rw[g.len];grind
             obtain⟨ad,_,b5⟩:=g.cr j d _ Y (zqd ac);generalize cs[j]=b at ad b5;cases ad with
             |val f e _=>exact f.okc e
             |und=>grind
             |nil e _=>rcases e with rfl|rfl<;>rfl
             |own=>unfold yf;split<;>rfl
            have bi:lz cs=t.size:=by rw[g.len,ar.1,av]
            have bj:∀d∈cs,fh d=zf:=fun d C=>by
             obtain⟨j,Y⟩:=zqi C;have ac:j<lz xc.cells:=by grind
             exact(g.cr j _ d (zqd ac) Y).2.1
            have bk:cd os1 6 id=zs (k,es.set i (e.x0f off (zqa t.size .und)),sz):=by
             rw[(li _ _ _ _ _ G az).1];grind[Ng]
            have a5:ez ai id=zf:=by grind[pV]
            have a6:ez os1 id=zf:=(li _ _ _ _ _ G az).2.2.trans a5;have hA:∀M,¬Und L M->¬AtC L i off t.size M:=fun M hM ha=>hM (Nh ha)
            have bm:lz xc.cells=t.size:=ar.1.trans av;have al:=g.pt;rw[zqv,bm]at al;have bo:loP os1 6 id=zs L:=by
             obtain ⟨L1,h6,_⟩:=al.get 6 id _ _ _ bk;have hle:L1=L:=by
              have:=g.keep.2 id (by rw[ah,zqg,Q.1];exact bt) L1 h6
              obtain⟨L2,h7,h8⟩:=this;have h9:L2=L:=(by grind)
              subst h9;have aj:clr ow (AtC L2 i off t.size) c=zs L2:=cf.2 ⟨V,Gp⟩;have h10:=(h8 c).1 aj;have h11:owf c=zs L2:=(g.at_ c L2 (.refl _) Gp).2 aj;grind
             grind
            have am:owf c=zs L:=(g.at_ c L (.refl _) Gp).2 (cf.2 ⟨V,Gp⟩);have d:Dl Z (clr owf (AtC L i off t.size)) h Z owf (h.set c (.row (ces.set i (ces[i].x0f off xc.cells)) sz)) L:=⟨zqt _,U _,(by grind[Go.AM.cf]),fun d M C hM=>Vg.get_set_ne _ _ fun e=>by
             subst e
             have:=(cf.1 C).1
             rw[am]at this;cases this;exact hM (.refl _)⟩
            have af:∀j,¬AtC L i off t.size [j]:=fun j ⟨o,_,_,u,hu⟩=>by
             simp_all
            obtain ⟨r3,k3,e3,z3,e3',b6,bv⟩:=Kp _ _ _ _ J;have a7:∀a M,owf a=zs M->a<(h.set c (.row (ces.set i (ces[i].x0f off xc.cells)) sz)).next/\¬Z a/\∃r t,M=r::t/\ek os1 r=zt:=fun a M ha=>by
             refine⟨(g.live a M ha).1,(g.live a M ha).2,?_⟩;by_cases H:AtC L i off t.size M
             . obtain⟨o,_,_,u,rfl⟩:=H
               obtain⟨_,_,r,t,h6,h7⟩:=al.live c L (cf.2 ⟨am,Gp⟩);grind
             . exact(al.live a M (cf.2 ⟨ha,H⟩)).2.2
            have b2:df owf os1 owf os2:=⟨by grind,fun j _ L' hl=>⟨L',by grind[Ap],fun _=>.rfl⟩⟩
            have bq:df ow K.os owf os2:=((Q.keep.trans k2).trans g.keep).trans b2;refine⟨_,owf,(by grind[Go.AM.pr]),G6.to (al.set d g.inj a7 s2.zb (fun M m z u0 hM hu0 hi=>?_) 6 id k _ sz _ os2 L [] (by simp) bk bo a6 J fun x1 a0=>?_) (U _) bq,bq,fun b=>Stp.store s (r:=cg K.os 6 id) (t:=tl) (c:=c) (by grind) aw (fun d M C _=>?_) (fun d q u0 ho hq=>?_) (fun j Y c' _=>?_) (fun j _ Y=>?_)⟩
            . intro c' t' a1
              by_cases H:AtC L i off t.size (M++t')
              . obtain ⟨o,_,_,u,hu⟩:=H
                rw[hM]at hu
                have:t'=u0++([i,o]++u):=by
                 grind[zqk]
                rcases hi c u0 (by grind[cf])with h|⟨i',o',q,h,h8,h9⟩
                . grind
                grind
              . exact hi c' t' (cf.2 ⟨a1,H⟩)
            . rcases a0.inv with⟨_,e2,_⟩|⟨c1,bw,rfl,g1,g2,g3,g4,g5,g6⟩
              . simp_all
              . have:c=c1:=g.inj _ _ _ am (cf.1 g1).1
                subst this;rw[h3]at g3;cases g3;have hil:=(zqb.1 hi).1;have w2:=Q1 (v:=e) (off:=off) (ncs:=zqa t.size .und) (by rw[zqj];omega) (by simpa using a9) pu;have b3:(es.set i (e.x0f off (zqa t.size .und)))[i]?=zs (e.x0f off (zqa t.size .und)):=by grind
                have b4:es.set i (e.x0f off cs)=(es.set i (e.x0f off (zqa t.size .und))).set i ((e.x0f off (zqa t.size .und)).x0f off cs):=by
                 rw[List.set_set,Rd (by rw[zqj];omega) (by rw[zqj];exact bi.symm) pu]
                rw[b4];have ax:∀(j o:Nat)(q:List Nat),L++[j,o]++q≠L:=(by simp_all)
                refine CR.cells (a:=ces[i]) (ncs:=xc.cells) am h2 (Vg.get_set_eq _ _ h3) g4 ha b3 (by omega) (by omega) (by omega) (fun d C=>jw (bh d C)) bj (fun c' t' a1=>?_) (fun j x y hx hy o u w hjo hu Q=>?_) (fun o u w hu Q=>?_)
                . by_cases H:AtC L i off t.size (L++t')
                  . obtain⟨o,ho1,ho2,u,hu⟩:=H
                    grind[zqk]
                  . exact g5 c' t' (cf.2 ⟨a1,H⟩)
                . refine (g6 j x y hx hy o u w hu Q).reloc (zqt _) (U _) (fun d q=>?_) (fun d q C=>Vg.get_set_ne _ _ fun e=>?_)
                  . rw[cf]
                    exact⟨fun h=>⟨h,fun H=>by have:=Gm H;grind⟩,fun h=>h.1⟩
                  simp_all
                . refine(g.cr o u w hu Q).1.reloc (zqt _) (U _) (fun _ _=>.rfl) (fun d q C=>Vg.get_set_ne _ _ fun e=>?_)
                  subst e;rw[am]at C;exact ax i _ q (Option.some.inj C).symm
            . intro e
              have:=(g.sm d).2 (by unfold clr;rw[e])
              rw[this]at C;cases C
            . by_cases H:AtC L i off t.size (q::u0)
              . right
                obtain⟨u,hu⟩:=Nh H;grind
              . exact .inl ⟨_,g.lo d q _ (cf.2 ⟨ho,H⟩) hq⟩
            . constructor
              . exact fun h=>g.lo c' j [] (cf.2 ⟨h,af j⟩) Y
              . exact fun h=>(cf.1 (g.no c' [j] h (by rw[bm];exact af j))).1
            . rw[bv,ij b6]at Y
              have:=g.rt' j Y
              rw[ah,ij bc,Q.rt]at this;exact this
    . cases B
 |_=>cases B
end
section
variable {E:Env}{R:AV->AV->Prop}{Z Z':Nat->Prop}{ow ow':Nat->Option (List Nat)}{h h':Vg}{K K':PK}{os os':List PO}{x y:AV}{L M:List Nat}
theorem PT.noHead(s:PT R Z ow h os)(d:Nat)(t:List Nat):ow d≠zs (lz os::t):=fun e=>by
 obtain⟨_,_,r,t',B,h2⟩:=s.live _ _ e;cases B;exact absurd (fj h2) (by omega)
theorem PT.new(s:PT R Z ow h os)(e:PO)(hn:h.next<=h'.next)(hZ:∀d,Z d->h'.get d=h.get d)(hg:∀d M,ow d=zs M->h'.get d=h.get d)(ho:∀d M,(∀t,M≠lz os::t)->(ow' d=zs M↔ow d=zs M))
 (hinj:∀a b t,ow' a=zs (lz os::t)->ow' b=zs (lz os::t)->a=b)(hlive:∀d t,ow' d=zs (lz os::t)->d<h'.next/\¬Z d)(hrt:ek (os++[e]) (lz os)=zt)
 (h0:∀es sz,e=.row 0 es sz->∃x,CR Z ow' h' [lz os] x (di 0 sz es))(h1:∀k es sz,e=.row k es sz->k≠0->∃c ces,sy R ow' h' (lz os) es sz c ces)(h2:∀es,e=.mapo es->∃c ces,e0y Z ow' h' (lz os) es c ces):PT R Z ow' h' (os++[e]):=by
 have B:∀{r:Nat}{Q:PO},(os++[e])[r]?=zs Q->(r<lz os/\os[r]?=zs Q)\/(r=lz os/\Q=e):=(by grind)
 have hz:∀d,Z d->Z d/\h'.get d=h.get d:=fun d H=>⟨H,hZ d H⟩
 have C:∀{r:Nat}(t t':List Nat),r<lz os->r::t≠lz os::t':=fun t t' hl e=>by grind
 refine⟨fun r es sz J=>?_,fun r k es sz J V=>?_,fun r es J=>?_,fun a b M ha hb=>?_,fun d M H=>?_,fun d H=>zqu (s.zb d H) hn,fun j p i o J=>?_⟩
 . rcases B J with⟨hl,G⟩|⟨rfl,rfl⟩
   . obtain⟨x,N⟩:=s.row r es sz G
     exact⟨x,N.reloc hn hz (by grind) (fun d t H=>hg d _ H)⟩
   grind
 . rcases B J with⟨hl,G⟩|⟨rfl,rfl⟩
   . obtain⟨c,ces,g⟩:=s.raw r k es sz G V
     exact⟨c,ces,(ho c _ fun t'=>C [] t' hl).2 g.o,zqu g.lt hn,(hg c _ g.o).trans g.get,g.sh,g.vr,g.okp,fun a t ha=>g.no a t ((ho a _ fun t'=>C t t' hl).1 ha)⟩
   grind
 . rcases B J with⟨hl,G⟩|⟨rfl,rfl⟩
   . obtain⟨c,ces,g⟩:=s.map r es G
     exact⟨c,ces,(ho c _ fun t'=>C [] t' hl).2 g.o,zqu g.lt hn,(hg c _ g.o).trans g.get,g.len,fun i x y N U=>⟨(g.kv i x y N U).1,(g.kv i x y N U).2.mono hz⟩,fun a t ha=>g.no a t ((ho a _ fun t'=>C t t' hl).1 ha)⟩
   grind
 . by_cases X:∃t,M=lz os::t
   . grind
   . exact s.inj a b M (by grind) (by grind)
 . by_cases X:∃t,M=lz os::t
   . grind
   . obtain⟨G,h4,r,t,h5,h6⟩:=s.live d M (by grind)
     grind[Vj]
 . rw[zqq]
   rcases B J with⟨hl,G⟩|⟨rfl,rfl⟩
   . have:=s.sb j p i o G;omega
   grind[ek]
theorem Vr(s:PT R Z ow h os){e:PO}(ho:∀d M,(∀t,M≠lz os::t)->(ow' d=zs M↔ow d=zs M)):df ow os ow' (os++[e]):=
 Nc s.sb fun id hi L hl c=>(ho c L fun t e=>by
  obtain⟨t',B,h2,_⟩:=I8 _ _ _ hl;rw[B]at e;have h3:=fj h2;grind).symm
def f7(ow:Nat->Option (List Nat))(c:Nat)(L:List Nat):Nat->Option (List Nat):=fun d=>if d=c then zs L else ow d
theorem vH(s:PT R Z ow h os){c:Nat}(hc:ow c=znq)(d:Nat)(M:List Nat)(hM:∀t,M≠lz os::t):f7 ow c [lz os] d=zs M↔ow d=zs M:=by
 unfold f7;grind
theorem oh(s:PT R Z ow h os){c d:Nat}{t:List Nat}:f7 ow c [lz os] d=zs (lz os::t)↔d=c/\t=[]:=by
 unfold f7;split
 . grind
 . rename_i e
   exact⟨fun h=>absurd h (s.noHead d t),fun h=>absurd h.1 e⟩
theorem PT.next_none(s:PT R Z ow h os):ow h.next=znq:=by
 cases e:ow h.next with
 |none=>rfl
 |some M=>exact absurd (s.live _ _ e).1 (by omega)
theorem PT.lay(s:PT R Z ow h os){e:PO}{ob:io}(C:ek (os++[e]) (lz os)=zt)
 (h0:∀es sz,e=.row 0 es sz->∃x,CR Z (f7 ow h.next [lz os]) (h.push ob) [lz os] x (di 0 sz es))(h1:∀k es sz,e=.row k es sz->k≠0->∃c ces,sy R (f7 ow h.next [lz os]) (h.push ob) (lz os) es sz c ces)(h2:∀es,e=.mapo es->∃c ces,e0y Z (f7 ow h.next [lz os]) (h.push ob) (lz os) es c ces):
 PT R Z (f7 ow h.next [lz os]) (h.push ob) (os++[e])/\df ow os (f7 ow h.next [lz os]) (os++[e]):=by
 have hg:∀d,d<h.next->(h.push ob).get d=h.get d:=(by grind[Go.AM.Vg.get_push_ne])
 have ho:=vH s s.next_none;exact⟨s.new e (zqx _) (fun d B=>hg d (s.zb d B)) (fun d M B=>hg d (s.live d M B).1) ho (by grind[Go.AM.oh]) (fun d t B=>by
  have:=((oh s).1 B).1
  subst this;exact⟨zqy _,fun hz=>absurd (s.zb _ hz) (by omega)⟩) C h0 h1 h2,Vr s ho⟩
theorem Stp.lay{b:Nat}{ob:io}{ps:List PO}(s:PT R Z ow h K.os)(hx:K.ext<=lz K.os):Stp b Z ow h K Z (f7 ow h.next [lz K.os]) (h.push ob) {K with os:=K.os++ps}:=by
 have hg:∀d,d<h.next->(h.push ob).get d=h.get d:=(by grind[Go.AM.Vg.get_push_ne])
 have hne:∀d M,ow d=zs M->d≠h.next:=fun d M B e=>by have:=(s.live d M B).1;omega
 refine⟨zqx _,fun d hz=>⟨hz,hg d (s.zb d hz)⟩,fun d hz=>.inl hz,fun d B _=>hg d B,fun d M B hl e=>?_,⟨[],rfl,fun d B=>by cases B⟩,fun d r t ho _=>.inl ⟨t,?_⟩,fun r C _=>C,rfl,fun j G c C=>?_,fun j G C=>?_⟩
 . simp_all[f7]
 . simp_all[f7]
 . unfold f7
   grind
 grind[ek]
def GE(E:Env):Prop:=∀t ti,E.ti t=zs ti->(∀Z h,Fz Z h ti.zero ti.zero)/\lz ti.zero.cells=ti.size
theorem Cb(os:List PO){e:PO}(he:(∃k es sz,e=.row k es sz)\/∃es,e=.mapo es):ek (os++[e]) (lz os)=zt:=by
 unfold ek;grind
theorem Rz(h:Vg)(ob:io):(h.push ob).get h.next=zs ob:=Vg.get_push_eq h ob
theorem Ni(s:PT R Z ow h os)(a:Nat)(t:List Nat)(ha:f7 ow h.next [lz os] a=zs (lz os::t)):t=[]:=((oh s).1 ha).2
theorem U8(ow:Nat->Option (List Nat))(c:Nat)(L:List Nat):f7 ow c L c=zs L:=by unfold f7;grind
theorem Ow(os:List PO){e:PO}(he:(∃k es sz,e=.row k es sz)\/∃es,e=.mapo es):loP (os++[e]) 6 (lz os)=zs [lz os]:=by
 unfold loP;grind
theorem nH(s:G6 Z ow h K.os)(C:K.ext<=lz K.os){sz:Nat}{v vc:AV}(N:VR Z ow h K.os vc v)(hl:lz v.cells=sz)(ho:∀b∈v.cells,Gi b=zt):
 G6 Z (f7 ow h.next [lz K.os]) (h.push (.row [vc] sz)) (newRow 1 [v] sz K).os/\df ow K.os (f7 ow h.next [lz K.os]) (newRow 1 [v] sz K).os/\VR Z (f7 ow h.next [lz K.os]) (h.push (.row [vc] sz)) (newRow 1 [v] sz K).os (.ptr h.next 0 0) (.ptr (lz K.os) 0 0)/\∀b,Stp b Z ow h K Z (f7 ow h.next [lz K.os]) (h.push (.row [vc] sz)) (newRow 1 [v] sz K):=by
 have G:v≠.und:=fun e=>by subst e;exact absurd (ho .und (zqh ..)) (by decide)
 have hsh:=N.shape G;have J:=N.cells G;have V:(∃k es z,PO.row 1 [v] sz=.row k es z)\/∃es,PO.row 1 [v] sz=.mapo es:=.inl ⟨_,_,_,rfl⟩;have B:=PT.lay (ob:=.row [vc] sz) s (e:=.row 1 [v] sz) (Cb _ V) (fun es z e=>by cases e) (fun k es z e hk=>by
  cases e;refine⟨h.next,[vc],U8 _ _ _,zqy _,Rz h _,⟨rfl,fun i x y C H=>?_⟩,fun i x y C H o a b ha hb=>?_,fun i y H b hb=>?_,Ni s⟩
  . grind
  . cases i with
    |zero=>cases C;cases H;exact J.2 o a b ha hb
    |succ i=>simp at C
  grind) (fun es e=>by cases e)
 refine⟨G6.to B.1 (fun d Q=>⟨Q,Vg.get_push_ne h _ (by have:=s.zb d Q;omega)⟩) B.2,B.2,.ptr (fun L U=>?_) (by show _<lz (K.os++[PO.row 1 [v] sz]);simp),fun b=>Stp.lay s C⟩;have U:loP (K.os++[PO.row 1 [v] sz]) 6 (lz K.os)=zs L:=U;grind[Ow,U8]
theorem gN(s:G6 Z ow h K.os)(C:K.ext<=lz K.os){sz n:Nat}{z:AV}(hz:∀Z h,Fz Z h z z)(hl:lz z.cells=sz):
 G6 Z (f7 ow h.next [lz K.os]) (h.push (.row (zqa n z) sz)) (newRow 0 (zqa n z) sz K).os/\df ow K.os (f7 ow h.next [lz K.os]) (newRow 0 (zqa n z) sz K).os/\VR Z (f7 ow h.next [lz K.os]) (h.push (.row (zqa n z) sz)) (newRow 0 (zqa n z) sz K).os (.msl h.next 0 n sz) (.msl (lz K.os) 0 n sz)/\∀b,Stp b Z ow h K Z (f7 ow h.next [lz K.os]) (h.push (.row (zqa n z) sz)) (newRow 0 (zqa n z) sz K):=by
 have Q:(∃k es G,PO.row 0 (zqa n z) sz=.row k es G)\/∃es,PO.row 0 (zqa n z) sz=.mapo es:=.inl ⟨_,_,_,rfl⟩;have hrep:∀{i:Nat}{x:AV},(zqa n z)[i]?=zs x->x=z:=(by grind)
 have B:=PT.lay (ob:=.row (zqa n z) sz) s (e:=.row 0 (zqa n z) sz) (Cb _ Q) (fun es G e=>by
  cases e;refine⟨_,.own (k:=0) (U8 _ _ _) (zqy _) (Rz h _) rfl (fun c t hc=>.inl (Ni s c t hc)) (fun i x y C H=>?_) (fun i x y C H o a b ha hb=>?_)⟩
  . grind
  . rw [hrep C]at ha
    rw[hrep H]at hb
    have:=(hz Z (h.push (.row (zqa n z) sz))).cell ha hb
    exact .val this.1 this.2 fun c t hc=>by
     grind[Ni]) (by grind) (fun es e=>by cases e)
 refine⟨G6.to B.1 (fun d J=>⟨J,Vg.get_push_ne h _ (by have:=s.zb d J;omega)⟩) B.2,B.2,.msl (fun L N=>?_) (by show _<lz (K.os++[PO.row 0 (zqa n z) sz]);simp),fun b=>Stp.lay s C⟩;have N:loP (K.os++[PO.row 0 (zqa n z) sz]) 6 (lz K.os)=zs L:=N;grind[Ow,U8]
theorem pW(s:G6 Z ow h K.os)(C:K.ext<=lz K.os):
 G6 Z (f7 ow h.next [lz K.os]) (h.push (.mapo [])) (K.os++[.mapo []])/\df ow K.os (f7 ow h.next [lz K.os]) (K.os++[.mapo []])/\VR Z (f7 ow h.next [lz K.os]) (h.push (.mapo [])) (K.os++[.mapo []]) (.map h.next) (.map (lz K.os))/\∀b,Stp b Z ow h K Z (f7 ow h.next [lz K.os]) (h.push (.mapo [])) {K with os:=K.os++[.mapo []]}:=by
 have J:(∃k es G,PO.mapo []=.row k es G)\/∃es,PO.mapo []=.mapo es:=.inr ⟨_,rfl⟩;have B:=PT.lay (ob:=.mapo []) s (e:=.mapo []) (Cb _ J) (fun es G e=>by cases e) (fun k es z e hk=>by cases e) (fun es e=>by
  cases e;exact⟨h.next,[],U8 _ _ _,zqy _,Rz h _,rfl,fun i x y C=>by simp at C,Ni s⟩)
 refine⟨G6.to B.1 (fun d H=>⟨H,Vg.get_push_ne h _ (by have:=s.zb d H;omega)⟩) B.2,B.2,.map (fun L hL=>?_) (by simp),fun b=>Stp.lay s C⟩;grind[Ow,U8]
end
section
variable {E:Env}{R:AV->AV->Prop}{Z Z':Nat->Prop}{ow ow' owk:Nat->Option (List Nat)}{h h':Vg}{K K':PK}{os os':List PO}{x y:AV}{L M:List Nat}
noncomputable def kX(ow:Nat->Option (List Nat))(Gn:List Nat->Prop)(G:Nat->Nat->List Nat)(N sz c n:Nat):Nat->Option (List Nat):=fun d=>open Classical in
 if d=c then zs [n]else match ow d with
 |none=>znq
 |some M=>if hx:∃p:Nat×Nat×List Nat,p.1<N/\p.2.1<sz/\M=G p.1 p.2.1++p.2.2 then zs (n::hx.choose.1::hx.choose.2.1::hx.choose.2.2)else if Gn M then znq else zs M
theorem Hn{Gn:List Nat->Prop}{G:Nat->Nat->List Nat}{N sz c n d:Nat}{M':List Nat}(Y:∀i o t,i<N->o<sz->Gn (G i o++t))(hu:∀i o t i' o' t',i<N->o<sz->i'<N->o'<sz->G i o++t=G i' o'++t'->i=i'/\o=o'/\t=t'):
 kX ow Gn G N sz c n d=zs M'↔(d=c/\M'=[n])\/(d≠c/\∃i o t,i<N/\o<sz/\ow d=zs (G i o++t)/\M'=n::i::o::t)\/(d≠c/\ow d=zs M'/\¬Gn M'):=by
 unfold kX;by_cases V:d=c
 . grind
 . rw [if_neg V]
   cases e:ow d with
   |none=>
    grind
   |some M=>
    simp only;by_cases J:∃p:Nat×Nat×List Nat,p.1<N/\p.2.1<sz/\M=G p.1 p.2.1++p.2.2
    . rw [dif_pos J]
      have X:=J.choose_spec;generalize J.choose=p at X;obtain⟨Q,h2,U⟩:=X
      constructor
      . intro h;cases h
        exact .inr (.inl ⟨V,_,_,_,Q,h2,by rw[U],rfl⟩)
      . rintro (⟨h,_⟩|⟨_,i,o,t,B,C,H,rfl⟩|⟨_,B,C⟩)
        . exact absurd h V
        . have H:=Option.some.inj H
          rw[U]at H;obtain⟨a,b,c⟩:=hu _ _ _ _ _ _ Q h2 B C H;rw[a,b,c]
        . cases B
          exact absurd (by rw[U];exact Y _ _ _ Q h2) C
    . rw [dif_neg J]
      by_cases hg:Gn M
      . rw [if_pos hg]
        constructor
        . intro h;cases h
        . rintro(⟨h,_⟩|⟨_,i,o,t,B,C,H,rfl⟩|⟨_,B,C⟩)
          . grind
          . simp_all
          grind
      grind
theorem PT.graft(s:PT R Z owk h os){Gn:List Nat->Prop}{G:Nat->Nat->List Nat}{sz c:Nat}{ces es:List AV}(N:∀d M,owk d=zs M↔ow d=zs M/\¬Gn M)(hinj:∀a b M,ow a=zs M->ow b=zs M->a=b)(hlive:∀a M,ow a=zs M->a<h.next/\¬Z a)
 (hG:∀i o t,i<lz es->o<sz->Gn (G i o++t))(hu:∀i o t i' o' t',i<lz es->o<sz->i'<lz es->o'<sz->G i o++t=G i' o'++t'->i=i'/\o=o'/\t=t')(hs:dE sz ces es)
 (hcr:∀(i:Nat) x y,ces[i]?=zs x->es[i]?=zs y->∀(o:Nat) a b,x.cells[o]?=zs a->y.cells[o]?=zs b->CR Z ow h (G i o) a b)(hn:h.next<=h'.next)(hZ:∀d,Z d->h'.get d=h.get d)(hc:c<h'.next)(hcz:¬Z c)(hget:h'.get c=zs (.row ces sz))(hoc:∀M,ow c=zs M->Gn M/\∀i o t,i<lz es->o<sz->M≠G i o++t)
 (hg:∀d M,ow d=zs M->(¬Gn M\/∃i o t,i<lz es/\o<sz/\M=G i o++t)->h'.get d=h.get d):
 PT R Z (kX ow Gn G (lz es) sz c (lz os)) h' (os++[.row 0 es sz])/\df owk os (kX ow Gn G (lz es) sz c (lz os)) (os++[.row 0 es sz]):=by
 have gs:=fun d M'=>Hn (ow:=ow) (c:=c) (n:=lz os) (d:=d) (M':=M') hG hu
 have hz:∀d,Z d->Z d/\h'.get d=h.get d:=fun d B=>⟨B,hZ d B⟩
 have ho:∀d M,(∀t,M≠lz os::t)->(kX ow Gn G (lz es) sz c (lz os) d=zs M↔owk d=zs M):=(by grind)
 have hno:∀d t,ow d=zs (lz os::t)->Gn (lz os::t):=fun d t B=>Classical.byContradiction fun hg=>s.noHead d t ((N _ _).2 ⟨B,hg⟩)
 refine⟨s.new _ hn hZ (by grind) ho (fun a b t ha hb=>?_) (fun d t B=>?_) (Cb _ (.inl ⟨_,_,_,rfl⟩)) (fun es' sz' e=>?_) (by grind) (fun es' e=>by cases e),Vr s ho⟩
 . grind
 . grind
 . cases e
   have C:kX ow Gn G (lz es) sz c (lz os) c=zs [lz os]:=(gs c _).2 (.inl ⟨rfl,rfl⟩);refine⟨_,.own (k:=0) C hc hget hs.1 (fun d t B=>?_) hs.2 fun i x y J H o a b ha hb=>?_⟩
   . grind
   . have hi:i<lz es:=(zqb.1 H).1
     have hoo:o<sz:=by
      have:=(zqb.1 hb).1
      rw[(hs.2 i x y J H).2.1]at this;exact this
     refine(hcr i x y J H o a b ha hb).reloc hn hz (fun d q=>?_) (by grind);rw[gs];grind
end
section
variable {E:Env}{R:AV->AV->Prop}{Z Z':Nat->Prop}{ow ow' ow1:Nat->Option (List Nat)}{h h':Vg}{K K':PK}{os os' os1:List PO}{x y:AV}{L M:List Nat}
theorem gO{q:Nat}:∀(n j:Nat)(L:List Nat),loP (os.set q .dead) n j=zs L->loP os n j=zs L
 |0,_,_,e=>by cases e
 |n + 1,j,L,e=>by
  unfold loP at e|-;rw[zqc]at e;by_cases G:q=j
  . grind
  . rw [if_neg G]at e
    cases H:os[j]? with
    |none=>grind
    |some a=>
     rw[H]at e;cases a with
     |sub p i o=>
      simp only at e|-;cases B:loP (os.set q .dead) n p with
      |none=>grind
      |some C=>rw[B]at e;rw[gO n p C B];exact e
     |dead=>cases e
     |_=>exact e
theorem PT.giveup(s:PT R Z ow h os)(id:Nat):PT R Z (clr ow (Und [id])) h ((gm os id []).set id .dead)/\df ow os (clr ow (Und [id])) ((gm os id []).set id .dead)/\
 (∀n j L,loP ((gm os id []).set id .dead) n j=zs L->loP os n j=zs L)/\(∀j,ek ((gm os id []).set id .dead) j=zt->ek os j=zt/\j≠id)/\lz ((gm os id []).set id .dead)=lz os/\∀j,j≠id->((gm os id []).set id .dead)[j]?=os[j]?\/∃p i o,os[j]?=zs (.sub p i o):=by
 have w:=Vi os id [];have C:∀n j L,loP ((gm os id []).set id .dead) n j=zs L->loP os n j=zs L:=fun n j L hl=>w.lo n j L (gO n j L hl)
 refine⟨(s.wk w).drop (.inr rfl),⟨by rw[zqg,w.1];grind,fun j B L' hl=>⟨L',C _ _ _ hl,fun c=>?_⟩⟩,C,fun j B=>?_,by rw[zqg,w.1],fun j B=>?_⟩
 . rw [cf]
   refine⟨fun h=>⟨h,fun⟨t,ht⟩=>?_⟩,fun h=>h.1⟩;have h2:=C _ _ _ hl;unfold loP at hl;rw[zqc]at hl;by_cases e:id=j
   . grind
   . rw [if_neg e]at hl
     cases G:(gm os id [])[j]? with
     |none=>grind
     |some a=>
      rw[G]at hl;cases a with
      |dead=>cases hl
      |sub p i o=>
       rcases oy G with h|h
       . grind[I8]
       . cases h
      |_=>grind
 . unfold ek at B
   rw[zqc]at B;by_cases e:id=j
   . grind
   . rw[if_neg e]at B
     exact⟨by rw[<-w.rt];exact B,fun H=>e H.symm⟩
 . rw[zqc,if_neg (fun e=>B e.symm)]
   rcases w.2 j with h|⟨p,i,o,h,_⟩
   . exact .inl h
   grind
structure TkB(R:AV->AV->Prop)(Z:Nat->Prop)(ow:Nat->Option (List Nat))(h:Vg)(os:List PO)(te:TI)(sc s:AV)(base:List AV)(os1:List PO)(tc:List Nat)(ow1:Nat->Option (List Nat)):Prop where
 pt:PT R Z ow1 h os1
 keep:df ow os ow1 os1
 len:lz os1=lz os
 rt:∀j,ek os1 j=zt->ek os j=zt
 sb:∀d M,ow1 d=zs M->ow d=zs M
 tcr:∀d r t,ow d=zs (r::t)->ow1 d=zs (r::t)\/r∈tc
 lo:∀n j L,loP os1 n j=zs L->loP os n j=zs L
 rd:∀j,ek os1 j=zt->∀d,ow d=zs [j]->ow1 d=zs [j]
 alt:((sc=.x0a\/sc=.x0a)/\base=[]/\(ow1=ow\/∃r t,r∈tc/\∀d M,ow1 d=zs M↔ow d=zs M/\¬Und (r::t) M))\/∃c off n L es ces,sc=.msl c off n te.size/\ow c=zs L/\c<h.next/\h.get c=zs (.row ces te.size)/\dE te.size ces es/\off+n<=lz es/\base=(es.drop off).take n/\
  (∀(i:Nat) x y,ces[i]?=zs x->es[i]?=zs y->∀(o:Nat) a b,x.cells[o]?=zs a->y.cells[o]?=zs b->CR Z ow h (L++[i,o]) a b)/\(∀d M,ow1 d=zs M↔ow d=zs M/\¬Und L M)/\(∃r t,L=r::t/\r∈tc)/\(jm s os=zt->off=0/\n=lz es)
theorem Vs{te:TI}{s sc:AV}{base:List AV}{tc:List Nat}(p:PT R Z ow h os)(hv:VR Z ow h os sc s)(B:jh te s os=zs (base,os1,tc)):∃ow1,TkB R Z ow h os te sc s base os1 tc ow1:=by
 cases s with
 |x0a=>
  cases B;exact⟨ow,p,.refl _ _,rfl,fun _ h=>h,fun _ _ h=>h,fun _ _ _ h=>.inl h,fun _ _ _ h=>h,fun _ _ _ h=>h,.inl ⟨.inl hv.isN,rfl,.inl rfl⟩⟩
 |msl id off n sz=>
  unfold jh at B;simp only at B;cases J:cd os 6 id with
  |none=>rw[J]at B;cases B
  |some q=>
   obtain⟨k,es,z⟩:=q;rw[J]at B;simp only at B;split at B
   . rename_i hc
     obtain ⟨rfl,rfl,rfl,aq⟩:=hc;obtain⟨L,G,ae⟩:=p.get 6 id 0 es te.size J;have ah:ez os id=zf:=by
      cases e:ez os id with
      |false=>rfl
      |true=>exact absurd rfl (Hm J e).2
     obtain ⟨x0,ae⟩:∃x,CR Z ow h L x (di 0 te.size es):=by
      rcases ae with⟨h1,_⟩|⟨_,h⟩
      . rw[ah]at h1;cases h1
      . exact h
     obtain⟨tl,am,hrt,_⟩:=I8 6 id L G;have X:∀ow1:Nat->Option (List Nat),(∀d M,ow1 d=zs M↔ow d=zs M/\¬Und L M)->∀tc:List Nat,cg os 6 id∈tc->((sc=.x0a\/sc=.x0a)/\(es.drop off).take n=[]/\(ow1=ow\/∃r t,r∈tc/\∀d M,ow1 d=zs M↔ow d=zs M/\¬Und (r::t) M))\/∃c C n' L es' ces,sc=.msl c C n' te.size/\ow c=zs L/\c<h.next/\h.get c=zs (.row ces te.size)/\dE te.size ces es'/\C+n'<=lz es'/\(es.drop off).take n=(es'.drop C).take n'/\
      (∀(i:Nat) x y,ces[i]?=zs x->es'[i]?=zs y->∀(o:Nat) a b,x.cells[o]?=zs a->y.cells[o]?=zs b->CR Z ow h (L++[i,o]) a b)/\(∀d M,ow1 d=zs M↔ow d=zs M/\¬Und L M)/\(∃r t,L=r::t/\r∈tc)/\(jm (.msl id off n te.size) os=zt->C=0/\n'=lz es'):=by
      intro ow1 h1 tc ag;generalize hy:AV.msl id off n te.size=y at hv;cases hv with
      |fz f=>cases f<;>cases hy
      |mnil e _ _=>
       cases hy;exact .inl ⟨e,by simp,.inr ⟨_,tl,ag,by rw[<-am];exact h1⟩⟩
      |@msl id' c C n' sz' h2 h3=>
       cases hy;have ac:=h2 L G;rcases ae.inv with⟨_,_,_,h4⟩|⟨c0,ces,_,h4,Y,h6,h7,_,h9⟩
       . exact absurd (by simpa using ac) (h4 c [])
       . have:c=c0:=p.inj _ _ _ ac h4
         subst this;refine .inr ⟨c,off,n,L,es,ces,rfl,ac,Y,h6,h7,aq,rfl,h9,h1,⟨_,tl,am,ag⟩,fun hw=>?_⟩;unfold jm at hw;simp only at hw;rw[J]at hw;simp only[Bool.and_eq_true,beq_iff_eq]at hw;exact hw
      |_=>cases hy
     cases he:os[id]? with
     |none=>grind
     |some e=>
      rw[he]at B;cases e with
      |row k es0 z0=>
       cases B;have hLid:L=[id]:=by grind[loP]
       have hrid:cg os 6 id=id:=by grind
       obtain⟨g1,g2,g3,g4,g5,_⟩:=p.giveup id;refine⟨clr ow (Und [id]),g1,g2,g5,fun j hj=>(g4 j hj).1,fun d M Q=>(cf.1 Q).1,fun d r t Q=>?_,g3,fun j hj d Q=>cf.2 ⟨Q,fun⟨u,U⟩=>(g4 j hj).2 (List.cons.inj U).1⟩,X _ (by grind[Go.AM.cf]) _ (by grind)⟩;by_cases e:r=id
       . right;rw[e];exact zqo.2 rfl
       . left;exact cf.2 ⟨Q,fun⟨u,U⟩=>e (List.cons.inj U).1⟩
      |sub q i o=>
       simp only at B;cases hp:cd os 6 q with
       |none=>rw[hp]at B;cases B
       |some t1=>
        obtain⟨kp,N,pz⟩:=t1;rw[hp]at B;simp only at B;split at B
        . rename_i ao
          subst ao;cases hi:N[i]? with
          |none=>rw[hi]at B;cases B
          |some v=>
           rw[hi]at B;simp only at B;cases H:dg (gm os (cg os 6 id) (ei os 6 q)) 6 q (N.set i (v.x0f o [.und]))with
           |none=>rw[H]at B;cases B
           |some os2=>
            rw [H]at B;cases B;have hroot:cg os 6 q=cg os 6 id:=by
             have e1:cg os 6 id=cg os 5 q:=by
              grind[cg]
             obtain ⟨Lq,ai,_⟩:=p.get 6 q 0 N pz hp;have Y:loP os 5 q=zs Lq:=by
              unfold loP at G;rw[he]at G;simp only at G;cases Y:loP os 5 q with
              |none=>grind
              |some L5=>rw[lg Y ai]
             grind[I8]
            have w:=Vi os (cg os 6 id) (ei os 6 q);obtain⟨k',pes',pz',af⟩:=Vn _ _ _ _ H
            have:=Vp w 6 q _ af
            rw [hp]at this;cases this;have pk:=p.wk w;have ad:ez os q=zf:=by
             cases e:ez os q with
             |false=>rfl
             |true=>exact absurd rfl (Hm hp e).2
            obtain ⟨Lq,aa,_⟩:=pk.get 6 q 0 N pz af;have ai:=w.lo 6 q Lq aa;have aj:L=Lq++[i,o]:=by
             unfold loP at G;rw[he]at G;simp only at G;cases Y:loP os 5 q with
             |none=>grind
             |some L5=>grind[lg]
            have hvo:o<lz v.cells/\lz v.cells=pz:=by
             unfold cd at J;rw[he]at J;simp only at J;cases Y:cd os 5 q with
             |none=>grind
             |some t5=>
              obtain⟨k5,es5,z5⟩:=t5;have h6:=Vo 5 q _ Y;rw[hp]at h6;cases h6;rw[Y]at J;simp only at J;rw[hi]at J;simp only at J;cases ho:v.cells[o]? with
              |none=>grind
              |some c=>
               refine⟨(zqb.1 ho).1,?_⟩;obtain⟨_,_,hq⟩:=p.get 6 q 0 N pz hp;rcases hq with⟨h1,_⟩|⟨_,xq,hq⟩
               . grind
               . rcases hq.inv with⟨_,e2,_⟩|⟨_,cq,_,_,_,_,an,_⟩
                 . grind
                 . have hl:i<lz cq:=by rw[an.1];grind
                   exact(an.2 i _ v (zqd hl) hi).2.1
            have ak:∀M,AtC Lq i o 1 M↔Und L M:=fun M=>by
             rw[aj]
             constructor
             . rintro⟨o',h1,h2,h3⟩
               grind
             . exact fun h=>⟨o,zqt _,by omega,h⟩
            have V:∀j L1,loP (gm os (cg os 6 id) (ei os 6 q)) 6 j=zs L1->¬AtC Lq i o 1 L1:=(by grind[Go.AM.qi])
            obtain⟨s2,k2,_⟩:=pk.forget (n:=1) af ((w.raw q).trans ad) aa hi (by omega) (by omega) V H;obtain⟨r0,kr0,er0,sr0,er0',ar,ab⟩:=Kp _ _ _ _ H;have al:∀d M,clr ow (AtC Lq i o 1) d=zs M↔ow d=zs M/\¬Und L M:=fun d M=>by rw[cf,ak]
            refine ⟨clr ow (AtC Lq i o 1),s2,w.keep.trans k2,by rw[ab,zqg,w.1],fun j hj=>by rw[ab,ij ar,w.rt]at hj;exact hj,fun d M Q=>(cf.1 Q).1,fun d r t Q=>?_,fun n j L hl=>w.lo n j L (by grind[Ap]),fun j _ d Q=>(al _ _).2 ⟨Q,fun⟨u,U⟩=>by
             rw[aj]at U
             have:=congrArg zqn U
             grind⟩,X _ al _ (zqo.2 rfl)⟩
            by_cases U:Und L (r::t)
            . right
              obtain⟨u,U⟩:=U;grind
            grind
        . cases B
      |_=>cases B
   . cases B
 |_=>cases B
end
section
variable {E:Env}{R:AV->AV->Prop}{Z Z':Nat->Prop}{ow ow' ow1 ow2:Nat->Option (List Nat)}{h h':Vg}{K K':PK}{os os' os1 os2:List PO}{x y:AV}{L M:List Nat}
theorem Sa{id off n s sz:Nat}{row:List AV}(hg:h.get id=zs (.row row sz))(hn:off+n<=lz row):elems (.msl id off n s) h=zs ((row.drop off).take n):=by
 show h.onRow id znq (fun es _=>bif Nat.ble (Nat.add off n) (dw es)then zs (kh (ls es off) n)else znq)=_
 rw[Hl hg,A4];simp_all[zqw,I6,I5]
theorem Fz.elems{es:List AV}{f:Bool}(z:Fz Z h x (.fsl es f)):∃xs,elems x h=zs xs/\lz xs=lz es/\∀(i:Nat) a b,xs[i]?=zs a->es[i]?=zs b->Fz Z h a b:=by
 cases z with
 |emp e=>
  cases e with
  |_=>exact⟨[],rfl,rfl,fun i a b ha=>by simp at ha⟩
 |fsl B h2 C=>exact⟨_,rfl,B,h2⟩
 |view B h2 C h4 h5 h6=>
  refine⟨_,Sa h2 C,by simp;omega,fun i a b ha hb=>?_⟩;grind
structure TkE(R:AV->AV->Prop)(Z:Nat->Prop)(ow1:Nat->Option (List Nat))(h:Vg)(os1:List PO)(ext:Nat)(tc:List Nat)(te:TI)(xcs xs:List AV)(os2:List PO)(ow2:Nat->Option (List Nat)):Prop where
 pt:PT R Z ow2 h os2
 keep:df ow1 os1 ow2 os2
 len:lz os2=lz os1
 rt:∀j,ek os2 j=zt->ek os1 j=zt
 sb:∀d M,ow2 d=zs M->ow1 d=zs M
 ex:∀d r t,ow1 d=zs (r::t)->r<ext->ow2 d=zs (r::t)
 ln:lz xcs=lz xs
 alt:(ow2=ow1/\∀(i:Nat) a b,xcs[i]?=zs a->xs[i]?=zs b->Fz Z h a b/\lz b.cells=te.size)\/∃q u,ext<=q/\¬q∈tc/\dE te.size xcs xs/\
  (∀(i:Nat) x y,xcs[i]?=zs x->xs[i]?=zs y->∀(o:Nat) a b,x.cells[o]?=zs a->y.cells[o]?=zs b->CR Z ow1 h (q::u++[i,o]) a b)/\(∀d M,ow2 d=zs M↔ow1 d=zs M/\¬Und (q::u) M)
theorem TkE.closed(p:PT R Z ow1 h os1){ext:Nat}{tc:List Nat}{te:TI}{xcs xs:List AV}(hl:lz xcs=lz xs)(hz:∀(i:Nat) a b,xcs[i]?=zs a->xs[i]?=zs b->Fz Z h a b/\lz b.cells=te.size):TkE R Z ow1 h os1 ext tc te xcs xs os1 ow1:=
 ⟨p,.refl _ _,rfl,fun _ h=>h,fun _ _ h=>h,fun _ _ _ h _=>h,hl,.inl ⟨rfl,hz⟩⟩
theorem Di{sz:Nat}{xcs xs:List AV}(hl:lz xcs=lz xs)(hz:∀(i:Nat) a b,xcs[i]?=zs a->xs[i]?=zs b->lz a.cells=sz):G1 sz xcs=zt:=by
 grind[n9,zqi]
theorem gP{te:TI}{xc x:AV}{xs:List AV}{ext:Nat}{tc:List Nat}(p:PT R Z ow1 h os1)(hv:VR Z ow1 h os1 xc x)(B:kj te x ext tc os1=zs (xs,os2)):∃ow2 xcs,elems xc h=zs xcs/\G1 te.size xcs=zt/\TkE R Z ow1 h os1 ext tc te xcs xs os2 ow2:=by
 cases x with
 |x0a=>
  cases B;rw[hv.isN];exact⟨ow1,[],rfl,rfl,.closed p rfl fun i a b ha=>by simp at ha⟩
 |fsl es f=>
  unfold kj at B;simp only at B;split at B
  . rename_i hs
    cases B;cases hv with
    |fz z=>
     obtain⟨xcs,h1,h2,C⟩:=z.elems;rw[n9]at hs;have Q:∀(i:Nat) a b,xcs[i]?=zs a->xs[i]?=zs b->Fz Z h a b/\lz b.cells=te.size:=fun i a b ha hb=>⟨C i a b ha hb,hs b (zqe hb)⟩
     exact⟨ow1,xcs,h1,Di h2 fun i a b ha hb=>(C i a b ha hb).shape.1.trans (Q i a b ha hb).2,.closed p h2 Q⟩
  . cases B
 |msl id off n sz=>
  unfold kj at B;simp only at B;cases J:cd os1 6 id with
  |none=>rw[J]at B;cases B
  |some q=>
   obtain⟨k,es,z⟩:=q;rw[J]at B;simp only at B;split at B
   . rename_i hc
     obtain ⟨rfl,rfl,rfl,hle⟩:=hc;obtain⟨L,X,ag⟩:=p.get 6 id 0 es te.size J;have ai:ez os1 id=zf:=by
      cases e:ez os1 id with
      |false=>rfl
      |true=>exact absurd rfl (Hm J e).2
     obtain ⟨x0,ag⟩:∃x,CR Z ow1 h L x (di 0 te.size es):=by
      rcases ag with⟨h1,_⟩|⟨_,h⟩
      . rw[ai]at h1;cases h1
      . exact h
     have ab:((xc=.x0a\/xc=.x0a)/\n=0/\off=0/\∀c,ow1 c≠zs L)\/∃c ces,xc=.msl c off n te.size/\ow1 c=zs L/\h.get c=zs (.row ces te.size)/\dE te.size ces es/\∀(i:Nat) x y,ces[i]?=zs x->es[i]?=zs y->∀(o:Nat) a b,x.cells[o]?=zs a->y.cells[o]?=zs b->CR Z ow1 h (L++[i,o]) a b:=by
      generalize hy:AV.msl id off n te.size=y at hv;cases hv with
      |fz f=>cases f<;>cases hy
      |mnil e h1 _=>
       cases hy;exact .inl ⟨e,rfl,rfl,h1 L X⟩
      |@msl id' c off' n' sz' h2 C=>
       cases hy;have af:=h2 L X;rcases ag.inv with⟨_,_,_,Q⟩|⟨c0,ces,_,Q,h5,h6,h7,_,h9⟩
       . exact absurd (by simpa using af) (Q c [])
       . have:c=c0:=p.inj _ _ _ af Q
         subst this;exact .inr ⟨c,ces,rfl,af,h6,h7,h9⟩
      |_=>cases hy
     have U:(xc=.x0a\/xc=.x0a)->elems xc h=zs []:=fun e=>by rcases e with rfl|rfl<;>rfl
     cases an:ni te with
     |true=>
      rw[an]at B;simp only at B;split at B
      . rename_i ao
        cases B;rcases ab with⟨e,rfl,rfl,_⟩|⟨c,ces,rfl,h1,h2,C,Q⟩
        . exact⟨ow1,[],U e,rfl,.closed p (by simp) fun i a b ha=>by simp at ha⟩
        . have hz:∀(i:Nat) a b,ces[i]?=zs a->es[i]?=zs b->Fz Z h a b/\lz b.cells=te.size:=fun i a b ha hb=>by
           have H:=C.2 i a b ha hb;have aj:∀u∈b.cells,clo u=zt:=fun u hu=>zqf.1 (zqf.1 ao b (zqe hb)) u hu
           have G:∀(o:Nat) u w,a.cells[o]?=zs u->b.cells[o]?=zs w->Fz Z h u w:=fun o u w hu hw=>by
            have hc:=Q i a b ha hb o u w hu hw;have aq:=aj w (zqe hw);cases hc with
            |val f _ _=>exact f
            |_=>cases aq
           refine⟨?_,H.2.1⟩;cases aa:fh b with
           |true=>
            cases b with
            |agg bs=>
             cases a with
             |agg as1=>exact .agg (H.1.trans H.2.1.symm) G (zqf.2 aj)
             |_=>rw[aa]at H;cases H.2.2
            |_=>cases aa
           |false=>
            have ar:=H.2.2.trans aa;rw[D7 aa,D7 ar]at G;exact G 0 a b rfl rfl
          have ak:lz ces=lz es:=C.1;refine⟨ow1,(ces.drop off).take n,Sa h2 (by omega),Di (xs:=(es.drop off).take n) (by simp[ak]) (fun i a b ha hb=>?_),.closed p (by simp[ak]) fun i a b ha hb=>?_⟩
          . rw[m8]at ha hb
            split at ha
            . rename_i hi;rw[if_pos hi]at hb;exact(C.2 _ a b ha hb).1
            . cases ha
          . rw[m8]at ha hb
            split at ha
            . rename_i hi;rw[if_pos hi]at hb;exact hz _ a b ha hb
            . cases ha
      . cases B
     |false=>
      rw[an]at B;simp only at B;cases he:os1[id]? with
      |none=>rw[he]at B;cases B
      |some e=>
       rw[he]at B;cases e with
       |sub=>
        simp only at B;split at B
        . rename_i ae
          obtain⟨rfl,rfl⟩:=ae;cases hb:jh te (.msl id 0 (lz es) te.size) os1 with
          |none=>rw[hb]at B;cases B
          |some w=>
           obtain⟨base,o2,au⟩:=w;rw[hb]at B;simp only at B;split at B
           . rename_i ah
             cases B;obtain⟨ow2,N⟩:=Vs p hv hb;have V:∀r∈au,ext<=r/\¬r∈tc:=fun r J=>by
              have:=zqf.1 ah r J
              simpa using this
             have al:∀d r t,ow1 d=zs (r::t)->r<ext->ow2 d=zs (r::t):=fun d r t Y hlt=>(N.tcr d r t Y).resolve_right fun h=>by have:=(V r h).1;omega
             rcases N.alt with⟨e,rfl,hz⟩|⟨c,off,n,L,es',ces,rfl,h1,_,h2,C,Q,rfl,h5,h6,⟨r,t,rfl,h7⟩,h8⟩
             . refine⟨ow2,[],U e,rfl,N.pt,N.keep,N.len,N.rt,N.sb,al,rfl,?_⟩
               rcases hz with rfl|⟨r,t,J,hz⟩
               . exact .inl ⟨rfl,fun i a b ha=>by simp at ha⟩
               . exact .inr ⟨r,t,(V r J).1,(V r J).2,⟨rfl,fun i x y hx=>by simp at hx⟩,fun i x y hx=>by simp at hx,hz⟩
             . obtain⟨rfl,rfl⟩:=h8 (by unfold jm;simp only;rw[J];simp)
               have e0:(es'.drop 0).take (lz es')=es':=by simp
               rw[e0];refine⟨ow2,ces,?_,Di C.1 fun i a b ha hb=>(C.2 i a b ha hb).1,N.pt,N.keep,N.len,N.rt,N.sb,al,C.1,.inr ⟨r,t,(V r h7).1,(V r h7).2,C,h5,h6⟩⟩
               have:=Sa (s:=te.size) (off:=0) (n:=lz es') h2 (by rw[C.1];omega)
               rw[this,List.drop_zero,<-C.1,zqs]
           . cases B
        . cases B
       |row k es0 z0=>
        simp only at B;split at B
        . rename_i ae
          obtain⟨rfl,rfl,ac,ad⟩:=ae;cases B;have am:L=[id]:=by unfold loP at X;rw[he]at X;cases X;rfl
          subst am;obtain⟨g1,g2,g3,g4,g5,_⟩:=p.giveup id;rcases ab with⟨e,av,_,_⟩|⟨c,ces,rfl,h1,h2,C,Q⟩
          . have:xs=[]:=zqm av
            subst this;refine⟨clr ow1 (Und [id]),[],U e,rfl,g1,g2,g5,fun j hj=>(g4 j hj).1,fun d M Y=>(cf.1 Y).1,fun d r t Y J=>cf.2 ⟨Y,fun⟨u,hu⟩=>by grind⟩,rfl,?_⟩;exact .inr ⟨id,[],ac,ad,⟨rfl,fun i x y hx=>by simp at hx⟩,fun i x y hx=>by simp at hx,fun d M=>cf⟩
          . refine⟨clr ow1 (Und [id]),ces,?_,Di C.1 fun i a b ha hb=>(C.2 i a b ha hb).1,g1,g2,g5,fun j hj=>(g4 j hj).1,fun d M Y=>(cf.1 Y).1,fun d r t Y J=>cf.2 ⟨Y,fun⟨u,hu⟩=>by grind⟩,C.1,.inr ⟨id,[],ac,ad,C,Q,fun d M=>cf⟩⟩
            have:=Sa (s:=te.size) (off:=0) (n:=lz xs) h2 (by rw[C.1];omega)
            rw[this,List.drop_zero,<-C.1,zqs]
        . cases B
       |_=>cases B
   . cases B
 |_=>cases B
end
section
variable {E:Env}{R:AV->AV->Prop}{Z Z':Nat->Prop}{ow ow' ow1 ow2:Nat->Option (List Nat)}{h h':Vg}{K K':PK}{os os' os1 os2:List PO}{x y:AV}{L M:List Nat}
theorem yT{te:TI}{s:AV}(C:s=.x0a\/s=.x0a){x:AV}{r:List AV}(hb:lz (x::r)*te.bytes<=140737488355328):I1 te s (x::r) h=zs (.msl h.next 0 (lz (x::r)) te.size,h.push (.row (x::r) te.size)):=by
 have B:Ad te [] zt (x::r) h=zs (.msl h.next 0 (lz (x::r)) te.size,h.push (.row (x::r) te.size)):=by
  show M6 (Nat.add 0 (dw (x::r))) (fun n=>B5 (zt&&Nat.ble (Nat.mul n te.bytes) 140737488355328&&i6 te.size []) (Sn (x::r) fun l=>zs (AV.msl h.next 0 n te.size,h.push (.row l te.size))))=_
  rw[C1,A4,show Nat.add 0 (lz (x::r))=lz (x::r) from zqv _]
  have:Nat.ble (Nat.mul (lz (x::r)) te.bytes) 140737488355328=zt:=zqw hb
  rw[this,Bl];rfl
 rcases C with rfl|rfl<;>exact B
theorem yU{te:TI}{c off n:Nat}{ces:List AV}{x:AV}{r:List AV}(hg:h.get c=zs (.row ces te.size))(hn:off+n<=lz ces)(hb:(n+lz (x::r))*te.bytes<=140737488355328):
 I1 te (.msl c off n te.size) (x::r) h=zs (.msl h.next 0 (n+lz (x::r)) te.size,(h.del c).push (.row ((ces.drop off).take n++(x::r)) te.size)):=by
 show h.onRow c znq (Ld te c off n (x::r) h)=_
 rw[Hl hg];show M6 (Nat.add n (dw (x::r))) (fun m=>B5 (Nat.ble (Nat.add off n) (dw ces)&&Nat.beq te.size te.size&&Nat.ble (Nat.mul m te.bytes) 140737488355328) (Sn (ma (kh (ls ces off) n) (x::r)) fun l=>zs (AV.msl h.next 0 m te.size,(h.del c).push (.row l te.size))))=_
 rw[C1,A4,A4,Nat.beq_refl];have e1:Nat.ble (Nat.add off n) (lz ces)=zt:=zqw hn;have e2:Nat.ble (Nat.mul (Nat.add n (lz (x::r))) te.bytes) 140737488355328=zt:=zqw hb;rw[e1,e2,Bl,M0,I6,I5];rfl
theorem yV{sz off n:Nat}{ces es xcs xs:List AV}(G:dE sz ces es)(h2:dE sz xcs xs):dE sz ((ces.drop off).take n++xcs) ((es.drop off).take n++xs):=by
 have hl:lz ((ces.drop off).take n)=lz ((es.drop off).take n):=by simp[G.1]
 refine⟨by simp[G.1,h2.1],fun i x y B C=>?_⟩;rw[zql]at B C;rw[hl]at B;split at B
 . rename_i hi
   rw[if_pos hi]at C;rw[m8]at B C;split at B
   . rename_i H;rw[if_pos H]at C;exact G.2 _ x y B C
   . cases B
 . rename_i hi;rw[if_neg hi]at C;exact h2.2 _ x y B C
theorem Stp.join{b:Nat}{tc:List Nat}{e:PO}{owf:Nat->Option (List Nat)}(p:G6 Z ow h K.os)(hx:K.ext<=lz K.os)(hol:lz os2=lz K.os)(hn:h.next<=h'.next)(B:∀d,d<h.next->ow d=znq->h'.get d=h.get d)
 (hth:∃l,h'.tch=l++h.tch/\∀d∈l,∃r t,ow d=zs (r::t)/\r∈tc)(huo:∀d M,owf d=zs M->d<h.next->ow d≠znq)(hmv:∀d r t,ow d=zs (r::t)->r<K.ext->owf d=zs (r::t)\/r∈tc)
 (hxk:∀j,j<K.ext->ek os2 j=zt->∀d,ow d=zs [j]↔owf d=zs [j])(hrt:∀j,ek os2 j=zt->ek K.os j=zt):Stp b Z ow h K Z owf h' {K with os:=os2++[e],tch:=lz os2::tc++K.tch}:=by
 have C:∀j,j<K.ext->ek (os2++[e]) j=zt->ek os2 j=zt:=(by grind[Go.AM.ek])
 obtain⟨l,G,hl2⟩:=hth;refine⟨hn,fun d hz=>⟨hz,B d (p.zb d hz) ?_⟩,fun _ hz=>.inl hz,B,huo,⟨l,G,fun d J=>?_⟩,fun d r t J H=>?_,(by grind),rfl,(by grind),fun j N H=>hrt j (C j N H)⟩
 . cases e:ow d with
   |none=>rfl
   |some M=>exact absurd hz (p.live _ _ e).2.1
 . grind
 grind
theorem nI{te:TI}{s sc v:AV}{base xs xcs:List AV}{tc:List Nat}(p:G6 Z ow h K.os)(hx:K.ext<=lz K.os)(U:TkB (VR Z ow h K.os) Z ow h K.os te sc s base os1 tc ow1)(J:TkE (VR Z ow h K.os) Z ow1 h os1 K.ext tc te xcs xs os2 ow2)
 (hw:(!xs.isEmpty||jm s K.os)=zt)(V:qh te base xs os2 tc K=zs (v,K')):∃vc h' owf,I1 te sc xcs h=zs (vc,h')/\G6 Z owf h' K'.os/\df ow K.os owf K'.os/\VR Z owf h' K'.os vc v/\∀b,Stp b Z ow h K Z owf h' K':=by
 unfold qh at V;split at V
 . rename_i hb
   cases V;have an:lz os2=lz K.os:=J.len.trans U.len;have af:=J.ln;obtain⟨q,u,hq1,a6,ax,ay,az⟩:∃q u,(∀t r,q::t≠r\/True)/\(q=lz os2\/(K.ext<=q/\¬q∈tc))/\dE te.size xcs xs/\(∀(i:Nat) x y,xcs[i]?=zs x->xs[i]?=zs y->∀(o:Nat) a b,x.cells[o]?=zs a->y.cells[o]?=zs b->CR Z ow1 h (q::u++[i,o]) a b)/\(∀d M,ow2 d=zs M↔ow1 d=zs M/\¬Und (q::u) M):=by
    rcases J.alt with⟨C,h2⟩|⟨q,u,C,h2,h3,h4,h5⟩
    . have ar:∀d t,ow1 d≠zs (lz os2::t):=fun d t e=>by
       have:=J.pt.noHead d t
       rw[C]at this;exact this e
      refine⟨lz os2,[],fun _ _=>.inr trivial,.inl rfl,⟨af,fun i x y hx hy=>⟨(h2 i x y hx hy).1.shape.1.trans (h2 i x y hx hy).2,(h2 i x y hx hy).2,(h2 i x y hx hy).1.shape.2⟩⟩,fun i x y hx hy o a b ha hb=>?_,fun d M=>?_⟩
      . have:=(h2 i x y hx hy).1.cell ha hb
        exact .val this.1 this.2 fun c t e=>ar c ([i,o]++t) (by grind)
      . rw[C];exact⟨fun h=>⟨h,fun⟨u,hu⟩=>ar d u (by grind)⟩,fun h=>h.1⟩
    . exact⟨q,u,fun _ _=>.inr trivial,.inr ⟨C,h2⟩,h3,h4,h5⟩
   have H:df ow K.os ow2 os2:=U.keep.trans J.keep;have aj:loP (os2++[PO.row 0 (base++xs) te.size]) 6 (lz os2)=zs [lz os2]:=Ow _ (.inl ⟨_,_,_,rfl⟩);have ag:lz os2<lz (os2++[PO.row 0 (base++xs) te.size]):=by simp
   have Q:∀j,ek os2 j=zt->ek K.os j=zt:=fun j V=>U.rt j (J.rt j V)
   have ak:∀j,j<K.ext->ek (os2++[PO.row 0 (base++xs) te.size]) j=zt->ek os2 j=zt:=(by grind[Go.AM.ek])
   have au:∀j,j<K.ext->ek os2 j=zt->∀d,ow d=zs [j]->ow2 d=zs [j]:=fun j V X d B=>J.ex d j [] (U.rd j (J.rt j X) d B) V
   rcases U.alt with⟨ai,ad,_⟩|⟨c,off,n,L,es,ces,rfl,ac,a0,al,hs,a7,ad,a9,am,⟨r,tl,ba,hrtc⟩,bb⟩
   . -- nothing was there
     subst ad;cases xcs with
     |nil=>
      have ao:xs=[]:=zqm af.symm;subst ao;have ho:∀d M,(∀t,M≠lz os2::t)->(ow2 d=zs M↔ow2 d=zs M):=fun _ _ _=>.rfl
      have N:=PT.new (ow':=ow2) (h':=h) J.pt (.row 0 ([]++[]) te.size) (zqt _) (fun _ _=>rfl) (fun _ _ _=>rfl) ho (fun a b t ha=>absurd ha (J.pt.noHead a t)) (fun d t B=>absurd B (J.pt.noHead d t)) (Cb _ (.inl ⟨_,_,_,rfl⟩)) (fun es sz e=>by
       cases e;exact⟨sc,.nil ai fun c t hc=>J.pt.noHead c t (by grind)⟩) (by grind) (fun es e=>by cases e)
      have hk:=H.trans (Vr J.pt (e:=.row 0 ([]++[]) te.size) ho);refine⟨sc,h,ow2,by rcases ai with rfl|rfl<;>rfl,G6.to N (fun _ hz=>⟨hz,rfl⟩) hk,hk,.mnil ai (fun L hL c hc=>?_) ag,fun b=>⟨zqt _,fun _ hz=>⟨hz,rfl⟩,fun _ hz=>.inl hz,fun _ _ _=>rfl,fun d M B _ e=>?_,⟨[],rfl,fun d B=>by cases B⟩,fun d r t B X=>?_,fun r X _=>?_,rfl,fun j V c X=>?_,fun j V X=>Q j (ak j V X)⟩⟩
      . rw[aj]at hL;cases hL
        exact J.pt.noHead c [] hc
      . have:=U.sb d M (J.sb d M B)
        grind
      . rcases U.tcr d r t B with C|C
        . exact .inl ⟨t,J.ex d r t C X⟩
        grind
      . exact zqr _ (List.mem_append_right _ X)
      . exact⟨fun h=>au j V (ak j V X) c h,fun h=>U.sb c _ (J.sb c _ h)⟩
     |cons xh xr=>
      have Y:∀d,d<h.next->(h.push (.row (xh::xr) te.size)).get d=h.get d:=fun d B=>Vg.get_push_ne h _ (by omega)
      have aa:∀i o t,i<lz ([]++xs)->o<te.size->Und (q::u) (q::u++[i,o]++t):=fun i o t _ _=>⟨[i,o]++t,by simp⟩
      have ab:∀i o t i' o' t',i<lz ([]++xs)->o<te.size->i'<lz ([]++xs)->o'<te.size->q::u++[i,o]++t=q::u++[i',o']++t'->i=i'/\o=o'/\t=t':=fun i o t i' o' t' _ _ _ _ e=>by simp at e;exact e
      have av:ow1 h.next=znq:=U.pt.next_none;have N:=PT.graft (owk:=ow2) (ow:=ow1) (c:=h.next) (ces:=xh::xr) (es:=[]++xs) (h':=h.push (.row (xh::xr) te.size)) J.pt (Gn:=Und (q::u)) (G:=fun i o=>q::u++[i,o]) az U.pt.inj (fun a M ha=>⟨(U.pt.live a M ha).1,(U.pt.live a M ha).2.1⟩) aa ab ax ay (zqx _) (fun d B=>Y d (p.zb d B)) (zqy _) (fun hz=>absurd (p.zb _ hz) (by omega)) (Vg.get_push_eq h _) (by grind) (fun d M B _=>Y d (U.pt.live d M B).1);have gs:=fun d M'=>Hn (Gn:=Und (q::u)) (G:=fun i o=>q::u++[i,o]) (ow:=ow1) (c:=h.next) (n:=lz os2) (d:=d) (M':=M') aa ab
      have hk:=H.trans N.2;refine⟨_,_,_,yT ai (by rw[af];simpa using hb),G6.to N.1 (fun d hz=>⟨hz,Y d (p.zb d hz)⟩) hk,hk,?_,fun b=>Stp.join p hx an (zqx _) (fun d B _=>Y d B) ⟨[],rfl,fun d B=>by cases B⟩ (fun d M B hl e=>?_) (fun d r t B X=>?_) (fun j V X d=>?_) Q⟩
      . have e1:(AV.msl (lz os2) 0 (lz ([]:List AV)+lz xs) te.size)=.msl (lz os2) 0 (lz (xh::xr)) te.size:=by grind
        rw[e1];exact .msl (fun L hL=>by rw[aj]at hL;cases hL;exact(gs _ _).2 (.inl ⟨rfl,rfl⟩)) ag
      . rcases(gs d M).1 B with⟨C,_⟩|⟨_,i,o,t,_,_,C,_⟩|⟨_,C,_⟩
        . omega
        . have:=U.sb _ _ C;grind
        . have:=U.sb _ _ C;grind
      . rcases U.tcr d r t B with C|C
        . refine .inl ((gs d _).2 (.inr (.inr ⟨(by grind),C,?_⟩)))
          have:=J.ex d r t C X
          grind
        grind
      . constructor
        . grind
        . intro B
          rcases(gs d _).1 B with⟨_,C⟩|⟨_,i,o,t,_,_,_,C⟩|⟨_,C,_⟩
          . grind
          . cases C
          . exact U.sb _ _ C
   . subst ad
     have hqr:q≠r:=fun e=>by
      rcases a6 with C|⟨_,C⟩
      . obtain⟨_,_,r',t',h2,h3⟩:=p.live c L ac
        rw[ba]at h2
        have:=(List.cons.inj h2).1
        have:=fj h3
        omega
      grind
     have a1:∀t,¬Und L (q::t):=fun t ⟨u,hu⟩=>by grind
     have a2:∀t,¬Und (q::u) (L++t):=fun t ⟨u,hu⟩=>by grind
     have aq:∀d M,ow2 d=zs M↔ow d=zs M/\¬(Und L M\/Und (q::u) M):=fun d M=>by
      rw[az,am];exact⟨fun⟨⟨C,h2⟩,h3⟩=>⟨C,fun h=>h.elim h2 h3⟩,fun⟨C,h2⟩=>⟨⟨C,fun h=>h2 (.inl h)⟩,fun h=>h2 (.inr h)⟩⟩
     have ae:∀a M,ow a=zs M->a<h.next/\¬Z a:=fun a M ha=>⟨(p.live a M ha).1,(p.live a M ha).2.1⟩
     have hxcr:∀(i:Nat) x y,xcs[i]?=zs x->xs[i]?=zs y->∀(o:Nat) a b,x.cells[o]?=zs a->y.cells[o]?=zs b->CR Z ow h (q::u++[i,o]) a b:=fun i x y hx hy o a b ha hb=>(ay i x y hx hy o a b ha hb).reloc (zqt _) (fun _ hz=>⟨hz,rfl⟩) (fun d t=>by
      rw[am];exact⟨fun h=>⟨h,fun hu=>a1 (u++[i,o]++t) (by simpa using hu)⟩,fun h=>h.1⟩) (fun _ _ _=>rfl)
     have a3:lz ((es.drop off).take n)=n:=by simp;omega
     have hLu:∀i o t i' o' t',L++[i,o]++t=L++[i',o']++t'->i=i'/\o=o'/\t=t':=(by simp_all)
     have a4:∀i o t,L≠L++[i,o]++t:=fun i o t e=>by have:=congrArg zqn e;simp at this
     have aw:=yV (off:=off) (n:=n) hs ax;cases xcs with
     |nil=>
      have ao:xs=[]:=zqm af.symm;subst ao;obtain⟨rfl,rfl⟩:=bb (by grind);have e1:(es.drop 0).take (lz es)++([]:List AV)=es:=by simp
      have aa:∀i o t,i<lz es->o<te.size->(fun M=>Und L M\/Und (q::u) M) (L++[i,o]++t):=fun i o t _ _=>.inl ⟨[i,o]++t,by simp⟩
      have ab:∀i o t i' o' t',i<lz es->o<te.size->i'<lz es->o'<te.size->L++[i,o]++t=L++[i',o']++t'->i=i'/\o=o'/\t=t':=(by grind)
      have N:=PT.graft (owk:=ow2) (ow:=ow) (c:=c) (ces:=ces) (es:=es) (h':=h) J.pt (Gn:=fun M=>Und L M\/Und (q::u) M) (G:=fun i o=>L++[i,o]) aq p.inj ae aa ab hs a9 (zqt _) (fun _ _=>rfl) a0 (ae c L ac).2 al (fun M hM=>by rw[ac]at hM;cases hM;exact⟨.inl (.refl _),fun i o t _ _ e=>a4 i o t e⟩) (fun _ _ _ _=>rfl);have gs:=fun d M'=>Hn (Gn:=fun M=>Und L M\/Und (q::u) M) (G:=fun i o=>L++[i,o]) (ow:=ow) (c:=c) (n:=lz os2) (d:=d) (M':=M') aa ab
      have hk:=H.trans N.2;refine⟨.msl c 0 (lz es) te.size,h,kX ow (fun M=>Und L M\/Und (q::u) M) (fun i o=>L++[i,o]) (lz es) te.size c (lz os2),rfl,?_,?_,?_,fun b=>?_⟩
      . show G6 Z _ h (os2++[.row 0 ((es.drop 0).take (lz es)++[]) te.size])
        rw[e1];exact G6.to N.1 (fun _ hz=>⟨hz,rfl⟩) hk
      . grind
      . have e2:((es.drop 0).take (lz es)).length+lz ([]:List AV)=lz es:=by simp
        rw[e2];exact .msl (by grind) ag
      . refine Stp.join p hx an (zqt _) (fun _ _ _=>rfl) ⟨[],rfl,fun d B=>by cases B⟩ (fun d M B hl e=>?_) (fun d r' t B X=>?_) (fun j V X d=>?_) Q
        . grind
        . by_cases hu:Und L (r'::t)
          . right
            obtain⟨u,hu⟩:=hu;grind
          . left
            refine(gs d _).2 (.inr (.inr ⟨fun e=>(by subst e;rw[ac]at B;cases B;exact hu (.refl _)),B,fun h=>h.elim hu fun⟨u,hu⟩=>?_⟩));grind
        . constructor
          . intro B
            have C:=au j V X d B;obtain⟨h2,h3⟩:=(aq d _).1 C;exact(gs d _).2 (.inr (.inr ⟨fun e=>(by subst e;rw[ac]at h2;cases h2;exact h3 (.inl (.refl _))),h2,h3⟩))
          grind
     |cons xh xr=>
      have Y:∀d,d<h.next->d≠c->((h.del c).push (.row ((ces.drop off).take n++(xh::xr)) te.size)).get d=h.get d:=fun d B hc=>(Vg.get_push_ne _ _ (show d≠(h.del c).next by show d≠h.next;omega)).trans (Vg.get_del_ne h fun e=>hc e.symm)
      have aa:∀i o t,i<lz ((es.drop off).take n++xs)->o<te.size->(fun M=>Und L M\/Und (q::u) M) ((fun i o=>if i<n then L++[off+i,o]else q::u++[i-n,o]) i o++t):=fun i o t _ _=>by
       show Und L ((if i<n then L++[off+i,o]else q::u++[i-n,o])++t)\/Und (q::u) ((if i<n then L++[off+i,o]else q::u++[i-n,o])++t)
       split
       . exact .inl ⟨[off+i,o]++t,by simp⟩
       . exact .inr ⟨[i-n,o]++t,by simp⟩
      have ab:∀i o t i' o' t',i<lz ((es.drop off).take n++xs)->o<te.size->i'<lz ((es.drop off).take n++xs)->o'<te.size->(fun i o=>if i<n then L++[off+i,o]else q::u++[i-n,o]) i o++t=(fun i o=>if i<n then L++[off+i,o]else q::u++[i-n,o]) i' o'++t'->i=i'/\o=o'/\t=t':=fun i o t i' o' t' _ _ _ _ e=>by
       have e:(if i<n then L++[off+i,o]else q::u++[i-n,o])++t=(if i'<n then L++[off+i',o']else q::u++[i'-n,o'])++t':=e;split at e
       . split at e
         . grind
         grind
       . split at e
         . grind
         . simp at e
           grind
      have ah:∀(i:Nat) x y,((ces.drop off).take n++(xh::xr))[i]?=zs x->((es.drop off).take n++xs)[i]?=zs y->∀(o:Nat) a b,x.cells[o]?=zs a->y.cells[o]?=zs b->CR Z ow h ((fun i o=>if i<n then L++[off+i,o]else q::u++[i-n,o]) i o) a b:=fun i x y hx hy o a b ha hb=>by
       show CR Z ow h (if i<n then L++[off+i,o]else q::u++[i-n,o]) a b
       have a5:lz ((ces.drop off).take n)=n:=by simp[hs.1];omega
       rw[zql,a5]at hx;rw[zql,a3]at hy;split
       . rename_i hi
         rw[if_pos hi,m8,if_pos hi]at hx hy;grind
       grind
      have av:ow h.next=znq:=p.next_none;have N:=PT.graft (owk:=ow2) (ow:=ow) (c:=h.next) (ces:=(ces.drop off).take n++(xh::xr)) (es:=(es.drop off).take n++xs) (h':=(h.del c).push (.row ((ces.drop off).take n++(xh::xr)) te.size)) J.pt (Gn:=fun M=>Und L M\/Und (q::u) M) (G:=fun i o=>if i<n then L++[off+i,o]else q::u++[i-n,o]) aq p.inj ae aa ab aw ah (zqx _) (fun d B=>Y d (p.zb d B) fun e=>(ae c L ac).2 (e▸B)) (zqy _) (fun hz=>absurd (p.zb _ hz) (by omega)) (Vg.get_push_eq _ _) (by grind) (fun d M B hg=>Y d (ae d M B).1 fun e=>by
       subst e;rw[ac]at B;cases B;rcases hg with C|⟨i,o,t,_,_,C⟩
       . exact C (.inl (.refl _))
       . have C:L=(if i<n then L++[off+i,o]else q::u++[i-n,o])++t:=C
         split at C
         . grind
         . exact a2 [] ⟨[i-n,o]++t,by grind⟩)
      have gs:=fun d M'=>Hn (Gn:=fun M=>Und L M\/Und (q::u) M) (G:=fun i o=>if i<n then L++[off+i,o]else q::u++[i-n,o]) (ow:=ow) (c:=h.next) (n:=lz os2) (d:=d) (M':=M') aa ab
      have hk:=H.trans N.2;refine⟨_,_,_,yU al (by rw[hs.1];exact a7) (by grind),G6.to N.1 (fun d hz=>⟨hz,Y d (p.zb d hz) fun e=>(ae c L ac).2 (e▸hz)⟩) hk,hk,?_,fun b=>Stp.join p hx an (zqx _) (by grind) ⟨[c],rfl,fun d B=>?_⟩ (fun d M B hl e=>?_) (fun d r' t B X=>?_) (fun j V X d=>?_) Q⟩
      . have e2:lz ((es.drop off).take n)+lz xs=n+lz (xh::xr):=by grind
        rw[e2];exact .msl (by grind) ag
      . grind
      . grind
      . by_cases hu:Und L (r'::t)
        . right
          obtain⟨u,hu⟩:=hu;grind
        . left
          refine(gs d _).2 (.inr (.inr ⟨(by grind),B,fun h=>h.elim hu fun⟨u,hu⟩=>?_⟩));grind
      grind
 . cases V
end
end Go.AM
