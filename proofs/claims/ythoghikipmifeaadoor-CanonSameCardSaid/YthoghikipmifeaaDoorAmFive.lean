/- The abstract machine, part five: ranges over functions, deferred calls that recover, code and calls: sound. Conditions: none. -/
import Derived.Test.YthoghikipmifeaaDoorAmFour
import Derived.RangeFuncNested
import Derived.RecoverIn
import Derived.RowKit3
import Derived.Maps.RangeWalk
import Derived.Maps.Ext
import Derived.Laws.IdiomRangeMap
import Derived.Deep.LoopGhost
import Derived.WalkKit
set_option linter.unusedVariables false
set_option linter.unusedSectionVars false
set_option linter.unusedSimpArgs false
/-
 The abstract machine: what a body yields; frames that are entered; blocks that are dK and held; what is so behind code.
set_option maxHeartbeats 4000000
-/
open Array renaming replicate→zqa,getElem?_toList→zqb
open Bool renaming and_eq_true→zqc
namespace Go.AM
section
variable {P:Program}{E:Env}{W:World}{cx:Cx}{h:Heap}
theorem mM(hE:EnvOk E P)(hs:Sat E W cx h){t:Nat}{ti:TI}(ht:E.ti t=some ti){x:Value}{a r:AV}(hx:Rep W cx x a)(hl:Ct ti a h=some r):
 ∃v p,x=.pointer (some p)/\(loadVar t p).run P W=.ok v W/\Rep W cx v r:=by
 obtain⟨v,h1,h2⟩:=Ra (P:=P) hE hs ht hx hl
 have:∃p,x=.pointer (some p):=by
  cases a with
  |fptr v off=>obtain⟨b,o,e,_⟩:=hx.fptr_inv;grind
  |ptr id i off=>obtain⟨_,e⟩:=hx.ptr_inv;grind
  |_=>cases hl
 obtain⟨p,rfl⟩:=this;exact⟨v,p,rfl,by grind[Instr.loadAt,Instr.sureAddr],h2⟩
def resVar(tmps:Array Value):ResultVar->Sem Value
 | .tmp t=>pure (tmps.getD t undef)
 | .cell a t=>do loadVar t (<-asAddr (tmps.getD a undef))
theorem Bg(hE:EnvOk E P)(hs:Sat E W cx h){tmps:Array Value}{fr:Tr}:∀(l:List ResultVar)(vs:List AV),(∀x∈l,Rep W cx (tmps.getD (Bn x) undef) (fr.get (Bn x)))->E8 E l fr h=some vs->∃us,(l.mapM (resVar tmps)).run P W=.ok us W/\RepL W cx us vs
 | [],vs,hf,hr=>by
  cases hr;exact⟨[],rfl,.nil⟩
 | x::l,vs,hf,hr=>by
  have hf':=fun y hy=>hf y (List.mem_cons_of_mem _ hy)
  have hx:=hf x (List.mem_cons_self ..);cases x with
  | tmp t =>
   have hr:A4 (E8 E l fr h) (fun vs=>some (fr.get t::vs))=some vs:=hr;obtain⟨ws,h1,h2⟩:=A0 hr;cases h2;obtain⟨us,h3,h4⟩:=Bg hE hs l ws hf' h1;exact⟨tmps.getD t undef::us,by rw[List.mapM_cons];simp[resVar,h3],.cons hx h4⟩
  | cell a t =>
   have hr:onTI E t none (fun ti=>A4 (Ct ti (fr.get a) h) fun v=>A4 (E8 E l fr h) fun vs=>some (v::vs))=some vs:=hr;obtain⟨ti,ht,hr⟩:=D7 hr;obtain⟨v,hv,hr⟩:=A0 hr;obtain⟨ws,h1,h2⟩:=A0 hr;cases h2;obtain⟨us,h3,h4⟩:=Bg hE hs l ws hf' h1;have hx:Rep W cx (tmps.getD a undef) (fr.get a):=hx;obtain⟨u,p,e,h5,h6⟩:=mM (P:=P) hE hs ht hx hv;exact⟨u::us,by rw[List.mapM_cons];simp[resVar,e,asAddr,h5,h3],.cons h6 h4⟩
theorem c8(hE:EnvOk E P)(hs:Sat E W cx h){tmps:Array Value}{fr:Tr}{fn:Func}(hf:∀x∈fn.results.toList,Rep W cx (tmps.getD (Bn x) undef) (fr.get (Bn x))){vs:List AV}(hr:E8 E fn.results.toList fr h=some vs):
 ∃v,(results fn tmps).run P W=.ok v W/\Rep W cx v (oneOrTup vs):=by
 obtain ⟨us,h1,h2⟩:=Bg (P:=P) hE hs fn.results.toList vs hf hr;have e1:(fn.results.mapM (resVar tmps)).run P W=.ok us.toArray W:=by
  rw[<-Array.toArray_toList (xs:=fn.results),List.mapM_toArray];simp[h1]
 have e2:results fn tmps=(do
  let vs <-fn.results.mapM (resVar tmps)
  pure (if h:vs.size=1 then vs[0]else .tuple vs)):=by
  unfold results
  congr 1
 refine⟨if h:us.toArray.size=1 then us.toArray[0]else .tuple us.toArray,by simp_all,?_⟩;cases us with
 | nil =>
  cases vs with
  |nil=>exact .tup #[] [] rfl (by simp)
  |cons _ _=>have:=h2.1;simp at this
 | cons u us =>
  cases vs with
  |nil=>have:=h2.1;simp at this
  | cons v vs =>
   cases us with
   | nil =>
    cases vs with
    |nil=>exact h2.2 0 _ _ rfl rfl
    |cons _ _=>have:=h2.1;simp at this
   | cons u2 us =>
    cases vs with
    |nil=>have:=h2.1;simp at this
    |cons v2 vs=>simp only[List.size_toArray,List.length_cons];rw[dif_neg (by omega)];exact Rep.tup_mk h2
theorem FrRep.set{tmps:Array Value}{fr:Tr}(hf:FrRep W cx tmps fr){i:Nat}{x:AV}(hx:Rep W cx (tmps.getD i undef) x):FrRep W cx tmps (fr.set i x) where
 rep j:=by
  by_cases e:i=j
  . subst e
    rw[Tr.get_set_eq];split
    . exact hx
    . exact .und _
  . rw[Tr.get_set_ne _ _ _ _ e];exact hf.rep j
 has j hj:=by rw[Tr.has_set]at hj;exact hf.has j hj
theorem FrRep.setAll{tmps:Array Value}:∀(l:List AV)(i:Nat)(fr:Tr),FrRep W cx tmps fr->(∀(j:Nat) x,l[j]?=some x->Rep W cx (tmps.getD (i+j) undef) x)->FrRep W cx tmps (Tr.setAll l i fr)
 |[],_,_,hf,_=>hf
 | v::l,i,fr,hf,hx=>by
  show FrRep W cx tmps (Tr.setAll l (i+1) (fr.set i v))
  exact FrRep.setAll l (i+1) _ (hf.set (hx 0 v rfl)) fun j x hj=>by
   have:=hx (j+1) x (by grind)
   grind
theorem Kq{args:Array Value}{l:List AV}(hl:RepL W cx args.toList l){n:Nat}(hn:l.length<=n):FrRep W cx (args++zqa (n-args.size) undef) (Tr.enter n l):=by
 have hsz:args.size=l.length:=by have:=hl.1;grind
 refine FrRep.setAll l 0 _ ⟨fun i=>by rw[Tr.get_mk];exact .und _,fun i hi=>?_⟩ fun j x hj=>?_
 . have:=Tr.has_mk _ _ _ hi
   simp;omega
 . obtain ⟨v,h1,h2⟩:=hl.get hj
   have hlt:j<args.size:=by grind
   have:(args++zqa (n-args.size) undef).getD (0+j) undef=v:=by
    simp_all[Array.getElem?_append_left]
   grind
def Ou(o:Obj):Prop:=∀c t f,o≠.cells c t f
theorem pW{W:World}{b:Nat}(h:∀o,W.heap[b]?=some o->Ou o):szOf W b=0:=by
 unfold szOf;cases hb:W.heap[b]? with
 |none=>rfl
 | some o =>
  cases o with
  |cells c t f=>exact absurd rfl (h _ hb c t f)
  |_=>rfl
theorem Ext0.putHeld(hs:Sat E W cx h){l:Nat}{o₀ o:Obj}(hl:cx.held l)(h0:W.heap[l]?=some o₀)(hn:Ou o₀)(ho:Ou o):Ext0 W cx (W.putObj l o) cx where
 nx:=Nat.le_refl _
 mu _ _:=rfl
 sz:=by simp
 keep b _ hb:=World.putObj_heap_other fun e=>hb (e▸(hs.held l hl).2)
 shape b hb:=by
  grind[szOf,pW,World.putObj_heap_same,World.putObj_heap_other]
 own _ _ h:=h
theorem Sat.putHeld(hs:Sat E W cx h){l:Nat}{o:Obj}(hl:cx.held l)(he:Ext0 W cx (W.putObj l o) cx):Sat E (W.putObj l o) cx h where
 nx:=hs.nx
 objs id y hy:=by
  obtain⟨h1,h2,h3,h4⟩:=hs.objs id y hy;exact⟨h1,h2,by simpa using h3,h4.mono0 he (World.putObj_heap_other fun e=>hs.free id y hy (e▸hl))⟩
 inj:=hs.inj
 gl:=hs.gl.mono0 he
 held b hb:=⟨by simpa using(hs.held b hb).1,(hs.held b hb).2⟩
 free:=hs.free
theorem Ext.putHi{W W':World}{cx cx':Cx}{l:Nat}{o:Obj}(he:Ext W cx W' cx')(hl:W.heap.size<=l)(h0:Ext0 W' cx' (W'.putObj l o) cx'):Ext W cx (W'.putObj l o) cx' where
 toExt0:=he.toExt0.trans h0
 hold b hb hh:=⟨(he.hold b hb hh).1,(World.putObj_heap_other (by omega)).trans (he.hold b hb hh).2⟩
 out:=he.out
abbrev DP:=World->Cx->Act->Prop
def CRes.End(E:Env)(r:CRes)(x:Exit)(a:Act)(w:World)(cx':Cx):Prop:=
 match r with
 | .ok e fr h=>x=qY e/\Sat E w cx' h/\FrRep w cx' a.tmps fr
 | .pan v h=>∃vv,x=.panic [{v:=vv,recovered:=false}]/\Sat E w cx' h/\Rep w cx' vv v
 | .bad=>False
def X9(E:Env)(W:World)(cx:Cx)(D:DP)(r:CRes)(x:Exit)(a:Act)(w:World):Prop:=∃cx',Ext W cx w cx'/\D w cx' a/\r.End E x a w cx'
theorem X9.trans{W W₁:World}{cx cx₁:Cx}{D:DP}(he:Ext W cx W₁ cx₁){r:CRes}{x:Exit}{a:Act}{w:World}(h:X9 E W₁ cx₁ D r x a w):X9 E W cx D r x a w:=by
 obtain⟨cx',he',h⟩:=h;exact⟨cx',he.trans he',h⟩
def Hu(D:DP):Prop:=∀W cx a W' cx',Ext W cx W' cx'->D W cx a->D W' cx' a
def Vu(D:DP)(d:Option Tmp):Prop:=∀W cx,nM (D W cx) d
theorem X9.of_post{D:DP}(hD:Hu D){r:CRes}{x:Exit}{a:Act}{w:World}(h:r.Post E W cx (fun a=>D W cx a) x a w):X9 E W cx D r x a w:=by
 obtain⟨hd,cx',he,h⟩:=h;exact⟨cx',he,hD _ _ _ _ _ he hd,h⟩
def mN(r:Nat):Deferred:={target:=.collected r,args:=#[]}
def wA(ro:Option Nat)(D:DP):Prop:=
 match ro with
 |none=>∀W cx a W' cx' r,D W cx a->Ext W cx W' cx'->W.heap.size<=r->r<W'.heap.size->cx'.held r->W'.heap[r]?=some (.deferred (some []))->D W' cx' {a with defers:=mN r::a.defers}
 |some l=>∀W cx a,D W cx a->∃rc,W.heap[l]?=some (.loop rc)
def mO(ro:Option Nat)(D:DP):Code->Prop
 | .region _ ops _=>∀(i:Nat)(o:Oper),ops[i]?=some o->Vu D o.dst
 | .seq a b=>mO ro D a/\mO ro D b
 | .cond _ a b=>mO ro D a/\mO ro D b
 | .block _ a=>mO ro D a
 | .loop a=>mO ro D a
 | .scope a=>mO ro D a
 | .rangeFunc ..=>wA ro D
 |_=>True
theorem w5{ro:Option Nat}{D:DP}(h:∀d,Vu D d)(hr:wA ro D):∀c,mO ro D c
 | .region _ ops _=>fun _ _ _=>h _
 | .seq a b=>⟨w5 h hr a,w5 h hr b⟩
 | .cond _ a b=>⟨w5 h hr a,w5 h hr b⟩
 | .block _ a=>w5 h hr a
 | .loop a=>w5 h hr a
 | .scope a=>w5 h hr a
 | .rangeFunc ..=>hr
 | .skip | .exit _ | .label _ | .goto _ | .ret | .refuse _=>trivial
theorem S4{ro:Option Nat}{D:DP}{ts:List Tmp}(h:∀d,(∀t,d=some t->t∉ts)->Vu D d):∀c,S5 ts c=true->mO ro D c
 | .region _ ops _,hc=>fun i o ho=>h _ fun t ht hm=>by
  have hc:(ops.toList.all fun o=>(match o.dst with|none=>true|some d=>!(ts.contains d)))=true:=hc;grind
 | .seq a b,hc=>by
  have hc:(S5 ts a&&S5 ts b)=true:=hc;rw[zqc]at hc;exact⟨S4 h a hc.1,S4 h b hc.2⟩
 | .cond _ a b,hc=>by
  have hc:(S5 ts a&&S5 ts b)=true:=hc;rw[zqc]at hc;exact⟨S4 h a hc.1,S4 h b hc.2⟩
 | .block _ a,hc=>S4 h a hc
 | .loop a,hc=>S4 h a hc
 | .scope a,hc=>S4 h a hc
 | .rangeFunc ..,hc=>by cases hc
 | .skip,_ | .exit _,_ | .label _,_ | .goto _,_ | .ret,_ | .refuse _,_=>trivial
theorem bY{a:Act}{d:Option Tmp}{v:Value}{i:Nat}(h:∀t,d=some t->t≠i):(a.put d v).tmps.getD i undef=a.tmps.getD i undef:=by
 cases d with
 |none=>rfl
 | some d =>
  show(a.tmps.setIfInBounds d v).getD i undef=_
  simp_all
def DE:DP:=fun _ _ a=>a.defers=[]
theorem DE.mono:Hu DE:=fun _ _ _ _ _ _ h=>h
theorem DE.stab(d:Option Tmp):Vu DE d:=fun _ _ a v h=>by show(a.put d v).defers=[];rw[Gp];exact h
def D0(n0:Nat):DP:=fun W cx a=>n0<=W.heap.size/\∃rs:List Nat,a.defers=rs.map mN/\rs.Nodup/\∀r∈rs,n0<=r/\r<W.heap.size/\cx.held r/\W.heap[r]?=some (.deferred (some []))
theorem D0.mono(n0:Nat):Hu (D0 n0):=fun W cx a W' cx' he h=>by
 obtain⟨h0,rs,h1,h2,h3⟩:=h;refine⟨Nat.le_trans h0 he.sz,rs,h1,h2,fun r hr=>?_⟩;obtain⟨h4,h5,h6,h7⟩:=h3 r hr;obtain⟨h8,h9⟩:=he.hold r h5 h6;grind
theorem D0.stab(n0:Nat)(d:Option Tmp):Vu (D0 n0) d:=fun W cx a v h=>by
 obtain⟨h0,rs,h1,h2⟩:=h;exact⟨h0,rs,by rw[Gp];exact h1,h2⟩
theorem D0.push(n0:Nat):wA none (D0 n0):=fun W cx a W' cx' r hd he hr hlt hh hb=>by
 obtain⟨h0,rs,h1,h2,h3⟩:=D0.mono n0 _ _ _ _ _ he hd;obtain⟨h0',rs',h1',_,h3'⟩:=hd
 have:∀r'∈rs,r'<W.heap.size:=fun r' hr'=>by
  have e:rs=rs':=by
   have inj:∀(l l':List Nat),l.map mN=l'.map mN->l=l':=by
    intro l
    induction l with
    |nil=>simp_all
    | cons x l ih=>intro l' e;cases l' with
     |nil=>simp at e
     |cons y l'=>grind[mN]
   grind
  grind
 refine⟨h0,r::rs,by grind,(by grind),fun r' hr'=>?_⟩;grind
theorem noDfr_iff(l:List Oper)(hn:Fk l=true):∀o∈l,Px o:=fun o ho c e=>by
 have:=List.all_eq_true.1 hn o ho
 rw[e]at this;cases this
end
end Go.AM
/-
 The abstract machine: pieces of regions; an iterator that hands elements on,walked.
-/
namespace Go.AM
theorem mP{F:Fence}{n:Nat}{P:Program}{o:Oper}{a:Act}{w:World}{K K':Act->World->Prop}{Q Q':Exit->Act->World->Prop}(hk:∀a w,K a w->K' a w)(hq:∀c a w,Q (.panic c) a w->Q' (.panic c) a w)(hq':∀a w,Q .outgrown a w->Q' .outgrown a w)
 (h:o.wpIn F n P a w K Q):o.wpIn F n P a w K' Q':=by
 refine⟨h.1,?_⟩;have h:=h.2;generalize (o.semAt F.round a.eval).run P w=r at h|-;cases r with
 | ok x w' =>
  cases x with
  |value v=>exact hk _ _ h
  |skip=>exact hk _ _ h
  |defer d=>exact hk _ _ h
  | enter f args =>
   exact ⟨h.1,h.2.mono fun e w' hp=>by
    cases e with
    |returned v=>grind
    |panicked c=>grind
    |outgrown=>obtain⟨a0,w0,h0⟩:=hp;exact⟨a0,w0,hq' _ _ h0⟩⟩
  |row r args=>exact⟨h.1,h.2.mono fun v w' hp=>hk _ _ hp⟩
  | round l f tmps as bo =>
   exact ⟨h.1,h.2.mono fun e w' hp=>by
    cases e with
    |returned v=>grind
    |panicked c=>grind
    |outgrown=>obtain⟨a0,w0,h0⟩:=hp;exact⟨a0,w0,hq' _ _ h0⟩⟩
  |_=>exact h.elim
 |halt x w'=>cases x<;>first|exact hq _ _ _ h|exact h.elim
def Kr(E:Env)(P:Program)(ih:E1):Prop:=
 ∀ (S:Act->Prop) (ops:Array Oper) (l:List Oper) (Q:Exit->Act->World->Prop) (W:World) (cx:Cx) (a:Act) (fr:Tr) (h:Heap),
   (∀ o∈l,nM S o.dst)->FrRep W cx a.tmps fr->S a->Sat E W cx h->ih (O5 ops.toList l) fr h≠.bad ->
     (∀o∈l,Px o)/\((∀x a' w',(ih (O5 ops.toList l) fr h).Post E W cx S x a' w'->Q x a' w')->wpList P ops Q l a W)
def m7(E:Env)(P:Program)(ih:E1):Prop:=
 ∀ (ro:Option Nat) (D:DP) (c:Code) (W:World) (cx:Cx) (a:Act) (fr:Tr) (h:Heap),Hu D->mO ro D c->FrRep W cx a.tmps fr->D W cx a->Sat E W cx h->ih (xc c) fr h≠.bad ->
   c.wpIn (WF ro) 0 P (X9 E W cx D (ih (xc c) fr h)) a W
section
variable {P:Program}{E:Env}{ih:E1}
theorem isNone_none{α:Type}{o:Option α}(h:isNone o=true):o=none:=by cases o;rfl;cases h
section
variable {W0 W W':World}{cx0 cx cx':Cx}{ro:Option Nat}{l:Nat}{st st':Loop}{h:Heap}
end
section
variable {W0:World}{cx0:Cx}{ro:Option Nat}{l nt:Nat}{mk:LoopState->Option Code->Loop}{Y:List AV->Heap->CRes}
end
end
end Go.AM
/-
 The abstract machine: a range over a function,walked.
-/
namespace Go.AM
section
variable {P:Program}{E:Env}{ih:E1}
theorem orM_itf{x:Option FM}{y:FM}{m:FM}(h:MB x y=m):x=some m\/(x=none/\y=m):=by
 cases x with
 |none=>exact .inr ⟨rfl,h⟩
 |some z=>cases h;exact .inl rfl
theorem Mk{c:Code}{m:FM}(h:Qh c=some m):∃id o o' rest d d2 ops,c=.seq (.region id ops false) rest/\ops.toList=[o,o']/\isRc o=some d/\isAs d o'=some d2/\S5 [] rest=true/\m=.rcv d d2 (xc rest):=by
 unfold Qh at h;grind
theorem Ml{rs:List ResultVar}{x:DfC}{m:FM}(h:Qg rs x=some m):∃o r g,x.ops.toList.reverse=o::r/\isDf o=some g/\kH [] r.reverse=true/\x.pre.all (S5 [])=true/\S5 (rs.map Bn) x.rest=true/\m=.dfr (x.pre.map xc++[O5 x.ops.toList r.reverse]) g (xc x.rest):=by
 unfold Qg at h;grind
theorem fmOf_cases{rs:List ResultVar}{c:Code}{m:FM}(h:fmOf rs c=m):
 (Mq rs=true/\Qh c=some m)\/(∃x,parseD c=some x/\Qg rs x=some m)\/(∃x,parseI c=some x/\Mq rs=true/\m=.itf x)\/m=.plain:=by
 unfold fmOf at h;rcases orM_itf h with h|⟨_,h⟩
 . grind
 . rcases orM_itf h with h|⟨_,h⟩
   . grind
   . rcases orM_itf h with h|⟨_,h⟩
     . grind
     grind
theorem Yd {f : FuncId} {fn : Func} {c : Code} (h1 : P.funcs[f]? = some fn) (h2 : fn.body = some c) (h3 : (fn.name == "runtime.NumGoroutine") = false) (args : Array Value) (w : World) : (callFunc f args).run P w = .ok (.enter f args) w := by
 simp_all[callFunc]
theorem pX{W:World}{cx:Cx}{v:Value}{f:Nat}{caps:List AV}(h:Rep W cx v (.fn (.func f) [] caps)):∃ws,v=.func (.func f) #[] ws/\RepL W cx ws.toList caps:=by
 cases h with
 | fn f vs ws cs ds hl hl' h h' =>
  have:vs=#[]:=(by grind)
  subst this;exact⟨ws,rfl,⟨by grind,(by grind)⟩⟩
theorem bZ{l:List AV}(h:Qe l=true):l=[]:=by cases l;rfl;cases h
theorem Pu{l:List ResultVar}(h:Mq l=true):l=[]:=by cases l;rfl;cases h
theorem mQ(hE:EnvOk E P)(hc:m7 E P ih)(hl:Kr E P ih){ro:Option Nat}{D:DP}{g:Operand}{ps:Array Tmp}{ca cb:Code}{W:World}{cx:Cx}{a:Act}{fr:Tr}{h:Heap}(hD:Hu D)(hst:wA ro D)(hf:FrRep W cx a.tmps fr)(hd:D W cx a)(hs:Sat E W cx h)
 (hb:BH E ih ps.toList (xc ca) (xc cb) fr h (opv E g fr)≠.bad):(Code.rangeFunc g ps ca cb).wpIn (WF ro) 0 P (X9 E W cx D (BH E ih ps.toList (xc ca) (xc cb) fr h (opv E g fr))) a W:=absurd rfl hb
end
end Go.AM
/-
 The abstract machine: functions that defer a call which recovers; calls; code.
-/
namespace Go.AM
section
variable {P:Program}{E:Env}
theorem Vv{E:Env}{rs:List ResultVar}{fr:Tr}{h:Heap}(hb:Ig (E8 E rs fr h) h≠.bad):∃vs,E8 E rs fr h=some vs/\Ig (E8 E rs fr h) h=.ok (oneOrTup vs) h:=by
 cases hr:E8 E rs fr h with
 |none=>rw[hr]at hb;exact absurd rfl hb
 |some vs=>exact⟨vs,rfl,rfl⟩
theorem Cl{cx:Cx}{fn:Func}{tmps:Array Value}{R:Ending->World->Prop}{J:World->Prop}{n0:Nat}{u:FrameMode}(hu:u≠.run)
 (hJ:∀W r,J W->n0<=r->cx.held r->W.heap[r]?=some (.deferred (some []))->J (W.putObj r (.deferred none)))
 (hend:∀W,J W->LeavesInM (WF none) 0 P fn tmps R [] u W):∀(rs:List Nat)(W:World),rs.Nodup->(∀r∈rs,n0<=r/\cx.held r/\W.heap[r]?=some (.deferred (some [])))->J W->LeavesInM (WF none) 0 P fn tmps R (rs.map mN) u W
 |[],W,_,_,hj=>hend W hj
 | r::rs,W,hn,hr,hj=>by
  obtain⟨h1,h2,h3⟩:=hr r (List.mem_cons_self ..);obtain⟨hnr,hn⟩:=List.nodup_cons.1 hn;refine⟨hu,.inl ⟨r,_,rfl,run_takeDeferred h3,?_⟩⟩;refine Cl hu hJ hend rs _ hn (fun r' hr'=>?_) (hJ W r hj h1 h2 h3);grind[World.putObj_heap_other]
theorem wB{x:Option (List Deferred)}:Ou (.deferred x):=fun _ _ _ e=>by cases e
theorem Pv(hE:EnvOk E P){ih:E1}(hc:m7 E P ih){f:Nat}{fn:Func}{c:Code}(h1:P.funcs[f]?=some fn)(h2:fn.body=some c){args:Array Value}{l:List AV}{W:World}{cx:Cx}{h:Heap}(hl:RepL W cx args.toList l)(hn:l.length<=fn.ntmps)(hs:Sat E W cx h)
 (hb:H7 E fn.results.toList (ih (xc c) (Tr.enter fn.ntmps l) h)≠.bad):Calls P f args W ((H7 E fn.results.toList (ih (xc c) (Tr.enter fn.ntmps l) h)).Post E W cx):=by
 have hfr:=Kq hl hn;have hb1:ih (xc c) (Tr.enter fn.ntmps l) h≠.bad:=fun e=>by rw[e]at hb;exact hb rfl
 refine Yf.1 (callsIn_of_wp_marks (F:=WF none) (n:=0) h1 h2 trivial (wpIn_mono (hc none (D0 W.heap.size) c W cx ⟨_,[]⟩ _ h (D0.mono _) (w5 (D0.stab _) (D0.push _) c) hfr ⟨Nat.le_refl _,[],rfl,List.nodup_nil,by simp⟩ hs hb1) fun x a w hp=>?_) rfl);obtain⟨cx',he,⟨h0,rs,hrs,hnd,hmk⟩,hp⟩:=hp;have hmk':∀r∈rs,W.heap.size<=r/\cx'.held r/\w.heap[r]?=some (.deferred (some [])):=(by grind)
 generalize ih (xc c) (Tr.enter fn.ntmps l) h=r at *;cases r with
 |bad=>grind
 | pan v h' =>
  obtain⟨vv,rfl,h7,h8⟩:=hp;show LeavesInM (WF none) 0 P fn a.tmps _ a.defers (.panicking _) w
  rw[hrs];refine Cl (J:=fun w=>Ext W cx w cx'/\Sat E w cx' h'/\Rep w cx' vv v) (fun e=>by cases e) (fun w r hj hr1 hr2 hr3=>?_) (fun w hj=>?_) rs w hnd hmk' ⟨he,h7,h8⟩
  . have e0:=Ext0.putHeld (o:=.deferred none) hj.2.1 hr2 hr3 wB wB
    exact⟨hj.1.putHi hr1 e0,hj.2.1.putHeld hr2 e0,hj.2.2.mono0 e0⟩
  . exact⟨cx',vv,rfl,hj.1,hj.2.1,hj.2.2⟩
 | ok e fr h' =>
  obtain ⟨rfl,h7,h8⟩:=hp;have key:Ig (E8 E fn.results.toList fr h') h'≠.bad->LeavesInM (WF none) 0 P fn a.tmps ((Ig (E8 E fn.results.toList fr h') h').Post E W cx) a.defers .returning w:=by
   intro hb;obtain⟨vs,hr,hr'⟩:=Vv hb;rw[hrs,hr'];refine Cl (J:=fun w=>Ext W cx w cx'/\Sat E w cx' h'/\FrRep w cx' a.tmps fr) (fun e=>by cases e) (fun w r hj hr1 hr2 hr3=>?_) (fun w hj=>?_) rs w hnd hmk' ⟨he,h7,h8⟩
   . have e0:=Ext0.putHeld (o:=.deferred none) hj.2.1 hr2 hr3 wB wB
     exact⟨hj.1.putHi hr1 e0,hj.2.1.putHeld hr2 e0,hj.2.2.mono0 e0⟩
   . obtain⟨v,h9,h10⟩:=c8 (P:=P) hE hj.2.1 (fun x _=>hj.2.2.rep _) hr
     exact⟨v,h9,cx',hj.1,hj.2.1,h10⟩
  cases e with
  |exit i=>exact absurd rfl hb
  |normal=>exact key hb
  |ret=>exact key hb
theorem mR(hE:EnvOk E P){f:Nat}(ht:E.told f=true){args:Array Value}{l:List AV}{W:World}{cx:Cx}{h:Heap}(hl:RepL W cx args.toList l)(hs:Sat E W cx h)(hb:toldA l h≠.bad):
 (∃ fn c, P.funcs[f]? = some fn ∧ fn.body = some c ∧ (fn.name == "runtime.NumGoroutine") = false) ∧ Calls P f args W ((toldA l h).Post E W cx) := by
 obtain⟨g,fn,c,hg,h1,h2,h3,h4⟩:=hE.told f ht;refine⟨⟨fn,c,h1,h2,h3⟩,?_⟩;obtain⟨⟨m,hm⟩,_,_⟩:=hs.gl.int g hg;cases l with
 |nil=>exact absurd rfl hb
 | cons x r =>
  cases r with
  |nil=>exact absurd rfl hb
  | cons y r =>
   have e:toldA (x::y::r) h=bif Qe r then x.onStr .bad (fun s=>y.onStr .bad fun p=>bif Nat.ble (j1 s) 4000000000||oneB p then(match contS p s with|true=>.ok (.bool true) h|false=>.ok (.bool false) h)else .bad)else .bad:=rfl;rw[e]at hb|-;cases hn:Qe r with
   |false=>grind
   | true =>
    rw[hn]at hb
    have:=bZ hn
    subst this;simp only[cond_true]at hb|-;cases x with
    | str s =>
     cases y with
     | str p =>
      have hb:(bif Nat.ble (j1 s) 4000000000||oneB p then(match contS p s with|true=>Res.ok (.bool true) h|false=>.ok (.bool false) h)else .bad)≠.bad:=hb;show Calls P f args W ((bif Nat.ble (j1 s) 4000000000||oneB p then(match contS p s with|true=>Res.ok (.bool true) h|false=>.ok (.bool false) h)else .bad).Post E W cx)
      cases hle:(Nat.ble (j1 s) 4000000000||oneB p)with
      |false=>grind
      | true =>
       have hle:s.length<=4000000000\/p.length=1:=by
        rcases Bool.or_eq_true_iff.1 hle with h1|h1
        . simp_all[k9]
        . cases p with
          |nil=>cases h1
          | cons a q=>cases q with
           |nil=>grind
           |cons b q=>cases h1
       obtain ⟨v1,hv1,hr1⟩:=hl.get (i:=0) rfl;obtain⟨v2,hv2,hr2⟩:=hl.get (i:=1) rfl;obtain⟨s',rfl,hs'⟩:=hr1.str_inv;obtain⟨p',rfl,hp'⟩:=hr2.str_inv;have hargs:args=#[.string s',.string p']:=by
        have hlen:args.size=2:=by have:=hl.1;grind
        grind
       subst hargs;have hsz:s'.size<4294967281\/p'.size=1:=by
        rcases hle with hle|hle
        . have:s'.size=s'.data.toList.length:=by simp
          grind
        . have:p'.size=p'.data.toList.length:=by simp
          grind
       refine(h4 s' p' m W hsz hm).mono fun en w' he=>?_
       obtain⟨rfl,rfl⟩:=he;simp only[cond_true];rw[hs',hp'];cases contS p s with
       |true=>exact⟨cx,Ext.refl _ _,hs,.bool _⟩
       |false=>exact⟨cx,Ext.refl _ _,hs,.bool _⟩
     |_=>exact absurd rfl hb
    |_=>exact absurd rfl hb
theorem Cm{o:Oper}{f:Nat->Option Bool}(h:o.guard=none):Region.wanted o f=true:=by unfold Region.wanted;rw[h]
theorem mS{o:Oper}{d:Tmp}(h:isRc o=some d):∃as tys,o.op=.call ⟨.builtin .recover,as,tys⟩/\as.toList=[]/\o.guard=none/\o.dst=some d:=by
 obtain⟨dst,op,type,pos,after,guard⟩:=o;unfold isRc at h;cases op with
 | call c =>
  obtain⟨callee,as,tys⟩:=c;cases callee with
  | builtin b =>
   cases b with
   | recover =>
    replace h:(bif isNone guard&&(match as.toList with|[]=>true|_=>false)then dst else none)=some d:=h
    cases hc:(isNone guard&&(match as.toList with|[]=>true|_=>false))with
    |false=>grind
    | true =>
     rw[hc]at h;rw[zqc]at hc;refine⟨as,tys,rfl,?_,isNone_none hc.1,h⟩;grind
   |_=>cases h
  |_=>cases h
 |_=>cases h
theorem mT{o:Oper}{d d2:Tmp}(h:isAs d o=some d2):o.op=.assign (.tmp d)/\o.guard=none/\o.dst=some d2:=by
 obtain⟨dst,op,type,pos,after,guard⟩:=o;unfold isAs at h;cases op with
 | assign x =>
  cases x with
  | tmp t =>
   replace h:(bif Nat.beq t d&&isNone guard then dst else none)=some d2:=h
   cases hc:(Nat.beq t d&&isNone guard)with
   |false=>grind
   | true =>
    rw[hc]at h;rw[zqc]at hc;obtain⟨hc1,hc2⟩:=hc
    have:=D2 hc1
    subst this;exact⟨rfl,isNone_none hc2,h⟩
  |_=>cases h
 |_=>cases h
theorem mU{o:Oper}{g:Operand}(h:isDf o=some g):∃as tys,o.op=.defer ⟨.value g,as,tys⟩/\as.toList=[]/\o.guard=none/\o.dst=none:=by
 obtain⟨dst,op,type,pos,after,guard⟩:=o;unfold isDf at h;cases op with
 | defer c =>
  obtain⟨callee,as,tys⟩:=c;cases callee with
  | value x =>
   replace h:(bif isNone guard&&isNone dst&&(match as.toList with|[]=>true|_=>false)then some x else none)=some g:=h
   cases hc:(isNone guard&&isNone dst&&(match as.toList with|[]=>true|_=>false))with
   |false=>grind
   | true =>
    rw[hc]at h;cases h;rw[zqc,zqc]at hc;refine⟨as,tys,rfl,?_,isNone_none hc.1.1,isNone_none hc.1.2⟩;grind
  |_=>cases h
 |_=>cases h
inductive Mode:FrameMode->FrameMode->Value->Prop
 |ret:Mode .returning .returning .nilIface
 |pan (v:Value):Mode (.panicking [{v:=v,recovered:=false}]) (.panicking [{v:=v,recovered:=true}]) v
theorem Mode.settle{u u':FrameMode}{v:Value}(h:Mode u u' v):Go.settle u'=.returning:=by
 cases h with
 |ret=>rfl
 |pan v=>simp[Go.settle]
theorem cA{ih:E1}{x p:AV}{h h':Heap}{v:AV}(hr:Ce E ih x p h=.ok v h'):∃f caps fi d d2 rest e fr',x=.fn (.func f) [] caps/\E.fn f=some fi/\caps.length<=fi.ntmps/\fi.results=[]/\fi.mode=.rcv d d2 rest/\d<fi.ntmps/\(e=.normal\/e=.ret)/\
 ih rest (((Tr.enter fi.ntmps caps).set d p).set d2 p) h=.ok e fr' h':=by
 cases x with
 | fn f first caps =>
  cases f with
  | func n =>
   have hr:(bif Qe first then Qd E ih n caps p h else .bad)=.ok v h':=hr;cases hn:Qe first with
   |false=>grind
   | true =>
    rw[hn]at hr
    have:=bZ hn
    subst this;have hr:Qd E ih n caps p h=.ok v h':=hr;unfold Qd at hr;cases hf:E.fn n with
    |none=>grind
    | some fi =>
     rw[hf]at hr;dsimp only at hr;cases hc:(Nat.ble (lenL caps) fi.ntmps&&Mq fi.results)with
     |false=>grind
     | true =>
      rw[hc]at hr;rw[zqc]at hc;have h1:=C0 hc.1;rw[A5]at h1;cases hm:fi.mode with
      | rcv d d2 rest =>
       rw[hm]at hr;have hr:(bif Nat.blt d fi.ntmps then rcvEnd (ih rest (((Tr.enter fi.ntmps caps).set d p).set d2 p) h)else .bad)=.ok v h':=hr;cases hlt:Nat.blt d fi.ntmps with
       |false=>grind
       |true =>
       rw[hlt]at hr;simp only[cond_true]at hr;cases hq:ih rest (((Tr.enter fi.ntmps caps).set d p).set d2 p) h with
       |bad=>rw[hq]at hr;cases hr
       |pan v hh=>rw[hq]at hr;cases hr
       | ok e fr1 h1' =>
        rw[hq]at hr;cases e with
        |exit i=>cases hr
        |normal=>cases hr;exact⟨n,caps,fi,d,d2,rest,_,fr1,rfl,hf,h1,Pu hc.2,hm,I8 hlt,.inl rfl,hq⟩
        |ret=>cases hr;exact⟨n,caps,fi,d,d2,rest,_,fr1,rfl,hf,h1,Pu hc.2,hm,I8 hlt,.inr rfl,hq⟩
      |_=>rw[hm]at hr;cases hr
  |_=>cases hr
 |_=>cases hr
theorem pY(hE:EnvOk E P){ih:E1}(hc:m7 E P ih){f:Nat}{caps:List AV}{fi:FI}{d d2:Tmp}{rest:XC}{e:Ex}{fr':Tr}{h h':Heap}{p:AV}{pv:Value}{u u':FrameMode}(hu:Mode u u' pv)(hfi:E.fn f=some fi)(hle:caps.length<=fi.ntmps)(hres:fi.results=[])(hm:fi.mode=.rcv d d2 rest)(hdl:d<fi.ntmps)(he:e=.normal\/e=.ret)
 (hr:ih rest (((Tr.enter fi.ntmps caps).set d p).set d2 p) h=.ok e fr' h'){ws:Array Value}{W:World}{cx:Cx}(hws:RepL W cx ws.toList caps)(hp:Rep W cx pv p)(hs:Sat E W cx h):
 CallsDIn (WF none) 0 P f ws u W fun en u1 w=>u1=u'/\∃v,en=.returned v/\∃cx',Ext W cx w cx'/\Sat E w cx' h':=by
 obtain ⟨fn,c,h1,h2,h3,h4,h5,h6,h7⟩:=hE.fn f fi hfi;rw[hres]at h6;rw[hm]at h7;have⟨hx1,hx2⟩:Mq fn.results.toList=true/\Qh c=some (.rcv d d2 rest):=by
  grind[fmOf_cases,Ml]
 obtain⟨id,o,o',rest',d',d2',ops,hcode,hops,ho,ho',hcalm,hrr⟩:=Mk hx2;cases hrr;obtain⟨as,tys,r1,r2,r3,r4⟩:=mS ho;obtain⟨s1,s2,s3⟩:=mT ho';have hfr:=Kq hws hle;rw[h5]at hfr hr;refine callsDIn_of_wpSIn h1 h2 trivial fun c₀ cs hmode=>?_
 rw[hcode];refine wpSIn_seq (wpSIn_region ?_);have hsz:ops.size=2:=by have:=congrArg List.length hops;grind
 have hg0:ops[0]?=some o:=by rw[<-zqb,hops];rfl
 have hg1:ops[1]?=some o':=by rw[<-zqb,hops];rfl
 rw[hsz];show wpOpsSIn (WF none) 0 P ops _ [0,1] _ _ _
 have run1:∀(a:Act) w,(execOp a.eval o).run P w=.ok .recover w:=fun a w=>by
  simp_all[execOp,resolve,invoke,builtin]
 have run2:∀(a:Act) w,(execOp a.eval o').run P w=.ok (.value (a.tmps.getD d undef)) w:=fun a w=>by
  have:a.eval (.tmp d)=a.tmps.getD d undef:=rfl
  simp[execOp,s1,this]
 have key:∀(cs':List Frame),cs'={c₀ with mode:=u'}::cs ->
  (rest'.wpSIn (WF none) 0 P (bodyPostS P fn c₀ cs fun en u1 w=>u1=u'/\∃v,en=.returned v/\∃cx',Ext W cx w cx'/\Sat E w cx' h') (((⟨ws++zqa (fn.ntmps-ws.size) undef,[]⟩:Act).put (some d) pv).put (some d2) (((⟨ws++zqa (fn.ntmps-ws.size) undef,[]⟩:Act).put (some d) pv).tmps.getD d undef)) cs' W):=by
  intro cs' hcs';subst hcs';have hf1:FrRep W cx ((⟨ws++zqa (fn.ntmps-ws.size) undef,[]⟩:Act).put (some d) pv).tmps ((Tr.enter fn.ntmps caps).set d p):=hfr.put (a:=⟨_,[]⟩) (some d) hp;have hd:Rep W cx (((⟨ws++zqa (fn.ntmps-ws.size) undef,[]⟩:Act).put (some d) pv).tmps.getD d undef) (((Tr.enter fn.ntmps caps).set d p).get d):=hf1.rep d;have hf2:FrRep W cx (((⟨ws++zqa (fn.ntmps-ws.size) undef,[]⟩:Act).put (some d) pv).put (some d2) (((⟨ws++zqa (fn.ntmps-ws.size) undef,[]⟩:Act).put (some d) pv).tmps.getD d undef)).tmps (((Tr.enter fn.ntmps caps).set d p).set d2 p):=by
   have hlt:d<(ws++zqa (fn.ntmps-ws.size) undef).size:=by
    grind
   have:((⟨ws++zqa (fn.ntmps-ws.size) undef,[]⟩:Act).put (some d) pv).tmps.getD d undef=pv:=by
    show((ws++zqa (fn.ntmps-ws.size) undef).setIfInBounds d pv).getD d undef=pv
    simp_all
   rw[this];exact hf1.put (some d2) hp
  refine wpSIn_of_wpIn rfl (wpIn_mono (hc none DE rest' W cx _ _ h DE.mono (S4 (fun d _=>DE.stab d) rest' hcalm) hf2 rfl hs (by grind)) fun x a w hq=>?_);rw[hr]at hq;obtain⟨cx',hex,hd',rfl,hs',_⟩:=hq;have hresults:∃v,(results fn a.tmps).run P w=.ok v w:=by
   obtain⟨v,hv,_⟩:=c8 (P:=P) (fr:=.nil) (tmps:=a.tmps) (fn:=fn) (vs:=[]) hE hs' (by grind) (by rw[<-h6];rfl);grind
  obtain⟨v,hv⟩:=hresults;rcases he with rfl|rfl
  . exact⟨hd',u',rfl,v,hv,rfl,v,rfl,cx',hex,hs'⟩
  . exact⟨hd',u',rfl,v,hv,rfl,v,rfl,cx',hex,hs'⟩
 unfold wpOpsSIn;rw[hg0];refine⟨fun _ _=>trivial,?_⟩;rw[if_pos (Cm r3),run1,r4];dsimp only;have second:∀(cs':List Frame),cs'={c₀ with mode:=u'}::cs->wpOpsSIn (WF none) 0 P ops (Exit.thenS (rest'.wpSIn (WF none) 0 P (bodyPostS P fn c₀ cs fun en u1 w=>u1=u'/\∃v,en=.returned v/\∃cx',Ext W cx w cx'/\Sat E w cx' h')) (bodyPostS P fn c₀ cs fun en u1 w=>u1=u'/\∃v,en=.returned v/\∃cx',Ext W cx w cx'/\Sat E w cx' h')) [1] ((⟨ws++zqa (fn.ntmps-ws.size) undef,[]⟩:Act).put (some d) pv) cs' W:=by
  intro cs' hcs';unfold wpOpsSIn;rw[hg1];refine⟨fun _ _=>trivial,?_⟩;rw[if_pos (Cm s2),run2,s3];exact key cs' hcs'
 cases hu with
 | ret =>
  have hrec:recoverD (c₀::cs)=none:=by simp[recoverD,hmode]
  rw[hrec];exact second _ (by rw[<-hmode])
 | pan v =>
  have hrec:recoverD (c₀::cs)=some (pv,{c₀ with mode:=.panicking [{v:=pv,recovered:=true}]}::cs):=by simp[recoverD,hmode]
  grind
end
end Go.AM
/-
 The abstract machine: maps.DeleteFunc,told of: its predicate is called at each entry,in whatever order.
-/
namespace Go.AM
section
variable {P:Program}{E:Env}
theorem pZ(hE:EnvOk E P){ih:E1}(hc:m7 E P ih)(hpr:∀(c:XC)(fr:Tr)(h h':Heap),CRes.heap (ih c fr h)=some h'->Pres h h'){f:Nat}{ks:List Nat}(hd:E.dlf f=some ks){args:Array Value}{l:List AV}{W:World}{cx:Cx}{h:Heap}
 (hl:RepL W cx args.toList l)(hs:Sat E W cx h)(hb:gO E ih ks l h≠.bad):Ik P f/\Calls P f args W ((gO E ih ks l h).Post E W cx):=absurd rfl hb
end
end Go.AM
/-
 The abstract machine: slices.Sorted at a map's keys,told of.
-/
namespace Go.AM
section
variable {P:Program}{E:Env}
theorem qA(hE:EnvOk E P){f:Nat}{args:Array Value}{l:List AV}{W:World}{cx:Cx}{h:Heap}{r:Res}
 (hl:RepL W cx args.toList l)(hs:Sat E W cx h)(hr:srtA E f l h=some r)(hb:r≠.bad):Ik P f/\Calls P f args W (r.Post E W cx):=by cases hr
end
end Go.AM
/-
 The abstract machine: maps.DeleteFunc: its loop,step by step,over whatever is kept.
-/
namespace Go.AM
open Go.Maps (Keyed)
section
variable {P:Program}{W:World}{b clock:Nat}{ents:Array MapEntry}{J:World->Prop}{K K':MapEntry->Prop}{seen:Array Nat}{n:Nat}{wr:World}{pd:MapEntry->Bool}
variable {ops:Array Oper}{rest:List Oper}{o:Oper}{a:Act}{Q:Exit->Act->World->Prop}
end
end Go.AM
/-
 The abstract machine: a range over a map in the code: whichever entry comes next,it comes to the same.
-/
namespace Go.AM
section
variable {P:Program}{E:Env}{ih:E1}
end
end Go.AM
/-
 The abstract machine: a range over a map in the code: what stands there,and that it is sound.
-/
namespace Go.AM
section
variable {P:Program}{E:Env}{ih:E1}
theorem BB{a b:Code}(h:rngC a b=none):xc (.seq a b)=.seq (xc a) (xc b):=by
 show(match rngC a b with|some R=>XC.rngm R (xc b)|none=>.seq (xc a) (xc b))=_
 rw[h]
theorem BC{a b:Code}{R:RngD}(h:rngC a b=some R):xc (.seq a b)=.rngm R (xc b):=by
 show(match rngC a b with|some R=>XC.rngm R (xc b)|none=>.seq (xc a) (xc b))=_
 rw[h]
end
end Go.AM
/-
 The abstract machine: a range over a map in the code is sound.
-/
namespace Go.AM
section
variable {P:Program}{E:Env}{ih:E1}{ops:Array Oper}{rest:List Oper}{o:Oper}{a:Act}{w:World}{Q:Exit->Act->World->Prop}
theorem mV(hE:EnvOk E P)(hc:m7 E P ih)(hpr:∀(c:XC)(fr:Tr)(h h':Heap),CRes.heap (ih c fr h)=some h'->Pres h h'){ro:Option Nat}{D:DP}(hD:Hu D){ca cb:Code}{R:RngD}(hR:rngC ca cb=some R)
 (hst:mO ro D (.seq ca cb)){W:World}{cx:Cx}{a:Act}{fr:Tr}{h:Heap}(hf:FrRep W cx a.tmps fr)(hd:D W cx a)(hs:Sat E W cx h)(hb:Wb E ih R (xc cb) fr h≠.bad):
 (Code.seq ca cb).wpIn (WF ro) 0 P (X9 E W cx D (Wb E ih R (xc cb) fr h)) a W:=absurd rfl hb
end
end Go.AM
/-
 The abstract machine: calls and code.
-/
namespace Go.AM
theorem m8{F:Fence}{n:Nat}{P:Program}{ops:Array Oper}{Q:Exit->Act->World->Prop}{rest:List Oper}:∀(l:List Oper)(a:Act)(w:World),
 wpListIn F n P ops (Exit.then (wpListIn F n P ops Q rest) (fun e a w=>(∃c,e=.panic c)/\Q e a w)) l a w->wpListIn F n P ops Q (l++rest) a w
 |[],a,w,h=>h
 | o :: l,a,w,h=>by
  unfold wpListIn at h;show wpListIn F n P ops Q (o::(l++rest)) a w
  unfold wpListIn;split
  . rename_i hw
    rw[if_pos hw]at h;exact mP (fun a w h=>m8 l a w h) (fun c a w hq=>hq.2) (fun a w hq=>by obtain⟨⟨c,e⟩,_⟩:=hq;cases e) h
  . rename_i hw
    rw[if_neg hw]at h;exact⟨h.1,m8 l _ w h.2⟩
section
variable {P:Program}{E:Env}
theorem Mm:∀(c:Code)(x:DfC),parseD c=some x->c=x.code
 | .seq a b,x,h=>by
  have go:∀(a:Code),(parseD b).map (fun x=>(⟨a::x.pre,x.id,x.ops,x.rest⟩:DfC))=some x->Code.seq a b=x.code:=fun a h=>by
   cases hb:parseD b with
   |none=>grind
   | some y =>
    rw[hb]at h;cases h;show Code.seq a b=.seq a (y.code)
    rw[<-Mm b y hb]
  cases a with
  | region id ops draw =>
   cases draw with
   |true=>exact go _ h
   | false =>
    have h:(bif gP ops.toList then some ⟨[],id,ops,b⟩else(parseD b).map fun x=>⟨.region id ops false::x.pre,x.id,x.ops,x.rest⟩)=some x:=h;cases hh:gP ops.toList with
    |true=>rw[hh]at h;cases h;rfl
    |false=>grind
  |_=>exact go _ h
 | .skip,_,h | .region ..,_,h | .cond ..,_,h | .block ..,_,h | .loop ..,_,h | .scope ..,_,h | .rangeFunc ..,_,h | .label ..,_,h | .goto ..,_,h | .exit ..,_,h | .ret,_,h | .refuse ..,_,h=>by cases h
theorem Gd{rs:List ResultVar}{fr:Tr}{r:Res}(hb:Y5 E rs fr r≠.bad):∃v h vs,r=.ok v h/\E8 E rs fr h=some vs/\Y5 E rs fr r=.ok (oneOrTup vs) h:=by
 cases r with
 |ok v h=>obtain⟨vs,h1,h2⟩:=Vv hb;exact⟨v,h,vs,rfl,h1,h2⟩
 |_=>exact absurd rfl hb
theorem dfrEnd_inv{ih:E1}{x:AV}{rs:List ResultVar}{fr:Tr}{r:CRes}(hb:H8 E ih x rs fr r≠.bad):
 (∃e fr2 h2 v h3 vs,r=.ok e fr2 h2/\(e=.normal\/e=.ret)/\Ce E ih x .niliface h2=.ok v h3/\E8 E rs fr2 h3=some vs/\H8 E ih x rs fr r=.ok (oneOrTup vs) h3)\/
 (∃p h2 v h3 vs,r=.pan p h2/\Ce E ih x p h2=.ok v h3/\E8 E rs fr h3=some vs/\H8 E ih x rs fr r=.ok (oneOrTup vs) h3):=by
 cases r with
 |bad=>exact absurd rfl hb
 |pan p h2=>obtain⟨v,h3,vs,a1,a2,a3⟩:=Gd hb;exact .inr ⟨p,h2,v,h3,vs,rfl,a1,a2,a3⟩
 | ok e fr2 h2 =>
  cases e with
  |exit i=>exact absurd rfl hb
  |normal=>obtain⟨v,h3,vs,a1,a2,a3⟩:=Gd hb;exact .inl ⟨_,fr2,h2,v,h3,vs,rfl,.inl rfl,a1,a2,a3⟩
  |ret=>obtain⟨v,h3,vs,a1,a2,a3⟩:=Gd hb;exact .inl ⟨_,fr2,h2,v,h3,vs,rfl,.inr rfl,a1,a2,a3⟩
theorem Vw(hE:EnvOk E P){ih:E1}(hc:m7 E P ih){x p:AV}{pv:Value}{u u':FrameMode}(hu:Mode u u' pv){h2 h3:Heap}{v:AV}(hr:Ce E ih x p h2=.ok v h3){f0:Nat}{ws:Array Value}{w:World}{cx:Cx}(hx:Rep w cx (.func (.func f0) #[] ws) x)(hp:Rep w cx pv p)(hs:Sat E w cx h2)
 {fn:Func}{tmps:Array Value}{R:Ending->World->Prop}(hR:∀w' cx',Ext w cx w' cx'->Sat E w' cx' h3->∃v,(results fn tmps).run P w'=.ok v w'/\R (.returned v) w'):
 LeavesInM (WF none) 0 P fn tmps R [{target:=.fn (.func f0) ws,args:=#[]}] u w:=by
 obtain⟨f,caps,fi,d,d2,rest,e,fr',rfl,hfi,hle,hres,hm,hdl,he,hrest⟩:=cA hr;obtain⟨ws',e1,hws⟩:=pX hx;cases e1;obtain⟨fn1,c1,h1,h2',h3',_⟩:=hE.fn f0 fi hfi;have hne:u≠.run:=by cases hu<;>exact fun e=>by cases e
 refine⟨hne,.inr ⟨(fun e=>by simp[WF,Fence.wide]at e),.func f0,ws,f0,ws,rfl,?_,fun _ _=>trivial,?_⟩⟩
 . grind[invoke,Yd]
 . refine(pY hE hc hu hfi hle hres hm hdl he hrest hws hp hs).mono fun en u1 w' hq=>?_
   obtain⟨rfl,v',rfl,cx',hex,hs'⟩:=hq;show LeavesInM (WF none) 0 P fn tmps R [] (settle u1) w'
   rw[hu.settle];exact hR w' cx' hex hs'
def DX(d:Deferred)(ts:List Tmp)(vals:Tmp->Value):DP:=fun _ _ a=>a.defers=[d]/\∀t∈ts,a.tmps.getD t undef=vals t
theorem DX.mono{d:Deferred}{ts:List Tmp}{vals:Tmp->Value}:Hu (DX d ts vals):=fun _ _ _ _ _ _ h=>h
theorem DX.stab{d:Deferred}{ts:List Tmp}{vals:Tmp->Value}{t:Option Tmp}(ht:∀s,t=some s->s∉ts):Vu (DX d ts vals) t:=fun _ _ a v h =>
 ⟨by rw[Gp];exact h.1,fun s hs=>(bY fun s' e e'=>ht s' e (e'▸hs)).trans (h.2 s hs)⟩
theorem dfr_last(hE:EnvOk E P){ih:E1}(hc:m7 E P ih)(hl:Kr E P ih){fn:Func}{x:DfC}{o:Oper}{r:List Oper}{g:Operand}(hops:x.ops.toList=r.reverse++[o])(ho:isDf o=some g)(hcalm:kH [] r.reverse=true)(hrest:S5 (fn.results.toList.map Bn) x.rest=true)
 {W0:World}{cx0:Cx}{a:Act}{W:World}{cx:Cx}{fr:Tr}{h:Heap}(he:Ext W0 cx0 W cx)(hf:FrRep W cx a.tmps fr)(hd:a.defers=[])(hs:Sat E W cx h)
 (hb:j4 E ih g (xc x.rest) fn.results.toList [O5 x.ops.toList r.reverse] fr h≠.bad):
 (Code.seq (.region x.id x.ops false) x.rest).wpIn (WF none) 0 P (bodyPostM (WF none) 0 P fn ((j4 E ih g (xc x.rest) fn.results.toList [O5 x.ops.toList r.reverse] fr h).Post E W0 cx0)) a W:=by
 have e:j4 E ih g (xc x.rest) fn.results.toList [O5 x.ops.toList r.reverse] fr h=x5 (fun fr h=>H8 E ih (opv E g fr) fn.results.toList fr (ih (xc x.rest) fr h)) (ih (O5 x.ops.toList r.reverse) fr h):=rfl;rw[e]at hb|-;clear e;refine wpIn_seq (wpIn_region_list ?_);refine Eq.mpr (congrArg (fun L=>wpListIn (WF none) 0 P x.ops _ L a W) hops) ?_;have hb1:ih (O5 x.ops.toList r.reverse) fr h≠.bad:=fun e=>by rw[e]at hb;exact hb rfl
 obtain ⟨hn,hw⟩:=hl (fun a=>a.defers=[]) x.ops r.reverse (Exit.then (wpListIn (WF none) 0 P x.ops (Exit.then (x.rest.wpIn (WF none) 0 P (bodyPostM (WF none) 0 P fn ((x5 (fun fr h=>H8 E ih (opv E g fr) fn.results.toList fr (ih (xc x.rest) fr h)) (ih (O5 x.ops.toList r.reverse) fr h)).Post E W0 cx0))) (bodyPostM (WF none) 0 P fn ((x5 (fun fr h=>H8 E ih (opv E g fr) fn.results.toList fr (ih (xc x.rest) fr h)) (ih (O5 x.ops.toList r.reverse) fr h)).Post E W0 cx0))) [o])
  (fun e a w=>(∃c,e=.panic c)/\(Exit.then (x.rest.wpIn (WF none) 0 P (bodyPostM (WF none) 0 P fn ((x5 (fun fr h=>H8 E ih (opv E g fr) fn.results.toList fr (ih (xc x.rest) fr h)) (ih (O5 x.ops.toList r.reverse) fr h)).Post E W0 cx0))) (bodyPostM (WF none) 0 P fn ((x5 (fun fr h=>H8 E ih (opv E g fr) fn.results.toList fr (ih (xc x.rest) fr h)) (ih (O5 x.ops.toList r.reverse) fr h)).Post E W0 cx0))) e a w)) W cx a fr h
  (fun o _=>DE.stab o.dst W cx) hf hd hs hb1
 refine m8 r.reverse a W (Ov ?_ r.reverse hn a W (hw fun x1 a1 w1 hp=>?_))
 . rintro⟨a,w,⟨c,e⟩,_⟩;cases e
 obtain⟨hd1,cx1,he1,hp⟩:=hp
 replace he1:=he.trans he1
 generalize hq:ih (O5 x.ops.toList r.reverse) fr h=q at *;cases q with
 |bad=>grind
 | pan v h' =>
  obtain⟨vv,rfl,h7,h8⟩:=hp;refine⟨⟨_,rfl⟩,?_⟩;show LeavesInM (WF none) 0 P fn a1.tmps _ a1.defers (.panicking _) w1
  rw[hd1];exact⟨cx1,vv,rfl,he1,h7,h8⟩
 | ok e fr1 h1 =>
  obtain⟨rfl,hs1,hf1⟩:=hp;cases e with
  |exit i=>exact absurd rfl hb
  |ret=>exact absurd rfl hb
  | normal =>
   have hb:H8 E ih (opv E g fr1) fn.results.toList fr1 (ih (xc x.rest) fr1 h1)≠.bad:=hb;show wpListIn (WF none) 0 P x.ops (Exit.then (x.rest.wpIn (WF none) 0 P (bodyPostM (WF none) 0 P fn ((H8 E ih (opv E g fr1) fn.results.toList fr1 (ih (xc x.rest) fr1 h1)).Post E W0 cx0))) (bodyPostM (WF none) 0 P fn ((H8 E ih (opv E g fr1) fn.results.toList fr1 (ih (xc x.rest) fr1 h1)).Post E W0 cx0))) [o] a1 w1
   obtain ⟨as,tys,o1,o2,o3,o4⟩:=mU ho;have hg:=d9 (E:=E) hs1 hf1 g;have⟨f0,ws,hgv⟩:∃f0 ws,a1.eval g=.func (.func f0) #[] ws:=by
    grind[dfrEnd_inv,cA,pX]
   rw [hgv]at hg;unfold wpListIn;rw[if_pos (Cm o3)];refine⟨fun _ _=>trivial,?_⟩;have hm:((o.semAt (WF none).round a1.eval).run P w1)=.ok (.defer {target:=.fn (.func f0) ws,args:=#[]}) w1:=by
    have:as=#[]:=by grind
    rw[show(WF none).round=none from rfl,Oper.semAt_none];simp_all[execOp,resolve,Deferred.ofValue]
   rw[hm,Oper.uponIn_defer,o4,hd1];show x.rest.wpIn (WF none) 0 P _ {a1 with defers:=[_]} w1
   have hb2:ih (xc x.rest) fr1 h1≠.bad:=fun e=>by rw[e]at hb;exact hb rfl
   refine wpIn_mono (hc none (DX {target:=.fn (.func f0) ws,args:=#[]} (fn.results.toList.map Bn) fun t=>a1.tmps.getD t undef) x.rest w1 cx1 {a1 with defers:=[{target:=.fn (.func f0) ws,args:=#[]}]} fr1 h1 DX.mono (S4 (fun d hd=>DX.stab hd) _ hrest) hf1 ⟨rfl,fun _ _=>rfl⟩ hs1 hb2) fun x2 a2 w2 hp=>?_
   obtain⟨cx2,he2,⟨hd2,hv2⟩,hp⟩:=hp;rcases dfrEnd_inv hb with⟨e,fr2,h2,v,h3,vs,hr1,hex,hr2,hr3,hr4⟩|⟨p,h2,v,h3,vs,hr1,hr2,hr3,hr4⟩
   . rw [hr4]
     rw [hr1]at hp;obtain⟨rfl,hs2,hf2⟩:=hp;have fin:LeavesInM (WF none) 0 P fn a2.tmps ((Res.ok (oneOrTup vs) h3).Post E W0 cx0) a2.defers .returning w2:=by
      rw[hd2];refine Vw hE hc .ret hr2 (hg.mono he2) .niliface hs2 fun w' cx' hex' hs'=>?_
      obtain⟨v,h9,h10⟩:=c8 (P:=P) hE hs' (fun y _=>(hf2.mono hex').rep _) hr3;exact⟨v,h9,cx',(he1.trans he2).trans hex',hs',h10⟩
     rcases hex with rfl|rfl
     . exact fin
     . exact fin
   . rw [hr4]
     rw[hr1]at hp;obtain⟨vv,rfl,hs2,hv⟩:=hp;show LeavesInM (WF none) 0 P fn a2.tmps _ a2.defers (.panicking _) w2
     rw[hd2];refine Vw hE hc (.pan vv) hr2 (hg.mono he2) hv hs2 fun w' cx' hex' hs'=>?_
     obtain ⟨v,h9,h10⟩:=c8 (P:=P) hE hs' (fun y hy=>by
      rw[hv2 _ (List.mem_map.2 ⟨y,hy,rfl⟩)];exact((hf1.mono he2).mono hex').rep _) hr3
     exact⟨v,h9,cx',(he1.trans he2).trans hex',hs',h10⟩
theorem jZ(hE:EnvOk E P){ih:E1}(hc:m7 E P ih)(hl:Kr E P ih){fn:Func}{x:DfC}{o:Oper}{r:List Oper}{g:Operand}(hops:x.ops.toList=r.reverse++[o])(ho:isDf o=some g)(hcalm:kH [] r.reverse=true)(hrest:S5 (fn.results.toList.map Bn) x.rest=true)
 {W0:World}{cx0:Cx}:∀(L:List Code)(a:Act)(W:World)(cx:Cx)(fr:Tr)(h:Heap),L.all (S5 [])=true->Ext W0 cx0 W cx->FrRep W cx a.tmps fr->a.defers=[]->Sat E W cx h ->
 j4 E ih g (xc x.rest) fn.results.toList (L.map xc++[O5 x.ops.toList r.reverse]) fr h≠.bad ->
 (L.foldr Code.seq (.seq (.region x.id x.ops false) x.rest)).wpIn (WF none) 0 P (bodyPostM (WF none) 0 P fn ((j4 E ih g (xc x.rest) fn.results.toList (L.map xc++[O5 x.ops.toList r.reverse]) fr h).Post E W0 cx0)) a W
 |[],a,W,cx,fr,h,_,he,hf,hd,hs,hb=>(by grind[Go.AM.dfr_last])
 | c::L,a,W,cx,fr,h,hL,he,hf,hd,hs,hb=>by
  have e:j4 E ih g (xc x.rest) fn.results.toList ((c::L).map xc++[O5 x.ops.toList r.reverse]) fr h=x5 (j4 E ih g (xc x.rest) fn.results.toList (L.map xc++[O5 x.ops.toList r.reverse])) (ih (xc c) fr h):=rfl;rw[e]at hb|-;rw[List.all_cons,zqc]at hL;have hb1:ih (xc c) fr h≠.bad:=fun e=>by rw[e]at hb;exact hb rfl
  refine wpIn_seq (wpIn_mono (hc none DE c W cx a fr h DE.mono (S4 (fun d _=>DE.stab d) c hL.1) hf hd hs hb1) fun x1 a1 w1 hp=>?_);obtain⟨cx1,he1,hd1,hp⟩:=hp
  replace he1:=he.trans he1
  clear e;generalize ih (xc c) fr h=q at *;cases q with
  |bad=>grind
  | pan v h' =>
   obtain⟨vv,rfl,h7,h8⟩:=hp;show LeavesInM (WF none) 0 P fn a1.tmps _ a1.defers (.panicking _) w1
   rw[show a1.defers=[]from hd1];exact⟨cx1,vv,rfl,he1,h7,h8⟩
  | ok e fr1 h1 =>
   obtain⟨rfl,hs1,hf1⟩:=hp;cases e with
   |exit i=>exact absurd rfl hb
   |ret=>exact absurd rfl hb
   |normal=>exact jZ hE hc hl hops ho hcalm hrest L a1 w1 cx1 fr1 h1 hL.2 he1 hf1 hd1 hs1 hb
theorem cB(hE:EnvOk E P){ih:E1}(hc:m7 E P ih)(hl:Kr E P ih)(hpr:∀(c:XC)(fr:Tr)(h h':Heap),CRes.heap (ih c fr h)=some h'->Pres h h'):De E P (M9 E ih):=by
 intro f args l W cx h hv hs hb;unfold M9 at hb|-;cases ht:E.told f with
 |true=>grind[mR]
 | false =>
  rw[ht]at hb;simp only[cond_false]at hb|-;cases hdf:E.dlf f with
  |some ks=>rw[hdf]at hb;exact pZ hE hc hpr hdf hv hs hb
  | none =>
   rw[hdf]at hb;dsimp only at hb|-;cases hsr:srtA E f l h with
   |some r=>rw[hsr]at hb;exact qA hE hv hs hsr hb
   | none =>
    rw[hsr]at hb;dsimp only at hb|-;cases hfi:E.fn f with
    |none=>grind
    | some fi =>
     rw[hfi]at hb;obtain⟨fn,c,h1,h2,h3,h4,h5,h6,h7⟩:=hE.fn f fi hfi;refine⟨⟨fn,c,h1,h2,h3⟩,?_⟩;dsimp only at hb|-;cases hn:Nat.ble (lenL l) fi.ntmps with
     |false=>grind
     | true =>
      rw[hn]at hb;simp only[cond_true]at hb|-;have hn:=C0 hn;rw[A5]at hn;unfold Mr at hb|-;cases hm:fi.mode with
      |rcv d d2 rest=>grind
      | plain =>
       grind[Pv]
      | itf ic =>
       grind[Pv]
      | dfr pre g rest =>
       rw [hm]at hb h7;dsimp only at hb|-;have⟨x,hx1,hx2⟩:∃x,parseD c=some x/\Qg fn.results.toList x=some (.dfr pre g rest):=by
        rcases fmOf_cases h7.symm with⟨_,h⟩|h|⟨x,_,_,h⟩|h
        . grind[Mk]
        . exact h
        . cases h
        . cases h
       obtain ⟨o,r,g',hops,ho,hcalm,hpre,hrest,hrr⟩:=Ml hx2;cases hrr;have hcode:=Mm c x hx1;have hops':x.ops.toList=r.reverse++[o]:=by
        simp_all
       rw[h5,h6]at hb|-;rw[h5]at hn;have hfr:=Kq hv hn;refine Yf.1 (callsIn_of_wp_marks (F:=WF none) (n:=0) h1 h2 trivial ?_ rfl);rw[hcode];exact jZ hE hc hl hops' ho hcalm hrest x.pre ⟨_,[]⟩ W cx _ h hpre (Ext.refl _ _) hfr rfl hs hb
theorem Sat.sub{P:Program}{E:Env}{W:World}{cx:Cx}{h h':Heap}(hs:Sat E W cx h)(hn:h'.next=h.next)(hg:∀id o,h'.get id=some o->h.get id=some o):Sat E W cx h' where
 nx:=hn.trans hs.nx
 objs id o ho:=hs.objs id o (hg id o ho)
 inj id id' o o' ho ho':=hs.inj id id' o o' (hg id o ho) (hg id' o' ho')
 gl:=hs.gl
 held:=hs.held
 free id o ho:=hs.free id o (hg id o ho)
theorem kA(hE:EnvOk E P){ih:E1}(hc:m7 E P ih)(hl:Kr E P ih)(hpr:∀(c:XC)(fr:Tr)(h h':Heap),CRes.heap (ih c fr h)=some h'->Pres h h'):De E P (F8 E ih):=by
 intro f args l W cx h hv hs hb;unfold F8 at hb|-;cases hg:E.gc f with
 |false=>rw[hg]at hb;exact cB hE hc hl hpr f args l W cx h hv hs hb
 | true =>
  rw[hg]at hb;have hb:MA h (M9 E ih f l {h with tch:=[]})≠.bad:=hb;show _/\Calls P f args W ((MA h (M9 E ih f l {h with tch:=[]})).Post E W cx)
  have h0:=cB hE hc hl hpr f args l W cx {h with tch:=[]} hv (hs.sub (P:=P) rfl fun _ _ ho=>ho) (fun e=>hb (by rw[e];rfl));refine⟨h0.1,h0.2.mono fun e w hp=>?_⟩;cases hq:M9 E ih f l {h with tch:=[]}with
  |bad=>rw[hq]at hb;exact absurd rfl hb
  |pan v h1=>rw[hq]at hb;exact absurd rfl hb
  | ok v h1 =>
   rw[hq]at hp;cases e with
   | returned vv =>
    obtain⟨cx',h1',h2,h3⟩:=hp;refine⟨cx',h1',h2.sub (P:=P) rfl fun id o ho=>?_,h3⟩;have ho:(h.os.trunc h1.os).get id=some o:=ho;show h1.os.get id=some o
    grind[HT.get_trunc]
   |panicked c=>exact hp.elim
   |outgrown=>exact hp.elim
theorem cC{b:Tr->Heap->CRes}{r:CRes}(h:Cf b r≠.bad):r≠.bad:=fun e=>by rw[e]at h;exact h rfl
theorem cD{W:World}{cx:Cx}{D:DP}{r:CRes}{b:Tr->Heap->CRes}{K:Act->World->Prop}(hb:Cf b r≠.bad)
 (hK:∀fr' h' cx' a' w',r=.ok .normal fr' h'->Ext W cx w' cx'->Sat E w' cx' h'->FrRep w' cx' a'.tmps fr'->D w' cx' a'->K a' w'):∀x a' w',X9 E W cx D r x a' w'->Exit.then K (X9 E W cx D (Cf b r)) x a' w':=by
 intro x a' w' hp;obtain⟨cx',he,hd,hp⟩:=hp;cases r with
 |bad=>exact hp.elim
 | pan v h' =>
  obtain⟨vv,rfl,h1,h2⟩:=hp;exact⟨cx',he,hd,vv,rfl,h1,h2⟩
 | ok e fr h' =>
  obtain⟨rfl,h1,h2⟩:=hp;cases e with
  |normal=>exact hK fr h' cx' a' w' rfl he h1 h2 hd
  |exit i=>exact⟨cx',he,hd,rfl,h1,h2⟩
  |ret=>exact⟨cx',he,hd,rfl,h1,h2⟩
theorem Ye{W:World}{cx:Cx}{D:DP}{r:CRes}{l:Nat}{a:Act}{w:World}(hp:X9 E W cx D r (.goto l) a w):False:=by
 obtain⟨cx',_,_,hp⟩:=hp;cases r with
 |bad=>exact hp.elim
 |pan v h'=>obtain⟨vv,e,_⟩:=hp;cases e
 |ok e fr' h'=>obtain⟨e2,_⟩:=hp;cases e<;>cases e2
theorem Pw(hE:EnvOk E P):∀n,m7 E P (ev E n)/\
 (∀(ro:Option Nat)(D:DP)(c:Code)(W:World)(cx:Cx)(a:Act)(fr:Tr)(h:Heap),Hu D->mO ro D c->FrRep W cx a.tmps fr->D W cx a->Sat E W cx h->ev E n (.loop (xc c)) fr h≠.bad->Code.roundsIn (WF ro) 0 P c (X9 E W cx D (ev E n (.loop (xc c)) fr h)) n a W)/\
 Kr E P (ev E n)
 |0=>⟨fun ro D c W cx a fr h _ _ _ _ _ hb=>absurd rfl hb,fun ro D c W cx a fr h _ _ _ _ _ hb=>absurd rfl hb,fun S ops l Q W cx a fr h _ _ _ _ hb=>absurd rfl hb⟩
 | n + 1=>by
  obtain ⟨ihc,ihl,ihp⟩:=Pw hE n;have hcall:=kA hE ihc ihp (Ag E n);have round:∀(ro:Option Nat)(D:DP)(c:Code)(W:World)(cx:Cx)(a:Act)(fr:Tr)(h:Heap),Hu D->mO ro D c->FrRep W cx a.tmps fr->D W cx a->Sat E W cx h->ev E (n+1) (.loop (xc c)) fr h≠.bad->Code.roundsIn (WF ro) 0 P c (X9 E W cx D (ev E (n+1) (.loop (xc c)) fr h)) (n+1) a W:=by
   intro ro D c W cx a fr h hD hst hf hd hs hb;have e:ev E (n+1) (.loop (xc c)) fr h=Cf (ev E n (.loop (xc c))) (ev E n (xc c) fr h):=rfl;rw[e]at hb|-;rw[roundsIn_succ];refine wpIn_mono (ihc ro D c W cx a fr h hD hst hf hd hs (cC hb)) (cD hb fun fr' h' cx' a' w' e1 h1 h2 h3 h4=>?_);rw[e1]at hb|-;have hb:ev E n (.loop (xc c)) fr' h'≠.bad:=hb
   have:=ihl ro D c w' cx' a' fr' h' hD hst h3 h4 h2 hb
   have mono:∀m a w Q Q',(∀x a w,Q x a w->Q' x a w)->Code.roundsIn (WF ro) 0 P c Q m a w->Code.roundsIn (WF ro) 0 P c Q' m a w:=by
    intro m
    induction m with
    |zero=>intro a w Q Q' _ h;exact h
    | succ m ih =>
     intro a w Q Q' hq h;exact wpIn_mono h fun x a w hx=>by cases x<;>first|exact ih _ _ _ _ hq hx|exact hq _ _ _ hx
   exact mono n a' w' _ _ (fun x a w hp=>X9.trans h1 hp) this
  refine⟨fun ro D c W cx a fr h hD hst hf hd hs hb=>?_,round,fun S ops l Q W cx a fr h hst hf hS hs hb=>?_⟩
  . cases c with
    |skip=>exact wpIn_skip ⟨cx,Ext.refl _ _,hd,rfl,hs,hf⟩
    |ret=>exact wpIn_ret ⟨cx,Ext.refl _ _,hd,rfl,hs,hf⟩
    |exit id=>exact wpIn_exit ⟨cx,Ext.refl _ _,hd,rfl,hs,hf⟩
    |label l=>exact wpIn_label ⟨cx,Ext.refl _ _,hd,rfl,hs,hf⟩
    | scope x =>
     have e:ev E (n+1) (xc (.scope x)) fr h=ev E n (xc x) fr h:=rfl;rw[e]at hb|-;refine gH (wpIn_mono (ihc ro D x W cx a fr h hD hst hf hd hs hb) fun x' a' w' hp=>?_);cases x' with
     |goto l=>grind[Ye]
     |_=>exact hp
    | region id ops draw =>
     cases draw with
     | false =>
      have e:ev E (n+1) (xc (.region id ops false)) fr h=step E (ev E n) (bif Fk ops.toList then .reg false (ops.toList.map (bQ ops.toList false [] false))else .bad) fr h:=rfl;rw[e]at hb|-;cases hnd:Fk ops.toList with
      |false=>rw[hnd]at hb;exact absurd rfl hb
      | true =>
       rw[hnd]at hb;have hb:H1 E (F8 E (ev E n)) (ops.toList.map (bQ ops.toList false [] false)) fr h≠.bad:=hb;show(Code.region id ops false).wpIn (WF ro) 0 P (X9 E W cx D (H1 E (F8 E (ev E n)) (ops.toList.map (bQ ops.toList false [] false)) fr h)) a W
       exact wpIn_mono (mZ (ro:=ro) (Q:=(H1 E (F8 E (ev E n)) (ops.toList.map (bQ ops.toList false [] false)) fr h).Post E W cx (fun a=>D W cx a)) qC (noDfr_iff _ hnd) (y0 hE hcall ops.toList W cx a fr h (fun o ho=>by obtain⟨i,hi⟩:=List.getElem?_of_mem ho;exact hst i o (by grind) W cx) hf hd hs hb fun x a' w' hp=>hp)) fun x a w hp=>X9.of_post hD hp
     | true =>
      have e:ev E (n+1) (xc (.region id ops true)) fr h=step E (ev E n) (bif Fk ops.toList then(bif Ky ops.toList (Cw ops.toList) (Pc ops.toList (Cw ops.toList))then .reg true (w3 ops.toList (Cw ops.toList) [] (Pc ops.toList (Cw ops.toList)))else .bad)else .bad) fr h:=rfl;rw[e]at hb|-;cases hnd:Fk ops.toList with
      |false=>rw[hnd]at hb;exact absurd rfl hb
      | true =>
       rw[hnd]at hb;cases hok:Ky ops.toList (Cw ops.toList) (Pc ops.toList (Cw ops.toList))with
       |false=>rw[hok]at hb;exact absurd rfl hb
       | true =>
        rw[hok]at hb;exact wpIn_mono (gI hE hs hf (S:=fun a=>D W cx a) hd hcall (wC E n) (fun i o ho=>hst i o ho W cx) (ro:=ro) (by grind[Go.AM.noDfr_iff]) hok hb) fun x a w hp=>X9.of_post hD hp
    | seq x y =>
     cases hR:rngC x y with
     | some R =>
      have e:ev E (n+1) (xc (.seq x y)) fr h=Wb E (ev E n) R (xc y) fr h:=by rw[BC hR];rfl
      rw[e]at hb|-;exact mV hE ihc (Ag E n) hD hR hst hf hd hs hb
     | none =>
      have e:ev E (n+1) (xc (.seq x y)) fr h=Cf (ev E n (xc y)) (ev E n (xc x) fr h):=by rw[BB hR];rfl
      rw[e]at hb|-;refine wpIn_seq (wpIn_mono (ihc ro D x W cx a fr h hD hst.1 hf hd hs (cC hb)) (cD hb fun fr' h' cx' a' w' e1 h1 h2 h3 h4=>?_));rw[e1]at hb|-;have hb:ev E n (xc y) fr' h'≠.bad:=hb;exact wpIn_mono (ihc ro D y w' cx' a' fr' h' hD hst.2 h3 h4 h2 hb) fun x a w hp=>X9.trans h1 hp
    | cond c x y =>
     have e:ev E (n+1) (xc (.cond c x y)) fr h=Mt (ev E n (xc x)) (ev E n (xc y)) (opv E c fr) fr h:=rfl;rw[e]at hb|-;have hc:=d9 (E:=E) hs hf c;cases hv:opv E c fr with
     | bool b =>
      rw[hv]at hb hc;refine wpIn_cond hc.bool_inv ?_;cases b with
      |true=>exact ihc ro D x W cx a fr h hD hst.1 hf hd hs hb
      |false=>exact ihc ro D y W cx a fr h hD hst.2 hf hd hs hb
     |_=>rw[hv]at hb;exact absurd rfl hb
    | block id x =>
     have e:ev E (n+1) (xc (.block id x)) fr h=Cv id (ev E n (xc x) fr h):=rfl;rw[e]at hb|-;have hb1:ev E n (xc x) fr h≠.bad:=fun e=>by rw[e]at hb;exact hb rfl
     refine wpIn_block (wpIn_mono (ihc ro D x W cx a fr h hD hst hf hd hs hb1) fun x' a' w' hp=>?_);clear e;generalize ev E n (xc x) fr h=r at *;obtain⟨cx',he,hd',hp⟩:=hp;cases r with
     |bad=>grind
     | pan v h' =>
      obtain⟨vv,rfl,h1,h2⟩:=hp;exact⟨cx',he,hd',vv,rfl,h1,h2⟩
     | ok e fr' h' =>
      obtain⟨rfl,h1,h2⟩:=hp;cases e with
      |normal=>exact⟨cx',he,hd',rfl,h1,h2⟩
      |ret=>exact⟨cx',he,hd',rfl,h1,h2⟩
      | exit j =>
       show Exit.inBlock id _ (.exit j) a' w'
       have e2:Cv id (.ok (.exit j) fr' h')=bif Nat.beq j id then .ok .normal fr' h' else .ok (.exit j) fr' h':=rfl;rw[e2];show if j=id then _ else _
       by_cases hj:j=id
       . subst hj;rw[if_pos rfl];simp only[Nat.beq_refl,cond_true];exact⟨cx',he,hd',rfl,h1,h2⟩
       . rw[if_neg hj,Heap.beq_false hj];exact⟨cx',he,hd',rfl,h1,h2⟩
    |loop x=>exact wpIn_loop_rounds (n+1) (round ro D x W cx a fr h hD hst hf hd hs hb)
    |rangeFunc g ps x y=>exact mQ hE ihc ihp hD hst hf hd hs hb
    |_=>exact absurd rfl hb
  . have e:ev E (n+1) (O5 ops.toList l) fr h=step E (ev E n) (bif Fk l then .reg false (l.map (bQ ops.toList false [] false))else .bad) fr h:=rfl
    rw[e]at hb|-;cases hnd:Fk l with
    |false=>rw[hnd]at hb;exact absurd rfl hb
    | true =>
     rw[hnd]at hb;exact⟨noDfr_iff _ hnd,fun hQ=>y0 hE hcall l W cx a fr h hst hf hS hs hb hQ⟩
theorem mW(hE:EnvOk E P){W:World}{cx:Cx}{h:Heap}{n f:Nat}{args:Array Value}{l:List AV}(hl:RepL W cx args.toList l)(hs:Sat E W cx h)(hb:run E n f l h≠.bad):Calls P f args W ((run E n f l h).Post E W cx):=
 (kA hE (Pw hE n).1 (Pw hE n).2.2 (Ag E n) f args l W cx h hl hs hb).2
end
end Go.AM
