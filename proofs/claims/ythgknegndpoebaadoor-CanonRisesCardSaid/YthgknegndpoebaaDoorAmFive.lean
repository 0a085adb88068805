/- The abstract machine, part five: ranges over functions, deferred calls that recover, code and calls: sound. Conditions: none. -/
import Derived.Test.YthgknegndpoebaaDoorAmFour
import Derived.RangeFuncNested
import Derived.RecoverIn
import Derived.RowKit3
import Derived.Maps.RangeWalk
import Derived.Maps.Ext
import Derived.Laws.IdiomRangeMap
import Derived.Deep.LoopGhost
import Derived.WalkKit
set_option linter.unusedVariables false
set_option linter.unusedSimpArgs false
/-
 The abstract machine: what a body yields; frames that are entered; blocks that are laid and held; what is so behind code.
-/
namespace Go.AM
section
variable {P:Program} {E:Env} {W:World} {cx:Cx} {h:Heap}
theorem load_addr (hE:EnvOk E P) (hs:Sat E W cx h) {t:Nat} {ti:TI} (ht:E.ti t=some ti) {x:Value} {a r:AV} (hx:Rep W cx x a) (hl:loadA ti a h=some r) :
   ∃v p,x=.pointer (some p)∧(loadVar t p).run P W=.ok v W∧Rep W cx v r:=by
 obtain⟨v,h1,h2⟩:=load_sound (P:=P) hE hs ht hx hl
 have:∃p,x=.pointer (some p):=by
   cases a with
   | fptr v off=>obtain⟨b,o,e,_⟩:=hx.fptr_inv; exact⟨_,e⟩
   | ptr id i off=>obtain⟨_,e⟩:=hx.ptr_inv; exact⟨_,e⟩
   | _=>cases hl
 obtain⟨p,rfl⟩:=this
 exact⟨v,p,rfl,by simpa [Instr.loadAt,Instr.sureAddr] using h1,h2⟩
def resVar (tmps:Array Value):ResultVar→Sem Value
 | .tmp t=>pure (tmps.getD t undef)
 | .cell a t=>do loadVar t (← asAddr (tmps.getD a undef))
theorem results_list (hE:EnvOk E P) (hs:Sat E W cx h) {tmps:Array Value} {fr:Tr}:∀(l:List ResultVar) (vs:List AV),(∀x∈l,Rep W cx (tmps.getD (slotOf x) undef) (fr.get (slotOf x)))→resultsA E l fr h=some vs→∃us,(l.mapM (resVar tmps)).run P W=.ok us W∧RepL W cx us vs
 | [],vs,hf,hr=>by
   cases hr
   exact⟨[],rfl,.nil⟩
 | x::l,vs,hf,hr=>by
   have hf':=fun y hy=>hf y (List.mem_cons_of_mem _ hy)
   have hx:=hf x (List.mem_cons_self ..)
   cases x with
   | tmp t =>
     have hr:obind (resultsA E l fr h) (fun vs=>some (fr.get t::vs))=some vs:=hr
     obtain⟨ws,h1,h2⟩:=obind_some hr
     cases h2
     obtain⟨us,h3,h4⟩:=results_list hE hs l ws hf' h1
     exact⟨tmps.getD t undef::us,by rw[List.mapM_cons]; simp[resVar,h3],.cons hx h4⟩
   | cell a t =>
     have hr:onTI E t none (fun ti=>obind (loadA ti (fr.get a) h) fun v=>obind (resultsA E l fr h) fun vs=>some (v::vs))=some vs:=hr
     obtain⟨ti,ht,hr⟩:=onTI_some hr
     obtain⟨v,hv,hr⟩:=obind_some hr
     obtain⟨ws,h1,h2⟩:=obind_some hr
     cases h2
     obtain⟨us,h3,h4⟩:=results_list hE hs l ws hf' h1
     have hx:Rep W cx (tmps.getD a undef) (fr.get a):=hx
     obtain⟨u,p,e,h5,h6⟩:=load_addr (P:=P) hE hs ht hx hv
     exact⟨u::us,by rw[List.mapM_cons]; simp[resVar,e,asAddr,h5,h3],.cons h6 h4⟩
theorem results_sound (hE:EnvOk E P) (hs:Sat E W cx h) {tmps:Array Value} {fr:Tr} {fn:Func} (hf:∀x∈fn.results.toList,Rep W cx (tmps.getD (slotOf x) undef) (fr.get (slotOf x))) {vs:List AV} (hr:resultsA E fn.results.toList fr h=some vs) :
   ∃v,(results fn tmps).run P W=.ok v W∧Rep W cx v (oneOrTup vs):=by
 obtain⟨us,h1,h2⟩:=results_list (P:=P) hE hs fn.results.toList vs hf hr
 have e1:(fn.results.mapM (resVar tmps)).run P W=.ok us.toArray W:=by
   rw[← Array.toArray_toList (xs:=fn.results),List.mapM_toArray]
   simp[h1]
 have e2:results fn tmps=(do
     let vs ← fn.results.mapM (resVar tmps)
     pure (if h:vs.size=1 then vs[0] else .tuple vs)):=by
   unfold results
   congr 1
 refine⟨if h:us.toArray.size=1 then us.toArray[0] else .tuple us.toArray,by rw[e2]; simp only[Sem.run_bind,e1,Result.andThen_ok]; rfl,?_⟩
 cases us with
 | nil =>
   cases vs with
   | nil=>exact .tup #[] [] rfl (by simp)
   | cons _ _=>have:=h2.1; simp at this
 | cons u us =>
   cases vs with
   | nil=>have:=h2.1; simp at this
   | cons v vs =>
     cases us with
     | nil =>
       cases vs with
       | nil=>exact h2.2 0 _ _ rfl rfl
       | cons _ _=>have:=h2.1; simp at this
     | cons u2 us =>
       cases vs with
       | nil=>have:=h2.1; simp at this
       | cons v2 vs=>simp only[List.size_toArray,List.length_cons]; rw[dif_neg (by omega)]; exact Rep.tup_mk h2
theorem FrRep.set {tmps:Array Value} {fr:Tr} (hf:FrRep W cx tmps fr) {i:Nat} {x:AV} (hx:Rep W cx (tmps.getD i undef) x):FrRep W cx tmps (fr.set i x) where
 rep j:=by
   by_cases e:i=j
   · subst e
     rw[Tr.get_set_eq]
     split
     · exact hx
     · exact .und _
   · rw[Tr.get_set_ne _ _ _ _ e]; exact hf.rep j
 has j hj:=by rw[Tr.has_set] at hj; exact hf.has j hj
theorem FrRep.setAll {tmps:Array Value}:∀(l:List AV) (i:Nat) (fr:Tr),FrRep W cx tmps fr→(∀(j:Nat) x,l[j]?=some x→Rep W cx (tmps.getD (i+j) undef) x)→FrRep W cx tmps (Tr.setAll l i fr)
 | [],_,_,hf,_=>hf
 | v::l,i,fr,hf,hx=>by
   show FrRep W cx tmps (Tr.setAll l (i+1) (fr.set i v))
   exact FrRep.setAll l (i+1) _ (hf.set (hx 0 v rfl)) fun j x hj=>by
     have:=hx (j+1) x (by simpa using hj)
     rw[show i+1+j=i+(j+1) by omega]; exact this
theorem enter_rep {args:Array Value} {l:List AV} (hl:RepL W cx args.toList l) {n:Nat} (hn:l.length≤n):FrRep W cx (args++Array.replicate (n - args.size) undef) (Tr.enter n l):=by
 have hsz:args.size=l.length:=by have:=hl.1; simpa using this
 refine FrRep.setAll l 0 _ ⟨fun i=>by rw[Tr.get_mk]; exact .und _,fun i hi=>?_⟩ fun j x hj=>?_
 · have:=Tr.has_mk _ _ _ hi
   simp; omega
 · obtain⟨v,h1,h2⟩:=hl.get hj
   have hlt:j < args.size:=by rw[hsz]; exact get_lt hj
   have:(args++Array.replicate (n - args.size) undef).getD (0+j) undef=v:=by
     rw[Nat.zero_add,Array.getD_eq_getD_getElem?,Array.getElem?_append_left hlt]
     have:args[j]?=some v:=by simpa using h1
     rw[this]; rfl
   rw[this]; exact h2
def Cx.lay (cx:Cx) (b:Nat):Cx:=⟨cx.μ,cx.nx,fun x=>cx.own x∨x=b,fun x=>cx.held x∨x=b⟩
theorem Ext.lay (W:World) (cx:Cx) (o:Obj):Ext W cx (W.alloc o) (cx.lay W.heap.size) where
 nx:=Nat.le_refl _
 mu _ _:=rfl
 sz:=by simp
 keep b hb _:=heap_alloc_old W o hb
 shape b hb:=by unfold szOf; rw[heap_alloc_old W o hb]
 own b hb h:=by rcases h with h | h; exact h; omega
 hold b hb h:=⟨.inl h,heap_alloc_old W o hb⟩
 out:=⟨rfl,rfl,rfl⟩
theorem Sat.lay (hs:Sat E W cx h) (o:Obj):Sat E (W.alloc o) (cx.lay W.heap.size) h where
 nx:=hs.nx
 objs id y hy:=by
   obtain⟨h1,h2,h3,h4⟩:=hs.objs id y hy
   exact⟨h1,.inl h2,by show (cx.μ id).1 < _; simp; omega,h4.mono (Ext.lay W cx o) (heap_alloc_old W o h3)⟩
 inj:=hs.inj
 gl:=hs.gl.mono (Ext.lay W cx o)
 held b hb:=by
   rcases hb with hb | rfl
   · exact⟨by have:=(hs.held b hb).1; simp; omega,.inl (hs.held b hb).2⟩
   · exact⟨by simp,.inr rfl⟩
 free id y hy:=by
   rintro (hb | hb)
   · exact hs.free id y hy hb
   · have:=(hs.objs id y hy).2.2.1
     have hb:(cx.μ id).1=W.heap.size:=hb
     omega
def NoCells (o:Obj):Prop:=∀c t f,o≠.cells c t f
theorem szOf_not {W:World} {b:Nat} (h:∀o,W.heap[b]?=some o→NoCells o):szOf W b=0:=by
 unfold szOf
 cases hb:W.heap[b]? with
 | none=>rfl
 | some o =>
   cases o with
   | cells c t f=>exact absurd rfl (h _ hb c t f)
   | _=>rfl
theorem Ext0.putHeld (hs:Sat E W cx h) {l:Nat} {o₀ o:Obj} (hl:cx.held l) (h0:W.heap[l]?=some o₀) (hn:NoCells o₀) (ho:NoCells o):Ext0 W cx (W.putObj l o) cx where
 nx:=Nat.le_refl _
 mu _ _:=rfl
 sz:=by simp
 keep b _ hb:=World.putObj_heap_other fun e=>hb (e ▸ (hs.held l hl).2)
 shape b hb:=by
   by_cases e:b=l
   · subst e
     rw[szOf_not (W:=W) (fun o' h'=>by rw[h0] at h'; cases h'; exact hn),szOf_not (fun o' h'=>by rw[World.putObj_heap_same hb] at h'; cases h'; exact ho)]
   · unfold szOf; rw[World.putObj_heap_other e]
 own _ _ h:=h
theorem Sat.putHeld (hs:Sat E W cx h) {l:Nat} {o:Obj} (hl:cx.held l) (he:Ext0 W cx (W.putObj l o) cx):Sat E (W.putObj l o) cx h where
 nx:=hs.nx
 objs id y hy:=by
   obtain⟨h1,h2,h3,h4⟩:=hs.objs id y hy
   exact⟨h1,h2,by simpa using h3,h4.mono0 he (World.putObj_heap_other fun e=>hs.free id y hy (e ▸ hl))⟩
 inj:=hs.inj
 gl:=hs.gl.mono0 he
 held b hb:=⟨by simpa using (hs.held b hb).1,(hs.held b hb).2⟩
 free:=hs.free
theorem Ext.putHi {W W':World} {cx cx':Cx} {l:Nat} {o:Obj} (he:Ext W cx W' cx') (hl:W.heap.size≤l) (h0:Ext0 W' cx' (W'.putObj l o) cx'):Ext W cx (W'.putObj l o) cx' where
 toExt0:=he.toExt0.trans h0
 hold b hb hh:=⟨(he.hold b hb hh).1,(World.putObj_heap_other (by omega)).trans (he.hold b hb hh).2⟩
 out:=he.out
abbrev DP:=World→Cx→Act→Prop
def CRes.End (E:Env) (r:CRes) (x:Exit) (a:Act) (w:World) (cx':Cx):Prop :=
 match r with
 | .ok e fr h=>x=toExit e∧Sat E w cx' h∧FrRep w cx' a.tmps fr
 | .pan v h=>∃vv,x=.panic [{ v:=vv,recovered:=false }]∧Sat E w cx' h∧Rep w cx' vv v
 | .bad=>False
def PostD (E:Env) (W:World) (cx:Cx) (D:DP) (r:CRes) (x:Exit) (a:Act) (w:World):Prop:=∃cx',Ext W cx w cx'∧D w cx' a∧r.End E x a w cx'
theorem PostD.trans {W W₁:World} {cx cx₁:Cx} {D:DP} (he:Ext W cx W₁ cx₁) {r:CRes} {x:Exit} {a:Act} {w:World} (h:PostD E W₁ cx₁ D r x a w):PostD E W cx D r x a w:=by
 obtain⟨cx',he',h⟩:=h
 exact⟨cx',he.trans he',h⟩
def MonoD (D:DP):Prop:=∀W cx a W' cx',Ext W cx W' cx'→D W cx a→D W' cx' a
def StabD (D:DP) (d:Option Tmp):Prop:=∀W cx,Stab (D W cx) d
theorem PostD.of_post {D:DP} (hD:MonoD D) {r:CRes} {x:Exit} {a:Act} {w:World} (h:r.Post E W cx (fun a=>D W cx a) x a w):PostD E W cx D r x a w:=by
 obtain⟨hd,cx',he,h⟩:=h
 exact⟨cx',he,hD _ _ _ _ _ he hd,h⟩
def mark (r:Nat):Deferred:={ target:=.collected r,args:=#[] }
def RfOk (ro:Option Nat) (D:DP):Prop :=
 match ro with
 | none=>∀W cx a W' cx' r,D W cx a→Ext W cx W' cx'→W.heap.size≤r→r < W'.heap.size→cx'.held r→W'.heap[r]?=some (.deferred (some []))→D W' cx' { a with defers:=mark r::a.defers }
 | some l=>∀W cx a,D W cx a→∃rc,W.heap[l]?=some (.loop rc)
def StC (ro:Option Nat) (D:DP):Code→Prop
 | .region _ ops _=>∀(i:Nat) (o:Oper),ops[i]?=some o→StabD D o.dst
 | .seq a b=>StC ro D a∧StC ro D b
 | .cond _ a b=>StC ro D a∧StC ro D b
 | .block _ a=>StC ro D a
 | .loop a=>StC ro D a
 | .scope a=>StC ro D a
 | .rangeFunc ..=>RfOk ro D
 | _=>True
theorem stC_all {ro:Option Nat} {D:DP} (h:∀d,StabD D d) (hr:RfOk ro D):∀c,StC ro D c
 | .region _ ops _=>fun _ _ _=>h _
 | .seq a b=>⟨stC_all h hr a,stC_all h hr b⟩
 | .cond _ a b=>⟨stC_all h hr a,stC_all h hr b⟩
 | .block _ a=>stC_all h hr a
 | .loop a=>stC_all h hr a
 | .scope a=>stC_all h hr a
 | .rangeFunc ..=>hr
 | .skip | .exit _ | .label _ | .goto _ | .ret | .refuse _=>trivial
theorem stC_calm {ro:Option Nat} {D:DP} {ts:List Tmp} (h:∀d,(∀t,d=some t→t ∉ ts)→StabD D d):∀c,calmC ts c=true→StC ro D c
 | .region _ ops _,hc=>fun i o ho=>h _ fun t ht hm=>by
     have hc:(ops.toList.all fun o=>(match o.dst with | none=>true | some d=>!(ts.contains d)))=true:=hc
     have:=List.all_eq_true.1 hc o (List.mem_of_getElem? (by simpa using ho))
     rw[ht] at this
     simp[hm] at this
 | .seq a b,hc=>by
     have hc:(calmC ts a && calmC ts b)=true:=hc
     rw[Bool.and_eq_true] at hc
     exact⟨stC_calm h a hc.1,stC_calm h b hc.2⟩
 | .cond _ a b,hc=>by
     have hc:(calmC ts a && calmC ts b)=true:=hc
     rw[Bool.and_eq_true] at hc
     exact⟨stC_calm h a hc.1,stC_calm h b hc.2⟩
 | .block _ a,hc=>stC_calm h a hc
 | .loop a,hc=>stC_calm h a hc
 | .scope a,hc=>stC_calm h a hc
 | .rangeFunc ..,hc=>by cases hc
 | .skip,_ | .exit _,_ | .label _,_ | .goto _,_ | .ret,_ | .refuse _,_=>trivial
theorem put_tmps_ne {a:Act} {d:Option Tmp} {v:Value} {i:Nat} (h:∀t,d=some t→t≠i):(a.put d v).tmps.getD i undef=a.tmps.getD i undef:=by
 cases d with
 | none=>rfl
 | some d =>
   show (a.tmps.setIfInBounds d v).getD i undef=_
   simp[Array.getD_eq_getD_getElem?,Array.getElem?_setIfInBounds_ne (h d rfl)]
theorem put_size (a:Act) (d:Option Tmp) (v:Value):(a.put d v).tmps.size=a.tmps.size:=by
 cases d with
 | none=>rfl
 | some d=>show (a.tmps.setIfInBounds d v).size=_; simp
def DE:DP:=fun _ _ a=>a.defers=[]
theorem DE.mono:MonoD DE:=fun _ _ _ _ _ _ h=>h
theorem DE.stab (d:Option Tmp):StabD DE d:=fun _ _ a v h=>by show (a.put d v).defers=[]; rw[put_defers]; exact h
def D0 (n0:Nat):DP:=fun W cx a=>n0≤W.heap.size∧∃rs:List Nat,a.defers=rs.map mark∧rs.Nodup∧∀r∈rs,n0≤r∧r < W.heap.size∧cx.held r∧W.heap[r]?=some (.deferred (some []))
theorem D0.mono (n0:Nat):MonoD (D0 n0):=fun W cx a W' cx' he h=>by
 obtain⟨h0,rs,h1,h2,h3⟩:=h
 refine⟨Nat.le_trans h0 he.sz,rs,h1,h2,fun r hr=>?_⟩
 obtain⟨h4,h5,h6,h7⟩:=h3 r hr
 obtain⟨h8,h9⟩:=he.hold r h5 h6
 exact⟨h4,Nat.lt_of_lt_of_le h5 he.sz,h8,h9.trans h7⟩
theorem D0.stab (n0:Nat) (d:Option Tmp):StabD (D0 n0) d:=fun W cx a v h=>by
 obtain⟨h0,rs,h1,h2⟩:=h
 exact⟨h0,rs,by rw[put_defers]; exact h1,h2⟩
theorem D0.push (n0:Nat):RfOk none (D0 n0):=fun W cx a W' cx' r hd he hr hlt hh hb=>by
 obtain⟨h0,rs,h1,h2,h3⟩:=D0.mono n0 _ _ _ _ _ he hd
 obtain⟨h0',rs',h1',_,h3'⟩:=hd
 have:∀r'∈rs,r' < W.heap.size:=fun r' hr'=>by
   have e:rs=rs':=by
     have inj:∀(l l':List Nat),l.map mark=l'.map mark→l=l':=by
       intro l
       induction l with
       | nil=>intro l' e; cases l' <;> simp at e; rfl
       | cons x l ih=>intro l' e; cases l' with
         | nil=>simp at e
         | cons y l'=>simp[mark] at e; rw[e.1,ih l' (by simpa [mark] using e.2)]
     exact inj _ _ (h1.symm.trans h1')
   exact (h3' r' (e ▸ hr')).2.1
 refine⟨h0,r::rs,by show mark r::a.defers=_; rw[h1]; rfl,List.nodup_cons.2 ⟨fun hm=>by have:=this r hm; omega,h2⟩,fun r' hr'=>?_⟩
 rcases List.mem_cons.1 hr' with rfl | hr'
 · exact⟨by omega,hlt,hh,hb⟩
 · exact h3 r' hr'
def DR (l:Nat) (rc:Loop):DP:=fun W cx a=>a.defers=[]∧cx.held l∧W.heap[l]?=some (.loop rc)
theorem DR.mono (l:Nat) (rc:Loop):MonoD (DR l rc):=fun W cx a W' cx' he h=>by
 obtain⟨h1,h2,h3⟩:=h
 obtain⟨h4,h5⟩:=he.hold l (lt_of_heap h3) h2
 exact⟨h1,h4,h5.trans h3⟩
theorem DR.stab (l:Nat) (rc:Loop) (d:Option Tmp):StabD (DR l rc) d:=fun W cx a v h=>by
 obtain⟨h1,h2⟩:=h
 exact⟨by rw[put_defers]; exact h1,h2⟩
theorem DR.rf (l:Nat) (rc:Loop):RfOk (some l) (DR l rc):=fun W cx a h=>⟨rc,h.2.2⟩
theorem noDfr_iff (l:List Oper) (hn:noDfr l=true):∀o∈l,NoDfr o:=fun o ho c e=>by
 have:=List.all_eq_true.1 hn o ho
 rw[e] at this
 cases this
end
end Go.AM
/-
 The abstract machine: pieces of regions; an iterator that hands elements on,walked.
-/
namespace Go.AM
theorem oper_mono {F:Fence} {n:Nat} {P:Program} {o:Oper} {a:Act} {w:World} {K K':Act→World→Prop} {Q Q':Exit→Act→World→Prop} (hk:∀a w,K a w→K' a w) (hq:∀c a w,Q (.panic c) a w→Q' (.panic c) a w) (hq':∀a w,Q .outgrown a w→Q' .outgrown a w)
   (h:o.wpIn F n P a w K Q):o.wpIn F n P a w K' Q':=by
 refine⟨h.1,?_⟩
 have h:=h.2
 generalize (o.semAt F.round a.eval).run P w=r at h ⊢
 cases r with
 | ok x w' =>
   cases x with
   | value v=>exact hk _ _ h
   | skip=>exact hk _ _ h
   | defer d=>exact hk _ _ h
   | enter f args =>
     exact⟨h.1,h.2.mono fun e w' hp=>by
       cases e with
       | returned v=>exact hk _ _ hp
       | panicked c=>exact hq _ _ _ hp
       | outgrown=>obtain⟨a0,w0,h0⟩:=hp; exact⟨a0,w0,hq' _ _ h0⟩⟩
   | row r args=>exact⟨h.1,h.2.mono fun v w' hp=>hk _ _ hp⟩
   | round l f tmps as bo =>
     exact⟨h.1,h.2.mono fun e w' hp=>by
       cases e with
       | returned v=>exact hk _ _ hp
       | panicked c=>exact hq _ _ _ hp
       | outgrown=>obtain⟨a0,w0,h0⟩:=hp; exact⟨a0,w0,hq' _ _ h0⟩⟩
   | _=>exact h.elim
 | halt x w'=>cases x <;> first | exact hq _ _ _ h | exact h.elim
theorem listIn_append {F:Fence} {n:Nat} {P:Program} {ops:Array Oper} {Q:Exit→Act→World→Prop} {rest:List Oper}:∀(l:List Oper) (a:Act) (w:World),
   wpListIn F n P ops (Exit.then (wpListIn F n P ops Q rest) (fun _ _ _=>False)) l a w→wpListIn F n P ops Q (l++rest) a w
 | [],a,w,h=>h
 | o::l,a,w,h=>by
   unfold wpListIn at h
   show wpListIn F n P ops Q (o::(l++rest)) a w
   unfold wpListIn
   split
   · rename_i hw
     rw[if_pos hw] at h
     exact oper_mono (fun a w h=>listIn_append l a w h) (fun c a w hq=>hq.elim) (fun a w hq=>hq.elim) h
   · rename_i hw
     rw[if_neg hw] at h
     exact⟨h.1,listIn_append l _ w h.2⟩
def ListOk (E:Env) (P:Program) (ih:CodeF):Prop :=
 ∀(S:Act→Prop) (ops:Array Oper) (l:List Oper) (Q:Exit→Act→World→Prop) (W:World) (cx:Cx) (a:Act) (fr:Tr) (h:Heap),
   (∀o∈l,Stab S o.dst)→FrRep W cx a.tmps fr→S a→Sat E W cx h→ih (xregP ops.toList l) fr h≠.bad →
     (∀o∈l,NoDfr o)∧((∀x a' w',(ih (xregP ops.toList l) fr h).Post E W cx S x a' w'→Q x a' w')→wpList P ops Q l a W)
def CodeOk (E:Env) (P:Program) (ih:CodeF):Prop :=
 ∀(ro:Option Nat) (D:DP) (c:Code) (W:World) (cx:Cx) (a:Act) (fr:Tr) (h:Heap),MonoD D→StC ro D c→FrRep W cx a.tmps fr→D W cx a→Sat E W cx h→ih (xc c) fr h≠.bad →
   c.wpIn (WF ro) 0 P (PostD E W cx D (ih (xc c) fr h)) a W
section
variable {P:Program} {E:Env} {ih:CodeF}
theorem piece (hl:ListOk E P ih) {ro:Option Nat} {ops:Array Oper} {S:Act→Prop} {l rest:List Oper} {Q:Exit→Act→World→Prop} {W:World} {cx:Cx} {a:Act} {fr fr':Tr} {h h':Heap} (hst:∀o∈l,Stab S o.dst)
   (hf:FrRep W cx a.tmps fr) (hS:S a) (hs:Sat E W cx h) (hr:ih (xregP ops.toList l) fr h=.ok .normal fr' h')
   (hK:∀a' W' cx',Ext W cx W' cx'→Sat E W' cx' h'→FrRep W' cx' a'.tmps fr'→S a'→wpListIn (WF ro) 0 P ops Q rest a' W'):wpListIn (WF ro) 0 P ops Q (l++rest) a W:=by
 obtain⟨hn,hw⟩:=hl S ops l (Exit.then (wpListIn (WF ro) 0 P ops Q rest) (fun _ _ _=>False)) W cx a fr h hst hf hS hs (by rw[hr]; exact fun e=>by cases e)
 refine listIn_append l a W (list_in ?_ l hn a W (hw fun x a' w' hp=>?_))
 · rintro ⟨a,w,h⟩; exact h
 · rw[hr] at hp
   obtain⟨hd,cx',he,rfl,h1,h2⟩:=hp
   exact hK a' w' cx' he h1 h2 hd
theorem piece_end (hl:ListOk E P ih) {ro:Option Nat} {ops:Array Oper} {S:Act→Prop} {l:List Oper} {Q:Exit→Act→World→Prop} {W:World} {cx:Cx} {a:Act} {fr fr':Tr} {h h':Heap} (hst:∀o∈l,Stab S o.dst)
   (hf:FrRep W cx a.tmps fr) (hS:S a) (hs:Sat E W cx h) (hr:ih (xregP ops.toList l) fr h=.ok .normal fr' h')
   (hK:∀a' W' cx',Ext W cx W' cx'→Sat E W' cx' h'→FrRep W' cx' a'.tmps fr'→S a'→Q .normal a' W'):wpListIn (WF ro) 0 P ops Q l a W:=by
 have:=piece (rest:=[]) (ro:=ro) (ops:=ops) (Q:=Q) hl hst hf hS hs hr hK
 rwa [List.append_nil] at this
theorem piece_region (hl:ListOk E P ih) {ro:Option Nat} {id:Nat} {ops:Array Oper} {S:Act→Prop} {Q:Exit→Act→World→Prop} {W:World} {cx:Cx} {a:Act} {fr fr':Tr} {h h':Heap} (hst:∀o∈ops.toList,Stab S o.dst)
   (hf:FrRep W cx a.tmps fr) (hS:S a) (hs:Sat E W cx h) (hr:ih (xregP ops.toList ops.toList) fr h=.ok .normal fr' h')
   (hK:∀a' W' cx',Ext W cx W' cx'→Sat E W' cx' h'→FrRep W' cx' a'.tmps fr'→S a'→Q .normal a' W'):(Code.region id ops false).wpIn (WF ro) 0 P Q a W :=
 wpIn_region_list (piece_end hl hst hf hS hs hr hK)
theorem isNone_none {α:Type} {o:Option α} (h:isNone o=true):o=none:=by cases o; rfl; cases h
theorem calmD_mem {ts:List Tmp} {l:List Oper} (h:calmD ts l=true) {o:Oper} (ho:o∈l):∀d,o.dst=some d→d ∉ ts:=by
 have:=List.all_eq_true.1 h o ho
 intro d hd hm
 rw[hd] at this
 simp[hm] at this
theorem isMv0_some {o:Oper} {yt:Tmp} (h:isMv0 o=some yt):o.op=.move (.tmp 0)∧o.dst=some yt:=by
 obtain⟨dst,op,type,pos,after,guard⟩:=o
 unfold isMv0 at h
 cases op with
 | move x =>
   cases x with
   | tmp t =>
     replace h:(bif Nat.beq t 0 then dst else none)=some yt:=h
     cases hc:Nat.beq t 0 with
     | false=>rw[hc] at h; cases h
     | true =>
       rw[hc] at h
       have:=beq_true hc
       subst this
       exact⟨rfl,h⟩
   | _=>cases h
 | _=>cases h
theorem isY_some {o:Oper} {yt yd:Tmp} {args:List Operand} (h:isY yt o=some (yd,args)):∃as tys,o.op=.call ⟨.value (.tmp yt),as,tys⟩∧as.toList=args∧o.dst=some yd:=by
 obtain⟨dst,op,type,pos,after,guard⟩:=o
 unfold isY at h
 cases op with
 | call c =>
   obtain⟨callee,as,tys⟩:=c
   cases callee with
   | value x =>
     cases x with
     | tmp t =>
       replace h:(bif Nat.beq t yt then (match dst with | some d=>some (d,as.toList) | none=>none) else none)=some (yd,args):=h
       cases hc:Nat.beq t yt with
       | false=>rw[hc] at h; cases h
       | true =>
         rw[hc] at h
         have:=beq_true hc
         subst this
         cases dst with
         | none=>cases h
         | some d=>cases h; exact⟨as,tys,rfl,rfl,rfl⟩
     | _=>cases h
   | _=>cases h
 | _=>cases h
theorem splitY_some {yt:Tmp}:∀{l:List Oper} {p:List Oper × Oper × List Oper},splitY yt l=some p→l=p.1++p.2.1::p.2.2
 | [],_,h=>by cases h
 | o::r,p,h=>by
   unfold splitY at h
   cases hy:isY yt o with
   | some q=>rw[hy] at h; cases h; rfl
   | none =>
     rw[hy] at h
     cases hs:splitY yt r with
     | none=>rw[hs] at h; cases h
     | some q =>
       rw[hs] at h; cases h
       have:=splitY_some hs
       rw[this]; rfl
theorem splitM_some:∀{l:List Oper} {p:List Oper × Oper × List Oper},splitM l=some p→l=p.1++p.2.1::p.2.2
 | [],_,h=>by cases h
 | o::r,p,h=>by
   unfold splitM at h
   cases hy:isMv0 o with
   | some q=>rw[hy] at h; cases h; rfl
   | none =>
     rw[hy] at h
     cases hs:splitM r with
     | none=>rw[hs] at h; cases h
     | some q =>
       rw[hs] at h; cases h
       have:=splitM_some hs
       rw[this]; rfl
theorem gdEq_eq {a b:Option (Nat × Bool)} (h:gdEq a b=true):a=b:=by
 cases a with
 | none=>cases b with
   | none=>rfl
   | some q=>cases h
 | some p =>
   cases b with
   | none=>cases h
   | some q =>
     obtain⟨p1,p2⟩:=p
     obtain⟨q1,q2⟩:=q
     unfold gdEq at h
     dsimp only at h
     rw[Bool.and_eq_true] at h
     obtain⟨h1,h2⟩:=h
     have:=beq_true h1
     subst this
     cases p2 <;> cases q2 <;> first | rfl | cases h2
structure YP (ops:List Oper) (p0:List Oper) (m:Oper) (p1:List Oper) (y:Oper) (p2:List Oper) (yt yd:Tmp) (args:List Operand):Prop where
 ops:ops=p0++m::(p1++y::p2)
 mv:isMv0 m=some yt
 yl:isY yt y=some (yd,args)
 gd:m.guard=y.guard
 yt0:yt≠0
 c0:calmD [0] p0=true
 c1:calmD [0,yt] p1=true
 cy:calmD [0] [y]=true
 c2:calmD [0] p2=true
theorem regI_some {ops:List Oper} {ic:IC} (h:regI ops=some ic):(calmD [0] ops=true∧ic=.reg (xregP ops ops)) ∨
   ∃p0 m p1 y p2 yt yd args,YP ops p0 m p1 y p2 yt yd args∧ic=.yreg (xregP ops p0) (guardOf ops m) yt (xregP ops p1) yd args (xregP ops p2):=by
 unfold regI at h
 cases hm:splitM ops with
 | none =>
   rw[hm] at h
   dsimp only at h
   cases hc:calmD [0] ops with
   | false=>rw[hc] at h; cases h
   | true=>rw[hc] at h; cases h; exact .inl ⟨rfl,rfl⟩
 | some q =>
   rw[hm] at h
   have hs:=splitM_some hm
   obtain⟨p0,m,r⟩:=q
   replace h:regY ops (p0,m,r)=some ic:=h
   unfold regY at h
   dsimp only at h hs
   cases h1:isMv0 m with
   | none=>rw[h1] at h; cases h
   | some yt =>
     rw[h1] at h
     dsimp only at h
     cases h2:splitY yt r with
     | none=>rw[h2] at h; cases h
     | some p =>
       rw[h2] at h
       obtain⟨p1,y,p2⟩:=p
       have hs2:=splitY_some h2
       dsimp only at h hs2
       cases h3:isY yt y with
       | none=>rw[h3] at h; cases h
       | some z =>
         rw[h3] at h
         obtain⟨yd,args⟩:=z
         dsimp only at h
         cases hc:(gdEq m.guard y.guard && !(Nat.beq yt 0) && calmD [0] p0 && calmD [0,yt] p1 && calmD [0] [y] && calmD [0] p2) with
         | false=>rw[hc] at h; cases h
         | true =>
           rw[hc] at h
           cases h
           simp only[Bool.and_eq_true,Bool.not_eq_true'] at hc
           obtain⟨⟨⟨⟨⟨c1,c2⟩,c3⟩,c4⟩,c5⟩,c6⟩:=hc
           exact .inr ⟨p0,m,p1,y,p2,yt,yd,args,⟨by rw[hs,hs2],h1,h3,gdEq_eq c1,fun e=>by subst e; simp at c2,c3,c4,c5,c6⟩,rfl⟩
theorem map2_some {f:IC→IC→IC} {a b:Option IC} {c:IC} (h:map2 f a b=some c):∃x y,a=some x∧b=some y∧c=f x y:=by
 cases a with
 | none=>cases h
 | some x=>cases b with
   | none=>cases h
   | some y=>cases h; exact⟨x,y,rfl,rfl,rfl⟩
structure LA (W0:World) (cx0:Cx) (ro:Option Nat) (l:Nat) (st:Loop) (W:World) (cx:Cx):Prop where
 ext:Ext W0 cx0 W cx
 held:cx.held l
 rcd:W.heap[l]?=some (.loop st)
 blk:ro=none→cx.held W0.heap.size∧W.heap[W0.heap.size]?=some (.deferred (some []))
 hi:W0.heap.size≤l
 ne:ro=none→l≠W0.heap.size
section
variable {W0 W W':World} {cx0 cx cx':Cx} {ro:Option Nat} {l:Nat} {st st':Loop} {h:Heap}
theorem LA.mono (la:LA W0 cx0 ro l st W cx) (he:Ext W cx W' cx'):LA W0 cx0 ro l st W' cx' where
 ext:=la.ext.trans he
 held:=(he.hold l (lt_of_heap la.rcd) la.held).1
 rcd:=(he.hold l (lt_of_heap la.rcd) la.held).2.trans la.rcd
 blk hr:=by
   obtain⟨h1,h2⟩:=la.blk hr
   obtain⟨h3,h4⟩:=he.hold _ (lt_of_heap h2) h1
   exact⟨h3,h4.trans h2⟩
 hi:=la.hi
 ne:=la.ne
theorem LA.ext0 (la:LA W0 cx0 ro l st W cx) (hs:Sat E W cx h):Ext0 W cx (W.putObj l (.loop st')) cx :=
 Ext0.putHeld hs la.held la.rcd (fun _ _ _ e=>by cases e) (fun _ _ _ e=>by cases e)
theorem LA.put (la:LA W0 cx0 ro l st W cx) (hs:Sat E W cx h):LA W0 cx0 ro l st' (W.putObj l (.loop st')) cx where
 ext:=la.ext.putHi la.hi (la.ext0 hs)
 held:=la.held
 rcd:=World.putObj_heap_same (lt_of_heap la.rcd)
 blk hr:=⟨(la.blk hr).1,(World.putObj_heap_other fun e=>la.ne hr e.symm).trans (la.blk hr).2⟩
 hi:=la.hi
 ne:=la.ne
end
def goOn (e:Ex):Bool:=match e with | .normal=>true | .exit _=>false | .ret=>false
def endSt (mk:LoopState→Option Code→Loop) (e:Ex):Loop:=match e with | .normal=>mk .ready none | .exit i=>mk .done (some (.exit i)) | .ret=>mk .done (some .ret)
def YOk (E:Env) (P:Program) (W0:World) (cx0:Cx) (ro:Option Nat) (l:Nat) (mk:LoopState→Option Code→Loop) (Y:List AV→Heap→CRes):Prop :=
 ∀(vs:Array Value) (args:List AV) (W:World) (cx:Cx) (h:Heap) (e:Ex) (fr':Tr) (h':Heap),Y args h=.ok e fr' h'→LA W0 cx0 ro l (mk .ready none) W cx→Sat E W cx h→RepL W cx vs.toList args →
   ∃f tmps as bo,(Instr.yield l vs).run P W=.ok (.round l f tmps as bo) W∧RoundIn (WF none) 0 P l f tmps as bo W fun en W' =>
     en=.returned (.bool (goOn e))∧∃cx',LA W0 cx0 ro l (endSt mk e) W' cx'∧Ext0 W cx W' cx'∧Sat E W' cx' h'
def Y0 (l:Nat):Value:=.func (.yield l) #[] #[]
def SI (l nt:Nat) (a:Act):Prop:=a.defers=[]∧a.tmps.getD 0 undef=Y0 l∧a.tmps.size=nt
def SY (l nt:Nat) (yt:Tmp) (a:Act):Prop:=SI l nt a∧a.tmps.getD yt undef=Y0 l
theorem SI.stab {l nt:Nat} {d:Option Tmp} (h:∀t,d=some t→t≠0):Stab (SI l nt) d:=fun a v hp =>
 ⟨by rw[put_defers]; exact hp.1,(put_tmps_ne h).trans hp.2.1,(put_size ..).trans hp.2.2⟩
theorem SY.stab {l nt:Nat} {yt:Tmp} {d:Option Tmp} (h:∀t,d=some t→t≠0) (h':∀t,d=some t→t≠yt):Stab (SY l nt yt) d:=fun a v hp =>
 ⟨SI.stab h a v hp.1,(put_tmps_ne h').trans hp.2⟩
theorem SI.calm {l nt:Nat} {ls:List Oper} (h:calmD [0] ls=true):∀o∈ls,Stab (SI l nt) o.dst:=fun o ho=>SI.stab fun t ht e=>calmD_mem h ho t ht (by simp[e])
theorem SI.calm1 {l nt:Nat} {yt:Tmp} {ls:List Oper} (h:calmD [0,yt] ls=true):∀o∈ls,Stab (SI l nt) o.dst:=fun o ho=>SI.stab fun t ht e=>calmD_mem h ho t ht (by simp[e])
theorem SY.calm {l nt:Nat} {yt:Tmp} {ls:List Oper} (h:calmD [0,yt] ls=true):∀o∈ls,Stab (SY l nt yt) o.dst:=fun o ho=>SY.stab (fun t ht e=>calmD_mem h ho t ht (by simp[e])) (fun t ht e=>calmD_mem h ho t ht (by simp[e]))
theorem thenC_ok {k:Tr→Heap→CRes} {r:CRes} {e:Ex} {fr':Tr} {h':Heap} (hr:thenC k r=.ok e fr' h'):∃fr1 h1,r=.ok .normal fr1 h1∧k fr1 h1=.ok e fr' h':=by
 cases r with
 | bad=>cases hr
 | pan v h=>cases hr
 | ok e1 fr1 h1 =>
   cases e1 with
   | normal=>exact⟨fr1,h1,rfl,hr⟩
   | _=>cases hr
theorem thenI_ok {k:Tr→Heap→IRes} {r:CRes} {e:Ex} {p:Option Ex} {fr':Tr} {h':Heap} (hr:thenI k r=.ok e p fr' h'):∃fr1 h1,r=.ok .normal fr1 h1∧k fr1 h1=.ok e p fr' h':=by
 cases r with
 | bad=>cases hr
 | pan v h=>cases hr
 | ok e1 fr1 h1 =>
   cases e1 with
   | normal=>exact⟨fr1,h1,rfl,hr⟩
   | _=>cases hr
theorem onOB_okI {b:Option Bool} {x y:IRes} {e:Ex} {p:Option Ex} {fr:Tr} {h:Heap} (hr:onOB b .bad x y=.ok e p fr h):(b=some true∧x=.ok e p fr h)∨(b=some false∧y=.ok e p fr h):=by
 cases b with
 | none=>cases hr
 | some b=>cases b; exact .inr ⟨rfl,hr⟩; exact .inl ⟨rfl,hr⟩
theorem cond_bad {b:Bool} {x:CRes} {e:Ex} {fr:Tr} {h:Heap} (hr:(bif b then x else .bad)=.ok e fr h):b=true∧x=.ok e fr h:=by
 cases b with
 | true=>exact⟨rfl,hr⟩
 | false=>cases hr
theorem cond_badI {b:Bool} {x:IRes} {e:Ex} {p:Option Ex} {fr:Tr} {h:Heap} (hr:(bif b then x else .bad)=.ok e p fr h):b=true∧x=.ok e p fr h:=by
 cases b with
 | true=>exact⟨rfl,hr⟩
 | false=>cases hr
def stOf (mk:LoopState→Option Code→Loop) (p:Option Ex):Loop:=endSt mk (exP p)
def IQ (E:Env) (W0:World) (cx0:Cx) (ro:Option Nat) (l nt:Nat) (mk:LoopState→Option Code→Loop) (e:Ex) (p:Option Ex) (fr':Tr) (h':Heap) (ex:Exit) (a:Act) (w:World):Prop :=
 ex=toExit e∧SI l nt a∧∃cx',LA W0 cx0 ro l (stOf mk p) w cx'∧Sat E w cx' h'∧FrRep w cx' a.tmps fr'
section
variable {W0:World} {cx0:Cx} {ro:Option Nat} {l nt:Nat} {mk:LoopState→Option Code→Loop} {Y:List AV→Heap→CRes}
theorem yreg_walk (hl:ListOk E P ih) (hY:YOk E P W0 cx0 ro l mk Y) {id:Nat} {ops:Array Oper} {p0:List Oper} {m:Oper} {p1:List Oper} {y:Oper} {p2:List Oper} {yt yd:Tmp} {args:List Operand} (hp:YP ops.toList p0 m p1 y p2 yt yd args)
   {k:Nat} {p p':Option Ex} {a:Act} {W:World} {cx:Cx} {fr fr':Tr} {h h':Heap} {e:Ex}
   (hr:evI E ih nt Y (k+1) (.yreg (xregP ops.toList p0) (guardOf ops.toList m) yt (xregP ops.toList p1) yd args (xregP ops.toList p2)) p fr h=.ok e p' fr' h') (hf:FrRep W cx a.tmps fr) (hS:SI l nt a) (la:LA W0 cx0 ro l (stOf mk p) W cx) (hs:Sat E W cx h) :
   (Code.region id ops false).wpIn (WF none) 0 P (IQ E W0 cx0 ro l nt mk e p' fr' h') a W:=by
 refine wpIn_region_list ?_
 rw[hp.ops]
 obtain⟨fr1,h1,hr1,hr⟩:=thenI_ok (show thenI (fun fr h=>onOB (guardOk (guardOf ops.toList m) fr) .bad (yesI E ih nt Y (guardOf ops.toList m) yt (xregP ops.toList p1) yd args (xregP ops.toList p2) p fr h) (noI ih (guardOf ops.toList m) yt (xregP ops.toList p1) yd (xregP ops.toList p2) p fr h)) (ih (xregP ops.toList p0) fr h)=.ok e p' fr' h' from hr)
 refine piece hl (SI.calm hp.c0) hf hS hs hr1 fun a1 W1 cx1 he1 hs1 hf1 hS1=>?_
 replace la:=la.mono he1
 obtain⟨m1,m3⟩:=isMv0_some hp.mv
 obtain⟨as,tys,y1,y2,y4⟩:=isY_some hp.yl
 have hyd:yd≠0:=fun e=>calmD_mem hp.cy (List.mem_cons_self ..) yd y4 (by simp[e])
 have hgd:guardOf ops.toList y=guardOf ops.toList m:=by unfold guardOf; rw[hp.gd]
 rcases onOB_okI hr with ⟨hg,hr⟩ | ⟨hg,hr⟩
 · -- it is called
   have hw:=guard_sound (ops:=ops) hf1 m hg
   cases p with
   | some _=>cases hr
   | none =>
     obtain⟨hyt,hr⟩:=cond_badI (show (bif Nat.blt yt nt then thenI (fun fr h=>onOB (guardOk (guardOf ops.toList m) fr) .bad (yldI ih (xregP ops.toList p2) yd fr (Y (opvs E args fr) h)) .bad) (ih (xregP ops.toList p1) (fr1.set yt .any) h1) else .bad)=.ok e p' fr' h' from hr)
     have hyt:=blt_true hyt
     obtain⟨fr2,h2,hr2,hr⟩:=thenI_ok hr
     unfold wpListIn
     rw[if_pos hw]
     refine⟨fun _ _=>trivial,?_⟩
     have hm:((m.semAt (WF none).round a1.eval).run P W1)=.ok (.value (Y0 l)) W1:=by
       rw[show (WF none).round=none from rfl,Oper.semAt_none]
       have:a1.eval (.tmp 0)=Y0 l:=hS1.2.1
       simp[execOp,m1,this]
     rw[hm,Oper.uponIn_value,m3]
     have hSY:SY l nt yt (a1.put (some yt) (Y0 l)):=by
       refine⟨SI.stab (fun t e=>by cases e; exact hp.yt0) a1 _ hS1,?_⟩
       show (a1.tmps.setIfInBounds yt (Y0 l)).getD yt undef=Y0 l
       have:yt < a1.tmps.size:=by rw[hS1.2.2]; exact hyt
       simp[Array.getD,this]
     refine piece hl (S:=SY l nt yt) (SY.calm hp.c1) (hf1.put (some yt) (.any _ rfl)) hSY hs1 hr2 fun a3 W3 cx3 he3 hs3 hf3 hS3=>?_
     replace la:=la.mono he3
     rcases onOB_okI hr with ⟨hg3,hr⟩ | ⟨_,hr⟩
     · have hw3:=guard_sound (ops:=ops) hf3 y (by rw[hgd]; exact hg3)
       unfold wpListIn
       rw[if_pos hw3]
       refine⟨fun _ _=>trivial,?_⟩
       cases hq:Y (opvs E args fr2) h2 with
       | bad=>rw[hq] at hr; cases hr
       | pan v hh=>rw[hq] at hr; cases hr
       | ok e1 fry h3 =>
         rw[hq] at hr
         have hargs:RepL W3 cx3 (as.map a3.eval).toList (opvs E args fr2):=by
           have:=opvs_rep (E:=E) hs3 hf3 args
           rw[← y2] at this ⊢
           simpa using this
         obtain⟨f,tmps,asg,bo,hyr,hround⟩:=hY _ _ W3 cx3 h2 e1 fry h3 hq la hs3 hargs
         have hm:((y.semAt (WF none).round a3.eval).run P W3)=.ok (.round l f tmps asg bo) W3:=by
           rw[show (WF none).round=none from rfl,Oper.semAt_none]
           have:a3.eval (.tmp yt)=.func (.yield l) #[] #[]:=hS3.2
           simp[execOp,y1,resolve,this,Deferred.ofValue,invoke,hyr]
         rw[hm,Oper.uponIn_round]
         refine⟨fun e=>by simp[WF,Fence.wide] at e,hround.mono fun en W4 hen=>?_⟩
         obtain⟨rfl,cx4,la4,he4,hs4⟩:=hen
         show wpListIn (WF none) 0 P ops _ p2 (a3.put y.dst (.bool (goOn e1))) W4
         rw[y4]
         have hS4:SI l nt (a3.put (some yd) (.bool (goOn e1))):=SI.stab (fun t e=>by cases e; exact hyd) a3 _ hS3.1
         have hf4:FrRep W4 cx4 (a3.put (some yd) (.bool (goOn e1))).tmps (fr2.set yd (.bool (goOn e1))):=(hf3.mono0 he4).put (some yd) (.bool _)
         have out:∀(q:Option Ex),exP q=e1→thenI (doneI q) (ih (xregP ops.toList p2) (fr2.set yd (.bool (goOn e1))) h3)=.ok e p' fr' h'→wpListIn (WF none) 0 P ops (IQ E W0 cx0 ro l nt mk e p' fr' h') p2 (a3.put (some yd) (.bool (goOn e1))) W4:=fun q hq hr=>by
           obtain⟨fr5,h5,hr5,hr⟩:=thenI_ok hr
           cases hr
           refine piece_end hl (SI.calm hp.c2) hf4 hS4 hs4 hr5 fun a5 W5 cx5 he5 hs5 hf5 hS5=>⟨rfl,hS5,cx5,?_,hs5,hf5⟩
           unfold stOf
           rw[hq]
           exact la4.mono he5
         cases e1 with
         | normal=>exact out none rfl hr
         | exit i=>exact out (some (.exit i)) rfl hr
         | ret=>exact out (some .ret) rfl hr
     · cases hr
 · -- it is not
   have hw:=guard_sound (ops:=ops) hf1 m hg
   obtain⟨fr2,h2,hr2,hr⟩:=thenI_ok (show thenI (fun fr h=>onOB (guardOk (guardOf ops.toList m) fr) .bad .bad (thenI (doneI p) (ih (xregP ops.toList p2) (fr.set yd skipped) h))) (ih (xregP ops.toList p1) (fr1.set yt skipped) h1)=.ok e p' fr' h' from hr)
   unfold wpListIn
   rw[hw]
   refine⟨fun _ _=>trivial,?_⟩
   rw[m3]
   refine piece hl (S:=SI l nt) (SI.calm1 hp.c1) (hf1.put (some yt) (show Rep W1 cx1 undef skipped from .tup #[] [] rfl (by simp))) (SI.stab (fun t e=>by cases e; exact hp.yt0) a1 _ hS1) hs1 hr2 fun a3 W3 cx3 he3 hs3 hf3 hS3=>?_
   rcases onOB_okI hr with ⟨_,hr⟩ | ⟨hg3,hr⟩
   · cases hr
   · have hw3:=guard_sound (ops:=ops) hf3 y (by rw[hgd]; exact hg3)
     obtain⟨fr5,h5,hr5,hr⟩:=thenI_ok hr
     cases hr
     unfold wpListIn
     rw[hw3]
     refine⟨fun _ _=>trivial,?_⟩
     rw[y4]
     exact piece_end hl (SI.calm hp.c2) (hf3.put (some yd) (show Rep W3 cx3 undef skipped from .tup #[] [] rfl (by simp))) (SI.stab (fun t e=>by cases e; exact hyd) a3 _ hS3) hs3 hr5 fun a5 W5 cx5 he5 hs5 hf5 hS5 =>
       ⟨rfl,hS5,cx5,(la.mono he3).mono he5,hs5,hf5⟩
theorem IQ.seq {k:IF} {b:IC} {r:IRes} {e:Ex} {p':Option Ex} {fr':Tr} {h':Heap} {K:Act→World→Prop} (hr:seqI (k b) r=.ok e p' fr' h')
   (hK:∀p1 fr1 h1 a1 w1,r=.ok .normal p1 fr1 h1→k b p1 fr1 h1=.ok e p' fr' h'→IQ E W0 cx0 ro l nt mk .normal p1 fr1 h1 .normal a1 w1→K a1 w1):∃e1 p1 fr1 h1,r=.ok e1 p1 fr1 h1 ∧
     ∀x a1 w1,IQ E W0 cx0 ro l nt mk e1 p1 fr1 h1 x a1 w1→Exit.then K (IQ E W0 cx0 ro l nt mk e p' fr' h') x a1 w1:=by
 cases r with
 | bad=>cases hr
 | ok e1 p1 fr1 h1 =>
   refine⟨e1,p1,fr1,h1,rfl,fun x a1 w1 hq=>?_⟩
   obtain⟨rfl,hq'⟩:=hq
   cases e1 with
   | normal=>exact hK p1 fr1 h1 a1 w1 rfl hr ⟨rfl,hq'⟩
   | exit i=>cases hr; exact⟨rfl,hq'⟩
   | ret=>cases hr; exact⟨rfl,hq'⟩
theorem it_code (hc:CodeOk E P ih) (hl:ListOk E P ih) (hY:YOk E P W0 cx0 ro l mk Y):∀(k:Nat),
   (∀(c:Code) (ic:IC) (p p':Option Ex) (a:Act) (W:World) (cx:Cx) (fr fr':Tr) (h h':Heap) (e:Ex),parseI c=some ic→evI E ih nt Y k ic p fr h=.ok e p' fr' h'→FrRep W cx a.tmps fr→SI l nt a→LA W0 cx0 ro l (stOf mk p) W cx→Sat E W cx h→c.wpIn (WF none) 0 P (IQ E W0 cx0 ro l nt mk e p' fr' h') a W) ∧
   (∀(c:Code) (ic:IC) (p p':Option Ex) (a:Act) (W:World) (cx:Cx) (fr fr':Tr) (h h':Heap) (e:Ex),parseI c=some ic→evI E ih nt Y k (.loop ic) p fr h=.ok e p' fr' h'→FrRep W cx a.tmps fr→SI l nt a→LA W0 cx0 ro l (stOf mk p) W cx→Sat E W cx h→Code.roundsIn (WF none) 0 P c (IQ E W0 cx0 ro l nt mk e p' fr' h') k a W)
 | 0=>⟨(fun c ic p p' a W cx fr fr' h h' e _ hr=>by cases hr),(fun c ic p p' a W cx fr fr' h h' e _ hr=>by cases hr)⟩
 | k+1=>by
   obtain⟨ihc,ihl⟩:=it_code hc hl hY k
   have round:∀(c:Code) (ic:IC) (p p':Option Ex) (a:Act) (W:World) (cx:Cx) (fr fr':Tr) (h h':Heap) (e:Ex),parseI c=some ic→evI E ih nt Y (k+1) (.loop ic) p fr h=.ok e p' fr' h'→FrRep W cx a.tmps fr→SI l nt a→LA W0 cx0 ro l (stOf mk p) W cx→Sat E W cx h→Code.roundsIn (WF none) 0 P c (IQ E W0 cx0 ro l nt mk e p' fr' h') (k+1) a W:=by
     intro c ic p p' a W cx fr fr' h h' e hpc hr hf hS la hs
     obtain⟨e1,p1,fr1,h1,hr1,hq⟩:=IQ.seq (E:=E) (W0:=W0) (cx0:=cx0) (ro:=ro) (l:=l) (nt:=nt) (mk:=mk) (k:=evI E ih nt Y k) (b:=.loop ic) (r:=evI E ih nt Y k ic p fr h) (K:=Code.roundsIn (WF none) 0 P c (IQ E W0 cx0 ro l nt mk e p' fr' h') k) hr
       (fun p1 fr1 h1 a1 w1 _ hk hq=>by obtain⟨_,hS1,cx1,la1,hs1,hf1⟩:=hq; exact ihl c ic p1 p' a1 w1 cx1 fr1 fr' h1 h' e hpc hk hf1 hS1 la1 hs1)
     rw[roundsIn_succ]
     exact wpIn_mono (ihc c ic p p1 a W cx fr fr1 h h1 e1 hpc hr1 hf hS la hs) hq
   refine⟨fun c ic p p' a W cx fr fr' h h' e hpc hr hf hS la hs=>?_,round⟩
   cases c with
   | skip=>cases hpc; cases hr; exact wpIn_skip ⟨rfl,hS,cx,la,hs,hf⟩
   | exit i=>cases hpc; cases hr; exact wpIn_exit ⟨rfl,hS,cx,la,hs,hf⟩
   | ret=>cases hpc; cases hr; exact wpIn_ret ⟨rfl,hS,cx,la,hs,hf⟩
   | region id ops draw =>
     cases draw with
     | false =>
       have hpc:regI ops.toList=some ic:=hpc
       rcases regI_some hpc with ⟨hcalm,rfl⟩ | ⟨p0,m,p1,y,p2,yt,yd,args,hp,rfl⟩
       · obtain⟨fr1,h1,hr1,hr⟩:=thenI_ok (show thenI (doneI p) (ih (xregP ops.toList ops.toList) fr h)=.ok e p' fr' h' from hr)
         cases hr
         exact piece_region hl (SI.calm hcalm) hf hS hs hr1 fun a1 W1 cx1 he1 hs1 hf1 hS1=>⟨rfl,hS1,cx1,la.mono he1,hs1,hf1⟩
       · exact yreg_walk hl hY hp hr hf hS la hs
     | true =>
       have hpc:(bif calmD [0] ops.toList then some (IC.reg (xc (.region id ops true))) else none)=some ic:=hpc
       cases hcalm:calmD [0] ops.toList with
       | false=>rw[hcalm] at hpc; cases hpc
       | true =>
         rw[hcalm] at hpc
         cases hpc
         obtain⟨fr1,h1,hr1,hr⟩:=thenI_ok (show thenI (doneI p) (ih (xc (.region id ops true)) fr h)=.ok e p' fr' h' from hr)
         cases hr
         refine wpIn_mono (hc none (fun _ _ a=>SI l nt a) (.region id ops true) W cx a fr h (fun _ _ _ _ _ _ h=>h) (fun i o ho _ _=>SI.calm hcalm o (List.mem_of_getElem? (by simpa using ho))) hf hS hs (by rw[hr1]; exact fun e=>by cases e)) fun x a1 w1 hq=>?_
         rw[hr1] at hq
         obtain⟨cx1,he1,hS1,rfl,hs1,hf1⟩:=hq
         exact⟨rfl,hS1,cx1,la.mono he1,hs1,hf1⟩
   | seq x y =>
     obtain⟨ix,iy,h1,h2,rfl⟩:=map2_some (show map2 .seq (parseI x) (parseI y)=some ic from hpc)
     obtain⟨e1,p1,fr1,h1',hr1,hq⟩:=IQ.seq (E:=E) (W0:=W0) (cx0:=cx0) (ro:=ro) (l:=l) (nt:=nt) (mk:=mk) (k:=evI E ih nt Y k) (b:=iy) (r:=evI E ih nt Y k ix p fr h) (K:=y.wpIn (WF none) 0 P (IQ E W0 cx0 ro l nt mk e p' fr' h')) hr
       (fun p1 fr1 h1' a1 w1 _ hk hq=>by obtain⟨_,hS1,cx1,la1,hs1,hf1⟩:=hq; exact ihc y iy p1 p' a1 w1 cx1 fr1 fr' h1' h' e h2 hk hf1 hS1 la1 hs1)
     exact wpIn_seq (wpIn_mono (ihc x ix p p1 a W cx fr fr1 h h1' e1 h1 hr1 hf hS la hs) hq)
   | cond x c d =>
     obtain⟨ix,iy,h1,h2,rfl⟩:=map2_some (show map2 (.cond x) (parseI c) (parseI d)=some ic from hpc)
     have hr:(opv E x fr).onBool .bad (fun t=>match t with | true=>evI E ih nt Y k ix p fr h | false=>evI E ih nt Y k iy p fr h)=.ok e p' fr' h':=hr
     have hx:=opv_rep (E:=E) hs hf x
     cases hv:opv E x fr with
     | bool t =>
       rw[hv] at hr hx
       cases t with
       | true=>exact wpIn_cond_true hx.bool_inv (ihc c ix p p' a W cx fr fr' h h' e h1 hr hf hS la hs)
       | false=>exact wpIn_cond_false hx.bool_inv (ihc d iy p p' a W cx fr fr' h h' e h2 hr hf hS la hs)
     | _=>rw[hv] at hr; cases hr
   | block i x =>
     obtain⟨ix,h1,rfl⟩:=Option.map_eq_some_iff.1 (show (parseI x).map (.block i)=some ic from hpc)
     have hr:blockI i (evI E ih nt Y k ix p fr h)=.ok e p' fr' h':=hr
     cases hq:evI E ih nt Y k ix p fr h with
     | bad=>rw[hq] at hr; cases hr
     | ok e1 p1 fr1 h1' =>
       rw[hq] at hr
       refine wpIn_block (wpIn_mono (ihc x ix p p1 a W cx fr fr1 h h1' e1 h1 hq hf hS la hs) fun ex a1 w1 hi=>?_)
       obtain⟨rfl,hi⟩:=hi
       cases e1 with
       | normal=>cases hr; exact⟨rfl,hi⟩
       | ret=>cases hr; exact⟨rfl,hi⟩
       | exit j =>
         have hr:(bif Nat.beq j i then IRes.ok .normal p1 fr1 h1' else .ok (.exit j) p1 fr1 h1')=.ok e p' fr' h':=hr
         show if j=i then _ else _
         by_cases hj:j=i
         · subst hj
           rw[Nat.beq_refl] at hr
           cases hr
           rw[if_pos rfl]; exact⟨rfl,hi⟩
         · rw[Heap.beq_false hj] at hr
           cases hr
           rw[if_neg hj]; exact⟨rfl,hi⟩
   | loop x =>
     obtain⟨ix,h1,rfl⟩:=Option.map_eq_some_iff.1 (show (parseI x).map .loop=some ic from hpc)
     exact wpIn_loop_rounds (k+1) (round x ix p p' a W cx fr fr' h h' e h1 hr hf hS la hs)
   | _=>cases hpc
def ItQ (E:Env) (W0:World) (cx0:Cx) (ro:Option Nat) (l:Nat) (mk:LoopState→Option Code→Loop) (e:Ex) (h':Heap) (ex:Exit) (a:Act) (w:World):Prop :=
 (ex=.normal∨ex=.ret)∧a.defers=[]∧∃cx',LA W0 cx0 ro l (endSt mk e) w cx'∧Sat E w cx' h'
theorem it_walk (hc:CodeOk E P ih) (hl:ListOk E P ih) {c:Code} {ic:IC} (hm:parseI c=some ic) (hY:YOk E P W0 cx0 ro l mk Y) {caps:List AV} {e:Ex} {fr':Tr} {h h':Heap} (hr:itM E ih (.itf ic) nt caps Y h=.ok e fr' h')
   {a:Act} {W:World} {cx:Cx} (hf:FrRep W cx a.tmps (Tr.enter nt (.any::caps))) (hS:SI l nt a) (la:LA W0 cx0 ro l (mk .ready none) W cx) (hs:Sat E W cx h):c.wpIn (WF none) 0 P (ItQ E W0 cx0 ro l mk e h') a W:=by
 have hr:finI (evI E ih nt Y itMax ic none (Tr.enter nt (.any::caps)) h)=.ok e fr' h':=hr
 cases hq:evI E ih nt Y itMax ic none (Tr.enter nt (.any::caps)) h with
 | bad=>rw[hq] at hr; cases hr
 | ok e1 p1 fr1 h1 =>
   rw[hq] at hr
   refine wpIn_mono ((it_code hc hl hY itMax).1 c ic none p1 a W cx _ fr1 h h1 e1 hm hq hf hS la hs) fun ex a1 w1 hi=>?_
   obtain⟨rfl,hS1,cx1,la1,hs1,_⟩:=hi
   cases e1 with
   | exit j=>cases hr
   | normal=>cases hr; exact⟨.inl rfl,hS1.1,cx1,la1,hs1⟩
   | ret=>cases hr; exact⟨.inr rfl,hS1.1,cx1,la1,hs1⟩
end
end
end Go.AM
/-
 The abstract machine: a range over a function,walked.
-/
namespace Go.AM
section
variable {P:Program} {E:Env} {ih:CodeF}
theorem lenN_eq:∀(l:List Nat),lenN l=l.length
 | []=>rfl
 | _::r=>congrArg Nat.succ (lenN_eq r)
theorem setPs_rep {W:World} {cx:Cx}:∀(ps:List Tmp) (vs:List Value) (l:List AV) (tmps:Array Value) (fr:Tr),RepL W cx vs l→FrRep W cx tmps fr →
   FrRep W cx ((ps.zip vs).foldl (fun tmps (p:Tmp × Value)=>tmps.setIfInBounds p.1 p.2) tmps) (setPs ps l fr)
 | [],vs,l,tmps,fr,_,hf=>hf
 | p::ps,[],l,tmps,fr,hv,hf=>by
   cases l with
   | nil=>exact hf
   | cons x l=>have:=hv.1; simp at this
 | p::ps,v::vs,l,tmps,fr,hv,hf=>by
   cases l with
   | nil=>have:=hv.1; simp at this
   | cons x l =>
     show FrRep W cx ((ps.zip vs).foldl _ (tmps.setIfInBounds p v)) (setPs ps l (fr.set p x))
     refine setPs_rep ps vs l _ _ ⟨by have:=hv.1; simpa using this,fun i u c h1 h2=>hv.2 (i+1) u c (by simpa using h1) (by simpa using h2)⟩ ?_
     have:=FrRep.put (a:=⟨tmps,[]⟩) hf (some p) (hv.2 0 v x rfl rfl)
     exact this
def mkL (fn:FuncId) (tmps:Array Value) (ps:Array Tmp) (ca cb:Code) (dd:Nat) (st:LoopState) (pe:Option Code):Loop :=
 { state:=st,pending:=pe,fn,tmps,params:=ps,assign:=ca,body:=cb,defers:=dd }
theorem round_ok (hc:CodeOk E P ih) {W0:World} {cx0:Cx} {ro:Option Nat} {l:Nat} {fn:FuncId} {tmps:Array Value} {ps:Array Tmp} {ca cb:Code} {dd:Nat} {fr0:Tr} (hf0:FrRep W0 cx0 tmps fr0) :
   YOk E P W0 cx0 ro l (mkL fn tmps ps ca cb dd) (roundY ih ps.toList (xc ca) (xc cb) fr0):=by
 intro vs args W cx h e fr' h' hr la hs hv
 obtain⟨hlen,hr⟩:=cond_bad hr
 obtain⟨fr1,h1,hr1,hr2⟩:=thenC_ok hr
 have hsz:vs.size=ps.size:=by
   have h1:=beq_true hlen
   rw[lenL_eq,lenN_eq] at h1
   have h2:=hv.1
   simp at h1 h2
   omega
 refine⟨fn,_,ca,cb,run_yield la.rcd hsz,roundIn_of_wpIn trivial ?_⟩
 have hf:FrRep W cx ((ps.zip vs).foldl (fun tmps (p:Tmp × Value)=>tmps.setIfInBounds p.1 p.2) tmps) (setPs ps.toList args fr0):=by
   have:=setPs_rep ps.toList vs.toList args tmps fr0 hv (hf0.mono la.ext)
   rw[← Array.foldl_toList,Array.toList_zip]
   exact this
 show ca.wpIn (WF (some l)) 0 P _ _ W
 refine wpIn_mono (hc (some l) (DR l (mkL fn tmps ps ca cb dd .ready none)) ca W cx ⟨_,[]⟩ _ h (DR.mono l _) (stC_all (DR.stab l _) (DR.rf l _) ca) hf ⟨rfl,la.held,la.rcd⟩ hs (by rw[hr1]; exact fun e=>by cases e)) fun x a1 w1 hp=>?_
 rw[hr1] at hp
 obtain⟨cx1,he1,hd1,rfl,hs1,hf1⟩:=hp
 have la1:=la.mono he1
 refine⟨_,run_beginRound la1.rcd rfl,?_⟩
 have e0:=la1.ext0 (st':=mkL fn tmps ps ca cb dd .busy none) hs1
 have la2:=la1.put (st':=mkL fn tmps ps ca cb dd .busy none) hs1
 have hs2:=hs1.putHeld la1.held e0
 show cb.wpIn (WF (some l)) 0 P _ a1 (w1.putObj l (.loop (mkL fn tmps ps ca cb dd .busy none)))
 refine wpIn_mono (hc (some l) (DR l (mkL fn tmps ps ca cb dd .busy none)) cb _ cx1 a1 fr1 h1 (DR.mono l _) (stC_all (DR.stab l _) (DR.rf l _) cb) (hf1.mono0 e0) ⟨hd1.1,la2.held,la2.rcd⟩ hs2 (by rw[hr2]; exact fun e=>by cases e)) fun x a3 w3 hp=>?_
 rw[hr2] at hp
 obtain⟨cx3,he3,hd3,rfl,hs3,hf3⟩:=hp
 have la3:=la2.mono he3
 have fin:∀st,st=endSt (mkL fn tmps ps ca cb dd) e→LA W0 cx0 ro l (endSt (mkL fn tmps ps ca cb dd) e) (w3.putObj l (.loop st)) cx3∧Ext0 W cx (w3.putObj l (.loop st)) cx3∧Sat E (w3.putObj l (.loop st)) cx3 h':=fun st e=>by
   subst e
   have e4:=la3.ext0 (st':=endSt (mkL fn tmps ps ca cb dd) e) hs3
   exact⟨la3.put hs3,((he1.toExt0.trans e0).trans he3.toExt0).trans e4,hs3.putHeld la3.held e4⟩
 cases e with
 | normal=>exact⟨_,_,run_endRound none la3.rcd,rfl,cx3,fin _ rfl⟩
 | exit i=>exact⟨_,_,run_endRound (some (.exit i)) la3.rcd,rfl,cx3,fin _ rfl⟩
 | ret=>exact⟨_,_,run_endRound (some .ret) la3.rcd,rfl,cx3,fin _ rfl⟩
theorem enter_ok {W:World} {cx:Cx} {h:Heap} {ro:Option Nat} {D:DP} (hD:MonoD D) (hst:RfOk ro D) {a:Act} (hd:D W cx a) (hs:Sat E W cx h) (fn:FuncId) (ps:Array Tmp) (ca cb:Code) :
   ∃l mk W1 cx1 dd,(Instr.enterLoop fn a.tmps ps ca cb ro).run P W=.ok (l,mk) W1∧LA W cx ro l (mkL fn a.tmps ps ca cb dd .ready none) W1 cx1∧Sat E W1 cx1 h ∧
     ∀W' cx' st,LA W cx ro l st W' cx'→D W' cx' { a with defers:=mk++a.defers }:=by
 cases ro with
 | none =>
   refine⟨W.heap.size+1,[mark W.heap.size],_,((cx.lay W.heap.size).lay (W.alloc (.deferred (some []))).heap.size),W.heap.size,run_enterLoop_outer fn a.tmps ps ca cb,?_,(hs.lay _).lay _,?_⟩
   · have e1:=Ext.lay W cx (.deferred (some []))
     have e2:=Ext.lay (W.alloc (.deferred (some []))) (cx.lay W.heap.size) (.loop (mkL fn a.tmps ps ca cb W.heap.size .ready none))
     refine⟨e1.trans e2,.inr (by simp),?_,fun _=>⟨.inl (.inr rfl),?_⟩,Nat.le_succ _,fun _=>Nat.succ_ne_self _⟩
     · have:=heap_alloc_new (W.alloc (.deferred (some []))) (.loop (mkL fn a.tmps ps ca cb W.heap.size .ready none))
       rw[World.size_alloc] at this
       exact this
     · exact (heap_alloc_old _ _ (by simp)).trans (heap_alloc_new W _)
   · intro W' cx' st la
     obtain⟨h1,h2⟩:=la.blk rfl
     exact hst W cx a W' cx' _ hd la.ext (Nat.le_refl _) (lt_of_heap h2) h1 h2
 | some l0 =>
   obtain⟨rc,hrc⟩:=hst W cx a hd
   refine⟨W.heap.size,[],_,cx.lay W.heap.size,rc.defers,run_enterLoop_inner hrc fn a.tmps ps ca cb,?_,hs.lay _,?_⟩
   · exact⟨Ext.lay W cx _,.inr rfl,heap_alloc_new W _,(fun e=>by cases e),Nat.le_refl _,(fun e=>by cases e)⟩
   · intro W' cx' st la
     exact hD _ _ _ _ _ la.ext hd
theorem orM_itf {x:Option FM} {y:FM} {m:FM} (h:orM x y=m):x=some m∨(x=none∧y=m):=by
 cases x with
 | none=>exact .inr ⟨rfl,h⟩
 | some z=>cases h; exact .inl rfl
theorem rcMode_some {c:Code} {m:FM} (h:rcMode c=some m):∃id o o' rest d d2 ops,c=.seq (.region id ops false) rest∧ops.toList=[o,o']∧isRc o=some d∧isAs d o'=some d2∧calmC [] rest=true∧m=.rcv d d2 (xc rest):=by
 unfold rcMode at h
 split at h
 · rename_i id ops rest
   split at h
   · rename_i o o' ho
     cases h1:isRc o with
     | none=>rw[h1] at h; cases h
     | some d =>
       rw[h1] at h
       dsimp only at h
       cases h2:isAs d o' with
       | none=>rw[h2] at h; cases h
       | some d2 =>
         rw[h2] at h
         dsimp only at h
         cases h3:calmC [] rest with
         | false=>rw[h3] at h; cases h
         | true=>rw[h3] at h; cases h; exact⟨id,o,o',rest,d,d2,ops,rfl,ho,h1,h2,h3,rfl⟩
   · cases h
 · cases h
theorem dfMode_some {rs:List ResultVar} {x:DfC} {m:FM} (h:dfMode rs x=some m):∃o r g,x.ops.toList.reverse=o::r∧isDf o=some g∧calmL [] r.reverse=true∧x.pre.all (calmC [])=true∧calmC (rs.map slotOf) x.rest=true∧m=.dfr (x.pre.map xc++[xregP x.ops.toList r.reverse]) g (xc x.rest):=by
 unfold dfMode at h
 split at h
 · cases h
 · rename_i o r ho
   cases h1:isDf o with
   | none=>rw[h1] at h; cases h
   | some g =>
     rw[h1] at h
     dsimp only at h
     cases h2:(calmL [] r.reverse && x.pre.all (calmC []) && calmC (rs.map slotOf) x.rest) with
     | false=>rw[h2] at h; cases h
     | true =>
       rw[h2] at h; cases h
       simp only[Bool.and_eq_true] at h2
       exact⟨o,r,g,ho,h1,h2.1.1,h2.1.2,h2.2,rfl⟩
theorem fm_rc {rs:List ResultVar} {c:Code} {m:FM} (h:(bif noRes rs then rcMode c else none)=some m):noRes rs=true∧rcMode c=some m:=by
 cases hn:noRes rs with
 | false=>rw[hn] at h; cases h
 | true=>rw[hn] at h; exact⟨rfl,h⟩
theorem fm_it {rs:List ResultVar} {c:Code} {m:FM} (h:(match parseI c with | some x=>bif noRes rs && handsI x then some (.itf x) else none | none=>none)=some m):∃x,parseI c=some x∧noRes rs=true∧m=.itf x:=by
 cases hp:parseI c with
 | none=>rw[hp] at h; cases h
 | some x =>
   rw[hp] at h
   dsimp only at h
   cases hn:(noRes rs && handsI x) with
   | false=>rw[hn] at h; cases h
   | true =>
     rw[hn] at h
     cases h
     rw[Bool.and_eq_true] at hn
     exact⟨x,rfl,hn.1,rfl⟩
theorem fm_df {rs:List ResultVar} {c:Code} {m:FM} (h:(match parseD c with | some x=>dfMode rs x | none=>none)=some m):∃x,parseD c=some x∧dfMode rs x=some m:=by
 cases hp:parseD c with
 | none=>rw[hp] at h; cases h
 | some x=>rw[hp] at h; exact⟨x,rfl,h⟩
theorem fmOf_cases {rs:List ResultVar} {c:Code} {m:FM} (h:fmOf rs c=m) :
   (noRes rs=true∧rcMode c=some m)∨(∃x,parseD c=some x∧dfMode rs x=some m)∨(∃x,parseI c=some x∧noRes rs=true∧m=.itf x)∨m=.plain:=by
 unfold fmOf at h
 rcases orM_itf h with h | ⟨_,h⟩
 · exact .inl (fm_rc h)
 · rcases orM_itf h with h | ⟨_,h⟩
   · exact .inr (.inl (fm_df h))
   · rcases orM_itf h with h | ⟨_,h⟩
     · exact .inr (.inr (.inl (fm_it h)))
     · exact .inr (.inr (.inr h.symm))
theorem callFunc_run {f : FuncId} {fn : Func} {c : Code} (h1 : P.funcs[f]? = some fn) (h2 : fn.body = some c) (h3 : (fn.name == "runtime.NumGoroutine") = false) (args : Array Value) (w : World) : (callFunc f args).run P w = .ok (.enter f args) w := by
 have hn : ¬ fn.name = "runtime.NumGoroutine" := fun e => by rw [e] at h3; simp at h3
 simp[callFunc,h1,h2,hn]
theorem fn_inv {W:World} {cx:Cx} {v:Value} {f:Nat} {caps:List AV} (h:Rep W cx v (.fn (.func f) [] caps)):∃ws,v=.func (.func f) #[] ws∧RepL W cx ws.toList caps:=by
 cases h with
 | fn f vs ws cs ds hl hl' h h' =>
   have:vs=#[]:=Array.eq_empty_of_size_eq_zero (by simpa using hl)
   subst this
   exact⟨ws,rfl,⟨by simpa using hl',fun i v c p q=>h' i v c (by simpa using p) q⟩⟩
theorem noL_true {l:List AV} (h:noneL l=true):l=[]:=by cases l; rfl; cases h
theorem noRes_true {l:List ResultVar} (h:noRes l=true):l=[]:=by cases l; rfl; cases h
theorem rfnA_inv {ps:List Tmp} {xa xb:XC} {fr:Tr} {h:Heap} {g:AV} (hb:rfnA E ih ps xa xb fr h g≠.bad) :
   ∃f caps fi e fr' h',g=.fn (.func f) [] caps∧E.fn f=some fi∧caps.length+1≤fi.ntmps∧itM E ih fi.mode fi.ntmps caps (roundY ih ps xa xb fr) h=.ok e fr' h'∧rfnA E ih ps xa xb fr h g=.ok e fr h':=by
 cases g with
 | fn f first caps =>
   cases f with
   | func n =>
     have e:rfnA E ih ps xa xb fr h (.fn (.func n) first caps)=bif noneL first then backA fr (itF E ih n caps (roundY ih ps xa xb fr) h) else .bad:=rfl
     rw[e] at hb ⊢
     cases hn:noneL first with
     | false=>rw[hn] at hb; exact absurd rfl hb
     | true =>
       rw[hn] at hb
       have:=noL_true hn
       subst this
       simp only[cond_true] at hb ⊢
       cases hq:itF E ih n caps (roundY ih ps xa xb fr) h with
       | bad=>rw[hq] at hb; exact absurd rfl hb
       | pan v hh=>rw[hq] at hb; exact absurd rfl hb
       | ok ex fr' h' =>
         unfold itF at hq
         cases hf:E.fn n with
         | none=>rw[hf] at hq; cases hq
         | some fi =>
           rw[hf] at hq
           obtain⟨h1,h2⟩:=cond_bad hq
           have h1:=ble_true h1
           rw[lenL_eq] at h1
           exact⟨n,caps,fi,ex,fr',h',rfl,hf,h1,h2,rfl⟩
   | _=>exact absurd rfl hb
 | _=>exact absurd rfl hb
theorem itM_mode {mo:FM} {nt:Nat} {caps:List AV} {Y:List AV→Heap→CRes} {h:Heap} {e:Ex} {fr':Tr} {h':Heap} (hr:itM E ih mo nt caps Y h=.ok e fr' h'):∃c,mo=.itf c:=by
 cases mo with
 | itf c=>exact⟨_,rfl⟩
 | _=>cases hr
theorem rfn_sound (hE:EnvOk E P) (hc:CodeOk E P ih) (hl:ListOk E P ih) {ro:Option Nat} {D:DP} {g:Operand} {ps:Array Tmp} {ca cb:Code} {W:World} {cx:Cx} {a:Act} {fr:Tr} {h:Heap} (hD:MonoD D) (hst:RfOk ro D) (hf:FrRep W cx a.tmps fr) (hd:D W cx a) (hs:Sat E W cx h)
   (hb:rfnA E ih ps.toList (xc ca) (xc cb) fr h (opv E g fr)≠.bad):(Code.rangeFunc g ps ca cb).wpIn (WF ro) 0 P (PostD E W cx D (rfnA E ih ps.toList (xc ca) (xc cb) fr h (opv E g fr))) a W:=by
 obtain⟨f,caps,fi,e,fr',h',hg,hfi,hle,hit,hres⟩:=rfnA_inv hb
 have hv:=opv_rep (E:=E) hs hf g
 rw[hres]
 rw[hg] at hv
 obtain⟨ws,hv,hcaps⟩:=fn_inv hv
 obtain⟨fn,c,h1,h2,h3,h4,h5,h6,h7⟩:=hE.fn f fi hfi
 obtain⟨ic,hmode⟩:=itM_mode hit
 have ⟨hx1,hx2⟩:parseI c=some ic∧noRes fn.results.toList=true:=by
   rcases fmOf_cases h7.symm with ⟨_,h⟩ | ⟨x,_,h⟩ | ⟨x,h1,h2,h⟩ | h
   · obtain⟨_,_,_,_,_,_,_,_,_,_,_,_,h⟩:=rcMode_some h; rw[hmode] at h; cases h
   · obtain⟨_,_,_,_,_,_,_,_,h⟩:=dfMode_some h; rw[hmode] at h; cases h
   · rw[hmode] at h; cases h; exact⟨h1,h2⟩
   · rw[hmode] at h; cases h
 rw[hmode] at hit
 refine wpIn_rangeFunc fun fn0 _=>?_
 obtain⟨l,mk,W1,cx1,dd,hen,la,hs1,hend⟩:=enter_ok (P:=P) hD hst hd hs fn0 ps ca cb
 have eg:=callFunc_run h1 h2 h3
 refine⟨l,mk,W1,{ target:=.fn (.func f) ws,args:=#[Y0 l] },W1,f,#[Y0 l]++ws,W1,hen,?_,fun _ _=>trivial,?_,fun h=>by simp[WF,Fence.wide] at h,?_⟩
 · simp[resolve,rangeCall,hv,Deferred.ofValue,Y0,show ∀v,a.eval (.const v)=v from fun _=>rfl]
 · simp[invoke,eg]
 · refine callsWF.2 (callsWF (ro:=none) (n:=0).1 (callsIn_of_wp (F:=WF none) (n:=0) h1 h2 trivial ?_ rfl))
   have hargs:RepL W1 cx1 (#[Y0 l]++ws).toList (.any::caps):=by
     have:=hcaps.mono la.ext
     simpa using RepL.cons (Rep.any (Y0 l) rfl) this
   have hsz:ws.size=caps.length:=by have:=hcaps.1; simpa using this
   have hfr:=enter_rep hargs (n:=fi.ntmps) (by simpa using hle)
   rw[h5] at hfr hit hle
   refine wpIn_mono (it_walk hc hl hx1 (round_ok hc hf) hit (a:=⟨#[Y0 l]++ws++Array.replicate (fn.ntmps - (#[Y0 l]++ws).size) undef,[]⟩) hfr ⟨rfl,by simp[Array.getD],by simp; omega⟩ la hs1) fun ex a' w' hq=>?_
   obtain⟨hex,hdf,cx',la',hs'⟩:=hq
   have hresults:∃v,(results fn a'.tmps).run P w'=.ok v w':=by
     obtain⟨v,hv,_⟩:=results_sound (P:=P) (fr:=.nil) (tmps:=a'.tmps) (fn:=fn) (vs:=[]) hE hs' (fun x hx=>by rw[noRes_true hx2] at hx; cases hx) (by rw[noRes_true hx2]; rfl)
     exact⟨v,hv⟩
   obtain⟨v,hv⟩:=hresults
   have fin:rangePost (WF ro) 0 P l (PostD E W cx D (.ok e fr h')) { a with defers:=mk++a.defers } (.returned v) w':=by
     have nb:(endSt (mkL fn0 a.tmps ps ca cb dd) e).state≠.busy:=by cases e <;> exact fun e=>by cases e
     have e4:=la'.ext0 (st':={ endSt (mkL fn0 a.tmps ps ca cb dd) e with state:=.exhausted }) hs'
     have la4:=la'.put (st':={ endSt (mkL fn0 a.tmps ps ca cb dd) e with state:=.exhausted }) hs'
     have hs4:=hs'.putHeld la'.held e4
     refine⟨_,_,run_endLoop la'.rcd nb,?_⟩
     have post:PostD E W cx D (.ok e fr h') (toExit e) { a with defers:=mk++a.defers } (w'.putObj l (.loop { endSt (mkL fn0 a.tmps ps ca cb dd) e with state:=.exhausted })) :=
       ⟨cx',la4.ext,hend _ _ _ la4,rfl,hs4,hf.mono la4.ext⟩
     cases e with
     | normal=>exact post
     | exit i=>exact wpIn_exit post
     | ret=>exact wpIn_ret post
   rcases hex with rfl | rfl
   · exact⟨hdf,v,hv,fin⟩
   · exact⟨hdf,v,hv,fin⟩
end
end Go.AM
/-
 The abstract machine: functions that defer a call which recovers; calls; code.
-/
namespace Go.AM
section
variable {P:Program} {E:Env}
theorem resOf_inv {E:Env} {rs:List ResultVar} {fr:Tr} {h:Heap} (hb:resOf (resultsA E rs fr h) h≠.bad):∃vs,resultsA E rs fr h=some vs∧resOf (resultsA E rs fr h) h=.ok (oneOrTup vs) h:=by
 cases hr:resultsA E rs fr h with
 | none=>rw[hr] at hb; exact absurd rfl hb
 | some vs=>exact⟨vs,rfl,rfl⟩
theorem leave_marks {cx:Cx} {fn:Func} {tmps:Array Value} {R:Ending→World→Prop} {J:World→Prop} {n0:Nat} {u:FrameMode} (hu:u≠.run)
   (hJ:∀W r,J W→n0≤r→cx.held r→W.heap[r]?=some (.deferred (some []))→J (W.putObj r (.deferred none)))
   (hend:∀W,J W→LeavesInM (WF none) 0 P fn tmps R [] u W):∀(rs:List Nat) (W:World),rs.Nodup→(∀r∈rs,n0≤r∧cx.held r∧W.heap[r]?=some (.deferred (some [])))→J W→LeavesInM (WF none) 0 P fn tmps R (rs.map mark) u W
 | [],W,_,_,hj=>hend W hj
 | r::rs,W,hn,hr,hj=>by
   obtain⟨h1,h2,h3⟩:=hr r (List.mem_cons_self ..)
   obtain⟨hnr,hn⟩:=List.nodup_cons.1 hn
   refine⟨hu,.inl ⟨r,_,rfl,run_takeDeferred h3,?_⟩⟩
   refine leave_marks hu hJ hend rs _ hn (fun r' hr'=>?_) (hJ W r hj h1 h2 h3)
   obtain⟨h4,h5,h6⟩:=hr r' (List.mem_cons_of_mem _ hr')
   exact⟨h4,h5,(World.putObj_heap_other fun e=>hnr (by subst e; exact hr')).trans h6⟩
theorem nc_d {x:Option (List Deferred)}:NoCells (.deferred x):=fun _ _ _ e=>by cases e
theorem plain_call (hE:EnvOk E P) {ih:CodeF} (hc:CodeOk E P ih) {f:Nat} {fn:Func} {c:Code} (h1:P.funcs[f]?=some fn) (h2:fn.body=some c) {args:Array Value} {l:List AV} {W:World} {cx:Cx} {h:Heap} (hl:RepL W cx args.toList l) (hn:l.length≤fn.ntmps) (hs:Sat E W cx h)
   (hb:afterBody E fn.results.toList (ih (xc c) (Tr.enter fn.ntmps l) h)≠.bad):Calls P f args W ((afterBody E fn.results.toList (ih (xc c) (Tr.enter fn.ntmps l) h)).Post E W cx):=by
 have hfr:=enter_rep hl hn
 have hb1:ih (xc c) (Tr.enter fn.ntmps l) h≠.bad:=fun e=>by rw[e] at hb; exact hb rfl
 refine callsWF.1 (callsIn_of_wp_marks (F:=WF none) (n:=0) h1 h2 trivial (wpIn_mono (hc none (D0 W.heap.size) c W cx ⟨_,[]⟩ _ h (D0.mono _) (stC_all (D0.stab _) (D0.push _) c) hfr ⟨Nat.le_refl _,[],rfl,List.nodup_nil,by simp⟩ hs hb1) fun x a w hp=>?_) rfl)
 obtain⟨cx',he,⟨h0,rs,hrs,hnd,hmk⟩,hp⟩:=hp
 have hmk':∀r∈rs,W.heap.size≤r∧cx'.held r∧w.heap[r]?=some (.deferred (some [])):=fun r hr=>by obtain⟨a1,a2,a3,a4⟩:=hmk r hr; exact⟨a1,a3,a4⟩
 generalize ih (xc c) (Tr.enter fn.ntmps l) h=r at *
 cases r with
 | bad=>exact absurd rfl hb1
 | pan v h' =>
   obtain⟨vv,rfl,h7,h8⟩:=hp
   show LeavesInM (WF none) 0 P fn a.tmps _ a.defers (.panicking _) w
   rw[hrs]
   refine leave_marks (J:=fun w=>Ext W cx w cx'∧Sat E w cx' h'∧Rep w cx' vv v) (fun e=>by cases e) (fun w r hj hr1 hr2 hr3=>?_) (fun w hj=>?_) rs w hnd hmk' ⟨he,h7,h8⟩
   · have e0:=Ext0.putHeld (o:=.deferred none) hj.2.1 hr2 hr3 nc_d nc_d
     exact⟨hj.1.putHi hr1 e0,hj.2.1.putHeld hr2 e0,hj.2.2.mono0 e0⟩
   · exact⟨cx',vv,rfl,hj.1,hj.2.1,hj.2.2⟩
 | ok e fr h' =>
   obtain⟨rfl,h7,h8⟩:=hp
   have key:resOf (resultsA E fn.results.toList fr h') h'≠.bad→LeavesInM (WF none) 0 P fn a.tmps ((resOf (resultsA E fn.results.toList fr h') h').Post E W cx) a.defers .returning w:=by
     intro hb
     obtain⟨vs,hr,hr'⟩:=resOf_inv hb
     rw[hrs,hr']
     refine leave_marks (J:=fun w=>Ext W cx w cx'∧Sat E w cx' h'∧FrRep w cx' a.tmps fr) (fun e=>by cases e) (fun w r hj hr1 hr2 hr3=>?_) (fun w hj=>?_) rs w hnd hmk' ⟨he,h7,h8⟩
     · have e0:=Ext0.putHeld (o:=.deferred none) hj.2.1 hr2 hr3 nc_d nc_d
       exact⟨hj.1.putHi hr1 e0,hj.2.1.putHeld hr2 e0,hj.2.2.mono0 e0⟩
     · obtain⟨v,h9,h10⟩:=results_sound (P:=P) hE hj.2.1 (fun x _=>hj.2.2.rep _) hr
       exact⟨v,h9,cx',hj.1,hj.2.1,h10⟩
   cases e with
   | exit i=>exact absurd rfl hb
   | normal=>exact key hb
   | ret=>exact key hb
theorem told_call (hE:EnvOk E P) {f:Nat} (ht:E.told f=true) {args:Array Value} {l:List AV} {W:World} {cx:Cx} {h:Heap} (hl:RepL W cx args.toList l) (hs:Sat E W cx h) (hb:toldA l h≠.bad) :
   (∃ fn c, P.funcs[f]? = some fn ∧ fn.body = some c ∧ (fn.name == "runtime.NumGoroutine") = false) ∧ Calls P f args W ((toldA l h).Post E W cx) := by
 obtain⟨g,fn,c,hg,h1,h2,h3,h4⟩:=hE.told f ht
 refine⟨⟨fn,c,h1,h2,h3⟩,?_⟩
 obtain⟨⟨m,hm⟩,_,_⟩:=hs.gl.int g hg
 cases l with
 | nil=>exact absurd rfl hb
 | cons x r =>
   cases r with
   | nil=>exact absurd rfl hb
   | cons y r =>
     have e:toldA (x::y::r) h=bif noneL r then x.onStr .bad (fun s=>y.onStr .bad fun p=>bif Nat.ble (lenS s) 4000000000 || oneB p then (match contS p s with | true=>.ok (.bool true) h | false=>.ok (.bool false) h) else .bad) else .bad:=rfl
     rw[e] at hb ⊢
     cases hn:noneL r with
     | false=>rw[hn] at hb; exact absurd rfl hb
     | true =>
       rw[hn] at hb
       have:=noL_true hn
       subst this
       simp only[cond_true] at hb ⊢
       cases x with
       | str s =>
         cases y with
         | str p =>
           have hb:(bif Nat.ble (lenS s) 4000000000 || oneB p then (match contS p s with | true=>Res.ok (.bool true) h | false=>.ok (.bool false) h) else .bad)≠.bad:=hb
           show Calls P f args W ((bif Nat.ble (lenS s) 4000000000 || oneB p then (match contS p s with | true=>Res.ok (.bool true) h | false=>.ok (.bool false) h) else .bad).Post E W cx)
           cases hle:(Nat.ble (lenS s) 4000000000 || oneB p) with
           | false=>rw[hle] at hb; exact absurd rfl hb
           | true =>
             have hle:s.length≤4000000000∨p.length=1:=by
               rcases Bool.or_eq_true_iff.1 hle with h1 | h1
               · have h1:=ble_true h1
                 rw[lenS_eq] at h1
                 exact .inl h1
               · cases p with
                 | nil=>cases h1
                 | cons a q=>cases q with
                   | nil=>exact .inr rfl
                   | cons b q=>cases h1
             obtain⟨v1,hv1,hr1⟩:=hl.get (i:=0) rfl
             obtain⟨v2,hv2,hr2⟩:=hl.get (i:=1) rfl
             obtain⟨s',rfl,hs'⟩:=hr1.str_inv
             obtain⟨p',rfl,hp'⟩:=hr2.str_inv
             have hargs:args=#[.string s',.string p']:=by
               have hlen:args.size=2:=by have:=hl.1; simpa using this
               apply Array.ext_getElem?
               intro i
               match i with
               | 0=>simpa using hv1
               | 1=>simpa using hv2
               | i+2=>simp[hlen]
             subst hargs
             have hsz:s'.size < 4294967281∨p'.size=1:=by
               rcases hle with hle | hle
               · have:s'.size=s'.data.toList.length:=by simp
                 exact .inl (by rw[this,hs']; omega)
               · have:p'.size=p'.data.toList.length:=by simp
                 exact .inr (by rw[this,hp']; exact hle)
             refine (h4 s' p' m W hsz hm).mono fun en w' he=>?_
             obtain⟨rfl,rfl⟩:=he
             simp only[cond_true]
             rw[hs',hp']
             cases contS p s with
             | true=>exact⟨cx,Ext.refl _ _,hs,.bool _⟩
             | false=>exact⟨cx,Ext.refl _ _,hs,.bool _⟩
         | _=>exact absurd rfl hb
       | _=>exact absurd rfl hb
theorem wanted_none {o:Oper} {f:Nat→Option Bool} (h:o.guard=none):Region.wanted o f=true:=by unfold Region.wanted; rw[h]
theorem isRc_some {o:Oper} {d:Tmp} (h:isRc o=some d):∃as tys,o.op=.call ⟨.builtin .recover,as,tys⟩∧as.toList=[]∧o.guard=none∧o.dst=some d:=by
 obtain⟨dst,op,type,pos,after,guard⟩:=o
 unfold isRc at h
 cases op with
 | call c =>
   obtain⟨callee,as,tys⟩:=c
   cases callee with
   | builtin b =>
     cases b with
     | recover =>
       replace h:(bif isNone guard && (match as.toList with | []=>true | _=>false) then dst else none)=some d:=h
       cases hc:(isNone guard && (match as.toList with | []=>true | _=>false)) with
       | false=>rw[hc] at h; cases h
       | true =>
         rw[hc] at h
         rw[Bool.and_eq_true] at hc
         refine⟨as,tys,rfl,?_,isNone_none hc.1,h⟩
         have:=hc.2
         show as.toList=[]
         cases ha:as.toList with
         | nil=>rfl
         | cons x r=>rw[ha] at this; cases this
     | _=>cases h
   | _=>cases h
 | _=>cases h
theorem isAs_some {o:Oper} {d d2:Tmp} (h:isAs d o=some d2):o.op=.assign (.tmp d)∧o.guard=none∧o.dst=some d2:=by
 obtain⟨dst,op,type,pos,after,guard⟩:=o
 unfold isAs at h
 cases op with
 | assign x =>
   cases x with
   | tmp t =>
     replace h:(bif Nat.beq t d && isNone guard then dst else none)=some d2:=h
     cases hc:(Nat.beq t d && isNone guard) with
     | false=>rw[hc] at h; cases h
     | true =>
       rw[hc] at h
       rw[Bool.and_eq_true] at hc
       obtain⟨hc1,hc2⟩:=hc
       have:=beq_true hc1
       subst this
       exact⟨rfl,isNone_none hc2,h⟩
   | _=>cases h
 | _=>cases h
theorem isDf_some {o:Oper} {g:Operand} (h:isDf o=some g):∃as tys,o.op=.defer ⟨.value g,as,tys⟩∧as.toList=[]∧o.guard=none∧o.dst=none:=by
 obtain⟨dst,op,type,pos,after,guard⟩:=o
 unfold isDf at h
 cases op with
 | defer c =>
   obtain⟨callee,as,tys⟩:=c
   cases callee with
   | value x =>
     replace h:(bif isNone guard && isNone dst && (match as.toList with | []=>true | _=>false) then some x else none)=some g:=h
     cases hc:(isNone guard && isNone dst && (match as.toList with | []=>true | _=>false)) with
     | false=>rw[hc] at h; cases h
     | true =>
       rw[hc] at h
       cases h
       rw[Bool.and_eq_true,Bool.and_eq_true] at hc
       refine⟨as,tys,rfl,?_,isNone_none hc.1.1,isNone_none hc.1.2⟩
       have:=hc.2
       show as.toList=[]
       cases ha:as.toList with
       | nil=>rfl
       | cons x r=>rw[ha] at this; cases this
   | _=>cases h
 | _=>cases h
inductive Mode:FrameMode→FrameMode→Value→Prop
 | ret:Mode .returning .returning .nilIface
 | pan (v:Value):Mode (.panicking [{ v:=v,recovered:=false }]) (.panicking [{ v:=v,recovered:=true }]) v
theorem Mode.settle {u u':FrameMode} {v:Value} (h:Mode u u' v):Go.settle u'=.returning:=by
 cases h with
 | ret=>rfl
 | pan v=>simp[Go.settle]
theorem rcvA_inv {ih:CodeF} {x p:AV} {h h':Heap} {v:AV} (hr:rcvA E ih x p h=.ok v h'):∃f caps fi d d2 rest e fr',x=.fn (.func f) [] caps∧E.fn f=some fi∧caps.length≤fi.ntmps∧fi.results=[]∧fi.mode=.rcv d d2 rest∧d < fi.ntmps∧(e=.normal∨e=.ret) ∧
   ih rest (((Tr.enter fi.ntmps caps).set d p).set d2 p) h=.ok e fr' h':=by
 cases x with
 | fn f first caps =>
   cases f with
   | func n =>
     have hr:(bif noneL first then rcvF E ih n caps p h else .bad)=.ok v h':=hr
     cases hn:noneL first with
     | false=>rw[hn] at hr; cases hr
     | true =>
       rw[hn] at hr
       have:=noL_true hn
       subst this
       have hr:rcvF E ih n caps p h=.ok v h':=hr
       unfold rcvF at hr
       cases hf:E.fn n with
       | none=>rw[hf] at hr; cases hr
       | some fi =>
         rw[hf] at hr
         dsimp only at hr
         cases hc:(Nat.ble (lenL caps) fi.ntmps && noRes fi.results) with
         | false=>rw[hc] at hr; cases hr
         | true =>
           rw[hc] at hr
           rw[Bool.and_eq_true] at hc
           have h1:=ble_true hc.1
           rw[lenL_eq] at h1
           cases hm:fi.mode with
           | rcv d d2 rest =>
             rw[hm] at hr
             have hr:(bif Nat.blt d fi.ntmps then rcvEnd (ih rest (((Tr.enter fi.ntmps caps).set d p).set d2 p) h) else .bad)=.ok v h':=hr
             cases hlt:Nat.blt d fi.ntmps with
             | false=>rw[hlt] at hr; cases hr
             | true =>
             rw[hlt] at hr
             simp only[cond_true] at hr
             cases hq:ih rest (((Tr.enter fi.ntmps caps).set d p).set d2 p) h with
             | bad=>rw[hq] at hr; cases hr
             | pan v hh=>rw[hq] at hr; cases hr
             | ok e fr1 h1' =>
               rw[hq] at hr
               cases e with
               | exit i=>cases hr
               | normal=>cases hr; exact⟨n,caps,fi,d,d2,rest,_,fr1,rfl,hf,h1,noRes_true hc.2,hm,blt_true hlt,.inl rfl,hq⟩
               | ret=>cases hr; exact⟨n,caps,fi,d,d2,rest,_,fr1,rfl,hf,h1,noRes_true hc.2,hm,blt_true hlt,.inr rfl,hq⟩
           | _=>rw[hm] at hr; cases hr
   | _=>cases hr
 | _=>cases hr
theorem rcv_call (hE:EnvOk E P) {ih:CodeF} (hc:CodeOk E P ih) {f:Nat} {caps:List AV} {fi:FI} {d d2:Tmp} {rest:XC} {e:Ex} {fr':Tr} {h h':Heap} {p:AV} {pv:Value} {u u':FrameMode} (hu:Mode u u' pv) (hfi:E.fn f=some fi) (hle:caps.length≤fi.ntmps) (hres:fi.results=[]) (hm:fi.mode=.rcv d d2 rest) (hdl:d < fi.ntmps) (he:e=.normal∨e=.ret)
   (hr:ih rest (((Tr.enter fi.ntmps caps).set d p).set d2 p) h=.ok e fr' h') {ws:Array Value} {W:World} {cx:Cx} (hws:RepL W cx ws.toList caps) (hp:Rep W cx pv p) (hs:Sat E W cx h) :
   CallsDIn (WF none) 0 P f ws u W fun en u1 w=>u1=u'∧∃v,en=.returned v∧∃cx',Ext W cx w cx'∧Sat E w cx' h':=by
 obtain⟨fn,c,h1,h2,h3,h4,h5,h6,h7⟩:=hE.fn f fi hfi
 rw[hres] at h6
 rw[hm] at h7
 have ⟨hx1,hx2⟩:noRes fn.results.toList=true∧rcMode c=some (.rcv d d2 rest):=by
   rcases fmOf_cases h7.symm with h | ⟨x,_,h⟩ | ⟨x,_,_,h⟩ | h
   · exact h
   · obtain⟨_,_,_,_,_,_,_,_,h⟩:=dfMode_some h; cases h
   · cases h
   · cases h
 obtain⟨id,o,o',rest',d',d2',ops,hcode,hops,ho,ho',hcalm,hrr⟩:=rcMode_some hx2
 cases hrr
 obtain⟨as,tys,r1,r2,r3,r4⟩:=isRc_some ho
 obtain⟨s1,s2,s3⟩:=isAs_some ho'
 have hfr:=enter_rep hws hle
 rw[h5] at hfr hr
 refine callsDIn_of_wpSIn h1 h2 trivial fun c₀ cs hmode=>?_
 rw[hcode]
 refine wpSIn_seq (wpSIn_region ?_)
 have hsz:ops.size=2:=by have:=congrArg List.length hops; simpa using this
 have hg0:ops[0]?=some o:=by rw[← Array.getElem?_toList,hops]; rfl
 have hg1:ops[1]?=some o':=by rw[← Array.getElem?_toList,hops]; rfl
 rw[hsz]
 show wpOpsSIn (WF none) 0 P ops _ [0,1] _ _ _
 have run1:∀(a:Act) w,(execOp a.eval o).run P w=.ok .recover w:=fun a w=>by
   have:as=#[]:=by cases as; simp at r2; rw[r2]
   simp[execOp,r1,resolve,this,invoke,builtin]
 have run2:∀(a:Act) w,(execOp a.eval o').run P w=.ok (.value (a.tmps.getD d undef)) w:=fun a w=>by
   have:a.eval (.tmp d)=a.tmps.getD d undef:=rfl
   simp[execOp,s1,this]
 have key:∀(cs':List Frame),cs'={ c₀ with mode:=u' }::cs →
     (rest'.wpSIn (WF none) 0 P (bodyPostS P fn c₀ cs fun en u1 w=>u1=u'∧∃v,en=.returned v∧∃cx',Ext W cx w cx'∧Sat E w cx' h') (((⟨ws++Array.replicate (fn.ntmps - ws.size) undef,[]⟩:Act).put (some d) pv).put (some d2) (((⟨ws++Array.replicate (fn.ntmps - ws.size) undef,[]⟩:Act).put (some d) pv).tmps.getD d undef)) cs' W):=by
   intro cs' hcs'
   subst hcs'
   have hf1:FrRep W cx ((⟨ws++Array.replicate (fn.ntmps - ws.size) undef,[]⟩:Act).put (some d) pv).tmps ((Tr.enter fn.ntmps caps).set d p):=hfr.put (a:=⟨_,[]⟩) (some d) hp
   have hd:Rep W cx (((⟨ws++Array.replicate (fn.ntmps - ws.size) undef,[]⟩:Act).put (some d) pv).tmps.getD d undef) (((Tr.enter fn.ntmps caps).set d p).get d):=hf1.rep d
   have hf2:FrRep W cx (((⟨ws++Array.replicate (fn.ntmps - ws.size) undef,[]⟩:Act).put (some d) pv).put (some d2) (((⟨ws++Array.replicate (fn.ntmps - ws.size) undef,[]⟩:Act).put (some d) pv).tmps.getD d undef)).tmps (((Tr.enter fn.ntmps caps).set d p).set d2 p):=by
     have hlt:d < (ws++Array.replicate (fn.ntmps - ws.size) undef).size:=by
       rw[h5] at hdl
       rw[Array.size_append,Array.size_replicate]
       exact Nat.lt_of_lt_of_le hdl (by omega)
     have:((⟨ws++Array.replicate (fn.ntmps - ws.size) undef,[]⟩:Act).put (some d) pv).tmps.getD d undef=pv:=by
       show ((ws++Array.replicate (fn.ntmps - ws.size) undef).setIfInBounds d pv).getD d undef=pv
       rw[Array.getD_eq_getD_getElem?,Array.getElem?_setIfInBounds_self,if_pos hlt]
       rfl
     rw[this]
     exact hf1.put (some d2) hp
   refine wpSIn_of_wpIn rfl (wpIn_mono (hc none DE rest' W cx _ _ h DE.mono (stC_calm (fun d _=>DE.stab d) rest' hcalm) hf2 rfl hs (by rw[hr]; exact fun e=>by cases e)) fun x a w hq=>?_)
   rw[hr] at hq
   obtain⟨cx',hex,hd',rfl,hs',_⟩:=hq
   have hresults:∃v,(results fn a.tmps).run P w=.ok v w:=by
     obtain⟨v,hv,_⟩:=results_sound (P:=P) (fr:=.nil) (tmps:=a.tmps) (fn:=fn) (vs:=[]) hE hs' (fun x hx=>by rw[← h6] at hx; cases hx) (by rw[← h6]; rfl)
     exact⟨v,hv⟩
   obtain⟨v,hv⟩:=hresults
   rcases he with rfl | rfl
   · exact⟨hd',u',rfl,v,hv,rfl,v,rfl,cx',hex,hs'⟩
   · exact⟨hd',u',rfl,v,hv,rfl,v,rfl,cx',hex,hs'⟩
 unfold wpOpsSIn
 rw[hg0]
 refine⟨fun _ _=>trivial,?_⟩
 rw[if_pos (wanted_none r3),run1,r4]
 dsimp only
 have second:∀(cs':List Frame),cs'={ c₀ with mode:=u' }::cs→wpOpsSIn (WF none) 0 P ops (Exit.thenS (rest'.wpSIn (WF none) 0 P (bodyPostS P fn c₀ cs fun en u1 w=>u1=u'∧∃v,en=.returned v∧∃cx',Ext W cx w cx'∧Sat E w cx' h')) (bodyPostS P fn c₀ cs fun en u1 w=>u1=u'∧∃v,en=.returned v∧∃cx',Ext W cx w cx'∧Sat E w cx' h')) [1] ((⟨ws++Array.replicate (fn.ntmps - ws.size) undef,[]⟩:Act).put (some d) pv) cs' W:=by
   intro cs' hcs'
   unfold wpOpsSIn
   rw[hg1]
   refine⟨fun _ _=>trivial,?_⟩
   rw[if_pos (wanted_none s2),run2,s3]
   exact key cs' hcs'
 cases hu with
 | ret =>
   have hrec:recoverD (c₀::cs)=none:=by simp[recoverD,hmode]
   rw[hrec]
   exact second _ (by rw[← hmode])
 | pan v =>
   have hrec:recoverD (c₀::cs)=some (pv,{ c₀ with mode:=.panicking [{ v:=pv,recovered:=true }] }::cs):=by simp[recoverD,hmode]
   rw[hrec]
   exact second _ rfl
end
end Go.AM
/-
 The abstract machine: maps.DeleteFunc,told of: its predicate is called at each entry,in whatever order.
-/
namespace Go.AM
section
variable {P:Program} {E:Env}
theorem Rep.cut {W1 W2:World} {cx1 cx2:Cx} {H:Nat→Prop} {v:Value} {a:AV} (h:Rep W2 cx2 v a):∀{v0:Value},Rep W1 cx1 v0 a→Rep W2 ⟨cx2.μ,cx1.nx,cx2.own,H⟩ v a:=by
 have get:∀{vs:Array Value} {cs:List AV} {i:Nat} {c:AV},vs.size=cs.length→cs[i]?=some c→∃v,vs[i]?=some v:=fun {vs cs i c} hl hc=>by
   have:i < cs.length:=by
     rcases Nat.lt_or_ge i cs.length with h' | h'
     · exact h'
     · rw[List.getElem?_eq_none h'] at hc; cases hc
   exact⟨vs[i],Array.getElem?_eq_getElem (by omega)⟩
 induction h with
 | int k n=>intro _ _; exact .int k n
 | bool b=>intro _ _; exact .bool b
 | str s=>intro _ _; exact .str s
 | agg vs cs hl _ ih =>
   intro v0 h0
   cases h0 with
   | agg vs0 _ hl0 h0=>exact .agg vs cs hl fun i v c h1 h2=>by obtain⟨u,hu⟩:=get hl0 h2; exact ih i v c h1 h2 (h0 i u c hu h2)
 | tup vs cs hl _ ih =>
   intro v0 h0
   cases h0 with
   | tup vs0 _ hl0 h0=>exact .tup vs cs hl fun i v c h1 h2=>by obtain⟨u,hu⟩:=get hl0 h2; exact ih i v c h1 h2 (h0 i u c hu h2)
 | fsl a b o n cap es full sz g hn hc hf ha hsz hcell hone _ hnn ih =>
   intro v0 h0
   cases h0 with
   | fsl a0 b0 o0 n0 cap0 _ _ sz0 g0 hn0 hc0 hf0 ha0 hsz0 hcell0 hone0 hrep0 _=>exact .fsl a b o n cap es full sz g hn hc hf ha hsz hcell hone (fun i e j c h1 h2=>ih i e j c h1 h2 (hrep0 i e j c h1 h2)) hnn
 | fptr b o off v g ho hb hcell hone _ ih =>
   intro v0 h0
   cases h0 with
   | fptr b0 o0 _ _ g0 ho0 hb0 hcell0 hone0 hrep0=>exact .fptr b o off v g ho hb hcell hone fun j c h1=>ih j c h1 (hrep0 j c h1)
 | msl a n cap id off sz hid hz hb hc ha hnn =>
   intro v0 h0
   cases h0 with
   | msl _ _ _ _ _ _ hid0 _ _ _ _ _=>exact .msl a n cap id off sz hid0 hz hb hc ha hnn
 | nilsl=>intro _ _; exact .nilsl
 | ptr id i off hid hb =>
   intro v0 h0
   cases h0 with
   | ptr _ _ _ hid0 hb0=>exact Rep.ptr (cx:=⟨cx2.μ,cx1.nx,cx2.own,H⟩) id i off hid0 hb
 | nilptr=>intro _ _; exact .nilptr
 | nilmap=>intro _ _; exact .nilmap
 | map id hid hb =>
   intro v0 h0
   cases h0 with
   | map _ hid0 hb0=>exact Rep.map (cx:=⟨cx2.μ,cx1.nx,cx2.own,H⟩) id hid0 hb
 | fn f vs ws cs ds hl hl' _ _ ih ih' =>
   intro v0 h0
   cases h0 with
   | fn _ vs0 ws0 _ _ hl0 hl0' h0 h0' =>
     exact .fn f vs ws cs ds hl hl' (fun i v c h1 h2=>by obtain⟨u,hu⟩:=get hl0 h2; exact ih i v c h1 h2 (h0 i u c hu h2)) (fun i v c h1 h2=>by obtain⟨u,hu⟩:=get hl0' h2; exact ih' i v c h1 h2 (h0' i u c hu h2))
 | nilfn=>intro _ _; exact .nilfn
 | iface t v a _ ih =>
   intro v0 h0
   cases h0 with
   | iface _ v0 _ h0=>exact .iface t v a (ih h0)
 | niliface=>intro _ _; exact .niliface
 | any v hv=>intro _ _; exact .any v hv
 | und v=>intro _ _; exact .und v
theorem ObjRep.cut {W1 W2:World} {cx1 cx2:Cx} {H:Nat→Prop} {p p0:Nat × Nat × Nat} {o:AObj} (h:ObjRep W2 cx2 p o) (h0:ObjRep W1 cx1 p0 o):ObjRep W2 ⟨cx2.μ,cx1.nx,cx2.own,H⟩ p o:=by
 cases o with
 | row es sz =>
   obtain⟨h1,c,t,g,h2,h3,h4,h5⟩:=h
   obtain⟨_,_,_,_,_,_,_,k5⟩:=h0
   exact⟨h1,c,t,g,h2,h3,h4,fun i e j c' a b=>let ⟨x,y,z⟩:=h5 i e j c' a b; ⟨x,y,z.cut (k5 i e j c' a b).2.2⟩⟩
 | mapo es =>
   obtain⟨ents,clock,l,h1,hp,h2,h3,h4,h5⟩:=h
   obtain⟨ents0,clock0,l0,k1,_,k2,k3,_,_⟩:=h0
   refine⟨ents,clock,l,h1,hp,h2,fun i e q a b=>?_,h4,h5⟩
   have:i < es.length:=by
     rcases Nat.lt_or_ge i es.length with h' | h'
     · exact h'
     · rw[List.getElem?_eq_none h'] at b; cases b
   obtain⟨x,y⟩:=h3 i e q a b
   obtain⟨x0,y0⟩:=k3 i (l0[i]'(by omega)) q (List.getElem?_eq_getElem _) b
   exact⟨x.cut x0,y.cut y0⟩
def Cx.holds (cx:Cx) (H:Nat→Prop):Cx:=⟨cx.μ,cx.nx,cx.own,fun i=>cx.held i∨H i⟩
theorem Cx.holds_ext (W:World) (cx:Cx) (H:Nat→Prop):Ext W cx W (cx.holds H):=⟨⟨Nat.le_refl _,fun _ _=>rfl,Nat.le_refl _,fun _ _ _=>rfl,fun _ _=>rfl,fun _ _ h=>h⟩,fun _ _ h=>⟨.inl h,rfl⟩,rfl,rfl,rfl⟩
theorem Sat.holds {W:World} {cx:Cx} {h:Heap} (hs:Sat E W cx h) {H:Nat→Prop} (hH:∀b,H b→b < W.heap.size∧cx.own b) (hf:∀id o,h.get id=some o→¬ H (cx.μ id).1):Sat E W (cx.holds H) h where
 nx:=hs.nx
 objs id o ho:=by obtain⟨h1,h2,h3,h4⟩:=hs.objs id o ho; exact⟨h1,h2,h3,h4.mono (Cx.holds_ext W cx H) rfl⟩
 inj:=hs.inj
 gl:=hs.gl.mono (Cx.holds_ext W cx H)
 held b hb:=hb.elim (hs.held b) (hH b)
 free id o ho hh:=hh.elim (hs.free id o ho) (hf id o ho)
theorem Sat.forget {W1 W2:World} {cx1 cx2:Cx} {H:Nat→Prop} {h h1:Heap} (hs:Sat E W1 cx1 h) (he:Ext W1 (cx1.holds H) W2 cx2) (hs2:Sat E W2 cx2 h1) (hg:∀i,i < h.next→h1.get i=h.get i) :
   Ext W1 cx1 W2 ⟨cx2.μ,cx1.nx,cx2.own,cx1.held⟩∧Sat E W2 ⟨cx2.μ,cx1.nx,cx2.own,cx1.held⟩ h:=by
 have hext:Ext W1 cx1 W2 ⟨cx2.μ,cx1.nx,cx2.own,cx1.held⟩:=⟨⟨Nat.le_refl _,he.mu,he.sz,he.keep,he.shape,he.own⟩,fun b hb hh=>⟨hh,(he.hold b hb (.inl hh)).2⟩,he.out⟩
 refine⟨hext,⟨hs.nx,fun id o ho=>?_,fun id id' o o' ho ho' e=>?_,hs.gl.mono hext,fun b hb=>?_,fun id o ho hh=>?_⟩⟩
 · obtain⟨k1,k2,k3,k4⟩:=hs.objs id o ho
   have h1o:h1.get id=some o:=by rw[hg id (by rw[hs.nx]; exact k1)]; exact ho
   obtain⟨_,m2,m3,m4⟩:=hs2.objs id o h1o
   exact⟨k1,m2,m3,m4.cut k4⟩
 · have e1:=he.mu id (hs.objs id o ho).1
   have e2:=he.mu id' (hs.objs id' o' ho').1
   exact hs.inj id id' o o' ho ho' (by rw[← show cx2.μ id=cx1.μ id from e1,← show cx2.μ id'=cx1.μ id' from e2]; exact e)
 · obtain⟨k1,k2⟩:=hs.held b hb
   exact hs2.held b (he.hold b k1 (.inl hb)).1
 · have e1:cx2.μ id=cx1.μ id:=he.mu id (hs.objs id o ho).1
   rw[show (Cx.μ ⟨cx2.μ,cx1.nx,cx2.own,cx1.held⟩ id)=cx2.μ id from rfl,e1] at hh
   exact hs.free id o ho hh
theorem callPl_sound (hE:EnvOk E P) {ih:CodeF} (hc:CodeOk E P ih) (hi:∀(c:XC) (fr:Tr) (h h':Heap),CRes.heap (ih c fr h)=some h'→Pres h h') {f:Nat} {args:Array Value} {l:List AV} {W:World} {cx:Cx} {h:Heap}
   (hl:RepL W cx args.toList l) (hs:Sat E W cx h) (hb:callPl E ih f l h≠.bad):HasBody P f∧Calls P f args W ((callPl E ih f l h).Post E W cx)∧∀h',Res.heap (callPl E ih f l h)=some h'→Pres h h':=by
 unfold callPl at hb ⊢
 cases hfi:E.fn f with
 | none=>rw[hfi] at hb; exact absurd rfl hb
 | some fi =>
   rw[hfi] at hb
   obtain⟨fn,c,h1,h2,h3,h4,h5,h6,h7⟩:=hE.fn f fi hfi
   dsimp only at hb ⊢
   cases hn:Nat.ble (lenL l) fi.ntmps with
   | false=>rw[hn] at hb; exact absurd rfl hb
   | true =>
     rw[hn] at hb
     simp only[cond_true] at hb ⊢
     have hn:=ble_true hn
     rw[lenL_eq] at hn
     unfold callPm at hb ⊢
     cases hm:fi.mode with
     | plain =>
       rw[hm] at hb
       dsimp only at hb ⊢
       rw[h4,h5,h6] at hb ⊢
       rw[h5] at hn
       exact⟨⟨fn,c,h1,h2,h3⟩,plain_call hE hc h1 h2 hl hn hs hb,fun h' hr=>hi _ _ _ _ (afterBody_heap hr)⟩
     | rcv=>rw[hm] at hb; exact absurd rfl hb
     | itf=>rw[hm] at hb; exact absurd rfl hb
     | dfr=>rw[hm] at hb; exact absurd rfl hb
theorem intK_some {v:AV} (h:isSomeI (intK v)=true):∃n,v=.int .i64 n∧(Lit.int .i64 n).wf=true:=by
 cases v with
 | int k n =>
   cases k with
   | i64 =>
     have h:isSomeI (bif intLe (-9223372036854775808) n && intLe n 9223372036854775807 then some n else none)=true:=h
     cases h1:intLe (-9223372036854775808) n with
     | false=>rw[h1] at h; cases h
     | true =>
       cases h2:intLe n 9223372036854775807 with
       | false=>rw[h1,h2] at h; cases h
       | true =>
         rw[intLe_eq] at h1 h2
         have h1:=of_decide_eq_true h1
         have h2:=of_decide_eq_true h2
         refine⟨n,rfl,?_⟩
         simp only[Lit.wf,IntKind.min,IntKind.max,Bool.and_eq_true,decide_eq_true_eq]
         simp[IntKind.signed,IntKind.bits] <;> omega
   | _=>cases h
 | _=>cases h
theorem kindsA_some {W:World} {cx:Cx}:∀{ks:List Nat} {cs:List AV} {vs:List Value},RepL W cx vs cs→kindsA ks cs=true→KindsV ks vs
 | [],cs,vs,hr,h=>by
   cases cs with
   | nil=>exact List.eq_nil_of_length_eq_zero (by have:=hr.1; simpa using this)
   | cons _ _=>cases h
 | k::ks,cs,vs,hr,h=>by
   cases cs with
   | nil=>cases h
   | cons c r =>
     have h:(bif kindA k c then kindsA ks r else false)=true:=h
     cases hk:kindA k c with
     | false=>rw[hk] at h; cases h
     | true =>
       rw[hk] at h
       cases vs with
       | nil=>have:=hr.1; simp at this
       | cons v u =>
         have h0:=hr.2 0 v c rfl rfl
         refine⟨v,u,rfl,?_,kindsA_some ⟨by have:=hr.1; simpa using this,fun i w d hw hd=>hr.2 (i+1) w d (by simpa using hw) (by simpa using hd)⟩ h⟩
         cases c with
         | bool b=>exact .inl ⟨beq_true hk,b,by cases h0; rfl⟩
         | int j n =>
           have hk:(Nat.beq k 1 && kindEq j .i64)=true:=hk
           simp only[Bool.and_eq_true] at hk
           have:=(kindEq_iff _ _).1 hk.2
           subst this
           exact .inr (.inl ⟨beq_true hk.1,n,h0.int_inv⟩)
         | str s=>exact .inr (.inr ⟨beq_true hk,by obtain⟨t,e,_⟩:=h0.str_inv; exact⟨t,e⟩⟩)
         | _=>cases hk
theorem aggK_some {W:World} {cx:Cx} {ks:List Nat} {v:Value} {a:AV} (hr:Rep W cx v a) (h:aggK ks a=true):∃vs,v=.agg vs∧KindsV ks vs.toList:=by
 cases a with
 | agg cs =>
   cases hr with
   | agg vs _ hl hh=>exact⟨vs,rfl,kindsA_some ⟨by simpa using hl,fun i v c hv hc=>hh i v c (by simpa using hv) hc⟩ h⟩
 | _=>cases h
theorem dlfE_cons {ks:List Nat} {call:AV × AV→Option Bool} {q:AV × AV} {es es':List (AV × AV)} (h:dlfE ks call (q::es)=some es'):∃b es1,(isSomeI (intK q.1)=true∧aggK ks q.2=true)∧call q=some b∧dlfE ks call es=some es1∧es'=bif b then es1 else q::es1:=by
 have h:guardO (isSomeI (intK q.1) && aggK ks q.2) (obind (call q) fun b=>obind (dlfE ks call es) fun r=>bif b then some r else some (q::r))=some es':=h
 obtain⟨h1,h⟩:=guardO_some h
 obtain⟨b,h2,h⟩:=obind_some h
 obtain⟨es1,h3,h⟩:=obind_some h
 refine⟨b,es1,by simpa using h1,h2,h3,?_⟩
 cases b <;> cases h <;> rfl
theorem dlfE_sub {ks:List Nat} {call:AV × AV→Option Bool}:∀{es es':List (AV × AV)},dlfE ks call es=some es'→∀q∈es',q∈es
 | [],es',h=>fun q hq=>by have h:some []=some es':=h; cases h; cases hq
 | p::es,es',h=>fun q hq=>by
   obtain⟨b,es1,_,_,h3,rfl⟩:=dlfE_cons h
   cases b with
   | true=>simp[dlfE_sub h3 q hq]
   | false =>
     rcases List.mem_cons.1 hq with rfl | hq
     · simp
     · simp[dlfE_sub h3 q hq]
theorem dlfE_pd {ks:List Nat} {W:World} {cx:Cx} {call:AV × AV→Option Bool}:∀(es es':List (AV × AV)) (l:List MapEntry),EntRep W cx l es→(l.map (·.born)).Nodup→dlfE ks call es=some es' →
   ∃pd:MapEntry→Bool,(∀(i:Nat) e q,l[i]?=some e→es[i]?=some q→call q=some (pd e)∧IntEnt ks e)∧EntRep W cx (l.filter fun e=>!pd e) es'
 | [],es',l,hl,hn,h=>by
   have:l=[]:=List.eq_nil_of_length_eq_zero (by have:=hl.1; simpa using this)
   subst this
   have h:some []=some es':=h
   cases h
   exact⟨fun _=>false,by simp,hl⟩
 | q::es,es',l,hl,hn,h=>by
   cases l with
   | nil=>have:=hl.1; simp at this
   | cons e l =>
     obtain⟨b,es1,⟨h1,hk⟩,h2,h3,rfl⟩:=dlfE_cons h
     obtain⟨r1,r2⟩:=hl.2 0 e q rfl rfl
     simp only[List.map_cons,List.nodup_cons] at hn
     obtain⟨pd,hpd,hrep⟩:=dlfE_pd es es1 l hl.tail hn.2 h3
     have hne:∀x∈l,x.born≠e.born:=fun x hx e0=>hn.1 (List.mem_map.2 ⟨x,hx,e0⟩)
     refine⟨fun x=>if x.born=e.born then b else pd x,fun i x q' hx hq=>?_,?_⟩
     · cases i with
       | zero =>
         simp at hx hq
         subst hx hq
         refine⟨by simpa using h2,?_⟩
         obtain⟨n,k1,k2⟩:=intK_some h1
         rw[k1] at r1
         exact⟨⟨n,r1.int_inv,k2⟩,aggK_some r2 hk⟩
       | succ i =>
         simp at hx hq
         obtain⟨k1,k2⟩:=hpd i x q' hx hq
         exact⟨by show call q'=some (if x.born=e.born then b else pd x); rw[if_neg (hne x (List.mem_of_getElem? hx))]; exact k1,k2⟩
     · have hfl:(l.filter fun x=>!(if x.born=e.born then b else pd x))=l.filter fun x=>!pd x:=List.filter_congr fun x hx=>by rw[if_neg (hne x hx)]
       have hcons:((e::l).filter fun x=>!(if x.born=e.born then b else pd x))=bif b then l.filter (fun x=>!pd x) else e::l.filter fun x=>!pd x:=by
         rw[List.filter_cons,hfl,if_pos rfl]
         cases b <;> rfl
       show EntRep W cx ((e::l).filter fun x=>!(if x.born=e.born then b else pd x)) _
       rw[hcons]
       cases b with
       | true=>exact hrep
       | false =>
         refine⟨by have:=hrep.1; simpa using this,fun i x q' hx hq=>?_⟩
         cases i with
         | zero=>simp at hx hq; subst hx hq; exact⟨r1,r2⟩
         | succ i=>simp at hx hq; exact hrep.2 i x q' hx hq
theorem noN_nil {l:List Nat} (h:noN l=true):l=[]:=by cases l with | nil=>rfl | cons _ _=>cases h
theorem belowN_mem {n i:Nat}:∀{l:List Nat},belowN n l=[]→i∈l→¬ i < n
 | [],_,hi=>by cases hi
 | j::l,h,hi=>by
   have h:(bif Nat.blt j n then j::belowN n l else belowN n l)=[]:=h
   cases hb:Nat.blt j n with
   | true=>rw[hb] at h; cases h
   | false =>
     rw[hb] at h
     rcases List.mem_cons.1 hi with rfl | hi
     · intro hlt
       have:=Nat.ble_eq_true_of_le (show i+1≤n from hlt)
       rw[show Nat.blt i n=Nat.ble (i+1) n from rfl,this] at hb
       cases hb
     · exact belowN_mem h hi
theorem predR_some {next:Nat} {r:Res} {b:Bool} (h:predR next r=some b):∃h1,r=.ok (.bool b) h1∧∀i∈h1.tch,¬ i < next:=by
 cases r with
 | ok v h1 =>
   have h:(bif noN (belowN next h1.tch) then boolOf v else none)=some b:=h
   cases hn:noN (belowN next h1.tch) with
   | false=>rw[hn] at h; cases h
   | true =>
     rw[hn] at h
     cases v with
     | bool c=>cases h; exact⟨h1,rfl,fun i hi=>belowN_mem (noN_nil hn) hi⟩
     | _=>cases h
 | pan v h1=>cases h
 | bad=>cases h
theorem hide_get (h:Heap) (id j:Nat):(hide h id).get j=if id=j then none else h.get j:=HT.get_put _ _ _ _ _ (Nat.lt_succ_self id)
theorem dlf_call (hE:EnvOk E P) {ih:CodeF} (hc:CodeOk E P ih) (hpr:∀(c:XC) (fr:Tr) (h h':Heap),CRes.heap (ih c fr h)=some h'→Pres h h') {f:Nat} {ks:List Nat} (hd:E.dlf f=some ks) {args:Array Value} {l:List AV} {W:World} {cx:Cx} {h:Heap}
   (hl:RepL W cx args.toList l) (hs:Sat E W cx h) (hb:dlfA E ih ks l h≠.bad):HasBody P f∧Calls P f args W ((dlfA E ih ks l h).Post E W cx):=by
 obtain⟨id,n,caps,es,es',rfl,hg,hlen,hdl,hout⟩:=dlfA_inv hb
 obtain⟨hbody,hat⟩:=hE.dlf f ks hd
 refine⟨hbody,?_⟩
 rw[hout]
 obtain⟨v1,hv1,hr1⟩:=hl.get (i:=0) rfl
 obtain⟨v2,hv2,hr2⟩:=hl.get (i:=1) rfl
 obtain⟨cb,rfl,hcb⟩:=fn_inv hr2
 obtain⟨hid,hown,hlt,hobj⟩:=hs.objs id _ hg
 obtain⟨ents,clock,l0,k1,kp,k2,k3,k4,k5⟩:=hobj
 have hv1':v1=.map (some (cx.μ id).1):=by cases hr1; rfl
 subst hv1'
 have hargs:args=#[.map (some (cx.μ id).1),.func (.func n) #[] cb]:=by
   have hsz:args.size=2:=by have:=hl.1; simpa using this
   apply Array.ext_getElem?
   intro i
   match i with
   | 0=>simpa using hv1
   | 1=>simpa using hv2
   | i+2=>rw[Array.getElem?_eq_none (by omega),Array.getElem?_eq_none (by simp)]
 subst hargs
 have hent:EntRep W cx l0 es:=⟨k2,k3⟩
 have hsize:ents.size=es.length:=by have:=kp.length_eq; rw[k2] at this; simpa using this.symm
 obtain⟨pd,hpd,hfin⟩:=dlfE_pd es es' l0 hent ((kp.map _).nodup_iff.2 k4.2.1) hdl
 let b:=(cx.μ id).1
 let r:=W.heap.size
 have hbr:b≠r:=Nat.ne_of_lt hlt
 have hhb:¬ cx.held b:=hs.free id _ hg
 have hhr:¬ cx.held r:=fun e=>Nat.lt_irrefl _ (hs.held r e).1
 have hmg:∀j o,(hide h id).get j=some o→j≠id∧h.get j=some o:=fun j o ho=>by
   rw[hide_get] at ho
   by_cases e:id=j
   · rw[if_pos e] at ho; cases ho
   · rw[if_neg e] at ho; exact⟨fun e'=>e e'.symm,ho⟩
 have hmu:∀j o,(hide h id).get j=some o→j < cx.nx∧(cx.μ j).1≠b∧(cx.μ j).1≠r:=fun j o ho=>by
   obtain⟨h1,h2⟩:=hmg j o ho
   obtain⟨m1,_,m3,_⟩:=hs.objs j o h2
   exact⟨m1,fun e=>h1 (hs.inj j id o _ h2 hg e),Nat.ne_of_lt m3⟩
 let J:World→Prop:=fun wr=>∃cx',Ext W cx wr cx'∧Sat E wr cx' (hide h id)∧cx'.nx=cx.nx∧cx'.own b∧¬ cx'.held b∧cx'.own r∧¬ cx'.held r
 have hJ0:J W:=by
   have hext:Ext W cx W ⟨cx.μ,cx.nx,fun i=>cx.own i∨i=r,cx.held⟩:=⟨⟨Nat.le_refl _,fun _ _=>rfl,Nat.le_refl _,fun _ _ _=>rfl,fun _ _=>rfl,fun i hi h=>h.elim (fun h=>h) fun e=>absurd hi (by rw[e]; exact Nat.lt_irrefl _)⟩,fun _ _ h=>⟨h,rfl⟩,rfl,rfl,rfl⟩
   refine⟨_,hext,⟨hs.nx,fun j o ho=>?_,fun j j' o o' ho ho' e=>hs.inj j j' o o' (hmg j o ho).2 (hmg j' o' ho').2 e,hs.gl.mono hext,fun i hi=>⟨(hs.held i hi).1,.inl (hs.held i hi).2⟩,fun j o ho=>hs.free j o (hmg j o ho).2⟩,rfl,.inl hown,hhb,.inr rfl,hhr⟩
   obtain⟨m1,m2,m3,m4⟩:=hs.objs j o (hmg j o ho).2
   exact⟨m1,.inl m2,m3,m4.mono hext rfl⟩
 have hstep:∀W1 W2,J W1→W1.heap.size≤W2.heap.size→(∀i,i≠b→i≠r→i < W1.heap.size→W2.heap[i]?=W1.heap[i]?)→(∀i,i < W1.heap.size→szOf W2 i=szOf W1 i)→W2.os=W1.os→W2.tape=W1.tape→W2.output=W1.output→J W2:=by
   rintro W1 W2 ⟨cx',he,hs',hn',ho1,hh1,ho2,hh2⟩ hsz hk hz e1 e2 e3
   have hext:Ext W1 cx' W2 cx':=⟨⟨Nat.le_refl _,fun _ _=>rfl,hsz,fun i hi hno=>hk i (fun e=>hno (by rw[e]; exact ho1)) (fun e=>hno (by rw[e]; exact ho2)) hi,hz,fun _ _ h=>h⟩,
     fun i hi hh=>⟨hh,hk i (fun e=>hh1 (by rw[← e]; exact hh)) (fun e=>hh2 (by rw[← e]; exact hh)) hi⟩,e1,e2,e3⟩
   refine⟨cx',he.trans hext,⟨hs'.nx,fun j o ho=>?_,hs'.inj,hs'.gl.mono hext,fun i hi=>⟨Nat.lt_of_lt_of_le (hs'.held i hi).1 hsz,(hs'.held i hi).2⟩,hs'.free⟩,hn',ho1,hh1,ho2,hh2⟩
   obtain⟨m1,m2,m3,m4⟩:=hs'.objs j o ho
   obtain⟨q1,q2,q3⟩:=hmu j o ho
   have hm:cx'.μ j=cx.μ j:=he.mu j q1
   exact⟨m1,m2,Nat.lt_of_lt_of_le m3 hsz,m4.mono hext (hk _ (by rw[hm]; exact q2) (by rw[hm]; exact q3) m3)⟩
 have hcall:∀W1 e,e∈ents.toList→J W1→W.heap.size < W1.heap.size→HasBody P n∧Calls P n (#[e.key,e.val]++cb) W1 fun x W2=>x=.returned (.bool (pd e))∧J W2∧W1.heap.size≤W2.heap.size∧W2.heap[b]?=W1.heap[b]?∧W2.heap[W.heap.size]?=W1.heap[W.heap.size]?:=by
   rintro W1 e hem ⟨cx',he,hs',hn',ho1,hh1,ho2,hh2⟩ hrlt
   obtain⟨i,hi⟩:=List.getElem?_of_mem (kp.mem_iff.2 hem)
   obtain⟨q,hq⟩:∃q,es[i]?=some q:=by
     have:i < l0.length:=by
       rcases Nat.lt_or_ge i l0.length with h' | h'
       · exact h'
       · rw[List.getElem?_eq_none h'] at hi; cases hi
     exact⟨es[i]'(by have:=hent.1; omega),List.getElem?_eq_getElem _⟩
   obtain⟨hcl,_⟩:=hpd i e q hi hq
   obtain⟨h1,hr,hfree⟩:=predR_some hcl
   let H:Nat→Prop:=fun i=>i=b∨i=r
   have hblt:b < W1.heap.size:=Nat.lt_of_lt_of_le hlt he.sz
   have hsH:Sat E W1 (cx'.holds H) (hide h id):=hs'.holds (fun i hi=>hi.elim (fun e=>by subst e; exact⟨hblt,ho1⟩) (fun e=>by subst e; exact⟨hrlt,ho2⟩)) (fun j o ho hj=>by
     obtain⟨q1,q2,q3⟩:=hmu j o ho
     have hm:cx'.μ j=cx.μ j:=he.mu j q1
     rw[hm] at hj
     exact hj.elim q2 q3)
   have heH:=Cx.holds_ext W1 cx' H
   obtain⟨rk,rv⟩:=hent.2 i e q hi hq
   have hrep:RepL W1 (cx'.holds H) (#[e.key,e.val]++cb).toList (q.1::q.2::caps):=by
     have:(#[e.key,e.val]++cb).toList=e.key::e.val::cb.toList:=by simp
     rw[this]
     exact RepL.mono (he.trans heH) (RepL.cons rk (RepL.cons rv hcb))
   obtain⟨g1,g2,g3⟩:=callPl_sound hE hc hpr hrep hsH (by rw[hr]; exact fun e=>by cases e)
   rw[hr] at g2 g3
   have hpres:=g3 h1 rfl
   refine⟨g1,g2.mono fun x W2 hp=>?_⟩
   cases x with
   | returned vv =>
     obtain⟨cx2,he2,hs2,hv⟩:=hp
     have hvv:vv=.bool (pd e):=by cases hv; rfl
     subst hvv
     have hget:∀j,j < (hide h id).next→h1.get j=(hide h id).get j:=fun j hj=>by
       obtain⟨_,t,ht,hgt⟩:=hpres
       have ht:h1.tch=t++[]:=ht
       rw[List.append_nil] at ht
       exact hgt j hj (fun hm=>hfree j (by rw[ht]; exact hm) hj)
     obtain⟨f1,f2⟩:=hs'.forget he2 hs2 hget
     have hb1:=he2.hold b hblt (.inr (.inl rfl))
     have hb2:=he2.hold r hrlt (.inr (.inr rfl))
     exact⟨rfl,⟨_,he.trans f1,f2,hn',(hs2.held b hb1.1).2,hh1,(hs2.held r hb2.1).2,hh2⟩,he2.sz,hb1.2,hb2.2⟩
   | panicked c=>exact hp.elim
   | outgrown=>exact hp.elim
 refine (hat J pd W b n cb ents clock k1 k4 (by rw[hsize]; exact Nat.le_trans hlen (by decide)) (fun e he=>?_) hstep hcall hJ0).mono fun x W' hq=>?_
 · obtain⟨i,hi⟩:=List.getElem?_of_mem (kp.mem_iff.2 he)
   obtain⟨q,hq⟩:∃q,es[i]?=some q:=by
     have:i < l0.length:=by
       rcases Nat.lt_or_ge i l0.length with h' | h'
       · exact h'
       · rw[List.getElem?_eq_none h'] at hi; cases hi
     exact⟨es[i]'(by have:=hent.1; omega),List.getElem?_eq_getElem _⟩
   exact (hpd i e q hi hq).2
 · obtain⟨rfl,⟨cx',he,hs',hn',ho1,hh1,ho2,hh2⟩,ents',hb',hf'⟩:=hq
   have hmid:cx'.μ id=cx.μ id:=he.mu id hid
   have hset:∀j o,(h.set id (.mapo es')).get j=some o→j < cx.nx∧cx'.μ j=cx.μ j∧∃o',h.get j=some o':=fun j o ho=>by
     by_cases e:id=j
     · subst e; exact⟨hid,hmid,_,hg⟩
     · rw[Heap.get_set_ne h _ e] at ho
       have:=(hs.objs j o ho).1
       exact⟨this,he.mu j this,o,ho⟩
   have hsub:ents'.toList.Sublist ents.toList:=by rw[hf']; exact List.filter_sublist
   refine⟨cx',he,⟨by rw[hn']; exact hs.nx,fun j o ho=>?_,fun j j' o o' ho ho' e=>?_,hs'.gl,hs'.held,fun j o ho=>?_⟩,.tup _ _ rfl (by simp)⟩
   · by_cases e:id=j
     · subst e
       rw[Heap.get_set_eq h _ hg] at ho
       cases ho
       rw[hmid]
       refine⟨by rw[hn']; exact hid,ho1,Nat.lt_of_lt_of_le hlt he.sz,ents',clock,l0.filter (fun e=>!pd e),hb',by rw[hf']; exact kp.filter _,hfin.1,fun i e q a c=>?_,?_,k5.sub (dlfE_sub hdl)⟩
       · have hx:=hfin.2 i e q a c
         exact⟨hx.1.mono he,hx.2.mono he⟩
       · exact⟨fun x hx=>k4.1 x (hsub.subset hx),(hsub.map _).nodup k4.2.1,(hsub.map _).nodup k4.2.2⟩
     · have ho2:(hide h id).get j=some o:=by
         rw[Heap.get_set_ne h _ e] at ho
         rw[hide_get,if_neg e]; exact ho
       exact hs'.objs j o ho2
   · obtain⟨_,e1,o1,g1⟩:=hset j o ho
     obtain⟨_,e2,o2,g2⟩:=hset j' o' ho'
     exact hs.inj j j' o1 o2 g1 g2 (by rw[← e1,← e2]; exact e)
   · by_cases e:id=j
     · subst e; rw[hmid]; exact hh1
     · have ho2:(hide h id).get j=some o:=by
         rw[Heap.get_set_ne h _ e] at ho
         rw[hide_get,if_neg e]; exact ho
       exact hs'.free j o ho2
end
end Go.AM
/-
 The abstract machine: slices.Sorted at a map's keys,told of.
-/
namespace Go.AM
section
variable {P:Program} {E:Env}
theorem insI_perm (n:Int):∀l:List Int,(insI n l).Perm (n::l)
 | []=>List.Perm.refl _
 | m::r=>by
   show (bif intLe n m then n::m::r else m::insI n r).Perm _
   cases intLe n m with
   | true=>exact List.Perm.refl _
   | false=>exact ((insI_perm n r).cons m).trans (List.Perm.swap n m r)
theorem sortI_perm:∀l:List Int,(sortI l).Perm l
 | []=>List.Perm.refl _
 | n::l=>(insI_perm n (sortI l)).trans ((sortI_perm l).cons n)
theorem insI_sorted (n:Int):∀l:List Int,l.Pairwise (·≤·)→(insI n l).Pairwise (·≤·)
 | [],_=>by show List.Pairwise _ [n]; simp
 | m::r,h=>by
   obtain⟨h1,h2⟩:=List.pairwise_cons.1 h
   show List.Pairwise _ (bif intLe n m then n::m::r else m::insI n r)
   rw[intLe_eq]
   by_cases hnm:n≤m
   · rw[decide_eq_true hnm]
     refine List.pairwise_cons.2 ⟨fun x hx=>?_,h⟩
     rcases List.mem_cons.1 hx with rfl | hx
     · exact hnm
     · exact Int.le_trans hnm (h1 x hx)
   · rw[decide_eq_false hnm]
     refine List.pairwise_cons.2 ⟨fun x hx=>?_,insI_sorted n r h2⟩
     rcases List.mem_cons.1 ((insI_perm n r).mem_iff.1 hx) with rfl | hx
     · omega
     · exact h1 x hx
theorem sortI_sorted:∀l:List Int,(sortI l).Pairwise (·≤·)
 | []=>List.Pairwise.nil
 | n::l=>insI_sorted n _ (sortI_sorted l)
theorem sortI_eq (l:List Int):(l.mergeSort fun x y=>decide (x≤y))=sortI l:=by
 have tr:∀a b c:Int,decide (a≤b)=true→decide (b≤c)=true→decide (a≤c)=true:=fun a b c h1 h2=>by simp only[decide_eq_true_eq] at *; omega
 have to:∀a b:Int,(decide (a≤b) || decide (b≤a))=true:=fun a b=>by simp only[Bool.or_eq_true,decide_eq_true_eq]; omega
 refine List.Perm.eq_of_pairwise (le:=fun a b:Int=>a≤b) (fun a b _ _ h1 h2=>by omega) ((List.pairwise_mergeSort tr to l).imp fun h=>of_decide_eq_true h) (sortI_sorted l) ((List.mergeSort_perm l _).trans (sortI_perm l).symm)
theorem intsA_eq:∀l:List Int,intsA l=l.map (AV.int .i64)
 | []=>rfl
 | n::l=>congrArg (AV.int .i64 n::·) (intsA_eq l)
theorem keysI_some {W:World} {cx:Cx}:∀(es:List (AV × AV)) (l:List MapEntry) (ks:List Int),EntRep W cx l es→keysI es=some ks→l.map (·.key)=ks.map (Value.int .i64)∧∀n∈ks,(Lit.int .i64 n).wf=true
 | [],l,ks,hl,h=>by
   have:l=[]:=List.eq_nil_of_length_eq_zero (by have:=hl.1; simpa using this)
   subst this
   have h:some []=some ks:=h
   cases h
   simp
 | q::es,l,ks,hl,h=>by
   cases l with
   | nil=>have:=hl.1; simp at this
   | cons e l =>
     have h:(obind (intK q.1) fun n=>obind (keysI es) fun r=>some (n::r))=some ks:=h
     obtain⟨n,h1,h⟩:=obind_some h
     obtain⟨r,h2,h⟩:=obind_some h
     cases h
     obtain⟨i1,i2⟩:=keysI_some es l r hl.tail h2
     obtain⟨m,e1,e2⟩:=intK_some (v:=q.1) (by rw[h1]; rfl)
     have hk:e.key=.int .i64 m:=by
       have:=(hl.2 0 e q rfl rfl).1
       rw[e1] at this
       exact this.int_inv
     have hnm:n=m:=by
       rw[e1] at h1
       have h1:(bif intLe (-9223372036854775808) m && intLe m 9223372036854775807 then some m else none)=some n:=h1
       cases hc:(intLe (-9223372036854775808) m && intLe m 9223372036854775807) with
       | true=>rw[hc] at h1; cases h1; rfl
       | false=>rw[hc] at h1; cases h1
     subst hnm
     refine⟨by simp[hk,i1],fun x hx=>?_⟩
     rcases List.mem_cons.1 hx with rfl | hx
     · exact e2
     · exact i2 x hx
theorem Ext.of_below {W W':World} (cx:Cx) {B:Nat→Prop} (h:RowKit.Below W.heap.size W W') (hB:∀b,B b→W.heap.size≤b):Ext W cx W' ⟨cx.μ,cx.nx,fun b=>cx.own b∨B b,fun b=>cx.held b∨B b⟩ :=
 ⟨⟨Nat.le_refl _,fun _ _=>rfl,h.size,fun b hb _=>h.block b hb,fun b hb=>by unfold szOf; rw[h.block b hb],fun b hb ho=>ho.elim (fun h=>h) fun hb'=>absurd hb (by have:=hB b hb'; omega)⟩,
   fun b hb hh=>⟨.inl hh,h.block b hb⟩,h.os,h.tape,h.output⟩
theorem Sat.of_below {W W':World} {cx:Cx} {h:Heap} (hs:Sat E W cx h) {B:Nat→Prop} (hb:RowKit.Below W.heap.size W W') (hB:∀b,B b→W.heap.size≤b∧b < W'.heap.size):Sat E W' ⟨cx.μ,cx.nx,fun b=>cx.own b∨B b,fun b=>cx.held b∨B b⟩ h:=by
 have hext:=Ext.of_below cx hb fun b hh=>(hB b hh).1
 refine⟨hs.nx,fun id o ho=>?_,hs.inj,hs.gl.mono hext,fun b hh=>?_,fun id o ho hh=>?_⟩
 · obtain⟨h1,h2,h3,h4⟩:=hs.objs id o ho
   exact⟨h1,.inl h2,Nat.lt_of_lt_of_le h3 hb.size,h4.mono hext (hb.block _ h3)⟩
 · rcases hh with hh | hh
   · obtain⟨h1,h2⟩:=hs.held b hh
     exact⟨Nat.lt_of_lt_of_le h1 hb.size,.inl h2⟩
   · exact⟨(hB b hh).2,.inr hh⟩
 · rcases hh with hh | hh
   · exact hs.free id o ho hh
   · exact Nat.lt_irrefl _ (Nat.lt_of_lt_of_le (hs.objs id o ho).2.2.1 (hB _ hh).1)
theorem srt_call (hE:EnvOk E P) {f:Nat} {args:Array Value} {l:List AV} {W:World} {cx:Cx} {h:Heap} {r:Res}
   (hl:RepL W cx args.toList l) (hs:Sat E W cx h) (hr:srtA E f l h=some r) (hb:r≠.bad):HasBody P f∧Calls P f args W (r.Post E W cx):=by
 obtain⟨n,bx,id,es,ks,rfl,hsrt,hgb,hgi,hks,hlen,rfl⟩:=srtA_inv hr hb
 obtain⟨hbody,hat⟩:=hE.srt f n hsrt
 refine⟨hbody,?_⟩
 obtain⟨v1,hv1,hr1⟩:=hl.get (i:=0) rfl
 obtain⟨cb,rfl,hcb⟩:=fn_inv hr1
 obtain⟨p,hp,hpr⟩:=hcb.get (i:=0) rfl
 have hcb1:cb=#[p]:=by
   have hsz:cb.size=1:=by have:=hcb.1; simpa using this
   apply Array.ext_getElem?
   intro i
   match i with
   | 0=>simpa using hp
   | i+1=>rw[Array.getElem?_eq_none (by omega),Array.getElem?_eq_none (by simp)]
 subst hcb1
 have hargs:args=#[.func (.func n) #[] #[p]]:=by
   have hsz:args.size=1:=by have:=hl.1; simpa using this
   apply Array.ext_getElem?
   intro i
   match i with
   | 0=>simpa using hv1
   | i+1=>rw[Array.getElem?_eq_none (by omega),Array.getElem?_eq_none (by simp)]
 subst hargs
 obtain⟨_,_,hblt,hz,c,t,g,c1,c2,c3,c4⟩:=hs.objs bx _ hgb
 obtain⟨c5,_,c6⟩:=c4 0 _ 0 _ rfl rfl
 obtain⟨hid,hown,hlt,ents,clock,l0,k1,kp,k2,k3,k4,_⟩:=hs.objs id _ hgi
 have hg00:g 0 0=.map (some (cx.μ id).1):=by
   generalize g 0 0=v at c6
   cases c6; rfl
 have hpv:p=.pointer (some ⟨(cx.μ bx).1,(cx.μ bx).2.1,none⟩):=by
   cases hpr with
   | ptr _ _ _ _ _=>simp
 subst hpv
 have hcell:W.cell? ⟨(cx.μ bx).1,(cx.μ bx).2.1,none⟩=some (.map (some (cx.μ id).1)):=by
   unfold World.cell?
   rw[c1]
   rw[hg00] at c5
   simpa using c5
 have hent:EntRep W cx l0 es:=⟨k2,k3⟩
 have hsize:ents.size=es.length:=by have:=kp.length_eq; rw[k2] at this; simpa using this.symm
 obtain⟨q1,q2⟩:=keysI_some es l0 ks hent hks
 obtain⟨ks',q1',hpk⟩:∃ks':List Int,ents.toList.map (·.key)=ks'.map (Value.int .i64)∧ks'.Perm ks:=by
   let num:Value→Int:=fun v=>match v with | .int _ n=>n | _=>0
   have hall:∀x∈ents.toList,x.key=.int .i64 (num x.key):=fun x hx=>by
     have:x.key∈l0.map (·.key):=List.mem_map.2 ⟨x,kp.mem_iff.2 hx,rfl⟩
     rw[q1] at this
     obtain⟨n,_,hn⟩:=List.mem_map.1 this
     rw[← hn]
   refine⟨ents.toList.map fun x=>num x.key,?_,?_⟩
   · rw[List.map_map]
     exact List.map_congr_left fun x hx=>hall x hx
   · have h1:=(kp.symm.map (·.key)).map num
     rw[q1,List.map_map,List.map_map] at h1
     have:(num ∘ Value.int IntKind.i64)=_root_.id:=by funext n; rfl
     rw[this,List.map_id] at h1
     exact h1
 have hsort:sortI ks'=sortI ks:=by
   refine List.Perm.eq_of_pairwise (le:=fun a b:Int=>a≤b) (fun a b _ _ h1 h2=>by omega) (sortI_sorted ks') (sortI_sorted ks) ((sortI_perm ks').trans (hpk.trans (sortI_perm ks).symm))
 refine (hat W _ _ _ ents clock ks' hcell k1 k4 (by rw[hsize]; exact hlen) q1' (fun n hn=>q2 n (hpk.mem_iff.1 hn))).mono fun x W' hq=>?_
 obtain⟨v,rfl,hbel,hv⟩:=hq
 have hlk:=hpk.length_eq
 have hnil:intsA (sortI ks)=(sortI ks).map (AV.int .i64):=intsA_eq _
 rcases hv with ⟨rfl,rfl⟩ | ⟨hne,gb,cap,cur,t',rfl,g1,g2,g3,g4,g5⟩
 · -- no key
   have:ks=[]:=List.eq_nil_of_length_eq_zero (by rw[← hlk]; rfl)
   subst this
   show Res.Post E W cx (srtR h []) (.returned (.slice none 0 0)) W'
   exact⟨_,Ext.of_below cx (B:=fun _=>False) hbel (fun _ hf=>hf.elim),hs.of_below hbel (fun _ hf=>hf.elim),.nilsl⟩
 · -- the new row
   have hgl:gb < W'.heap.size:=(Array.getElem?_eq_some_iff.1 g2).1
   let B:Nat→Prop:=fun b=>b=gb
   have hB:∀b,B b→W.heap.size≤b∧b < W'.heap.size:=fun b hb=>by
     have hb:b=gb:=hb
     subst hb
     exact⟨g1,hgl⟩
   have hext:=Ext.of_below cx (B:=B) hbel fun b hb=>(hB b hb).1
   have hs1:=hs.of_below (B:=B) hbel hB
   have hlen1:(sortI ks).length=ks.length:=(sortI_perm ks).length_eq
   rw[sortI_eq,hsort] at g5
   rw[hlk] at g3
   have hne:ks≠[]:=fun e=>hne (List.eq_nil_of_length_eq_zero (by rw[hlk,e]; rfl))
   have hobj:ObjRep W' ⟨cx.μ,cx.nx,fun b=>cx.own b∨B b,fun b=>cx.held b∨B b⟩ (gb,0,1) (.row (intsA (sortI ks)) 1):=by
     refine⟨rfl,cur,t',fun i _=>.int .i64 ((sortI ks).getD i 0),g2,by rw[hnil]; simp only[List.length_map]; omega,fun i e he=>?_,fun i e j c' he hj=>?_⟩
     · rw[hnil,List.getElem?_map] at he
       obtain⟨m,_,rfl⟩:=Option.map_eq_some_iff.1 he
       rfl
     · rw[hnil,List.getElem?_map] at he
       obtain⟨m,hm,rfl⟩:=Option.map_eq_some_iff.1 he
       have hj0:j=0:=by
         cases j with
         | zero=>rfl
         | succ j=>cases hj
       subst hj0
       cases hj
       have hgd:(sortI ks).getD i 0=m:=by rw[List.getD_eq_getElem?_getD,hm]; rfl
       refine⟨?_,rfl,?_⟩
       · dsimp only
         rw[hgd]
         simpa using g5 i m hm
       · dsimp only
         rw[hgd]
         exact .int _ _
   have hs2:=hs1.adopt (b:=gb) (sz:=1) (.inr rfl) _ hobj
   have hextA:Ext W cx W' (Cx.adopt ⟨cx.μ,cx.nx,fun b=>cx.own b∨B b,fun b=>cx.held b∨B b⟩ gb 1) :=
     ⟨hext.toExt0.trans (Ext0.adopt W' _ gb 1),fun b hb hh=>⟨⟨.inl hh,fun e=>by subst e; omega⟩,hbel.block b hb⟩,hext.out⟩
   cases hi:intsA (sortI ks) with
   | nil =>
     have:ks=[]:=by
       rw[hnil] at hi
       have:=congrArg List.length hi
       simp only[List.length_map,List.length_nil] at this
       exact List.eq_nil_of_length_eq_zero (by omega)
     exact absurd this hne
   | cons a as =>
     have hout:srtR h ks=.ok (.msl h.next 0 (lenL (a::as)) 1) (h.push (.row (a::as) 1)):=by
       unfold srtR
       rw[hi]
     rw[hout]
     have hl1:lenL (a::as)=ks.length:=by
       rw[lenL_eq,← hi,hnil,List.length_map,hlen1]
     rw[hi] at hs2
     refine⟨_,hextA,hs2,?_⟩
     rw[hl1,hlk]
     exact msl_rep (by rw[hs.nx]; exact Nat.lt_succ_self _) (by rw[hs.nx]; exact Cx.adopt_new _ _ _) hgl g3 (by
       unfold szOf
       rw[g2]
       simpa using g4)
end
end Go.AM
/-
 The abstract machine: maps.DeleteFunc: its loop,step by step,over whatever is kept.
-/
namespace Go.AM
open Go.Maps (Keyed)
structure DlS (W:World) (b clock:Nat) (ents:Array MapEntry) (J:World→Prop) (K:MapEntry→Prop) (seen:Array Nat) (n:Nat) (wr:World):Prop where
 ex:∃(es:Array MapEntry) (c0:Nat),wr.heap[b]?=some (.map es clock)∧wr.heap[W.heap.size]?=some (.mapIter (some b) clock seen c0)∧clock≤c0∧MapKept.Stamped es clock∧es.toList.Sublist ents.toList ∧
   (∀x∈ents.toList,x∈es.toList↔K x)∧(leftOf es seen).size=n
 keep:J wr
 lt:W.heap.size < wr.heap.size
def DlJ (W:World) (b:Nat) (J:World→Prop):Prop :=
 ∀W1 W2,J W1→W1.heap.size≤W2.heap.size→(∀i,i≠b→i≠W.heap.size→i < W1.heap.size→W2.heap[i]?=W1.heap[i]?)→(∀i,i < W1.heap.size→szOf W2 i=szOf W1 i)→W2.os=W1.os→W2.tape=W1.tape→W2.output=W1.output→J W2
section
variable {P:Program} {W:World} {b clock:Nat} {ents:Array MapEntry} {J:World→Prop} {K K':MapEntry→Prop} {seen:Array Nat} {n:Nat} {wr:World} {pd:MapEntry→Bool}
theorem DlS.congr (h:DlS W b clock ents J K seen n wr) (hk:∀x∈ents.toList,K x↔K' x):DlS W b clock ents J K' seen n wr:=by
 obtain⟨⟨es,c0,h1,h2,h3,h4,h5,h6,h7⟩,h8,h9⟩:=h
 exact⟨⟨es,c0,h1,h2,h3,h4,h5,fun x hx=>(h6 x hx).trans (hk x hx),h7⟩,h8,h9⟩
theorem DlS.left (h:DlS W b clock ents J K seen n wr):wr.rangeLeft b W.heap.size=n:=by
 obtain⟨⟨es,c0,h1,h2,h3,h4,h5,h6,h7⟩,h8,h9⟩:=h
 simp only[World.rangeLeft,h1,h2]; exact h7
theorem DlS.step (h:DlS W b clock ents J K seen n wr) {w':World} (hJ:J w') (hs:wr.heap.size≤w'.heap.size) (hb:w'.heap[b]?=wr.heap[b]?) (hr:w'.heap[W.heap.size]?=wr.heap[W.heap.size]?):DlS W b clock ents J K seen n w':=by
 obtain⟨⟨es,c0,h1,h2,h3,h4,h5,h6,h7⟩,h8,h9⟩:=h
 exact⟨⟨es,c0,by rw[hb]; exact h1,by rw[hr]; exact h2,h3,h4,h5,h6,h7⟩,hJ,Nat.lt_of_lt_of_le h9 hs⟩
theorem szOf_none {w:World} {i:Nat} {o:Obj} (h:w.heap[i]?=some o) (ho:∀c t f,o≠.cells c t f):szOf w i=0:=by
 unfold szOf
 rw[h]
 cases o with
 | cells c t f=>exact absurd rfl (ho c t f)
 | _=>rfl
theorem szOf_eq {w w':World} {i:Nat} (h:w'.heap[i]?=w.heap[i]?):szOf w' i=szOf w i:=by unfold szOf; rw[h]
theorem DlS.start (hJ0:J W) (hJ:DlJ W b J) (hb:W.heap[b]?=some (.map ents clock)) (hst:MapKept.Stamped ents clock):DlS W b clock ents J (fun x=>pd x=false∨x.born ∉ (#[]:Array Nat)) #[] (leftOf ents #[]).size (W.alloc (.mapIter (some b) clock #[] clock)):=by
 have hlt:b < W.heap.size:=(Array.getElem?_eq_some_iff.1 hb).1
 refine⟨⟨ents,clock,(heap_alloc_old W _ hlt).trans hb,heap_alloc_new W _,Nat.le_refl _,hst,List.Sublist.refl _,fun x hx=>⟨fun _=>.inr (by simp),fun _=>hx⟩,rfl⟩,?_,by simp⟩
 exact hJ W _ hJ0 (by simp) (fun i _ _ hi=>heap_alloc_old W _ hi) (fun i hi=>szOf_eq (heap_alloc_old W _ hi)) rfl rfl rfl
theorem DlS.next (hJ:DlJ W b J) (hst:MapKept.Stamped ents clock) (hbr:b < W.heap.size) (h:DlS W b clock ents J (fun x=>pd x=false∨x.born ∉ seen) seen n wr) (ty:TypeId) :
   (n=0∧(Instr.next (.pointer (some ⟨W.heap.size,0,none⟩)) false ty).run P wr=.ok (.tuple #[.bool false]) wr∧∃ents',wr.heap[b]?=some (.map ents' clock)∧ents'.toList=ents.toList.filter fun e=>!pd e) ∨
   ∃e w' n',e∈ents.toList∧(pd e=false∨e.born ∉ seen)∧e.born ∉ seen∧(Instr.next (.pointer (some ⟨W.heap.size,0,none⟩)) false ty).run P wr=.ok (.tuple #[.bool true,e.key,e.val]) w' ∧
     DlS W b clock ents J (fun x=>pd x=false∨x.born ∉ seen) (seen.push e.born) n' w'∧n' < n∧(Instr.entry (.pointer (some ⟨W.heap.size,0,none⟩))).run P w'=.ok (.tuple #[e.key,e.val]) w':=by
 obtain⟨⟨es,c0,h1,h2,h3,h4,h5,h6,h7⟩,h8,h9⟩:=h
 have hne:W.heap.size≠b:=Nat.ne_of_gt hbr
 rcases run_next_at (P:=P) wr ty W.heap.size b clock c0 seen es clock h2 h1 h4.1 h3 with ⟨g1,g2⟩ | ⟨e,g1,w1,g2,g3⟩
 · refine .inl ⟨by rw[← h7]; exact g1,g2,es,h1,?_⟩
   have hall:=all_seen es seen g1
   have key:∀{l l0:List MapEntry},l.Sublist l0→l0.Nodup→(∀x∈l0,x∈l↔pd x=false)→l=l0.filter fun e=>!pd e:=by
     intro l l0 hs
     induction hs with
     | slnil=>intro _ _; rfl
     | @cons l l0 a hs ih =>
       intro hn hk
       have hn:=List.nodup_cons.1 hn
       have ha:pd a=true:=by
         cases hp:pd a with
         | true=>rfl
         | false=>exact absurd (hs.subset ((hk a (by simp)).2 hp)) hn.1
       rw[List.filter_cons,ha]
       simp only[Bool.not_true,Bool.false_eq_true,if_false]
       exact ih hn.2 fun x hx=>hk x (by simp[hx])
     | @cons_cons l l0 a hs ih =>
       intro hn hk
       have hn:=List.nodup_cons.1 hn
       have ha:pd a=false:=(hk a (by simp)).1 (by simp)
       rw[List.filter_cons,ha]
       simp only[Bool.not_false,if_true]
       congr 1
       refine ih hn.2 fun x hx=>?_
       have hxa:x≠a:=fun e=>hn.1 (by rw[← e]; exact hx)
       have:=hk x (by simp[hx])
       simpa [hxa] using this
   have hnd:ents.toList.Nodup:=(List.pairwise_map.1 hst.2.1).imp fun h e=>h (by rw[e])
   refine key h5 hnd fun x hx=>(h6 x hx).trans ⟨fun hk=>hk.elim (fun h=>h) fun hns=>?_,fun h=>.inl h⟩
   have hxe:x∈es.toList:=(h6 x hx).2 (.inr hns)
   have:=hall x hxe
   exact absurd (by simpa using this) hns
 · obtain⟨m1,m2⟩:=mem_left g1
   have hw1:w1.heap=wr.heap∧w1.os=wr.os∧w1.tape=wr.tape∧w1.output=wr.output:=by rcases g2 with rfl | rfl <;> exact⟨rfl,rfl,rfl,rfl⟩
   obtain⟨q1,q2,q3,q4⟩:=hw1
   have hr1:W.heap.size < w1.heap.size:=by rw[q1]; exact h9
   have hsame:∀i,i≠W.heap.size→(ChangeMaps.setBlock w1 W.heap.size (.mapIter (some b) clock (seen.push e.born) clock)).heap[i]?=wr.heap[i]?:=fun i hi=>by rw[← q1]; exact setBlock_ne w1 _ (fun e=>hi e.symm)
   have hb':=(hsame b (fun e=>hne e.symm)).trans h1
   have hi':(ChangeMaps.setBlock w1 W.heap.size (.mapIter (some b) clock (seen.push e.born) clock)).heap[W.heap.size]?=some (.mapIter (some b) clock (seen.push e.born) clock):=setBlock_eq w1 (.mapIter (some b) clock (seen.push e.born) clock) hr1
   have hns:e.born ∉ seen:=by simpa using m2
   have hsize:(ChangeMaps.setBlock w1 W.heap.size (.mapIter (some b) clock (seen.push e.born) clock)).heap.size=wr.heap.size:=by simp[ChangeMaps.setBlock,q1]
   refine .inr ⟨e,_,(leftOf es (seen.push e.born)).size,h5.subset m1,.inr hns,hns,g3,⟨⟨es,clock,hb',hi',Nat.le_refl _,h4,h5,h6,rfl⟩,?_,by rw[hsize]; exact h9⟩,by rw[← h7]; exact left_shrinks es seen e g1,?_⟩
   · refine hJ wr _ h8 (by rw[hsize]; exact Nat.le_refl _) (fun i _ hi _=>hsame i hi) (fun i hi=>?_) q2 q3 q4
     by_cases e1:i=W.heap.size
     · subst e1
       rw[szOf_none hi' (by intro c t f e; cases e),szOf_none h2 (by intro c t f e; cases e)]
     · exact szOf_eq (hsame i e1)
   · exact run_entry_at _ W.heap.size b clock seen es clock e hi' hb' m1 h4.2.1
theorem DlS.stays (hst:MapKept.Stamped ents clock) {e:MapEntry} (he:e∈ents.toList) (hp:pd e=false) (h:DlS W b clock ents J (fun x=>pd x=false∨x.born ∉ seen) (seen.push e.born) n wr):DlS W b clock ents J (fun x=>pd x=false∨x.born ∉ seen.push e.born) (seen.push e.born) n wr:=by
 refine h.congr fun x hx=>?_
 by_cases hb:x.born=e.born
 · have:x=e:=born_inj hst.2.1 hx he hb
   subst this
   simp[hp]
 · simp[hb]
theorem DlS.drop (hJ:DlJ W b J) (hbr:b < W.heap.size) (hst:MapKept.Stamped ents clock) (hsz:ents.size≤maxLen) {t k e0 ty:TypeId} (K0:Keyed P k) (ht:P.underlying t=some (.map k e0)) (hkeys:∀x∈ents.toList,∃kl,keyOf P k x.key=some kl) {e:MapEntry} (he:e∈ents.toList) (hp:pd e=true)
   (h:DlS W b clock ents J (fun x=>pd x=false∨x.born ∉ seen) (seen.push e.born) n wr) :
   ∃w' n',(Builtin.delete_ #[t,k] ty #[.map (some b),e.key]).run P wr=.ok (.tuple #[]) w'∧DlS W b clock ents J (fun x=>pd x=false∨x.born ∉ seen.push e.born) (seen.push e.born) n' w'∧n'≤n:=by
 obtain⟨⟨es,c0,h1,h2,h3,h4,h5,h6,h7⟩,h8,h9⟩:=h
 have F:WideElems.Fit (H:=Unit) P k (fun _=>some (.nil,[])) es clock:=⟨by
   have:=h5.length_le
   have:es.size≤ents.size:=by simpa using this
   omega,h4,fun x hx=>by
   obtain⟨kl,hkl⟩:=hkeys x (h5.subset hx)
   exact⟨(kl,.nil),by simp[WideElems.rd,hkl]⟩⟩
 obtain⟨kl,hkl⟩:=hkeys e he
 obtain⟨es',hrun,F',hle,_,hsub,hwho⟩:=fit_drop_who (ty:=ty) K0 ht h1 F hkl
 have hne:W.heap.size≠b:=Nat.ne_of_gt hbr
 have hblt:b < wr.heap.size:=(Array.getElem?_eq_some_iff.1 h1).1
 have hsame:∀i,i≠b→(ChangeMaps.setBlock wr b (.map es' clock)).heap[i]?=wr.heap[i]?:=fun i hi=>setBlock_ne wr _ (fun e=>hi e.symm)
 have hbb:(ChangeMaps.setBlock wr b (.map es' clock)).heap[b]?=some (.map es' clock):=setBlock_eq wr _ hblt
 have hsize:(ChangeMaps.setBlock wr b (.map es' clock)).heap.size=wr.heap.size:=by simp[ChangeMaps.setBlock]
 refine⟨_,(leftOf es' (seen.push e.born)).size,hrun,⟨⟨es',c0,hbb,(hsame _ hne).trans h2,h3,F'.stamped,hsub.trans h5,fun x hx=>?_,rfl⟩,?_,by rw[hsize]; exact h9⟩,?_⟩
 · rw[hwho x,h6 x hx]
   by_cases hb:x.born=e.born
   · have:x=e:=born_inj hst.2.1 hx he hb
     subst this
     simp[hp]
   · have hkey:x.key≠e.key:=fun hk=>hb (by rw[entry_eq_of_key ((MapKept.stamped_iff ents clock).1 hst).2.2 hx he hk])
     simp[hb,hkey]
 · refine hJ wr _ h8 (by rw[hsize]; exact Nat.le_refl _) (fun i hi _ _=>hsame i hi) (fun i hi=>?_) rfl rfl rfl
   by_cases e1:i=b
   · subst e1
     rw[szOf_none hbb (by intro c t f e; cases e),szOf_none h1 (by intro c t f e; cases e)]
   · exact szOf_eq (hsame i e1)
 · rw[← h7]
   unfold leftOf
   have:=(hsub.filter fun x=>!(seen.push e.born).contains x.born).length_le
   rw[← Array.toList_filter,← Array.toList_filter] at this
   exact this
variable {ops:Array Oper} {rest:List Oper} {o:Oper} {a:Act} {Q:Exit→Act→World→Prop}
theorem wpList_range_dl (hg:o.guard=none) (m:Operand) (t k e0:TypeId) (hop:o.op=Op.range t m) (ht:P.underlying t=some (.map k e0)) (hm:a.eval m=.map (some b)) (hJ0:J W) (hJ:DlJ W b J) (hb:W.heap[b]?=some (.map ents clock)) (hst:MapKept.Stamped ents clock) (pd:MapEntry→Bool)
   (hK:∀w',DlS W b clock ents J (fun x=>pd x=false∨x.born ∉ (#[]:Array Nat)) #[] (leftOf ents #[]).size w'→wpList P ops Q rest (a.put o.dst (.pointer (some ⟨W.heap.size,0,none⟩))) w'):wpList P ops Q (o::rest) a W:=by
 refine wpList_plain hg fun K' hK'=>?_
 have hrun:=run_range_map (P:=P) W t k e0 b ents clock ht hb
 unfold Oper.wp
 simp[execOp,hop,hm,hrun,Result.andThen]
 exact hK' _ _ (hK _ (DlS.start hJ0 hJ hb hst))
end
end Go.AM
/-
 The abstract machine: a range over a map in the code: whichever entry comes next,it comes to the same.
-/
namespace Go.AM
section
variable {P:Program} {E:Env} {ih:CodeF}
theorem FrRep.undAll {W:World} {cx:Cx} {tmps:Array Value}:∀(ws:List Nat) (fr:Tr),(∀i,i ∉ ws→Rep W cx (tmps.getD i undef) (fr.get i))→(∀i,fr.has i=true→i < tmps.size)→FrRep W cx tmps (Go.AM.undAll ws fr)
 | [],fr,h1,h2=>⟨fun i=>h1 i (by simp),h2⟩
 | j::ws,fr,h1,h2=>FrRep.undAll ws (fr.set j .und) (fun i hi=>by
     by_cases e:j=i
     · subst e
       rw[Tr.get_set_eq]
       split <;> exact .und _
     · rw[Tr.get_set_ne _ _ _ _ e]
       exact h1 i (by simp[hi]; exact fun e'=>e e'.symm)) (fun i hi=>h2 i (by rw[Tr.has_set] at hi; exact hi))
def DPb (D:DP) (b r:Nat) (ws:List Nat) (t0:Array Value):DP:=fun W cx a =>
 D W ⟨cx.μ,cx.nx,cx.own,fun i=>cx.held i∧i≠b∧i≠r⟩ a∧a.tmps.size=t0.size∧∀i,i ∉ ws→a.tmps.getD i undef=t0.getD i undef
theorem DPb.mono {D:DP} (hD:MonoD D) {b r:Nat} {ws:List Nat} {t0:Array Value}:MonoD (DPb D b r ws t0):=fun W cx a W' cx' he h =>
 ⟨hD _ _ _ _ _ (show Ext W ⟨cx.μ,cx.nx,cx.own,fun i=>cx.held i∧i≠b∧i≠r⟩ W' ⟨cx'.μ,cx'.nx,cx'.own,fun i=>cx'.held i∧i≠b∧i≠r⟩ from ⟨⟨he.nx,he.mu,he.sz,he.keep,he.shape,he.own⟩,fun i hi hh=>⟨⟨(he.hold i hi hh.1).1,hh.2⟩,(he.hold i hi hh.1).2⟩,he.out⟩) h.1,h.2⟩
theorem DPb.stab {D:DP} {b r:Nat} {ws:List Nat} {t0:Array Value} (d:Option Tmp) (hd:∀t,d=some t→t∈ws) (h:StabD D d):StabD (DPb D b r ws t0) d:=fun W cx a v hh=>by
 refine⟨h _ _ a v hh.1,?_,fun i hi=>?_⟩
 · cases d with
   | none=>exact hh.2.1
   | some d=>show (a.tmps.setIfInBounds d v).size=_; rw[Array.size_setIfInBounds]; exact hh.2.1
 · cases d with
   | none=>exact hh.2.2 i hi
   | some d =>
     have hne:d≠i:=fun e=>hi (by rw[← e]; exact hd d rfl)
     show (a.tmps.setIfInBounds d v).getD i undef=_
     rw[← hh.2.2 i hi]
     simp[Array.getD_eq_getD_getElem?,Array.getElem?_setIfInBounds_ne hne]
theorem stC_writes {ro:Option Nat} {D D':DP} {ws:List Nat} (hst:∀d,(∀t,d=some t→t∈ws)→StabD D d→StabD D' d):∀(c:Code) (l:List Nat),writesC c=some l→(∀t∈l,t∈ws)→StC ro D c→StC ro D' c
 | .skip,_,_,_,_=>trivial
 | .ret,_,_,_,_=>trivial
 | .exit _,_,_,_,_=>trivial
 | .region _ ops _,l,h,hl,hs=>fun i o ho=>hst o.dst (fun t ht=>hl t (by
     cases h
     exact List.mem_filterMap.2 ⟨o,List.mem_of_getElem? (by simpa using ho),ht⟩)) (hs i o ho)
 | .seq a b,l,h,hl,hs=>by
   obtain⟨x,hx,h⟩:=bindC_some h
   obtain⟨y,hy,h⟩:=bindC_some h
   cases h
   exact⟨stC_writes hst a x hx (fun t ht=>hl t (by simp[ht])) hs.1,stC_writes hst b y hy (fun t ht=>hl t (by simp[ht])) hs.2⟩
 | .cond _ a b,l,h,hl,hs=>by
   obtain⟨x,hx,h⟩:=bindC_some h
   obtain⟨y,hy,h⟩:=bindC_some h
   cases h
   exact⟨stC_writes hst a x hx (fun t ht=>hl t (by simp[ht])) hs.1,stC_writes hst b y hy (fun t ht=>hl t (by simp[ht])) hs.2⟩
 | .block _ a,l,h,hl,hs=>stC_writes hst a l h hl hs
 | .loop a,l,h,hl,hs=>stC_writes hst a l h hl hs
theorem entI_eq:∀{es:List (AV × AV)} {l:List (Int × Int)},entI es=some l→es=entsA l
 | [],l,h=>by have h:some []=some l:=h; cases h; rfl
 | q::es,l,h=>by
   have h:(obind (intK q.1) fun a=>obind (intK q.2) fun b=>obind (entI es) fun r=>some ((a,b)::r))=some l:=h
   obtain⟨a,h1,h⟩:=obind_some h
   obtain⟨b,h2,h⟩:=obind_some h
   obtain⟨r,h3,h⟩:=obind_some h
   cases h
   have key:∀{v:AV} {n:Int},intK v=some n→v=.int .i64 n:=fun {v n} hv=>by
     obtain⟨m,e1,_⟩:=intK_some (v:=v) (by rw[hv]; rfl)
     rw[e1] at hv
     have hv:(bif intLe (-9223372036854775808) m && intLe m 9223372036854775807 then some m else none)=some n:=hv
     cases hc:(intLe (-9223372036854775808) m && intLe m 9223372036854775807) with
     | true=>rw[hc] at hv; cases hv; exact e1
     | false=>rw[hc] at hv; cases hv
   rw[entI_eq h3]
   show q::entsA r=(AV.int .i64 a,AV.int .i64 b)::entsA r
   rw[← key h1,← key h2]
theorem insP_perm (p:Int × Int):∀l:List (Int × Int),(insP p l).Perm (p::l)
 | []=>List.Perm.refl _
 | q::r=>by
   show (bif intLe p.1 q.1 then p::q::r else q::insP p r).Perm _
   cases intLe p.1 q.1 with
   | true=>exact List.Perm.refl _
   | false=>exact ((insP_perm p r).cons q).trans (List.Perm.swap p q r)
theorem sortP_perm:∀l:List (Int × Int),(sortP l).Perm l
 | []=>List.Perm.refl _
 | p::l=>(insP_perm p (sortP l)).trans ((sortP_perm l).cons p)
theorem entsA_perm {l l':List (Int × Int)} (h:l.Perm l'):(entsA l).Perm (entsA l'):=by
 have e:∀l,entsA l=l.map fun p=>(AV.int .i64 p.1,AV.int .i64 p.2):=fun l=>by
   induction l with
   | nil=>rfl
   | cons p l ih=>exact congrArg (_::·) ih
 rw[e,e]; exact h.map _
theorem EntRep.perm {W:World} {cx:Cx} {es es':List (AV × AV)} (h:es.Perm es'):∀{l:List MapEntry},EntRep W cx l es→∃l',l.Perm l'∧EntRep W cx l' es':=by
 have consR:∀{e:MapEntry} {l:List MapEntry} {q:AV × AV} {es:List (AV × AV)},Rep W cx e.key q.1∧Rep W cx e.val q.2→EntRep W cx l es→EntRep W cx (e::l) (q::es):=fun {e l q es} h1 h2 =>
   ⟨by have:=h2.1; simpa using this,fun i e' q' a b=>by
     cases i with
     | zero=>simp at a b; subst a b; exact h1
     | succ i=>simp at a b; exact h2.2 i e' q' a b⟩
 have split:∀{l:List MapEntry} {q:AV × AV} {es:List (AV × AV)},EntRep W cx l (q::es)→∃e r,l=e::r∧(Rep W cx e.key q.1∧Rep W cx e.val q.2)∧EntRep W cx r es:=fun {l q es} h=>by
   cases l with
   | nil=>have:=h.1; simp at this
   | cons e r=>exact⟨e,r,rfl,h.2 0 e q rfl rfl,h.tail⟩
 induction h with
 | nil=>intro l hl; exact⟨l,List.Perm.refl _,hl⟩
 | cons q _ ihp =>
   intro l hl
   obtain⟨e,r,rfl,h1,h2⟩:=split hl
   obtain⟨r',h3,h4⟩:=ihp h2
   exact⟨e::r',h3.cons e,consR h1 h4⟩
 | swap p q _ =>
   intro l hl
   obtain⟨e,r,rfl,h1,h2⟩:=split hl
   obtain⟨e',r',rfl,h3,h4⟩:=split h2
   exact⟨e'::e::r',List.Perm.swap e' e r',consR h3 (consR h1 h4)⟩
 | trans _ _ i1 i2 =>
   intro l hl
   obtain⟨l1,h1,h2⟩:=i1 hl
   obtain⟨l2,h3,h4⟩:=i2 h2
   exact⟨l2,h1.trans h3,h4⟩
theorem ObjRep.perm {W:World} {cx:Cx} {p:Nat × Nat × Nat} {es es':List (AV × AV)} (h:ObjRep W cx p (.mapo es)) (hp:es.Perm es'):ObjRep W cx p (.mapo es'):=by
 obtain⟨ents,clock,l,h1,h2,h3,h4,h5,h6⟩:=h
 obtain⟨l',k1,k2⟩:=EntRep.perm hp (l:=l) ⟨h3,h4⟩
 exact⟨ents,clock,l',h1,k1.symm.trans h2,k2.1,k2.2,h5,h6.sub fun q hq=>hp.mem_iff.2 hq⟩
theorem eqP_eq:∀{a b:List (Int × Int)},eqP a b=true→a=b
 | [],b,h=>by cases b with | nil=>rfl | cons _ _=>cases h
 | p::a,b,h=>by
   cases b with
   | nil=>cases h
   | cons q b =>
     have h:(intEq p.1 q.1 && (intEq p.2 q.2 && eqP a b))=true:=h
     simp only[Bool.and_eq_true,intEq_eq,beq_iff_eq] at h
     rw[eqP_eq h.2.2,Prod.ext h.1 h.2.1]
theorem eqO_some {a b:Option (Nat × List (Int × Int))} (h:eqO a b=true):∃s,a=some s∧b=some s:=by
 cases a with
 | none=>cases h
 | some a =>
   cases b with
   | none=>cases h
   | some b =>
     have h:(Nat.beq a.1 b.1 && eqP a.2 b.2)=true:=h
     simp only[Bool.and_eq_true] at h
     exact⟨a,rfl,by rw[Prod.ext (beq_true h.1) (eqP_eq h.2)]⟩
theorem mem_masks2:∀(n:Nat) (m:List Bool),m.length=n→m∈masks2 n
 | 0,m,h=>by rw[List.eq_nil_of_length_eq_zero h]; exact List.mem_singleton.2 rfl
 | n+1,m,h=>by
   cases m with
   | nil=>cases h
   | cons b m =>
     have:=mem_masks2 n m (by simpa using h)
     show b::m∈(masks2 n).map (false::·)++(masks2 n).map (true::·)
     cases b with
     | false=>exact List.mem_append_left _ (List.mem_map.2 ⟨m,this,rfl⟩)
     | true=>exact List.mem_append_right _ (List.mem_map.2 ⟨m,this,rfl⟩)
theorem rngCk_step {step:Nat × List (Int × Int)→Int→Option (Nat × List (Int × Int))} {ks:List Int} {s0:Nat × List (Int × Int)} (h:rngCk step ks s0=true) {m:List Bool} (hm:m.length=ks.length) {i:Nat} (hi:m[i]?=some false) {k:Int} (hk:ks[i]?=some k)
   {s:Nat × List (Int × Int)} (hs:rngH step ks m s0=some s):∃s',step s k=some s'∧rngH step ks (m.set i true) s0=some s':=by
 unfold rngCk at h
 have h1:=List.all_eq_true.1 h m (mem_masks2 _ m hm)
 have hil:i < ks.length:=by
   rcases Nat.lt_or_ge i ks.length with h' | h'
   · exact h'
   · rw[List.getElem?_eq_none h'] at hk; cases hk
 have h2:=List.all_eq_true.1 h1 i (List.mem_range.2 hil)
 rw[hi] at h2
 dsimp only at h2
 rw[hk] at h2
 dsimp only at h2
 obtain⟨s',h3,h4⟩:=eqO_some h2
 rw[hs] at h3
 exact⟨s',h3,h4⟩
theorem rngH_none {step:Nat × List (Int × Int)→Int→Option (Nat × List (Int × Int))} {s0:Nat × List (Int × Int)}:∀(ks:List Int),rngH step ks (List.replicate ks.length false) s0=some s0
 | []=>rfl
 | k::ks=>rngH_none ks
theorem okTch_mem {n:Nat} {w:Option Nat} {i:Nat}:∀{l:List Nat},okTch n w l=true→i∈l→i < n→w=some i
 | [],_,hi,_=>by cases hi
 | j::l,h,hi,hlt=>by
   have h:(bif Nat.blt j n then isW w j && okTch n w l else okTch n w l)=true:=h
   cases hb:Nat.blt j n with
   | true =>
     rw[hb] at h
     simp only[cond_true,Bool.and_eq_true] at h
     rcases List.mem_cons.1 hi with rfl | hi
     · cases w with
       | none=>cases h.1
       | some w=>rw[beq_true h.1]
     · exact okTch_mem h.2 hi hlt
   | false =>
     rw[hb] at h
     rcases List.mem_cons.1 hi with rfl | hi
     · have:=Nat.ble_eq_true_of_le (show i+1≤n from hlt)
       rw[show Nat.blt i n=Nat.ble (i+1) n from rfl,this] at hb
       cases hb
     · exact okTch_mem h hi hlt
end
end Go.AM
/-
 The abstract machine: a range over a map in the code: what stands there,and that it is sound.
-/
namespace Go.AM
section
variable {P:Program} {E:Env} {ih:CodeF}
structure RngAt (R:RngD) (a b:Code) (id1 id2 id3:Nat) (ops1 ops2 ops3:Array Oper) (B:Code) (o1 o2 p1 p2 q1 q2 q3:Oper) (wsB:List Nat):Prop where
 a_eq:a=.region id1 ops1 false
 b_eq:b=.block R.i0 (.loop (.seq (.region id2 ops2 false) (.seq (.cond (.tmp R.d4) .skip (.exit R.i0)) (.block R.i1 (.seq (.region id3 ops3 false) B)))))
 l1:ops1.toList=[o1,o2]
 l2:ops2.toList=[p1,p2]
 l3:ops3.toList=[q1,q2,q3]
 g:o1.guard=none∧o2.guard=none∧p1.guard=none∧p2.guard=none∧q1.guard=none∧q2.guard=none∧q3.guard=none
 d:o1.dst=some R.d1∧o2.dst=some R.d2∧p1.dst=some R.d3∧p2.dst=some R.d4∧q1.dst=some R.d5∧q2.dst=some R.d6∧q3.dst=some R.d7
 e:o1.op=.move R.m∧o2.op=.range R.ty (.tmp R.d1)∧p1.op=.next (.tmp R.d2) false∧p2.op=.extract (.tmp R.d3) 0∧q1.op=.entry (.tmp R.d2)∧q2.op=.extract (.tmp R.d5) 0∧q3.op=.assign (.tmp R.d6)
 wB:writesC B=some wsB
 ws:R.ws=R.d1::R.d2::R.d3::R.d4::R.d5::R.d6::R.d7::wsB
 ne:R.d2 ∉ R.d3::R.d4::R.d5::R.d6::R.d7::wsB
theorem contains_false {i:Nat} {l:List Nat} (h:l.contains i=false):i ∉ l:=fun hm=>by
 rw[List.contains_iff_mem.2 hm] at h; cases h
theorem rngC_some {a b:Code} {R:RngD} (h:rngC a b=some R):∃id1 id2 id3 ops1 ops2 ops3 B o1 o2 p1 p2 q1 q2 q3 wsB,RngAt R a b id1 id2 id3 ops1 ops2 ops3 B o1 o2 p1 p2 q1 q2 q3 wsB:=by
 unfold rngC at h
 split at h
 · split at h
   · split at h
     · rename_i o1 o2 p1 p2 q1 q2 q3 e1 e2 e3
       obtain⟨ws,hw,h⟩:=bindC_some h
       unfold rngOps at h
       split at h
       · rename_i g1 g2 g3 g4 g5 g6 g7
         split at h
         · rename_i d1 d2 d3 d4 d5 d6 d7 k1 k2 k3 k4 k5 k6 k7
           split at h
           · rename_i m ty f1 f2 f3 f4 f5 f6 f7 m1 m2 m3 m4 m5 m6 m7 m8
             split at h
             rotate_left
             · cases h
             rename_i hc
             cases h
             simp only[Bool.and_eq_true,Bool.not_eq_true'] at hc
             obtain⟨⟨⟨⟨⟨⟨⟨⟨hc1,hc2⟩,hc3⟩,hc4⟩,hc5⟩,hc6⟩,hc7⟩,hc8⟩,hc9⟩:=hc
             have:=beq_true hc1; have:=beq_true hc2; have:=beq_true hc3; have:=beq_true hc4; have:=beq_true hc5; have:=beq_true hc6; have:=beq_true hc7; have:=beq_true hc8
             subst_vars
             exact⟨_,_,_,_,_,_,_,_,_,_,_,_,_,_,_,⟨rfl,rfl,e1,e2,e3,⟨g1,g2,g3,g4,g5,g6,g7⟩,⟨k1,k2,k3,k4,k5,k6,k7⟩,⟨m1,m2,m3,m4,m5,m6,m7⟩,hw,rfl,contains_false hc9⟩⟩
           · cases h
         · cases h
       · cases h
     · cases h
   · cases h
 · cases h
theorem xc_seq {a b:Code} (h:rngC a b=none):xc (.seq a b)=.seq (xc a) (xc b):=by
 show (match rngC a b with | some R=>XC.rngm R (xc b) | none=>.seq (xc a) (xc b))=_
 rw[h]
theorem xc_rng {a b:Code} {R:RngD} (h:rngC a b=some R):xc (.seq a b)=.rngm R (xc b):=by
 show (match rngC a b with | some R=>XC.rngm R (xc b) | none=>.seq (xc a) (xc b))=_
 rw[h]
theorem projB_eq {R:RngD} {a b:Code} {id1 id2 id3:Nat} {ops1 ops2 ops3:Array Oper} {B:Code} {o1 o2 p1 p2 q1 q2 q3:Oper} {wsB:List Nat} (h:RngAt R a b id1 id2 id3 ops1 ops2 ops3 B o1 o2 p1 p2 q1 q2 q3 wsB):projB (xc b)=xc B:=by
 have n3:rngC (.region id3 ops3 false) B=none:=by
   cases n3:rngC (.region id3 ops3 false) B with
   | none=>rfl
   | some R' =>
     obtain⟨id1',_,_,ops1',_,_,_,o1',o2',_,_,_,_,_,_,h'⟩:=rngC_some n3
     have e:=h'.a_eq
     cases e
     have l1:=h'.l1
     rw[h.l3] at l1
     cases l1
 have e1:=xc_seq (a:=.region id2 ops2 false) (b:=.seq (.cond (.tmp R.d4) .skip (.exit R.i0)) (.block R.i1 (.seq (.region id3 ops3 false) B))) rfl
 have e2:=xc_seq (a:=.cond (.tmp R.d4) .skip (.exit R.i0)) (b:=.block R.i1 (.seq (.region id3 ops3 false) B)) rfl
 have e3:=xc_seq n3
 rw[h.b_eq]
 show projB (.block R.i0 (.loop (xc (.seq (.region id2 ops2 false) (.seq (.cond (.tmp R.d4) .skip (.exit R.i0)) (.block R.i1 (.seq (.region id3 ops3 false) B)))))))=_
 rw[e1,e2]
 show projB (.block R.i0 (.loop (.seq _ (.seq _ (.block R.i1 (xc (.seq (.region id3 ops3 false) B)))))))=_
 rw[e3]
 rfl
theorem rngHeap_get {h0:Heap} {w:Option Nat} {s0 s:Nat × List (Int × Int)} (hi:rngInit h0 w=some s0) {j:Nat} {o:AObj} (ho:(rngHeap h0 w s).get j=some o):(∃o',h0.get j=some o')∧((w≠some j∧h0.get j=some o)∨(w=some j∧o=.mapo (entsA s.2))):=by
 cases w with
 | none=>exact⟨⟨o,ho⟩,.inl ⟨by simp,ho⟩⟩
 | some w =>
   obtain⟨es,hg,_⟩:=Heap.onMapo_some hi
   have ho:(h0.set w (.mapo (entsA s.2))).get j=some o:=ho
   by_cases e:w=j
   · subst e
     rw[Heap.get_set_eq h0 _ hg] at ho
     cases ho
     exact⟨⟨_,hg⟩,.inr ⟨rfl,rfl⟩⟩
   · rw[Heap.get_set_ne h0 _ e] at ho
     exact⟨⟨o,ho⟩,.inl ⟨by simpa using e,ho⟩⟩
end
end Go.AM
/-
 The abstract machine: a range over a map in the code is sound.
-/
namespace Go.AM
section
variable {P:Program} {E:Env} {ih:CodeF} {ops:Array Oper} {rest:List Oper} {o:Oper} {a:Act} {w:World} {Q:Exit→Act→World→Prop}
theorem wpList_val {v:Value} (hg:o.guard=none) (hrun:(execOp a.eval o).run P w=.ok (.value v) w) (hK:wpList P ops Q rest (a.put o.dst v) w):wpList P ops Q (o::rest) a w:=by
 refine wpList_plain hg fun K' hK'=>?_
 unfold Oper.wp
 rw[hrun]
 exact hK' _ _ hK
theorem DlS.imp {W:World} {b clock:Nat} {ents:Array MapEntry} {J J':World→Prop} {K:MapEntry→Prop} {seen:Array Nat} {n:Nat} {wr:World} (h:DlS W b clock ents J K seen n wr) (hj:J wr→J' wr):DlS W b clock ents J' K seen n wr:=⟨h.ex,hj h.keep,h.lt⟩
theorem DlS.done {W:World} {b clock:Nat} {ents:Array MapEntry} {J:World→Prop} {seen:Array Nat} {wr:World} (h:DlS W b clock ents J (fun x=>(fun _=>false) x=false∨x.born ∉ seen) seen 0 wr):(∀x∈ents.toList,x.born∈seen):=by
 obtain⟨⟨es,c0,h1,h2,h3,h4,h5,h6,h7⟩,_,_⟩:=h
 intro x hx
 have:=all_seen es seen h7 x ((h6 x hx).2 (.inl rfl))
 simpa using this
theorem DlS.to {W:World} {b clock:Nat} {ents:Array MapEntry} {J J':World→Prop} {K K':MapEntry→Prop} {seen:Array Nat} {n:Nat} {wr w':World} (h:DlS W b clock ents J K seen n wr) (hk:∀x∈ents.toList,K x↔K' x) (hJ:J' w') (hs:wr.heap.size≤w'.heap.size) (hb:w'.heap[b]?=wr.heap[b]?) (hr:w'.heap[W.heap.size]?=wr.heap[W.heap.size]?):DlS W b clock ents J' K' seen n w':=by
 obtain⟨⟨es,c0,h1,h2,h3,h4,h5,h6,h7⟩,h8,h9⟩:=h
 exact⟨⟨es,c0,by rw[hb]; exact h1,by rw[hr]; exact h2,h3,h4,h5,fun x hx=>(h6 x hx).trans (hk x hx),h7⟩,hJ,Nat.lt_of_lt_of_le h9 hs⟩
theorem wpList_next_dl2 {W wr:World} {b clock:Nat} {ents:Array MapEntry} {J:World→Prop} {seen:Array Nat} {n:Nat} (hg:o.guard=none) (it:Operand) (hop:o.op=Op.next it false) (hit:a.eval it=.pointer (some ⟨W.heap.size,0,none⟩)) (hJ:DlJ W b J) (hst:MapKept.Stamped ents clock) (hbr:b < W.heap.size)
   (h:DlS W b clock ents J (fun x=>(fun _:MapEntry=>false) x=false∨x.born ∉ seen) seen n wr)
   (hDone:n=0→wpList P ops Q rest (a.put o.dst (.tuple #[.bool false])) wr)
   (hMore:∀e w' n',e∈ents.toList→e.born ∉ seen→DlS W b clock ents J (fun x=>(fun _:MapEntry=>false) x=false∨x.born ∉ seen) (seen.push e.born) n' w'→n' < n→(Instr.entry (.pointer (some ⟨W.heap.size,0,none⟩))).run P w'=.ok (.tuple #[e.key,e.val]) w' →
     wpList P ops Q rest (a.put o.dst (.tuple #[.bool true,e.key,e.val])) w'):wpList P ops Q (o::rest) a wr:=by
 refine wpList_plain hg fun K' hK'=>?_
 unfold Oper.wp
 rcases h.next (P:=P) (pd:=fun _=>false) hJ hst hbr o.type with ⟨h0,hrun,_⟩ | ⟨e,w',n',he,_,hns,hrun,hs,hlt,hen⟩
 · simp[execOp,hop,hit,hrun,Result.andThen]
   exact hK' _ _ (hDone h0)
 · simp[execOp,hop,hit,hrun,Result.andThen]
   exact hK' _ _ (hMore e w' n' he hns hs hlt hen)
theorem rngStep_some {R:RngD} {B:XC} {frU:Tr} {w:Option Nat} {h0:Heap} {s s':Nat × List (Int × Int)} {k:Int} (h:rngStep ih R B frU w h0 s k=some s'):∃e fr1 h1,ih B (frU.set R.d7 (.int .i64 k)) (rngHeap h0 w s)=.ok e fr1 h1∧endOk R.i1 e=true∧okTch s.1 w h1.tch=true∧rngRead w h1=some s':=by
 unfold rngStep at h
 cases hq:ih B (frU.set R.d7 (.int .i64 k)) (rngHeap h0 w s) with
 | bad=>rw[hq] at h; cases h
 | pan v h1=>rw[hq] at h; cases h
 | ok e fr1 h1 =>
   rw[hq] at h
   obtain⟨hc,h⟩:=guardO_some h
   simp only[Bool.and_eq_true] at hc
   exact⟨e,fr1,h1,rfl,hc.1,hc.2,h⟩
theorem put_get {d:Nat} {v:Value} (h:d < a.tmps.size):(a.put (some d) v).tmps.getD d undef=v:=by
 show (a.tmps.setIfInBounds d v).getD d undef=v
 rw[Array.getD_eq_getD_getElem?,Array.getElem?_setIfInBounds_self,if_pos h]; rfl
theorem put_ne {d i:Nat} {v:Value} (h:d≠i):(a.put (some d) v).tmps.getD i undef=a.tmps.getD i undef:=by
 show (a.tmps.setIfInBounds d v).getD i undef=_
 simp[Array.getD_eq_getD_getElem?,Array.getElem?_setIfInBounds_ne h]
theorem put_sz {d:Nat} {v:Value}:(a.put (some d) v).tmps.size=a.tmps.size:=by
 show (a.tmps.setIfInBounds d v).size=_
 rw[Array.size_setIfInBounds]
theorem rng_sound (hE:EnvOk E P) (hc:CodeOk E P ih) (hpr:∀(c:XC) (fr:Tr) (h h':Heap),CRes.heap (ih c fr h)=some h'→Pres h h') {ro:Option Nat} {D:DP} (hD:MonoD D) {ca cb:Code} {R:RngD} (hR:rngC ca cb=some R)
   (hst:StC ro D (.seq ca cb)) {W:World} {cx:Cx} {a:Act} {fr:Tr} {h:Heap} (hf:FrRep W cx a.tmps fr) (hd:D W cx a) (hs:Sat E W cx h) (hb:rngEv E ih R (xc cb) fr h≠.bad) :
   (Code.seq ca cb).wpIn (WF ro) 0 P (PostD E W cx D (rngEv E ih R (xc cb) fr h)) a W:=by
 obtain⟨id1,id2,id3,ops1,ops2,ops3,B,o1,o2,p1,p2,q1,q2,q3,wsB,hA⟩:=rngC_some hR
 obtain⟨id,es,ks,w,s0,sF,hm,hg,hks,hlen,⟨hall,hmapT⟩,hinit,hck,hfin,hle,hout⟩:=rngEv_inv hb
 rw[hout]
 have hpB:=projB_eq hA
 rw[hpB] at hck hfin
 obtain⟨aeq,beq,l1,l2,l3,⟨gd1,gd2,gd3,gd4,gd5,gd6,gd7⟩,⟨dd1,dd2,dd3,dd4,dd5,dd6,dd7⟩,⟨ee1,ee2,ee3,ee4,ee5,ee6,ee7⟩,hwB,hws,hne⟩:=hA
 subst aeq beq
 simp only[hasAll,Bool.and_eq_true] at hall
 obtain⟨⟨⟨⟨⟨⟨z1,z2⟩,z3⟩,z4⟩,z5⟩,z6⟩,z7⟩:=hall
 have t1:=hf.has _ z1; have t2:=hf.has _ z2; have t3:=hf.has _ z3; have t4:=hf.has _ z4; have t5:=hf.has _ z5; have t6:=hf.has _ z6; have t7:=hf.has _ z7
 simp only[List.mem_cons,not_or] at hne
 obtain⟨ne3,ne4,ne5,ne6,ne7,neB⟩:=hne
 have st:∀(o:Oper),o∈ops1.toList∨o∈ops2.toList∨o∈ops3.toList→StabD D o.dst:=fun o ho=>by
   rcases ho with ho | ho | ho
   · obtain⟨i,hi⟩:=List.getElem?_of_mem ho; exact hst.1 i o (by simpa using hi)
   · obtain⟨i,hi⟩:=List.getElem?_of_mem ho; exact hst.2.1 i o (by simpa using hi)
   · obtain⟨i,hi⟩:=List.getElem?_of_mem ho; exact hst.2.2.2.1 i o (by simpa using hi)
 have s1:StabD D (some R.d1):=by rw[← dd1]; exact st o1 (.inl (by rw[l1]; simp))
 have s2:StabD D (some R.d2):=by rw[← dd2]; exact st o2 (.inl (by rw[l1]; simp))
 have s3:StabD D (some R.d3):=by rw[← dd3]; exact st p1 (.inr (.inl (by rw[l2]; simp)))
 have s4:StabD D (some R.d4):=by rw[← dd4]; exact st p2 (.inr (.inl (by rw[l2]; simp)))
 have s5:StabD D (some R.d5):=by rw[← dd5]; exact st q1 (.inr (.inr (by rw[l3]; simp)))
 have s6:StabD D (some R.d6):=by rw[← dd6]; exact st q2 (.inr (.inr (by rw[l3]; simp)))
 have s7:StabD D (some R.d7):=by rw[← dd7]; exact st q3 (.inr (.inr (by rw[l3]; simp)))
 have hstB:StC ro D B:=hst.2.2.2.2
 obtain⟨hid,hown,hlt,ents,clock,l0,k1,kp,k2,k3,k4,k5⟩:=hs.objs id _ hg
 have hent:EntRep W cx l0 es:=⟨k2,k3⟩
 obtain⟨hkeys,hwf⟩:=keysI_some es l0 ks hent hks
 have hmv:a.eval R.m=.map (some (cx.μ id).1):=by
   have:=opv_rep (E:=E) hs hf R.m
   rw[hm] at this
   generalize a.eval R.m=v at this
   cases this; rfl
 let b:=(cx.μ id).1
 let r:=W.heap.size
 let h0:=hide h id
 have hbr:b≠r:=Nat.ne_of_lt hlt
 have hhb:¬ cx.held b:=hs.free id _ hg
 have hhr:¬ cx.held r:=fun e=>Nat.lt_irrefl _ (hs.held r e).1
 have hmg:∀j o,h0.get j=some o→j≠id∧h.get j=some o:=fun j o ho=>by
   have ho:(hide h id).get j=some o:=ho
   rw[hide_get] at ho
   by_cases e:id=j
   · rw[if_pos e] at ho; cases ho
   · rw[if_neg e] at ho; exact⟨fun e'=>e e'.symm,ho⟩
 have hmu:∀s j o,(rngHeap h0 w s).get j=some o→j < cx.nx∧(cx.μ j).1≠b∧(cx.μ j).1≠r:=fun s j o ho=>by
   obtain⟨⟨o',ho'⟩,_⟩:=rngHeap_get hinit ho
   obtain⟨h1,h2⟩:=hmg j o' ho'
   obtain⟨m1,_,m3,_⟩:=hs.objs j o' h2
   exact⟨m1,fun e=>h1 (hs.inj j id o' _ h2 hg e),Nat.ne_of_lt m3⟩
 let step:=rngStep ih R (xc B) (undAll R.ws fr) w h0
 let J:List Bool→Act→World→Prop:=fun m a' wr=>∃cx' s,rngH step ks m s0=some s∧Ext W cx wr cx'∧Sat E wr cx' (rngHeap h0 w s)∧cx'.own b∧¬ cx'.held b∧cx'.own r∧¬ cx'.held r∧D wr cx' a'
 have hDlJ:∀m a',DlJ W b (J m a'):=by
   rintro m a' W1 W2 ⟨cx',s,hH,he,hs',ho1,hh1,ho2,hh2,hd'⟩ hsz hk hz e1 e2 e3
   have hext:Ext W1 cx' W2 cx':=⟨⟨Nat.le_refl _,fun _ _=>rfl,hsz,fun i hi hno=>hk i (fun e=>hno (by rw[e]; exact ho1)) (fun e=>hno (by rw[e]; exact ho2)) hi,hz,fun _ _ h=>h⟩,
     fun i hi hh=>⟨hh,hk i (fun e=>hh1 (by rw[← e]; exact hh)) (fun e=>hh2 ((show i=r from e) ▸ hh)) hi⟩,e1,e2,e3⟩
   refine⟨cx',s,hH,he.trans hext,⟨hs'.nx,fun j o ho=>?_,hs'.inj,hs'.gl.mono hext,fun i hi=>⟨Nat.lt_of_lt_of_le (hs'.held i hi).1 hsz,(hs'.held i hi).2⟩,hs'.free⟩,ho1,hh1,ho2,hh2,hD _ _ _ _ _ hext hd'⟩
   obtain⟨m1,m2,m3,m4⟩:=hs'.objs j o ho
   obtain⟨q1',q2',q3'⟩:=hmu s j o ho
   have hm':cx'.μ j=cx.μ j:=he.mu j q1'
   exact⟨m1,m2,Nat.lt_of_lt_of_le m3 hsz,m4.mono hext (hk _ (by rw[hm']; exact q2') (by rw[hm']; exact q3') m3)⟩
 have hJput:∀m a' d v wr,StabD D (some d)→J m a' wr→J m (a'.put (some d) v) wr:=by
   rintro m a' d v wr hsd ⟨cx',s,hH,he,hs',ho1,hh1,ho2,hh2,hd'⟩
   exact⟨cx',s,hH,he,hs',ho1,hh1,ho2,hh2,hsd _ _ _ _ hd'⟩
 have hJ0:J (List.replicate ks.length false) a W:=by
   have hext:Ext W cx W ⟨cx.μ,cx.nx,fun i=>cx.own i∨i=r,cx.held⟩:=⟨⟨Nat.le_refl _,fun _ _=>rfl,Nat.le_refl _,fun _ _ _=>rfl,fun _ _=>rfl,fun i hi h=>h.elim (fun h=>h) fun e=>absurd hi (by rw[e]; exact Nat.lt_irrefl _)⟩,fun _ _ h=>⟨h,rfl⟩,rfl,rfl,rfl⟩
   have hnx:(rngHeap h0 w s0).next=h.next:=by
     cases w with
     | none=>cases hinit; rfl
     | some w =>
       obtain⟨es1,hg1,hi1⟩:=Heap.onMapo_some hinit
       obtain⟨l,hl,hi1⟩:=obind_some hi1
       cases hi1; rfl
   refine⟨_,s0,rngH_none ks,hext,⟨hnx.trans hs.nx,fun j o ho=>?_,fun j j' o o' ho ho' e=>?_,hs.gl.mono hext,fun i hi=>⟨(hs.held i hi).1,.inl (hs.held i hi).2⟩,fun j o ho=>?_⟩,.inl hown,hhb,.inr rfl,hhr,hD _ _ _ _ _ hext hd⟩
   · obtain⟨⟨o',ho'⟩,hcase⟩:=rngHeap_get hinit ho
     obtain⟨h1,h2⟩:=hmg j o' ho'
     obtain⟨m1,m2,m3,m4⟩:=hs.objs j o' h2
     refine⟨m1,.inl m2,m3,?_⟩
     rcases hcase with ⟨_,h3⟩ | ⟨hw,rfl⟩
     · rw[ho'] at h3
       cases h3
       exact m4.mono hext rfl
     · subst hw
       obtain⟨es1,hg1,hi1⟩:=Heap.onMapo_some hinit
       obtain⟨l,hl,hi1⟩:=obind_some hi1
       cases hi1
       rw[ho'] at hg1
       cases hg1
       rw[entI_eq hl] at m4
       exact (m4.perm (entsA_perm (sortP_perm l).symm)).mono hext rfl
   · obtain⟨⟨o1',ho1'⟩,_⟩:=rngHeap_get hinit ho
     obtain⟨⟨o2',ho2'⟩,_⟩:=rngHeap_get hinit ho'
     exact hs.inj j j' _ _ (hmg j _ ho1').2 (hmg j' _ ho2').2 e
   · obtain⟨⟨o1',ho1'⟩,_⟩:=rngHeap_get hinit ho
     exact hs.free j _ (hmg j _ ho1').2
 let frU:=undAll R.ws fr
 let Q0:=PostD E W cx D (.ok .normal frU (rngOut h w sF))
 have hQ0:∀a w,¬ Q0 .outgrown a w:=fun a w ⟨cx',_,_,e,_⟩=>by cases e
 have hframe:∀(a':Act) (wr:World) (cx':Cx),Ext W cx wr cx'→a'.tmps.size=a.tmps.size→(∀i,i ∉ R.ws→a'.tmps.getD i undef=a.tmps.getD i undef)→FrRep wr cx' a'.tmps frU:=fun a' wr cx' he hsz hsl =>
   FrRep.undAll R.ws fr (fun i hi=>by rw[hsl i hi]; exact (hf.rep i).mono he) (fun i hi=>by rw[hsz]; exact hf.has i hi)
 have hin:∀i,i ∉ R.ws→R.d1≠i∧R.d2≠i∧R.d3≠i∧R.d4≠i∧R.d5≠i∧R.d6≠i∧R.d7≠i∧i ∉ wsB:=fun i hi=>by
   rw[hws] at hi
   simp only[List.mem_cons,not_or] at hi
   exact⟨Ne.symm hi.1,Ne.symm hi.2.1,Ne.symm hi.2.2.1,Ne.symm hi.2.2.2.1,Ne.symm hi.2.2.2.2.1,Ne.symm hi.2.2.2.2.2.1,Ne.symm hi.2.2.2.2.2.2.1,hi.2.2.2.2.2.2.2⟩
 have hget:∀j o,(rngOut h w sF).get j=some o→(j=id∧o=.mapo es)∨(j≠id∧(rngHeap h0 w sF).get j=some o):=by
   intro j o ho
   cases w with
   | none =>
     have ho:h.get j=some o:=ho
     by_cases e:id=j
     · subst e; rw[hg] at ho; cases ho; exact .inl ⟨rfl,rfl⟩
     · refine .inr ⟨fun e'=>e e'.symm,?_⟩
       show (hide h id).get j=some o
       rw[hide_get,if_neg e]; exact ho
   | some w =>
     have ho:(h.set w (.mapo (entsA sF.2))).get j=some o:=ho
     obtain⟨es1,hg1,_⟩:=Heap.onMapo_some hinit
     obtain⟨hw1,hw2⟩:=hmg w _ hg1
     by_cases e:w=j
     · subst e
       rw[Heap.get_set_eq h _ hw2] at ho
       refine .inr ⟨hw1,?_⟩
       rw[← ho]
       exact Heap.get_set_eq h0 _ hg1
     · rw[Heap.get_set_ne h _ e] at ho
       by_cases e2:id=j
       · subst e2; rw[hg] at ho; cases ho; exact .inl ⟨rfl,rfl⟩
       · refine .inr ⟨fun e'=>e2 e'.symm,?_⟩
         show (h0.set w (.mapo (entsA sF.2))).get j=some o
         rw[Heap.get_set_ne h0 _ e]
         show (hide h id).get j=some o
         rw[hide_get,if_neg e2]; exact ho
 have hgetμ:∀(cx':Cx) (wr:World),Ext W cx wr cx'→∀j o,(rngOut h w sF).get j=some o→(∃o',h.get j=some o')∧cx'.μ j=cx.μ j:=fun cx' wr he j o ho=>by
   rcases hget j o ho with ⟨rfl,_⟩ | ⟨_,h1⟩
   · exact⟨⟨_,hg⟩,he.mu _ hid⟩
   · obtain⟨⟨o',ho'⟩,_⟩:=rngHeap_get hinit h1
     exact⟨⟨o',(hmg j o' ho').2⟩,he.mu j (hmu _ j o h1).1⟩
 let body:Code:=.seq (.region id2 ops2 false) (.seq (.cond (.tmp R.d4) .skip (.exit R.i0)) (.block R.i1 (.seq (.region id3 ops3 false) B)))
 have hlk:l0.length=ks.length:=by
   have:=congrArg List.length hkeys
   simpa using this
 have hbn:(l0.map (·.born)).Nodup:=(kp.map _).nodup_iff.2 k4.2.1
 have loop:∀(N n:Nat) (m:List Bool) (a':Act) (wr:World) (seen:Array Nat),n < N→m.length=ks.length→(∀(i:Nat) (e:MapEntry),l0[i]?=some e→(m[i]?=some true↔e.born∈seen)) →
     DlS W b clock ents (J m a') (fun x=>(fun _:MapEntry=>false) x=false∨x.born ∉ seen) seen n wr→a'.tmps.size=a.tmps.size→(∀i,i ∉ R.ws→a'.tmps.getD i undef=a.tmps.getD i undef) →
     a'.tmps.getD R.d2 undef=.pointer (some ⟨r,0,none⟩)→Code.roundsIn (WF ro) 0 P body (Exit.inBlock R.i0 Q0) N a' wr:=by
   intro N
   induction N with
   | zero=>intro n m a' wr seen hlt0; exact absurd hlt0 (Nat.not_lt_zero _)
   | succ N ihN =>
     intro n m a' wr seen hnN hml hms hdl hsz hsl hd2
     rw[roundsIn_succ]
     refine wpIn_seq (region_in (fun ⟨a1,w1,hx⟩=>hQ0 a1 w1 hx) (fun o ho=>by
       rw[l2] at ho
       simp only[List.mem_cons,List.not_mem_nil,or_false] at ho
       rcases ho with rfl | rfl
       · intro c e; rw[ee3] at e; cases e
       · intro c e; rw[ee4] at e; cases e) ?_)
     rw[l2]
     refine wpList_next_dl2 (W:=W) gd3 (.tmp R.d2) ee3 hd2 (hDlJ m a') k4 hlt hdl (fun hn0=>?_) (fun e w' n' he hns hdl' hlt' hen=>?_)
     · -- nothing is left
       subst hn0
       rw[dd3]
       refine wpList_val (v:=.bool false) gd4 ?_ ?_
       · have hev:(a'.put (some R.d3) (.tuple #[.bool false])).eval (.tmp R.d3)=.tuple #[.bool false]:=put_get (by rw[hsz]; exact t3)
         simp[execOp,ee4,hev,Instr.extract]
       rw[dd4]
       refine wpIn_seq (wpIn_cond_false (put_get (by rw[put_sz,hsz]; exact t4)) (wpIn_exit ?_))
       show Exit.inBlock R.i0 Q0 (.exit R.i0) _ _
       show if R.i0=R.i0 then _ else _
       rw[if_pos rfl]
       have hseen:=hdl.done
       obtain⟨cx',s,hH,he,hs',ho1,hh1,ho2,hh2,hd'⟩:=hdl.keep
       have hmt:m=List.replicate ks.length true:=by
         apply List.ext_getElem?
         intro i
         rcases Nat.lt_or_ge i ks.length with hi | hi
         · have hl:i < l0.length:=by omega
           have:=(hms i l0[i] (List.getElem?_eq_getElem hl)).2 (hseen _ (kp.mem_iff.1 (List.getElem_mem hl)))
           rw[this,List.getElem?_replicate,if_pos hi]
         · rw[List.getElem?_eq_none (by omega),List.getElem?_eq_none (by simpa using hi)]
       rw[hmt] at hH
       have hsF:s=sF:=Option.some.inj (hH.symm.trans hfin)
       subst hsF
       refine⟨cx',he,s4 _ _ _ _ (s3 _ _ _ _ hd'),rfl,⟨?_,fun j o ho=>?_,fun j j' o o' ho ho' e=>?_,hs'.gl,hs'.held,fun j o ho=>?_⟩,?_⟩
       · have:=hs'.nx
         cases w with
         | none=>exact this
         | some w=>exact this
       · rcases hget j o ho with ⟨rfl,rfl⟩ | ⟨_,h1⟩
         · have hmid:cx'.μ j=cx.μ j:=he.mu j hid
           obtain⟨⟨es1,c0,g1,g2,g3,g4,g5,g6,g7⟩,_,_⟩:=hdl
           have heq:es1.toList=ents.toList:=g5.eq_of_length_le (by
             have hsub:ents.toList.Sublist es1.toList∨True:=.inr trivial
             have hnd:ents.toList.Nodup:=(List.pairwise_map.1 k4.2.1).imp fun h e=>h (by rw[e])
             exact (hnd.length_le_of_subset fun x hx=>(g6 x hx).2 (.inl rfl)))
           rw[hmid]
           exact⟨by have:=he.nx; omega,ho1,Nat.lt_of_lt_of_le hlt he.sz,es1,clock,l0,g1,by rw[heq]; exact kp,k2,fun i e q h2 h3=>⟨(k3 i e q h2 h3).1.mono he,(k3 i e q h2 h3).2.mono he⟩,g4,k5⟩
         · exact hs'.objs j o h1
       · obtain⟨⟨x1,h1⟩,e1⟩:=hgetμ cx' wr he j o ho
         obtain⟨⟨x2,h2⟩,e2⟩:=hgetμ cx' wr he j' o' ho'
         exact hs.inj j j' x1 x2 h1 h2 (by rw[← e1,← e2]; exact e)
       · rcases hget j o ho with ⟨rfl,_⟩ | ⟨_,h1⟩
         · have hmid:cx'.μ j=cx.μ j:=he.mu j hid
           rw[hmid]; exact hh1
         · exact hs'.free j o h1
       · exact hframe _ wr cx' he (by rw[put_sz,put_sz,hsz]) fun i hi=>by
           obtain⟨_,_,n3,n4,_⟩:=hin i hi
           rw[put_ne n4,put_ne n3]; exact hsl i hi
     · -- an entry has come
       rw[dd3]
       have hsz1:(a'.put (some R.d3) (.tuple #[.bool true,e.key,e.val])).tmps.size=a.tmps.size:=by rw[put_sz,hsz]
       refine wpList_val (v:=.bool true) gd4 ?_ ?_
       · have hev:(a'.put (some R.d3) (.tuple #[.bool true,e.key,e.val])).eval (.tmp R.d3)=.tuple #[.bool true,e.key,e.val]:=put_get (by rw[hsz]; exact t3)
         simp[execOp,ee4,hev,Instr.extract]
       rw[dd4]
       refine wpIn_seq (wpIn_cond_true (put_get (by rw[hsz1]; exact t4)) (wpIn_skip ?_))
       refine wpIn_block (wpIn_seq (region_in (fun ⟨a1,w1,hx⟩=>hQ0 a1 w1 hx) (fun o ho=>by
         rw[l3] at ho
         simp only[List.mem_cons,List.not_mem_nil,or_false] at ho
         rcases ho with rfl | rfl | rfl
         · intro c e; rw[ee5] at e; cases e
         · intro c e; rw[ee6] at e; cases e
         · intro c e; rw[ee7] at e; cases e) ?_))
       rw[l3]
       generalize ha2:(a'.put (some R.d3) (.tuple #[.bool true,e.key,e.val])).put (some R.d4) (.bool true)=a2
       have hsz2:a2.tmps.size=a.tmps.size:=by rw[← ha2,put_sz,hsz1]
       have hsl2:∀i,R.d3≠i→R.d4≠i→a2.tmps.getD i undef=a'.tmps.getD i undef:=fun i n3 n4=>by rw[← ha2,put_ne n4,put_ne n3]
       refine wpList_val (v:=.tuple #[e.key,e.val]) gd5 ?_ ?_
       · have hev:a2.eval (.tmp R.d2)=.pointer (some ⟨W.heap.size,0,none⟩):=(hsl2 _ (Ne.symm ne3) (Ne.symm ne4)).trans hd2
         simp[execOp,ee5,hev,hen,Result.andThen]
       rw[dd5]
       refine wpList_val (v:=e.key) gd6 ?_ ?_
       · have hev:(a2.put (some R.d5) (.tuple #[e.key,e.val])).eval (.tmp R.d5)=.tuple #[e.key,e.val]:=put_get (by rw[hsz2]; exact t5)
         simp[execOp,ee6,hev,Instr.extract]
       rw[dd6]
       refine wpList_val (v:=e.key) gd7 ?_ ?_
       · have hev:((a2.put (some R.d5) (.tuple #[e.key,e.val])).put (some R.d6) e.key).eval (.tmp R.d6)=e.key:=put_get (by rw[put_sz,hsz2]; exact t6)
         simp[execOp,ee7,hev]
       rw[dd7]
       obtain⟨cx',s,hH,he',hs',ho1,hh1,ho2,hh2,hd'⟩:=hdl'.keep
       obtain⟨i,hi⟩:=List.getElem?_of_mem (kp.mem_iff.2 he)
       have hil:i < ks.length:=by
         rcases Nat.lt_or_ge i l0.length with h' | h'
         · omega
         · rw[List.getElem?_eq_none h'] at hi; cases hi
       have hki:ks[i]?=some ks[i]:=List.getElem?_eq_getElem hil
       have hkey:e.key=.int .i64 ks[i]:=by
         have:=congrArg (·[i]?) hkeys
         simp only[List.getElem?_map,hi,hki,Option.map_some] at this
         exact Option.some.inj this
       have hmi:m[i]?=some false:=by
         have hml':i < m.length:=by omega
         rw[List.getElem?_eq_getElem hml']
         cases hb:m[i] with
         | false=>rfl
         | true=>exact absurd ((hms i e hi).1 (by rw[List.getElem?_eq_getElem hml',hb])) hns
       obtain⟨s',hstep,hH'⟩:=rngCk_step hck hml hmi hki hH
       obtain⟨e1,fr1,h1,hih,hend,hok,hread⟩:=rngStep_some hstep
       generalize ha4:(a2.put (some R.d5) (.tuple #[e.key,e.val])).put (some R.d6) e.key=a4
       have hsz4:a4.tmps.size=a.tmps.size:=by rw[← ha4,put_sz,put_sz,hsz2]
       have hsl4:∀i,R.d3≠i→R.d4≠i→R.d5≠i→R.d6≠i→a4.tmps.getD i undef=a'.tmps.getD i undef:=fun i n3 n4 n5 n6=>by rw[← ha4,put_ne n6,put_ne n5]; exact hsl2 i n3 n4
       have hd4':D w' cx' a4:=by rw[← ha4,← ha2]; exact s6 _ _ _ _ (s5 _ _ _ _ (s4 _ _ _ _ (s3 _ _ _ _ hd')))
       let H:Nat→Prop:=fun i=>i=b∨i=r
       have hblt:b < w'.heap.size:=Nat.lt_of_lt_of_le hlt he'.sz
       have hrlt:r < w'.heap.size:=hdl'.lt
       have hsH:Sat E w' (cx'.holds H) (rngHeap h0 w s):=hs'.holds (fun i hi=>hi.elim (fun e=>by subst e; exact⟨hblt,ho1⟩) (fun e=>by subst e; exact⟨hrlt,ho2⟩)) (fun j o ho hj=>by
         obtain⟨q1',q2',q3'⟩:=hmu s j o ho
         have hm':cx'.μ j=cx.μ j:=he'.mu j q1'
         rw[hm'] at hj
         exact hj.elim q2' q3')
       have heH:=Cx.holds_ext w' cx' H
       have hf4:FrRep w' (cx'.holds H) a4.tmps frU:=hframe a4 w' _ (he'.trans heH) hsz4 fun i hi=>by
         obtain⟨_,_,n3,n4,n5,n6,n7,_⟩:=hin i hi
         rw[hsl4 i n3 n4 n5 n6]; exact hsl i hi
       have hf5:FrRep w' (cx'.holds H) (a4.put (some R.d7) e.key).tmps (frU.set R.d7 (.int .i64 ks[i])):=hf4.put (some R.d7) (by rw[hkey]; exact .int _ _)
       have hdb:DPb D b r wsB (a4.put (some R.d7) e.key).tmps w' (cx'.holds H) (a4.put (some R.d7) e.key):=by
         refine⟨?_,rfl,fun _ _=>rfl⟩
         have hx:Ext w' cx' w' ⟨cx'.μ,cx'.nx,cx'.own,fun i=>(cx'.held i∨H i)∧i≠b∧i≠r⟩:=⟨⟨Nat.le_refl _,fun _ _=>rfl,Nat.le_refl _,fun _ _ _=>rfl,fun _ _=>rfl,fun _ _ h=>h⟩,fun i _ hh=>⟨⟨.inl hh,fun e=>hh1 (e ▸ hh),fun e=>hh2 (e ▸ hh)⟩,rfl⟩,rfl,rfl,rfl⟩
         exact hD _ _ _ _ _ hx (s7 _ _ _ _ hd4')
       have hrun:=hc ro (DPb D b r wsB (a4.put (some R.d7) e.key).tmps) B w' (cx'.holds H) (a4.put (some R.d7) e.key) _ _ (DPb.mono hD) (stC_writes (fun d q1 q2=>DPb.stab d q1 q2) B wsB hwB (fun _ ht=>ht) hstB) hf5 hdb hsH (by rw[hih]; exact fun e=>by cases e)
       refine wpIn_mono hrun fun x a6 w6 hp=>?_
       rw[hih] at hp
       obtain⟨cx2,he2,⟨hd6,hsz6,hsl6⟩,rfl,hs2,hf6⟩:=hp
       have hpres:=hpr (xc B) _ (rngHeap h0 w s) h1 (by rw[hih]; rfl)
       have hb1:=he2.hold b hblt (.inr (.inl rfl))
       have hb2:=he2.hold r hrlt (.inr (.inr rfl))
       have next:Code.roundsIn (WF ro) 0 P body (Exit.inBlock R.i0 Q0) N a6 w6:=by
         have hsz7:a6.tmps.size=a.tmps.size:=by rw[hsz6,put_sz,hsz4]
         refine ihN n' (m.set i true) a6 w6 (seen.push e.born) (by omega) (by rw[List.length_set]; exact hml) (fun i' e' hi'=>?_) (hdl'.to (fun x hx=>by simp) ?_ he2.sz hb1.2 hb2.2) hsz7 (fun i' hi'=>?_) ?_
         · by_cases hii:i=i'
           · subst hii
             have:e'=e:=Option.some.inj (hi'.symm.trans hi)
             subst this
             rw[List.getElem?_set_self (by omega)]
             simp
           · rw[List.getElem?_set_ne hii,hms i' e' hi']
             have hne':e'.born≠e.born:=fun eb=>by
               obtain⟨hl1,hv1⟩:=List.getElem?_eq_some_iff.1 hi
               obtain⟨hl2,hv2⟩:=List.getElem?_eq_some_iff.1 hi'
               have hpw:=List.pairwise_iff_getElem.1 hbn
               rcases Nat.lt_or_ge i i' with hlt0 | hge0
               · exact hpw i i' (by simpa using hl1) (by simpa using hl2) hlt0 (by simp[hv1,hv2,eb])
               · exact hpw i' i (by simpa using hl2) (by simpa using hl1) (by omega) (by simp[hv1,hv2,eb])
             simp[hne']
         · -- what is kept
           have hsn:s'.1=h1.next:=by
             cases w with
             | none=>cases hread; rfl
             | some w =>
               obtain⟨es1,_,hr1⟩:=Heap.onMapo_some hread
               obtain⟨l,_,hr1⟩:=obind_some hr1
               cases hr1; rfl
           have hobj:∀j o,(rngHeap h0 w s').get j=some o→∃o'',h1.get j=some o''∧∀p,ObjRep w6 cx2 p o''→ObjRep w6 cx2 p o:=by
             intro j o ho
             obtain⟨⟨o',ho'⟩,hcase⟩:=rngHeap_get hinit ho
             rcases hcase with ⟨hwj,h2⟩ | ⟨hwj,rfl⟩
             · have hsj:(rngHeap h0 w s).get j=some o:=by
                 cases w with
                 | none=>exact h2
                 | some w=>exact (Heap.get_set_ne h0 _ (fun e=>hwj (by rw[e]))).trans h2
               obtain⟨_,t,ht,hgt⟩:=hpres
               have ht:h1.tch=t++(rngHeap h0 w s).tch:=ht
               have ht0:(rngHeap h0 w s).tch=[]:=by cases w <;> rfl
               rw[ht0,List.append_nil] at ht
               have hjn:j < (rngHeap h0 w s).next:=by rw[hs'.nx]; exact (hs'.objs j o hsj).1
               have hnext:(rngHeap h0 w s).next=s.1:=by cases w <;> rfl
               refine⟨o,?_,fun p hp=>hp⟩
               rw[hgt j hjn (fun hm'=>hwj (okTch_mem hok (by rw[ht]; exact hm') (by rw[← hnext]; exact hjn)))]
               exact hsj
             · subst hwj
               obtain⟨es1,hg1,hr1⟩:=Heap.onMapo_some hread
               obtain⟨l,hl,hr1⟩:=obind_some hr1
               cases hr1
               refine⟨_,hg1,fun p hp=>?_⟩
               rw[entI_eq hl] at hp
               exact hp.perm (entsA_perm (sortP_perm l).symm)
           have hx0:Ext0 w6 cx2 w6 ⟨cx2.μ,cx2.nx,cx2.own,fun i=>cx2.held i∧i≠b∧i≠r⟩:=⟨Nat.le_refl _,fun _ _=>rfl,Nat.le_refl _,fun _ _ _=>rfl,fun _ _=>rfl,fun _ _ h=>h⟩
           have hxe:Ext w' cx' w6 ⟨cx2.μ,cx2.nx,cx2.own,fun i=>cx2.held i∧i≠b∧i≠r⟩:=⟨⟨he2.nx,he2.mu,he2.sz,he2.keep,he2.shape,he2.own⟩,fun i hi hh=>⟨⟨(he2.hold i hi (.inl hh)).1,fun e=>hh1 (e ▸ hh),fun e=>hh2 (e ▸ hh)⟩,(he2.hold i hi (.inl hh)).2⟩,he2.out⟩
           refine⟨_,s',hH',he'.trans hxe,⟨?_,fun j o ho=>?_,fun j j' o o' ho ho' ee=>?_,hs2.gl.mono0 hx0,fun i hi=>hs2.held i hi.1,fun j o ho hh=>?_⟩,(hs2.held b hb1.1).2,fun hh=>hh.2.1 rfl,(hs2.held r hb2.1).2,fun hh=>hh.2.2 rfl,hd6⟩
           · have:(rngHeap h0 w s').next=s'.1:=by cases w <;> rfl
             rw[this,hsn]; exact hs2.nx
           · obtain⟨o'',q1',q2'⟩:=hobj j o ho
             obtain⟨m1,m2,m3,m4⟩:=hs2.objs j o'' q1'
             exact⟨m1,m2,m3,(q2' _ m4).mono0 hx0 rfl⟩
           · obtain⟨x1,q1',_⟩:=hobj j o ho
             obtain⟨x2,q2',_⟩:=hobj j' o' ho'
             exact hs2.inj j j' x1 x2 q1' q2' ee
           · obtain⟨x1,q1',_⟩:=hobj j o ho
             exact hs2.free j x1 q1' hh.1
         · obtain⟨_,_,n3,n4,n5,n6,n7,nB⟩:=hin i' hi'
           rw[hsl6 i' nB,put_ne n7,hsl4 i' n3 n4 n5 n6]; exact hsl i' hi'
         · rw[hsl6 _ neB,put_ne (Ne.symm ne7),hsl4 _ (Ne.symm ne3) (Ne.symm ne4) (Ne.symm ne5) (Ne.symm ne6)]; exact hd2
       cases e1 with
       | normal=>exact next
       | exit j =>
         have hj:j=R.i1:=beq_true hend
         subst hj
         show if R.i1=R.i1 then _ else _
         rw[if_pos rfl]
         exact next
       | ret=>cases hend
 refine wpIn_seq (region_in (fun ⟨a1,w1,hx⟩=>hQ0 a1 w1 hx) (fun o ho=>by
   rw[l1] at ho
   simp only[List.mem_cons,List.not_mem_nil,or_false] at ho
   rcases ho with rfl | rfl
   · intro c e; rw[ee1] at e; cases e
   · intro c e; rw[ee2] at e; cases e) ?_)
 rw[l1]
 refine wpList_val (v:=.map (some b)) gd1 (by simp[execOp,ee1,hmv,b]) ?_
 rw[dd1]
 have hev:(a.put (some R.d1) (.map (some b))).eval (.tmp R.d1)=.map (some b):=put_get t1
 obtain⟨kt,et,hty⟩:∃kt et,P.underlying R.ty=some (.map kt et):=by
   unfold isMapT onTI at hmapT
   cases ht:E.ti R.ty with
   | none=>rw[ht] at hmapT; cases hmapT
   | some ti =>
     rw[ht] at hmapT
     have hdd:=(hE.ti _ _ ht).desc
     unfold descOk at hdd
     cases hq:ti.desc with
     | map k e=>rw[hq] at hdd; exact⟨k,e,hdd⟩
     | _=>simp only[hq] at hmapT; cases hmapT
 refine wpList_range_dl (W:=W) (J:=J (List.replicate ks.length false) a) gd2 (.tmp R.d1) R.ty kt et ee2 hty hev hJ0 (hDlJ _ _) k1 k4 (fun _=>false) (fun w' hdl=>?_)
 rw[dd2]
 generalize ha2:(a.put (some R.d1) (.map (some b))).put (some R.d2) (.pointer (some ⟨W.heap.size,0,none⟩))=a2
 have hsz2:a2.tmps.size=a.tmps.size:=by rw[← ha2,put_sz,put_sz]
 show (Code.block R.i0 (.loop body)).wpIn (WF ro) 0 P Q0 a2 w'
 refine wpIn_block (wpIn_loop_rounds ((leftOf ents #[]).size+1) (loop _ _ (List.replicate ks.length false) a2 w' #[] (Nat.lt_succ_self _) (by simp) (fun i e hi=>?_) (hdl.imp fun hj=>?_) hsz2 (fun i hi=>?_) ?_))
 · constructor
   · intro hm'
     rw[List.getElem?_replicate] at hm'
     split at hm' <;> cases hm'
   · intro hx; simp at hx
 · rw[← ha2]; exact hJput _ _ _ _ _ s2 (hJput _ _ _ _ _ s1 hj)
 · obtain⟨n1,n2,_⟩:=hin i hi
   rw[← ha2,put_ne n2,put_ne n1]
 · rw[← ha2]; exact put_get (by rw[put_sz]; exact t2)
end
end Go.AM
/-
 The abstract machine: calls and code.
-/
namespace Go.AM
theorem listIn_append' {F:Fence} {n:Nat} {P:Program} {ops:Array Oper} {Q:Exit→Act→World→Prop} {rest:List Oper}:∀(l:List Oper) (a:Act) (w:World),
   wpListIn F n P ops (Exit.then (wpListIn F n P ops Q rest) (fun e a w=>(∃c,e=.panic c)∧Q e a w)) l a w→wpListIn F n P ops Q (l++rest) a w
 | [],a,w,h=>h
 | o::l,a,w,h=>by
   unfold wpListIn at h
   show wpListIn F n P ops Q (o::(l++rest)) a w
   unfold wpListIn
   split
   · rename_i hw
     rw[if_pos hw] at h
     exact oper_mono (fun a w h=>listIn_append' l a w h) (fun c a w hq=>hq.2) (fun a w hq=>by obtain⟨⟨c,e⟩,_⟩:=hq; cases e) h
   · rename_i hw
     rw[if_neg hw] at h
     exact⟨h.1,listIn_append' l _ w h.2⟩
section
variable {P:Program} {E:Env}
theorem parseD_some:∀(c:Code) (x:DfC),parseD c=some x→c=x.code
 | .seq a b,x,h=>by
   have go:∀(a:Code),(parseD b).map (fun x=>(⟨a::x.pre,x.id,x.ops,x.rest⟩:DfC))=some x→Code.seq a b=x.code:=fun a h=>by
     cases hb:parseD b with
     | none=>rw[hb] at h; cases h
     | some y =>
       rw[hb] at h
       cases h
       show Code.seq a b=.seq a (y.code)
       rw[← parseD_some b y hb]
   cases a with
   | region id ops draw =>
     cases draw with
     | true=>exact go _ h
     | false =>
       have h:(bif hasDfr ops.toList then some ⟨[],id,ops,b⟩ else (parseD b).map fun x=>⟨.region id ops false::x.pre,x.id,x.ops,x.rest⟩)=some x:=h
       cases hh:hasDfr ops.toList with
       | true=>rw[hh] at h; cases h; rfl
       | false=>rw[hh] at h; exact go _ h
   | _=>exact go _ h
 | .skip,_,h | .region ..,_,h | .cond ..,_,h | .block ..,_,h | .loop ..,_,h | .scope ..,_,h | .rangeFunc ..,_,h | .label ..,_,h | .goto ..,_,h | .exit ..,_,h | .ret,_,h | .refuse ..,_,h=>by cases h
theorem leaveA_inv {rs:List ResultVar} {fr:Tr} {r:Res} (hb:leaveA E rs fr r≠.bad):∃v h vs,r=.ok v h∧resultsA E rs fr h=some vs∧leaveA E rs fr r=.ok (oneOrTup vs) h:=by
 cases r with
 | ok v h=>obtain⟨vs,h1,h2⟩:=resOf_inv hb; exact⟨v,h,vs,rfl,h1,h2⟩
 | _=>exact absurd rfl hb
theorem dfrEnd_inv {ih:CodeF} {x:AV} {rs:List ResultVar} {fr:Tr} {r:CRes} (hb:dfrEnd E ih x rs fr r≠.bad) :
   (∃e fr2 h2 v h3 vs,r=.ok e fr2 h2∧(e=.normal∨e=.ret)∧rcvA E ih x .niliface h2=.ok v h3∧resultsA E rs fr2 h3=some vs∧dfrEnd E ih x rs fr r=.ok (oneOrTup vs) h3) ∨
   (∃p h2 v h3 vs,r=.pan p h2∧rcvA E ih x p h2=.ok v h3∧resultsA E rs fr h3=some vs∧dfrEnd E ih x rs fr r=.ok (oneOrTup vs) h3):=by
 cases r with
 | bad=>exact absurd rfl hb
 | pan p h2=>obtain⟨v,h3,vs,a1,a2,a3⟩:=leaveA_inv hb; exact .inr ⟨p,h2,v,h3,vs,rfl,a1,a2,a3⟩
 | ok e fr2 h2 =>
   cases e with
   | exit i=>exact absurd rfl hb
   | normal=>obtain⟨v,h3,vs,a1,a2,a3⟩:=leaveA_inv hb; exact .inl ⟨_,fr2,h2,v,h3,vs,rfl,.inl rfl,a1,a2,a3⟩
   | ret=>obtain⟨v,h3,vs,a1,a2,a3⟩:=leaveA_inv hb; exact .inl ⟨_,fr2,h2,v,h3,vs,rfl,.inr rfl,a1,a2,a3⟩
theorem leave_one (hE:EnvOk E P) {ih:CodeF} (hc:CodeOk E P ih) {x p:AV} {pv:Value} {u u':FrameMode} (hu:Mode u u' pv) {h2 h3:Heap} {v:AV} (hr:rcvA E ih x p h2=.ok v h3) {f0:Nat} {ws:Array Value} {w:World} {cx:Cx} (hx:Rep w cx (.func (.func f0) #[] ws) x) (hp:Rep w cx pv p) (hs:Sat E w cx h2)
   {fn:Func} {tmps:Array Value} {R:Ending→World→Prop} (hR:∀w' cx',Ext w cx w' cx'→Sat E w' cx' h3→∃v,(results fn tmps).run P w'=.ok v w'∧R (.returned v) w') :
   LeavesInM (WF none) 0 P fn tmps R [{ target:=.fn (.func f0) ws,args:=#[] }] u w:=by
 obtain⟨f,caps,fi,d,d2,rest,e,fr',rfl,hfi,hle,hres,hm,hdl,he,hrest⟩:=rcvA_inv hr
 obtain⟨ws',e1,hws⟩:=fn_inv hx
 cases e1
 obtain⟨fn1,c1,h1,h2',h3',_⟩:=hE.fn f0 fi hfi
 have hne:u≠.run:=by cases hu <;> exact fun e=>by cases e
 refine⟨hne,.inr ⟨(fun e=>by simp[WF,Fence.wide] at e),.func f0,ws,f0,ws,rfl,?_,fun _ _=>trivial,?_⟩⟩
 · simp[invoke,callFunc_run h1 h2' h3']
 · refine (rcv_call hE hc hu hfi hle hres hm hdl he hrest hws hp hs).mono fun en u1 w' hq=>?_
   obtain⟨rfl,v',rfl,cx',hex,hs'⟩:=hq
   show LeavesInM (WF none) 0 P fn tmps R [] (settle u1) w'
   rw[hu.settle]
   exact hR w' cx' hex hs'
def DX (d:Deferred) (ts:List Tmp) (vals:Tmp→Value):DP:=fun _ _ a=>a.defers=[d]∧∀t∈ts,a.tmps.getD t undef=vals t
theorem DX.mono {d:Deferred} {ts:List Tmp} {vals:Tmp→Value}:MonoD (DX d ts vals):=fun _ _ _ _ _ _ h=>h
theorem DX.stab {d:Deferred} {ts:List Tmp} {vals:Tmp→Value} {t:Option Tmp} (ht:∀s,t=some s→s ∉ ts):StabD (DX d ts vals) t:=fun _ _ a v h =>
 ⟨by rw[put_defers]; exact h.1,fun s hs=>(put_tmps_ne fun s' e e'=>ht s' e (e' ▸ hs)).trans (h.2 s hs)⟩
theorem dfr_last (hE:EnvOk E P) {ih:CodeF} (hc:CodeOk E P ih) (hl:ListOk E P ih) {fn:Func} {x:DfC} {o:Oper} {r:List Oper} {g:Operand} (hops:x.ops.toList=r.reverse++[o]) (ho:isDf o=some g) (hcalm:calmL [] r.reverse=true) (hrest:calmC (fn.results.toList.map slotOf) x.rest=true)
   {W0:World} {cx0:Cx} {a:Act} {W:World} {cx:Cx} {fr:Tr} {h:Heap} (he:Ext W0 cx0 W cx) (hf:FrRep W cx a.tmps fr) (hd:a.defers=[]) (hs:Sat E W cx h)
   (hb:dfrA E ih g (xc x.rest) fn.results.toList [xregP x.ops.toList r.reverse] fr h≠.bad) :
   (Code.seq (.region x.id x.ops false) x.rest).wpIn (WF none) 0 P (bodyPostM (WF none) 0 P fn ((dfrA E ih g (xc x.rest) fn.results.toList [xregP x.ops.toList r.reverse] fr h).Post E W0 cx0)) a W:=by
 have e:dfrA E ih g (xc x.rest) fn.results.toList [xregP x.ops.toList r.reverse] fr h=thenR (fun fr h=>dfrEnd E ih (opv E g fr) fn.results.toList fr (ih (xc x.rest) fr h)) (ih (xregP x.ops.toList r.reverse) fr h):=rfl
 rw[e] at hb ⊢
 clear e
 refine wpIn_seq (wpIn_region_list ?_)
 refine Eq.mpr (congrArg (fun L=>wpListIn (WF none) 0 P x.ops _ L a W) hops) ?_
 have hb1:ih (xregP x.ops.toList r.reverse) fr h≠.bad:=fun e=>by rw[e] at hb; exact hb rfl
 obtain⟨hn,hw⟩:=hl (fun a=>a.defers=[]) x.ops r.reverse (Exit.then (wpListIn (WF none) 0 P x.ops (Exit.then (x.rest.wpIn (WF none) 0 P (bodyPostM (WF none) 0 P fn ((thenR (fun fr h=>dfrEnd E ih (opv E g fr) fn.results.toList fr (ih (xc x.rest) fr h)) (ih (xregP x.ops.toList r.reverse) fr h)).Post E W0 cx0))) (bodyPostM (WF none) 0 P fn ((thenR (fun fr h=>dfrEnd E ih (opv E g fr) fn.results.toList fr (ih (xc x.rest) fr h)) (ih (xregP x.ops.toList r.reverse) fr h)).Post E W0 cx0))) [o])
     (fun e a w=>(∃c,e=.panic c)∧(Exit.then (x.rest.wpIn (WF none) 0 P (bodyPostM (WF none) 0 P fn ((thenR (fun fr h=>dfrEnd E ih (opv E g fr) fn.results.toList fr (ih (xc x.rest) fr h)) (ih (xregP x.ops.toList r.reverse) fr h)).Post E W0 cx0))) (bodyPostM (WF none) 0 P fn ((thenR (fun fr h=>dfrEnd E ih (opv E g fr) fn.results.toList fr (ih (xc x.rest) fr h)) (ih (xregP x.ops.toList r.reverse) fr h)).Post E W0 cx0))) e a w)) W cx a fr h
   (fun o _=>DE.stab o.dst W cx) hf hd hs hb1
 refine listIn_append' r.reverse a W (list_in ?_ r.reverse hn a W (hw fun x1 a1 w1 hp=>?_))
 · rintro ⟨a,w,⟨c,e⟩,_⟩; cases e
 obtain⟨hd1,cx1,he1,hp⟩:=hp
 replace he1:=he.trans he1
 generalize hq:ih (xregP x.ops.toList r.reverse) fr h=q at *
 cases q with
 | bad=>exact absurd rfl hb1
 | pan v h' =>
   obtain⟨vv,rfl,h7,h8⟩:=hp
   refine⟨⟨_,rfl⟩,?_⟩
   show LeavesInM (WF none) 0 P fn a1.tmps _ a1.defers (.panicking _) w1
   rw[hd1]
   exact⟨cx1,vv,rfl,he1,h7,h8⟩
 | ok e fr1 h1 =>
   obtain⟨rfl,hs1,hf1⟩:=hp
   cases e with
   | exit i=>exact absurd rfl hb
   | ret=>exact absurd rfl hb
   | normal =>
     have hb:dfrEnd E ih (opv E g fr1) fn.results.toList fr1 (ih (xc x.rest) fr1 h1)≠.bad:=hb
     show wpListIn (WF none) 0 P x.ops (Exit.then (x.rest.wpIn (WF none) 0 P (bodyPostM (WF none) 0 P fn ((dfrEnd E ih (opv E g fr1) fn.results.toList fr1 (ih (xc x.rest) fr1 h1)).Post E W0 cx0))) (bodyPostM (WF none) 0 P fn ((dfrEnd E ih (opv E g fr1) fn.results.toList fr1 (ih (xc x.rest) fr1 h1)).Post E W0 cx0))) [o] a1 w1
     obtain⟨as,tys,o1,o2,o3,o4⟩:=isDf_some ho
     have hg:=opv_rep (E:=E) hs1 hf1 g
     have ⟨f0,ws,hgv⟩:∃f0 ws,a1.eval g=.func (.func f0) #[] ws:=by
       rcases dfrEnd_inv hb with ⟨_,_,_,_,_,_,_,_,hr,_⟩ | ⟨_,_,_,_,_,_,hr,_⟩
       · obtain⟨f,caps,_,_,_,_,_,_,hx,_⟩:=rcvA_inv hr
         rw[hx] at hg
         obtain⟨ws,h1,_⟩:=fn_inv hg
         exact⟨f,ws,h1⟩
       · obtain⟨f,caps,_,_,_,_,_,_,hx,_⟩:=rcvA_inv hr
         rw[hx] at hg
         obtain⟨ws,h1,_⟩:=fn_inv hg
         exact⟨f,ws,h1⟩
     rw[hgv] at hg
     unfold wpListIn
     rw[if_pos (wanted_none o3)]
     refine⟨fun _ _=>trivial,?_⟩
     have hm:((o.semAt (WF none).round a1.eval).run P w1)=.ok (.defer { target:=.fn (.func f0) ws,args:=#[] }) w1:=by
       have:as=#[]:=by cases as; simp at o2; rw[o2]
       rw[show (WF none).round=none from rfl,Oper.semAt_none]
       simp[execOp,o1,resolve,this,hgv,Deferred.ofValue]
     rw[hm,Oper.uponIn_defer,o4,hd1]
     show x.rest.wpIn (WF none) 0 P _ { a1 with defers:=[_] } w1
     have hb2:ih (xc x.rest) fr1 h1≠.bad:=fun e=>by rw[e] at hb; exact hb rfl
     refine wpIn_mono (hc none (DX { target:=.fn (.func f0) ws,args:=#[] } (fn.results.toList.map slotOf) fun t=>a1.tmps.getD t undef) x.rest w1 cx1 { a1 with defers:=[{ target:=.fn (.func f0) ws,args:=#[] }] } fr1 h1 DX.mono (stC_calm (fun d hd=>DX.stab hd) _ hrest) hf1 ⟨rfl,fun _ _=>rfl⟩ hs1 hb2) fun x2 a2 w2 hp=>?_
     obtain⟨cx2,he2,⟨hd2,hv2⟩,hp⟩:=hp
     rcases dfrEnd_inv hb with ⟨e,fr2,h2,v,h3,vs,hr1,hex,hr2,hr3,hr4⟩ | ⟨p,h2,v,h3,vs,hr1,hr2,hr3,hr4⟩
     · rw[hr4]
       rw[hr1] at hp
       obtain⟨rfl,hs2,hf2⟩:=hp
       have fin:LeavesInM (WF none) 0 P fn a2.tmps ((Res.ok (oneOrTup vs) h3).Post E W0 cx0) a2.defers .returning w2:=by
         rw[hd2]
         refine leave_one hE hc .ret hr2 (hg.mono he2) .niliface hs2 fun w' cx' hex' hs'=>?_
         obtain⟨v,h9,h10⟩:=results_sound (P:=P) hE hs' (fun y _=>(hf2.mono hex').rep _) hr3
         exact⟨v,h9,cx',(he1.trans he2).trans hex',hs',h10⟩
       rcases hex with rfl | rfl
       · exact fin
       · exact fin
     · rw[hr4]
       rw[hr1] at hp
       obtain⟨vv,rfl,hs2,hv⟩:=hp
       show LeavesInM (WF none) 0 P fn a2.tmps _ a2.defers (.panicking _) w2
       rw[hd2]
       refine leave_one hE hc (.pan vv) hr2 (hg.mono he2) hv hs2 fun w' cx' hex' hs'=>?_
       obtain⟨v,h9,h10⟩:=results_sound (P:=P) hE hs' (fun y hy=>by
         rw[hv2 _ (List.mem_map.2 ⟨y,hy,rfl⟩)]
         exact ((hf1.mono he2).mono hex').rep _) hr3
       exact⟨v,h9,cx',(he1.trans he2).trans hex',hs',h10⟩
theorem dfr_pre (hE:EnvOk E P) {ih:CodeF} (hc:CodeOk E P ih) (hl:ListOk E P ih) {fn:Func} {x:DfC} {o:Oper} {r:List Oper} {g:Operand} (hops:x.ops.toList=r.reverse++[o]) (ho:isDf o=some g) (hcalm:calmL [] r.reverse=true) (hrest:calmC (fn.results.toList.map slotOf) x.rest=true)
   {W0:World} {cx0:Cx}:∀(L:List Code) (a:Act) (W:World) (cx:Cx) (fr:Tr) (h:Heap),L.all (calmC [])=true→Ext W0 cx0 W cx→FrRep W cx a.tmps fr→a.defers=[]→Sat E W cx h →
   dfrA E ih g (xc x.rest) fn.results.toList (L.map xc++[xregP x.ops.toList r.reverse]) fr h≠.bad →
   (L.foldr Code.seq (.seq (.region x.id x.ops false) x.rest)).wpIn (WF none) 0 P (bodyPostM (WF none) 0 P fn ((dfrA E ih g (xc x.rest) fn.results.toList (L.map xc++[xregP x.ops.toList r.reverse]) fr h).Post E W0 cx0)) a W
 | [],a,W,cx,fr,h,_,he,hf,hd,hs,hb=>dfr_last hE hc hl hops ho hcalm hrest he hf hd hs hb
 | c::L,a,W,cx,fr,h,hL,he,hf,hd,hs,hb=>by
   have e:dfrA E ih g (xc x.rest) fn.results.toList ((c::L).map xc++[xregP x.ops.toList r.reverse]) fr h=thenR (dfrA E ih g (xc x.rest) fn.results.toList (L.map xc++[xregP x.ops.toList r.reverse])) (ih (xc c) fr h):=rfl
   rw[e] at hb ⊢
   rw[List.all_cons,Bool.and_eq_true] at hL
   have hb1:ih (xc c) fr h≠.bad:=fun e=>by rw[e] at hb; exact hb rfl
   refine wpIn_seq (wpIn_mono (hc none DE c W cx a fr h DE.mono (stC_calm (fun d _=>DE.stab d) c hL.1) hf hd hs hb1) fun x1 a1 w1 hp=>?_)
   obtain⟨cx1,he1,hd1,hp⟩:=hp
   replace he1:=he.trans he1
   clear e
   generalize ih (xc c) fr h=q at *
   cases q with
   | bad=>exact absurd rfl hb1
   | pan v h' =>
     obtain⟨vv,rfl,h7,h8⟩:=hp
     show LeavesInM (WF none) 0 P fn a1.tmps _ a1.defers (.panicking _) w1
     rw[show a1.defers=[] from hd1]
     exact⟨cx1,vv,rfl,he1,h7,h8⟩
   | ok e fr1 h1 =>
     obtain⟨rfl,hs1,hf1⟩:=hp
     cases e with
     | exit i=>exact absurd rfl hb
     | ret=>exact absurd rfl hb
     | normal=>exact dfr_pre hE hc hl hops ho hcalm hrest L a1 w1 cx1 fr1 h1 hL.2 he1 hf1 hd1 hs1 hb
theorem call_ok0 (hE:EnvOk E P) {ih:CodeF} (hc:CodeOk E P ih) (hl:ListOk E P ih) (hpr:∀(c:XC) (fr:Tr) (h h':Heap),CRes.heap (ih c fr h)=some h'→Pres h h'):CallOk E P (callA0 E ih):=by
 intro f args l W cx h hv hs hb
 unfold callA0 at hb ⊢
 cases ht:E.told f with
 | true=>rw[ht] at hb; exact told_call hE ht hv hs hb
 | false =>
   rw[ht] at hb
   simp only[cond_false] at hb ⊢
   cases hdf:E.dlf f with
   | some ks=>rw[hdf] at hb; exact dlf_call hE hc hpr hdf hv hs hb
   | none =>
     rw[hdf] at hb
     dsimp only at hb ⊢
     cases hsr:srtA E f l h with
     | some r=>rw[hsr] at hb; exact srt_call hE hv hs hsr hb
     | none =>
       rw[hsr] at hb
       dsimp only at hb ⊢
       cases hfi:E.fn f with
       | none=>rw[hfi] at hb; exact absurd rfl hb
       | some fi =>
         rw[hfi] at hb
         obtain⟨fn,c,h1,h2,h3,h4,h5,h6,h7⟩:=hE.fn f fi hfi
         refine⟨⟨fn,c,h1,h2,h3⟩,?_⟩
         dsimp only at hb ⊢
         cases hn:Nat.ble (lenL l) fi.ntmps with
         | false=>rw[hn] at hb; exact absurd rfl hb
         | true =>
           rw[hn] at hb
           simp only[cond_true] at hb ⊢
           have hn:=ble_true hn
           rw[lenL_eq] at hn
           unfold callM at hb ⊢
           cases hm:fi.mode with
           | rcv d d2 rest=>rw[hm] at hb; exact absurd rfl hb
           | plain =>
             rw[hm] at hb
             dsimp only at hb ⊢
             rw[h4,h5,h6] at hb ⊢
             rw[h5] at hn
             exact plain_call hE hc h1 h2 hv hn hs hb
           | itf ic =>
             rw[hm] at hb
             dsimp only at hb ⊢
             rw[h4,h5,h6] at hb ⊢
             rw[h5] at hn
             exact plain_call hE hc h1 h2 hv hn hs hb
           | dfr pre g rest =>
             rw[hm] at hb h7
             dsimp only at hb ⊢
             have ⟨x,hx1,hx2⟩:∃x,parseD c=some x∧dfMode fn.results.toList x=some (.dfr pre g rest):=by
               rcases fmOf_cases h7.symm with ⟨_,h⟩ | h | ⟨x,_,_,h⟩ | h
               · obtain⟨_,_,_,_,_,_,_,_,_,_,_,_,h⟩:=rcMode_some h; cases h
               · exact h
               · cases h
               · cases h
             obtain⟨o,r,g',hops,ho,hcalm,hpre,hrest,hrr⟩:=dfMode_some hx2
             cases hrr
             have hcode:=parseD_some c x hx1
             have hops':x.ops.toList=r.reverse++[o]:=by
               have:=congrArg List.reverse hops
               simpa using this
             rw[h5,h6] at hb ⊢
             rw[h5] at hn
             have hfr:=enter_rep hv hn
             refine callsWF.1 (callsIn_of_wp_marks (F:=WF none) (n:=0) h1 h2 trivial ?_ rfl)
             rw[hcode]
             exact dfr_pre hE hc hl hops' ho hcalm hrest x.pre ⟨_,[]⟩ W cx _ h hpre (Ext.refl _ _) hfr rfl hs hb
theorem Sat.sub {P:Program} {E:Env} {W:World} {cx:Cx} {h h':Heap} (hs:Sat E W cx h) (hn:h'.next=h.next) (hg:∀id o,h'.get id=some o→h.get id=some o):Sat E W cx h' where
 nx:=hn.trans hs.nx
 objs id o ho:=hs.objs id o (hg id o ho)
 inj id id' o o' ho ho':=hs.inj id id' o o' (hg id o ho) (hg id' o' ho')
 gl:=hs.gl
 held:=hs.held
 free id o ho:=hs.free id o (hg id o ho)
theorem call_ok (hE:EnvOk E P) {ih:CodeF} (hc:CodeOk E P ih) (hl:ListOk E P ih) (hpr:∀(c:XC) (fr:Tr) (h h':Heap),CRes.heap (ih c fr h)=some h'→Pres h h'):CallOk E P (callA E ih):=by
 intro f args l W cx h hv hs hb
 unfold callA at hb ⊢
 cases hg:E.gc f with
 | false=>rw[hg] at hb; exact call_ok0 hE hc hl hpr f args l W cx h hv hs hb
 | true =>
   rw[hg] at hb
   have hb:gcR h (callA0 E ih f l { h with tch:=[] })≠.bad:=hb
   show _∧Calls P f args W ((gcR h (callA0 E ih f l { h with tch:=[] })).Post E W cx)
   have h0:=call_ok0 hE hc hl hpr f args l W cx { h with tch:=[] } hv (hs.sub (P:=P) rfl fun _ _ ho=>ho) (fun e=>hb (by rw[e]; rfl))
   refine⟨h0.1,h0.2.mono fun e w hp=>?_⟩
   cases hq:callA0 E ih f l { h with tch:=[] } with
   | bad=>rw[hq] at hb; exact absurd rfl hb
   | pan v h1=>rw[hq] at hb; exact absurd rfl hb
   | ok v h1 =>
     rw[hq] at hp
     cases e with
     | returned vv =>
       obtain⟨cx',h1',h2,h3⟩:=hp
       refine⟨cx',h1',h2.sub (P:=P) rfl fun id o ho=>?_,h3⟩
       have ho:(h.os.trunc h1.os).get id=some o:=ho
       show h1.os.get id=some o
       rcases HT.get_trunc h.os h1.os id with e1 | ⟨e1,_⟩
       · rw[← e1]; exact ho
       · rw[e1] at ho; cases ho
     | panicked c=>exact hp.elim
     | outgrown=>exact hp.elim
theorem seqA_bad {b:Tr→Heap→CRes} {r:CRes} (h:seqA b r≠.bad):r≠.bad:=fun e=>by rw[e] at h; exact h rfl
theorem seq_post {W:World} {cx:Cx} {D:DP} {r:CRes} {b:Tr→Heap→CRes} {K:Act→World→Prop} (hb:seqA b r≠.bad)
   (hK:∀fr' h' cx' a' w',r=.ok .normal fr' h'→Ext W cx w' cx'→Sat E w' cx' h'→FrRep w' cx' a'.tmps fr'→D w' cx' a'→K a' w'):∀x a' w',PostD E W cx D r x a' w'→Exit.then K (PostD E W cx D (seqA b r)) x a' w':=by
 intro x a' w' hp
 obtain⟨cx',he,hd,hp⟩:=hp
 cases r with
 | bad=>exact hp.elim
 | pan v h' =>
   obtain⟨vv,rfl,h1,h2⟩:=hp
   exact⟨cx',he,hd,vv,rfl,h1,h2⟩
 | ok e fr h' =>
   obtain⟨rfl,h1,h2⟩:=hp
   cases e with
   | normal=>exact hK fr h' cx' a' w' rfl he h1 h2 hd
   | exit i=>exact⟨cx',he,hd,rfl,h1,h2⟩
   | ret=>exact⟨cx',he,hd,rfl,h1,h2⟩
theorem post_no_goto {W:World} {cx:Cx} {D:DP} {r:CRes} {l:Nat} {a:Act} {w:World} (hp:PostD E W cx D r (.goto l) a w):False:=by
 obtain⟨cx',_,_,hp⟩:=hp
 cases r with
 | bad=>exact hp.elim
 | pan v h'=>obtain⟨vv,e,_⟩:=hp; cases e
 | ok e fr' h'=>obtain⟨e2,_⟩:=hp; cases e <;> cases e2
theorem ev_sound (hE:EnvOk E P):∀n,CodeOk E P (ev E n) ∧
   (∀(ro:Option Nat) (D:DP) (c:Code) (W:World) (cx:Cx) (a:Act) (fr:Tr) (h:Heap),MonoD D→StC ro D c→FrRep W cx a.tmps fr→D W cx a→Sat E W cx h→ev E n (.loop (xc c)) fr h≠.bad→Code.roundsIn (WF ro) 0 P c (PostD E W cx D (ev E n (.loop (xc c)) fr h)) n a W) ∧
   ListOk E P (ev E n)
 | 0=>⟨fun ro D c W cx a fr h _ _ _ _ _ hb=>absurd rfl hb,fun ro D c W cx a fr h _ _ _ _ _ hb=>absurd rfl hb,fun S ops l Q W cx a fr h _ _ _ _ hb=>absurd rfl hb⟩
 | n+1=>by
   obtain⟨ihc,ihl,ihp⟩:=ev_sound hE n
   have hcall:=call_ok hE ihc ihp (code_pres E n)
   have round:∀(ro:Option Nat) (D:DP) (c:Code) (W:World) (cx:Cx) (a:Act) (fr:Tr) (h:Heap),MonoD D→StC ro D c→FrRep W cx a.tmps fr→D W cx a→Sat E W cx h→ev E (n+1) (.loop (xc c)) fr h≠.bad→Code.roundsIn (WF ro) 0 P c (PostD E W cx D (ev E (n+1) (.loop (xc c)) fr h)) (n+1) a W:=by
     intro ro D c W cx a fr h hD hst hf hd hs hb
     have e:ev E (n+1) (.loop (xc c)) fr h=seqA (ev E n (.loop (xc c))) (ev E n (xc c) fr h):=rfl
     rw[e] at hb ⊢
     rw[roundsIn_succ]
     refine wpIn_mono (ihc ro D c W cx a fr h hD hst hf hd hs (seqA_bad hb)) (seq_post hb fun fr' h' cx' a' w' e1 h1 h2 h3 h4=>?_)
     rw[e1] at hb ⊢
     have hb:ev E n (.loop (xc c)) fr' h'≠.bad:=hb
     have:=ihl ro D c w' cx' a' fr' h' hD hst h3 h4 h2 hb
     have mono:∀m a w Q Q',(∀x a w,Q x a w→Q' x a w)→Code.roundsIn (WF ro) 0 P c Q m a w→Code.roundsIn (WF ro) 0 P c Q' m a w:=by
       intro m
       induction m with
       | zero=>intro a w Q Q' _ h; exact h
       | succ m ih =>
         intro a w Q Q' hq h
         exact wpIn_mono h fun x a w hx=>by cases x <;> first | exact ih _ _ _ _ hq hx | exact hq _ _ _ hx
     exact mono n a' w' _ _ (fun x a w hp=>PostD.trans h1 hp) this
   refine⟨fun ro D c W cx a fr h hD hst hf hd hs hb=>?_,round,fun S ops l Q W cx a fr h hst hf hS hs hb=>?_⟩
   · cases c with
     | skip=>exact wpIn_skip ⟨cx,Ext.refl _ _,hd,rfl,hs,hf⟩
     | ret=>exact wpIn_ret ⟨cx,Ext.refl _ _,hd,rfl,hs,hf⟩
     | exit id=>exact wpIn_exit ⟨cx,Ext.refl _ _,hd,rfl,hs,hf⟩
     | label l=>exact wpIn_label ⟨cx,Ext.refl _ _,hd,rfl,hs,hf⟩
     | scope x =>
       have e:ev E (n+1) (xc (.scope x)) fr h=ev E n (xc x) fr h:=rfl
       rw[e] at hb ⊢
       refine wpIn_scope (wpIn_mono (ihc ro D x W cx a fr h hD hst hf hd hs hb) fun x' a' w' hp=>?_)
       cases x' with
       | goto l=>exact (post_no_goto hp).elim
       | _=>exact hp
     | region id ops draw =>
       cases draw with
       | false =>
         have e:ev E (n+1) (xc (.region id ops false)) fr h=step E (ev E n) (bif noDfr ops.toList then .reg false (ops.toList.map (xop ops.toList false [] false)) else .bad) fr h:=rfl
         rw[e] at hb ⊢
         cases hnd:noDfr ops.toList with
         | false=>rw[hnd] at hb; exact absurd rfl hb
         | true =>
           rw[hnd] at hb
           have hb:evOps E (callA E (ev E n)) (ops.toList.map (xop ops.toList false [] false)) fr h≠.bad:=hb
           show (Code.region id ops false).wpIn (WF ro) 0 P (PostD E W cx D (evOps E (callA E (ev E n)) (ops.toList.map (xop ops.toList false [] false)) fr h)) a W
           exact wpIn_mono (region_in (ro:=ro) (Q:=(evOps E (callA E (ev E n)) (ops.toList.map (xop ops.toList false [] false)) fr h).Post E W cx (fun a=>D W cx a)) notOut (noDfr_iff _ hnd) (evOps_sound hE hcall ops.toList W cx a fr h (fun o ho=>by obtain⟨i,hi⟩:=List.getElem?_of_mem ho; exact hst i o (by simpa using hi) W cx) hf hd hs hb fun x a' w' hp=>hp)) fun x a w hp=>PostD.of_post hD hp
       | true =>
         have e:ev E (n+1) (xc (.region id ops true)) fr h=step E (ev E n) (bif noDfr ops.toList then (bif drawOk ops.toList (masks ops.toList) (orderOf ops.toList (masks ops.toList)) then .reg true (xops ops.toList (masks ops.toList) [] (orderOf ops.toList (masks ops.toList))) else .bad) else .bad) fr h:=rfl
         rw[e] at hb ⊢
         cases hnd:noDfr ops.toList with
         | false=>rw[hnd] at hb; exact absurd rfl hb
         | true =>
           rw[hnd] at hb
           cases hok:drawOk ops.toList (masks ops.toList) (orderOf ops.toList (masks ops.toList)) with
           | false=>rw[hok] at hb; exact absurd rfl hb
           | true =>
             rw[hok] at hb
             exact wpIn_mono (draw_sound hE hs hf (S:=fun a=>D W cx a) hd hcall (ev_pres E n) (fun i o ho=>hst i o ho W cx) (ro:=ro) (fun i o ho=>noDfr_iff _ hnd o (List.mem_of_getElem? (by simpa using ho))) hok hb) fun x a w hp=>PostD.of_post hD hp
     | seq x y =>
       cases hR:rngC x y with
       | some R =>
         have e:ev E (n+1) (xc (.seq x y)) fr h=rngEv E (ev E n) R (xc y) fr h:=by rw[xc_rng hR]; rfl
         rw[e] at hb ⊢
         exact rng_sound hE ihc (code_pres E n) hD hR hst hf hd hs hb
       | none =>
         have e:ev E (n+1) (xc (.seq x y)) fr h=seqA (ev E n (xc y)) (ev E n (xc x) fr h):=by rw[xc_seq hR]; rfl
         rw[e] at hb ⊢
         refine wpIn_seq (wpIn_mono (ihc ro D x W cx a fr h hD hst.1 hf hd hs (seqA_bad hb)) (seq_post hb fun fr' h' cx' a' w' e1 h1 h2 h3 h4=>?_))
         rw[e1] at hb ⊢
         have hb:ev E n (xc y) fr' h'≠.bad:=hb
         exact wpIn_mono (ihc ro D y w' cx' a' fr' h' hD hst.2 h3 h4 h2 hb) fun x a w hp=>PostD.trans h1 hp
     | cond c x y =>
       have e:ev E (n+1) (xc (.cond c x y)) fr h=condA (ev E n (xc x)) (ev E n (xc y)) (opv E c fr) fr h:=rfl
       rw[e] at hb ⊢
       have hc:=opv_rep (E:=E) hs hf c
       cases hv:opv E c fr with
       | bool b =>
         rw[hv] at hb hc
         refine wpIn_cond hc.bool_inv ?_
         cases b with
         | true=>exact ihc ro D x W cx a fr h hD hst.1 hf hd hs hb
         | false=>exact ihc ro D y W cx a fr h hD hst.2 hf hd hs hb
       | _=>rw[hv] at hb; exact absurd rfl hb
     | block id x =>
       have e:ev E (n+1) (xc (.block id x)) fr h=blockA id (ev E n (xc x) fr h):=rfl
       rw[e] at hb ⊢
       have hb1:ev E n (xc x) fr h≠.bad:=fun e=>by rw[e] at hb; exact hb rfl
       refine wpIn_block (wpIn_mono (ihc ro D x W cx a fr h hD hst hf hd hs hb1) fun x' a' w' hp=>?_)
       clear e
       generalize ev E n (xc x) fr h=r at *
       obtain⟨cx',he,hd',hp⟩:=hp
       cases r with
       | bad=>exact absurd rfl hb1
       | pan v h' =>
         obtain⟨vv,rfl,h1,h2⟩:=hp
         exact⟨cx',he,hd',vv,rfl,h1,h2⟩
       | ok e fr' h' =>
         obtain⟨rfl,h1,h2⟩:=hp
         cases e with
         | normal=>exact⟨cx',he,hd',rfl,h1,h2⟩
         | ret=>exact⟨cx',he,hd',rfl,h1,h2⟩
         | exit j =>
           show Exit.inBlock id _ (.exit j) a' w'
           have e2:blockA id (.ok (.exit j) fr' h')=bif Nat.beq j id then .ok .normal fr' h' else .ok (.exit j) fr' h':=rfl
           rw[e2]
           show if j=id then _ else _
           by_cases hj:j=id
           · subst hj; rw[if_pos rfl]; simp only[Nat.beq_refl,cond_true]; exact⟨cx',he,hd',rfl,h1,h2⟩
           · rw[if_neg hj,Heap.beq_false hj]; exact⟨cx',he,hd',rfl,h1,h2⟩
     | loop x=>exact wpIn_loop_rounds (n+1) (round ro D x W cx a fr h hD hst hf hd hs hb)
     | rangeFunc g ps x y=>exact rfn_sound hE ihc ihp hD hst hf hd hs hb
     | _=>exact absurd rfl hb
   · have e:ev E (n+1) (xregP ops.toList l) fr h=step E (ev E n) (bif noDfr l then .reg false (l.map (xop ops.toList false [] false)) else .bad) fr h:=rfl
     rw[e] at hb ⊢
     cases hnd:noDfr l with
     | false=>rw[hnd] at hb; exact absurd rfl hb
     | true =>
       rw[hnd] at hb
       exact⟨noDfr_iff _ hnd,fun hQ=>evOps_sound hE hcall l W cx a fr h hst hf hS hs hb hQ⟩
theorem run_sound (hE:EnvOk E P) {W:World} {cx:Cx} {h:Heap} {n f:Nat} {args:Array Value} {l:List AV} (hl:RepL W cx args.toList l) (hs:Sat E W cx h) (hb:run E n f l h≠.bad):Calls P f args W ((run E n f l h).Post E W cx) :=
 (call_ok hE (ev_sound hE n).1 (ev_sound hE n).2.2 (code_pres E n) f args l W cx h hl hs hb).2
end
end Go.AM
