/- The abstract machine, part three: operations, calls, and regions that draw their order: planned. Conditions: none. -/
import Derived.Test.YtionlfkdpjgpjaaAmTwo
import Derived.LoopN
import Derived.Tactics
import Derived.Orders
set_option linter.unusedVariables false
set_option linter.unusedSectionVars false
set_option linter.unusedSimpArgs false
/-
 The abstract machine: each operation but a call is sound.
-/
namespace Go.AM
section
variable {P:Program} {E:Env} {W:World} {cx:Cx} {h:Heap}
theorem G1 {x:Option AV} {v:AV} {h h':Heap} (hx:lift x h=.ok v h'):x=some v∧h'=h:=by
 cases x with
 | none=>cases hx
 | some a=>cases hx; exact ⟨rfl,rfl⟩
theorem Wi (hs:Sat E W cx h) {a:Act} {fr:Tr} (hf:FrRep W cx a.tmps fr) (o:Option Operand):R9 W cx (o.map a.eval) (Jz E o fr):=by
 cases o with
 | none=>trivial
 | some x=>exact V6 hs hf x
theorem j4 (a:Act) (ps:Array (Nat × Operand)):(ps.map fun p=>(p.1,a.eval p.2)).toList=ps.toList.map fun p=>(p.1,a.eval p.2):=by simp
theorem Pg (hE:EnvOk E P) (hs:Sat E W cx h) {ts:Array TypeId} {ty:TypeId} {args:Array Value} {l:List AV} (hl:RepL W cx args.toList l) {r:AV} {h':Heap} (hb:Hq E ts.toList l h=some (r,h')) :
 ∃ v W' cx',(Builtin.append_ ts ty args).run P W=.ok v W'∧Ext W cx W' cx'∧Sat E W' cx' h'∧Rep W' cx' v r:=by
 unfold Hq at hb
 cases hts:ts.toList with
 | nil=>rw [hts] at hb; cases hb
 | cons t ts1 =>
  cases ts1 with
  | nil=>rw [hts] at hb; cases hb
  | cons tx ts2 =>
   cases l with
   | nil=>rw [hts] at hb; cases hb
   | cons s l1 =>
    cases l1 with
    | nil=>rw [hts] at hb; cases hb
    | cons x l2 =>
     rw [hts] at hb
     obtain ⟨ti,ht,hb⟩:=F1 hb
     obtain ⟨te,hte,hb⟩:=A1 hb
     obtain ⟨hpz,hb⟩:=A7 hb
     have hpz:=H3 hpz
     obtain ⟨tix,htx,hb⟩:=F1 hb
     obtain ⟨e,hk,hte⟩:=i6 hte
     have hd:=(hE.ti t ti ht).desc
     unfold I2 at hd
     rw [hk] at hd
     have ht1:ts[0]?=some t:=by rw [← Array.getElem?_toList,hts]; rfl
     have ht2:ts[1]?=some tx:=by rw [← Array.getElem?_toList,hts]; rfl
     obtain ⟨sv,hsv1,hsv2⟩:=hl.get (i:=0) (c:=s) rfl
     obtain ⟨xv,hxv1,hxv2⟩:=hl.get (i:=1) (c:=x) rfl
     have hsv1:args[0]?=some sv:=by simpa using hsv1
     have hxv1:args[1]?=some xv:=by simpa using hxv1
     obtain ⟨dx,hdx⟩:=(hE.ti tx tix htx).under
     have hdd:=(hE.ti tx tix htx).desc
     have hty:=hE.ti e te hte
     have elemCase:(∀ k,dx ≠ .int k)->A4 (elems x h) (fun xs=>A8 (I9 te.size xs) (G5 te s xs h))=some (r,h') ->
      ∃ v W' cx',(Builtin.append_ ts ty args).run P W=.ok v W'∧Ext W cx W' cx'∧Sat E W' cx' h'∧Rep W' cx' v r:=by
      intro hni hb
      obtain ⟨xs,hel,hb⟩:=A1 hb
      obtain ⟨hall,hb⟩:=A7 hb
      rw [t8] at hall
      obtain ⟨ad,cap,us,sz,e1,e2,hur,hfc⟩:=u7 (P:=P) hs hxv2 hel
      have hur':RowRep W cx us xs te.size:=by
       cases hxs:xs with
       | nil=>rw [hxs] at hur; exact ⟨by have:=hur.len; simpa using this,by simp,by simp⟩
       | cons x0 xr =>
        rw [hxs] at hur hall
        have:sz=te.size:=by rw [← hur.size 0 x0 rfl]; exact hall x0 (List.mem_cons_self ..)
        rw [← this]; exact hur
      . exact Ig hE hs hte ht1 hd ht2 hdx hsv1 hxv1 hsv2 hur' (.inl ⟨hni,⟨ad,cap,e1⟩,fun W' hW'=>by
         have:=hfc W' hW' xs.length te.size (Nat.le_refl _) hall
         rw [← hur.len,List.take_length] at this; exact this⟩) hur'.oneL (hty.pos (by omega)) hb
     unfold I2 at hdd
     cases hkx:tix.desc with
     | int kx =>
      rw [hkx] at hb hdd
      rw [hdd] at hdx; cases hdx
      obtain ⟨n,hn,hb2⟩:=A1 hb
      obtain ⟨hg,hb2⟩:=A7 hb2
      clear hb
      have hg:n * te.bytes≤140737488355328:=C7 hg
      obtain ⟨k',rfl⟩:=Q0 hn
      cases hxv2.int_inv
      obtain ⟨i,z,hi1,hi2,hi3,hi4,hzo⟩:=hty.info
      have hzs:z.cells.size=te.size:=by have:=((hzo.rep W cx).cells hzo.und).1; simp at this; rw [this]; exact hty.zsz
      . have hp:0 < te.size:=hpz
        have hb0:=hty.pos hp
        have hn47:n≤140737488355328:=Nat.le_trans (Nat.le_mul_of_pos_right n hb0) hg
        obtain ⟨a1,a2⟩:=Nt (W:=W) (cx:=cx) hzo hty.zsz hp n (c:=Builtin.zeroCells z.cells n) (fun k hk=>by
         unfold Builtin.zeroCells; rw [hzs]
         have:=V7 hzs hp (n * te.size) k hk
         rw [hzs] at this; exact this)
        have hzl:(Builtin.zeroCells z.cells n).toList=(List.range (n * te.size)).map fun k=>(z.cells[k % te.size]?).getD undef:=by
         apply List.ext_getElem?
         intro k
         rcases Nat.lt_or_ge k (n * te.size) with hk | hk
         . have hlt:k % te.size < z.cells.size:=by rw [hzs]; exact Nat.mod_lt _ hp
           have:((List.range (n * te.size)).map fun k=>(z.cells[k % te.size]?).getD undef)[k]?=some ((z.cells[k % te.size]?).getD undef):=by
            rw [List.getElem?_map,List.getElem?_range hk]; rfl
           rw [this,Array.getElem?_toList]
           exact a2 k _ this
         . rw [List.getElem?_eq_none (by simp [Builtin.zeroCells,hzs]; exact hk),List.getElem?_eq_none (by simpa using hk)]
        rw [Z5] at hb2
        have hlen:(List.replicate n te.zero).length=n:=List.length_replicate
        exact Ig hE hs hte ht1 hd ht2 hdd hsv1 hxv1 hsv2 a1 (.inr ⟨kx,rfl,⟨k',by rw [hlen]⟩,by rw [hlen]; exact hg,by rw [hlen]; exact hn47,fun z' i' hi' hz'=>by
         rw [hi1] at hi'; cases hi'
         rw [hi4] at hz'; cases hz'
         rw [hlen]
         split
         . rename_i h0; rw [h0]; rfl
         . exact hzl⟩) a1.oneL hb0 hb2
     | bool=>rw [hkx] at hb hdd; rw [hdd] at hdx; cases hdx; exact elemCase (by simp) hb
     | string=>rw [hkx] at hb hdd; rw [hdd] at hdx; cases hdx; exact elemCase (by simp) hb
     | ptr e'=>rw [hkx] at hb hdd; rw [hdd] at hdx; cases hdx; exact elemCase (by simp) hb
     | slice e'=>rw [hkx] at hb hdd; rw [hdd] at hdx; cases hdx; exact elemCase (by simp) hb
     | array n' e'=>rw [hkx] at hb hdd; rw [hdd] at hdx; cases hdx; exact elemCase (by simp) hb
     | map k' e'=>rw [hkx] at hb hdd; rw [hdd] at hdx; cases hdx; exact elemCase (by simp) hb
     | iface=>rw [hkx] at hb hdd; rw [hdd] at hdx; cases hdx; exact elemCase (by simp) hb
     | struct fs fl=>rw [hkx] at hb hdd; obtain ⟨fields,hdd,_⟩:=hdd; rw [hdd] at hdx; cases hdx; exact elemCase (by simp) hb
     | func=>rw [hkx] at hb hdd; obtain ⟨d',hdd,_,_,hni⟩:=hdd; rw [hdd] at hdx; cases hdx; exact elemCase hni hb
     | other=>rw [hkx] at hb hdd; obtain ⟨d',hdd,_,_,hni⟩:=hdd; rw [hdd] at hdx; cases hdx; exact elemCase hni hb
theorem Sh (hE:EnvOk E P) (hs:Sat E W cx h) {b:Builtin} {ts:Array TypeId} {ty:TypeId} {cs:Array Bool} {args:Array Value} {l:List AV} (hl:RepL W cx args.toList l) {r:AV} {h':Heap} (hb:F0 E b ts.toList l h=some (r,h')) :
 Hl P E W cx (builtin b ts ty cs args) r h':=by
 cases b with
 | append =>
  obtain ⟨v,W',cx',h1,h2,h3,h4⟩:=Pg hE hs (ts:=ts) (ty:=ty) hl hb
  exact Hl.value (s:=Builtin.append_ ts ty args) h1 h2 h3 h4
 | len =>
  have hb:Sc E ts.toList l h=some (r,h'):=hb
  unfold Sc at hb
  cases hts:ts.toList with
  | nil=>rw [hts] at hb; cases hb
  | cons t ts1 =>
   rw [hts] at hb
   cases l with
   | nil=>cases hb
   | cons x l1 =>
    obtain ⟨ti,ht,hb⟩:=F1 hb
    obtain ⟨n,hn,hb⟩:=A1 hb
    rw [B5] at hb
    cases hb
    have ht1:ts[0]?=some t:=by rw [← Array.getElem?_toList,hts]; rfl
    obtain ⟨xv,hxv1,hxv2⟩:=hl.get (i:=0) (c:=x) rfl
    have:=jI hE hs ht (ty:=ty) ht1 (args:=args) (by simpa using hxv1) hxv2 hn
    exact Hl.same (s:=Builtin.len_ ts ty args) hs this (.int _ _)
 | max =>
  cases l with
  | nil=>cases hb
  | cons x l =>
   obtain ⟨r',h1,h2⟩:=Option.map_eq_some_iff.1 (show (Jw l x).map (·,h)=some (r,h') from hb)
   cases h2
   obtain ⟨args⟩:=args
   cases args with
   | nil=>have:=hl.1; simp at this
   | cons xv vs =>
    obtain ⟨v,h2,h3⟩:=Ty (P:=P) (vs:=vs) (xv:=xv) ⟨by have:=hl.1; simpa using this,fun i v c h1 h2=>hl.2 (i + 1) v c (by simpa using h1) (by simpa using h2)⟩ (hl.2 0 _ _ rfl rfl) h1
    refine Hl.same (s:=Builtin.max_ ts ty ⟨xv :: vs⟩) hs ?_ h3
    simpa [Builtin.max_] using h2
 | min =>
  cases l with
  | nil=>cases hb
  | cons x l =>
   obtain ⟨r',h1,h2⟩:=Option.map_eq_some_iff.1 (show (Mp l x).map (·,h)=some (r,h') from hb)
   cases h2
   obtain ⟨args⟩:=args
   cases args with
   | nil=>have:=hl.1; simp at this
   | cons xv vs =>
    obtain ⟨v,h2,h3⟩:=Tz (P:=P) (vs:=vs) (xv:=xv) ⟨by have:=hl.1; simpa using this,fun i v c h1 h2=>hl.2 (i + 1) v c (by simpa using h1) (by simpa using h2)⟩ (hl.2 0 _ _ rfl rfl) h1
    refine Hl.same (s:=Builtin.min_ ts ty ⟨xv :: vs⟩) hs ?_ h3
    simpa [Builtin.min_] using h2
 | _=>cases hb
theorem cT (hE:EnvOk E P) (hs:Sat E W cx h) {a:Act} {fr:Tr} (hf:FrRep W cx a.tmps fr) {call:D1} (o:Oper) (hc:∀ c f,o.op=.call c->c.callee ≠ .value f) {v:AV} {h':Heap}
 (hev:evOp E call o.op fr h=.ok v h'):Hl P E W cx (execOp a.eval o) v h':=by
 have ov:=fun x=>V6 (E:=E) hs hf x
 obtain ⟨dst,op,type,pos,after,guard⟩:=o
 cases op with
 | move x=>cases hev; exact ⟨_,W,cx,.inl rfl,Ext.refl _ _,hs,ov x⟩
 | assign x=>cases hev; exact ⟨_,W,cx,.inl rfl,Ext.refl _ _,hs,ov x⟩
 | pick c x y =>
  obtain ⟨b,hb,hev⟩:=jC hev
  have hcv:=ov c
  rw [hb] at hcv
  have e:=hcv.bool_inv
  refine ⟨if b then a.eval x else a.eval y,W,cx,.inl ?_,Ext.refl _ _,?_,?_⟩
  . simp [execOp,e,asBool]
  . cases b <;> (cases hev; exact hs)
  . cases b <;> (cases hev; exact ov _)
 | alloc t =>
  obtain ⟨ti,ht,hev⟩:=E3 hev
  have hty:=hE.ti t ti ht
  obtain ⟨z,hzr,hzo⟩:=hty.run_zero (W:=W)
  obtain ⟨v',W',cx',h1,h2,h3,h4⟩:=Pr (P:=P) hs (t:=t) (hzo.rep W cx) hzo.one hzo.und hty.zsz hev
  refine Hl.value (s:=Instr.alloc t true (.tuple #[])) ?_ h2 h3 h4
  simp only [Instr.alloc,Sem.run_bind,hzr,Result.andThen_ok]
  simpa using h1
 | box t x =>
  obtain ⟨ti,ht,hev⟩:=E3 hev
  cases hg:(Nat.beq (lenL (opv E x fr).cells) ti.size && C8 (opv E x fr).cells) with
  | false=>rw [hg] at hev; cases hev
  | true =>
   rw [hg] at hev
   rw [Bool.and_eq_true,A3,F8] at hg
   have hu:opv E x fr ≠ .und:=fun e=>by
    have:=hg.2 .und (by rw [e]; simp [AV.cells])
    cases this
   obtain ⟨v',W',cx',h1,h2,h3,h4⟩:=Pr (P:=P) hs (t:=t) (ov x) (((ov x).cells hu).one hg.2) hu (beq_true hg.1) hev
   refine Hl.value (s:=Instr.box t (a.eval x)) ?_ h2 h3 h4
   simpa [Instr.box] using h1
 | build t ps =>
  obtain ⟨ti,ht,hev⟩:=E3 hev
  obtain ⟨hq,hh⟩:=G1 hev; subst hh
  obtain ⟨l1,l2⟩:=Ej hs hf ps.toList
  obtain ⟨v',h1,h2⟩:=Zu hE ht (ps:=ps.map fun p=>(p.1,a.eval p.2)) (by rw [j4]; exact l1) (by rw [j4]; exact l2) hq
  exact Hl.same (s:=Instr.build t _) hs h1 h2
 | buildSlice t n ps =>
  obtain ⟨ti,ht,hev⟩:=E3 hev
  cases hte:elemOfT E ti.desc with
  | none=>rw [hte] at hev; cases hev
  | some te =>
   rw [hte] at hev
   cases hg:(Nat.ble (Nat.mul n te.size) 65536 && Nat.blt 0 te.size) with
   | false=>simp only [hg] at hev; cases hev
   | true =>
    simp only [hg,cond_true] at hev
    cases hp:placeL te.size (opvps E ps.toList fr) (repL n te.zero) with
    | none=>rw [hp] at hev; cases hev
    | some es =>
     rw [hp] at hev
     cases hev
     obtain ⟨l1,l2⟩:=Ej hs hf ps.toList
     obtain ⟨v',W',cx',h1,h2,h3,h4⟩:=Kh hE hs ht hte (ps:=ps.map fun p=>(p.1,a.eval p.2)) (by rw [j4]; exact l1) (by rw [j4]; exact l2) hg hp
     exact Hl.value (s:=Instr.buildSlice t n _) h1 h2 h3 h4
 | load t x =>
  obtain ⟨ti,ht,hev⟩:=E3 hev
  obtain ⟨hq,hh⟩:=G1 hev; subst hh
  obtain ⟨v',h1,h2⟩:=Pp hE hs ht (ov x) hq
  exact Hl.same (s:=Instr.loadAt t _) hs h1 h2
 | store t x y =>
  obtain ⟨ti,ht,hev⟩:=E3 hev
  have:Av ti (opv E x fr) (opv E y fr) h=some h'∧v=.und:=by
   cases hq:Av ti (opv E x fr) (opv E y fr) h with
   | none=>rw [hq] at hev; cases hev
   | some h2=>rw [hq] at hev; cases hev; exact ⟨rfl,rfl⟩
  obtain ⟨hq,rfl⟩:=this
  obtain ⟨W',h1,h2,h3⟩:=Zp hE hs ht (ov x) (ov y) hq
  exact Hl.unit (s:=Instr.storeAt t _ _) h1 h2 h3
 | nilCheck x =>
  obtain ⟨hq,hh⟩:=G1 hev; subst hh
  have hx:=ov x
  have key:∀ u:Value,a.eval x=u->(match u with | .pointer none | .nilIface | .nilFunc=>False | .func (.method _) _ _=>False | _=>True)->(execOp a.eval ⟨dst,.nilCheck x,type,pos,after,guard⟩).run P W=.ok (.value u) W:=by
   intro u hu hm
   simp only [execOp,hu]
   cases u with
   | pointer p=>cases p with
    | none=>exact hm.elim
    | some p=>rfl
   | func f a b=>cases f with
    | method n=>exact hm.elim
    | _=>rfl
   | nilIface=>exact hm.elim
   | nilFunc=>exact hm.elim
   | _=>rfl
  cases hox:opv E x fr with
  | fptr w o =>
   rw [hox] at hq hx; cases hq
   obtain ⟨b,o',e,_⟩:=hx.fptr_inv
   exact ⟨_,W,cx,.inl (key _ e trivial),Ext.refl _ _,hs,e ▸ hx⟩
  | ptr i j o =>
   rw [hox] at hq hx; cases hq
   obtain ⟨_,e⟩:=hx.ptr_inv
   exact ⟨_,W,cx,.inl (key _ e trivial),Ext.refl _ _,hs,e ▸ hx⟩
  | fn f l1 l2 =>
   rw [hox] at hq hx
   cases f with
   | func f =>
    cases hq
    cases hu:a.eval x with
    | func f' vs ws =>
     rw [hu] at hx
     have:f'=.func f:=by cases hx; rfl
     subst this
     exact ⟨_,W,cx,.inl (key _ hu trivial),Ext.refl _ _,hs,hx⟩
    | _=>rw [hu] at hx; cases hx
   | _=>cases hq
  | map i =>
   rw [hox] at hq hx; cases hq
   cases hu:a.eval x with
   | map r =>
    rw [hu] at hx
    exact ⟨_,W,cx,.inl (key _ hu trivial),Ext.refl _ _,hs,hx⟩
   | _=>rw [hu] at hx; cases hx
  | _=>rw [hox] at hq; cases hq
 | binOp op t x y yt =>
  obtain ⟨hq,hh⟩:=G1 hev; subst hh
  obtain ⟨v',h1,h2⟩:∃ v',S6 P W op t x y (a.eval x) (a.eval y) v'∧Rep W cx v' v:=by
   rcases orO_some hq with hq | hq
   . exact cR hE (ov x) (ov y) hq x y
   . exact Zf hE (ov x) (ov y) hq x y
  exact Hl.same (s:=do eqGuard op t x y (a.eval x) (a.eval y); binOp op t (a.eval x) (a.eval y)) hs h1 h2
 | unOp op t x =>
  obtain ⟨hq,hh⟩:=G1 hev; subst hh
  obtain ⟨v',h1,h2⟩:=cZ (P:=P) (ov x) hq
  exact Hl.same (s:=Op.unary op _) hs h1 h2
 | convert s d x =>
  obtain ⟨ts,hts,hev⟩:=E3 hev
  obtain ⟨td,htd,hev⟩:=E3 hev
  obtain ⟨hq,hh⟩:=G1 hev; subst hh
  obtain ⟨v',h1,h2⟩:=Sj hE hts htd (ov x) hq
  exact Hl.same (s:=convert s d _) hs h1 h2
 | makeFunc f first caps =>
  cases hev
  have r1:=z8 (E:=E) hs hf first.toList
  have r2:=z8 (E:=E) hs hf caps.toList
  refine ⟨.func f (first.map a.eval) (caps.map a.eval),W,cx,.inl (by simp [execOp,Instr.makeFunc]),Ext.refl _ _,hs,?_⟩
  refine .fn f _ _ _ _ (by have:=r1.1; simpa using this) (by have:=r2.1; simpa using this) (fun i v c h1 h2=>r1.2 i v c ?_ h2) (fun i v c h1 h2=>r2.2 i v c ?_ h2)
  . simpa using h1
  . simpa using h1
 | makeMap t r =>
  cases r with
  | some r=>cases hev
  | none =>
   cases hev
   have he:=Ext.alloc W cx (.map #[] 0) 0
   refine ⟨.map (some W.heap.size),W.alloc (.map #[] 0),_,.inl (by simp [execOp,Instr.makeMap]),he,hs.push _ _ 0 ⟨#[],0,[],I1 W _,List.Perm.refl _,rfl,by simp,MapKept.stamped_empty 0,fun q hq=>by cases hq⟩,?_⟩
   have:=Rep.map (W:=W.alloc (.map #[] 0)) (cx:=cx.push W.heap.size 0) h.next (by rw [hs.nx]; exact Nat.lt_succ_self _) (by rw [hs.nx,Cx.push_new]; simp)
   rw [hs.nx,Cx.push_new] at this
   rw [hs.nx]; exact this
 | makeInterface t x =>
  obtain ⟨ti,ht,hev⟩:=E3 hev
  cases hp:O8 ti.desc with
  | false=>rw [hp] at hev; cases hev
  | true =>
   rw [hp] at hev
   cases hev
   have hd:=(hE.ti t ti ht).desc
   unfold I2 at hd
   have:∃ d,P.underlying t=some d∧∀ ms,d ≠ .interface ms:=by
    cases hk:ti.desc with
    | func=>rw [hk] at hp; cases hp
    | iface=>rw [hk] at hp; cases hp
    | other=>rw [hk] at hp; cases hp
    | struct fs fl=>rw [hk] at hd; obtain ⟨fields,hu,_⟩:=hd; exact ⟨_,hu,by simp⟩
    | _=>rw [hk] at hd; exact ⟨_,hd,by simp⟩
   obtain ⟨d,hu,hn⟩:=this
   have r1:∀ W:World,(underlying t).run P W=.ok d W:=fun W=>A2 hu
   refine Hl.same (s:=Instr.makeInterface t (a.eval x)) (v':=.iface t (a.eval x)) hs ?_ (.iface t _ _ (ov x))
   simp only [Instr.makeInterface,Sem.run_bind,r1,Result.andThen_ok]
   cases d <;> first | rfl | exact absurd rfl (hn _)
 | typeAssert x xt t ok =>
  obtain ⟨ti,ht,hev⟩:=E3 hev
  cases hp:(O8 ti.desc && !ok) with
  | false=>rw [hp] at hev; cases hev
  | true =>
   rw [hp] at hev
   rw [Bool.and_eq_true] at hp
   obtain ⟨hp,hok⟩:=hp
   obtain ⟨hq,hh⟩:=G1 hev; subst hh
   have hd:=(hE.ti t ti ht).desc
   unfold I2 at hd
   have:∃ d,P.underlying t=some d∧∀ ms,d ≠ .interface ms:=by
    cases hk:ti.desc with
    | func=>rw [hk] at hp; cases hp
    | iface=>rw [hk] at hp; cases hp
    | other=>rw [hk] at hp; cases hp
    | struct fs fl=>rw [hk] at hd; obtain ⟨fields,hu,_⟩:=hd; exact ⟨_,hu,by simp⟩
    | _=>rw [hk] at hd; exact ⟨_,hd,by simp⟩
   obtain ⟨d,hu,hn⟩:=this
   have r1:∀ W:World,(underlying t).run P W=.ok d W:=fun W=>A2 hu
   have hxo:=ov x
   cases hq2:opv E x fr with
   | iface u w =>
    rw [hq2] at hq hxo
    have hq:(bif Nat.beq u t then some w else none)=some v:=hq
    cases hb:Nat.beq u t with
    | false=>rw [hb] at hq; cases hq
    | true =>
     rw [hb] at hq; cases hq
     have hut:=beq_true hb
     have ⟨u',hu',hr⟩:∃ u',a.eval x=.iface t u'∧Rep W cx u' v:=by
      generalize a.eval x=z at hxo
      cases hxo with
      | iface _ u' _ hr=>exact ⟨u',by rw [hut],hr⟩
     refine Hl.same (s:=Instr.typeAssert (a.eval x) xt t ok) (v':=u') hs ?_ hr
     rw [hu']
     have hok:ok=false:=by simpa using hok
     subst hok
     simp only [Instr.typeAssert,Sem.run_bind,r1,Result.andThen_ok]
     cases d <;> first | exact absurd rfl (hn _) | (simp; done) | simp
   | _=>rw [hq2] at hq; cases hq
 | makeSlice t l c =>
  obtain ⟨ti,ht,hev⟩:=E3 hev
  cases hte:elemOfT E ti.desc with
  | none=>rw [hte] at hev; cases hev
  | some te =>
   rw [hte] at hev
   cases hl:asNat (opv E l fr) with
   | none=>simp only [hl] at hev; cases hev
   | some n =>
    simp only [hl] at hev
    cases hm:asNat (opv E c fr) with
    | none=>simp only [hm] at hev; cases hev
    | some m =>
     simp only [hm] at hev
     cases hg:(Nat.ble n m && Nat.ble (Nat.mul m te.bytes) 140737488355328 && Nat.blt 0 te.size) with
     | false=>simp only [hg] at hev; cases hev
     | true =>
      simp only [hg,cond_true] at hev
      cases hev
      obtain ⟨v',W',cx',h1,h2,h3,h4⟩:=Mt hE hs ht hte (ov l) (ov c) hl hm hg
      exact Hl.value (s:=Instr.makeSlice t _ _) h1 h2 h3 h4
 | slice t x lo hi mx =>
  have hev:Eh E t x lo hi mx fr h=.ok v h':=hev
  unfold Eh at hev
  obtain ⟨ti,ht,hev⟩:=E3 hev
  cases hhm:hi.isNone && mx.isSome with
  | true=>rw [hhm] at hev; cases hev
  | false =>
   rw [hhm] at hev
   obtain ⟨hq,hh⟩:=G1 hev; subst hh
   obtain ⟨v',h1,h2⟩:=Zs hE ht (ov x) (Wi hs hf lo) (Wi hs hf hi) (Wi hs hf mx) (fun hn=>by
    cases hi with
    | some hi=>cases hn
    | none=>cases mx with
     | none=>rfl
     | some mx=>cases hhm) hq
   exact Hl.same (s:=Instr.sliceAt t _ _ _ _) hs h1 h2
 | fieldAddr t x f =>
  obtain ⟨ti,ht,hev⟩:=E3 hev
  obtain ⟨hq,hh⟩:=G1 hev; subst hh
  obtain ⟨p,hp,hq⟩:=A1 hq
  obtain ⟨v',h1,h2⟩:=Mr hE ht (ov x) hp hq
  exact Hl.same (s:=Instr.fieldAt t _ f) hs h1 h2
 | field t x f =>
  obtain ⟨ti,ht,hev⟩:=E3 hev
  obtain ⟨hq,hh⟩:=G1 hev; subst hh
  obtain ⟨p,hp,hq⟩:=A1 hq
  obtain ⟨v',h1,h2⟩:=Zq hE ht (ov x) hp hq
  exact Hl.same (s:=Instr.field t _ f) hs h1 h2
 | indexAddr t x i =>
  obtain ⟨ti,ht,hev⟩:=E3 hev
  obtain ⟨hq,hh⟩:=G1 hev; subst hh
  obtain ⟨n,hn,hq⟩:=A1 hq
  obtain ⟨v',h1,h2⟩:=Ms hE ht (ov x) (ov i) hn hq
  exact Hl.same (s:=Instr.indexAt t _ _) hs h1 h2
 | index t x i =>
  obtain ⟨ti,ht,hev⟩:=E3 hev
  obtain ⟨hq,hh⟩:=G1 hev; subst hh
  obtain ⟨n,hn,hq⟩:=A1 hq
  obtain ⟨v',h1,h2⟩:=Zr hE ht (ov x) (ov i) hn hq
  exact Hl.same (s:=Instr.index t _ _) hs h1 h2
 | lookup t m k ok=>cases hev
 | mapUpdate t m k x=>cases hev
 | insert t m k x=>cases hev
 | extract t i =>
  obtain ⟨vs,hvs,hev⟩:=lY hev
  obtain ⟨hq,hh⟩:=G1 hev; subst hh
  have:=ov t
  rw [hvs] at this
  obtain ⟨v',h1,h2⟩:=Sk (P:=P) this hq
  exact Hl.same (s:=Instr.extract _ i) hs h1 h2
 | call c =>
  obtain ⟨callee,args,argTypes⟩:=c
  cases callee with
  | value f=>exact absurd rfl (hc _ f rfl)
  | invoke f n=>cases hev
  | builtin b =>
   have hev:lift2 (F0 E b argTypes.toList (opvs E args.toList fr) h)=.ok v h':=hev
   cases hq:F0 E b argTypes.toList (opvs E args.toList fr) h with
   | none=>rw [hq] at hev; cases hev
   | some p =>
    rw [hq] at hev; cases hev
    have hl:RepL W cx (args.map a.eval).toList (opvs E args.toList fr):=by
     have:=z8 (E:=E) hs hf args.toList; simpa using this
    exact Sh hE hs hl hq
 | panic x =>
  exfalso
  have hev:jA (opv E x fr) h=.ok v h':=hev
  cases hq:opv E x fr <;> rw [hq] at hev <;> cases hev
 | _=>cases hev
end
end Go.AM
/-
 The abstract machine: operations,calls among them,and rows of operations in the order of the text.
-/
namespace Go.AM
def Res.Post (E:Env) (W:World) (cx:Cx):Res->Ending->World->Prop
 | .ok v h,.returned vv,w=>∃ cx',Ext W cx w cx'∧Sat E w cx' h∧Rep w cx' vv v
 | .pan v h,.panicked chain,w=>∃ cx' vv,chain=[{ v:=vv,recovered:=false }]∧Ext W cx w cx'∧Sat E w cx' h∧Rep w cx' vv v
 | _,_,_=>False
def Cz (E:Env) (P:Program) (call:D1):Prop :=
 ∀ f (args:Array Value) l W cx h,RepL W cx args.toList l->Sat E W cx h->call f l h ≠ .bad ->
   (∃ fn c, P.funcs[f]? = some fn ∧ fn.body = some c ∧ (fn.name == "runtime.NumGoroutine") = false) ∧ Calls P f args W ((call f l h).Post E W cx)
def Wj:Ex->Exit
 | .normal=>.normal
 | .exit i=>.exit i
 | .ret=>.ret
def CRes.Post (E:Env) (W:World) (cx:Cx) (S:Act->Prop) (r:CRes) (x:Exit) (a:Act) (w:World):Prop :=
 S a∧∃ cx',Ext W cx w cx' ∧
   match r with
   | .ok e fr h=>x=Wj e∧Sat E w cx' h∧FrRep w cx' a.tmps fr
   | .pan v h=>∃ vv,x=.panic [{ v:=vv,recovered:=false }]∧Sat E w cx' h∧Rep w cx' vv v
   | .bad=>False
def Hz (S:Act->Prop) (d:Option Tmp):Prop:=∀ a v,S a->S (a.put d v)
theorem CRes.Post.trans {E:Env} {W W₁:World} {cx cx₁:Cx} {S:Act->Prop} (he:Ext W cx W₁ cx₁) {r:CRes} {x:Exit} {a:Act} {w:World} (h:r.Post E W₁ cx₁ S x a w):r.Post E W cx S x a w:=by
 obtain ⟨hd,cx',he',h⟩:=h
 exact ⟨hd,cx',he.trans he',h⟩
section
variable {P:Program} {E:Env} {W:World} {cx:Cx} {h:Heap}
def U6 (r:Res):Prop:=∀ v h,r ≠ .pan v h
theorem U6.ok {v:AV} {h:Heap}:U6 (.ok v h):=fun _ _ e=>by cases e
theorem U6.bad:U6 .bad:=fun _ _ e=>by cases e
theorem U6.lift {x:Option AV} {h:Heap}:U6 (lift x h):=by cases x; exact .bad; exact .ok
theorem U6.liftH {x:Option Heap}:U6 (liftH x):=by cases x; exact .bad; exact .ok
theorem U6.lift2 {x:Option (AV × Heap)}:U6 (lift2 x):=by cases x; exact .bad; exact .ok
theorem U6.onTI {t:Nat} {f:TI->Res} (hf:∀ x,U6 (f x)):U6 (onTI E t .bad f):=by
 unfold AM.onTI; cases E.ti t; exact .bad; exact hf _
theorem U6.cond {b:Bool} {x y:Res} (hx:U6 x) (hy:U6 y):U6 (bif b then x else y):=by cases b; exact hy; exact hx
theorem Ph {call:D1} {op:Op} {fr:Tr} (hp:∀ x,op ≠ .panic x) (hc:∀ c f,op=.call c->c.callee ≠ .value f):U6 (evOp E call op fr h):=by
 cases op with
 | panic x=>exact absurd rfl (hp x)
 | call c =>
  obtain ⟨callee,args,argTypes⟩:=c
  cases callee with
  | value f=>exact absurd rfl (hc _ f rfl)
  | invoke f n=>exact .bad
  | builtin b=>exact .lift2
 | move x=>exact .ok
 | assign x=>exact .ok
 | pick c x y =>
  show U6 ((opv E c fr).onBool .bad fun t=>match t with | true=>.ok (opv E x fr) h | false=>.ok (opv E y fr) h)
  cases opv E c fr with
  | bool b=>cases b <;> exact .ok
  | _=>exact .bad
 | alloc t=>exact .onTI fun _=>.ok
 | box t x=>exact .onTI fun _=>.cond .ok .bad
 | build t ps=>exact .onTI fun _=>.lift
 | buildSlice t n ps =>
  refine .onTI fun ti=>?_
  cases elemOfT E ti.desc with
  | none=>exact .bad
  | some te =>
   refine .cond ?_ .bad
   cases placeL te.size (opvps E ps.toList fr) (repL n te.zero) with
   | none=>exact .bad
   | some es=>exact .ok
 | load t x=>exact .onTI fun _=>.lift
 | store t x y=>exact .onTI fun _=>.liftH
 | nilCheck x=>exact .lift
 | binOp op t x y yt=>exact .lift
 | unOp op t x=>exact .lift
 | convert s d x=>exact .onTI fun _=>.onTI fun _=>.lift
 | makeFunc f first caps=>exact .ok
 | makeMap t r=>cases r; exact .ok; exact .bad
 | makeInterface t x=>exact .onTI fun _=>.cond .ok .bad
 | typeAssert x xt t ok=>exact .onTI fun _=>.cond .lift .bad
 | makeSlice t l c =>
  refine .onTI fun ti=>?_
  cases elemOfT E ti.desc with
  | none=>exact .bad
  | some te =>
   cases h1:asNat (opv E l fr) with
   | none=>exact .bad
   | some n =>
    cases h2:asNat (opv E c fr) with
    | none=>exact .bad
    | some m=>exact .cond .ok .bad
 | slice t x lo hi mx=>exact .onTI fun _=>.cond .bad .lift
 | fieldAddr t x f=>exact .onTI fun _=>.lift
 | field t x f=>exact .onTI fun _=>.lift
 | indexAddr t x i=>exact .onTI fun _=>.lift
 | index t x i=>exact .onTI fun _=>.lift
 | lookup t m k ok=>exact .bad
 | mapUpdate t m k x=>exact .bad
 | insert t m k x=>exact .bad
 | extract t i =>
  show U6 ((opv E t fr).onTup .bad fun vs=>lift (Ci vs i) h)
  cases opv E t fr with
  | tup vs=>exact .lift
  | _=>exact .bad
 | _=>exact .bad
theorem Ia (hE:EnvOk E P) (hs:Sat E W cx h) {a:Act} {fr:Tr} (hf:FrRep W cx a.tmps fr) {call:D1} (hcall:Cz E P call) (o:Oper) {K:Act->World->Prop} {Q:Exit->Act->World->Prop}
 (hb:evOp E call o.op fr h ≠ .bad)
 (hK:∀ v h' v' W' cx',evOp E call o.op fr h=.ok v h'->Ext W cx W' cx'->Sat E W' cx' h'->Rep W' cx' v' v->K (a.put o.dst v') W')
 (hQ:∀ v h' v' W' cx',evOp E call o.op fr h=.pan v h'->Ext W cx W' cx'->Sat E W' cx' h'->Rep W' cx' v' v->Q (.panic [{ v:=v',recovered:=false }]) a W'):o.wp P a W K Q:=by
 by_cases hc:∀ c f,o.op=.call c->c.callee ≠ .value f
 . by_cases hp:∀ x,o.op ≠ .panic x
   . cases hev:evOp E call o.op fr h with
     | bad=>exact absurd hev hb
     | pan v h'=>exact absurd hev (Ph hp hc v h')
     | ok v h' =>
      obtain ⟨v',W',cx',hr,h1,h2,h3⟩:=cT hE hs hf o hc hev
      have hk:=hK v h' v' W' cx' hev h1 h2 h3
      unfold Oper.wp
      rcases hr with hr | ⟨hr,rfl⟩
      . rw [hr]; exact hk
      . rw [hr]; exact hk
   . have ⟨x,hx⟩:∃ x,o.op=.panic x:=by
      apply Classical.byContradiction
      intro hn
      exact hp fun x e=>hn ⟨x,e⟩
     have ov:=V6 (E:=E) hs hf x
     rw [hx] at hb hQ
     have e:evOp E call (.panic x) fr h=jA (opv E x fr) h:=rfl
     rw [e] at hb hQ
     cases hq:opv E x fr with
     | iface t v =>
      rw [hq] at hQ ov
      have hk:=hQ (.iface t v) h (a.eval x) W cx rfl (Ext.refl _ _) hs ov
      have:∃ u,a.eval x=.iface t u:=by
       generalize a.eval x=u at ov
       cases ov; exact ⟨_,rfl⟩
      obtain ⟨u,hu⟩:=this
      unfold Oper.wp
      have:(execOp a.eval o).run P W=.halt (.panic (a.eval x)) W:=by
       obtain ⟨dst,op,type,pos,after,guard⟩:=o
       simp only at hx; subst hx
       simp [execOp,hu,Instr.panic,goPanic]
      rw [this]; exact hk
     | _=>rw [hq] at hb; exact absurd rfl hb
 . have ⟨c,f,hop,hcf⟩:∃ c f,o.op=.call c∧c.callee=.value f:=by
    apply Classical.byContradiction
    intro hn
    exact hc fun c f e1 e2=>hn ⟨c,f,e1,e2⟩
   obtain ⟨dst,op,type,pos,after,guard⟩:=o
   simp only at hop; subst hop
   obtain ⟨callee,args,argTypes⟩:=c
   simp only at hcf; subst hcf
   have e:evOp E call (.call ⟨.value f,args,argTypes⟩) fr h=V4 call (opv E f fr) (opvs E args.toList fr) h:=rfl
   rw [e] at hb hK hQ
   have ov:=V6 (E:=E) hs hf f
   have oa:=z8 (E:=E) hs hf args.toList
   cases hq:opv E f fr with
   | fn g first caps =>
    rw [hq] at hb hK hQ ov
    cases g with
    | func n =>
     have e:V4 call (.fn (.func n) first caps) (opvs E args.toList fr) h=call n (appL first (appL (opvs E args.toList fr) caps)) h:=rfl
     rw [e] at hb hK hQ
     have ⟨vs,ws,hv,h1,h2⟩:∃ vs ws,a.eval f=.func (.func n) vs ws∧RepL W cx vs.toList first∧RepL W cx ws.toList caps:=by
      generalize a.eval f=u at ov
      cases ov with
      | fn f vs ws cs ds hl hl' h h'=>exact ⟨vs,ws,rfl,⟨by simpa using hl,fun i v c p q=>h i v c (by simpa using p) q⟩,⟨by simpa using hl',fun i v c p q=>h' i v c (by simpa using p) q⟩⟩
     rw [J0,J0] at hb hK hQ
     have hl:RepL W cx (vs ++ args.map a.eval ++ ws).toList (first ++ (opvs E args.toList fr ++ caps)):=by
      have:(vs ++ args.map a.eval ++ ws).toList=vs.toList ++ (args.toList.map a.eval ++ ws.toList):=by simp
      rw [this]
      exact h1.append (oa.append h2)
     obtain ⟨⟨fn,c,hf1,hf2,hf3⟩,hcl⟩:=hcall n _ _ W cx h hl hs hb
     unfold Oper.wp
     have:(execOp a.eval ⟨dst,.call ⟨.value f,args,argTypes⟩,type,pos,after,guard⟩).run P W=.ok (.enter n (vs ++ args.map a.eval ++ ws)) W:=by
      have hn : ¬ fn.name = "runtime.NumGoroutine" := fun e => by rw [e] at hf3; simp at hf3
      simp [execOp,resolve,hv,Deferred.ofValue,invoke,callFunc,hf1,hf2,hn]
     rw [this,Oper.upon_enter]
     refine hcl.mono fun e w' hp=>?_
     generalize call n (first ++ (opvs E args.toList fr ++ caps)) h=r at *
     cases r with
     | bad=>exact absurd rfl hb
     | ok v h' =>
      cases e with
      | returned vv=>obtain ⟨cx',h1,h2,h3⟩:=hp; exact hK v h' vv w' cx' rfl h1 h2 h3
      | panicked c=>exact hp.elim
      | outgrown=>exact hp.elim
     | pan v h' =>
      cases e with
      | returned vv=>exact hp.elim
      | panicked c=>obtain ⟨cx',vv,rfl,h1,h2,h3⟩:=hp; exact hQ v h' vv w' cx' rfl h1 h2 h3
      | outgrown=>exact hp.elim
    | _=>exact absurd rfl hb
   | _=>rw [hq] at hb; exact absurd rfl hb
theorem M9 {ops:Array Oper} {a:Act} {fr:Tr} (hf:FrRep W cx a.tmps fr) (o:Oper) {b:Bool} (hg:guardOk (F5 ops.toList o) fr=some b):Region.wanted o (yielded ops a.tmps)=b:=by
 unfold F5 at hg
 unfold Region.wanted
 cases hgd:o.guard with
 | none=>rw [hgd] at hg; cases hg; rfl
 | some p =>
  obtain ⟨g,want⟩:=p
  rw [hgd] at hg
  dsimp only at hg ⊢
  have hg:Hr ((match ops.toList[g]? with | some q=>q.dst | none=>none),want) fr=some b:=hg
  have hyd:yielded ops a.tmps g=match ((match ops.toList[g]? with | some q=>q.dst | none=>none).bind (a.tmps[·]?)) with | some (.bool b)=>some b | _=>none:=by
   unfold yielded
   rw [← Array.getElem?_toList]
   cases ops.toList[g]? <;> rfl
  generalize hdst:(match ops.toList[g]? with | some q=>q.dst | none=>none)=d at hg hyd
  cases d with
  | none =>
   cases hg
   rw [hyd]; rfl
  | some t =>
   have hg:X8 want (fr.get t)=some b:=hg
   have hr:=hf.rep t
   cases hv:fr.get t with
   | bool c =>
    rw [hv] at hg hr
    have e:=hr.bool_inv
    have e2:a.tmps[t]?=some (.bool c):=by
     rw [Array.getD_eq_getD_getElem?] at e
     cases ht:a.tmps[t]? with
     | none=>rw [ht] at e; cases e
     | some u=>rw [ht] at e; simp at e; rw [e]
    rw [hyd]; simp only [Option.bind_some,e2]
    cases want <;> cases c <;> cases hg <;> rfl
   | tup l =>
    rw [hv] at hg hr
    cases l with
    | cons x l=>cases hg
    | nil =>
     cases hg
     obtain ⟨vs,e,_⟩:=hr.tup_inv
     rw [hyd]
     simp only [Option.bind_some]
     rw [Array.getD_eq_getD_getElem?] at e
     cases ht:a.tmps[t]? with
     | none=>rfl
     | some u=>rw [ht] at e; simp at e; rw [e]; rfl
   | _=>rw [hv] at hg; cases hg
theorem m6 (a:Act) (d:Option Tmp) (v:Value):(a.put d v).defers=a.defers:=by cases d <;> rfl
theorem u6 (hE:EnvOk E P) {call:D1} (hcall:Cz E P call) {S:Act->Prop} {ops:Array Oper} {Q:Exit->Act->World->Prop}:∀ (l:List Oper) (W:World) (cx:Cx) (a:Act) (fr:Tr) (h:Heap),(∀ o∈l,Hz S o.dst)->FrRep W cx a.tmps fr->S a->Sat E W cx h ->
 G6 E call (l.map (Wd ops.toList false [] false)) fr h ≠ .bad->(∀ x a' w',(G6 E call (l.map (Wd ops.toList false [] false)) fr h).Post E W cx S x a' w'->Q x a' w')->wpList P ops Q l a W
 | [],W,cx,a,fr,h,_,hf,hd,hs,hb,hQ=>hQ .normal a W ⟨hd,cx,Ext.refl _ _,rfl,hs,hf⟩
 | o :: l,W,cx,a,fr,h,hst,hf,hd,hs,hb,hQ=>by
  have hst':∀ o∈l,Hz S o.dst:=fun o ho=>hst o (List.mem_cons_of_mem _ ho)
  have hso:=hst o (List.mem_cons_self ..)
  have he:G6 E call ((o :: l).map (Wd ops.toList false [] false)) fr h =
   Q5 (guardOk (F5 ops.toList o) fr) .bad (S5 o.dst (G6 E call (l.map (Wd ops.toList false [] false))) fr (evOp E call o.op fr h)) (G6 E call (l.map (Wd ops.toList false [] false)) (setDst o.dst skipped fr) h):=rfl
  rw [he] at hb hQ
  cases hg:guardOk (F5 ops.toList o) fr with
  | none=>rw [hg] at hb; exact absurd rfl hb
  | some b =>
   have hw:=M9 (ops:=ops) hf o hg
   rw [hg] at hb hQ
   unfold wpList
   cases b with
   | false =>
    rw [hw]
    have hb:G6 E call (l.map (Wd ops.toList false [] false)) (setDst o.dst skipped fr) h ≠ .bad:=hb
    exact u6 hE hcall l W cx _ _ h hst' (hf.put o.dst (show Rep W cx undef skipped from .tup #[] [] rfl (by simp))) (hso _ _ hd) hs hb hQ
   | true =>
    rw [hw]
    have hb:S5 o.dst (G6 E call (l.map (Wd ops.toList false [] false))) fr (evOp E call o.op fr h) ≠ .bad:=hb
    have hQ:∀ x a' w',(S5 o.dst (G6 E call (l.map (Wd ops.toList false [] false))) fr (evOp E call o.op fr h)).Post E W cx S x a' w'->Q x a' w':=hQ
    refine .inl (Ia hE hs hf hcall o (fun e=>by rw [e] at hb; exact hb rfl) (fun v h' v' W' cx' e h1 h2 h3=>?_) (fun v h' v' W' cx' e h1 h2 h3=>?_))
    . rw [e] at hb hQ
      exact u6 hE hcall l W' cx' _ _ h' hst' ((hf.mono h1).put o.dst h3) (hso _ _ hd) h2 hb (fun x a' w' hp=>hQ x a' w' (CRes.Post.trans h1 hp))
    . rw [e] at hQ
      exact hQ _ _ _ ⟨hd,cx',h1,v',rfl,h2,h3⟩
end
end Go.AM
/-
 The abstract machine: on what an operation hangs,and what it leaves.
-/
namespace Go.AM
section
variable {E:Env} {call:D1} {h:Heap}
theorem Bb {fr fr':Tr}:∀ (l:List Operand),(∀ y∈l,opv E y fr=opv E y fr')->opvs E l fr=opvs E l fr'
 | [],_=>rfl
 | x :: l,hy=>by
  show opv E x fr :: opvs E l fr=opv E x fr' :: opvs E l fr'
  rw [hy x (List.mem_cons_self ..),Bb l fun y hm=>hy y (List.mem_cons_of_mem _ hm)]
theorem Da {fr fr':Tr}:∀ (l:List (Nat × Operand)),(∀ y∈l.map (·.2),opv E y fr=opv E y fr')->opvps E l fr=opvps E l fr'
 | [],_=>rfl
 | x :: l,hy=>by
  show (x.1,opv E x.2 fr) :: opvps E l fr=(x.1,opv E x.2 fr') :: opvps E l fr'
  rw [hy x.2 (by simp),Da l fun y hm=>hy y (by simp at hm ⊢; exact .inr hm)]
theorem Gp {fr fr':Tr} (o:Option Operand) (hy:∀ y,o=some y->opv E y fr=opv E y fr'):Jz E o fr=Jz E o fr':=by
 cases o with
 | none=>rfl
 | some x=>show some _=some _; rw [hy x rfl]
theorem m7 {fr fr':Tr} (op:Op) (hy:∀ y∈op.operands.toList,opv E y fr=opv E y fr') (h:Heap):evOp E call op fr h=evOp E call op fr' h:=by
 cases op with
 | move x=>show Res.ok _ _=Res.ok _ _; rw [hy x (by simp [Op.operands])]
 | assign x=>show Res.ok _ _=Res.ok _ _; rw [hy x (by simp [Op.operands])]
 | pick c a b=>show Vu E c a b fr h=Vu E c a b fr' h; unfold Vu; rw [hy c (by simp [Op.operands]),hy a (by simp [Op.operands]),hy b (by simp [Op.operands])]
 | alloc t=>rfl
 | box t x=>show eX E t x fr h=eX E t x fr' h; unfold eX; rw [hy x (by simp [Op.operands])]
 | build t ps=>show Nj E t ps fr h=Nj E t ps fr' h; unfold Nj; rw [Da ps.toList (fun y hm=>hy y (by simpa [Op.operands] using hm))]
 | buildSlice t n ps=>show K5 E t n ps fr h=K5 E t n ps fr' h; unfold K5; rw [Da ps.toList (fun y hm=>hy y (by simpa [Op.operands] using hm))]
 | load t x=>show Vv E t x fr h=Vv E t x fr' h; unfold Vv; rw [hy x (by simp [Op.operands])]
 | store t a x=>show Nk E t a x fr h=Nk E t a x fr' h; unfold Nk; rw [hy a (by simp [Op.operands]),hy x (by simp [Op.operands])]
 | nilCheck x=>show Aw E x fr h=Aw E x fr' h; unfold Aw; rw [hy x (by simp [Op.operands])]
 | binOp op t x y u=>show Nl E op t x y fr h=Nl E op t x y fr' h; unfold Nl; rw [hy x (by simp [Op.operands]),hy y (by simp [Op.operands])]
 | unOp op t x=>show Vw E op x fr h=Vw E op x fr' h; unfold Vw; rw [hy x (by simp [Op.operands])]
 | convert s d x=>show Eg E s d x fr h=Eg E s d x fr' h; unfold Eg; rw [hy x (by simp [Op.operands])]
 | makeFunc f first caps=>show Ax E f first caps fr h=Ax E f first caps fr' h; unfold Ax; rw [Bb first.toList (fun y hm=>hy y (by simp [Op.operands]; exact .inl (by simpa using hm))),Bb caps.toList (fun y hm=>hy y (by simp [Op.operands]; exact .inr (by simpa using hm)))]
 | makeMap t r=>rfl
 | typeAssert x xt t ok=>show g8 E t ok x fr h=g8 E t ok x fr' h; unfold g8; rw [hy x (by simp [Op.operands])]
 | makeInterface t x=>show R8 E t x fr h=R8 E t x fr' h; unfold R8; rw [hy x (by simp [Op.operands])]
 | makeSlice t l c=>show M8 E t l c fr h=M8 E t l c fr' h; unfold M8; rw [hy l (by simp [Op.operands]),hy c (by simp [Op.operands])]
 | slice t x lo hi mx =>
  show Eh E t x lo hi mx fr h=Eh E t x lo hi mx fr' h; unfold Eh
  rw [hy x (by simp [Op.operands]),Gp lo (fun y e=>hy y (by simp [Op.operands,e])),Gp hi (fun y e=>hy y (by simp [Op.operands,e])),Gp mx (fun y e=>hy y (by simp [Op.operands,e]))]
 | fieldAddr t x f=>show s5 E t x f fr h=s5 E t x f fr' h; unfold s5; rw [hy x (by simp [Op.operands])]
 | field t x f=>show Nm E t x f fr h=Nm E t x f fr' h; unfold Nm; rw [hy x (by simp [Op.operands])]
 | indexAddr t x i=>show s8 E t x i fr h=s8 E t x i fr' h; unfold s8; rw [hy x (by simp [Op.operands]),hy i (by simp [Op.operands])]
 | index t x i=>show Nn E t x i fr h=Nn E t x i fr' h; unfold Nn; rw [hy x (by simp [Op.operands]),hy i (by simp [Op.operands])]
 | lookup t m k ok=>rfl
 | mapUpdate t m k x=>rfl
 | insert t m k x=>rfl
 | extract t i=>show Ei E t i fr h=Ei E t i fr' h; unfold Ei; rw [hy t (by simp [Op.operands])]
 | call c =>
  show cL E call c fr h=cL E call c fr' h
  obtain ⟨callee,args,argTypes⟩:=c
  have ha:=Bb (E:=E) (fr:=fr) (fr':=fr') args.toList (fun y hm=>hy y (by simp [Op.operands,Call.operands]; exact .inr (by simpa using hm)))
  cases callee with
  | value f =>
   have hf:=hy f (by simp [Op.operands,Call.operands])
   show V4 call (opv E f fr) (opvs E args.toList fr) h=V4 call (opv E f fr') (opvs E args.toList fr') h
   rw [hf,ha]
  | invoke f n=>rfl
  | builtin b =>
   show lift2 (F0 E b argTypes.toList (opvs E args.toList fr) h)=lift2 (F0 E b argTypes.toList (opvs E args.toList fr') h)
   rw [ha]
 | panic x=>show No E x fr h=No E x fr' h; unfold No; rw [hy x (by simp [Op.operands])]
 | _=>rfl
theorem J9 {x:Option AV} {v:AV} {h h':Heap} (hx:lift x h=.ok v h') (h₂:Heap):h'=h∧lift x h₂=.ok v h₂:=by
 cases x with
 | none=>cases hx
 | some a=>cases hx; exact ⟨rfl,rfl⟩
theorem O3 {t:Nat} {f:Heap->TI->Res} {v:AV} {h':Heap} {h₂:Heap} (hf:∀ x,f h x=.ok v h'->h'=h∧f h₂ x=.ok v h₂) (hx:onTI E t .bad (f h)=.ok v h'):h'=h∧onTI E t .bad (f h₂)=.ok v h₂:=by
 unfold onTI at hx ⊢
 cases ht:E.ti t with
 | none=>rw [ht] at hx; cases hx
 | some x=>rw [ht] at hx; exact hf x hx
theorem Kg {op:Op} (hc:cls op=0) {fr:Tr} {v:AV} {h':Heap} (hev:evOp E call op fr h=.ok v h') (h₂:Heap):h'=h∧evOp E call op fr h₂=.ok v h₂:=by
 cases op with
 | move x=>cases hev; exact ⟨rfl,rfl⟩
 | assign x=>cases hev; exact ⟨rfl,rfl⟩
 | pick c x y =>
  have hev:(opv E c fr).onBool Res.bad (fun t=>match t with | true=>Res.ok (opv E x fr) h | false=>Res.ok (opv E y fr) h)=Res.ok v h':=hev
  show _∧(opv E c fr).onBool Res.bad (fun t=>match t with | true=>Res.ok (opv E x fr) h₂ | false=>Res.ok (opv E y fr) h₂)=Res.ok v h₂
  cases hq:opv E c fr with
  | bool b=>rw [hq] at hev; cases b <;> (cases hev; exact ⟨rfl,rfl⟩)
  | _=>rw [hq] at hev; cases hev
 | binOp op t x y u=>exact J9 hev h₂
 | unOp op t x=>exact J9 hev h₂
 | convert s d x=>exact O3 (f:=fun h _=>onTI E d .bad fun td=>lift (O7 td.desc (opv E x fr)) h) (fun _ hx=>O3 (f:=fun h td=>lift (O7 td.desc (opv E x fr)) h) (fun _ hx=>J9 hx h₂) hx) hev
 | extract t i =>
  have hev:(opv E t fr).onTup Res.bad (fun vs=>lift (Ci vs i) h)=Res.ok v h':=hev
  show _∧(opv E t fr).onTup Res.bad (fun vs=>lift (Ci vs i) h₂)=Res.ok v h₂
  cases hq:opv E t fr with
  | tup vs=>rw [hq] at hev; exact J9 hev h₂
  | _=>rw [hq] at hev; cases hev
 | field t x f=>exact O3 (f:=fun h ti=>lift (A4 (fieldAt E ti f) fun p=>(opv E x fr).onAgg none fun cs=>partOf p.1 cs p.2) h) (fun _ hx=>J9 hx h₂) hev
 | fieldAddr t x f=>exact O3 (f:=fun h ti=>lift (A4 (fieldAt E ti f) fun p=>A8 (Nat.blt 0 p.1.size) (B4 (opv E x fr) p.2)) h) (fun _ hx=>J9 hx h₂) hev
 | indexAddr t x i=>exact O3 (f:=fun h ti=>lift (A4 (asNat (opv E i fr)) fun i=>O9 E ti.desc i (opv E x fr)) h) (fun _ hx=>J9 hx h₂) hev
 | index t x i=>exact O3 (f:=fun h ti=>lift (A4 (asNat (opv E i fr)) fun i=>Co E ti.desc i (opv E x fr)) h) (fun _ hx=>J9 hx h₂) hev
 | slice t x lo hi mx =>
  refine O3 (f:=fun h ti=>bif hi.isNone && mx.isSome then .bad else lift (sliceA E ti.desc (Jz E lo fr) (Jz E hi fr) (Jz E mx fr) (opv E x fr)) h) (fun _ hx=>?_) hev
  cases hb:(hi.isNone && mx.isSome) with
  | true=>rw [hb] at hx; cases hx
  | false=>rw [hb] at hx; exact J9 hx h₂
 | nilCheck x=>exact J9 hev h₂
 | build t ps=>exact O3 (f:=fun h ti=>lift (S4 E ti (opvps E ps.toList fr)) h) (fun _ hx=>J9 hx h₂) hev
 | makeInterface t x =>
  refine O3 (f:=fun h ti=>bif O8 ti.desc then .ok (.iface t (opv E x fr)) h else .bad) (fun ti hx=>?_) hev
  cases hb:O8 ti.desc with
  | true=>rw [hb] at hx; cases hx; exact ⟨rfl,rfl⟩
  | false=>rw [hb] at hx; cases hx
 | makeFunc f first caps=>cases hev; exact ⟨rfl,rfl⟩
 | call c =>
  exfalso
  obtain ⟨callee,args,argTypes⟩:=c
  cases callee with
  | builtin b=>cases b <;> cases hc
  | _=>cases hc
 | _=>cases hc
theorem cU {α:Type} {i:Nat} {d:α} {f:List AV->Nat->α} {h₂:Heap} (hg:h₂.get i=h.get i):h₂.onRow i d f=h.onRow i d f:=by unfold Heap.onRow; rw [hg]
theorem Zh {α:Type} {i:Nat} {d:α} {f:List (AV × AV)->α} {h₂:Heap} (hg:h₂.get i=h.get i):h₂.onMapo i d f=h.onMapo i d f:=by unfold Heap.onMapo; rw [hg]
theorem mD {x y:Option AV} {v:AV} {h h' h₂:Heap} (e:y=x) (hx:lift x h=.ok v h'):h'=h∧lift y h₂=.ok v h₂:=by
 subst e; exact J9 hx h₂
theorem cV {h₂:Heap} {t:TI} {x:AV} (hg:∀ i,Z7 x=some i->h₂.get i=h.get i):Bs t x h₂=Bs t x h:=by
 cases x with
 | ptr id i off=>exact cU (hg id rfl)
 | _=>rfl
theorem jE {h₂:Heap} {d:TD} {x:AV} (hg:∀ i,Z7 x=some i->h₂.get i=h.get i):cJ d x h₂=cJ d x h:=by
 cases d with
 | map k e =>
  cases x with
  | map id=>exact Zh (hg id rfl)
  | _=>rfl
 | _=>rfl
theorem map_lt {W:World} {cx:Cx} {u:Value} {id:Nat} (hx:Rep W cx u (.map id)):id < cx.nx:=by
 cases hx; assumption
theorem Pi {W:World} {cx:Cx} {u:Value} {x:AV} (hx:Rep W cx u x) {i:Nat} (hr:Z7 x=some i):i < cx.nx:=by
 cases x with
 | ptr id i off=>cases hr; exact hx.ptr_inv.1
 | map id=>cases hr; exact map_lt hx
 | _=>cases hr
theorem mE {W:World} {cx:Cx} {op:Op} {fr:Tr} (hy:∀ y∈op.operands.toList,∃ u,Rep W cx u (opv E y fr)) {i:Nat} (hr:readO E op fr=some i):i < cx.nx:=by
 cases op with
 | load t x=>obtain ⟨u,hu⟩:=hy x (by simp [Op.operands]); exact Pi hu hr
 | lookup t m k ok=>obtain ⟨u,hu⟩:=hy m (by simp [Op.operands]); exact Pi hu hr
 | call c =>
  obtain ⟨callee,args,argTypes⟩:=c
  have hr:(match args.toList with | []=>none | x :: _=>Z7 (opv E x fr))=some i:=hr
  cases hargs:args.toList with
  | nil=>rw [hargs] at hr; cases hr
  | cons a r =>
   rw [hargs] at hr
   obtain ⟨u,hu⟩:=hy a (by simp [Op.operands,Call.operands]; exact .inr (Array.mem_toList_iff.1 (by rw [hargs]; exact List.mem_cons_self ..)))
   exact Pi hu hr
 | _=>cases hr
theorem cW {op:Op} (hc:cls op=1) {fr:Tr} {h₂:Heap} (hg:∀ i,readO E op fr=some i->h₂.get i=h.get i) {v:AV} {h':Heap} (hev:evOp E call op fr h=.ok v h'):h'=h∧evOp E call op fr h₂=.ok v h₂:=by
 cases op with
 | load t x =>
  exact O3 (f:=fun h ti=>lift (Bs ti (opv E x fr) h) h) (fun ti hx=>mD (cV hg) hx) hev
 | lookup t m k ok=>cases hev
 | call c =>
  obtain ⟨callee,args,argTypes⟩:=c
  cases callee with
  | value f=>cases hc
  | invoke f n=>cases hc
  | builtin b =>
   have hev:lift2 (F0 E b argTypes.toList (opvs E args.toList fr) h)=.ok v h':=hev
   show _∧lift2 (F0 E b argTypes.toList (opvs E args.toList fr) h₂)=.ok v h₂
   have hrep:∀ x l,opvs E args.toList fr=x :: l->∀ i,Z7 x=some i->h₂.get i=h.get i:=by
    intro x l e i hi
    refine hg i ?_
    show (match args.toList with | []=>none | x :: _=>Z7 (opv E x fr))=some i
    cases hargs:args.toList with
    | nil=>rw [hargs] at e; cases e
    | cons a r =>
     rw [hargs] at e
     have e:opv E a fr :: opvs E r fr=x :: l:=e
     have:=(List.cons.inj e).1
     show Z7 (opv E a fr)=_
     rw [this]; exact hi
   cases b with
   | len =>
    have hev:lift2 (Sc E argTypes.toList (opvs E args.toList fr) h)=.ok v h':=hev
    show _∧lift2 (Sc E argTypes.toList (opvs E args.toList fr) h₂)=.ok v h₂
    unfold Sc at hev ⊢
    generalize argTypes.toList=ats at hev ⊢
    generalize opvs E args.toList fr=vs at hev hrep ⊢
    cases ats with
    | nil=>cases hev
    | cons t ts =>
     cases vs with
     | nil=>cases hev
     | cons x l =>
      have hu:=hrep x l rfl
      dsimp only at hev ⊢
      unfold onTI at hev ⊢
      generalize E.ti t=et at hev ⊢
      cases et with
      | none=>cases hev
      | some ti =>
       dsimp only at hev ⊢
       rw [jE hu]
       cases hl:cJ ti.desc x h with
       | none=>rw [hl] at hev; cases hev
       | some n =>
        rw [hl] at hev
        simp only [A4,B5,lift2] at hev ⊢
        cases hev; exact ⟨rfl,rfl⟩
   | max =>
    have hev:lift2 (iX (opvs E args.toList fr) h)=.ok v h':=hev
    show _∧lift2 (iX (opvs E args.toList fr) h₂)=.ok v h₂
    unfold iX at hev ⊢
    generalize opvs E args.toList fr=vs at hev ⊢
    cases vs with
    | nil=>cases hev
    | cons x l =>
     dsimp only at hev ⊢
     cases hm:Jw l x with
     | none=>rw [hm] at hev; cases hev
     | some r=>rw [hm] at hev; cases hev; exact ⟨rfl,rfl⟩
   | min =>
    have hev:lift2 (iY (opvs E args.toList fr) h)=.ok v h':=hev
    show _∧lift2 (iY (opvs E args.toList fr) h₂)=.ok v h₂
    unfold iY at hev ⊢
    generalize opvs E args.toList fr=vs at hev ⊢
    cases vs with
    | nil=>cases hev
    | cons x l =>
     dsimp only at hev ⊢
     cases hm:Mp l x with
     | none=>rw [hm] at hev; cases hev
     | some r=>rw [hm] at hev; cases hev; exact ⟨rfl,rfl⟩
   | _=>cases hc
 | _=>cases hc
end
end Go.AM
/-
 The abstract machine: new objects; what is left as it was.
-/
namespace Go.AM
section
variable {P:Program} {E:Env} {W:World} {cx:Cx} {h:Heap} {call:D1}
def uB (P:Program) (W:World) (cx:Cx) (s:Sem Next) (es:List AV) (sz:Nat) (nx:Nat->AV):Prop :=
 ∃ (c:Array Value) (t:TypeId) (vs:List Value) (v':Value),s.run P W=.ok (.value v') (W.alloc (.cells c t))∧RowRep W cx vs es sz∧(∀ (k:Nat) v,vs[k]?=some v->c[k]?=some v)∧es.length * sz≤c.size ∧
   ∀ (W₂:World) (cx₂:Cx) (id:Nat),cx₂.μ id=(W.heap.size,0,sz)->id < cx₂.nx->W.heap.size < W₂.heap.size->V3 W₂ W.heap.size=c.size->Rep W₂ cx₂ v' (nx id)
theorem Tp {v:Value} {a:AV} {sz:Nat} (hv:Rep W cx v a) (hok:Se v.cells.toList) (hu:a ≠ .und) (hz:a.cells.length=sz) (t:TypeId) {s:Sem Next} (hs:s.run P W=.ok (.value (.pointer (some ⟨W.heap.size,0,none⟩))) (W.alloc (.cells v.cells t))) :
 uB P W cx s [a] sz (fun id=>.ptr id 0 0):=by
 have hcs:=hv.cells hu
 refine ⟨v.cells,t,_,_,hs,RowRep.one hcs hok hz,fun k v hk=>by simpa using hk,by have:=hcs.1; simp at this ⊢; omega,fun W₂ cx₂ id h1 h2 h3 h4=>?_⟩
 have:=Rep.ptr (W:=W₂) (cx:=cx₂) id 0 0 h2 (by rw [h1]; exact h3)
 rw [h1] at this
 simpa using this
theorem mF (hE:EnvOk E P) (hs:Sat E W cx h) {a:Act} {fr:Tr} (hf:FrRep W cx a.tmps fr) (o:Oper) (hc:cls o.op=2) {v:AV} {h₁ h':Heap} (hev:evOp E call o.op fr h₁=.ok v h') :
 ∃ es sz nx,v=nx h₁.next∧h'=h₁.push (.row es sz)∧(∀ h₂,evOp E call o.op fr h₂=.ok (nx h₂.next) (h₂.push (.row es sz)))∧uB P W cx (execOp a.eval o) es sz nx:=by
 have ov:=fun x=>V6 (E:=E) hs hf x
 obtain ⟨dst,op,type,pos,after,guard⟩:=o
 cases op with
 | alloc t =>
  obtain ⟨ti,ht,hq⟩:=E3 hev
  have hty:=hE.ti t ti ht
  obtain ⟨z,hzr,hzo⟩:=hty.run_zero (W:=W)
  cases hq
  refine ⟨[ti.zero],ti.size,fun id=>.ptr id 0 0,rfl,rfl,fun h₂=>?_,Tp (hzo.rep W cx) hzo.one hzo.und hty.zsz t ?_⟩
  . show onTI E t .bad (fun ti=>cK ti.size ti.zero h₂)=_
    unfold onTI; rw [ht]; rfl
  . simp [execOp,Instr.alloc,hzr,newVar,newRow]
 | box t x =>
  obtain ⟨ti,ht,hq⟩:=E3 hev
  cases hg:(Nat.beq (lenL (opv E x fr).cells) ti.size && C8 (opv E x fr).cells) with
  | false=>rw [hg] at hq; cases hq
  | true =>
   rw [hg] at hq
   cases hq
   have hg0:=hg
   rw [Bool.and_eq_true,A3,F8] at hg
   have hu:opv E x fr ≠ .und:=fun e=>by
    have:=hg.2 .und (by rw [e]; simp [AV.cells])
    cases this
   refine ⟨[opv E x fr],ti.size,fun id=>.ptr id 0 0,rfl,rfl,fun h₂=>?_,Tp (ov x) (((ov x).cells hu).one hg.2) hu (beq_true hg.1) t ?_⟩
   . show onTI E t .bad (fun ti=>bif Nat.beq (lenL (opv E x fr).cells) ti.size && C8 (opv E x fr).cells then cK ti.size (opv E x fr) h₂ else .bad)=_
     unfold onTI; rw [ht]; dsimp only; rw [hg0]; rfl
   . simp [execOp,Instr.box,newVar,newRow]
 | buildSlice t n ps =>
  obtain ⟨ti,ht,hq⟩:=E3 hev
  cases hte:elemOfT E ti.desc with
  | none=>rw [hte] at hq; cases hq
  | some te =>
   rw [hte] at hq
   cases hg:(Nat.ble (Nat.mul n te.size) 65536 && Nat.blt 0 te.size) with
   | false=>simp only [hg] at hq; cases hq
   | true =>
    simp only [hg,cond_true] at hq
    cases hp:placeL te.size (opvps E ps.toList fr) (repL n te.zero) with
    | none=>rw [hp] at hq; cases hq
    | some es =>
     rw [hp] at hq
     cases hq
     obtain ⟨l1,l2⟩:=Ej hs hf ps.toList
     obtain ⟨e,c',h1,h2,h3,h4⟩:=Dd hE hs ht hte (ps:=ps.map fun p=>(p.1,a.eval p.2)) (by rw [j4]; exact l1) (by rw [j4]; exact l2) hg hp
     refine ⟨es,te.size,fun id=>.msl id 0 n te.size,rfl,rfl,fun h₂=>?_,c',e,c'.toList,.slice (some ⟨W.heap.size,0,none⟩) n n,?_,h2,fun k v hk=>by simpa using hk,by rw [h4,h3]; exact Nat.le_refl _,fun W₂ cx₂ id k1 k2 k3 k4=>?_⟩
     . show K5 E t n ps fr h₂=_
       unfold K5
       unfold onTI; rw [ht]; dsimp only; rw [hte]; dsimp only; rw [hg]; simp only [cond_true]; rw [hp]
     . show ((do pure (.value (← Instr.buildSlice t n (ps.map fun p=>(p.1,a.eval p.2))))):Sem Next).run P W=_
       simp only [Sem.run_bind,h1,Result.andThen_ok]; rfl
     . exact Wp k2 k1 k3 (Nat.le_refl _) (Nat.le_of_eq (by rw [k4,h3]))
 | makeSlice t l c =>
  obtain ⟨ti,ht,hq⟩:=E3 hev
  cases hte:elemOfT E ti.desc with
  | none=>rw [hte] at hq; cases hq
  | some te =>
   rw [hte] at hq
   dsimp only at hq
   cases hl:asNat (opv E l fr) with
   | none=>rw [hl] at hq; cases hq
   | some n =>
    rw [hl] at hq
    dsimp only at hq
    cases hm:asNat (opv E c fr) with
    | none=>rw [hm] at hq; cases hq
    | some m =>
     rw [hm] at hq
     dsimp only at hq
     cases hg:(Nat.ble n m && Nat.ble (Nat.mul m te.bytes) 140737488355328 && Nat.blt 0 te.size) with
     | false=>rw [hg] at hq; cases hq
     | true =>
      rw [hg] at hq
      cases hq
      obtain ⟨e,c',vs,h1,h2,h3,h4,h5⟩:=Sl hE hs ht hte (ov l) (ov c) hl hm hg
      refine ⟨repL n te.zero,te.size,fun id=>.msl id 0 n te.size,rfl,rfl,fun h₂=>?_,c',e,vs,.slice (some ⟨W.heap.size,0,none⟩) n m,?_,h2,h3,by rw [Z5,List.length_replicate,h5]; exact Nat.mul_le_mul_right _ h4,fun W₂ cx₂ id k1 k2 k3 k4=>?_⟩
      . show M8 E t l c fr h₂=_
        unfold M8
        unfold onTI; rw [ht]; dsimp only; rw [hte]; dsimp only; rw [hl]; dsimp only; rw [hm]; dsimp only; rw [hg]; rfl
      . show ((do pure (.value (← Instr.makeSlice t (a.eval l) (a.eval c)))):Sem Next).run P W=_
        simp only [Sem.run_bind,h1,Result.andThen_ok]; rfl
      . exact Wp k2 k1 k3 h4 (Nat.le_of_eq (by rw [k4,h5]))
 | call c =>
  exfalso
  obtain ⟨callee,args,argTypes⟩:=c
  cases callee with
  | builtin b=>cases b <;> cases hc
  | _=>cases hc
 | _=>cases hc
structure Pres (h h':Heap):Prop where
 next:h.next≤h'.next
 get:∃ new,h'.tch=new ++ h.tch∧∀ i,i < h.next->i ∉ new->h'.get i=h.get i
def Res.heap (r:Res):Option Heap:=match r with | .ok _ h=>some h | .pan _ h=>some h | .bad=>none
def M2 (call:D1):Prop:=∀ f l h h',Res.heap (call f l h)=some h'->Pres h h'
theorem Pres.refl (h:Heap):Pres h h:=⟨Nat.le_refl _,[],rfl,fun _ _ _=>rfl⟩
theorem Pres.trans {h h₁ h₂:Heap} (a:Pres h h₁) (b:Pres h₁ h₂):Pres h h₂:=by
 obtain ⟨a1,n1,a2,a3⟩:=a
 obtain ⟨b1,n2,b2,b3⟩:=b
 refine ⟨Nat.le_trans a1 b1,n2 ++ n1,by rw [b2,a2,List.append_assoc],fun i hi hn=>?_⟩
 rw [List.mem_append] at hn
 exact (b3 i (Nat.lt_of_lt_of_le hi a1) fun e=>hn (.inl e)).trans (a3 i hi fun e=>hn (.inr e))
theorem Pres.set (h:Heap) (i:Nat) (x:AObj):Pres h (h.set i x) :=
 ⟨Nat.le_refl _,[i],rfl,fun j _ hn=>Heap.get_set_ne h x (fun e=>hn (by simp [e]))⟩
theorem Pres.del (h:Heap) (i:Nat):Pres h (h.del i) :=
 ⟨Nat.le_refl _,[i],rfl,fun j _ hn=>Heap.get_del_ne h (fun e=>hn (by simp [e]))⟩
theorem Pres.push (h:Heap) (x:AObj):Pres h (h.push x) :=
 ⟨Nat.le_succ _,[],rfl,fun j hj _=>Heap.get_push_ne h x (Nat.ne_of_lt hj)⟩
theorem X9 {t:Nat} {f:TI->Res} {v:AV} {h':Heap} (hx:onTI E t .bad f=.ok v h') (hf:∀ x,f x=.ok v h'->Pres h h'):Pres h h':=by
 obtain ⟨ti,_,hx⟩:=E3 hx
 exact hf ti hx
theorem Tq {x:Option AV} {v:AV} {h':Heap} (hx:lift x h=.ok v h'):Pres h h':=by
 rw [(G1 hx).2]; exact .refl h
theorem Ib {te:TI} {s:AV} {xs:List AV} {r:AV} {h':Heap} (ha:G5 te s xs h=some (r,h')):Pres h h':=by
 unfold G5 at ha
 cases xs with
 | nil=>cases s <;> first | (cases ha; exact .refl h) | cases ha
 | cons x xs =>
  cases s with
  | nilsl =>
   have ha:s4 te [] true (x :: xs) h=some (r,h'):=ha
   rw [Gk] at ha
   rw [B5] at ha
   obtain ⟨_,ha⟩:=A7 ha
   cases ha; exact .push _ _
  | fsl es full =>
   have ha:s4 te es full (x :: xs) h=some (r,h'):=ha
   rw [Gk] at ha
   rw [B5] at ha
   obtain ⟨_,ha⟩:=A7 ha
   cases ha; exact .push _ _
  | msl id off n sz =>
   obtain ⟨es,sz',_,ha⟩:=Heap.onRow_some ha
   rw [Oz] at ha
   rw [B5] at ha
   obtain ⟨_,ha⟩:=A7 ha
   cases ha; exact (Pres.del h id).trans (.push _ _)
  | _=>cases ha
theorem builtinA_pres {b:Builtin} {ts:List TypeId} {args:List AV} {r:AV} {h':Heap} (hb:F0 E b ts args h=some (r,h')):Pres h h':=by
 cases b with
 | append =>
  have hb:Hq E ts args h=some (r,h'):=hb
  unfold Hq at hb
  cases ts with
  | nil=>cases hb
  | cons t ts =>
   cases ts with
   | nil=>cases hb
   | cons tx ts =>
    cases args with
    | nil=>cases hb
    | cons s l =>
     cases l with
     | nil=>cases hb
     | cons x l =>
      obtain ⟨ti,_,hb⟩:=F1 hb
      obtain ⟨te,_,hb⟩:=A1 hb
      obtain ⟨_,hb⟩:=A7 hb
      obtain ⟨tix,_,hb⟩:=F1 hb
      have key:A4 (elems x h) (fun xs=>A8 (I9 te.size xs) (G5 te s xs h))=some (r,h')->Pres h h':=fun hb=>by
       obtain ⟨xs,_,hb⟩:=A1 hb
       obtain ⟨_,hb⟩:=A7 hb
       exact Ib hb
      cases hd:tix.desc with
      | int k =>
       rw [hd] at hb
       obtain ⟨n,_,hb⟩:=A1 hb
       obtain ⟨_,hb⟩:=A7 hb
       exact Ib hb
      | _=>rw [hd] at hb; exact key hb
 | len =>
  have hb:Sc E ts args h=some (r,h'):=hb
  unfold Sc at hb
  cases ts with
  | nil=>cases hb
  | cons t ts =>
   cases args with
   | nil=>cases hb
   | cons x l =>
    obtain ⟨ti,_,hb⟩:=F1 hb
    obtain ⟨n,_,hb⟩:=A1 hb
    rw [B5] at hb
    cases hb; exact .refl _
 | max =>
  cases args with
  | nil=>cases hb
  | cons x l =>
   obtain ⟨y,_,hb⟩:=Option.map_eq_some_iff.1 (show (Jw l x).map (·,h)=some (r,h') from hb)
   cases hb; exact .refl _
 | min =>
  cases args with
  | nil=>cases hb
  | cons x l =>
   obtain ⟨y,_,hb⟩:=Option.map_eq_some_iff.1 (show (Mp l x).map (·,h)=some (r,h') from hb)
   cases hb; exact .refl _
 | _=>cases hb
theorem evOp_pres (hcall:M2 call) {op:Op} {fr:Tr} {v:AV} {h':Heap} (hev:evOp E call op fr h=.ok v h'):Pres h h':=by
 by_cases h0:cls op=0
 . rw [(Kg h0 hev h).1]; exact .refl _
 cases op with
 | alloc t=>exact X9 hev fun ti hx=>by cases hx; exact .push _ _
 | box t x =>
  refine X9 hev fun ti hx=>?_
  cases hb:(Nat.beq (lenL (opv E x fr).cells) ti.size && C8 (opv E x fr).cells) with
  | true=>rw [hb] at hx; cases hx; exact .push _ _
  | false=>rw [hb] at hx; cases hx
 | buildSlice t n ps =>
  refine X9 hev fun ti hx=>?_
  cases hte:elemOfT E ti.desc with
  | none=>rw [hte] at hx; cases hx
  | some te =>
   rw [hte] at hx
   dsimp only at hx
   cases hg:(Nat.ble (Nat.mul n te.size) 65536 && Nat.blt 0 te.size) with
   | false=>rw [hg] at hx; cases hx
   | true =>
    rw [hg] at hx
    simp only [cond_true] at hx
    cases hp:placeL te.size (opvps E ps.toList fr) (repL n te.zero) with
    | none=>rw [hp] at hx; cases hx
    | some es=>rw [hp] at hx; cases hx; exact .push _ _
 | load t x=>exact X9 hev fun ti hx=>Tq hx
 | typeAssert x xt t ok =>
  refine X9 hev fun ti hx=>?_
  cases hb:(O8 ti.desc && !ok) with
  | true=>rw [hb] at hx; exact Tq hx
  | false=>rw [hb] at hx; cases hx
 | lookup t m k ok=>cases hev
 | store t x y =>
  refine X9 hev fun ti hx=>?_
  cases hq:Av ti (opv E x fr) (opv E y fr) h with
  | none=>rw [hq] at hx; cases hx
  | some h2 =>
   rw [hq] at hx; cases hx
   cases hp:opv E x fr with
   | ptr id i off =>
    rw [hp] at hq
    obtain ⟨es,sz,_,hq⟩:=Heap.onRow_some hq
    obtain ⟨old,_,hq⟩:=A1 hq
    obtain ⟨_,hq⟩:=A7 hq
    cases hq; exact .set _ _ _
   | _=>rw [hp] at hq; cases hq
 | makeMap t r =>
  cases r with
  | none=>cases hev; exact .push _ _
  | some r=>cases hev
 | makeSlice t l c =>
  refine X9 hev fun ti hx=>?_
  cases hte:elemOfT E ti.desc with
  | none=>rw [hte] at hx; cases hx
  | some te =>
   rw [hte] at hx
   dsimp only at hx
   cases hl:asNat (opv E l fr) with
   | none=>rw [hl] at hx; cases hx
   | some n =>
    rw [hl] at hx
    dsimp only at hx
    cases hm:asNat (opv E c fr) with
    | none=>rw [hm] at hx; cases hx
    | some m =>
     rw [hm] at hx
     dsimp only at hx
     cases hg:(Nat.ble n m && Nat.ble (Nat.mul m te.bytes) 140737488355328 && Nat.blt 0 te.size) with
     | false=>rw [hg] at hx; cases hx
     | true=>rw [hg] at hx; cases hx; exact .push _ _
 | mapUpdate t m k x=>cases hev
 | insert t m k x=>cases hev
 | call c =>
  obtain ⟨callee,args,argTypes⟩:=c
  cases callee with
  | value f =>
   have hev:V4 call (opv E f fr) (opvs E args.toList fr) h=.ok v h':=hev
   cases hq:opv E f fr with
   | fn g first caps =>
    rw [hq] at hev
    cases g with
    | func n=>exact hcall _ _ _ _ (by show Res.heap (V4 call (.fn (.func n) first caps) (opvs E args.toList fr) h)=_; rw [hev]; rfl)
    | _=>cases hev
   | _=>rw [hq] at hev; cases hev
  | invoke f n=>cases hev
  | builtin b =>
   have hev:lift2 (F0 E b argTypes.toList (opvs E args.toList fr) h)=.ok v h':=hev
   cases hq:F0 E b argTypes.toList (opvs E args.toList fr) h with
   | none=>rw [hq] at hev; cases hev
   | some p=>rw [hq] at hev; cases hev; exact builtinA_pres hq
 | panic x =>
  exfalso
  have hev:jA (opv E x fr) h=.ok v h':=hev
  cases hq:opv E x fr <;> rw [hq] at hev <;> cases hev
 | _=>first | exact absurd rfl h0 | cases hev
theorem evOp_pres_pan (hcall:M2 call) {op:Op} {fr:Tr} {v:AV} {h':Heap} (hev:evOp E call op fr h=.pan v h'):Pres h h':=by
 by_cases hp:∃ x,op=.panic x
 . obtain ⟨x,rfl⟩:=hp
   have hev:jA (opv E x fr) h=.pan v h':=hev
   cases hq:opv E x fr with
   | iface t w=>rw [hq] at hev; cases hev; exact .refl h
   | _=>rw [hq] at hev; cases hev
 . by_cases hc:∃ c f,op=.call c∧c.callee=.value f
   . obtain ⟨c,f,rfl,hf⟩:=hc
     obtain ⟨callee,args,argTypes⟩:=c
     dsimp only at hf
     subst hf
     have hev:V4 call (opv E f fr) (opvs E args.toList fr) h=.pan v h':=hev
     cases hq:opv E f fr with
     | fn g first caps =>
      rw [hq] at hev
      cases g with
      | func n=>exact hcall _ _ _ _ (by show Res.heap (V4 call (.fn (.func n) first caps) (opvs E args.toList fr) h)=_; rw [hev]; rfl)
      | _=>cases hev
     | _=>rw [hq] at hev; cases hev
   . exact absurd hev (Ph (fun x e=>hp ⟨x,e⟩) (fun c f e e2=>hc ⟨c,f,e,e2⟩) v h')
end
end Go.AM
/-
 The abstract machine: a region that draws its order: the plan,and the run in the order of reference.
-/
namespace Go.AM
structure Plan (ops:Array Oper) (ms l:List Nat):Prop where
 len:l.length=ops.size
 lt:∀ (m i:Nat),l[m]?=some i->i < ops.size
 all:∀ (i:Nat),i < ops.size->∃ m:Nat,l[m]?=some i
 inj:∀ (m m' i:Nat),l[m]?=some i->l[m']?=some i->m=m'
 pair:∀ (m m' i j:Nat),m < m'->l[m]?=some i->l[m']?=some j->Vz ops.toList ms i j=true∧bit (ms.getD i 0) j=false
 mask:∀ (i j:Nat),i < ops.size->j < ops.size->bit (ms.getD j 0) i=true->∃ o,ops[j]?=some o∧∃ e∈directs o,e=i∨bit (ms.getD e 0) i=true
 news:∀ (m i:Nat) (o:Oper),l[m]?=some i->ops[i]?=some o->cls o.op=2->∀ (m' j:Nat),m < m'->l[m']?=some j->bit (ms.getD j 0) i=true->∀ (m'' k:Nat),m'' < m->l[m'']?=some k->bit (ms.getD j 0) k=true
 edge:∀ (j:Nat) (o:Oper) (e:Nat),ops[j]?=some o->e∈directs o->e < ops.size∧bit (ms.getD j 0) e=true∧e ≠ j
 dst:∀ (m m' i j:Nat) (x y:Oper) (d:Tmp),m < m'->l[m]?=some i->l[m']?=some j->ops[i]?=some x->ops[j]?=some y->x.dst=some d->y.dst ≠ some d
theorem Pj:∀ (l:List Nat),Wb l=true->∀ (m m':Nat) i,l[m]?=some i->l[m']?=some i->m=m'
 | [],_,m,m',i,h,_=>by simp at h
 | a :: r,hn,m,m',i,h,h'=>by
  unfold Wb at hn
  rw [Bool.and_eq_true] at hn
  have hc:a ∉ r:=by
   have:=hn.1
   simpa using this
  cases m with
  | zero =>
   cases m' with
   | zero=>rfl
   | succ m' =>
    simp at h h'
    subst h
    exact absurd (List.mem_of_getElem? h') hc
  | succ m =>
   cases m' with
   | zero =>
    simp at h h'
    subst h'
    exact absurd (List.mem_of_getElem? h) hc
   | succ m' =>
    simp at h h'
    rw [Pj r hn.2 m m' i h h']
theorem Mb {ops:List Oper} {ms:List Nat}:∀ (l:List Nat),Nq ops ms l=true->∀ (m m':Nat) i j,m < m'->l[m]?=some i->l[m']?=some j->Vz ops ms i j=true∧bit (ms.getD i 0) j=false
 | [],_,m,m',i,j,_,h,_=>by simp at h
 | a :: r,hn,m,m',i,j,hlt,h,h'=>by
  unfold Nq at hn
  rw [Bool.and_eq_true] at hn
  cases m' with
  | zero=>omega
  | succ m' =>
   simp at h'
   cases m with
   | zero =>
    simp at h
    subst h
    have:=(List.all_eq_true.1 hn.1) j (List.mem_of_getElem? h')
    rw [Bool.and_eq_true] at this
    exact ⟨this.1,by simpa using this.2⟩
   | succ m =>
    simp at h
    exact Mb r hn.2 m m' i j (by omega) h h'
theorem Pk {ops:List Oper}:∀ (l:List Nat),Wc ops l=true->∀ (m m':Nat) i j x y d,m < m'->l[m]?=some i->l[m']?=some j->ops[i]?=some x->ops[j]?=some y->x.dst=some d->y.dst ≠ some d
 | [],_,m,m',i,j,x,y,d,_,h,_,_,_,_=>by simp at h
 | a :: r,hn,m,m',i,j,x,y,d,hlt,h,h',hx,hy,hd=>by
  unfold Wc at hn
  rw [Bool.and_eq_true] at hn
  cases m' with
  | zero=>omega
  | succ m' =>
   simp at h'
   cases m with
   | zero =>
    simp at h
    subst h
    have:=(List.all_eq_true.1 hn.1) j (List.mem_of_getElem? h')
    rw [hx] at this
    dsimp only at this
    rw [hy] at this
    dsimp only at this
    rw [hd] at this
    simpa using this
   | succ m =>
    simp at h
    exact Pk r hn.2 m m' i j x y d (by omega) h h' hx hy hd
theorem Pl {ops:List Oper} {ms:List Nat}:∀ (l ahead:List Nat),Wa ops ms ahead l=true->∀ (m:Nat) i o,l[m]?=some i->ops[i]?=some o->cls o.op=2->∀ m' j,m < m'->l[m']?=some j->bit (ms.getD j 0) i=true ->
 (∀ k∈ahead,bit (ms.getD j 0) k=true)∧∀ m'' k,m'' < m->l[m'']?=some k->bit (ms.getD j 0) k=true
 | [],_,_,m,i,o,h,_,_,_,_,_,_,_=>by simp at h
 | a :: r,ahead,hn,m,i,o,h,ho,hc,m',j,hlt,h',hb=>by
  unfold Wa at hn
  rw [Bool.and_eq_true] at hn
  cases m' with
  | zero=>omega
  | succ m' =>
   simp at h'
   cases m with
   | zero =>
    simp at h
    subst h
    have h1:=hn.1
    have hcl:clsAt ops a=2:=by unfold clsAt; rw [ho]; exact hc
    rw [hcl] at h1
    have h2:(r.all fun j=>!(bit (ms.getD j 0) a) || ahead.all fun i=>bit (ms.getD j 0) i)=true:=by simpa using h1
    have:=(List.all_eq_true.1 h2) j (List.mem_of_getElem? h')
    rw [hb] at this
    have h3:(ahead.all fun i=>bit (ms.getD j 0) i)=true:=by simpa using this
    exact ⟨fun k hk=>(List.all_eq_true.1 h3) k hk,fun m'' k hm=>absurd hm (Nat.not_lt_zero _)⟩
   | succ m =>
    simp at h
    obtain ⟨h4,h5⟩:=Pl r (a :: ahead) hn.2 m i o h ho hc m' j (by omega) h' hb
    refine ⟨fun k hk=>h4 k (List.mem_cons_of_mem _ hk),fun m'' k hm hk=>?_⟩
    cases m'' with
    | zero=>simp at hk; subst hk; exact h4 _ (List.mem_cons_self ..)
    | succ m''=>simp at hk; exact h5 m'' k (by omega) hk
theorem qY {ops:Array Oper} {ms l:List Nat} (h:Ka ops.toList ms l=true):Plan ops ms l:=by
 unfold Ka at h
 simp only [Bool.and_eq_true] at h
 obtain ⟨⟨⟨⟨⟨⟨h1,h2⟩,h3⟩,h4⟩,h5⟩,h6⟩,h7⟩:=h
 unfold lT at h1
 simp only [Bool.and_eq_true] at h1
 obtain ⟨⟨⟨a1,a2⟩,a3⟩,a4⟩:=h1
 have hlen:l.length=ops.size:=by have:=beq_true a1; simpa using this
 have hlt:∀ (m i:Nat),l[m]?=some i->i < ops.size:=fun m i hm=>by
  have:=H3 ((List.all_eq_true.1 a3) i (List.mem_of_getElem? hm)); simpa using this
 refine ⟨hlen,hlt,fun i hi=>?_,fun m m' i=>Pj l a4 m m' i,fun m m' i j=>Mb l h2 m m' i j,fun i j hi hj hb=>?_,fun m i o hm ho hc m' j hlt' hm' hb m'' k hk hk'=>?_,fun j o e ho he=>?_,fun m m' i j x y d hlt' hm hm' hx hy hd=>?_⟩
 . have:=(List.all_eq_true.1 a2) i (by unfold Mq; simp; exact hi)
   have hm:i∈l:=by simpa using this
   exact List.getElem?_of_mem hm
 . unfold eZ at h3
   have h8:=(List.all_eq_true.1 h3) j (by unfold Mq; simp; exact hj)
   have h9:=(List.all_eq_true.1 h8) i (by unfold Mq; simp; exact hi)
   rw [hb] at h9
   cases ho:ops[j]? with
   | none =>
    rw [Array.getElem?_toList,ho] at h9; simp at h9
   | some o =>
    rw [Array.getElem?_toList,ho] at h9
    have h9:((directs o).any fun e=>Nat.beq e i || bit (ms.getD e 0) i)=true:=by simpa using h9
    obtain ⟨e,he,h10⟩:=List.any_eq_true.1 h9
    rw [Bool.or_eq_true] at h10
    exact ⟨o,rfl,e,he,h10.imp (fun x=>beq_true x) id⟩
 . exact (Pl l [] h4 m i o hm (by rw [Array.getElem?_toList]; exact ho) hc m' j hlt' hm' hb).2 m'' k hk hk'
 . have hj:j < ops.size:=by
    rcases Nat.lt_or_ge j ops.size with h' | h'
    . exact h'
    . rw [Array.getElem?_eq_none h'] at ho; cases ho
   unfold fA at h6
   have h8:=(List.all_eq_true.1 h6) j (by unfold Mq; simp; exact hj)
   rw [Array.getElem?_toList,ho] at h8
   have h9:=(List.all_eq_true.1 h8) e he
   simp only [Bool.and_eq_true,Bool.not_eq_true'] at h9
   obtain ⟨⟨b1,b2⟩,b3⟩:=h9
   refine ⟨by have:=H3 b1; simpa using this,b2,fun e'=>?_⟩
   rw [e'] at b3; simp at b3
 . exact Pk l h7 m m' i j x y d hlt' hm hm' (by rw [Array.getElem?_toList]; exact hx) (by rw [Array.getElem?_toList]; exact hy) hd
theorem Plan.apart {ops:Array Oper} {ms l:List Nat} (hp:Plan ops ms l) {m m' i j:Nat} {x y:Oper} (hlt:m < m') (hm:l[m]?=some i) (hm':l[m']?=some j) (hx:ops[i]?=some x) (hy:ops[j]?=some y) (hb:bit (ms.getD j 0) i=false) :
 cls y.op ≠ 3∧(∀ d,x.dst=some d->d ∉ AM.looksAt ops.toList y)∧(∀ d,y.dst=some d->d ∉ AM.looksAt ops.toList x):=by
 have h:=(hp.pair m m' i j hlt hm hm').1
 unfold Vz at h
 rw [hb] at h
 simp only [Bool.false_or,Bool.and_eq_true,Bool.not_eq_true'] at h
 obtain ⟨h1,h2⟩:=h
 unfold clsAt at h1
 rw [Array.getElem?_toList,hy] at h1
 unfold apartAt at h2
 rw [Array.getElem?_toList,hx] at h2
 dsimp only at h2
 rw [Array.getElem?_toList,hy] at h2
 dsimp only at h1 h2
 unfold lR at h2
 rw [Bool.and_eq_true] at h2
 refine ⟨fun e=>(by rw [e] at h1; cases h1),fun d hd hm=>?_,fun d hd hm=>?_⟩
 . have h3:=h2.1
   rw [hd] at h3
   dsimp only at h3
   rw [Bool.and_eq_true] at h3
   have:((AM.looksAt ops.toList y).contains d)=true:=by simpa using hm
   rw [this] at h3
   cases h3.1
 . have h3:=h2.2
   rw [hd] at h3
   have:((AM.looksAt ops.toList x).contains d)=true:=by simpa using hm
   dsimp only at h3
   rw [this] at h3
   cases h3
section
variable (E:Env) (call:D1)
abbrev HD:=Heap × List Nat
def uC (r:DRes):Option (AV × HD):=match r with | .ok v h d=>some (v,h,d) | _=>none
noncomputable def stp (x:XOp) (fr:Tr) (h:HD):Option (AV × HD) :=
 match guardOk x.gd fr with
 | none=>none
 | some b=>match b with | false=>some (skipped,h) | true=>uC (evOpD E call x fr h.1 h.2)
noncomputable def zS (x:XOp) (s:Tr × HD):Option (Tr × HD):=A4 (stp E call x s.1 s.2) fun r=>some (setDst x.dst r.1 s.1,r.2)
noncomputable def St (xs:List XOp) (s₀:Tr × HD):Nat->Option (Tr × HD)
 | 0=>some s₀
 | m + 1=>A4 (St xs s₀ m) fun s=>A4 xs[m]? fun x=>zS E call x s
end
section
variable {E:Env} {call:D1} {xs:List XOp} {s₀:Tr × HD}
theorem Wl {m:Nat} {s:Tr × HD} (h:St E call xs s₀ (m + 1)=some s):∃ s' x r,St E call xs s₀ m=some s'∧xs[m]?=some x∧stp E call x s'.1 s'.2=some r∧s=(setDst x.dst r.1 s'.1,r.2):=by
 obtain ⟨s',h1,h⟩:=A1 h
 obtain ⟨x,h2,h⟩:=A1 h
 obtain ⟨r,h3,h⟩:=A1 h
 exact ⟨s',x,r,h1,h2,h3,(Option.some.inj h).symm⟩
theorem Ts {m:Nat} {s':Tr × HD} {x:XOp} {r:AV × HD} (h1:St E call xs s₀ m=some s') (h2:xs[m]?=some x) (h3:stp E call x s'.1 s'.2=some r):St E call xs s₀ (m + 1)=some (setDst x.dst r.1 s'.1,r.2):=by
 show A4 (St E call xs s₀ m) _=_
 rw [h1]; show A4 xs[m]? _=_
 rw [h2]; show A4 (stp E call x s'.1 s'.2) _=_
 rw [h3]; rfl
theorem uD {m:Nat} {s:Tr × HD} (h:St E call xs s₀ m=some s):∀ {k:Nat},k≤m->∃ s',St E call xs s₀ k=some s':=by
 induction m generalizing s with
 | zero=>intro k hk; rw [Nat.le_zero.1 hk]; exact ⟨s,h⟩
 | succ m ih =>
  intro k hk
  rcases Nat.lt_or_ge k (m + 1) with h' | h'
  . obtain ⟨s',_,_,h1,_⟩:=Wl h
    exact ih h1 (by omega)
  . have:k=m + 1:=by omega
    subst this; exact ⟨s,h⟩
theorem run_cases:∀ (n k:Nat),xs.length - k=n->k≤xs.length->∀ (fr:Tr) (h:HD),St E call xs s₀ k=some (fr,h)->evOpsD E call (xs.drop k) fr h.1 h.2 ≠ .bad ->
 (∃ fr' h',St E call xs s₀ xs.length=some (fr',h')∧evOpsD E call (xs.drop k) fr h.1 h.2=.ok .normal fr' h'.1) ∨
   ∃ m x fr' h' v hh,k≤m∧St E call xs s₀ m=some (fr',h')∧xs[m]?=some x∧guardOk x.gd fr'=some true∧evOpD E call x fr' h'.1 h'.2=.pan v hh∧X0 E call (xs.drop (m + 1)) x.late (setDst x.dst skipped fr') h'.1 h'.2=true∧evOpsD E call (xs.drop k) fr h.1 h.2=.pan v hh
 | 0,k,hn,hk,fr,h,hs,hb=>by
  have:k=xs.length:=by omega
  subst this
  exact .inl ⟨fr,h,hs,by rw [List.drop_length]; rfl⟩
 | n + 1,k,hn,hk,fr,h,hs,hb=>by
  have hlt:k < xs.length:=by omega
  have hd:xs.drop k=xs[k] :: xs.drop (k + 1):=List.drop_eq_getElem_cons hlt
  have hx:xs[k]?=some xs[k]:=List.getElem?_eq_getElem hlt
  rw [hd] at hb ⊢
  have e:evOpsD E call (xs[k] :: xs.drop (k + 1)) fr h.1 h.2=Q5 (guardOk xs[k].gd fr) .bad (N3 xs[k].dst (evOpsD E call (xs.drop (k + 1))) (X0 E call (xs.drop (k + 1)) xs[k].late (setDst xs[k].dst skipped fr) h.1 h.2) fr (evOpD E call xs[k] fr h.1 h.2)) (evOpsD E call (xs.drop (k + 1)) (setDst xs[k].dst skipped fr) h.1 h.2):=rfl
  rw [e] at hb ⊢
  cases hg:guardOk xs[k].gd fr with
  | none=>rw [hg] at hb; exact absurd rfl hb
  | some b =>
   rw [hg] at hb
   cases b with
   | false =>
    have hstp:stp E call xs[k] fr h=some (skipped,h):=by unfold stp; rw [hg]
    have hs':=Ts hs hx hstp
    have hb:evOpsD E call (xs.drop (k + 1)) (setDst xs[k].dst skipped fr) h.1 h.2 ≠ .bad:=hb
    rcases run_cases n (k + 1) (by omega) hlt _ _ hs' hb with ⟨fr',h',h1,h2⟩ | ⟨m,x,fr',h',v,hh,h1,h2,h3,h4,h5,h6,h7⟩
    . exact .inl ⟨fr',h',h1,h2⟩
    . exact .inr ⟨m,x,fr',h',v,hh,by omega,h2,h3,h4,h5,h6,h7⟩
   | true =>
    have hb:N3 xs[k].dst (evOpsD E call (xs.drop (k + 1))) (X0 E call (xs.drop (k + 1)) xs[k].late (setDst xs[k].dst skipped fr) h.1 h.2) fr (evOpD E call xs[k] fr h.1 h.2) ≠ .bad:=hb
    show (∃ fr' h',_∧N3 xs[k].dst (evOpsD E call (xs.drop (k + 1))) (X0 E call (xs.drop (k + 1)) xs[k].late (setDst xs[k].dst skipped fr) h.1 h.2) fr (evOpD E call xs[k] fr h.1 h.2)=_)∨∃ m x fr' h' v hh,k≤m∧_∧_∧_∧_∧_∧N3 xs[k].dst (evOpsD E call (xs.drop (k + 1))) (X0 E call (xs.drop (k + 1)) xs[k].late (setDst xs[k].dst skipped fr) h.1 h.2) fr (evOpD E call xs[k] fr h.1 h.2)=_
    cases hev:evOpD E call xs[k] fr h.1 h.2 with
    | bad=>rw [hev] at hb; exact absurd rfl hb
    | pan v hh =>
     rw [hev] at hb
     cases hw:X0 E call (xs.drop (k + 1)) xs[k].late (setDst xs[k].dst skipped fr) h.1 h.2 with
     | false=>rw [hw] at hb; exact absurd rfl hb
     | true=>exact .inr ⟨k,xs[k],fr,h,v,hh,Nat.le_refl _,hs,hx,hg,hev,hw,rfl⟩
    | ok v h1 d1 =>
     rw [hev] at hb
     have hstp:stp E call xs[k] fr h=some (v,h1,d1):=by unfold stp; rw [hg]; dsimp only; rw [hev]; rfl
     have hs':=Ts hs hx hstp
     have hb:evOpsD E call (xs.drop (k + 1)) (setDst xs[k].dst v fr) h1 d1 ≠ .bad:=hb
     rcases run_cases n (k + 1) (by omega) hlt _ _ hs' hb with ⟨fr',h',h1,h2⟩ | ⟨m,x,fr',h',v,hh,h1,h2,h3,h4,h5,h6,h7⟩
     . exact .inl ⟨fr',h',h1,h2⟩
     . exact .inr ⟨m,x,fr',h',v,hh,by omega,h2,h3,h4,h5,h6,h7⟩
end
theorem Tt {ops:List Oper} {ms ahead:List Nat} {a:Nat} {r:List Nat} {oa:Oper} (hoa:ops[a]?=some oa) :
 xops ops ms ahead (a :: r)=Wd ops (V5 ops ms a r) (Gi ops ms a r) (U4 ops ms a ahead) oa :: xops ops ms (a :: ahead) r:=by
 show (match ops[a]? with | some o=>[Wd ops (V5 ops ms a r) (Gi ops ms a r) (U4 ops ms a ahead) o] | none=>[]) ++ xops ops ms (a :: ahead) r=_
 rw [hoa]; rfl
theorem Zi {ops:List Oper} {ms:List Nat}:∀ (l ahead:List Nat),(∀ i∈l,∃ o,ops[i]?=some o)->∀ (m i:Nat) o,l[m]?=some i->ops[i]?=some o ->
 (xops ops ms ahead l)[m]?=some (Wd ops (V5 ops ms i (l.drop (m + 1))) (Gi ops ms i (l.drop (m + 1))) (U4 ops ms i ((l.take m).reverse ++ ahead)) o)
 | [],_,_,m,i,o,h,_=>by simp at h
 | a :: r,ahead,hl,m,i,o,h,ho=>by
  obtain ⟨oa,hoa⟩:=hl a (List.mem_cons_self ..)
  rw [Tt hoa]
  cases m with
  | zero=>simp at h; subst h; rw [hoa] at ho; cases ho; rfl
  | succ m =>
   simp at h
   have:=Zi (ms:=ms) r (a :: ahead) (fun i hi=>hl i (List.mem_cons_of_mem _ hi)) m i o h ho
   simpa using this
theorem Mc {ops:List Oper} {ms:List Nat}:∀ (l ahead:List Nat),(∀ i∈l,∃ o,ops[i]?=some o)->(xops ops ms ahead l).length=l.length
 | [],_,_=>rfl
 | a :: r,ahead,hl=>by
  obtain ⟨oa,hoa⟩:=hl a (List.mem_cons_self ..)
  rw [Tt hoa,List.length_cons,List.length_cons,Mc r (a :: ahead) fun i hi=>hl i (List.mem_cons_of_mem _ hi)]
structure PlanX (ops:Array Oper) (ms l:List Nat) (sk:Nat->Prop) (xs:List XOp):Prop extends Plan ops ms l where
 xlen:xs.length=l.length
 xat:∀ (m i:Nat) (o:Oper),l[m]?=some i->ops[i]?=some o->∃ x,xs[m]?=some x∧x.dst=o.dst∧x.op=o.op∧x.quiet=V5 ops.toList ms i (l.drop (m + 1))∧x.careful=U4 ops.toList ms i ((l.take m).reverse ++ [])∧(¬ sk m->x.gd=F5 ops.toList o)
theorem Plan.have {ops:Array Oper} {ms l:List Nat} (hp:Plan ops ms l):∀ i∈l,∃ o,ops.toList[i]?=some o:=by
 intro i hi
 obtain ⟨m,hm⟩:=List.getElem?_of_mem hi
 have:=hp.lt m i hm
 exact ⟨ops[i],by rw [Array.getElem?_toList]; exact Array.getElem?_eq_getElem this⟩
theorem Plan.xget {ops:Array Oper} {ms l:List Nat} (hp:Plan ops ms l) {m i:Nat} {o:Oper} (hm:l[m]?=some i) (ho:ops[i]?=some o) :
 (xops ops.toList ms [] l)[m]?=some (Wd ops.toList (V5 ops.toList ms i (l.drop (m + 1))) (Gi ops.toList ms i (l.drop (m + 1))) (U4 ops.toList ms i ((l.take m).reverse ++ [])) o) :=
 Zi l [] hp.have m i o hm (by rw [Array.getElem?_toList]; exact ho)
def Zj (x:XOp):XOp:={ x with gd:=some (none,true) }
def Wm:List XOp->List Bool->List XOp
 | [],_=>[]
 | x :: xs,[]=>x :: xs
 | x :: xs,b :: bs=>(match b with | true=>Zj x | false=>x) :: Wm xs bs
theorem Pm:∀ (xs:List XOp) (bs:List Bool),(Wm xs bs).length=xs.length
 | [],bs=>by cases bs <;> rfl
 | x :: xs,[]=>rfl
 | x :: xs,b :: bs=>by show (Wm xs bs).length + 1=_; rw [Pm xs bs]; rfl
theorem Zk:∀ (xs:List XOp) (bs:List Bool) (m:Nat) (x:XOp),xs[m]?=some x->(Wm xs bs)[m]?=some (if bs[m]?=some true then Zj x else x)
 | [],bs,m,x,h=>by simp at h
 | y :: xs,[],m,x,h=>by simpa [Wm] using h
 | y :: xs,b :: bs,0,x,h=>by
  simp at h; subst h
  cases b <;> rfl
 | y :: xs,b :: bs,m + 1,x,h=>by
  have:=Zk xs bs m x (by simpa using h)
  simpa [Wm] using this
section
variable {E:Env} {call:D1}
theorem jF (x:XOp) (fr:Tr) (h:HD):stp E call (Zj x) fr h=some (skipped,h):=rfl
theorem Zl {xs ys:List XOp} {s₀:Tr × HD}:∀ (m:Nat),(∀ q,q < m->ys[q]?=xs[q]?)->St E call ys s₀ m=St E call xs s₀ m
 | 0,_=>rfl
 | m + 1,h=>by
  show A4 (St E call ys s₀ m) _=A4 (St E call xs s₀ m) _
  rw [Zl m fun q hq=>h q (by omega),h m (by omega)]
theorem mG {ys:List XOp} {s₀:Tr × HD}:∀ (xs:List XOp) (late:List Bool) (k:Nat) (fr:Tr) (h:HD),X0 E call xs late fr h.1 h.2=true->(∀ (q:Nat) (x:XOp),xs[q]?=some x->ys[k + q]?=some (if late[q]?=some true then Zj x else x)) ->
 St E call ys s₀ k=some (fr,h)->∃ s,St E call ys s₀ (k + xs.length)=some s:=fun _ _ _ _ _ hv _ _=>by cases hv
end
end Go.AM
/-
 The abstract machine: a region that draws its order: what holds between its operations.
-/
namespace Go.AM
structure Keeps (h h':Heap):Prop where
 next:h.next≤h'.next
 get:∀ i,i < h.next->h'.get i=h.get i
theorem Keeps.refl (h:Heap):Keeps h h:=⟨Nat.le_refl _,fun _ _=>rfl⟩
theorem Keeps.trans {h h₁ h₂:Heap} (a:Keeps h h₁) (b:Keeps h₁ h₂):Keeps h h₂:=⟨Nat.le_trans a.next b.next,fun i hi=>(b.get i (Nat.lt_of_lt_of_le hi a.next)).trans (a.get i hi)⟩
theorem Keeps.push (h:Heap) (x:AObj):Keeps h (h.push x):=⟨Nat.le_succ _,fun i hi=>Heap.get_push_ne h x (Nat.ne_of_lt hi)⟩
section
variable {E:Env} {call:D1} {h:Heap}
theorem jG {op:Op} (hc:cls op=1) {fr:Tr} {v:AV} {h':Heap} (hev:evOp E call op fr h=.ok v h'):h'=h:=by
 cases op with
 | load t x=>obtain ⟨ti,_,hq⟩:=E3 hev; exact (G1 hq).2
 | lookup t m k ok=>cases hev
 | call c =>
  obtain ⟨callee,args,argTypes⟩:=c
  cases callee with
  | value f=>cases hc
  | invoke f n=>cases hc
  | builtin b =>
   have hev:lift2 (F0 E b argTypes.toList (opvs E args.toList fr) h)=.ok v h':=hev
   cases hq:F0 E b argTypes.toList (opvs E args.toList fr) h with
   | none=>rw [hq] at hev; cases hev
   | some p =>
    rw [hq] at hev
    cases hev
    obtain ⟨p1,p2⟩:=p
    cases b with
    | len =>
     have hb:Sc E argTypes.toList (opvs E args.toList fr) h=some (p1,p2):=hq
     unfold Sc at hb
     generalize argTypes.toList=ats at hb
     generalize opvs E args.toList fr=vs at hb
     cases ats with
     | nil=>cases hb
     | cons t ts =>
      cases vs with
      | nil=>cases hb
      | cons x l =>
       obtain ⟨ti,_,hb⟩:=F1 hb
       obtain ⟨n,_,hb⟩:=A1 hb
       rw [B5] at hb
       cases hb; rfl
    | max =>
     have hb:iX (opvs E args.toList fr) h=some (p1,p2):=hq
     unfold iX at hb
     generalize opvs E args.toList fr=vs at hb
     cases vs with
     | nil=>cases hb
     | cons x l =>
      obtain ⟨y,_,hb⟩:=Option.map_eq_some_iff.1 hb
      cases hb; rfl
    | min =>
     have hb:iY (opvs E args.toList fr) h=some (p1,p2):=hq
     unfold iY at hb
     generalize opvs E args.toList fr=vs at hb
     cases vs with
     | nil=>cases hb
     | cons x l =>
      obtain ⟨y,_,hb⟩:=Option.map_eq_some_iff.1 hb
      cases hb; rfl
    | _=>cases hc
 | _=>cases hc
theorem jH {op:Op} (hc:cls op=2) {fr:Tr} {v:AV} {h':Heap} (hev:evOp E call op fr h=.ok v h'):∃ x,h'=h.push x:=by
 cases op with
 | alloc t=>obtain ⟨ti,_,hx⟩:=E3 hev; cases hx; exact ⟨_,rfl⟩
 | box t x =>
  obtain ⟨ti,_,hx⟩:=E3 hev
  cases hb:(Nat.beq (lenL (opv E x fr).cells) ti.size && C8 (opv E x fr).cells) with
  | true=>rw [hb] at hx; cases hx; exact ⟨_,rfl⟩
  | false=>rw [hb] at hx; cases hx
 | buildSlice t n ps =>
  obtain ⟨ti,_,hx⟩:=E3 hev
  cases hte:elemOfT E ti.desc with
  | none=>rw [hte] at hx; cases hx
  | some te =>
   rw [hte] at hx
   dsimp only at hx
   cases hg:(Nat.ble (Nat.mul n te.size) 65536 && Nat.blt 0 te.size) with
   | false=>rw [hg] at hx; cases hx
   | true =>
    rw [hg] at hx
    simp only [cond_true] at hx
    cases hp:placeL te.size (opvps E ps.toList fr) (repL n te.zero) with
    | none=>rw [hp] at hx; cases hx
    | some es=>rw [hp] at hx; cases hx; exact ⟨_,rfl⟩
 | makeSlice t l c =>
  obtain ⟨ti,_,hx⟩:=E3 hev
  cases hte:elemOfT E ti.desc with
  | none=>rw [hte] at hx; cases hx
  | some te =>
   rw [hte] at hx
   dsimp only at hx
   cases hl:asNat (opv E l fr) with
   | none=>rw [hl] at hx; cases hx
   | some n =>
    rw [hl] at hx
    dsimp only at hx
    cases hm:asNat (opv E c fr) with
    | none=>rw [hm] at hx; cases hx
    | some m =>
     rw [hm] at hx
     dsimp only at hx
     cases hg:(Nat.ble n m && Nat.ble (Nat.mul m te.bytes) 140737488355328 && Nat.blt 0 te.size) with
     | false=>rw [hg] at hx; cases hx
     | true=>rw [hg] at hx; cases hx; exact ⟨_,rfl⟩
 | call c =>
  exfalso
  obtain ⟨callee,args,argTypes⟩:=c
  cases callee with
  | builtin b=>cases b <;> cases hc
  | _=>cases hc
 | _=>cases hc
theorem cls_cases (op:Op):cls op=0∨cls op=1∨cls op=2∨cls op=3:=by
 cases op with
 | call c =>
  obtain ⟨callee,args,argTypes⟩:=c
  cases callee with
  | builtin b=>cases b <;> simp [cls]
  | _=>simp [cls]
 | _=>simp [cls]
theorem Pn {op:Op} (hc:cls op ≠ 3) {fr:Tr} {v:AV} {h':Heap} (hev:evOp E call op fr h=.ok v h'):Keeps h h':=by
 rcases cls_cases op with h0 | h0 | h0 | h0
 . rw [(Kg h0 hev h).1]; exact .refl _
 . rw [jG h0 hev]; exact .refl _
 . obtain ⟨x,rfl⟩:=jH h0 hev; exact .push _ _
 . exact absurd h0 hc
theorem Gq {r:DRes} {p:AV × HD} (h:uC r=some p):r=.ok p.1 p.2.1 p.2.2:=by
 cases r with
 | ok v h' d=>cases h; rfl
 | pan v h'=>cases h
 | bad=>cases h
theorem Po {i:Nat} {b:List Nat}:∀ {a:List Nat},i∈Cp a b ↔ i∈a∨i∈b
 | []=>by show i∈b ↔ _; simp
 | x :: a=>by
  show i∈x :: Cp a b ↔ _
  rw [List.mem_cons,Po (a:=a),List.mem_cons,or_assoc]
theorem S7 {i n:Nat}:∀ {l:List Nat},i∈K9 n l ↔ i∈l∧i < n
 | []=>by show i∈([]:List Nat) ↔ _; simp
 | x :: l=>by
  show i∈(bif Nat.blt x n then x :: K9 n l else K9 n l) ↔ _
  cases hb:Nat.blt x n with
  | true =>
   have:=H3 hb
   simp only [cond_true,List.mem_cons,S7 (l:=l)]
   constructor
   . rintro (rfl | h)
     . exact ⟨.inl rfl,this⟩
     . exact ⟨.inr h.1,h.2⟩
   . rintro ⟨rfl | h,h2⟩
     . exact .inl rfl
     . exact .inr ⟨h,h2⟩
  | false =>
   have hx:¬ x < n:=fun h=>by
    have:Nat.blt x n=true:=Nat.ble_eq_true_of_le h
    rw [hb] at this; cases this
   simp only [cond_false,List.mem_cons,S7 (l:=l)]
   constructor
   . rintro ⟨h1,h2⟩; exact ⟨.inr h1,h2⟩
   . rintro ⟨rfl | h,h2⟩
     . exact absurd h2 hx
     . exact ⟨h,h2⟩
theorem Tu {i:Nat}:∀ {l:List Nat},qB i l=false->i ∉ l
 | [],_=>by simp
 | x :: l,h=>by
  have h:(bif Nat.beq x i then true else qB i l)=false:=h
  cases hb:Nat.beq x i with
  | true=>rw [hb] at h; cases h
  | false =>
   rw [hb] at h
   have hne:x ≠ i:=fun e=>by rw [e] at hb; simp at hb
   intro hm
   rcases List.mem_cons.1 hm with h1 | h1
   . exact hne h1.symm
   . exact Tu (l:=l) h h1
theorem Ic {x:XOp} {fr:Tr} {v:AV} {h':Heap} {d d':List Nat} (hev:evOpD E call x fr h d=.ok v h' d') :
 ∃ t h₁ t',evOp E call x.op fr { h with tch:=t }=.ok v h₁∧h'={ h₁ with tch:=t' } ∧
   (x.quiet=true->t=[]∧t'=Cp (K9 h.next h₁.tch) h.tch∧d'=Cp (K9 h.next h₁.tch) d) ∧
   (x.quiet=false->t=h.tch∧t'=h₁.tch∧d'=d∧(x.careful=true->readOk (readO E x.op fr) d=true)):=by
 unfold evOpD at hev
 cases hq:x.quiet with
 | false =>
  rw [hq] at hev
  simp only [cond_false] at hev
  have key:plainD' d (evOp E call x.op fr h)=.ok v h' d'->evOp E call x.op fr h=.ok v h'∧d'=d:=fun hev=>by
   cases hr:evOp E call x.op fr h with
   | ok v1 h1=>rw [hr] at hev; cases hev; exact ⟨rfl,rfl⟩
   | pan v1 h1=>rw [hr] at hev; cases hev
   | bad=>rw [hr] at hev; cases hev
  cases hc:x.careful with
  | false =>
   rw [hc] at hev
   obtain ⟨h1,h2⟩:=key hev
   exact ⟨h.tch,h',h'.tch,h1,rfl,fun e=>(by cases e),fun _=>⟨rfl,rfl,h2,fun e=>(by cases e)⟩⟩
  | true =>
   rw [hc] at hev
   simp only [cond_true] at hev
   cases hro:readOk (readO E x.op fr) d with
   | false=>rw [hro] at hev; cases hev
   | true =>
    rw [hro] at hev
    obtain ⟨h1,h2⟩:=key hev
    exact ⟨h.tch,h',h'.tch,h1,rfl,fun e=>(by cases e),fun _=>⟨rfl,rfl,h2,fun _=>rfl⟩⟩
 | true =>
  rw [hq] at hev
  have hev:Cq h.next h.tch d (evOp E call x.op fr { h with tch:=[] })=.ok v h' d':=hev
  cases hr:evOp E call x.op fr { h with tch:=[] } with
  | ok v1 h1 =>
   rw [hr] at hev
   cases hev
   exact ⟨[],h1,_,hr,rfl,fun _=>⟨rfl,rfl,rfl⟩,fun e=>(by cases e)⟩
  | pan v1 h1=>rw [hr] at hev; cases hev
  | bad=>rw [hr] at hev; cases hev
theorem Zm {x:XOp} (hc:cls x.op ≠ 3) {fr:Tr} {v:AV} {h':Heap} {d d':List Nat} (hev:evOpD E call x fr h d=.ok v h' d'):Keeps h h':=by
 obtain ⟨t,h₁,t',h1,rfl,_⟩:=Ic hev
 have hk:=Pn hc h1
 exact ⟨hk.next,fun i hi=>hk.get i hi⟩
theorem cX (hpres:M2 call) {x:XOp} (hx:cls x.op=3->x.quiet=true) {fr:Tr} {v:AV} {h':Heap} {d d':List Nat} (hev:evOpD E call x fr h d=.ok v h' d') :
 h.next≤h'.next∧(∀ i,i∈d->i∈d')∧∀ i,i < h.next->i ∉ d'->h'.get i=h.get i:=by
 obtain ⟨t,h₁,t',h1,rfl,h2,h3⟩:=Ic hev
 have hd:∀ i,i∈d->i∈d':=fun i hi=>by
  cases hq:x.quiet with
  | true=>rw [(h2 hq).2.2]; exact Po.2 (.inr hi)
  | false=>rw [(h3 hq).2.2.1]; exact hi
 by_cases hc:cls x.op=3
 . obtain ⟨rfl,_,h4⟩:=h2 (hx hc)
   obtain ⟨hn,new,e,hg⟩:=evOp_pres hpres h1
   refine ⟨hn,hd,fun i hi hni=>hg i hi fun hm=>hni ?_⟩
   rw [h4]
   refine Po.2 (.inl (S7.2 ⟨?_,hi⟩))
   rw [e]; exact List.mem_append_left _ hm
 . have hk:=Pn hc h1
   exact ⟨hk.next,hd,fun i hi _=>hk.get i hi⟩
theorem Zn {fr fr':Tr} (op:Op) (hy:∀ y∈op.operands.toList,opv E y fr=opv E y fr'):readO E op fr=readO E op fr':=by
 cases op with
 | load t x=>show Z7 (opv E x fr)=Z7 (opv E x fr'); rw [hy x (by simp [Op.operands])]
 | lookup t m k ok=>show Z7 (opv E m fr)=Z7 (opv E m fr'); rw [hy m (by simp [Op.operands])]
 | call c =>
  obtain ⟨callee,args,argTypes⟩:=c
  show (match args.toList with | []=>none | x :: _=>Z7 (opv E x fr))=(match args.toList with | []=>none | x :: _=>Z7 (opv E x fr'))
  cases hargs:args.toList with
  | nil=>rfl
  | cons a r =>
   dsimp only
   rw [hy a (by simp [Op.operands,Call.operands]; exact .inr (Array.mem_toList_iff.1 (by rw [hargs]; exact List.mem_cons_self ..)))]
 | _=>rfl
end
section
variable {E:Env} {call:D1} {ops:Array Oper} {ms l:List Nat} {sk:Nat->Prop} {xs:List XOp} {s₀:Tr × HD}
theorem Plan.at (hp:Plan ops ms l) {m:Nat} (hm:m < l.length):∃ i o,l[m]?=some i∧ops[i]?=some o:=by
 have h1:l[m]?=some l[m]:=List.getElem?_eq_getElem hm
 have:=hp.lt m _ h1
 exact ⟨_,ops[l[m]],h1,Array.getElem?_eq_getElem this⟩
theorem Ns (hp:PlanX ops ms l sk xs) {m:Nat} {s:Tr × HD} (h:St E call xs s₀ (m + 1)=some s) :
 ∃ i o s' x r,l[m]?=some i∧ops[i]?=some o∧St E call xs s₀ m=some s'∧xs[m]?=some x∧(x.op=o.op∧x.quiet=V5 ops.toList ms i (l.drop (m + 1)))∧stp E call x s'.1 s'.2=some r∧s=(setDst o.dst r.1 s'.1,r.2):=by
 obtain ⟨s',x,r,h1,h2,h3,h4⟩:=Wl h
 have hm:m < l.length:=by
  rw [← hp.xlen]
  rcases Nat.lt_or_ge m xs.length with h' | h'
  . exact h'
  . rw [List.getElem?_eq_none h'] at h2; cases h2
 obtain ⟨i,o,h5,h6⟩:=hp.at hm
 obtain ⟨x',h7,h8,h9,h10,_⟩:=hp.xat m i o h5 h6
 rw [h2] at h7
 cases h7
 exact ⟨i,o,s',x,r,h5,h6,h1,h2,⟨h9,h10⟩,h3,by rw [h4,h8]⟩
theorem Q1 (d:Option Tmp) (v:AV) (fr:Tr) (t:Nat):(setDst d v fr).has t=fr.has t:=by
 cases d with
 | none=>rfl
 | some d=>exact Tr.has_set _ _ _ _
theorem U7 {d:Option Tmp} {v:AV} {fr:Tr} {t:Nat} (h:d ≠ some t):(setDst d v fr).get t=fr.get t:=by
 cases d with
 | none=>rfl
 | some d=>exact Tr.get_set_ne _ _ _ _ (fun e=>h (by rw [e]))
theorem Y1 {v:AV} {fr:Tr} {t:Nat}:(setDst (some t) v fr).get t=if fr.has t then v else .und:=Tr.get_set_eq _ _ _
theorem St_has (hp:PlanX ops ms l sk xs) {k:Nat} {s:Tr × HD} (hs:St E call xs s₀ k=some s):∀ (n:Nat) (s':Tr × HD),St E call xs s₀ (k + n)=some s'->∀ t,s'.1.has t=s.1.has t
 | 0,s',h,t=>by rw [Nat.add_zero] at h; rw [hs] at h; cases h; rfl
 | n + 1,s',h,t=>by
  obtain ⟨i,o,s1,x,r,_,_,h3,_,_,_,rfl⟩:=Ns hp h
  show (setDst _ _ _).has t=_
  rw [Q1]; exact St_has hp hs n s1 h3 t
theorem cY (hp:PlanX ops ms l sk xs) {k:Nat} {s:Tr × HD} (hs:St E call xs s₀ k=some s) {t:Nat}:∀ (n:Nat) (s':Tr × HD),St E call xs s₀ (k + n)=some s' ->
 (∀ (m i:Nat) (o:Oper),k≤m->m < k + n->l[m]?=some i->ops[i]?=some o->o.dst ≠ some t)->s'.1.get t=s.1.get t
 | 0,s',h,_=>by rw [Nat.add_zero] at h; rw [hs] at h; cases h; rfl
 | n + 1,s',h,hn=>by
  obtain ⟨i,o,s1,x,r,h1,h2,h3,_,_,_,rfl⟩:=Ns hp h
  show (setDst _ _ _).get t=_
  rw [U7 (hn (k + n) i o (by omega) (by omega) h1 h2)]
  exact cY hp hs n s1 h3 fun m i o a b=>hn m i o a (by omega)
theorem xA (hp:PlanX ops ms l sk xs) {k p m i:Nat} {s sp s':Tr × HD} (hs:St E call xs s₀ k=some s) (hk:k≤p) (hm:p < m) (hsp:St E call xs s₀ p=some sp) (hs':St E call xs s₀ m=some s')
 {x:XOp} {r:AV × HD} (hx:xs[p]?=some x) (hr:stp E call x sp.1 sp.2=some r) {o:Oper} (hl:l[p]?=some i) (ho:ops[i]?=some o) {t:Nat} (hd:o.dst=some t):s'.1.get t=if s.1.has t then r.1 else .und:=by
 have h1:=Ts hsp hx hr
 obtain ⟨x',hx',hxd,_⟩:=hp.xat p i o hl ho
 rw [hx] at hx'
 cases hx'
 obtain ⟨n,rfl⟩:∃ n,m=p + 1 + n:=⟨m - (p + 1),by omega⟩
 have h2:=cY hp h1 n s' hs' (t:=t) fun q j o' a b c d=>hp.dst p q i j o o' t (by omega) hl c ho d hd
 rw [h2,hxd,hd]
 show (setDst (some t) r.1 sp.1).get t=_
 rw [Y1]
 obtain ⟨n',rfl⟩:∃ n',p=k + n':=⟨p - k,by omega⟩
 rw [St_has hp hs n' sp hsp t]
theorem stp_some {x:XOp} {fr:Tr} {h:HD} {r:AV × HD} (hr:stp E call x fr h=some r):(guardOk x.gd fr=some false∧r=(skipped,h))∨(guardOk x.gd fr=some true∧evOpD E call x fr h.1 h.2=.ok r.1 r.2.1 r.2.2):=by
 unfold stp at hr
 cases hg:guardOk x.gd fr with
 | none=>rw [hg] at hr; cases hr
 | some b =>
  rw [hg] at hr
  cases b with
  | false=>cases hr; exact .inl ⟨rfl,rfl⟩
  | true=>exact .inr ⟨rfl,Gq hr⟩
theorem Zo (hp:PlanX ops ms l sk xs) {k:Nat} {s:Tr × HD} (hs:St E call xs s₀ k=some s):∀ (n:Nat) (s':Tr × HD),St E call xs s₀ (k + n)=some s' ->
 (∀ (m i:Nat) (o:Oper),k≤m->m < k + n->l[m]?=some i->ops[i]?=some o->cls o.op ≠ 3)->Keeps s.2.1 s'.2.1
 | 0,s',h,_=>by rw [Nat.add_zero] at h; rw [hs] at h; cases h; exact .refl _
 | n + 1,s',h,hn=>by
  obtain ⟨i,o,s1,x,r,h1,h2,h3,_,h5,h6,rfl⟩:=Ns hp h
  refine (Zo hp hs n s1 h3 fun m i o a b=>hn m i o a (by omega)).trans ?_
  show Keeps s1.2.1 r.2.1
  rcases stp_some h6 with ⟨_,rfl⟩ | ⟨_,h7⟩
  . exact .refl _
  . refine Zm ?_ h7
    rw [h5.1]; exact hn (k + n) i o (by omega) (by omega) h1 h2
theorem fE (hp:PlanX ops ms l sk xs) (hpres:M2 call) {k:Nat} {s:Tr × HD} (hs:St E call xs s₀ k=some s):∀ (n:Nat) (s':Tr × HD),St E call xs s₀ (k + n)=some s' ->
 (∀ (m i:Nat) (o:Oper),k≤m->m < k + n->l[m]?=some i->ops[i]?=some o->cls o.op=3->V5 ops.toList ms i (l.drop (m + 1))=true) ->
   s.2.1.next≤s'.2.1.next∧(∀ i,i∈s.2.2->i∈s'.2.2)∧∀ i,i < s.2.1.next->i ∉ s'.2.2->s'.2.1.get i=s.2.1.get i
 | 0,s',h,_=>by rw [Nat.add_zero] at h; rw [hs] at h; cases h; exact ⟨Nat.le_refl _,fun _ h=>h,fun _ _ _=>rfl⟩
 | n + 1,s',h,hn=>by
  obtain ⟨i,o,s1,x,r,h1,h2,h3,_,h5,h6,rfl⟩:=Ns hp h
  obtain ⟨a1,a2,a3⟩:=fE hp hpres hs n s1 h3 fun m i o a b=>hn m i o a (by omega)
  have hb:s1.2.1.next≤r.2.1.next∧(∀ i,i∈s1.2.2->i∈r.2.2)∧∀ i,i < s1.2.1.next->i ∉ r.2.2->r.2.1.get i=s1.2.1.get i:=by
   rcases stp_some h6 with ⟨_,rfl⟩ | ⟨_,h7⟩
   . exact ⟨Nat.le_refl _,fun _ h=>h,fun _ _ _=>rfl⟩
   . refine cX hpres (fun hc=>?_) h7
     rw [h5.1] at hc
     rw [h5.2]
     exact hn (k + n) i o (by omega) (by omega) h1 h2 hc
  obtain ⟨b1,b2,b3⟩:=hb
  exact ⟨Nat.le_trans a1 b1,fun i hi=>b2 i (a2 i hi),fun i hi hni=>(b3 i (Nat.lt_of_lt_of_le hi a1) hni).trans (a3 i hi fun e=>hni (b2 i e))⟩
end
end Go.AM
