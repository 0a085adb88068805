/- The abstract machine, part three: operations, calls, and regions that draw their order: planned. Conditions: none. -/
import Derived.Test.YthoghikipmifeaaDoorAmTwo
import Derived.LoopN
import Derived.Tactics
import Derived.Orders
set_option linter.unusedVariables false
set_option linter.unusedSectionVars false
set_option linter.unusedSimpArgs false
/-
 The abstract machine: each operation but a call is sound.
set_option maxHeartbeats 4000000
-/
open Bool renaming and_eq_true→zqa,not_eq_true'→zqb
open Array renaming getElem?_toList→zqc,getD_eq_getD_getElem?→zqd
open List renaming all_eq_true→zqe,mem_cons_self→zqf,mem_cons→zqg,mem_of_getElem?→zqh,getElem?_of_mem→zqi,getElem?_eq_getElem→zqj,length_cons→zqk
open Nat renaming le_refl→zql,le_trans→zqm
open Option renaming map_eq_some_iff→zqn,bind_some→zqo
namespace Go.AM
section
variable {P:Program}{E:Env}{W:World}{cx:Cx}{h:Heap}
theorem G4{x:Option AV}{v:AV}{h h':Heap}(hx:lift x h=.ok v h'):x=some v/\h'=h:=by
 cases x with
 |none=>cases hx
 |some a=>cases hx;grind
theorem Yt(hs:Sat E W cx h){a:Act}{fr:Tr}(hf:FrRep W cx a.tmps fr)(o:Option Operand):S8 W cx (o.map a.eval) (Kx E o fr):=by
 cases o with
 |none=>trivial
 |some x=>exact d9 hs hf x
theorem En(a:Act)(ps:Array (Nat×Operand)):(ps.map fun p=>(p.1,a.eval p.2)).toList=ps.toList.map fun p=>(p.1,a.eval p.2):=by simp
theorem Qq(hE:EnvOk E P)(hs:Sat E W cx h){ts:Array TypeId}{ty:TypeId}{args:Array Value}{l:List AV}(hl:RepL W cx args.toList l){r:AV}{h':Heap}(hb:Ib E ts.toList l h=some (r,h')):
 ∃v W' cx',(Builtin.append_ ts ty args).run P W=.ok v W'/\Ext W cx W' cx'/\Sat E W' cx' h'/\Rep W' cx' v r:=by
 unfold Ib at hb;cases hts:ts.toList with
 |nil=>grind
 | cons t ts1 =>
  cases ts1 with
  |nil=>grind
  | cons tx ts2 =>
   cases l with
   |nil=>grind
   | cons s l1 =>
    cases l1 with
    |nil=>grind
    | cons x l2 =>
     rw[hts]at hb;obtain⟨ti,ht,hb⟩:=D7 hb;obtain⟨te,hte,hb⟩:=A0 hb;obtain⟨hpz,hb⟩:=A7 hb;have hpz:=I8 hpz;obtain⟨tix,htx,hb⟩:=D7 hb;obtain⟨e,hk,hte⟩:=W7 hte;have hd:=(hE.ti t ti ht).desc;unfold H3 at hd;rw[hk]at hd;have ht1:ts[0]?=some t:=by rw[<-zqc,hts];rfl
     have ht2:ts[1]?=some tx:=by rw[<-zqc,hts];rfl
     obtain⟨sv,hsv1,hsv2⟩:=hl.get (i:=0) (c:=s) rfl;obtain⟨xv,hxv1,hxv2⟩:=hl.get (i:=1) (c:=x) rfl;have hsv1:args[0]?=some sv:=by grind
     have hxv1:args[1]?=some xv:=by grind
     obtain⟨dx,hdx⟩:=(hE.ti tx tix htx).under;have hdd:=(hE.ti tx tix htx).desc;have hty:=hE.ti e te hte;have elemCase:(∀k,dx≠.int k)->A4 (elems x h) (fun xs=>A9 (F1 te.size xs) (G9 te s xs h))=some (r,h') ->
      ∃v W' cx',(Builtin.append_ ts ty args).run P W=.ok v W'/\Ext W cx W' cx'/\Sat E W' cx' h'/\Rep W' cx' v r:=by
      intro hni hb;obtain⟨xs,hel,hb⟩:=A0 hb;obtain⟨hall,hb⟩:=A7 hb;rw[g8]at hall;obtain⟨ad,cap,us,sz,e1,e2,hur,hfc⟩:=U9 (P:=P) hs hxv2 hel;have hur':RowRep W cx us xs te.size:=by
       cases hxs:xs with
       |nil=>rw[hxs]at hur;exact⟨by have:=hur.len;grind,by simp,by simp⟩
       | cons x0 xr =>
        rw[hxs]at hur hall
        have:sz=te.size:=by rw[<-hur.size 0 x0 rfl];grind
        grind
      . exact Iv hE hs hte ht1 hd ht2 hdx hsv1 hxv1 hsv2 hur' (.inl ⟨hni,⟨ad,cap,e1⟩,fun W' hW'=>by
         have:=hfc W' hW' xs.length te.size (zql _) hall
         rw[<-hur.len,List.take_length]at this;exact this⟩) hur'.oneL (hty.pos (by omega)) hb
     unfold H3 at hdd;cases hkx:tix.desc with
     | int kx =>
      rw[hkx]at hb hdd;rw[hdd]at hdx;cases hdx;obtain⟨n,hn,hb2⟩:=A0 hb;obtain⟨hg,hb2⟩:=A7 hb2;clear hb;have hg:n*te.bytes<=140737488355328:=C0 hg;obtain⟨k',rfl⟩:=P0 hn;cases hxv2.int_inv;obtain⟨i,z,hi1,hi2,hi3,hi4,hzo⟩:=hty.info;have hzs:z.cells.size=te.size:=by have:=((hzo.rep W cx).cells hzo.und).1;simp at this;rw[this];exact hty.zsz
      . have hp:0<te.size:=hpz
        have hb0:=hty.pos hp;have hn47:n<=140737488355328:=zqm (Nat.le_mul_of_pos_right n hb0) hg;obtain⟨a1,a2⟩:=Pg (W:=W) (cx:=cx) hzo hty.zsz hp n (c:=Builtin.zeroCells z.cells n) (by grind[Go.Builtin.zeroCells,Go.AM.rangeMap_get]);have hzl:(Builtin.zeroCells z.cells n).toList=(List.range (n*te.size)).map fun k=>(z.cells[k%te.size]?).getD undef:=by
         apply List.ext_getElem?;grind[Builtin.zeroCells]
        rw[d8]at hb2;have hlen:(List.replicate n te.zero).length=n:=List.length_replicate;exact Iv hE hs hte ht1 hd ht2 hdd hsv1 hxv1 hsv2 a1 (by grind) a1.oneL hb0 hb2
     |bool=>grind
     |string=>grind
     |ptr e'=>grind
     |slice e'=>grind
     |array n' e'=>grind
     |map k' e'=>grind
     |iface=>grind
     |struct fs fl=>grind
     |func=>grind
     |other=>grind
theorem Uv(hE:EnvOk E P)(hs:Sat E W cx h){b:Builtin}{ts:Array TypeId}{ty:TypeId}{cs:Array Bool}{args:Array Value}{l:List AV}(hl:RepL W cx args.toList l){r:AV}{h':Heap}(hb:E5 E b ts.toList l h=some (r,h')):
 Gs P E W cx (builtin b ts ty cs args) r h':=by
 cases b with
 | append =>
  obtain⟨v,W',cx',h1,h2,h3,h4⟩:=Qq hE hs (ts:=ts) (ty:=ty) hl hb;exact Gs.value (s:=Builtin.append_ ts ty args) h1 h2 h3 h4
 | len =>
  have hb:Uq E ts.toList l h=some (r,h'):=hb;unfold Uq at hb;cases hts:ts.toList with
  |nil=>rw[hts]at hb;cases hb
  | cons t ts1 =>
   rw[hts]at hb;cases l with
   |nil=>cases hb
   | cons x l1 =>
    obtain⟨ti,ht,hb⟩:=D7 hb;obtain⟨n,hn,hb⟩:=A0 hb;rw[B7]at hb;cases hb;have ht1:ts[0]?=some t:=by rw[<-zqc,hts];rfl
    obtain⟨xv,hxv1,hxv2⟩:=hl.get (i:=0) (c:=x) rfl
    have:=nR hE hs ht (ty:=ty) ht1 (args:=args) (by simpa using hxv1) hxv2 hn
    exact Gs.same (s:=Builtin.len_ ts ty args) hs this (.int _ _)
 | copy =>
  have hb:cJ E ts.toList l h=some (r,h'):=hb;unfold cJ at hb;cases hts:ts.toList with
  |nil=>rw[hts]at hb;cases hb
  | cons t ts1 =>
   rw[hts]at hb;cases l with
   |nil=>cases hb
   | cons d l1 =>
    cases l1 with
    |nil=>cases hb
    | cons s l2 =>
     obtain⟨ti,ht,hb⟩:=D7 hb;obtain⟨te,hte,hb⟩:=A0 hb;obtain⟨xs,hel,hb⟩:=A0 hb;obtain⟨hall,hb⟩:=A7 hb;obtain⟨e,hk,hte⟩:=W7 hte;have hd:=(hE.ti t ti ht).desc;unfold H3 at hd;rw[hk]at hd;have ht1:ts[0]?=some t:=by rw[<-zqc,hts];rfl
     obtain⟨dv,hdv1,hdv2⟩:=hl.get (i:=0) (c:=d) rfl;obtain⟨sv,hsv1,hsv2⟩:=hl.get (i:=1) (c:=s) rfl;obtain⟨v,W',cx',h1,h2,h3,h4⟩:=iC hE hs hte (ty:=ty) ht1 hd (args:=args) (by simpa using hdv1) (by simpa using hsv1) hdv2 hsv2 hel hall hb;exact Gs.value (s:=Builtin.copy_ ts ty args) h1 h2 h3 h4
 | max =>
  cases l with
  |nil=>cases hb
  | cons x l =>
   obtain⟨r',h1,h2⟩:=zqn.1 (show(Ku l x).map (·,h)=some (r,h')from hb);cases h2;obtain⟨args⟩:=args;cases args with
   |nil=>have:=hl.1;simp at this
   | cons xv vs =>
    obtain⟨v,h2,h3⟩:=Wq (P:=P) (vs:=vs) (xv:=xv) ⟨by have:=hl.1;simpa using this,fun i v c h1 h2=>hl.2 (i+1) v c (by simpa using h1) (by simpa using h2)⟩ (hl.2 0 _ _ rfl rfl) h1;refine Gs.same (s:=Builtin.max_ ts ty ⟨xv::vs⟩) hs ?_ h3;simpa[Builtin.max_]using h2
 | min =>
  cases l with
  |nil=>cases hb
  | cons x l =>
   obtain⟨r',h1,h2⟩:=zqn.1 (show(Ns l x).map (·,h)=some (r,h')from hb);cases h2;obtain⟨args⟩:=args;cases args with
   |nil=>have:=hl.1;simp at this
   | cons xv vs =>
    obtain⟨v,h2,h3⟩:=Wr (P:=P) (vs:=vs) (xv:=xv) ⟨by have:=hl.1;simpa using this,fun i v c h1 h2=>hl.2 (i+1) v c (by simpa using h1) (by simpa using h2)⟩ (hl.2 0 _ _ rfl rfl) h1;refine Gs.same (s:=Builtin.min_ ts ty ⟨xv::vs⟩) hs ?_ h3;simpa[Builtin.min_]using h2
 |_=>cases hb
theorem gX(hE:EnvOk E P)(hs:Sat E W cx h){a:Act}{fr:Tr}(hf:FrRep W cx a.tmps fr){call:D1}(o:Oper)(hc:∀c f,o.op=.call c->c.callee≠.value f){v:AV}{h':Heap}
 (hev:evOp E call o.op fr h=.ok v h'):Gs P E W cx (execOp a.eval o) v h':=by
 have ov:=fun x=>d9 (E:=E) hs hf x
 obtain⟨dst,op,type,pos,after,guard⟩:=o;cases op with
 |move x=>cases hev;exact⟨_,W,cx,.inl rfl,Ext.refl _ _,hs,ov x⟩
 |assign x=>cases hev;exact⟨_,W,cx,.inl rfl,Ext.refl _ _,hs,ov x⟩
 | pick c x y =>
  obtain⟨b,hb,hev⟩:=nK hev;have hcv:=ov c;rw[hb]at hcv;have e:=hcv.bool_inv;refine⟨if b then a.eval x else a.eval y,W,cx,.inl ?_,Ext.refl _ _,?_,?_⟩
  . simp[execOp,e,asBool]
  . cases b<;>(cases hev;exact hs)
  . cases b<;>(cases hev;exact ov _)
 | alloc t =>
  obtain⟨ti,ht,hev⟩:=E4 hev;have hty:=hE.ti t ti ht;obtain⟨z,hzr,hzo⟩:=hty.run_zero (W:=W);obtain⟨v',W',cx',h1,h2,h3,h4⟩:=Rc (P:=P) hs (t:=t) (hzo.rep W cx) hzo.one hzo.und hty.zsz hev;refine Gs.value (s:=Instr.alloc t true (.tuple #[])) ?_ h2 h3 h4;simp only[Instr.alloc,Sem.run_bind,hzr,Result.andThen_ok];simpa using h1
 | box t x =>
  obtain⟨ti,ht,hev⟩:=E4 hev;cases hg:(Nat.beq (lenL (opv E x fr).cells) ti.size&&D3 (opv E x fr).cells)with
  |false=>rw[hg]at hev;cases hev
  | true =>
   rw [hg]at hev;rw[zqa,A5,F9]at hg;have hu:opv E x fr≠.und:=fun e=>by
    have:=hg.2 .und (by rw[e];simp[AV.cells])
    cases this
   obtain⟨v',W',cx',h1,h2,h3,h4⟩:=Rc (P:=P) hs (t:=t) (ov x) (((ov x).cells hu).one hg.2) hu (D2 hg.1) hev;refine Gs.value (s:=Instr.box t (a.eval x)) ?_ h2 h3 h4;simpa[Instr.box]using h1
 | build t ps =>
  obtain⟨ti,ht,hev⟩:=E4 hev;obtain⟨hq,hh⟩:=G4 hev;subst hh;obtain⟨l1,l2⟩:=Eo hs hf ps.toList;obtain⟨v',h1,h2⟩:=dG hE ht (ps:=ps.map fun p=>(p.1,a.eval p.2)) (by rw[En];exact l1) (by rw[En];exact l2) hq;exact Gs.same (s:=Instr.build t _) hs h1 h2
 | buildSlice t n ps =>
  obtain⟨ti,ht,hev⟩:=E4 hev;cases hte:elemOfT E ti.desc with
  |none=>rw[hte]at hev;cases hev
  | some te =>
   rw[hte]at hev;cases hg:(Nat.ble (Nat.mul n te.size) 65536&&Nat.blt 0 te.size)with
   |false=>simp only[hg]at hev;cases hev
   | true =>
    simp only[hg,cond_true]at hev;cases hp:placeL te.size (opvps E ps.toList fr) (repL n te.zero)with
    |none=>rw[hp]at hev;cases hev
    | some es =>
     rw[hp]at hev;cases hev;obtain⟨l1,l2⟩:=Eo hs hf ps.toList;obtain⟨v',W',cx',h1,h2,h3,h4⟩:=Lf hE hs ht hte (ps:=ps.map fun p=>(p.1,a.eval p.2)) (by rw[En];exact l1) (by rw[En];exact l2) hg hp;exact Gs.value (s:=Instr.buildSlice t n _) h1 h2 h3 h4
 | load t x =>
  obtain⟨ti,ht,hev⟩:=E4 hev;obtain⟨hq,hh⟩:=G4 hev;subst hh;obtain⟨v',h1,h2⟩:=Ra hE hs ht (ov x) hq;exact Gs.same (s:=Instr.loadAt t _) hs h1 h2
 | store t x y =>
  obtain⟨ti,ht,hev⟩:=E4 hev
  have:Bj ti (opv E x fr) (opv E y fr) h=some h'/\v=.und:=by
   cases hq:Bj ti (opv E x fr) (opv E y fr) h with
   |none=>rw[hq]at hev;cases hev
   |some h2=>rw[hq]at hev;cases hev;exact⟨rfl,rfl⟩
  obtain⟨hq,rfl⟩:=this;obtain⟨W',h1,h2,h3⟩:=dB hE hs ht (ov x) (ov y) hq;exact Gs.unit (s:=Instr.storeAt t _ _) h1 h2 h3
 | nilCheck x =>
  obtain ⟨hq,hh⟩:=G4 hev;subst hh;have hx:=ov x;have key:∀u:Value,a.eval x=u->(match u with | .pointer none | .nilIface | .nilFunc=>False | .func (.method _) _ _=>False|_=>True)->(execOp a.eval ⟨dst,.nilCheck x,type,pos,after,guard⟩).run P W=.ok (.value u) W:=by
   intro u hu hm;simp only[execOp,hu];cases u with
   | pointer p=>cases p with
    |none=>exact hm.elim
    |some p=>rfl
   | func f a b=>cases f with
    |method n=>exact hm.elim
    |_=>rfl
   |nilIface=>exact hm.elim
   |nilFunc=>exact hm.elim
   |_=>rfl
  cases hox:opv E x fr with
  | fptr w o =>
   rw[hox]at hq hx;cases hq;obtain⟨b,o',e,_⟩:=hx.fptr_inv;exact⟨_,W,cx,.inl (key _ e trivial),Ext.refl _ _,hs,e▸hx⟩
  | ptr i j o =>
   rw[hox]at hq hx;cases hq;obtain⟨_,e⟩:=hx.ptr_inv;exact⟨_,W,cx,.inl (key _ e trivial),Ext.refl _ _,hs,e▸hx⟩
  | fn f l1 l2 =>
   rw[hox]at hq hx;cases f with
   | func f =>
    cases hq;cases hu:a.eval x with
    | func f' vs ws =>
     rw[hu]at hx
     have:f'=.func f:=by cases hx;rfl
     subst this;exact⟨_,W,cx,.inl (key _ hu trivial),Ext.refl _ _,hs,hx⟩
    |_=>rw[hu]at hx;cases hx
   |_=>cases hq
  | map i =>
   rw[hox]at hq hx;cases hq;cases hu:a.eval x with
   | map r =>
    rw[hu]at hx;exact⟨_,W,cx,.inl (key _ hu trivial),Ext.refl _ _,hs,hx⟩
   |_=>rw[hu]at hx;cases hx
  |_=>rw[hox]at hq;cases hq
 | binOp op t x y yt =>
  obtain ⟨hq,hh⟩:=G4 hev;subst hh;obtain⟨v',h1,h2⟩:∃v',R8 P W op t x y (a.eval x) (a.eval y) v'/\Rep W cx v' v:=by
   rcases orO_some hq with hq|hq
   . exact gT hE (ov x) (ov y) hq x y
   . exact cQ hE (ov x) (ov y) hq x y
  exact Gs.same (s:=do eqGuard op t x y (a.eval x) (a.eval y);binOp op t (a.eval x) (a.eval y)) hs h1 h2
 | unOp op t x =>
  obtain⟨hq,hh⟩:=G4 hev;subst hh;obtain⟨v',h1,h2⟩:=iB (P:=P) (ov x) hq;exact Gs.same (s:=Op.unary op _) hs h1 h2
 | convert s d x =>
  obtain⟨ts,hts,hev⟩:=E4 hev;obtain⟨td,htd,hev⟩:=E4 hev;obtain⟨hq,hh⟩:=G4 hev;subst hh;obtain⟨v',h1,h2⟩:=Ux hE hts htd (ov x) hq;exact Gs.same (s:=convert s d _) hs h1 h2
 | makeFunc f first caps =>
  cases hev;have r1:=Cz (E:=E) hs hf first.toList
  have r2:=Cz (E:=E) hs hf caps.toList;refine⟨.func f (first.map a.eval) (caps.map a.eval),W,cx,.inl (by simp[execOp,Instr.makeFunc]),Ext.refl _ _,hs,?_⟩;refine .fn f _ _ _ _ (by have:=r1.1;simpa using this) (by have:=r2.1;simpa using this) (fun i v c h1 h2=>r1.2 i v c ?_ h2) (fun i v c h1 h2=>r2.2 i v c ?_ h2)
  . simpa using h1
  . simpa using h1
 | makeMap t r =>
  cases r with
  |some r=>cases hev
  | none =>
   cases hev;have he:=Ext.alloc W cx (.map #[] 0) 0;refine⟨.map (some W.heap.size),W.alloc (.map #[] 0),_,.inl (by simp[execOp,Instr.makeMap]),he,hs.push _ _ 0 ⟨#[],0,[],W5 W _,List.Perm.refl _,rfl,by simp,MapKept.stamped_empty 0,fun q hq=>by cases hq⟩,?_⟩
   have:=Rep.map (W:=W.alloc (.map #[] 0)) (cx:=cx.push W.heap.size 0) h.next (by rw[hs.nx];exact Nat.lt_succ_self _) (by rw[hs.nx,Cx.push_new];simp)
   rw[hs.nx,Cx.push_new]at this;rw[hs.nx];exact this
 | makeInterface t x =>
  obtain⟨ti,ht,hev⟩:=E4 hev;cases hp:R7 ti.desc with
  |false=>rw[hp]at hev;cases hev
  | true =>
   rw[hp]at hev;cases hev;have hd:=(hE.ti t ti ht).desc;unfold H3 at hd
   have:∃d,P.underlying t=some d/\∀ms,d≠.interface ms:=by
    cases hk:ti.desc with
    |func=>rw[hk]at hp;cases hp
    |iface=>rw[hk]at hp;cases hp
    |other=>rw[hk]at hp;cases hp
    |struct fs fl=>rw[hk]at hd;obtain⟨fields,hu,_⟩:=hd;exact⟨_,hu,by simp⟩
    |_=>rw[hk]at hd;exact⟨_,hd,by simp⟩
   obtain⟨d,hu,hn⟩:=this;have r1:∀W:World,(underlying t).run P W=.ok d W:=fun W=>A2 hu
   refine Gs.same (s:=Instr.makeInterface t (a.eval x)) (v':=.iface t (a.eval x)) hs ?_ (.iface t _ _ (ov x));simp only[Instr.makeInterface,Sem.run_bind,r1,Result.andThen_ok];cases d<;>first|rfl|exact absurd rfl (hn _)
 | typeAssert x xt t ok =>
  obtain⟨ti,ht,hev⟩:=E4 hev;cases hp:(R7 ti.desc && !ok)with
  |false=>rw[hp]at hev;cases hev
  | true =>
   rw[hp]at hev;rw[zqa]at hp;obtain⟨hp,hok⟩:=hp;obtain⟨hq,hh⟩:=G4 hev;subst hh;have hd:=(hE.ti t ti ht).desc;unfold H3 at hd
   have:∃d,P.underlying t=some d/\∀ms,d≠.interface ms:=by
    cases hk:ti.desc with
    |func=>rw[hk]at hp;cases hp
    |iface=>rw[hk]at hp;cases hp
    |other=>rw[hk]at hp;cases hp
    |struct fs fl=>rw[hk]at hd;obtain⟨fields,hu,_⟩:=hd;exact⟨_,hu,by simp⟩
    |_=>rw[hk]at hd;exact⟨_,hd,by simp⟩
   obtain⟨d,hu,hn⟩:=this;have r1:∀W:World,(underlying t).run P W=.ok d W:=fun W=>A2 hu
   have hxo:=ov x;cases hq2:opv E x fr with
   | iface u w =>
    rw[hq2]at hq hxo;have hq:(bif Nat.beq u t then some w else none)=some v:=hq;cases hb:Nat.beq u t with
    |false=>rw[hb]at hq;cases hq
    | true =>
     rw [hb]at hq;cases hq;have hut:=D2 hb;have⟨u',hu',hr⟩:∃u',a.eval x=.iface t u'/\Rep W cx u' v:=by
      generalize a.eval x=z at hxo;cases hxo with
      |iface _ u' _ hr=>exact⟨u',by rw[hut],hr⟩
     refine Gs.same (s:=Instr.typeAssert (a.eval x) xt t ok) (v':=u') hs ?_ hr;rw[hu'];have hok:ok=false:=by simpa using hok
     subst hok;simp only[Instr.typeAssert,Sem.run_bind,r1,Result.andThen_ok];cases d<;>first|exact absurd rfl (hn _)|(simp;done)|simp
   |_=>rw[hq2]at hq;cases hq
 | makeSlice t l c =>
  obtain⟨ti,ht,hev⟩:=E4 hev;cases hte:elemOfT E ti.desc with
  |none=>rw[hte]at hev;cases hev
  | some te =>
   rw[hte]at hev;cases hl:asNat (opv E l fr)with
   |none=>simp only[hl]at hev;cases hev
   | some n =>
    simp only[hl]at hev;cases hm:asNat (opv E c fr)with
    |none=>simp only[hm]at hev;cases hev
    | some m =>
     simp only[hm]at hev;cases hg:(Nat.ble n m&&Nat.ble (Nat.mul m te.bytes) 140737488355328&&Nat.blt 0 te.size)with
     |false=>simp only[hg]at hev;cases hev
     | true =>
      simp only[hg,cond_true]at hev;cases hev;obtain⟨v',W',cx',h1,h2,h3,h4⟩:=Nw hE hs ht hte (ov l) (ov c) hl hm hg;exact Gs.value (s:=Instr.makeSlice t _ _) h1 h2 h3 h4
 | slice t x lo hi mx =>
  have hev:El E t x lo hi mx fr h=.ok v h':=hev;unfold El at hev;obtain⟨ti,ht,hev⟩:=E4 hev;cases hhm:hi.isNone&&mx.isSome with
  |true=>rw[hhm]at hev;cases hev
  | false =>
   rw [hhm]at hev;obtain⟨hq,hh⟩:=G4 hev;subst hh;obtain⟨v',h1,h2⟩:=dE hE ht (ov x) (Yt hs hf lo) (Yt hs hf hi) (Yt hs hf mx) (fun hn=>by
    cases hi with
    |some hi=>cases hn
    | none=>cases mx with
     |none=>rfl
     |some mx=>cases hhm) hq
   exact Gs.same (s:=Instr.sliceAt t _ _ _ _) hs h1 h2
 | fieldAddr t x f =>
  obtain⟨ti,ht,hev⟩:=E4 hev;obtain⟨hq,hh⟩:=G4 hev;subst hh;obtain⟨p,hp,hq⟩:=A0 hq;obtain⟨v',h1,h2⟩:=Nu hE ht (ov x) hp hq;exact Gs.same (s:=Instr.fieldAt t _ f) hs h1 h2
 | field t x f =>
  obtain⟨ti,ht,hev⟩:=E4 hev;obtain⟨hq,hh⟩:=G4 hev;subst hh;obtain⟨p,hp,hq⟩:=A0 hq;obtain⟨v',h1,h2⟩:=dC hE ht (ov x) hp hq;exact Gs.same (s:=Instr.field t _ f) hs h1 h2
 | indexAddr t x i =>
  obtain⟨ti,ht,hev⟩:=E4 hev;obtain⟨hq,hh⟩:=G4 hev;subst hh;obtain⟨n,hn,hq⟩:=A0 hq;obtain⟨v',h1,h2⟩:=Nv hE ht (ov x) (ov i) hn hq;exact Gs.same (s:=Instr.indexAt t _ _) hs h1 h2
 | index t x i =>
  obtain⟨ti,ht,hev⟩:=E4 hev;obtain⟨hq,hh⟩:=G4 hev;subst hh;obtain⟨n,hn,hq⟩:=A0 hq;obtain⟨v',h1,h2⟩:=dD hE ht (ov x) (ov i) hn hq;exact Gs.same (s:=Instr.index t _ _) hs h1 h2
 |lookup t m k ok=>cases hev
 |mapUpdate t m k x=>cases hev
 |insert t m k x=>cases hev
 | extract t i =>
  obtain⟨vs,hvs,hev⟩:=qT hev;obtain⟨hq,hh⟩:=G4 hev;subst hh
  have:=ov t
  rw[hvs]at this;obtain⟨v',h1,h2⟩:=Uy (P:=P) this hq;exact Gs.same (s:=Instr.extract _ i) hs h1 h2
 | call c =>
  obtain⟨callee,args,argTypes⟩:=c;cases callee with
  |value f=>exact absurd rfl (hc _ f rfl)
  |invoke f n=>cases hev
  | builtin b =>
   have hev:lift2 (E5 E b argTypes.toList (opvs E args.toList fr) h)=.ok v h':=hev;cases hq:E5 E b argTypes.toList (opvs E args.toList fr) h with
   |none=>rw[hq]at hev;cases hev
   | some p =>
    rw [hq]at hev;cases hev;have hl:RepL W cx (args.map a.eval).toList (opvs E args.toList fr):=by
     have:=Cz (E:=E) hs hf args.toList;simpa using this
    exact Uv hE hs hl hq
 | panic x =>
  exfalso
  have hev:nI (opv E x fr) h=.ok v h':=hev;cases hq:opv E x fr<;>rw[hq]at hev<;>cases hev
 |_=>cases hev
end
end Go.AM
/-
 The abstract machine: operations,calls among them,and rows of operations in the order of the text.
-/
namespace Go.AM
def Res.Post(E:Env)(W:World)(cx:Cx):Res->Ending->World->Prop
 | .ok v h,.returned vv,w=>∃cx',Ext W cx w cx'/\Sat E w cx' h/\Rep w cx' vv v
 | .pan v h,.panicked chain,w=>∃cx' vv,chain=[{v:=vv,recovered:=false}]/\Ext W cx w cx'/\Sat E w cx' h/\Rep w cx' vv v
 |_,_,_=>False
def De(E:Env)(P:Program)(call:D1):Prop:=
 ∀ f (args:Array Value) l W cx h,RepL W cx args.toList l->Sat E W cx h->call f l h≠.bad ->
   (∃ fn c, P.funcs[f]? = some fn ∧ fn.body = some c ∧ (fn.name == "runtime.NumGoroutine") = false) ∧ Calls P f args W ((call f l h).Post E W cx)
def qY:Ex->Exit
 | .normal=>.normal
 | .exit i=>.exit i
 | .ret=>.ret
def CRes.Post(E:Env)(W:World)(cx:Cx)(S:Act->Prop)(r:CRes)(x:Exit)(a:Act)(w:World):Prop:=
 S a/\∃cx',Ext W cx w cx'/\
   match r with
   | .ok e fr h=>x=qY e/\Sat E w cx' h/\FrRep w cx' a.tmps fr
   | .pan v h=>∃vv,x=.panic [{v:=vv,recovered:=false}]/\Sat E w cx' h/\Rep w cx' vv v
   | .bad=>False
def nM(S:Act->Prop)(d:Option Tmp):Prop:=∀a v,S a->S (a.put d v)
theorem CRes.Post.trans{E:Env}{W W₁:World}{cx cx₁:Cx}{S:Act->Prop}(he:Ext W cx W₁ cx₁){r:CRes}{x:Exit}{a:Act}{w:World}(h:r.Post E W₁ cx₁ S x a w):r.Post E W cx S x a w:=by
 obtain⟨hd,cx',he',h⟩:=h;exact⟨hd,cx',he.trans he',h⟩
section
variable {P:Program}{E:Env}{W:World}{cx:Cx}{h:Heap}
def U7(r:Res):Prop:=∀v h,r≠.pan v h
theorem U7.ok{v:AV}{h:Heap}:U7 (.ok v h):=fun _ _ e=>by cases e
theorem U7.bad:U7 .bad:=fun _ _ e=>by cases e
theorem U7.lift{x:Option AV}{h:Heap}:U7 (lift x h):=by cases x;exact .bad;exact .ok
theorem U7.liftH{x:Option Heap}:U7 (liftH x):=by cases x;exact .bad;exact .ok
theorem U7.lift2{x:Option (AV×Heap)}:U7 (lift2 x):=by cases x;exact .bad;exact .ok
theorem U7.onTI{t:Nat}{f:TI->Res}(hf:∀x,U7 (f x)):U7 (onTI E t .bad f):=by
 unfold AM.onTI;cases E.ti t;exact .bad;exact hf _
theorem U7.cond{b:Bool}{x y:Res}(hx:U7 x)(hy:U7 y):U7 (bif b then x else y):=by grind
theorem Qr{call:D1}{op:Op}{fr:Tr}(hp:∀x,op≠.panic x)(hc:∀c f,op=.call c->c.callee≠.value f):U7 (evOp E call op fr h):=by
 cases op with
 |panic x=>exact absurd rfl (hp x)
 | call c =>
  obtain⟨callee,args,argTypes⟩:=c;cases callee with
  |value f=>exact absurd rfl (hc _ f rfl)
  |invoke f n=>exact .bad
  |builtin b=>exact .lift2
 |move x=>exact .ok
 |assign x=>exact .ok
 | pick c x y =>
  show U7 ((opv E c fr).onBool .bad fun t=>match t with|true=>.ok (opv E x fr) h|false=>.ok (opv E y fr) h)
  cases opv E c fr with
  |bool b=>cases b<;>exact .ok
  |_=>exact .bad
 |alloc t=>exact .onTI fun _=>.ok
 |box t x=>exact .onTI fun _=>.cond .ok .bad
 |build t ps=>exact .onTI fun _=>.lift
 | buildSlice t n ps =>
  refine .onTI fun ti=>?_
  cases elemOfT E ti.desc with
  |none=>exact .bad
  | some te =>
   refine .cond ?_ .bad;cases placeL te.size (opvps E ps.toList fr) (repL n te.zero)with
   |none=>exact .bad
   |some es=>exact .ok
 |load t x=>exact .onTI fun _=>.lift
 |store t x y=>exact .onTI fun _=>.liftH
 |nilCheck x=>exact .lift
 |binOp op t x y yt=>exact .lift
 |unOp op t x=>exact .lift
 |convert s d x=>exact .onTI fun _=>.onTI fun _=>.lift
 |makeFunc f first caps=>exact .ok
 |makeMap t r=>cases r;exact .ok;exact .bad
 |makeInterface t x=>exact .onTI fun _=>.cond .ok .bad
 |typeAssert x xt t ok=>exact .onTI fun _=>.cond .lift .bad
 | makeSlice t l c =>
  refine .onTI fun ti=>?_
  cases elemOfT E ti.desc with
  |none=>exact .bad
  | some te =>
   cases h1:asNat (opv E l fr)with
   |none=>exact .bad
   | some n =>
    cases h2:asNat (opv E c fr)with
    |none=>exact .bad
    |some m=>exact .cond .ok .bad
 |slice t x lo hi mx=>exact .onTI fun _=>.cond .bad .lift
 |fieldAddr t x f=>exact .onTI fun _=>.lift
 |field t x f=>exact .onTI fun _=>.lift
 |indexAddr t x i=>exact .onTI fun _=>.lift
 |index t x i=>exact .onTI fun _=>.lift
 |lookup t m k ok=>exact .bad
 |mapUpdate t m k x=>exact .bad
 |insert t m k x=>exact .bad
 | extract t i =>
  show U7 ((opv E t fr).onTup .bad fun vs=>lift (Cq vs i) h)
  cases opv E t fr with
  |tup vs=>exact .lift
  |_=>exact .bad
 |_=>exact .bad
theorem Ip(hE:EnvOk E P)(hs:Sat E W cx h){a:Act}{fr:Tr}(hf:FrRep W cx a.tmps fr){call:D1}(hcall:De E P call)(o:Oper){K:Act->World->Prop}{Q:Exit->Act->World->Prop}
 (hb:evOp E call o.op fr h≠.bad)
 (hK:∀v h' v' W' cx',evOp E call o.op fr h=.ok v h'->Ext W cx W' cx'->Sat E W' cx' h'->Rep W' cx' v' v->K (a.put o.dst v') W')
 (hQ:∀v h' v' W' cx',evOp E call o.op fr h=.pan v h'->Ext W cx W' cx'->Sat E W' cx' h'->Rep W' cx' v' v->Q (.panic [{v:=v',recovered:=false}]) a W'):o.wp P a W K Q:=by
 by_cases hc:∀c f,o.op=.call c->c.callee≠.value f
 . by_cases hp:∀x,o.op≠.panic x
   . cases hev:evOp E call o.op fr h with
     |bad=>grind
     |pan v h'=>exact absurd hev (Qr hp hc v h')
     | ok v h' =>
      obtain⟨v',W',cx',hr,h1,h2,h3⟩:=gX hE hs hf o hc hev;have hk:=hK v h' v' W' cx' hev h1 h2 h3;unfold Oper.wp;rcases hr with hr|⟨hr,rfl⟩
      . rw[hr];exact hk
      . rw[hr];exact hk
   . have ⟨x,hx⟩:∃x,o.op=.panic x:=by
      grind
     have ov:=d9 (E:=E) hs hf x;rw[hx]at hb hQ;have e:evOp E call (.panic x) fr h=nI (opv E x fr) h:=rfl;rw[e]at hb hQ;cases hq:opv E x fr with
     | iface t v =>
      rw[hq]at hQ ov;have hk:=hQ (.iface t v) h (a.eval x) W cx rfl (Ext.refl _ _) hs ov
      have:∃u,a.eval x=.iface t u:=by
       generalize a.eval x=u at ov;cases ov;grind
      obtain⟨u,hu⟩:=this;unfold Oper.wp
      have:(execOp a.eval o).run P W=.halt (.panic (a.eval x)) W:=by
       simp_all[execOp,Instr.panic]
      rw[this];exact hk
     |_=>rw[hq]at hb;exact absurd rfl hb
 . have ⟨c,f,hop,hcf⟩:∃c f,o.op=.call c/\c.callee=.value f:=by
    grind
   obtain⟨dst,op,type,pos,after,guard⟩:=o;simp only at hop;subst hop;obtain⟨callee,args,argTypes⟩:=c;simp only at hcf;subst hcf;have e:evOp E call (.call ⟨.value f,args,argTypes⟩) fr h=W4 call (opv E f fr) (opvs E args.toList fr) h:=rfl;rw[e]at hb hK hQ;have ov:=d9 (E:=E) hs hf f;have oa:=Cz (E:=E) hs hf args.toList;cases hq:opv E f fr with
   | fn g first caps =>
    rw[hq]at hb hK hQ ov;cases g with
    | func n =>
     have e:W4 call (.fn (.func n) first caps) (opvs E args.toList fr) h=call n (appL first (appL (opvs E args.toList fr) caps)) h:=rfl;rw[e]at hb hK hQ;have⟨vs,ws,hv,h1,h2⟩:∃vs ws,a.eval f=.func (.func n) vs ws/\RepL W cx vs.toList first/\RepL W cx ws.toList caps:=by
      generalize a.eval f=u at ov;cases ov with
      |fn f vs ws cs ds hl hl' h h'=>exact⟨vs,ws,rfl,⟨by grind,(by grind)⟩,⟨by grind,(by grind)⟩⟩
     rw [K4,K4]at hb hK hQ;have hl:RepL W cx (vs++args.map a.eval++ws).toList (first++(opvs E args.toList fr++caps)):=by
      have:(vs++args.map a.eval++ws).toList=vs.toList++(args.toList.map a.eval++ws.toList):=by simp
      rw[this];exact h1.append (oa.append h2)
     obtain⟨⟨fn,c,hf1,hf2,hf3⟩,hcl⟩:=hcall n _ _ W cx h hl hs hb;unfold Oper.wp
     have:(execOp a.eval ⟨dst,.call ⟨.value f,args,argTypes⟩,type,pos,after,guard⟩).run P W=.ok (.enter n (vs++args.map a.eval++ws)) W:=by
      have hn : ¬ fn.name = "runtime.NumGoroutine" := fun e => by grind
      simp[execOp,resolve,hv,Deferred.ofValue,invoke,callFunc,hf1,hf2,hn]
     rw[this,Oper.upon_enter];refine hcl.mono fun e w' hp=>?_
     generalize call n (first++(opvs E args.toList fr++caps)) h=r at *;cases r with
     |bad=>grind
     | ok v h' =>
      cases e with
      |returned vv=>obtain⟨cx',h1,h2,h3⟩:=hp;grind
      |panicked c=>exact hp.elim
      |outgrown=>exact hp.elim
     | pan v h' =>
      cases e with
      |returned vv=>exact hp.elim
      |panicked c=>obtain⟨cx',vv,rfl,h1,h2,h3⟩:=hp;grind
      |outgrown=>exact hp.elim
    |_=>exact absurd rfl hb
   |_=>rw[hq]at hb;exact absurd rfl hb
theorem x9{ops:Array Oper}{a:Act}{fr:Tr}(hf:FrRep W cx a.tmps fr)(o:Oper){b:Bool}(hg:guardOk (Q8 ops.toList o) fr=some b):Region.wanted o (yielded ops a.tmps)=b:=by
 unfold Q8 at hg;unfold Region.wanted;cases hgd:o.guard with
 |none=>rw[hgd]at hg;cases hg;rfl
 | some p =>
  obtain ⟨g,want⟩:=p;rw[hgd]at hg;dsimp only at hg|-;have hg:If ((match ops.toList[g]? with|some q=>q.dst|none=>none),want) fr=some b:=hg;have hyd:yielded ops a.tmps g=match((match ops.toList[g]? with|some q=>q.dst|none=>none).bind (a.tmps[·]?))with|some (.bool b)=>some b|_=>none:=by
   grind[yielded]
  generalize hdst:(match ops.toList[g]? with|some q=>q.dst|none=>none)=d at hg hyd;cases d with
  | none =>
   cases hg;grind
  | some t =>
   have hg:Y4 want (fr.get t)=some b:=hg;have hr:=hf.rep t;cases hv:fr.get t with
   | bool c =>
    rw [hv]at hg hr;have e:=hr.bool_inv;have e2:a.tmps[t]?=some (.bool c):=by
     rw[zqd]at e;cases ht:a.tmps[t]? with
     |none=>rw[ht]at e;cases e
     |some u=>grind
    rw[hyd];simp only[zqo,e2];cases want<;>cases c<;>cases hg<;>rfl
   | tup l =>
    rw[hv]at hg hr;cases l with
    |cons x l=>cases hg
    | nil =>
     cases hg;obtain⟨vs,e,_⟩:=hr.tup_inv;rw[hyd];simp only[zqo];rw[zqd]at e;grind
   |_=>rw[hv]at hg;cases hg
theorem Gp(a:Act)(d:Option Tmp)(v:Value):(a.put d v).defers=a.defers:=by cases d<;>rfl
theorem y0(hE:EnvOk E P){call:D1}(hcall:De E P call){S:Act->Prop}{ops:Array Oper}{Q:Exit->Act->World->Prop}:∀(l:List Oper)(W:World)(cx:Cx)(a:Act)(fr:Tr)(h:Heap),(∀o∈l,nM S o.dst)->FrRep W cx a.tmps fr->S a->Sat E W cx h ->
 H1 E call (l.map (bQ ops.toList false [] false)) fr h≠.bad->(∀x a' w',(H1 E call (l.map (bQ ops.toList false [] false)) fr h).Post E W cx S x a' w'->Q x a' w')->wpList P ops Q l a W
 |[],W,cx,a,fr,h,_,hf,hd,hs,hb,hQ=>hQ .normal a W ⟨hd,cx,Ext.refl _ _,rfl,hs,hf⟩
 | o :: l,W,cx,a,fr,h,hst,hf,hd,hs,hb,hQ=>by
  have hst':∀o∈l,nM S o.dst:=(by grind)
  have hso:=hst o (zqf ..);have he:H1 E call ((o::l).map (bQ ops.toList false [] false)) fr h =
   onOB (guardOk (Q8 ops.toList o) fr) .bad (U2 o.dst (H1 E call (l.map (bQ ops.toList false [] false))) fr (evOp E call o.op fr h)) (H1 E call (l.map (bQ ops.toList false [] false)) (setDst o.dst skipped fr) h):=rfl
  rw[he]at hb hQ;cases hg:guardOk (Q8 ops.toList o) fr with
  |none=>rw[hg]at hb;exact absurd rfl hb
  | some b =>
   have hw:=x9 (ops:=ops) hf o hg;rw[hg]at hb hQ;unfold wpList;cases b with
   | false =>
    rw[hw];have hb:H1 E call (l.map (bQ ops.toList false [] false)) (setDst o.dst skipped fr) h≠.bad:=hb;exact y0 hE hcall l W cx _ _ h hst' (hf.put o.dst (show Rep W cx undef skipped from .tup #[] [] rfl (by simp))) (hso _ _ hd) hs hb hQ
   | true =>
    rw[hw];have hb:U2 o.dst (H1 E call (l.map (bQ ops.toList false [] false))) fr (evOp E call o.op fr h)≠.bad:=hb;have hQ:∀x a' w',(U2 o.dst (H1 E call (l.map (bQ ops.toList false [] false))) fr (evOp E call o.op fr h)).Post E W cx S x a' w'->Q x a' w':=hQ;refine .inl (Ip hE hs hf hcall o (fun e=>by rw[e]at hb;exact hb rfl) (fun v h' v' W' cx' e h1 h2 h3=>?_) (fun v h' v' W' cx' e h1 h2 h3=>?_))
    . rw[e]at hb hQ
      exact y0 hE hcall l W' cx' _ _ h' hst' ((hf.mono h1).put o.dst h3) (hso _ _ hd) h2 hb (fun x a' w' hp=>hQ x a' w' (CRes.Post.trans h1 hp))
    . rw[e]at hQ
      exact hQ _ _ _ ⟨hd,cx',h1,v',rfl,h2,h3⟩
end
end Go.AM
/-
 The abstract machine: on what an operation hangs,and what it leaves.
-/
namespace Go.AM
section
variable {E:Env}{call:D1}{h:Heap}
theorem Br{fr fr':Tr}:∀(l:List Operand),(∀y∈l,opv E y fr=opv E y fr')->opvs E l fr=opvs E l fr'
 |[],_=>rfl
 | x::l,hy=>by
  show opv E x fr::opvs E l fr=opv E x fr'::opvs E l fr'
  rw[hy x (zqf ..),Br l fun y hm=>hy y (List.mem_cons_of_mem _ hm)]
theorem Df{fr fr':Tr}:∀(l:List (Nat×Operand)),(∀y∈l.map (·.2),opv E y fr=opv E y fr')->opvps E l fr=opvps E l fr'
 |[],_=>rfl
 | x::l,hy=>by
  show(x.1,opv E x.2 fr)::opvps E l fr=(x.1,opv E x.2 fr')::opvps E l fr'
  rw[hy x.2 (by simp),Df l fun y hm=>hy y (by simp at hm|-;exact .inr hm)]
theorem Gq{fr fr':Tr}(o:Option Operand)(hy:∀y,o=some y->opv E y fr=opv E y fr'):Kx E o fr=Kx E o fr':=by
 cases o with
 |none=>rfl
 |some x=>show some _=some _;grind
theorem n9{fr fr':Tr}(op:Op)(hy:∀y∈op.operands.toList,opv E y fr=opv E y fr')(h:Heap):evOp E call op fr h=evOp E call op fr' h:=by
 cases op with
 |move x=>show Res.ok _ _=Res.ok _ _;rw[hy x (by simp[Op.operands])]
 |assign x=>show Res.ok _ _=Res.ok _ _;rw[hy x (by simp[Op.operands])]
 |pick c a b=>show Yi E c a b fr h=Yi E c a b fr' h;unfold Yi;rw[hy c (by simp[Op.operands]),hy a (by simp[Op.operands]),hy b (by simp[Op.operands])]
 |alloc t=>rfl
 |box t x=>show kE E t x fr h=kE E t x fr' h;unfold kE;rw[hy x (by simp[Op.operands])]
 |build t ps=>show Ow E t ps fr h=Ow E t ps fr' h;unfold Ow;rw[Df ps.toList (fun y hm=>hy y (by simpa[Op.operands]using hm))]
 |buildSlice t n ps=>show J9 E t n ps fr h=J9 E t n ps fr' h;unfold J9;rw[Df ps.toList (fun y hm=>hy y (by simpa[Op.operands]using hm))]
 |load t x=>show Yj E t x fr h=Yj E t x fr' h;unfold Yj;rw[hy x (by simp[Op.operands])]
 |store t a x=>show Ox E t a x fr h=Ox E t a x fr' h;unfold Ox;rw[hy a (by simp[Op.operands]),hy x (by simp[Op.operands])]
 |nilCheck x=>show Bk E x fr h=Bk E x fr' h;unfold Bk;rw[hy x (by simp[Op.operands])]
 |binOp op t x y u=>show Oy E op t x y fr h=Oy E op t x y fr' h;unfold Oy;rw[hy x (by simp[Op.operands]),hy y (by simp[Op.operands])]
 |unOp op t x=>show Yk E op x fr h=Yk E op x fr' h;unfold Yk;rw[hy x (by simp[Op.operands])]
 |convert s d x=>show Ek E s d x fr h=Ek E s d x fr' h;unfold Ek;rw[hy x (by simp[Op.operands])]
 |makeFunc f first caps=>show Bl E f first caps fr h=Bl E f first caps fr' h;unfold Bl;rw[Br first.toList (fun y hm=>hy y (by simp[Op.operands];exact .inl (by simpa using hm))),Br caps.toList (fun y hm=>hy y (by simp[Op.operands];exact .inr (by simpa using hm)))]
 |makeMap t r=>rfl
 |typeAssert x xt t ok=>show k7 E t ok x fr h=k7 E t ok x fr' h;unfold k7;rw[hy x (by simp[Op.operands])]
 |makeInterface t x=>show S7 E t x fr h=S7 E t x fr' h;unfold S7;rw[hy x (by simp[Op.operands])]
 |makeSlice t l c=>show M3 E t l c fr h=M3 E t l c fr' h;unfold M3;rw[hy l (by simp[Op.operands]),hy c (by simp[Op.operands])]
 | slice t x lo hi mx =>
  show El E t x lo hi mx fr h=El E t x lo hi mx fr' h;unfold El
  rw[hy x (by simp[Op.operands]),Gq lo (fun y e=>hy y (by simp[Op.operands,e])),Gq hi (fun y e=>hy y (by simp[Op.operands,e])),Gq mx (fun y e=>hy y (by simp[Op.operands,e]))]
 |fieldAddr t x f=>show w8 E t x f fr h=w8 E t x f fr' h;unfold w8;rw[hy x (by simp[Op.operands])]
 |field t x f=>show Oz E t x f fr h=Oz E t x f fr' h;unfold Oz;rw[hy x (by simp[Op.operands])]
 |indexAddr t x i=>show w9 E t x i fr h=w9 E t x i fr' h;unfold w9;rw[hy x (by simp[Op.operands]),hy i (by simp[Op.operands])]
 |index t x i=>show Pa E t x i fr h=Pa E t x i fr' h;unfold Pa;rw[hy x (by simp[Op.operands]),hy i (by simp[Op.operands])]
 |lookup t m k ok=>rfl
 |mapUpdate t m k x=>rfl
 |insert t m k x=>rfl
 |extract t i=>show Em E t i fr h=Em E t i fr' h;unfold Em;rw[hy t (by simp[Op.operands])]
 | call c =>
  show gN E call c fr h=gN E call c fr' h
  obtain⟨callee,args,argTypes⟩:=c;have ha:=Br (E:=E) (fr:=fr) (fr':=fr') args.toList (fun y hm=>hy y (by simp[Op.operands,Call.operands];exact .inr (by simpa using hm)));cases callee with
  | value f =>
   have hf:=hy f (by simp[Op.operands,Call.operands]);show W4 call (opv E f fr) (opvs E args.toList fr) h=W4 call (opv E f fr') (opvs E args.toList fr') h
   rw[hf,ha]
  |invoke f n=>rfl
  | builtin b =>
   show lift2 (E5 E b argTypes.toList (opvs E args.toList fr) h)=lift2 (E5 E b argTypes.toList (opvs E args.toList fr') h)
   rw[ha]
 |panic x=>show Pb E x fr h=Pb E x fr' h;unfold Pb;rw[hy x (by simp[Op.operands])]
 |_=>rfl
theorem J8{x:Option AV}{v:AV}{h h':Heap}(hx:lift x h=.ok v h')(h₂:Heap):h'=h/\lift x h₂=.ok v h₂:=by
 cases x with
 |none=>cases hx
 |some a=>cases hx;exact⟨rfl,rfl⟩
theorem N9{t:Nat}{f:Heap->TI->Res}{v:AV}{h':Heap}{h₂:Heap}(hf:∀x,f h x=.ok v h'->h'=h/\f h₂ x=.ok v h₂)(hx:onTI E t .bad (f h)=.ok v h'):h'=h/\onTI E t .bad (f h₂)=.ok v h₂:=by
 unfold onTI at hx|-;cases ht:E.ti t with
 |none=>simp_all
 |some x=>rw[ht]at hx;grind
theorem Ld{op:Op}(hc:Fd op=0){fr:Tr}{v:AV}{h':Heap}(hev:evOp E call op fr h=.ok v h')(h₂:Heap):h'=h/\evOp E call op fr h₂=.ok v h₂:=by
 cases op with
 |move x=>cases hev;exact⟨rfl,rfl⟩
 |assign x=>cases hev;exact⟨rfl,rfl⟩
 | pick c x y =>
  have hev:(opv E c fr).onBool Res.bad (fun t=>match t with|true=>Res.ok (opv E x fr) h|false=>Res.ok (opv E y fr) h)=Res.ok v h':=hev;show _/\(opv E c fr).onBool Res.bad (fun t=>match t with|true=>Res.ok (opv E x fr) h₂|false=>Res.ok (opv E y fr) h₂)=Res.ok v h₂
  cases hq:opv E c fr with
  |bool b=>rw[hq]at hev;cases b<;>(cases hev;exact⟨rfl,rfl⟩)
  |_=>rw[hq]at hev;cases hev
 |binOp op t x y u=>exact J8 hev h₂
 |unOp op t x=>exact J8 hev h₂
 |convert s d x=>exact N9 (f:=fun h _=>onTI E d .bad fun td=>lift (O8 td.desc (opv E x fr)) h) (fun _ hx=>N9 (f:=fun h td=>lift (O8 td.desc (opv E x fr)) h) (fun _ hx=>J8 hx h₂) hx) hev
 | extract t i =>
  have hev:(opv E t fr).onTup Res.bad (fun vs=>lift (Cq vs i) h)=Res.ok v h':=hev;show _/\(opv E t fr).onTup Res.bad (fun vs=>lift (Cq vs i) h₂)=Res.ok v h₂
  cases hq:opv E t fr with
  |tup vs=>rw[hq]at hev;exact J8 hev h₂
  |_=>rw[hq]at hev;cases hev
 |field t x f=>exact N9 (f:=fun h ti=>lift (A4 (fieldAt E ti f) fun p=>(opv E x fr).onAgg none fun cs=>partOf p.1 cs p.2) h) (fun _ hx=>J8 hx h₂) hev
 |fieldAddr t x f=>exact N9 (f:=fun h ti=>lift (A4 (fieldAt E ti f) fun p=>A9 (Nat.blt 0 p.1.size) (B0 (opv E x fr) p.2)) h) (fun _ hx=>J8 hx h₂) hev
 |indexAddr t x i=>exact N9 (f:=fun h ti=>lift (A4 (asNat (opv E i fr)) fun i=>O9 E ti.desc i (opv E x fr)) h) (fun _ hx=>J8 hx h₂) hev
 |index t x i=>exact N9 (f:=fun h ti=>lift (A4 (asNat (opv E i fr)) fun i=>Cu E ti.desc i (opv E x fr)) h) (fun _ hx=>J8 hx h₂) hev
 | slice t x lo hi mx =>
  refine N9 (f:=fun h ti=>bif hi.isNone&&mx.isSome then .bad else lift (sliceA E ti.desc (Kx E lo fr) (Kx E hi fr) (Kx E mx fr) (opv E x fr)) h) (fun _ hx=>?_) hev;grind[J8]
 |nilCheck x=>exact J8 hev h₂
 |build t ps=>exact N9 (f:=fun h ti=>lift (M7 E ti (opvps E ps.toList fr)) h) (fun _ hx=>J8 hx h₂) hev
 | makeInterface t x =>
  refine N9 (f:=fun h ti=>bif R7 ti.desc then .ok (.iface t (opv E x fr)) h else .bad) (fun ti hx=>?_) hev;grind
 |makeFunc f first caps=>cases hev;exact⟨rfl,rfl⟩
 | call c =>
  exfalso
  obtain⟨callee,args,argTypes⟩:=c;cases callee with
  |builtin b=>cases b<;>cases hc
  |_=>cases hc
 |_=>cases hc
theorem gY{α:Type}{i:Nat}{d:α}{f:List AV->Nat->α}{h₂:Heap}(hg:h₂.get i=h.get i):h₂.onRow i d f=h.onRow i d f:=by grind[Heap.onRow]
theorem cS{α:Type}{i:Nat}{d:α}{f:List (AV×AV)->α}{h₂:Heap}(hg:h₂.get i=h.get i):h₂.onMapo i d f=h.onMapo i d f:=by grind[Heap.onMapo]
theorem qZ{x y:Option AV}{v:AV}{h h' h₂:Heap}(e:y=x)(hx:lift x h=.ok v h'):h'=h/\lift y h₂=.ok v h₂:=by
 grind[J8]
theorem gZ{h₂:Heap}{t:TI}{x:AV}(hg:∀i,f9 x=some i->h₂.get i=h.get i):Ct t x h₂=Ct t x h:=by
 cases x with
 |ptr id i off=>exact gY (hg id rfl)
 |_=>rfl
theorem nN{h₂:Heap}{d:TD}{x:AV}(hg:∀i,f9 x=some i->h₂.get i=h.get i):gL d x h₂=gL d x h:=by
 cases d with
 | map k e =>
  cases x with
  |map id=>exact cS (hg id rfl)
  |_=>rfl
 |_=>rfl
theorem map_lt{W:World}{cx:Cx}{u:Value}{id:Nat}(hx:Rep W cx u (.map id)):id<cx.nx:=by
 cases hx;assumption
theorem Qt{W:World}{cx:Cx}{u:Value}{x:AV}(hx:Rep W cx u x){i:Nat}(hr:f9 x=some i):i<cx.nx:=by
 cases x with
 |ptr id i off=>cases hr;exact hx.ptr_inv.1
 |map id=>cases hr;exact map_lt hx
 |_=>cases hr
theorem rA{W:World}{cx:Cx}{op:Op}{fr:Tr}(hy:∀y∈op.operands.toList,∃u,Rep W cx u (opv E y fr)){i:Nat}(hr:readO E op fr=some i):i<cx.nx:=by
 cases op with
 |load t x=>obtain⟨u,hu⟩:=hy x (by simp[Op.operands]);exact Qt hu hr
 |lookup t m k ok=>obtain⟨u,hu⟩:=hy m (by simp[Op.operands]);exact Qt hu hr
 | call c =>
  obtain⟨callee,args,argTypes⟩:=c;have hr:(match args.toList with|[]=>none|x::_=>f9 (opv E x fr))=some i:=hr;cases hargs:args.toList with
  |nil=>grind
  | cons a r =>
   rw[hargs]at hr;obtain⟨u,hu⟩:=hy a (by simp[Op.operands,Call.operands];exact .inr (Array.mem_toList_iff.1 (by rw[hargs];exact zqf ..)));exact Qt hu hr
 |_=>cases hr
theorem hH{op:Op}(hc:Fd op=1){fr:Tr}{h₂:Heap}(hg:∀i,readO E op fr=some i->h₂.get i=h.get i){v:AV}{h':Heap}(hev:evOp E call op fr h=.ok v h'):h'=h/\evOp E call op fr h₂=.ok v h₂:=by
 cases op with
 | load t x =>
  exact N9 (f:=fun h ti=>lift (Ct ti (opv E x fr) h) h) (fun ti hx=>qZ (gZ hg) hx) hev
 |lookup t m k ok=>cases hev
 | call c =>
  obtain⟨callee,args,argTypes⟩:=c;cases callee with
  |value f=>cases hc
  |invoke f n=>cases hc
  | builtin b =>
   have hev:lift2 (E5 E b argTypes.toList (opvs E args.toList fr) h)=.ok v h':=hev;show _/\lift2 (E5 E b argTypes.toList (opvs E args.toList fr) h₂)=.ok v h₂
   have hrep:∀x l,opvs E args.toList fr=x::l->∀i,f9 x=some i->h₂.get i=h.get i:=by
    intro x l e i hi;refine hg i ?_;show(match args.toList with|[]=>none|x::_=>f9 (opv E x fr))=some i
    cases hargs:args.toList with
    |nil=>rw[hargs]at e;cases e
    | cons a r =>
     rw[hargs]at e;have e:opv E a fr::opvs E r fr=x::l:=e
     have:=(List.cons.inj e).1
     show f9 (opv E a fr)=_
     rw[this];exact hi
   cases b with
   | len =>
    have hev:lift2 (Uq E argTypes.toList (opvs E args.toList fr) h)=.ok v h':=hev;show _/\lift2 (Uq E argTypes.toList (opvs E args.toList fr) h₂)=.ok v h₂
    unfold Uq at hev|-;generalize argTypes.toList=ats at hev|-;generalize opvs E args.toList fr=vs at hev hrep|-;cases ats with
    |nil=>cases hev
    | cons t ts =>
     cases vs with
     |nil=>cases hev
     | cons x l =>
      have hu:=hrep x l rfl;dsimp only at hev|-;unfold onTI at hev|-;generalize E.ti t=et at hev|-;cases et with
      |none=>cases hev
      | some ti =>
       dsimp only at hev|-;rw[nN hu];cases hl:gL ti.desc x h with
       |none=>rw[hl]at hev;cases hev
       | some n =>
        rw[hl]at hev;simp only[A4,B7,lift2]at hev|-;cases hev;exact⟨rfl,rfl⟩
   | max =>
    have hev:lift2 (nF (opvs E args.toList fr) h)=.ok v h':=hev;show _/\lift2 (nF (opvs E args.toList fr) h₂)=.ok v h₂
    unfold nF at hev|-;generalize opvs E args.toList fr=vs at hev|-;cases vs with
    |nil=>cases hev
    | cons x l =>
     dsimp only at hev|-;cases hm:Ku l x with
     |none=>rw[hm]at hev;cases hev
     |some r=>rw[hm]at hev;cases hev;exact⟨rfl,rfl⟩
   | min =>
    have hev:lift2 (nG (opvs E args.toList fr) h)=.ok v h':=hev;show _/\lift2 (nG (opvs E args.toList fr) h₂)=.ok v h₂
    unfold nG at hev|-;generalize opvs E args.toList fr=vs at hev|-;cases vs with
    |nil=>cases hev
    | cons x l =>
     dsimp only at hev|-;cases hm:Ns l x with
     |none=>rw[hm]at hev;cases hev
     |some r=>rw[hm]at hev;cases hev;exact⟨rfl,rfl⟩
   |_=>cases hc
 |_=>cases hc
end
end Go.AM
/-
 The abstract machine: new objects; what is left as it was.
-/
namespace Go.AM
section
variable {P:Program}{E:Env}{W:World}{cx:Cx}{h:Heap}{call:D1}
def zG(P:Program)(W:World)(cx:Cx)(s:Sem Next)(es:List AV)(sz:Nat)(nx:Nat->AV):Prop:=
 ∃ (c:Array Value) (t:TypeId) (vs:List Value) (v':Value),s.run P W=.ok (.value v') (W.alloc (.cells c t))/\RowRep W cx vs es sz/\(∀(k:Nat) v,vs[k]?=some v->c[k]?=some v)/\es.length*sz<=c.size/\
   ∀(W₂:World)(cx₂:Cx)(id:Nat),cx₂.μ id=(W.heap.size,0,sz)->id<cx₂.nx->W.heap.size<W₂.heap.size->szOf W₂ W.heap.size=c.size->Rep W₂ cx₂ v' (nx id)
theorem Wi{v:Value}{a:AV}{sz:Nat}(hv:Rep W cx v a)(hok:Ur v.cells.toList)(hu:a≠.und)(hz:a.cells.length=sz)(t:TypeId){s:Sem Next}(hs:s.run P W=.ok (.value (.pointer (some ⟨W.heap.size,0,none⟩))) (W.alloc (.cells v.cells t))):
 zG P W cx s [a] sz (fun id=>.ptr id 0 0):=by
 have hcs:=hv.cells hu;refine⟨v.cells,t,_,_,hs,RowRep.one hcs hok hz,fun k v hk=>by grind,by have:=hcs.1;grind,fun W₂ cx₂ id h1 h2 h3 h4=>?_⟩
 have:=Rep.ptr (W:=W₂) (cx:=cx₂) id 0 0 h2 (by grind)
 grind
theorem rB(hE:EnvOk E P)(hs:Sat E W cx h){a:Act}{fr:Tr}(hf:FrRep W cx a.tmps fr)(o:Oper)(hc:Fd o.op=2){v:AV}{h₁ h':Heap}(hev:evOp E call o.op fr h₁=.ok v h'):
 ∃es sz nx,v=nx h₁.next/\h'=h₁.push (.row es sz)/\(∀h₂,evOp E call o.op fr h₂=.ok (nx h₂.next) (h₂.push (.row es sz)))/\zG P W cx (execOp a.eval o) es sz nx:=by
 have ov:=fun x=>d9 (E:=E) hs hf x
 obtain⟨dst,op,type,pos,after,guard⟩:=o;cases op with
 | alloc t =>
  obtain⟨ti,ht,hq⟩:=E4 hev;have hty:=hE.ti t ti ht;obtain⟨z,hzr,hzo⟩:=hty.run_zero (W:=W);cases hq;refine⟨[ti.zero],ti.size,fun id=>.ptr id 0 0,rfl,rfl,fun h₂=>?_,Wi (hzo.rep W cx) hzo.one hzo.und hty.zsz t ?_⟩
  . show onTI E t .bad (fun ti=>gM ti.size ti.zero h₂)=_
    unfold onTI;rw[ht];rfl
  . simp[execOp,Instr.alloc,hzr,newVar,newRow]
 | box t x =>
  obtain⟨ti,ht,hq⟩:=E4 hev;cases hg:(Nat.beq (lenL (opv E x fr).cells) ti.size&&D3 (opv E x fr).cells)with
  |false=>grind
  | true =>
   rw [hg]at hq;cases hq;have hg0:=hg;rw[zqa,A5,F9]at hg;have hu:opv E x fr≠.und:=fun e=>by
    have:=hg.2 .und (by rw[e];simp[AV.cells])
    cases this
   refine⟨[opv E x fr],ti.size,fun id=>.ptr id 0 0,rfl,rfl,fun h₂=>?_,Wi (ov x) (((ov x).cells hu).one hg.2) hu (D2 hg.1) t ?_⟩
   . show onTI E t .bad (fun ti=>bif Nat.beq (lenL (opv E x fr).cells) ti.size&&D3 (opv E x fr).cells then gM ti.size (opv E x fr) h₂ else .bad)=_
     unfold onTI;rw[ht];dsimp only;rw[hg0];rfl
   . simp[execOp,Instr.box,newVar,newRow]
 | buildSlice t n ps =>
  obtain⟨ti,ht,hq⟩:=E4 hev;cases hte:elemOfT E ti.desc with
  |none=>grind
  | some te =>
   rw[hte]at hq;cases hg:(Nat.ble (Nat.mul n te.size) 65536&&Nat.blt 0 te.size)with
   |false=>grind
   | true =>
    simp only[hg,cond_true]at hq;cases hp:placeL te.size (opvps E ps.toList fr) (repL n te.zero)with
    |none=>grind
    | some es =>
     rw[hp]at hq;cases hq;obtain⟨l1,l2⟩:=Eo hs hf ps.toList;obtain⟨e,c',h1,h2,h3,h4⟩:=Di hE hs ht hte (ps:=ps.map fun p=>(p.1,a.eval p.2)) (by grind) (by grind) hg hp;refine⟨es,te.size,fun id=>.msl id 0 n te.size,rfl,rfl,fun h₂=>?_,c',e,c'.toList,.slice (some ⟨W.heap.size,0,none⟩) n n,?_,h2,fun k v hk=>by grind,by grind,fun W₂ cx₂ id k1 k2 k3 k4=>?_⟩
     . show J9 E t n ps fr h₂=_
       unfold J9;unfold onTI;rw[ht];grind
     . show((do pure (.value (<-Instr.buildSlice t n (ps.map fun p=>(p.1,a.eval p.2))))):Sem Next).run P W=_
       simp_all
     simp_all[Yz]
 | makeSlice t l c =>
  obtain⟨ti,ht,hq⟩:=E4 hev;cases hte:elemOfT E ti.desc with
  |none=>grind
  | some te =>
   rw[hte]at hq;dsimp only at hq;cases hl:asNat (opv E l fr)with
   |none=>grind
   | some n =>
    rw[hl]at hq;dsimp only at hq;cases hm:asNat (opv E c fr)with
    |none=>grind
    | some m =>
     rw[hm]at hq;dsimp only at hq;cases hg:(Nat.ble n m&&Nat.ble (Nat.mul m te.bytes) 140737488355328&&Nat.blt 0 te.size)with
     |false=>grind
     | true =>
      rw[hg]at hq;cases hq;obtain⟨e,c',vs,h1,h2,h3,h4,h5⟩:=Uz hE hs ht hte (ov l) (ov c) hl hm hg;refine⟨repL n te.zero,te.size,fun id=>.msl id 0 n te.size,rfl,rfl,fun h₂=>?_,c',e,vs,.slice (some ⟨W.heap.size,0,none⟩) n m,?_,h2,h3,by simp_all[d8,Nat.mul_le_mul_right],fun W₂ cx₂ id k1 k2 k3 k4=>?_⟩
      . show M3 E t l c fr h₂=_
        unfold M3;unfold onTI;rw[ht];grind
      . show((do pure (.value (<-Instr.makeSlice t (a.eval l) (a.eval c)))):Sem Next).run P W=_
        simp_all
      grind[Yz]
 | call c =>
  exfalso
  obtain⟨callee,args,argTypes⟩:=c;cases callee with
  |builtin b=>cases b<;>cases hc
  |_=>cases hc
 |_=>cases hc
structure Pres(h h':Heap):Prop where
 next:h.next<=h'.next
 get:∃new,h'.tch=new++h.tch/\∀i,i<h.next->i∉new->h'.get i=h.get i
def Res.heap(r:Res):Option Heap:=match r with | .ok _ h=>some h | .pan _ h=>some h | .bad=>none
def L8(call:D1):Prop:=∀f l h h',Res.heap (call f l h)=some h'->Pres h h'
theorem Pres.refl(h:Heap):Pres h h:=⟨zql _,[],rfl,fun _ _ _=>rfl⟩
theorem Pres.trans{h h₁ h₂:Heap}(a:Pres h h₁)(b:Pres h₁ h₂):Pres h h₂:=by
 obtain⟨a1,n1,a2,a3⟩:=a;obtain⟨b1,n2,b2,b3⟩:=b;refine⟨zqm a1 b1,n2++n1,by grind,fun i hi hn=>?_⟩;grind
theorem Pres.set(h:Heap)(i:Nat)(x:AObj):Pres h (h.set i x):=
 ⟨zql _,[i],rfl,(by grind[Go.AM.Heap.get_set_ne])⟩
theorem Pres.del(h:Heap)(i:Nat):Pres h (h.del i):=
 ⟨zql _,[i],rfl,(by grind[Go.AM.Heap.get_del_ne])⟩
theorem Pres.push(h:Heap)(x:AObj):Pres h (h.push x):=
 ⟨Nat.le_succ _,[],rfl,(by grind[Go.AM.Heap.get_push_ne])⟩
theorem Y7{t:Nat}{f:TI->Res}{v:AV}{h':Heap}(hx:onTI E t .bad f=.ok v h')(hf:∀x,f x=.ok v h'->Pres h h'):Pres h h':=by
 grind[E4]
theorem Wj{x:Option AV}{v:AV}{h':Heap}(hx:lift x h=.ok v h'):Pres h h':=by
 rw[(G4 hx).2];exact .refl h
theorem Iq{te:TI}{s:AV}{xs:List AV}{r:AV}{h':Heap}(ha:G9 te s xs h=some (r,h')):Pres h h':=by
 unfold G9 at ha;cases xs with
 |nil=>cases s<;>first|(cases ha;exact .refl h)|cases ha
 | cons x xs =>
  cases s with
  | nilsl =>
   have ha:w7 te [] true (x::xs) h=some (r,h'):=ha;rw[Gj]at ha;rw[B7]at ha;obtain⟨_,ha⟩:=A7 ha;cases ha;exact .push _ _
  | fsl es full =>
   have ha:w7 te es full (x::xs) h=some (r,h'):=ha;rw[Gj]at ha;rw[B7]at ha;obtain⟨_,ha⟩:=A7 ha;cases ha;exact .push _ _
  | msl id off n sz =>
   obtain⟨es,sz',_,ha⟩:=Heap.onRow_some ha;rw[Qi]at ha;rw[B7]at ha;obtain⟨_,ha⟩:=A7 ha;cases ha;exact(Pres.del h id).trans (.push _ _)
  |_=>cases ha
theorem builtinA_pres{b:Builtin}{ts:List TypeId}{args:List AV}{r:AV}{h':Heap}(hb:E5 E b ts args h=some (r,h')):Pres h h':=by
 cases b with
 | append =>
  have hb:Ib E ts args h=some (r,h'):=hb;unfold Ib at hb;cases ts with
  |nil=>cases hb
  | cons t ts =>
   cases ts with
   |nil=>cases hb
   | cons tx ts =>
    cases args with
    |nil=>cases hb
    | cons s l =>
     cases l with
     |nil=>cases hb
     | cons x l =>
      obtain ⟨ti,_,hb⟩:=D7 hb;obtain⟨te,_,hb⟩:=A0 hb;obtain⟨_,hb⟩:=A7 hb;obtain⟨tix,_,hb⟩:=D7 hb;have key:A4 (elems x h) (fun xs=>A9 (F1 te.size xs) (G9 te s xs h))=some (r,h')->Pres h h':=fun hb=>by
       obtain⟨xs,_,hb⟩:=A0 hb;obtain⟨_,hb⟩:=A7 hb;exact Iq hb
      cases hd:tix.desc with
      | int k =>
       rw[hd]at hb;obtain⟨n,_,hb⟩:=A0 hb;obtain⟨_,hb⟩:=A7 hb;exact Iq hb
      |_=>rw[hd]at hb;exact key hb
 | len =>
  have hb:Uq E ts args h=some (r,h'):=hb;unfold Uq at hb;cases ts with
  |nil=>cases hb
  | cons t ts =>
   cases args with
   |nil=>cases hb
   | cons x l =>
    obtain⟨ti,_,hb⟩:=D7 hb;obtain⟨n,_,hb⟩:=A0 hb;rw[B7]at hb;cases hb;exact .refl _
 | copy =>
  have hb:cJ E ts args h=some (r,h'):=hb;unfold cJ at hb;cases ts with
  |nil=>cases hb
  | cons t ts =>
   cases args with
   |nil=>cases hb
   | cons d l =>
    cases l with
    |nil=>cases hb
    | cons s l =>
     obtain⟨ti,_,hb⟩:=D7 hb;obtain⟨te,_,hb⟩:=A0 hb;obtain⟨xs,_,hb⟩:=A0 hb;obtain⟨_,hb⟩:=A7 hb;cases d with
     | msl id off n sz =>
      obtain⟨es,sz',_,hb⟩:=Heap.onRow_some hb;unfold Ia at hb;rw[B7]at hb;obtain⟨_,hb⟩:=A7 hb;cases hb;exact .set _ _ _
     |nilsl=>cases hb;exact .refl _
     |_=>cases hb
 | max =>
  cases args with
  |nil=>cases hb
  | cons x l =>
   obtain⟨y,_,hb⟩:=zqn.1 (show(Ku l x).map (·,h)=some (r,h')from hb);cases hb;exact .refl _
 | min =>
  cases args with
  |nil=>cases hb
  | cons x l =>
   obtain⟨y,_,hb⟩:=zqn.1 (show(Ns l x).map (·,h)=some (r,h')from hb);cases hb;exact .refl _
 |_=>cases hb
theorem evOp_pres(hcall:L8 call){op:Op}{fr:Tr}{v:AV}{h':Heap}(hev:evOp E call op fr h=.ok v h'):Pres h h':=by
 by_cases h0:Fd op=0
 . rw[(Ld h0 hev h).1];exact .refl _
 cases op with
 |alloc t=>exact Y7 hev fun ti hx=>by cases hx;exact .push _ _
 | box t x =>
  refine Y7 hev fun ti hx=>?_
  cases hb:(Nat.beq (lenL (opv E x fr).cells) ti.size&&D3 (opv E x fr).cells)with
  |true=>rw[hb]at hx;cases hx;exact .push _ _
  |false=>rw[hb]at hx;cases hx
 | buildSlice t n ps =>
  refine Y7 hev fun ti hx=>?_
  cases hte:elemOfT E ti.desc with
  |none=>rw[hte]at hx;cases hx
  | some te =>
   rw[hte]at hx;dsimp only at hx;cases hg:(Nat.ble (Nat.mul n te.size) 65536&&Nat.blt 0 te.size)with
   |false=>rw[hg]at hx;cases hx
   | true =>
    rw[hg]at hx;simp only[cond_true]at hx;cases hp:placeL te.size (opvps E ps.toList fr) (repL n te.zero)with
    |none=>rw[hp]at hx;cases hx
    |some es=>rw[hp]at hx;cases hx;exact .push _ _
 |load t x=>exact Y7 hev fun ti hx=>Wj hx
 | typeAssert x xt t ok =>
  refine Y7 hev fun ti hx=>?_
  cases hb:(R7 ti.desc && !ok)with
  |true=>rw[hb]at hx;exact Wj hx
  |false=>rw[hb]at hx;cases hx
 |lookup t m k ok=>cases hev
 | store t x y =>
  refine Y7 hev fun ti hx=>?_
  cases hq:Bj ti (opv E x fr) (opv E y fr) h with
  |none=>rw[hq]at hx;cases hx
  | some h2 =>
   rw[hq]at hx;cases hx;cases hp:opv E x fr with
   | ptr id i off =>
    rw[hp]at hq;obtain⟨es,sz,_,hq⟩:=Heap.onRow_some hq;obtain⟨old,_,hq⟩:=A0 hq;obtain⟨_,hq⟩:=A7 hq;cases hq;exact .set _ _ _
   |_=>rw[hp]at hq;cases hq
 | makeMap t r =>
  cases r with
  |none=>cases hev;exact .push _ _
  |some r=>cases hev
 | makeSlice t l c =>
  refine Y7 hev fun ti hx=>?_
  cases hte:elemOfT E ti.desc with
  |none=>rw[hte]at hx;cases hx
  | some te =>
   rw[hte]at hx;dsimp only at hx;cases hl:asNat (opv E l fr)with
   |none=>rw[hl]at hx;cases hx
   | some n =>
    rw[hl]at hx;dsimp only at hx;cases hm:asNat (opv E c fr)with
    |none=>rw[hm]at hx;cases hx
    | some m =>
     rw[hm]at hx;dsimp only at hx;cases hg:(Nat.ble n m&&Nat.ble (Nat.mul m te.bytes) 140737488355328&&Nat.blt 0 te.size)with
     |false=>rw[hg]at hx;cases hx
     |true=>rw[hg]at hx;cases hx;exact .push _ _
 |mapUpdate t m k x=>cases hev
 |insert t m k x=>cases hev
 | call c =>
  obtain⟨callee,args,argTypes⟩:=c;cases callee with
  | value f =>
   have hev:W4 call (opv E f fr) (opvs E args.toList fr) h=.ok v h':=hev;cases hq:opv E f fr with
   | fn g first caps =>
    rw[hq]at hev;cases g with
    |func n=>exact hcall _ _ _ _ (by show Res.heap (W4 call (.fn (.func n) first caps) (opvs E args.toList fr) h)=_;rw[hev];rfl)
    |_=>cases hev
   |_=>rw[hq]at hev;cases hev
  |invoke f n=>cases hev
  | builtin b =>
   have hev:lift2 (E5 E b argTypes.toList (opvs E args.toList fr) h)=.ok v h':=hev;cases hq:E5 E b argTypes.toList (opvs E args.toList fr) h with
   |none=>rw[hq]at hev;cases hev
   |some p=>rw[hq]at hev;cases hev;exact builtinA_pres hq
 | panic x =>
  exfalso
  have hev:nI (opv E x fr) h=.ok v h':=hev;cases hq:opv E x fr<;>rw[hq]at hev<;>cases hev
 |_=>first|exact absurd rfl h0|cases hev
theorem evOp_pres_pan(hcall:L8 call){op:Op}{fr:Tr}{v:AV}{h':Heap}(hev:evOp E call op fr h=.pan v h'):Pres h h':=by
 by_cases hp:∃x,op=.panic x
 . obtain⟨x,rfl⟩:=hp
   have hev:nI (opv E x fr) h=.pan v h':=hev;cases hq:opv E x fr with
   |iface t w=>rw[hq]at hev;cases hev;exact .refl h
   |_=>rw[hq]at hev;cases hev
 . by_cases hc:∃c f,op=.call c/\c.callee=.value f
   . obtain ⟨c,f,rfl,hf⟩:=hc
     obtain⟨callee,args,argTypes⟩:=c;dsimp only at hf;subst hf;have hev:W4 call (opv E f fr) (opvs E args.toList fr) h=.pan v h':=hev;cases hq:opv E f fr with
     | fn g first caps =>
      rw[hq]at hev;cases g with
      |func n=>exact hcall _ _ _ _ (by show Res.heap (W4 call (.fn (.func n) first caps) (opvs E args.toList fr) h)=_;rw[hev];rfl)
      |_=>cases hev
     |_=>rw[hq]at hev;cases hev
   . exact absurd hev (Qr (fun x e=>hp ⟨x,e⟩) (fun c f e e2=>hc ⟨c,f,e,e2⟩) v h')
end
end Go.AM
/-
 The abstract machine: a region that draws its order: the plan,and the run in the order of reference.
-/
namespace Go.AM
structure Plan(ops:Array Oper)(ms l:List Nat):Prop where
 len:l.length=ops.size
 lt:∀(m i:Nat),l[m]?=some i->i<ops.size
 all:∀(i:Nat),i<ops.size->∃m:Nat,l[m]?=some i
 inj:∀(m m' i:Nat),l[m]?=some i->l[m']?=some i->m=m'
 pair:∀(m m' i j:Nat),m<m'->l[m]?=some i->l[m']?=some j->Yl ops.toList ms i j=true/\bit (ms.getD i 0) j=false
 mask:∀(i j:Nat),i<ops.size->j<ops.size->bit (ms.getD j 0) i=true->∃o,ops[j]?=some o/\∃e∈directs o,e=i\/bit (ms.getD e 0) i=true
 news:∀(m i:Nat)(o:Oper),l[m]?=some i->ops[i]?=some o->Fd o.op=2->∀(m' j:Nat),m<m'->l[m']?=some j->bit (ms.getD j 0) i=true->∀(m'' k:Nat),m''<m->l[m'']?=some k->bit (ms.getD j 0) k=true
 edge:∀(j:Nat)(o:Oper)(e:Nat),ops[j]?=some o->e∈directs o->e<ops.size/\bit (ms.getD j 0) e=true/\e≠j
 dst:∀(m m' i j:Nat)(x y:Oper)(d:Tmp),m<m'->l[m]?=some i->l[m']?=some j->ops[i]?=some x->ops[j]?=some y->x.dst=some d->y.dst≠some d
theorem Qu:∀(l:List Nat),Yn l=true->∀(m m':Nat) i,l[m]?=some i->l[m']?=some i->m=m'
 |[],_,m,m',i,h,_=>by simp at h
 | a :: r,hn,m,m',i,h,h'=>by
  unfold Yn at hn;rw[zqa]at hn;have hc:a∉r:=by
   grind
  cases m with
  | zero =>
   grind
  | succ m =>
   cases m' with
   | zero =>
    grind
   | succ m' =>
    simp at h h';rw[Qu r hn.2 m m' i h h']
theorem pairsOk_get{ops:List Oper}{ms:List Nat}:∀(l:List Nat),Pd ops ms l=true->∀(m m':Nat) i j,m<m'->l[m]?=some i->l[m']?=some j->Yl ops ms i j=true/\bit (ms.getD i 0) j=false
 |[],_,m,m',i,j,_,h,_=>by simp at h
 | a :: r,hn,m,m',i,j,hlt,h,h'=>by
  unfold Pd at hn;rw[zqa]at hn;cases m' with
  |zero=>omega
  | succ m' =>
   simp at h';cases m with
   | zero =>
    grind
   | succ m =>
    simp at h;exact pairsOk_get r hn.2 m m' i j (by omega) h h'
theorem Qv{ops:List Oper}:∀(l:List Nat),Yo ops l=true->∀(m m':Nat) i j x y d,m<m'->l[m]?=some i->l[m']?=some j->ops[i]?=some x->ops[j]?=some y->x.dst=some d->y.dst≠some d
 |[],_,m,m',i,j,x,y,d,_,h,_,_,_,_=>by simp at h
 | a :: r,hn,m,m',i,j,x,y,d,hlt,h,h',hx,hy,hd=>by
  unfold Yo at hn;rw[zqa]at hn;cases m' with
  |zero=>omega
  | succ m' =>
   simp at h';cases m with
   | zero =>
    simp at h;subst h
    have:=(zqe.1 hn.1) j (zqh h')
    grind
   | succ m =>
    simp at h;exact Qv r hn.2 m m' i j x y d (by omega) h h' hx hy hd
theorem Qw{ops:List Oper}{ms:List Nat}:∀(l ahead:List Nat),Ym ops ms ahead l=true->∀(m:Nat) i o,l[m]?=some i->ops[i]?=some o->Fd o.op=2->∀m' j,m<m'->l[m']?=some j->bit (ms.getD j 0) i=true ->
 (∀k∈ahead,bit (ms.getD j 0) k=true)/\∀m'' k,m''<m->l[m'']?=some k->bit (ms.getD j 0) k=true
 |[],_,_,m,i,o,h,_,_,_,_,_,_,_=>by simp at h
 | a :: r,ahead,hn,m,i,o,h,ho,hc,m',j,hlt,h',hb=>by
  unfold Ym at hn;rw[zqa]at hn;cases m' with
  |zero=>omega
  | succ m' =>
   simp at h';cases m with
   | zero =>
    simp at h;subst h;have h1:=hn.1;have hcl:clsAt ops a=2:=by grind[clsAt]
    rw[hcl]at h1;have h2:(r.all fun j=>!(bit (ms.getD j 0) a)||ahead.all fun i=>bit (ms.getD j 0) i)=true:=by simpa using h1
    grind
   | succ m =>
    simp at h;obtain⟨h4,h5⟩:=Qw r (a::ahead) hn.2 m i o h ho hc m' j (by omega) h' hb;grind
theorem wN{ops:Array Oper}{ms l:List Nat}(h:Ky ops.toList ms l=true):Plan ops ms l:=by
 unfold Ky at h;simp only[zqa]at h;obtain⟨⟨⟨⟨⟨⟨h1,h2⟩,h3⟩,h4⟩,h5⟩,h6⟩,h7⟩:=h;unfold qQ at h1;simp only[zqa]at h1;obtain⟨⟨⟨a1,a2⟩,a3⟩,a4⟩:=h1;have hlen:l.length=ops.size:=by simp_all
 have hlt:∀(m i:Nat),l[m]?=some i->i<ops.size:=fun m i hm=>by
  have:=I8 ((zqe.1 a3) i (zqh hm));simpa using this
 refine⟨hlen,hlt,fun i hi=>?_,fun m m' i=>Qu l a4 m m' i,(by grind[Go.AM.pairsOk_get]),fun i j hi hj hb=>?_,fun m i o hm ho hc m' j hlt' hm' hb m'' k hk hk'=>?_,fun j o e ho he=>?_,fun m m' i j x y d hlt' hm hm' hx hy hd=>?_⟩
 . have:=(zqe.1 a2) i (by unfold Nt;simp;exact hi)
   have hm:i∈l:=by simpa using this
   exact zqi hm
 . unfold kF at h3
   have h8:=(zqe.1 h3) j (by unfold Nt;simp;exact hj);have h9:=(zqe.1 h8) i (by unfold Nt;simp;exact hi);simp_all
 . exact(Qw l [] h4 m i o hm (by rw[zqc];exact ho) hc m' j hlt' hm' hb).2 m'' k hk hk'
 . have hj:j<ops.size:=by
    grind
   unfold kG at h6;have h8:=(zqe.1 h6) j (by unfold Nt;simp;exact hj);rw[zqc,ho]at h8;have h9:=(zqe.1 h8) e he;simp only[zqa,zqb]at h9;obtain⟨⟨b1,b2⟩,b3⟩:=h9;refine⟨by simp_all,b2,fun e'=>?_⟩;simp_all
 grind[Qv]
theorem Plan.apart{ops:Array Oper}{ms l:List Nat}(hp:Plan ops ms l){m m' i j:Nat}{x y:Oper}(hlt:m<m')(hm:l[m]?=some i)(hm':l[m']?=some j)(hx:ops[i]?=some x)(hy:ops[j]?=some y)(hb:bit (ms.getD j 0) i=false):
 Fd y.op≠3/\(∀d,x.dst=some d->d∉AM.looksAt ops.toList y)/\(∀d,y.dst=some d->d∉AM.looksAt ops.toList x):=by
 have h:=(hp.pair m m' i j hlt hm hm').1;unfold Yl at h;rw[hb]at h;simp only[Bool.false_or,zqa,zqb]at h;obtain⟨h1,h2⟩:=h;unfold clsAt at h1;rw[zqc,hy]at h1;unfold apartAt at h2;rw[zqc,hx]at h2;dsimp only at h2;rw[zqc,hy]at h2;dsimp only at h1 h2;unfold qO at h2;rw[zqa]at h2;refine⟨fun e=>(by simp_all),fun d hd hm=>?_,fun d hd hm=>?_⟩
 . grind
 grind
section
variable (E:Env)(call:D1)
abbrev HD:=Heap×List Nat
def zH(r:DRes):Option (AV×HD):=match r with | .ok v h d=>some (v,h,d)|_=>none
noncomputable def stp(x:XOp)(fr:Tr)(h:HD):Option (AV×HD):=
 match guardOk x.gd fr with
 |none=>none
 |some b=>match b with|false=>some (skipped,h)|true=>zH (evOpD E call x fr h.1 h.2)
noncomputable def FS(x:XOp)(s:Tr×HD):Option (Tr×HD):=A4 (stp E call x s.1 s.2) fun r=>some (setDst x.dst r.1 s.1,r.2)
noncomputable def St(xs:List XOp)(s₀:Tr×HD):Nat->Option (Tr×HD)
 |0=>some s₀
 |m+1=>A4 (St xs s₀ m) fun s=>A4 xs[m]? fun x=>FS E call x s
end
section
variable {E:Env}{call:D1}{xs:List XOp}{s₀:Tr×HD}
theorem Yu{m:Nat}{s:Tr×HD}(h:St E call xs s₀ (m+1)=some s):∃s' x r,St E call xs s₀ m=some s'/\xs[m]?=some x/\stp E call x s'.1 s'.2=some r/\s=(setDst x.dst r.1 s'.1,r.2):=by
 obtain⟨s',h1,h⟩:=A0 h;obtain⟨x,h2,h⟩:=A0 h;obtain⟨r,h3,h⟩:=A0 h;grind
theorem Ir{m:Nat}{s':Tr×HD}{x:XOp}{r:AV×HD}(h1:St E call xs s₀ m=some s')(h2:xs[m]?=some x)(h3:stp E call x s'.1 s'.2=some r):St E call xs s₀ (m+1)=some (setDst x.dst r.1 s'.1,r.2):=by
 show A4 (St E call xs s₀ m) _=_
 rw[h1];show A4 xs[m]? _=_
 rw[h2];show A4 (stp E call x s'.1 s'.2) _=_
 rw[h3];rfl
theorem zI{m:Nat}{s:Tr×HD}(h:St E call xs s₀ m=some s):∀{k:Nat},k<=m->∃s',St E call xs s₀ k=some s':=by
 induction m generalizing s with
 |zero=>grind
 | succ m ih =>
  intro k hk;rcases Nat.lt_or_ge k (m+1)with h'|h'
  . grind[Yu]
  grind
theorem run_cases:∀(n k:Nat),xs.length-k=n->k<=xs.length->∀(fr:Tr)(h:HD),St E call xs s₀ k=some (fr,h)->evOpsD E call (xs.drop k) fr h.1 h.2≠.bad ->
 (∃ fr' h',St E call xs s₀ xs.length=some (fr',h')/\evOpsD E call (xs.drop k) fr h.1 h.2=.ok .normal fr' h'.1)\/
   ∃m x fr' h' v hh,k<=m/\St E call xs s₀ m=some (fr',h')/\xs[m]?=some x/\guardOk x.gd fr'=some true/\evOpD E call x fr' h'.1 h'.2=.pan v hh/\virtD E call (xs.drop (m+1)) x.late (setDst x.dst skipped fr') h'.1 h'.2=true/\evOpsD E call (xs.drop k) fr h.1 h.2=.pan v hh
 | 0,k,hn,hk,fr,h,hs,hb=>by
  have:k=xs.length:=by omega
  subst this;exact .inl ⟨fr,h,hs,by rw[List.drop_length];rfl⟩
 | n + 1,k,hn,hk,fr,h,hs,hb=>by
  have hlt:k<xs.length:=by omega
  have hd:xs.drop k=xs[k]::xs.drop (k+1):=List.drop_eq_getElem_cons hlt;have hx:xs[k]?=some xs[k]:=zqj hlt;rw[hd]at hb|-;have e:evOpsD E call (xs[k]::xs.drop (k+1)) fr h.1 h.2=onOB (guardOk xs[k].gd fr) .bad (M8 xs[k].dst (evOpsD E call (xs.drop (k+1))) (virtD E call (xs.drop (k+1)) xs[k].late (setDst xs[k].dst skipped fr) h.1 h.2) fr (evOpD E call xs[k] fr h.1 h.2)) (evOpsD E call (xs.drop (k+1)) (setDst xs[k].dst skipped fr) h.1 h.2):=rfl;rw[e]at hb|-;cases hg:guardOk xs[k].gd fr with
  |none=>rw[hg]at hb;exact absurd rfl hb
  | some b =>
   rw[hg]at hb;cases b with
   | false =>
    have hstp:stp E call xs[k] fr h=some (skipped,h):=by unfold stp;rw[hg]
    have hs':=Ir hs hx hstp;have hb:evOpsD E call (xs.drop (k+1)) (setDst xs[k].dst skipped fr) h.1 h.2≠.bad:=hb;rcases run_cases n (k+1) (by omega) hlt _ _ hs' hb with⟨fr',h',h1,h2⟩|⟨m,x,fr',h',v,hh,h1,h2,h3,h4,h5,h6,h7⟩
    . exact .inl ⟨fr',h',h1,h2⟩
    . exact .inr ⟨m,x,fr',h',v,hh,by omega,h2,h3,h4,h5,h6,h7⟩
   | true =>
    have hb:M8 xs[k].dst (evOpsD E call (xs.drop (k+1))) (virtD E call (xs.drop (k+1)) xs[k].late (setDst xs[k].dst skipped fr) h.1 h.2) fr (evOpD E call xs[k] fr h.1 h.2)≠.bad:=hb;show(∃fr' h',_/\M8 xs[k].dst (evOpsD E call (xs.drop (k+1))) (virtD E call (xs.drop (k+1)) xs[k].late (setDst xs[k].dst skipped fr) h.1 h.2) fr (evOpD E call xs[k] fr h.1 h.2)=_)\/∃m x fr' h' v hh,k<=m/\_/\_/\_/\_/\_/\M8 xs[k].dst (evOpsD E call (xs.drop (k+1))) (virtD E call (xs.drop (k+1)) xs[k].late (setDst xs[k].dst skipped fr) h.1 h.2) fr (evOpD E call xs[k] fr h.1 h.2)=_
    cases hev:evOpD E call xs[k] fr h.1 h.2 with
    |bad=>rw[hev]at hb;exact absurd rfl hb
    | pan v hh =>
     rw[hev]at hb;cases hw:virtD E call (xs.drop (k+1)) xs[k].late (setDst xs[k].dst skipped fr) h.1 h.2 with
     |false=>rw[hw]at hb;exact absurd rfl hb
     |true=>exact .inr ⟨k,xs[k],fr,h,v,hh,zql _,hs,hx,hg,hev,hw,rfl⟩
    | ok v h1 d1 =>
     rw[hev]at hb;have hstp:stp E call xs[k] fr h=some (v,h1,d1):=by unfold stp;rw[hg];dsimp only;rw[hev];rfl
     have hs':=Ir hs hx hstp;have hb:evOpsD E call (xs.drop (k+1)) (setDst xs[k].dst v fr) h1 d1≠.bad:=hb;rcases run_cases n (k+1) (by omega) hlt _ _ hs' hb with⟨fr',h',h1,h2⟩|⟨m,x,fr',h',v,hh,h1,h2,h3,h4,h5,h6,h7⟩
     . exact .inl ⟨fr',h',h1,h2⟩
     . exact .inr ⟨m,x,fr',h',v,hh,by omega,h2,h3,h4,h5,h6,h7⟩
end
theorem Wl{ops:List Oper}{ms ahead:List Nat}{a:Nat}{r:List Nat}{oa:Oper}(hoa:ops[a]?=some oa):
 w3 ops ms ahead (a::r)=bQ ops (c9 ops ms a r) (Kz ops ms a r) (Y6 ops ms a ahead) oa::w3 ops ms (a::ahead) r:=by
 grind[w3]
theorem cT{ops:List Oper}{ms:List Nat}:∀(l ahead:List Nat),(∀i∈l,∃o,ops[i]?=some o)->∀(m i:Nat) o,l[m]?=some i->ops[i]?=some o ->
 (w3 ops ms ahead l)[m]?=some (bQ ops (c9 ops ms i (l.drop (m+1))) (Kz ops ms i (l.drop (m+1))) (Y6 ops ms i ((l.take m).reverse++ahead)) o)
 |[],_,_,m,i,o,h,_=>by simp at h
 | a::r,ahead,hl,m,i,o,h,ho=>by
  obtain⟨oa,hoa⟩:=hl a (zqf ..);rw[Wl hoa];cases m with
  |zero=>grind
  | succ m =>
   simp at h
   have:=cT (ms:=ms) r (a::ahead) (by grind) m i o h ho
   grind
theorem Mv{ops:List Oper}{ms:List Nat}:∀(l ahead:List Nat),(∀i∈l,∃o,ops[i]?=some o)->(w3 ops ms ahead l).length=l.length
 |[],_,_=>rfl
 | a::r,ahead,hl=>by
  obtain⟨oa,hoa⟩:=hl a (zqf ..);rw[Wl hoa,zqk,zqk,Mv r (a::ahead) (by grind)]
structure PlanX(ops:Array Oper)(ms l:List Nat)(sk:Nat->Prop)(xs:List XOp):Prop extends Plan ops ms l where
 xlen:xs.length=l.length
 xat:∀(m i:Nat)(o:Oper),l[m]?=some i->ops[i]?=some o->∃x,xs[m]?=some x/\x.dst=o.dst/\x.op=o.op/\x.quiet=c9 ops.toList ms i (l.drop (m+1))/\x.careful=Y6 ops.toList ms i ((l.take m).reverse++[])/\(¬sk m->x.gd=Q8 ops.toList o)
theorem Plan.have{ops:Array Oper}{ms l:List Nat}(hp:Plan ops ms l):∀i∈l,∃o,ops.toList[i]?=some o:=by
 intro i hi;obtain⟨m,hm⟩:=zqi hi
 have:=hp.lt m i hm
 simp_all
theorem Plan.xget{ops:Array Oper}{ms l:List Nat}(hp:Plan ops ms l){m i:Nat}{o:Oper}(hm:l[m]?=some i)(ho:ops[i]?=some o):
 (w3 ops.toList ms [] l)[m]?=some (bQ ops.toList (c9 ops.toList ms i (l.drop (m+1))) (Kz ops.toList ms i (l.drop (m+1))) (Y6 ops.toList ms i ((l.take m).reverse++[])) o):=
 cT l [] hp.have m i o hm (by grind)
def Qx(x:XOp):XOp:={x with gd:=some (none,true)}
def Yv:List XOp->List Bool->List XOp
 |[],_=>[]
 |x::xs,[]=>x::xs
 |x::xs,b::bs=>(match b with|true=>Qx x|false=>x)::Yv xs bs
theorem cU:∀(xs:List XOp)(bs:List Bool),(Yv xs bs).length=xs.length
 |[],bs=>by cases bs<;>rfl
 |x::xs,[]=>rfl
 |x::xs,b::bs=>by show(Yv xs bs).length+1=_;rw[cU xs bs];rfl
theorem cV:∀(xs:List XOp)(bs:List Bool)(m:Nat)(x:XOp),xs[m]?=some x->(Yv xs bs)[m]?=some (if bs[m]?=some true then Qx x else x)
 |[],bs,m,x,h=>by simp at h
 |y::xs,[],m,x,h=>by grind[Yv]
 | y::xs,b::bs,0,x,h=>by
  simp at h;subst h;cases b<;>rfl
 | y::xs,b::bs,m+1,x,h=>by
  have:=cV xs bs m x (by grind)
  simp_all[Yv]
section
variable {E:Env}{call:D1}
theorem Wm(x:XOp)(fr:Tr)(h:HD):stp E call (Qx x) fr h=some (skipped,h):=rfl
theorem cW{xs ys:List XOp}{s₀:Tr×HD}:∀(m:Nat),(∀q,q<m->ys[q]?=xs[q]?)->St E call ys s₀ m=St E call xs s₀ m
 |0,_=>rfl
 | m+1,h=>by
  show A4 (St E call ys s₀ m) _=A4 (St E call xs s₀ m) _
  rw[cW m fun q hq=>h q (by omega),h m (by omega)]
theorem Is{ys:List XOp}{s₀:Tr×HD}:∀(xs:List XOp)(late:List Bool)(k:Nat)(fr:Tr)(h:HD),virtD E call xs late fr h.1 h.2=true->(∀(q:Nat)(x:XOp),xs[q]?=some x->ys[k+q]?=some (if late[q]?=some true then Qx x else x)) ->
 St E call ys s₀ k=some (fr,h)->∃s,St E call ys s₀ (k+xs.length)=some s
 |[],late,k,fr,h,_,_,hs=>⟨_,hs⟩
 |x::xs,[],k,fr,h,hv,_,_=>by cases hv
 | x :: xs,b::late,k,fr,h,hv,hy,hs=>by
  have h0:=hy 0 x rfl;have hy':∀(q:Nat)(z:XOp),xs[q]?=some z->ys[k+1+q]?=some (if late[q]?=some true then Qx z else z):=fun q z hz=>by
   have:=hy (q+1) z (by grind)
   grind
  have e:k+(x::xs).length=k+1+xs.length:=by simp;omega
  rw[e];cases b with
  | true =>
   have hv:virtD E call xs late (setDst x.dst skipped fr) h.1 h.2=true:=hv;have h0:ys[k]?=some (Qx x):=by grind
   exact Is xs late (k+1) _ h hv hy' (Ir hs h0 (Wm x fr h))
  | false =>
   have hv:onOB (guardOk x.gd fr) false (virtThen x.dst (virtD E call xs late) fr (evOpD E call x fr h.1 h.2)) (virtD E call xs late (setDst x.dst skipped fr) h.1 h.2)=true:=hv;have h0:ys[k]?=some x:=by grind
   cases hg:guardOk x.gd fr with
   |none=>rw[hg]at hv;cases hv
   | some b =>
    rw[hg]at hv;cases b with
    | false =>
     have hv:virtD E call xs late (setDst x.dst skipped fr) h.1 h.2=true:=hv;exact Is xs late (k+1) _ h hv hy' (Ir hs h0 (by unfold stp;rw[hg]))
    | true =>
     have hv:virtThen x.dst (virtD E call xs late) fr (evOpD E call x fr h.1 h.2)=true:=hv;cases hev:evOpD E call x fr h.1 h.2 with
     |bad=>rw[hev]at hv;cases hv
     |pan v hh=>rw[hev]at hv;cases hv
     | ok v h1 d1 =>
      rw[hev]at hv;exact Is xs late (k+1) _ (h1,d1) hv hy' (Ir hs h0 (by unfold stp;rw[hg];dsimp only;rw[hev];rfl))
end
end Go.AM
/-
 The abstract machine: a region that draws its order: what holds between its operations.
-/
namespace Go.AM
structure Keeps(h h':Heap):Prop where
 next:h.next<=h'.next
 get:∀i,i<h.next->h'.get i=h.get i
theorem Keeps.refl(h:Heap):Keeps h h:=⟨zql _,fun _ _=>rfl⟩
theorem Keeps.trans{h h₁ h₂:Heap}(a:Keeps h h₁)(b:Keeps h₁ h₂):Keeps h h₂:=⟨zqm a.next b.next,fun i hi=>(b.get i (Nat.lt_of_lt_of_le hi a.next)).trans (a.get i hi)⟩
theorem Keeps.push(h:Heap)(x:AObj):Keeps h (h.push x):=⟨Nat.le_succ _,(by grind[Go.AM.Heap.get_push_ne])⟩
section
variable {E:Env}{call:D1}{h:Heap}
theorem nO{op:Op}(hc:Fd op=1){fr:Tr}{v:AV}{h':Heap}(hev:evOp E call op fr h=.ok v h'):h'=h:=by
 cases op with
 |load t x=>obtain⟨ti,_,hq⟩:=E4 hev;exact(G4 hq).2
 |lookup t m k ok=>cases hev
 | call c =>
  obtain⟨callee,args,argTypes⟩:=c;cases callee with
  |value f=>cases hc
  |invoke f n=>cases hc
  | builtin b =>
   have hev:lift2 (E5 E b argTypes.toList (opvs E args.toList fr) h)=.ok v h':=hev;cases hq:E5 E b argTypes.toList (opvs E args.toList fr) h with
   |none=>rw[hq]at hev;cases hev
   | some p =>
    rw[hq]at hev;cases hev;obtain⟨p1,p2⟩:=p;cases b with
    | len =>
     have hb:Uq E argTypes.toList (opvs E args.toList fr) h=some (p1,p2):=hq;unfold Uq at hb;generalize argTypes.toList=ats at hb;generalize opvs E args.toList fr=vs at hb;cases ats with
     |nil=>cases hb
     | cons t ts =>
      cases vs with
      |nil=>cases hb
      | cons x l =>
       obtain⟨ti,_,hb⟩:=D7 hb;obtain⟨n,_,hb⟩:=A0 hb;rw[B7]at hb;cases hb;rfl
    | max =>
     have hb:nF (opvs E args.toList fr) h=some (p1,p2):=hq;unfold nF at hb;generalize opvs E args.toList fr=vs at hb;cases vs with
     |nil=>cases hb
     | cons x l =>
      obtain⟨y,_,hb⟩:=zqn.1 hb;cases hb;rfl
    | min =>
     have hb:nG (opvs E args.toList fr) h=some (p1,p2):=hq;unfold nG at hb;generalize opvs E args.toList fr=vs at hb;cases vs with
     |nil=>cases hb
     | cons x l =>
      obtain⟨y,_,hb⟩:=zqn.1 hb;cases hb;rfl
    |_=>cases hc
 |_=>cases hc
theorem nP{op:Op}(hc:Fd op=2){fr:Tr}{v:AV}{h':Heap}(hev:evOp E call op fr h=.ok v h'):∃x,h'=h.push x:=by
 cases op with
 |alloc t=>obtain⟨ti,_,hx⟩:=E4 hev;cases hx;grind
 | box t x =>
  obtain⟨ti,_,hx⟩:=E4 hev;cases hb:(Nat.beq (lenL (opv E x fr).cells) ti.size&&D3 (opv E x fr).cells)with
  |true=>rw[hb]at hx;cases hx;grind
  |false=>grind
 | buildSlice t n ps =>
  obtain⟨ti,_,hx⟩:=E4 hev;grind
 | makeSlice t l c =>
  obtain⟨ti,_,hx⟩:=E4 hev;grind
 | call c =>
  exfalso
  obtain⟨callee,args,argTypes⟩:=c;cases callee with
  |builtin b=>cases b<;>cases hc
  |_=>cases hc
 |_=>cases hc
theorem cls_cases(op:Op):Fd op=0\/Fd op=1\/Fd op=2\/Fd op=3:=by
 cases op with
 | call c =>
  grind[Fd]
 |_=>simp[Fd]
theorem Qy{op:Op}(hc:Fd op≠3){fr:Tr}{v:AV}{h':Heap}(hev:evOp E call op fr h=.ok v h'):Keeps h h':=by
 rcases cls_cases op with h0|h0|h0|h0
 . rw[(Ld h0 hev h).1];exact .refl _
 . rw[nO h0 hev];exact .refl _
 . obtain⟨x,rfl⟩:=nP h0 hev;exact .push _ _
 grind
theorem Gr{r:DRes}{p:AV×HD}(h:zH r=some p):r=.ok p.1 p.2.1 p.2.2:=by
 cases r with
 |ok v h' d=>cases h;rfl
 |pan v h'=>cases h
 |bad=>cases h
theorem Qz{i:Nat}{b:List Nat}:∀{a:List Nat},i∈Ad a b↔i∈a\/i∈b
 |[]=>by show i∈b↔_;simp
 | x::a=>by
  show i∈x::Ad a b↔_
  rw[zqg,Qz (a:=a),zqg,or_assoc]
theorem Y8{i n:Nat}:∀{l:List Nat},i∈H2 n l↔i∈l/\i<n
 |[]=>by show i∈([]:List Nat)↔_;simp
 | x::l=>by
  show i∈(bif Nat.blt x n then x::H2 n l else H2 n l)↔_
  cases hb:Nat.blt x n with
  | true =>
   have:=I8 hb
   simp only[cond_true,zqg,Y8 (l:=l)];grind
  | false =>
   have hx:¬x<n:=(by grind[Nat.blt,Nat.ble_eq_true_of_le])
   simp only[cond_false,zqg,Y8 (l:=l)];grind
theorem Wn{i:Nat}:∀{l:List Nat},pS i l=false->i∉l
 |[],_=>by simp
 | x::l,h=>by
  have h:(bif Nat.beq x i then true else pS i l)=false:=h;cases hb:Nat.beq x i with
  |true=>grind
  | false =>
   rw[hb]at h;have hne:x≠i:=fun e=>by simp_all
   intro hm;rcases zqg.1 hm with h1|h1
   . grind
   . exact Wn (l:=l) h h1
theorem It{x:XOp}{fr:Tr}{v:AV}{h':Heap}{d d':List Nat}(hev:evOpD E call x fr h d=.ok v h' d'):
 ∃ t h₁ t',evOp E call x.op fr {h with tch:=t}=.ok v h₁/\h'={h₁ with tch:=t'}/\
   (x.quiet=true->t=[]/\t'=Ad (H2 h.next h₁.tch) h.tch/\d'=Ad (H2 h.next h₁.tch) d)/\
   (x.quiet=false->t=h.tch/\t'=h₁.tch/\d'=d/\(x.careful=true->readOk (readO E x.op fr) d=true)):=by
 unfold evOpD at hev;cases hq:x.quiet with
 | false =>
  rw [hq]at hev;simp only[cond_false]at hev;have key:k8 d (evOp E call x.op fr h)=.ok v h' d'->evOp E call x.op fr h=.ok v h'/\d'=d:=fun hev=>by
   cases hr:evOp E call x.op fr h with
   |ok v1 h1=>rw[hr]at hev;cases hev;grind
   |pan v1 h1=>rw[hr]at hev;cases hev
   |bad=>rw[hr]at hev;cases hev
  cases hc:x.careful with
  | false =>
   rw[hc]at hev;obtain⟨h1,h2⟩:=key hev;exact⟨h.tch,h',h'.tch,h1,rfl,fun e=>(by cases e),(by grind)⟩
  | true =>
   rw[hc]at hev;simp only[cond_true]at hev;cases hro:readOk (readO E x.op fr) d with
   |false=>grind
   | true =>
    rw[hro]at hev;obtain⟨h1,h2⟩:=key hev;exact⟨h.tch,h',h'.tch,h1,rfl,fun e=>(by cases e),(by grind)⟩
 | true =>
  rw[hq]at hev;have hev:n7 h.next h.tch d (evOp E call x.op fr {h with tch:=[]})=.ok v h' d':=hev;cases hr:evOp E call x.op fr {h with tch:=[]}with
  | ok v1 h1 =>
   rw[hr]at hev;cases hev;grind
  |pan v1 h1=>rw[hr]at hev;cases hev
  |bad=>rw[hr]at hev;cases hev
theorem cX{x:XOp}(hc:Fd x.op≠3){fr:Tr}{v:AV}{h':Heap}{d d':List Nat}(hev:evOpD E call x fr h d=.ok v h' d'):Keeps h h':=by
 obtain⟨t,h₁,t',h1,rfl,_⟩:=It hev;have hk:=Qy hc h1;exact⟨hk.next,fun i hi=>hk.get i hi⟩
theorem hO(hpres:L8 call){x:XOp}(hx:Fd x.op=3->x.quiet=true){fr:Tr}{v:AV}{h':Heap}{d d':List Nat}(hev:evOpD E call x fr h d=.ok v h' d'):
 h.next<=h'.next/\(∀i,i∈d->i∈d')/\∀i,i<h.next->i∉d'->h'.get i=h.get i:=by
 obtain ⟨t,h₁,t',h1,rfl,h2,h3⟩:=It hev;have hd:∀i,i∈d->i∈d':=fun i hi=>by
  cases hq:x.quiet with
  |true=>grind[Qz]
  |false=>grind
 by_cases hc:Fd x.op=3
 . obtain⟨rfl,_,h4⟩:=h2 (hx hc)
   obtain⟨hn,new,e,hg⟩:=evOp_pres hpres h1;refine⟨hn,hd,fun i hi hni=>hg i hi fun hm=>hni ?_⟩;grind[Qz,Y8]
 . have hk:=Qy hc h1
   exact⟨hk.next,hd,fun i hi _=>hk.get i hi⟩
theorem cY{fr fr':Tr}(op:Op)(hy:∀y∈op.operands.toList,opv E y fr=opv E y fr'):readO E op fr=readO E op fr':=by
 cases op with
 |load t x=>show f9 (opv E x fr)=f9 (opv E x fr');grind[Op.operands]
 |lookup t m k ok=>show f9 (opv E m fr)=f9 (opv E m fr');grind[Op.operands]
 | call c =>
  obtain⟨callee,args,argTypes⟩:=c;show(match args.toList with|[]=>none|x::_=>f9 (opv E x fr))=(match args.toList with|[]=>none|x::_=>f9 (opv E x fr'))
  grind[Op.operands,Call.operands]
 |_=>rfl
end
section
variable {E:Env}{call:D1}{ops:Array Oper}{ms l:List Nat}{sk:Nat->Prop}{xs:List XOp}{s₀:Tr×HD}
theorem Plan.at(hp:Plan ops ms l){m:Nat}(hm:m<l.length):∃i o,l[m]?=some i/\ops[i]?=some o:=by
 have h1:l[m]?=some l[m]:=zqj hm
 have:=hp.lt m _ h1
 simp_all
theorem Pf(hp:PlanX ops ms l sk xs){m:Nat}{s:Tr×HD}(h:St E call xs s₀ (m+1)=some s):
 ∃i o s' x r,l[m]?=some i/\ops[i]?=some o/\St E call xs s₀ m=some s'/\xs[m]?=some x/\(x.op=o.op/\x.quiet=c9 ops.toList ms i (l.drop (m+1)))/\stp E call x s'.1 s'.2=some r/\s=(setDst o.dst r.1 s'.1,r.2):=by
 obtain ⟨s',x,r,h1,h2,h3,h4⟩:=Yu h;have hm:m<l.length:=by
  rw[<-hp.xlen];grind
 obtain⟨i,o,h5,h6⟩:=hp.at hm;obtain⟨x',h7,h8,h9,h10,_⟩:=hp.xat m i o h5 h6;grind
theorem Q0(d:Option Tmp)(v:AV)(fr:Tr)(t:Nat):(setDst d v fr).has t=fr.has t:=by
 cases d with
 |none=>rfl
 |some d=>exact Tr.has_set _ _ _ _
theorem U8{d:Option Tmp}{v:AV}{fr:Tr}{t:Nat}(h:d≠some t):(setDst d v fr).get t=fr.get t:=by
 cases d with
 |none=>rfl
 |some d=>exact Tr.get_set_ne _ _ _ _ (fun e=>h (by rw[e]))
theorem Y9{v:AV}{fr:Tr}{t:Nat}:(setDst (some t) v fr).get t=if fr.has t then v else .und:=Tr.get_set_eq _ _ _
theorem St_has(hp:PlanX ops ms l sk xs){k:Nat}{s:Tr×HD}(hs:St E call xs s₀ k=some s):∀(n:Nat)(s':Tr×HD),St E call xs s₀ (k+n)=some s'->∀t,s'.1.has t=s.1.has t
 |0,s',h,t=>by grind
 | n+1,s',h,t=>by
  obtain⟨i,o,s1,x,r,_,_,h3,_,_,_,rfl⟩:=Pf hp h;show(setDst _ _ _).has t=_
  rw[Q0];exact St_has hp hs n s1 h3 t
theorem iA(hp:PlanX ops ms l sk xs){k:Nat}{s:Tr×HD}(hs:St E call xs s₀ k=some s){t:Nat}:∀(n:Nat)(s':Tr×HD),St E call xs s₀ (k+n)=some s' ->
 (∀(m i:Nat)(o:Oper),k<=m->m<k+n->l[m]?=some i->ops[i]?=some o->o.dst≠some t)->s'.1.get t=s.1.get t
 |0,s',h,_=>by grind
 | n+1,s',h,hn=>by
  obtain⟨i,o,s1,x,r,h1,h2,h3,_,_,_,rfl⟩:=Pf hp h;show(setDst _ _ _).get t=_
  rw[U8 (hn (k+n) i o (by omega) (by omega) h1 h2)];exact iA hp hs n s1 h3 fun m i o a b=>hn m i o a (by omega)
theorem BO(hp:PlanX ops ms l sk xs){k p m i:Nat}{s sp s':Tr×HD}(hs:St E call xs s₀ k=some s)(hk:k<=p)(hm:p<m)(hsp:St E call xs s₀ p=some sp)(hs':St E call xs s₀ m=some s')
 {x:XOp}{r:AV×HD}(hx:xs[p]?=some x)(hr:stp E call x sp.1 sp.2=some r){o:Oper}(hl:l[p]?=some i)(ho:ops[i]?=some o){t:Nat}(hd:o.dst=some t):s'.1.get t=if s.1.has t then r.1 else .und:=by
 have h1:=Ir hsp hx hr;obtain⟨x',hx',hxd,_⟩:=hp.xat p i o hl ho;rw[hx]at hx';cases hx';obtain⟨n,rfl⟩:∃n,m=p+1+n:=⟨m-(p+1),by omega⟩
 have h2:=iA hp h1 n s' hs' (t:=t) fun q j o' a b c d=>hp.dst p q i j o o' t (by omega) hl c ho d hd
 rw[h2,hxd,hd];show(setDst (some t) r.1 sp.1).get t=_
 rw[Y9];obtain⟨n',rfl⟩:∃n',p=k+n':=⟨p-k,by omega⟩
 grind[St_has]
theorem stp_some{x:XOp}{fr:Tr}{h:HD}{r:AV×HD}(hr:stp E call x fr h=some r):(guardOk x.gd fr=some false/\r=(skipped,h))\/(guardOk x.gd fr=some true/\evOpD E call x fr h.1 h.2=.ok r.1 r.2.1 r.2.2):=by
 unfold stp at hr;cases hg:guardOk x.gd fr with
 |none=>grind
 | some b =>
  rw[hg]at hr;cases b with
  |false=>grind
  |true=>exact .inr ⟨rfl,Gr hr⟩
theorem cZ(hp:PlanX ops ms l sk xs){k:Nat}{s:Tr×HD}(hs:St E call xs s₀ k=some s):∀(n:Nat)(s':Tr×HD),St E call xs s₀ (k+n)=some s' ->
 (∀(m i:Nat)(o:Oper),k<=m->m<k+n->l[m]?=some i->ops[i]?=some o->Fd o.op≠3)->Keeps s.2.1 s'.2.1
 |0,s',h,_=>by rw[Nat.add_zero]at h;rw[hs]at h;cases h;exact .refl _
 | n+1,s',h,hn=>by
  obtain⟨i,o,s1,x,r,h1,h2,h3,_,h5,h6,rfl⟩:=Pf hp h;refine(cZ hp hs n s1 h3 fun m i o a b=>hn m i o a (by omega)).trans ?_;show Keeps s1.2.1 r.2.1
  rcases stp_some h6 with⟨_,rfl⟩|⟨_,h7⟩
  . exact .refl _
  grind[cX]
theorem kN(hp:PlanX ops ms l sk xs)(hpres:L8 call){k:Nat}{s:Tr×HD}(hs:St E call xs s₀ k=some s):∀(n:Nat)(s':Tr×HD),St E call xs s₀ (k+n)=some s' ->
 (∀ (m i:Nat) (o:Oper),k<=m->m<k+n->l[m]?=some i->ops[i]?=some o->Fd o.op=3->c9 ops.toList ms i (l.drop (m+1))=true) ->
   s.2.1.next<=s'.2.1.next/\(∀i,i∈s.2.2->i∈s'.2.2)/\∀i,i<s.2.1.next->i∉s'.2.2->s'.2.1.get i=s.2.1.get i
 |0,s',h,_=>by grind
 | n + 1,s',h,hn=>by
  obtain⟨i,o,s1,x,r,h1,h2,h3,_,h5,h6,rfl⟩:=Pf hp h;obtain⟨a1,a2,a3⟩:=kN hp hpres hs n s1 h3 fun m i o a b=>hn m i o a (by omega)
  have hb:s1.2.1.next<=r.2.1.next/\(∀i,i∈s1.2.2->i∈r.2.2)/\∀i,i<s1.2.1.next->i∉r.2.2->r.2.1.get i=s1.2.1.get i:=by
   rcases stp_some h6 with⟨_,rfl⟩|⟨_,h7⟩
   . grind
   . refine hO hpres (fun hc=>?_) h7
     grind
  grind
end
end Go.AM
