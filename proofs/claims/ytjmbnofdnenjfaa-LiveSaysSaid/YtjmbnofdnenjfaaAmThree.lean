/- The abstract machine, part three: operations, calls, and regions that draw their order: planned. Conditions: none. -/
import Derived.Test.YtjmbnofdnenjfaaAmTwo
import Derived.LoopN
import Derived.Tactics
import Derived.Orders
set_option linter.unusedVariables false
set_option linter.unusedSectionVars false
set_option linter.unusedSimpArgs false
/-
 The abstract machine: each operation but a call is sound.
set_option maxHeartbeats 4000000
-/
open Bool renaming and_eq_true→zqa,not_eq_true'→zqb
open Array renaming getElem?_toList→zqc,getD_eq_getD_getElem?→zqd
open List renaming all_eq_true→zqe,mem_cons_self→zqf,mem_cons→zqg,mem_of_getElem?→zqh,getElem?_of_mem→zqi,getElem?_eq_getElem→zqj,length_cons→zqk
open Nat renaming le_refl→zql,le_trans→zqm
open Option renaming map_eq_some_iff→zqn,bind_some→zqo
namespace Go.AM
section
variable {P:Program}{E:Env}{W:World}{cx:Cx}{h:Heap}
theorem H8{x:Option AV}{v:AV}{h h':Heap}(hx:lift x h=.ok v h'):x=some v/\h'=h:=by
 cases x with
 |none=>cases hx
 |some a=>cases hx;grind
theorem aZ(hs:Sat E W cx h){a:Act}{fr:Tr}(hf:FrRep W cx a.tmps fr)(o:Option Operand):W8 W cx (o.map a.eval) (Nf E o fr):=by
 cases o with
 |none=>trivial
 |some x=>exact c8 hs hf x
theorem Gz(a:Act)(ps:Array (Nat×Operand)):(ps.map fun p=>(p.1,a.eval p.2)).toList=ps.toList.map fun p=>(p.1,a.eval p.2):=by simp
theorem Te(hE:EnvOk E P)(hs:Sat E W cx h){ts:Array TypeId}{ty:TypeId}{args:Array Value}{l:List AV}(hl:RepL W cx args.toList l){r:AV}{h':Heap}(hb:Kt E ts.toList l h=some (r,h')):
 ∃v W' cx',(Builtin.append_ ts ty args).run P W=.ok v W'/\Ext W cx W' cx'/\Sat E W' cx' h'/\Rep W' cx' v r:=by
 unfold Kt at hb;cases hts:ts.toList with
 |nil=>grind
 | cons t ts1 =>
  cases ts1 with
  |nil=>grind
  | cons tx ts2 =>
   cases l with
   |nil=>grind
   | cons s l1 =>
    cases l1 with
    |nil=>grind
    | cons x l2 =>
     rw[hts]at hb;obtain⟨ti,ht,hb⟩:=F7 hb;obtain⟨te,hte,hb⟩:=A1 hb;obtain⟨hpz,hb⟩:=B0 hb;have hpz:=M3 hpz;obtain⟨tix,htx,hb⟩:=F7 hb;obtain⟨e,hk,hte⟩:=u4 hte;have hd:=(hE.ti t ti ht).desc;unfold J1 at hd;rw[hk]at hd;have ht1:ts[0]?=some t:=by rw[<-zqc,hts];rfl
     have ht2:ts[1]?=some tx:=by rw[<-zqc,hts];rfl
     obtain⟨sv,hsv1,hsv2⟩:=hl.get (i:=0) (c:=s) rfl;obtain⟨xv,hxv1,hxv2⟩:=hl.get (i:=1) (c:=x) rfl;have hsv1:args[0]?=some sv:=by grind
     have hxv1:args[1]?=some xv:=by grind
     obtain⟨dx,hdx⟩:=(hE.ti tx tix htx).under;have hdd:=(hE.ti tx tix htx).desc;have hty:=hE.ti e te hte;have elemCase:(∀k,dx≠.int k)->A7 (elems x h) (fun xs=>B6 (L8 te.size xs) (I2 te s xs h))=some (r,h') ->
      ∃v W' cx',(Builtin.append_ ts ty args).run P W=.ok v W'/\Ext W cx W' cx'/\Sat E W' cx' h'/\Rep W' cx' v r:=by
      intro hni hb;obtain⟨xs,hel,hb⟩:=A1 hb;obtain⟨hall,hb⟩:=B0 hb;rw[Az]at hall;obtain⟨ad,cap,us,sz,e1,e2,hur,hfc⟩:=Be (P:=P) hs hxv2 hel;have hur':RowRep W cx us xs te.size:=by
       cases hxs:xs with
       |nil=>rw[hxs]at hur;exact⟨by have:=hur.len;grind,by simp,by simp⟩
       | cons x0 xr =>
        rw[hxs]at hur hall
        have:sz=te.size:=by rw[<-hur.size 0 x0 rfl];grind
        grind
      . exact Lj hE hs hte ht1 hd ht2 hdx hsv1 hxv1 hsv2 hur' (.inl ⟨hni,⟨ad,cap,e1⟩,fun W' hW'=>by
         have:=hfc W' hW' xs.length te.size (zql _) hall
         rw[<-hur.len,List.take_length]at this;exact this⟩) hur'.oneL (hty.pos (by omega)) hb
     unfold J1 at hdd;cases hkx:tix.desc with
     | int kx =>
      rw[hkx]at hb hdd;rw[hdd]at hdx;cases hdx;obtain⟨n,hn,hb2⟩:=A1 hb;obtain⟨hg,hb2⟩:=B0 hb2;clear hb;have hg:n*te.bytes<=140737488355328:=E3 hg;obtain⟨k',rfl⟩:=S7 hn;cases hxv2.int_inv;obtain⟨i,z,hi1,hi2,hi3,hi4,hzo⟩:=hty.info;have hzs:z.cells.size=te.size:=by have:=((hzo.rep W cx).cells hzo.und).1;simp at this;rw[this];exact hty.zsz
      . have hp:0<te.size:=hpz
        have hb0:=hty.pos hp;have hn47:n<=140737488355328:=zqm (Nat.le_mul_of_pos_right n hb0) hg;obtain⟨a1,a2⟩:=Rw (W:=W) (cx:=cx) hzo hty.zsz hp n (c:=Builtin.zeroCells z.cells n) (by grind[Go.Builtin.zeroCells,Go.AM.rangeMap_get]);have hzl:(Builtin.zeroCells z.cells n).toList=(List.range (n*te.size)).map fun k=>(z.cells[k%te.size]?).getD undef:=by
         apply List.ext_getElem?;grind[Builtin.zeroCells]
        rw[m6]at hb2;have hlen:(List.replicate n te.zero).length=n:=List.length_replicate;exact Lj hE hs hte ht1 hd ht2 hdd hsv1 hxv1 hsv2 a1 (by grind) a1.oneL hb0 hb2
     |bool=>grind
     |string=>grind
     |ptr e'=>grind
     |slice e'=>grind
     |array n' e'=>grind
     |map k' e'=>grind
     |iface=>grind
     |struct fs fl=>grind
     |func=>grind
     |other=>grind
theorem Wz(hE:EnvOk E P)(hs:Sat E W cx h){b:Builtin}{ts:Array TypeId}{ty:TypeId}{cs:Array Bool}{args:Array Value}{l:List AV}(hl:RepL W cx args.toList l){r:AV}{h':Heap}(hb:G1 E b ts.toList l h=some (r,h')):
 Km P E W cx (builtin b ts ty cs args) r h':=by
 cases b with
 | append =>
  obtain⟨v,W',cx',h1,h2,h3,h4⟩:=Te hE hs (ts:=ts) (ty:=ty) hl hb;exact Km.value (s:=Builtin.append_ ts ty args) h1 h2 h3 h4
 | len =>
  have hb:Wu E ts.toList l h=some (r,h'):=hb;unfold Wu at hb;cases hts:ts.toList with
  |nil=>rw[hts]at hb;cases hb
  | cons t ts1 =>
   rw[hts]at hb;cases l with
   |nil=>cases hb
   | cons x l1 =>
    obtain⟨ti,ht,hb⟩:=F7 hb;obtain⟨n,hn,hb⟩:=A1 hb;rw[C9]at hb;cases hb;have ht1:ts[0]?=some t:=by rw[<-zqc,hts];rfl
    obtain⟨xv,hxv1,hxv2⟩:=hl.get (i:=0) (c:=x) rfl
    have:=pN hE hs ht (ty:=ty) ht1 (args:=args) (by simpa using hxv1) hxv2 hn
    exact Km.same (s:=Builtin.len_ ts ty args) hs this (.int _ _)
 | max =>
  cases l with
  |nil=>cases hb
  | cons x l =>
   obtain⟨r',h1,h2⟩:=zqn.1 (show(Nb l x).map (·,h)=some (r,h')from hb);cases h2;obtain⟨args⟩:=args;cases args with
   |nil=>have:=hl.1;simp at this
   | cons xv vs =>
    obtain⟨v,h2,h3⟩:=Yo (P:=P) (vs:=vs) (xv:=xv) ⟨by have:=hl.1;simpa using this,fun i v c h1 h2=>hl.2 (i+1) v c (by simpa using h1) (by simpa using h2)⟩ (hl.2 0 _ _ rfl rfl) h1;refine Km.same (s:=Builtin.max_ ts ty ⟨xv::vs⟩) hs ?_ h3;simpa[Builtin.max_]using h2
 | min =>
  cases l with
  |nil=>cases hb
  | cons x l =>
   obtain⟨r',h1,h2⟩:=zqn.1 (show(Qq l x).map (·,h)=some (r,h')from hb);cases h2;obtain⟨args⟩:=args;cases args with
   |nil=>have:=hl.1;simp at this
   | cons xv vs =>
    obtain⟨v,h2,h3⟩:=Yp (P:=P) (vs:=vs) (xv:=xv) ⟨by have:=hl.1;simpa using this,fun i v c h1 h2=>hl.2 (i+1) v c (by simpa using h1) (by simpa using h2)⟩ (hl.2 0 _ _ rfl rfl) h1;refine Km.same (s:=Builtin.min_ ts ty ⟨xv::vs⟩) hs ?_ h3;simpa[Builtin.min_]using h2
 |_=>cases hb
theorem jY(hE:EnvOk E P)(hs:Sat E W cx h){a:Act}{fr:Tr}(hf:FrRep W cx a.tmps fr){call:E7}(o:Oper)(hc:∀c f,o.op=.call c->c.callee≠.value f){v:AV}{h':Heap}
 (hev:evOp E call o.op fr h=.ok v h'):Km P E W cx (execOp a.eval o) v h':=by
 have ov:=fun x=>c8 (E:=E) hs hf x
 obtain⟨dst,op,type,pos,after,guard⟩:=o;cases op with
 |move x=>cases hev;exact⟨_,W,cx,.inl rfl,Ext.refl _ _,hs,ov x⟩
 |assign x=>cases hev;exact⟨_,W,cx,.inl rfl,Ext.refl _ _,hs,ov x⟩
 | pick c x y =>
  obtain⟨b,hb,hev⟩:=pG hev;have hcv:=ov c;rw[hb]at hcv;have e:=hcv.bool_inv;refine⟨if b then a.eval x else a.eval y,W,cx,.inl ?_,Ext.refl _ _,?_,?_⟩
  . simp[execOp,e,asBool]
  . cases b<;>(cases hev;exact hs)
  . cases b<;>(cases hev;exact ov _)
 | alloc t =>
  obtain⟨ti,ht,hev⟩:=F6 hev;have hty:=hE.ti t ti ht;obtain⟨z,hzr,hzo⟩:=hty.run_zero (W:=W);obtain⟨v',W',cx',h1,h2,h3,h4⟩:=To (P:=P) hs (t:=t) (hzo.rep W cx) hzo.one hzo.und hty.zsz hev;refine Km.value (s:=Instr.alloc t true (.tuple #[])) ?_ h2 h3 h4;simp only[Instr.alloc,Sem.run_bind,hzr,Result.andThen_ok];simpa using h1
 | box t x =>
  obtain⟨ti,ht,hev⟩:=F6 hev;cases hg:(Nat.beq (lenL (opv E x fr).cells) ti.size&&E8 (opv E x fr).cells)with
  |false=>rw[hg]at hev;cases hev
  | true =>
   rw [hg]at hev;rw[zqa,A9,G9]at hg;have hu:opv E x fr≠.und:=fun e=>by
    have:=hg.2 .und (by rw[e];simp[AV.cells])
    cases this
   obtain⟨v',W',cx',h1,h2,h3,h4⟩:=To (P:=P) hs (t:=t) (ov x) (((ov x).cells hu).one hg.2) hu (E5 hg.1) hev;refine Km.value (s:=Instr.box t (a.eval x)) ?_ h2 h3 h4;simpa[Instr.box]using h1
 | build t ps =>
  obtain⟨ti,ht,hev⟩:=F6 hev;obtain⟨hq,hh⟩:=H8 hev;subst hh;obtain⟨l1,l2⟩:=Ha hs hf ps.toList;obtain⟨v',h1,h2⟩:=fF hE ht (ps:=ps.map fun p=>(p.1,a.eval p.2)) (by rw[Gz];exact l1) (by rw[Gz];exact l2) hq;exact Km.same (s:=Instr.build t _) hs h1 h2
 | buildSlice t n ps =>
  obtain⟨ti,ht,hev⟩:=F6 hev;cases hte:elemOfT E ti.desc with
  |none=>rw[hte]at hev;cases hev
  | some te =>
   rw[hte]at hev;cases hg:(Nat.ble (Nat.mul n te.size) 65536&&Nat.blt 0 te.size)with
   |false=>simp only[hg]at hev;cases hev
   | true =>
    simp only[hg,cond_true]at hev;cases hp:placeL te.size (opvps E ps.toList fr) (repL n te.zero)with
    |none=>rw[hp]at hev;cases hev
    | some es =>
     rw[hp]at hev;cases hev;obtain⟨l1,l2⟩:=Ha hs hf ps.toList;obtain⟨v',W',cx',h1,h2,h3,h4⟩:=Nn hE hs ht hte (ps:=ps.map fun p=>(p.1,a.eval p.2)) (by rw[Gz];exact l1) (by rw[Gz];exact l2) hg hp;exact Km.value (s:=Instr.buildSlice t n _) h1 h2 h3 h4
 | load t x =>
  obtain⟨ti,ht,hev⟩:=F6 hev;obtain⟨hq,hh⟩:=H8 hev;subst hh;obtain⟨v',h1,h2⟩:=Tm hE hs ht (ov x) hq;exact Km.same (s:=Instr.loadAt t _) hs h1 h2
 | store t x y =>
  obtain⟨ti,ht,hev⟩:=F6 hev
  have:Cu ti (opv E x fr) (opv E y fr) h=some h'/\v=.und:=by
   cases hq:Cu ti (opv E x fr) (opv E y fr) h with
   |none=>rw[hq]at hev;cases hev
   |some h2=>rw[hq]at hev;cases hev;exact⟨rfl,rfl⟩
  obtain⟨hq,rfl⟩:=this;obtain⟨W',h1,h2,h3⟩:=fA hE hs ht (ov x) (ov y) hq;exact Km.unit (s:=Instr.storeAt t _ _) h1 h2 h3
 | nilCheck x =>
  obtain ⟨hq,hh⟩:=H8 hev;subst hh;have hx:=ov x;have key:∀u:Value,a.eval x=u->(match u with | .pointer none | .nilIface | .nilFunc=>False | .func (.method _) _ _=>False|_=>True)->(execOp a.eval ⟨dst,.nilCheck x,type,pos,after,guard⟩).run P W=.ok (.value u) W:=by
   intro u hu hm;simp only[execOp,hu];cases u with
   | pointer p=>cases p with
    |none=>exact hm.elim
    |some p=>rfl
   | func f a b=>cases f with
    |method n=>exact hm.elim
    |_=>rfl
   |nilIface=>exact hm.elim
   |nilFunc=>exact hm.elim
   |_=>rfl
  cases hox:opv E x fr with
  | fptr w o =>
   rw[hox]at hq hx;cases hq;obtain⟨b,o',e,_⟩:=hx.fptr_inv;exact⟨_,W,cx,.inl (key _ e trivial),Ext.refl _ _,hs,e▸hx⟩
  | ptr i j o =>
   rw[hox]at hq hx;cases hq;obtain⟨_,e⟩:=hx.ptr_inv;exact⟨_,W,cx,.inl (key _ e trivial),Ext.refl _ _,hs,e▸hx⟩
  | fn f l1 l2 =>
   rw[hox]at hq hx;cases f with
   | func f =>
    cases hq;cases hu:a.eval x with
    | func f' vs ws =>
     rw[hu]at hx
     have:f'=.func f:=by cases hx;rfl
     subst this;exact⟨_,W,cx,.inl (key _ hu trivial),Ext.refl _ _,hs,hx⟩
    |_=>rw[hu]at hx;cases hx
   |_=>cases hq
  | map i =>
   rw[hox]at hq hx;cases hq;cases hu:a.eval x with
   | map r =>
    rw[hu]at hx;exact⟨_,W,cx,.inl (key _ hu trivial),Ext.refl _ _,hs,hx⟩
   |_=>rw[hu]at hx;cases hx
  |_=>rw[hox]at hq;cases hq
 | binOp op t x y yt =>
  obtain ⟨hq,hh⟩:=H8 hev;subst hh;obtain⟨v',h1,h2⟩:∃v',X8 P W op t x y (a.eval x) (a.eval y) v'/\Rep W cx v' v:=by
   rcases orO_some hq with hq|hq
   . exact jW hE (ov x) (ov y) hq x y
   . exact eP hE (ov x) (ov y) hq x y
  exact Km.same (s:=do eqGuard op t x y (a.eval x) (a.eval y);binOp op t (a.eval x) (a.eval y)) hs h1 h2
 | unOp op t x =>
  obtain⟨hq,hh⟩:=H8 hev;subst hh;obtain⟨v',h1,h2⟩:=kE (P:=P) (ov x) hq;exact Km.same (s:=Op.unary op _) hs h1 h2
 | convert s d x =>
  obtain⟨ts,hts,hev⟩:=F6 hev;obtain⟨td,htd,hev⟩:=F6 hev;obtain⟨hq,hh⟩:=H8 hev;subst hh;obtain⟨v',h1,h2⟩:=Xb hE hts htd (ov x) hq;exact Km.same (s:=convert s d _) hs h1 h2
 | makeFunc f first caps =>
  cases hev;have r1:=Bz (E:=E) hs hf first.toList
  have r2:=Bz (E:=E) hs hf caps.toList;refine⟨.func f (first.map a.eval) (caps.map a.eval),W,cx,.inl (by simp[execOp,Instr.makeFunc]),Ext.refl _ _,hs,?_⟩;refine .fn f _ _ _ _ (by have:=r1.1;simpa using this) (by have:=r2.1;simpa using this) (fun i v c h1 h2=>r1.2 i v c ?_ h2) (fun i v c h1 h2=>r2.2 i v c ?_ h2)
  . simpa using h1
  . simpa using h1
 | makeMap t r =>
  cases r with
  |some r=>cases hev
  | none =>
   cases hev;have he:=Ext.alloc W cx (.map #[] 0) 0;refine⟨.map (some W.heap.size),W.alloc (.map #[] 0),_,.inl (by simp[execOp,Instr.makeMap]),he,hs.push _ _ 0 ⟨#[],0,[],K7 W _,List.Perm.refl _,rfl,by simp,MapKept.stamped_empty 0,fun q hq=>by cases hq⟩,?_⟩
   have:=Rep.map (W:=W.alloc (.map #[] 0)) (cx:=cx.push W.heap.size 0) h.next (by rw[hs.nx];exact Nat.lt_succ_self _) (by rw[hs.nx,Cx.push_new];simp)
   rw[hs.nx,Cx.push_new]at this;rw[hs.nx];exact this
 | makeInterface t x =>
  obtain⟨ti,ht,hev⟩:=F6 hev;cases hp:V6 ti.desc with
  |false=>rw[hp]at hev;cases hev
  | true =>
   rw[hp]at hev;cases hev;have hd:=(hE.ti t ti ht).desc;unfold J1 at hd
   have:∃d,P.underlying t=some d/\∀ms,d≠.interface ms:=by
    cases hk:ti.desc with
    |func=>rw[hk]at hp;cases hp
    |iface=>rw[hk]at hp;cases hp
    |other=>rw[hk]at hp;cases hp
    |struct fs fl=>rw[hk]at hd;obtain⟨fields,hu,_⟩:=hd;exact⟨_,hu,by simp⟩
    |_=>rw[hk]at hd;exact⟨_,hd,by simp⟩
   obtain⟨d,hu,hn⟩:=this;have r1:∀W:World,(underlying t).run P W=.ok d W:=fun W=>A4 hu
   refine Km.same (s:=Instr.makeInterface t (a.eval x)) (v':=.iface t (a.eval x)) hs ?_ (.iface t _ _ (ov x));simp only[Instr.makeInterface,Sem.run_bind,r1,Result.andThen_ok];cases d<;>first|rfl|exact absurd rfl (hn _)
 | typeAssert x xt t ok =>
  obtain⟨ti,ht,hev⟩:=F6 hev;cases hp:(V6 ti.desc && !ok)with
  |false=>rw[hp]at hev;cases hev
  | true =>
   rw[hp]at hev;rw[zqa]at hp;obtain⟨hp,hok⟩:=hp;obtain⟨hq,hh⟩:=H8 hev;subst hh;have hd:=(hE.ti t ti ht).desc;unfold J1 at hd
   have:∃d,P.underlying t=some d/\∀ms,d≠.interface ms:=by
    cases hk:ti.desc with
    |func=>rw[hk]at hp;cases hp
    |iface=>rw[hk]at hp;cases hp
    |other=>rw[hk]at hp;cases hp
    |struct fs fl=>rw[hk]at hd;obtain⟨fields,hu,_⟩:=hd;exact⟨_,hu,by simp⟩
    |_=>rw[hk]at hd;exact⟨_,hd,by simp⟩
   obtain⟨d,hu,hn⟩:=this;have r1:∀W:World,(underlying t).run P W=.ok d W:=fun W=>A4 hu
   have hxo:=ov x;cases hq2:opv E x fr with
   | iface u w =>
    rw[hq2]at hq hxo;have hq:(bif Nat.beq u t then some w else none)=some v:=hq;cases hb:Nat.beq u t with
    |false=>rw[hb]at hq;cases hq
    | true =>
     rw [hb]at hq;cases hq;have hut:=E5 hb;have⟨u',hu',hr⟩:∃u',a.eval x=.iface t u'/\Rep W cx u' v:=by
      generalize a.eval x=z at hxo;cases hxo with
      |iface _ u' _ hr=>exact⟨u',by rw[hut],hr⟩
     refine Km.same (s:=Instr.typeAssert (a.eval x) xt t ok) (v':=u') hs ?_ hr;rw[hu'];have hok:ok=false:=by simpa using hok
     subst hok;simp only[Instr.typeAssert,Sem.run_bind,r1,Result.andThen_ok];cases d<;>first|exact absurd rfl (hn _)|(simp;done)|simp
   |_=>rw[hq2]at hq;cases hq
 | makeSlice t l c =>
  obtain⟨ti,ht,hev⟩:=F6 hev;cases hte:elemOfT E ti.desc with
  |none=>rw[hte]at hev;cases hev
  | some te =>
   rw[hte]at hev;cases hl:asNat (opv E l fr)with
   |none=>simp only[hl]at hev;cases hev
   | some n =>
    simp only[hl]at hev;cases hm:asNat (opv E c fr)with
    |none=>simp only[hm]at hev;cases hev
    | some m =>
     simp only[hm]at hev;cases hg:(Nat.ble n m&&Nat.ble (Nat.mul m te.bytes) 140737488355328&&Nat.blt 0 te.size)with
     |false=>simp only[hg]at hev;cases hev
     | true =>
      simp only[hg,cond_true]at hev;cases hev;obtain⟨v',W',cx',h1,h2,h3,h4⟩:=Qv hE hs ht hte (ov l) (ov c) hl hm hg;exact Km.value (s:=Instr.makeSlice t _ _) h1 h2 h3 h4
 | slice t x lo hi mx =>
  have hev:Gx E t x lo hi mx fr h=.ok v h':=hev;unfold Gx at hev;obtain⟨ti,ht,hev⟩:=F6 hev;cases hhm:hi.isNone&&mx.isSome with
  |true=>rw[hhm]at hev;cases hev
  | false =>
   rw [hhm]at hev;obtain⟨hq,hh⟩:=H8 hev;subst hh;obtain⟨v',h1,h2⟩:=fD hE ht (ov x) (aZ hs hf lo) (aZ hs hf hi) (aZ hs hf mx) (fun hn=>by
    cases hi with
    |some hi=>cases hn
    | none=>cases mx with
     |none=>rfl
     |some mx=>cases hhm) hq
   exact Km.same (s:=Instr.sliceAt t _ _ _ _) hs h1 h2
 | fieldAddr t x f =>
  obtain⟨ti,ht,hev⟩:=F6 hev;obtain⟨hq,hh⟩:=H8 hev;subst hh;obtain⟨p,hp,hq⟩:=A1 hq;obtain⟨v',h1,h2⟩:=Qt hE ht (ov x) hp hq;exact Km.same (s:=Instr.fieldAt t _ f) hs h1 h2
 | field t x f =>
  obtain⟨ti,ht,hev⟩:=F6 hev;obtain⟨hq,hh⟩:=H8 hev;subst hh;obtain⟨p,hp,hq⟩:=A1 hq;obtain⟨v',h1,h2⟩:=fB hE ht (ov x) hp hq;exact Km.same (s:=Instr.field t _ f) hs h1 h2
 | indexAddr t x i =>
  obtain⟨ti,ht,hev⟩:=F6 hev;obtain⟨hq,hh⟩:=H8 hev;subst hh;obtain⟨n,hn,hq⟩:=A1 hq;obtain⟨v',h1,h2⟩:=Qu hE ht (ov x) (ov i) hn hq;exact Km.same (s:=Instr.indexAt t _ _) hs h1 h2
 | index t x i =>
  obtain⟨ti,ht,hev⟩:=F6 hev;obtain⟨hq,hh⟩:=H8 hev;subst hh;obtain⟨n,hn,hq⟩:=A1 hq;obtain⟨v',h1,h2⟩:=fC hE ht (ov x) (ov i) hn hq;exact Km.same (s:=Instr.index t _ _) hs h1 h2
 |lookup t m k ok=>cases hev
 |mapUpdate t m k x=>cases hev
 |insert t m k x=>cases hev
 | extract t i =>
  obtain⟨vs,hvs,hev⟩:=sX hev;obtain⟨hq,hh⟩:=H8 hev;subst hh
  have:=ov t
  rw[hvs]at this;obtain⟨v',h1,h2⟩:=Xc (P:=P) this hq;exact Km.same (s:=Instr.extract _ i) hs h1 h2
 | call c =>
  obtain⟨callee,args,argTypes⟩:=c;cases callee with
  |value f=>exact absurd rfl (hc _ f rfl)
  |invoke f n=>cases hev
  | builtin b =>
   have hev:lift2 (G1 E b argTypes.toList (opvs E args.toList fr) h)=.ok v h':=hev;cases hq:G1 E b argTypes.toList (opvs E args.toList fr) h with
   |none=>rw[hq]at hev;cases hev
   | some p =>
    rw [hq]at hev;cases hev;have hl:RepL W cx (args.map a.eval).toList (opvs E args.toList fr):=by
     have:=Bz (E:=E) hs hf args.toList;simpa using this
    exact Wz hE hs hl hq
 | panic x =>
  exfalso
  have hev:pE (opv E x fr) h=.ok v h':=hev;cases hq:opv E x fr<;>rw[hq]at hev<;>cases hev
 |_=>cases hev
end
end Go.AM
/-
 The abstract machine: operations,calls among them,and rows of operations in the order of the text.
-/
namespace Go.AM
def Res.Post(E:Env)(W:World)(cx:Cx):Res->Ending->World->Prop
 | .ok v h,.returned vv,w=>∃cx',Ext W cx w cx'/\Sat E w cx' h/\Rep w cx' vv v
 | .pan v h,.panicked chain,w=>∃cx' vv,chain=[{v:=vv,recovered:=false}]/\Ext W cx w cx'/\Sat E w cx' h/\Rep w cx' vv v
 |_,_,_=>False
def Fg(E:Env)(P:Program)(call:E7):Prop:=
 ∀ f (args:Array Value) l W cx h,RepL W cx args.toList l->Sat E W cx h->call f l h≠.bad ->
   (∃ fn c, P.funcs[f]? = some fn ∧ fn.body = some c ∧ (fn.name == "runtime.NumGoroutine") = false) ∧ Calls P f args W ((call f l h).Post E W cx)
def bA:Ex->Exit
 | .normal=>.normal
 | .exit i=>.exit i
 | .ret=>.ret
def CRes.Post(E:Env)(W:World)(cx:Cx)(S:Act->Prop)(r:CRes)(x:Exit)(a:Act)(w:World):Prop:=
 S a/\∃cx',Ext W cx w cx'/\
   match r with
   | .ok e fr h=>x=bA e/\Sat E w cx' h/\FrRep w cx' a.tmps fr
   | .pan v h=>∃vv,x=.panic [{v:=vv,recovered:=false}]/\Sat E w cx' h/\Rep w cx' vv v
   | .bad=>False
def Lc(S:Act->Prop)(d:Option Tmp):Prop:=∀a v,S a->S (a.put d v)
theorem CRes.Post.trans{E:Env}{W W₁:World}{cx cx₁:Cx}{S:Act->Prop}(he:Ext W cx W₁ cx₁){r:CRes}{x:Exit}{a:Act}{w:World}(h:r.Post E W₁ cx₁ S x a w):r.Post E W cx S x a w:=by
 obtain⟨hd,cx',he',h⟩:=h;exact⟨hd,cx',he.trans he',h⟩
section
variable {P:Program}{E:Env}{W:World}{cx:Cx}{h:Heap}
def Y4(r:Res):Prop:=∀v h,r≠.pan v h
theorem Y4.ok{v:AV}{h:Heap}:Y4 (.ok v h):=fun _ _ e=>by cases e
theorem Y4.bad:Y4 .bad:=fun _ _ e=>by cases e
theorem Y4.lift{x:Option AV}{h:Heap}:Y4 (lift x h):=by cases x;exact .bad;exact .ok
theorem Y4.liftH{x:Option Heap}:Y4 (liftH x):=by cases x;exact .bad;exact .ok
theorem Y4.lift2{x:Option (AV×Heap)}:Y4 (lift2 x):=by cases x;exact .bad;exact .ok
theorem Y4.onTI{t:Nat}{f:TI->Res}(hf:∀x,Y4 (f x)):Y4 (onTI E t .bad f):=by
 unfold AM.onTI;cases E.ti t;exact .bad;exact hf _
theorem Y4.cond{b:Bool}{x y:Res}(hx:Y4 x)(hy:Y4 y):Y4 (bif b then x else y):=by grind
theorem Tf{call:E7}{op:Op}{fr:Tr}(hp:∀x,op≠.panic x)(hc:∀c f,op=.call c->c.callee≠.value f):Y4 (evOp E call op fr h):=by
 cases op with
 |panic x=>exact absurd rfl (hp x)
 | call c =>
  obtain⟨callee,args,argTypes⟩:=c;cases callee with
  |value f=>exact absurd rfl (hc _ f rfl)
  |invoke f n=>exact .bad
  |builtin b=>exact .lift2
 |move x=>exact .ok
 |assign x=>exact .ok
 | pick c x y =>
  show Y4 ((opv E c fr).onBool .bad fun t=>match t with|true=>.ok (opv E x fr) h|false=>.ok (opv E y fr) h)
  cases opv E c fr with
  |bool b=>cases b<;>exact .ok
  |_=>exact .bad
 |alloc t=>exact .onTI fun _=>.ok
 |box t x=>exact .onTI fun _=>.cond .ok .bad
 |build t ps=>exact .onTI fun _=>.lift
 | buildSlice t n ps =>
  refine .onTI fun ti=>?_
  cases elemOfT E ti.desc with
  |none=>exact .bad
  | some te =>
   refine .cond ?_ .bad;cases placeL te.size (opvps E ps.toList fr) (repL n te.zero)with
   |none=>exact .bad
   |some es=>exact .ok
 |load t x=>exact .onTI fun _=>.lift
 |store t x y=>exact .onTI fun _=>.liftH
 |nilCheck x=>exact .lift
 |binOp op t x y yt=>exact .lift
 |unOp op t x=>exact .lift
 |convert s d x=>exact .onTI fun _=>.onTI fun _=>.lift
 |makeFunc f first caps=>exact .ok
 |makeMap t r=>cases r;exact .ok;exact .bad
 |makeInterface t x=>exact .onTI fun _=>.cond .ok .bad
 |typeAssert x xt t ok=>exact .onTI fun _=>.cond .lift .bad
 | makeSlice t l c =>
  refine .onTI fun ti=>?_
  cases elemOfT E ti.desc with
  |none=>exact .bad
  | some te =>
   cases h1:asNat (opv E l fr)with
   |none=>exact .bad
   | some n =>
    cases h2:asNat (opv E c fr)with
    |none=>exact .bad
    |some m=>exact .cond .ok .bad
 |slice t x lo hi mx=>exact .onTI fun _=>.cond .bad .lift
 |fieldAddr t x f=>exact .onTI fun _=>.lift
 |field t x f=>exact .onTI fun _=>.lift
 |indexAddr t x i=>exact .onTI fun _=>.lift
 |index t x i=>exact .onTI fun _=>.lift
 |lookup t m k ok=>exact .bad
 |mapUpdate t m k x=>exact .bad
 |insert t m k x=>exact .bad
 | extract t i =>
  show Y4 ((opv E t fr).onTup .bad fun vs=>lift (Ep vs i) h)
  cases opv E t fr with
  |tup vs=>exact .lift
  |_=>exact .bad
 |_=>exact .bad
theorem Ld(hE:EnvOk E P)(hs:Sat E W cx h){a:Act}{fr:Tr}(hf:FrRep W cx a.tmps fr){call:E7}(hcall:Fg E P call)(o:Oper){K:Act->World->Prop}{Q:Exit->Act->World->Prop}
 (hb:evOp E call o.op fr h≠.bad)
 (hK:∀v h' v' W' cx',evOp E call o.op fr h=.ok v h'->Ext W cx W' cx'->Sat E W' cx' h'->Rep W' cx' v' v->K (a.put o.dst v') W')
 (hQ:∀v h' v' W' cx',evOp E call o.op fr h=.pan v h'->Ext W cx W' cx'->Sat E W' cx' h'->Rep W' cx' v' v->Q (.panic [{v:=v',recovered:=false}]) a W'):o.wp P a W K Q:=by
 by_cases hc:∀c f,o.op=.call c->c.callee≠.value f
 . by_cases hp:∀x,o.op≠.panic x
   . cases hev:evOp E call o.op fr h with
     |bad=>grind
     |pan v h'=>exact absurd hev (Tf hp hc v h')
     | ok v h' =>
      obtain⟨v',W',cx',hr,h1,h2,h3⟩:=jY hE hs hf o hc hev;have hk:=hK v h' v' W' cx' hev h1 h2 h3;unfold Oper.wp;rcases hr with hr|⟨hr,rfl⟩
      . rw[hr];exact hk
      . rw[hr];exact hk
   . have ⟨x,hx⟩:∃x,o.op=.panic x:=by
      grind
     have ov:=c8 (E:=E) hs hf x;rw[hx]at hb hQ;have e:evOp E call (.panic x) fr h=pE (opv E x fr) h:=rfl;rw[e]at hb hQ;cases hq:opv E x fr with
     | iface t v =>
      rw[hq]at hQ ov;have hk:=hQ (.iface t v) h (a.eval x) W cx rfl (Ext.refl _ _) hs ov
      have:∃u,a.eval x=.iface t u:=by
       generalize a.eval x=u at ov;cases ov;grind
      obtain⟨u,hu⟩:=this;unfold Oper.wp
      have:(execOp a.eval o).run P W=.halt (.panic (a.eval x)) W:=by
       simp_all[execOp,Instr.panic]
      rw[this];exact hk
     |_=>rw[hq]at hb;exact absurd rfl hb
 . have ⟨c,f,hop,hcf⟩:∃c f,o.op=.call c/\c.callee=.value f:=by
    grind
   obtain⟨dst,op,type,pos,after,guard⟩:=o;simp only at hop;subst hop;obtain⟨callee,args,argTypes⟩:=c;simp only at hcf;subst hcf;have e:evOp E call (.call ⟨.value f,args,argTypes⟩) fr h=b9 call (opv E f fr) (opvs E args.toList fr) h:=rfl;rw[e]at hb hK hQ;have ov:=c8 (E:=E) hs hf f;have oa:=Bz (E:=E) hs hf args.toList;cases hq:opv E f fr with
   | fn g first caps =>
    rw[hq]at hb hK hQ ov;cases g with
    | func n =>
     have e:b9 call (.fn (.func n) first caps) (opvs E args.toList fr) h=call n (appL first (appL (opvs E args.toList fr) caps)) h:=rfl;rw[e]at hb hK hQ;have⟨vs,ws,hv,h1,h2⟩:∃vs ws,a.eval f=.func (.func n) vs ws/\RepL W cx vs.toList first/\RepL W cx ws.toList caps:=by
      generalize a.eval f=u at ov;cases ov with
      |fn f vs ws cs ds hl hl' h h'=>exact⟨vs,ws,rfl,⟨by grind,(by grind)⟩,⟨by grind,(by grind)⟩⟩
     rw [Q0,Q0]at hb hK hQ;have hl:RepL W cx (vs++args.map a.eval++ws).toList (first++(opvs E args.toList fr++caps)):=by
      have:(vs++args.map a.eval++ws).toList=vs.toList++(args.toList.map a.eval++ws.toList):=by simp
      rw[this];exact h1.append (oa.append h2)
     obtain⟨⟨fn,c,hf1,hf2,hf3⟩,hcl⟩:=hcall n _ _ W cx h hl hs hb;unfold Oper.wp
     have:(execOp a.eval ⟨dst,.call ⟨.value f,args,argTypes⟩,type,pos,after,guard⟩).run P W=.ok (.enter n (vs++args.map a.eval++ws)) W:=by
      have hn : ¬ fn.name = "runtime.NumGoroutine" := fun e => by grind
      simp[execOp,resolve,hv,Deferred.ofValue,invoke,callFunc,hf1,hf2,hn]
     rw[this,Oper.upon_enter];refine hcl.mono fun e w' hp=>?_
     generalize call n (first++(opvs E args.toList fr++caps)) h=r at *;cases r with
     |bad=>grind
     | ok v h' =>
      cases e with
      |returned vv=>obtain⟨cx',h1,h2,h3⟩:=hp;grind
      |panicked c=>exact hp.elim
      |outgrown=>exact hp.elim
     | pan v h' =>
      cases e with
      |returned vv=>exact hp.elim
      |panicked c=>obtain⟨cx',vv,rfl,h1,h2,h3⟩:=hp;grind
      |outgrown=>exact hp.elim
    |_=>exact absurd rfl hb
   |_=>rw[hq]at hb;exact absurd rfl hb
theorem O6{ops:Array Oper}{a:Act}{fr:Tr}(hf:FrRep W cx a.tmps fr)(o:Oper){b:Bool}(hg:guardOk (G4 ops.toList o) fr=some b):Region.wanted o (yielded ops a.tmps)=b:=by
 unfold G4 at hg;unfold Region.wanted;cases hgd:o.guard with
 |none=>rw[hgd]at hg;cases hg;rfl
 | some p =>
  obtain ⟨g,want⟩:=p;rw[hgd]at hg;dsimp only at hg|-;have hg:Ku ((match ops.toList[g]? with|some q=>q.dst|none=>none),want) fr=some b:=hg;have hyd:yielded ops a.tmps g=match((match ops.toList[g]? with|some q=>q.dst|none=>none).bind (a.tmps[·]?))with|some (.bool b)=>some b|_=>none:=by
   grind[yielded]
  generalize hdst:(match ops.toList[g]? with|some q=>q.dst|none=>none)=d at hg hyd;cases d with
  | none =>
   cases hg;grind
  | some t =>
   have hg:j2 want (fr.get t)=some b:=hg;have hr:=hf.rep t;cases hv:fr.get t with
   | bool c =>
    rw [hv]at hg hr;have e:=hr.bool_inv;have e2:a.tmps[t]?=some (.bool c):=by
     rw[zqd]at e;cases ht:a.tmps[t]? with
     |none=>rw[ht]at e;cases e
     |some u=>grind
    rw[hyd];simp only[zqo,e2];cases want<;>cases c<;>cases hg<;>rfl
   | tup l =>
    rw[hv]at hg hr;cases l with
    |cons x l=>cases hg
    | nil =>
     cases hg;obtain⟨vs,e,_⟩:=hr.tup_inv;rw[hyd];simp only[zqo];rw[zqd]at e;grind
   |_=>rw[hv]at hg;cases hg
theorem Jp(a:Act)(d:Option Tmp)(v:Value):(a.put d v).defers=a.defers:=by cases d<;>rfl
theorem Bd(hE:EnvOk E P){call:E7}(hcall:Fg E P call){S:Act->Prop}{ops:Array Oper}{Q:Exit->Act->World->Prop}:∀(l:List Oper)(W:World)(cx:Cx)(a:Act)(fr:Tr)(h:Heap),(∀o∈l,Lc S o.dst)->FrRep W cx a.tmps fr->S a->Sat E W cx h ->
 I5 E call (l.map (dM ops.toList false [] false)) fr h≠.bad->(∀x a' w',(I5 E call (l.map (dM ops.toList false [] false)) fr h).Post E W cx S x a' w'->Q x a' w')->wpList P ops Q l a W
 |[],W,cx,a,fr,h,_,hf,hd,hs,hb,hQ=>hQ .normal a W ⟨hd,cx,Ext.refl _ _,rfl,hs,hf⟩
 | o :: l,W,cx,a,fr,h,hst,hf,hd,hs,hb,hQ=>by
  have hst':∀o∈l,Lc S o.dst:=(by grind)
  have hso:=hst o (zqf ..);have he:I5 E call ((o::l).map (dM ops.toList false [] false)) fr h =
   R0 (guardOk (G4 ops.toList o) fr) .bad (X6 o.dst (I5 E call (l.map (dM ops.toList false [] false))) fr (evOp E call o.op fr h)) (I5 E call (l.map (dM ops.toList false [] false)) (setDst o.dst skipped fr) h):=rfl
  rw[he]at hb hQ;cases hg:guardOk (G4 ops.toList o) fr with
  |none=>rw[hg]at hb;exact absurd rfl hb
  | some b =>
   have hw:=O6 (ops:=ops) hf o hg;rw[hg]at hb hQ;unfold wpList;cases b with
   | false =>
    rw[hw];have hb:I5 E call (l.map (dM ops.toList false [] false)) (setDst o.dst skipped fr) h≠.bad:=hb;exact Bd hE hcall l W cx _ _ h hst' (hf.put o.dst (show Rep W cx undef skipped from .tup #[] [] rfl (by simp))) (hso _ _ hd) hs hb hQ
   | true =>
    rw[hw];have hb:X6 o.dst (I5 E call (l.map (dM ops.toList false [] false))) fr (evOp E call o.op fr h)≠.bad:=hb;have hQ:∀x a' w',(X6 o.dst (I5 E call (l.map (dM ops.toList false [] false))) fr (evOp E call o.op fr h)).Post E W cx S x a' w'->Q x a' w':=hQ;refine .inl (Ld hE hs hf hcall o (fun e=>by rw[e]at hb;exact hb rfl) (fun v h' v' W' cx' e h1 h2 h3=>?_) (fun v h' v' W' cx' e h1 h2 h3=>?_))
    . rw[e]at hb hQ
      exact Bd hE hcall l W' cx' _ _ h' hst' ((hf.mono h1).put o.dst h3) (hso _ _ hd) h2 hb (fun x a' w' hp=>hQ x a' w' (CRes.Post.trans h1 hp))
    . rw[e]at hQ
      exact hQ _ _ _ ⟨hd,cx',h1,v',rfl,h2,h3⟩
end
end Go.AM
/-
 The abstract machine: on what an operation hangs,and what it leaves.
-/
namespace Go.AM
section
variable {E:Env}{call:E7}{h:Heap}
theorem Db{fr fr':Tr}:∀(l:List Operand),(∀y∈l,opv E y fr=opv E y fr')->opvs E l fr=opvs E l fr'
 |[],_=>rfl
 | x::l,hy=>by
  show opv E x fr::opvs E l fr=opv E x fr'::opvs E l fr'
  rw[hy x (zqf ..),Db l fun y hm=>hy y (List.mem_cons_of_mem _ hm)]
theorem Fh{fr fr':Tr}:∀(l:List (Nat×Operand)),(∀y∈l.map (·.2),opv E y fr=opv E y fr')->opvps E l fr=opvps E l fr'
 |[],_=>rfl
 | x::l,hy=>by
  show(x.1,opv E x.2 fr)::opvps E l fr=(x.1,opv E x.2 fr')::opvps E l fr'
  rw[hy x.2 (by simp),Fh l fun y hm=>hy y (by simp at hm|-;exact .inr hm)]
theorem Jq{fr fr':Tr}(o:Option Operand)(hy:∀y,o=some y->opv E y fr=opv E y fr'):Nf E o fr=Nf E o fr':=by
 cases o with
 |none=>rfl
 |some x=>show some _=some _;grind
theorem y0{fr fr':Tr}(op:Op)(hy:∀y∈op.operands.toList,opv E y fr=opv E y fr')(h:Heap):evOp E call op fr h=evOp E call op fr' h:=by
 cases op with
 |move x=>show Res.ok _ _=Res.ok _ _;rw[hy x (by simp[Op.operands])]
 |assign x=>show Res.ok _ _=Res.ok _ _;rw[hy x (by simp[Op.operands])]
 |pick c a b=>show aM E c a b fr h=aM E c a b fr' h;unfold aM;rw[hy c (by simp[Op.operands]),hy a (by simp[Op.operands]),hy b (by simp[Op.operands])]
 |alloc t=>rfl
 |box t x=>show mJ E t x fr h=mJ E t x fr' h;unfold mJ;rw[hy x (by simp[Op.operands])]
 |build t ps=>show Rm E t ps fr h=Rm E t ps fr' h;unfold Rm;rw[Fh ps.toList (fun y hm=>hy y (by simpa[Op.operands]using hm))]
 |buildSlice t n ps=>show M2 E t n ps fr h=M2 E t n ps fr' h;unfold M2;rw[Fh ps.toList (fun y hm=>hy y (by simpa[Op.operands]using hm))]
 |load t x=>show aN E t x fr h=aN E t x fr' h;unfold aN;rw[hy x (by simp[Op.operands])]
 |store t a x=>show Rn E t a x fr h=Rn E t a x fr' h;unfold Rn;rw[hy a (by simp[Op.operands]),hy x (by simp[Op.operands])]
 |nilCheck x=>show Cv E x fr h=Cv E x fr' h;unfold Cv;rw[hy x (by simp[Op.operands])]
 |binOp op t x y u=>show Ro E op t x y fr h=Ro E op t x y fr' h;unfold Ro;rw[hy x (by simp[Op.operands]),hy y (by simp[Op.operands])]
 |unOp op t x=>show aO E op x fr h=aO E op x fr' h;unfold aO;rw[hy x (by simp[Op.operands])]
 |convert s d x=>show Gw E s d x fr h=Gw E s d x fr' h;unfold Gw;rw[hy x (by simp[Op.operands])]
 |makeFunc f first caps=>show Cw E f first caps fr h=Cw E f first caps fr' h;unfold Cw;rw[Db first.toList (fun y hm=>hy y (by simp[Op.operands];exact .inl (by simpa using hm))),Db caps.toList (fun y hm=>hy y (by simp[Op.operands];exact .inr (by simpa using hm)))]
 |makeMap t r=>rfl
 |typeAssert x xt t ok=>show t7 E t ok x fr h=t7 E t ok x fr' h;unfold t7;rw[hy x (by simp[Op.operands])]
 |makeInterface t x=>show W7 E t x fr h=W7 E t x fr' h;unfold W7;rw[hy x (by simp[Op.operands])]
 |makeSlice t l c=>show O5 E t l c fr h=O5 E t l c fr' h;unfold O5;rw[hy l (by simp[Op.operands]),hy c (by simp[Op.operands])]
 | slice t x lo hi mx =>
  show Gx E t x lo hi mx fr h=Gx E t x lo hi mx fr' h;unfold Gx
  rw[hy x (by simp[Op.operands]),Jq lo (fun y e=>hy y (by simp[Op.operands,e])),Jq hi (fun y e=>hy y (by simp[Op.operands,e])),Jq mx (fun y e=>hy y (by simp[Op.operands,e]))]
 |fieldAddr t x f=>show Av E t x f fr h=Av E t x f fr' h;unfold Av;rw[hy x (by simp[Op.operands])]
 |field t x f=>show Rp E t x f fr h=Rp E t x f fr' h;unfold Rp;rw[hy x (by simp[Op.operands])]
 |indexAddr t x i=>show Aw E t x i fr h=Aw E t x i fr' h;unfold Aw;rw[hy x (by simp[Op.operands]),hy i (by simp[Op.operands])]
 |index t x i=>show Rq E t x i fr h=Rq E t x i fr' h;unfold Rq;rw[hy x (by simp[Op.operands]),hy i (by simp[Op.operands])]
 |lookup t m k ok=>rfl
 |mapUpdate t m k x=>rfl
 |insert t m k x=>rfl
 |extract t i=>show Gy E t i fr h=Gy E t i fr' h;unfold Gy;rw[hy t (by simp[Op.operands])]
 | call c =>
  show jR E call c fr h=jR E call c fr' h
  obtain⟨callee,args,argTypes⟩:=c;have ha:=Db (E:=E) (fr:=fr) (fr':=fr') args.toList (fun y hm=>hy y (by simp[Op.operands,Call.operands];exact .inr (by simpa using hm)));cases callee with
  | value f =>
   have hf:=hy f (by simp[Op.operands,Call.operands]);show b9 call (opv E f fr) (opvs E args.toList fr) h=b9 call (opv E f fr') (opvs E args.toList fr') h
   rw[hf,ha]
  |invoke f n=>rfl
  | builtin b =>
   show lift2 (G1 E b argTypes.toList (opvs E args.toList fr) h)=lift2 (G1 E b argTypes.toList (opvs E args.toList fr') h)
   rw[ha]
 |panic x=>show Rr E x fr h=Rr E x fr' h;unfold Rr;rw[hy x (by simp[Op.operands])]
 |_=>rfl
theorem M1{x:Option AV}{v:AV}{h h':Heap}(hx:lift x h=.ok v h')(h₂:Heap):h'=h/\lift x h₂=.ok v h₂:=by
 cases x with
 |none=>cases hx
 |some a=>cases hx;exact⟨rfl,rfl⟩
theorem R4{t:Nat}{f:Heap->TI->Res}{v:AV}{h':Heap}{h₂:Heap}(hf:∀x,f h x=.ok v h'->h'=h/\f h₂ x=.ok v h₂)(hx:onTI E t .bad (f h)=.ok v h'):h'=h/\onTI E t .bad (f h₂)=.ok v h₂:=by
 unfold onTI at hx|-;cases ht:E.ti t with
 |none=>simp_all
 |some x=>rw[ht]at hx;grind
theorem Nm{op:Op}(hc:Ic op=0){fr:Tr}{v:AV}{h':Heap}(hev:evOp E call op fr h=.ok v h')(h₂:Heap):h'=h/\evOp E call op fr h₂=.ok v h₂:=by
 cases op with
 |move x=>cases hev;exact⟨rfl,rfl⟩
 |assign x=>cases hev;exact⟨rfl,rfl⟩
 | pick c x y =>
  have hev:(opv E c fr).onBool Res.bad (fun t=>match t with|true=>Res.ok (opv E x fr) h|false=>Res.ok (opv E y fr) h)=Res.ok v h':=hev;show _/\(opv E c fr).onBool Res.bad (fun t=>match t with|true=>Res.ok (opv E x fr) h₂|false=>Res.ok (opv E y fr) h₂)=Res.ok v h₂
  cases hq:opv E c fr with
  |bool b=>rw[hq]at hev;cases b<;>(cases hev;exact⟨rfl,rfl⟩)
  |_=>rw[hq]at hev;cases hev
 |binOp op t x y u=>exact M1 hev h₂
 |unOp op t x=>exact M1 hev h₂
 |convert s d x=>exact R4 (f:=fun h _=>onTI E d .bad fun td=>lift (S4 td.desc (opv E x fr)) h) (fun _ hx=>R4 (f:=fun h td=>lift (S4 td.desc (opv E x fr)) h) (fun _ hx=>M1 hx h₂) hx) hev
 | extract t i =>
  have hev:(opv E t fr).onTup Res.bad (fun vs=>lift (Ep vs i) h)=Res.ok v h':=hev;show _/\(opv E t fr).onTup Res.bad (fun vs=>lift (Ep vs i) h₂)=Res.ok v h₂
  cases hq:opv E t fr with
  |tup vs=>rw[hq]at hev;exact M1 hev h₂
  |_=>rw[hq]at hev;cases hev
 |field t x f=>exact R4 (f:=fun h ti=>lift (A7 (fieldAt E ti f) fun p=>(opv E x fr).onAgg none fun cs=>partOf p.1 cs p.2) h) (fun _ hx=>M1 hx h₂) hev
 |fieldAddr t x f=>exact R4 (f:=fun h ti=>lift (A7 (fieldAt E ti f) fun p=>B6 (Nat.blt 0 p.1.size) (C4 (opv E x fr) p.2)) h) (fun _ hx=>M1 hx h₂) hev
 |indexAddr t x i=>exact R4 (f:=fun h ti=>lift (A7 (asNat (opv E i fr)) fun i=>S5 E ti.desc i (opv E x fr)) h) (fun _ hx=>M1 hx h₂) hev
 |index t x i=>exact R4 (f:=fun h ti=>lift (A7 (asNat (opv E i fr)) fun i=>Ew E ti.desc i (opv E x fr)) h) (fun _ hx=>M1 hx h₂) hev
 | slice t x lo hi mx =>
  refine R4 (f:=fun h ti=>bif hi.isNone&&mx.isSome then .bad else lift (sliceA E ti.desc (Nf E lo fr) (Nf E hi fr) (Nf E mx fr) (opv E x fr)) h) (fun _ hx=>?_) hev;grind[M1]
 |nilCheck x=>exact M1 hev h₂
 |build t ps=>exact R4 (f:=fun h ti=>lift (X5 E ti (opvps E ps.toList fr)) h) (fun _ hx=>M1 hx h₂) hev
 | makeInterface t x =>
  refine R4 (f:=fun h ti=>bif V6 ti.desc then .ok (.iface t (opv E x fr)) h else .bad) (fun ti hx=>?_) hev;grind
 |makeFunc f first caps=>cases hev;exact⟨rfl,rfl⟩
 | call c =>
  exfalso
  obtain⟨callee,args,argTypes⟩:=c;cases callee with
  |builtin b=>cases b<;>cases hc
  |_=>cases hc
 |_=>cases hc
theorem jZ{α:Type}{i:Nat}{d:α}{f:List AV->Nat->α}{h₂:Heap}(hg:h₂.get i=h.get i):h₂.onRow i d f=h.onRow i d f:=by grind[Heap.onRow]
theorem eR{α:Type}{i:Nat}{d:α}{f:List (AV×AV)->α}{h₂:Heap}(hg:h₂.get i=h.get i):h₂.onMapo i d f=h.onMapo i d f:=by grind[Heap.onMapo]
theorem tE{x y:Option AV}{v:AV}{h h' h₂:Heap}(e:y=x)(hx:lift x h=.ok v h'):h'=h/\lift y h₂=.ok v h₂:=by
 grind[M1]
theorem kA{h₂:Heap}{t:TI}{x:AV}(hg:∀i,n8 x=some i->h₂.get i=h.get i):Ev t x h₂=Ev t x h:=by
 cases x with
 |ptr id i off=>exact jZ (hg id rfl)
 |_=>rfl
theorem pI{h₂:Heap}{d:TD}{x:AV}(hg:∀i,n8 x=some i->h₂.get i=h.get i):jP d x h₂=jP d x h:=by
 cases d with
 | map k e =>
  cases x with
  |map id=>exact eR (hg id rfl)
  |_=>rfl
 |_=>rfl
theorem map_lt{W:World}{cx:Cx}{u:Value}{id:Nat}(hx:Rep W cx u (.map id)):id<cx.nx:=by
 cases hx;assumption
theorem Tg{W:World}{cx:Cx}{u:Value}{x:AV}(hx:Rep W cx u x){i:Nat}(hr:n8 x=some i):i<cx.nx:=by
 cases x with
 |ptr id i off=>cases hr;exact hx.ptr_inv.1
 |map id=>cases hr;exact map_lt hx
 |_=>cases hr
theorem tF{W:World}{cx:Cx}{op:Op}{fr:Tr}(hy:∀y∈op.operands.toList,∃u,Rep W cx u (opv E y fr)){i:Nat}(hr:readO E op fr=some i):i<cx.nx:=by
 cases op with
 |load t x=>obtain⟨u,hu⟩:=hy x (by simp[Op.operands]);exact Tg hu hr
 |lookup t m k ok=>obtain⟨u,hu⟩:=hy m (by simp[Op.operands]);exact Tg hu hr
 | call c =>
  obtain⟨callee,args,argTypes⟩:=c;have hr:(match args.toList with|[]=>none|x::_=>n8 (opv E x fr))=some i:=hr;cases hargs:args.toList with
  |nil=>grind
  | cons a r =>
   rw[hargs]at hr;obtain⟨u,hu⟩:=hy a (by simp[Op.operands,Call.operands];exact .inr (Array.mem_toList_iff.1 (by rw[hargs];exact zqf ..)));exact Tg hu hr
 |_=>cases hr
theorem kB{op:Op}(hc:Ic op=1){fr:Tr}{h₂:Heap}(hg:∀i,readO E op fr=some i->h₂.get i=h.get i){v:AV}{h':Heap}(hev:evOp E call op fr h=.ok v h'):h'=h/\evOp E call op fr h₂=.ok v h₂:=by
 cases op with
 | load t x =>
  exact R4 (f:=fun h ti=>lift (Ev ti (opv E x fr) h) h) (fun ti hx=>tE (kA hg) hx) hev
 |lookup t m k ok=>cases hev
 | call c =>
  obtain⟨callee,args,argTypes⟩:=c;cases callee with
  |value f=>cases hc
  |invoke f n=>cases hc
  | builtin b =>
   have hev:lift2 (G1 E b argTypes.toList (opvs E args.toList fr) h)=.ok v h':=hev;show _/\lift2 (G1 E b argTypes.toList (opvs E args.toList fr) h₂)=.ok v h₂
   have hrep:∀x l,opvs E args.toList fr=x::l->∀i,n8 x=some i->h₂.get i=h.get i:=by
    intro x l e i hi;refine hg i ?_;show(match args.toList with|[]=>none|x::_=>n8 (opv E x fr))=some i
    cases hargs:args.toList with
    |nil=>rw[hargs]at e;cases e
    | cons a r =>
     rw[hargs]at e;have e:opv E a fr::opvs E r fr=x::l:=e
     have:=(List.cons.inj e).1
     show n8 (opv E a fr)=_
     rw[this];exact hi
   cases b with
   | len =>
    have hev:lift2 (Wu E argTypes.toList (opvs E args.toList fr) h)=.ok v h':=hev;show _/\lift2 (Wu E argTypes.toList (opvs E args.toList fr) h₂)=.ok v h₂
    unfold Wu at hev|-;generalize argTypes.toList=ats at hev|-;generalize opvs E args.toList fr=vs at hev hrep|-;cases ats with
    |nil=>cases hev
    | cons t ts =>
     cases vs with
     |nil=>cases hev
     | cons x l =>
      have hu:=hrep x l rfl;dsimp only at hev|-;unfold onTI at hev|-;generalize E.ti t=et at hev|-;cases et with
      |none=>cases hev
      | some ti =>
       dsimp only at hev|-;rw[pI hu];cases hl:jP ti.desc x h with
       |none=>rw[hl]at hev;cases hev
       | some n =>
        rw[hl]at hev;simp only[A7,C9,lift2]at hev|-;cases hev;exact⟨rfl,rfl⟩
   | max =>
    have hev:lift2 (pB (opvs E args.toList fr) h)=.ok v h':=hev;show _/\lift2 (pB (opvs E args.toList fr) h₂)=.ok v h₂
    unfold pB at hev|-;generalize opvs E args.toList fr=vs at hev|-;cases vs with
    |nil=>cases hev
    | cons x l =>
     dsimp only at hev|-;cases hm:Nb l x with
     |none=>rw[hm]at hev;cases hev
     |some r=>rw[hm]at hev;cases hev;exact⟨rfl,rfl⟩
   | min =>
    have hev:lift2 (pC (opvs E args.toList fr) h)=.ok v h':=hev;show _/\lift2 (pC (opvs E args.toList fr) h₂)=.ok v h₂
    unfold pC at hev|-;generalize opvs E args.toList fr=vs at hev|-;cases vs with
    |nil=>cases hev
    | cons x l =>
     dsimp only at hev|-;cases hm:Qq l x with
     |none=>rw[hm]at hev;cases hev
     |some r=>rw[hm]at hev;cases hev;exact⟨rfl,rfl⟩
   |_=>cases hc
 |_=>cases hc
end
end Go.AM
/-
 The abstract machine: new objects; what is left as it was.
-/
namespace Go.AM
section
variable {P:Program}{E:Env}{W:World}{cx:Cx}{h:Heap}{call:E7}
def AI(P:Program)(W:World)(cx:Cx)(s:Sem Next)(es:List AV)(sz:Nat)(nx:Nat->AV):Prop:=
 ∃ (c:Array Value) (t:TypeId) (vs:List Value) (v':Value),s.run P W=.ok (.value v') (W.alloc (.cells c t))/\RowRep W cx vs es sz/\(∀(k:Nat) v,vs[k]?=some v->c[k]?=some v)/\es.length*sz<=c.size/\
   ∀(W₂:World)(cx₂:Cx)(id:Nat),cx₂.μ id=(W.heap.size,0,sz)->id<cx₂.nx->W.heap.size<W₂.heap.size->szOf W₂ W.heap.size=c.size->Rep W₂ cx₂ v' (nx id)
theorem Yh{v:Value}{a:AV}{sz:Nat}(hv:Rep W cx v a)(hok:Ww v.cells.toList)(hu:a≠.und)(hz:a.cells.length=sz)(t:TypeId){s:Sem Next}(hs:s.run P W=.ok (.value (.pointer (some ⟨W.heap.size,0,none⟩))) (W.alloc (.cells v.cells t))):
 AI P W cx s [a] sz (fun id=>.ptr id 0 0):=by
 have hcs:=hv.cells hu;refine⟨v.cells,t,_,_,hs,RowRep.one hcs hok hz,fun k v hk=>by grind,by have:=hcs.1;grind,fun W₂ cx₂ id h1 h2 h3 h4=>?_⟩
 have:=Rep.ptr (W:=W₂) (cx:=cx₂) id 0 0 h2 (by grind)
 grind
theorem tG(hE:EnvOk E P)(hs:Sat E W cx h){a:Act}{fr:Tr}(hf:FrRep W cx a.tmps fr)(o:Oper)(hc:Ic o.op=2){v:AV}{h₁ h':Heap}(hev:evOp E call o.op fr h₁=.ok v h'):
 ∃es sz nx,v=nx h₁.next/\h'=h₁.push (.row es sz)/\(∀h₂,evOp E call o.op fr h₂=.ok (nx h₂.next) (h₂.push (.row es sz)))/\AI P W cx (execOp a.eval o) es sz nx:=by
 have ov:=fun x=>c8 (E:=E) hs hf x
 obtain⟨dst,op,type,pos,after,guard⟩:=o;cases op with
 | alloc t =>
  obtain⟨ti,ht,hq⟩:=F6 hev;have hty:=hE.ti t ti ht;obtain⟨z,hzr,hzo⟩:=hty.run_zero (W:=W);cases hq;refine⟨[ti.zero],ti.size,fun id=>.ptr id 0 0,rfl,rfl,fun h₂=>?_,Yh (hzo.rep W cx) hzo.one hzo.und hty.zsz t ?_⟩
  . show onTI E t .bad (fun ti=>jQ ti.size ti.zero h₂)=_
    unfold onTI;rw[ht];rfl
  . simp[execOp,Instr.alloc,hzr,newVar,newRow]
 | box t x =>
  obtain⟨ti,ht,hq⟩:=F6 hev;cases hg:(Nat.beq (lenL (opv E x fr).cells) ti.size&&E8 (opv E x fr).cells)with
  |false=>grind
  | true =>
   rw [hg]at hq;cases hq;have hg0:=hg;rw[zqa,A9,G9]at hg;have hu:opv E x fr≠.und:=fun e=>by
    have:=hg.2 .und (by rw[e];simp[AV.cells])
    cases this
   refine⟨[opv E x fr],ti.size,fun id=>.ptr id 0 0,rfl,rfl,fun h₂=>?_,Yh (ov x) (((ov x).cells hu).one hg.2) hu (E5 hg.1) t ?_⟩
   . show onTI E t .bad (fun ti=>bif Nat.beq (lenL (opv E x fr).cells) ti.size&&E8 (opv E x fr).cells then jQ ti.size (opv E x fr) h₂ else .bad)=_
     unfold onTI;rw[ht];dsimp only;rw[hg0];rfl
   . simp[execOp,Instr.box,newVar,newRow]
 | buildSlice t n ps =>
  obtain⟨ti,ht,hq⟩:=F6 hev;cases hte:elemOfT E ti.desc with
  |none=>grind
  | some te =>
   rw[hte]at hq;cases hg:(Nat.ble (Nat.mul n te.size) 65536&&Nat.blt 0 te.size)with
   |false=>grind
   | true =>
    simp only[hg,cond_true]at hq;cases hp:placeL te.size (opvps E ps.toList fr) (repL n te.zero)with
    |none=>grind
    | some es =>
     rw[hp]at hq;cases hq;obtain⟨l1,l2⟩:=Ha hs hf ps.toList;obtain⟨e,c',h1,h2,h3,h4⟩:=Fj hE hs ht hte (ps:=ps.map fun p=>(p.1,a.eval p.2)) (by grind) (by grind) hg hp;refine⟨es,te.size,fun id=>.msl id 0 n te.size,rfl,rfl,fun h₂=>?_,c',e,c'.toList,.slice (some ⟨W.heap.size,0,none⟩) n n,?_,h2,fun k v hk=>by grind,by grind,fun W₂ cx₂ id k1 k2 k3 k4=>?_⟩
     . show M2 E t n ps fr h₂=_
       unfold M2;unfold onTI;rw[ht];grind
     . show((do pure (.value (<-Instr.buildSlice t n (ps.map fun p=>(p.1,a.eval p.2))))):Sem Next).run P W=_
       simp_all
     simp_all[bG]
 | makeSlice t l c =>
  obtain⟨ti,ht,hq⟩:=F6 hev;cases hte:elemOfT E ti.desc with
  |none=>grind
  | some te =>
   rw[hte]at hq;dsimp only at hq;cases hl:asNat (opv E l fr)with
   |none=>grind
   | some n =>
    rw[hl]at hq;dsimp only at hq;cases hm:asNat (opv E c fr)with
    |none=>grind
    | some m =>
     rw[hm]at hq;dsimp only at hq;cases hg:(Nat.ble n m&&Nat.ble (Nat.mul m te.bytes) 140737488355328&&Nat.blt 0 te.size)with
     |false=>grind
     | true =>
      rw[hg]at hq;cases hq;obtain⟨e,c',vs,h1,h2,h3,h4,h5⟩:=Xd hE hs ht hte (ov l) (ov c) hl hm hg;refine⟨repL n te.zero,te.size,fun id=>.msl id 0 n te.size,rfl,rfl,fun h₂=>?_,c',e,vs,.slice (some ⟨W.heap.size,0,none⟩) n m,?_,h2,h3,by simp_all[m6,Nat.mul_le_mul_right],fun W₂ cx₂ id k1 k2 k3 k4=>?_⟩
      . show O5 E t l c fr h₂=_
        unfold O5;unfold onTI;rw[ht];grind
      . show((do pure (.value (<-Instr.makeSlice t (a.eval l) (a.eval c)))):Sem Next).run P W=_
        simp_all
      grind[bG]
 | call c =>
  exfalso
  obtain⟨callee,args,argTypes⟩:=c;cases callee with
  |builtin b=>cases b<;>cases hc
  |_=>cases hc
 |_=>cases hc
structure Pres(h h':Heap):Prop where
 next:h.next<=h'.next
 get:∃new,h'.tch=new++h.tch/\∀i,i<h.next->i∉new->h'.get i=h.get i
def Res.heap(r:Res):Option Heap:=match r with | .ok _ h=>some h | .pan _ h=>some h | .bad=>none
def N9(call:E7):Prop:=∀f l h h',Res.heap (call f l h)=some h'->Pres h h'
theorem Pres.refl(h:Heap):Pres h h:=⟨zql _,[],rfl,fun _ _ _=>rfl⟩
theorem Pres.trans{h h₁ h₂:Heap}(a:Pres h h₁)(b:Pres h₁ h₂):Pres h h₂:=by
 obtain⟨a1,n1,a2,a3⟩:=a;obtain⟨b1,n2,b2,b3⟩:=b;refine⟨zqm a1 b1,n2++n1,by grind,fun i hi hn=>?_⟩;grind
theorem Pres.set(h:Heap)(i:Nat)(x:AObj):Pres h (h.set i x):=
 ⟨zql _,[i],rfl,(by grind[Go.AM.Heap.get_set_ne])⟩
theorem Pres.del(h:Heap)(i:Nat):Pres h (h.del i):=
 ⟨zql _,[i],rfl,(by grind[Go.AM.Heap.get_del_ne])⟩
theorem Pres.push(h:Heap)(x:AObj):Pres h (h.push x):=
 ⟨Nat.le_succ _,[],rfl,(by grind[Go.AM.Heap.get_push_ne])⟩
theorem j4{t:Nat}{f:TI->Res}{v:AV}{h':Heap}(hx:onTI E t .bad f=.ok v h')(hf:∀x,f x=.ok v h'->Pres h h'):Pres h h':=by
 grind[F6]
theorem Yi{x:Option AV}{v:AV}{h':Heap}(hx:lift x h=.ok v h'):Pres h h':=by
 rw[(H8 hx).2];exact .refl h
theorem Lf{te:TI}{s:AV}{xs:List AV}{r:AV}{h':Heap}(ha:I2 te s xs h=some (r,h')):Pres h h':=by
 unfold I2 at ha;cases xs with
 |nil=>cases s<;>first|(cases ha;exact .refl h)|cases ha
 | cons x xs =>
  cases s with
  | nilsl =>
   have ha:Au te [] true (x::xs) h=some (r,h'):=ha;rw[Jn]at ha;rw[C9]at ha;obtain⟨_,ha⟩:=B0 ha;cases ha;exact .push _ _
  | fsl es full =>
   have ha:Au te es full (x::xs) h=some (r,h'):=ha;rw[Jn]at ha;rw[C9]at ha;obtain⟨_,ha⟩:=B0 ha;cases ha;exact .push _ _
  | msl id off n sz =>
   obtain⟨es,sz',_,ha⟩:=Heap.onRow_some ha;rw[Sv]at ha;rw[C9]at ha;obtain⟨_,ha⟩:=B0 ha;cases ha;exact(Pres.del h id).trans (.push _ _)
  |_=>cases ha
theorem builtinA_pres{b:Builtin}{ts:List TypeId}{args:List AV}{r:AV}{h':Heap}(hb:G1 E b ts args h=some (r,h')):Pres h h':=by
 cases b with
 | append =>
  have hb:Kt E ts args h=some (r,h'):=hb;unfold Kt at hb;cases ts with
  |nil=>cases hb
  | cons t ts =>
   cases ts with
   |nil=>cases hb
   | cons tx ts =>
    cases args with
    |nil=>cases hb
    | cons s l =>
     cases l with
     |nil=>cases hb
     | cons x l =>
      obtain ⟨ti,_,hb⟩:=F7 hb;obtain⟨te,_,hb⟩:=A1 hb;obtain⟨_,hb⟩:=B0 hb;obtain⟨tix,_,hb⟩:=F7 hb;have key:A7 (elems x h) (fun xs=>B6 (L8 te.size xs) (I2 te s xs h))=some (r,h')->Pres h h':=fun hb=>by
       obtain⟨xs,_,hb⟩:=A1 hb;obtain⟨_,hb⟩:=B0 hb;exact Lf hb
      cases hd:tix.desc with
      | int k =>
       rw[hd]at hb;obtain⟨n,_,hb⟩:=A1 hb;obtain⟨_,hb⟩:=B0 hb;exact Lf hb
      |_=>rw[hd]at hb;exact key hb
 | len =>
  have hb:Wu E ts args h=some (r,h'):=hb;unfold Wu at hb;cases ts with
  |nil=>cases hb
  | cons t ts =>
   cases args with
   |nil=>cases hb
   | cons x l =>
    obtain⟨ti,_,hb⟩:=F7 hb;obtain⟨n,_,hb⟩:=A1 hb;rw[C9]at hb;cases hb;exact .refl _
 | max =>
  cases args with
  |nil=>cases hb
  | cons x l =>
   obtain⟨y,_,hb⟩:=zqn.1 (show(Nb l x).map (·,h)=some (r,h')from hb);cases hb;exact .refl _
 | min =>
  cases args with
  |nil=>cases hb
  | cons x l =>
   obtain⟨y,_,hb⟩:=zqn.1 (show(Qq l x).map (·,h)=some (r,h')from hb);cases hb;exact .refl _
 |_=>cases hb
theorem evOp_pres(hcall:N9 call){op:Op}{fr:Tr}{v:AV}{h':Heap}(hev:evOp E call op fr h=.ok v h'):Pres h h':=by
 by_cases h0:Ic op=0
 . rw[(Nm h0 hev h).1];exact .refl _
 cases op with
 |alloc t=>exact j4 hev fun ti hx=>by cases hx;exact .push _ _
 | box t x =>
  refine j4 hev fun ti hx=>?_
  cases hb:(Nat.beq (lenL (opv E x fr).cells) ti.size&&E8 (opv E x fr).cells)with
  |true=>rw[hb]at hx;cases hx;exact .push _ _
  |false=>rw[hb]at hx;cases hx
 | buildSlice t n ps =>
  refine j4 hev fun ti hx=>?_
  cases hte:elemOfT E ti.desc with
  |none=>rw[hte]at hx;cases hx
  | some te =>
   rw[hte]at hx;dsimp only at hx;cases hg:(Nat.ble (Nat.mul n te.size) 65536&&Nat.blt 0 te.size)with
   |false=>rw[hg]at hx;cases hx
   | true =>
    rw[hg]at hx;simp only[cond_true]at hx;cases hp:placeL te.size (opvps E ps.toList fr) (repL n te.zero)with
    |none=>rw[hp]at hx;cases hx
    |some es=>rw[hp]at hx;cases hx;exact .push _ _
 |load t x=>exact j4 hev fun ti hx=>Yi hx
 | typeAssert x xt t ok =>
  refine j4 hev fun ti hx=>?_
  cases hb:(V6 ti.desc && !ok)with
  |true=>rw[hb]at hx;exact Yi hx
  |false=>rw[hb]at hx;cases hx
 |lookup t m k ok=>cases hev
 | store t x y =>
  refine j4 hev fun ti hx=>?_
  cases hq:Cu ti (opv E x fr) (opv E y fr) h with
  |none=>rw[hq]at hx;cases hx
  | some h2 =>
   rw[hq]at hx;cases hx;cases hp:opv E x fr with
   | ptr id i off =>
    rw[hp]at hq;obtain⟨es,sz,_,hq⟩:=Heap.onRow_some hq;obtain⟨old,_,hq⟩:=A1 hq;obtain⟨_,hq⟩:=B0 hq;cases hq;exact .set _ _ _
   |_=>rw[hp]at hq;cases hq
 | makeMap t r =>
  cases r with
  |none=>cases hev;exact .push _ _
  |some r=>cases hev
 | makeSlice t l c =>
  refine j4 hev fun ti hx=>?_
  cases hte:elemOfT E ti.desc with
  |none=>rw[hte]at hx;cases hx
  | some te =>
   rw[hte]at hx;dsimp only at hx;cases hl:asNat (opv E l fr)with
   |none=>rw[hl]at hx;cases hx
   | some n =>
    rw[hl]at hx;dsimp only at hx;cases hm:asNat (opv E c fr)with
    |none=>rw[hm]at hx;cases hx
    | some m =>
     rw[hm]at hx;dsimp only at hx;cases hg:(Nat.ble n m&&Nat.ble (Nat.mul m te.bytes) 140737488355328&&Nat.blt 0 te.size)with
     |false=>rw[hg]at hx;cases hx
     |true=>rw[hg]at hx;cases hx;exact .push _ _
 |mapUpdate t m k x=>cases hev
 |insert t m k x=>cases hev
 | call c =>
  obtain⟨callee,args,argTypes⟩:=c;cases callee with
  | value f =>
   have hev:b9 call (opv E f fr) (opvs E args.toList fr) h=.ok v h':=hev;cases hq:opv E f fr with
   | fn g first caps =>
    rw[hq]at hev;cases g with
    |func n=>exact hcall _ _ _ _ (by show Res.heap (b9 call (.fn (.func n) first caps) (opvs E args.toList fr) h)=_;rw[hev];rfl)
    |_=>cases hev
   |_=>rw[hq]at hev;cases hev
  |invoke f n=>cases hev
  | builtin b =>
   have hev:lift2 (G1 E b argTypes.toList (opvs E args.toList fr) h)=.ok v h':=hev;cases hq:G1 E b argTypes.toList (opvs E args.toList fr) h with
   |none=>rw[hq]at hev;cases hev
   |some p=>rw[hq]at hev;cases hev;exact builtinA_pres hq
 | panic x =>
  exfalso
  have hev:pE (opv E x fr) h=.ok v h':=hev;cases hq:opv E x fr<;>rw[hq]at hev<;>cases hev
 |_=>first|exact absurd rfl h0|cases hev
theorem evOp_pres_pan(hcall:N9 call){op:Op}{fr:Tr}{v:AV}{h':Heap}(hev:evOp E call op fr h=.pan v h'):Pres h h':=by
 by_cases hp:∃x,op=.panic x
 . obtain⟨x,rfl⟩:=hp
   have hev:pE (opv E x fr) h=.pan v h':=hev;cases hq:opv E x fr with
   |iface t w=>rw[hq]at hev;cases hev;exact .refl h
   |_=>rw[hq]at hev;cases hev
 . by_cases hc:∃c f,op=.call c/\c.callee=.value f
   . obtain ⟨c,f,rfl,hf⟩:=hc
     obtain⟨callee,args,argTypes⟩:=c;dsimp only at hf;subst hf;have hev:b9 call (opv E f fr) (opvs E args.toList fr) h=.pan v h':=hev;cases hq:opv E f fr with
     | fn g first caps =>
      rw[hq]at hev;cases g with
      |func n=>exact hcall _ _ _ _ (by show Res.heap (b9 call (.fn (.func n) first caps) (opvs E args.toList fr) h)=_;rw[hev];rfl)
      |_=>cases hev
     |_=>rw[hq]at hev;cases hev
   . exact absurd hev (Tf (fun x e=>hp ⟨x,e⟩) (fun c f e e2=>hc ⟨c,f,e,e2⟩) v h')
end
end Go.AM
/-
 The abstract machine: a region that draws its order: the plan,and the run in the order of reference.
-/
namespace Go.AM
structure Plan(ops:Array Oper)(ms l:List Nat):Prop where
 len:l.length=ops.size
 lt:∀(m i:Nat),l[m]?=some i->i<ops.size
 all:∀(i:Nat),i<ops.size->∃m:Nat,l[m]?=some i
 inj:∀(m m' i:Nat),l[m]?=some i->l[m']?=some i->m=m'
 pair:∀(m m' i j:Nat),m<m'->l[m]?=some i->l[m']?=some j->aQ ops.toList ms i j=true/\bit (ms.getD i 0) j=false
 mask:∀(i j:Nat),i<ops.size->j<ops.size->bit (ms.getD j 0) i=true->∃o,ops[j]?=some o/\∃e∈directs o,e=i\/bit (ms.getD e 0) i=true
 news:∀(m i:Nat)(o:Oper),l[m]?=some i->ops[i]?=some o->Ic o.op=2->∀(m' j:Nat),m<m'->l[m']?=some j->bit (ms.getD j 0) i=true->∀(m'' k:Nat),m''<m->l[m'']?=some k->bit (ms.getD j 0) k=true
 edge:∀(j:Nat)(o:Oper)(e:Nat),ops[j]?=some o->e∈directs o->e<ops.size/\bit (ms.getD j 0) e=true/\e≠j
 dst:∀(m m' i j:Nat)(x y:Oper)(d:Tmp),m<m'->l[m]?=some i->l[m']?=some j->ops[i]?=some x->ops[j]?=some y->x.dst=some d->y.dst≠some d
theorem Th:∀(l:List Nat),aS l=true->∀(m m':Nat) i,l[m]?=some i->l[m']?=some i->m=m'
 |[],_,m,m',i,h,_=>by simp at h
 | a :: r,hn,m,m',i,h,h'=>by
  unfold aS at hn;rw[zqa]at hn;have hc:a∉r:=by
   grind
  cases m with
  | zero =>
   grind
  | succ m =>
   cases m' with
   | zero =>
    grind
   | succ m' =>
    simp at h h';rw[Th r hn.2 m m' i h h']
theorem pairsOk_get{ops:List Oper}{ms:List Nat}:∀(l:List Nat),Rt ops ms l=true->∀(m m':Nat) i j,m<m'->l[m]?=some i->l[m']?=some j->aQ ops ms i j=true/\bit (ms.getD i 0) j=false
 |[],_,m,m',i,j,_,h,_=>by simp at h
 | a :: r,hn,m,m',i,j,hlt,h,h'=>by
  unfold Rt at hn;rw[zqa]at hn;cases m' with
  |zero=>omega
  | succ m' =>
   simp at h';cases m with
   | zero =>
    grind
   | succ m =>
    simp at h;exact pairsOk_get r hn.2 m m' i j (by omega) h h'
theorem Ti{ops:List Oper}:∀(l:List Nat),aT ops l=true->∀(m m':Nat) i j x y d,m<m'->l[m]?=some i->l[m']?=some j->ops[i]?=some x->ops[j]?=some y->x.dst=some d->y.dst≠some d
 |[],_,m,m',i,j,x,y,d,_,h,_,_,_,_=>by simp at h
 | a :: r,hn,m,m',i,j,x,y,d,hlt,h,h',hx,hy,hd=>by
  unfold aT at hn;rw[zqa]at hn;cases m' with
  |zero=>omega
  | succ m' =>
   simp at h';cases m with
   | zero =>
    simp at h;subst h
    have:=(zqe.1 hn.1) j (zqh h')
    grind
   | succ m =>
    simp at h;exact Ti r hn.2 m m' i j x y d (by omega) h h' hx hy hd
theorem Tj{ops:List Oper}{ms:List Nat}:∀(l ahead:List Nat),aR ops ms ahead l=true->∀(m:Nat) i o,l[m]?=some i->ops[i]?=some o->Ic o.op=2->∀m' j,m<m'->l[m']?=some j->bit (ms.getD j 0) i=true ->
 (∀k∈ahead,bit (ms.getD j 0) k=true)/\∀m'' k,m''<m->l[m'']?=some k->bit (ms.getD j 0) k=true
 |[],_,_,m,i,o,h,_,_,_,_,_,_,_=>by simp at h
 | a :: r,ahead,hn,m,i,o,h,ho,hc,m',j,hlt,h',hb=>by
  unfold aR at hn;rw[zqa]at hn;cases m' with
  |zero=>omega
  | succ m' =>
   simp at h';cases m with
   | zero =>
    simp at h;subst h;have h1:=hn.1;have hcl:clsAt ops a=2:=by grind[clsAt]
    rw[hcl]at h1;have h2:(r.all fun j=>!(bit (ms.getD j 0) a)||ahead.all fun i=>bit (ms.getD j 0) i)=true:=by simpa using h1
    grind
   | succ m =>
    simp at h;obtain⟨h4,h5⟩:=Tj r (a::ahead) hn.2 m i o h ho hc m' j (by omega) h' hb;grind
theorem yG{ops:Array Oper}{ms l:List Nat}(h:Ng ops.toList ms l=true):Plan ops ms l:=by
 unfold Ng at h;simp only[zqa]at h;obtain⟨⟨⟨⟨⟨⟨h1,h2⟩,h3⟩,h4⟩,h5⟩,h6⟩,h7⟩:=h;unfold sR at h1;simp only[zqa]at h1;obtain⟨⟨⟨a1,a2⟩,a3⟩,a4⟩:=h1;have hlen:l.length=ops.size:=by simp_all
 have hlt:∀(m i:Nat),l[m]?=some i->i<ops.size:=fun m i hm=>by
  have:=M3 ((zqe.1 a3) i (zqh hm));simpa using this
 refine⟨hlen,hlt,fun i hi=>?_,fun m m' i=>Th l a4 m m' i,(by grind[Go.AM.pairsOk_get]),fun i j hi hj hb=>?_,fun m i o hm ho hc m' j hlt' hm' hb m'' k hk hk'=>?_,fun j o e ho he=>?_,fun m m' i j x y d hlt' hm hm' hx hy hd=>?_⟩
 . have:=(zqe.1 a2) i (by unfold Qr;simp;exact hi)
   have hm:i∈l:=by simpa using this
   exact zqi hm
 . unfold mK at h3
   have h8:=(zqe.1 h3) j (by unfold Qr;simp;exact hj);have h9:=(zqe.1 h8) i (by unfold Qr;simp;exact hi);simp_all
 . exact(Tj l [] h4 m i o hm (by rw[zqc];exact ho) hc m' j hlt' hm' hb).2 m'' k hk hk'
 . have hj:j<ops.size:=by
    grind
   unfold mL at h6;have h8:=(zqe.1 h6) j (by unfold Qr;simp;exact hj);rw[zqc,ho]at h8;have h9:=(zqe.1 h8) e he;simp only[zqa,zqb]at h9;obtain⟨⟨b1,b2⟩,b3⟩:=h9;refine⟨by simp_all,b2,fun e'=>?_⟩;simp_all
 grind[Ti]
theorem Plan.apart{ops:Array Oper}{ms l:List Nat}(hp:Plan ops ms l){m m' i j:Nat}{x y:Oper}(hlt:m<m')(hm:l[m]?=some i)(hm':l[m']?=some j)(hx:ops[i]?=some x)(hy:ops[j]?=some y)(hb:bit (ms.getD j 0) i=false):
 Ic y.op≠3/\(∀d,x.dst=some d->d∉AM.looksAt ops.toList y)/\(∀d,y.dst=some d->d∉AM.looksAt ops.toList x):=by
 have h:=(hp.pair m m' i j hlt hm hm').1;unfold aQ at h;rw[hb]at h;simp only[Bool.false_or,zqa,zqb]at h;obtain⟨h1,h2⟩:=h;unfold clsAt at h1;rw[zqc,hy]at h1;unfold apartAt at h2;rw[zqc,hx]at h2;dsimp only at h2;rw[zqc,hy]at h2;dsimp only at h1 h2;unfold sP at h2;rw[zqa]at h2;refine⟨fun e=>(by simp_all),fun d hd hm=>?_,fun d hd hm=>?_⟩
 . grind
 grind
section
variable (E:Env)(call:E7)
abbrev HD:=Heap×List Nat
def AJ(r:DRes):Option (AV×HD):=match r with | .ok v h d=>some (v,h,d)|_=>none
noncomputable def stp(x:XOp)(fr:Tr)(h:HD):Option (AV×HD):=
 match guardOk x.gd fr with
 |none=>none
 |some b=>match b with|false=>some (skipped,h)|true=>AJ (evOpD E call x fr h.1 h.2)
noncomputable def GW(x:XOp)(s:Tr×HD):Option (Tr×HD):=A7 (stp E call x s.1 s.2) fun r=>some (setDst x.dst r.1 s.1,r.2)
noncomputable def St(xs:List XOp)(s₀:Tr×HD):Nat->Option (Tr×HD)
 |0=>some s₀
 |m+1=>A7 (St xs s₀ m) fun s=>A7 xs[m]? fun x=>GW E call x s
end
section
variable {E:Env}{call:E7}{xs:List XOp}{s₀:Tr×HD}
theorem bB{m:Nat}{s:Tr×HD}(h:St E call xs s₀ (m+1)=some s):∃s' x r,St E call xs s₀ m=some s'/\xs[m]?=some x/\stp E call x s'.1 s'.2=some r/\s=(setDst x.dst r.1 s'.1,r.2):=by
 obtain⟨s',h1,h⟩:=A1 h;obtain⟨x,h2,h⟩:=A1 h;obtain⟨r,h3,h⟩:=A1 h;grind
theorem Yj{m:Nat}{s':Tr×HD}{x:XOp}{r:AV×HD}(h1:St E call xs s₀ m=some s')(h2:xs[m]?=some x)(h3:stp E call x s'.1 s'.2=some r):St E call xs s₀ (m+1)=some (setDst x.dst r.1 s'.1,r.2):=by
 show A7 (St E call xs s₀ m) _=_
 rw[h1];show A7 xs[m]? _=_
 rw[h2];show A7 (stp E call x s'.1 s'.2) _=_
 rw[h3];rfl
theorem AK{m:Nat}{s:Tr×HD}(h:St E call xs s₀ m=some s):∀{k:Nat},k<=m->∃s',St E call xs s₀ k=some s':=by
 induction m generalizing s with
 |zero=>grind
 | succ m ih =>
  intro k hk;rcases Nat.lt_or_ge k (m+1)with h'|h'
  . grind[bB]
  grind
theorem run_cases:∀(n k:Nat),xs.length-k=n->k<=xs.length->∀(fr:Tr)(h:HD),St E call xs s₀ k=some (fr,h)->evOpsD E call (xs.drop k) fr h.1 h.2≠.bad ->
 (∃ fr' h',St E call xs s₀ xs.length=some (fr',h')/\evOpsD E call (xs.drop k) fr h.1 h.2=.ok .normal fr' h'.1)\/
   ∃m x fr' h' v hh,k<=m/\St E call xs s₀ m=some (fr',h')/\xs[m]?=some x/\guardOk x.gd fr'=some true/\evOpD E call x fr' h'.1 h'.2=.pan v hh/\c7 E call (xs.drop (m+1)) x.late (setDst x.dst skipped fr') h'.1 h'.2=true/\evOpsD E call (xs.drop k) fr h.1 h.2=.pan v hh
 | 0,k,hn,hk,fr,h,hs,hb=>by
  have:k=xs.length:=by omega
  subst this;exact .inl ⟨fr,h,hs,by rw[List.drop_length];rfl⟩
 | n + 1,k,hn,hk,fr,h,hs,hb=>by
  have hlt:k<xs.length:=by omega
  have hd:xs.drop k=xs[k]::xs.drop (k+1):=List.drop_eq_getElem_cons hlt;have hx:xs[k]?=some xs[k]:=zqj hlt;rw[hd]at hb|-;have e:evOpsD E call (xs[k]::xs.drop (k+1)) fr h.1 h.2=R0 (guardOk xs[k].gd fr) .bad (P0 xs[k].dst (evOpsD E call (xs.drop (k+1))) (c7 E call (xs.drop (k+1)) xs[k].late (setDst xs[k].dst skipped fr) h.1 h.2) fr (evOpD E call xs[k] fr h.1 h.2)) (evOpsD E call (xs.drop (k+1)) (setDst xs[k].dst skipped fr) h.1 h.2):=rfl;rw[e]at hb|-;cases hg:guardOk xs[k].gd fr with
  |none=>rw[hg]at hb;exact absurd rfl hb
  | some b =>
   rw[hg]at hb;cases b with
   | false =>
    have hstp:stp E call xs[k] fr h=some (skipped,h):=by unfold stp;rw[hg]
    have hs':=Yj hs hx hstp;have hb:evOpsD E call (xs.drop (k+1)) (setDst xs[k].dst skipped fr) h.1 h.2≠.bad:=hb;rcases run_cases n (k+1) (by omega) hlt _ _ hs' hb with⟨fr',h',h1,h2⟩|⟨m,x,fr',h',v,hh,h1,h2,h3,h4,h5,h6,h7⟩
    . exact .inl ⟨fr',h',h1,h2⟩
    . exact .inr ⟨m,x,fr',h',v,hh,by omega,h2,h3,h4,h5,h6,h7⟩
   | true =>
    have hb:P0 xs[k].dst (evOpsD E call (xs.drop (k+1))) (c7 E call (xs.drop (k+1)) xs[k].late (setDst xs[k].dst skipped fr) h.1 h.2) fr (evOpD E call xs[k] fr h.1 h.2)≠.bad:=hb;show(∃fr' h',_/\P0 xs[k].dst (evOpsD E call (xs.drop (k+1))) (c7 E call (xs.drop (k+1)) xs[k].late (setDst xs[k].dst skipped fr) h.1 h.2) fr (evOpD E call xs[k] fr h.1 h.2)=_)\/∃m x fr' h' v hh,k<=m/\_/\_/\_/\_/\_/\P0 xs[k].dst (evOpsD E call (xs.drop (k+1))) (c7 E call (xs.drop (k+1)) xs[k].late (setDst xs[k].dst skipped fr) h.1 h.2) fr (evOpD E call xs[k] fr h.1 h.2)=_
    cases hev:evOpD E call xs[k] fr h.1 h.2 with
    |bad=>rw[hev]at hb;exact absurd rfl hb
    | pan v hh =>
     rw[hev]at hb;cases hw:c7 E call (xs.drop (k+1)) xs[k].late (setDst xs[k].dst skipped fr) h.1 h.2 with
     |false=>rw[hw]at hb;exact absurd rfl hb
     |true=>exact .inr ⟨k,xs[k],fr,h,v,hh,zql _,hs,hx,hg,hev,hw,rfl⟩
    | ok v h1 d1 =>
     rw[hev]at hb;have hstp:stp E call xs[k] fr h=some (v,h1,d1):=by unfold stp;rw[hg];dsimp only;rw[hev];rfl
     have hs':=Yj hs hx hstp;have hb:evOpsD E call (xs.drop (k+1)) (setDst xs[k].dst v fr) h1 d1≠.bad:=hb;rcases run_cases n (k+1) (by omega) hlt _ _ hs' hb with⟨fr',h',h1,h2⟩|⟨m,x,fr',h',v,hh,h1,h2,h3,h4,h5,h6,h7⟩
     . exact .inl ⟨fr',h',h1,h2⟩
     . exact .inr ⟨m,x,fr',h',v,hh,by omega,h2,h3,h4,h5,h6,h7⟩
end
theorem Yk{ops:List Oper}{ms ahead:List Nat}{a:Nat}{r:List Nat}{oa:Oper}(hoa:ops[a]?=some oa):
 Aq ops ms ahead (a::r)=dM ops (m5 ops ms a r) (Nh ops ms a r) (j3 ops ms a ahead) oa::Aq ops ms (a::ahead) r:=by
 grind[Aq]
theorem eS{ops:List Oper}{ms:List Nat}:∀(l ahead:List Nat),(∀i∈l,∃o,ops[i]?=some o)->∀(m i:Nat) o,l[m]?=some i->ops[i]?=some o ->
 (Aq ops ms ahead l)[m]?=some (dM ops (m5 ops ms i (l.drop (m+1))) (Nh ops ms i (l.drop (m+1))) (j3 ops ms i ((l.take m).reverse++ahead)) o)
 |[],_,_,m,i,o,h,_=>by simp at h
 | a::r,ahead,hl,m,i,o,h,ho=>by
  obtain⟨oa,hoa⟩:=hl a (zqf ..);rw[Yk hoa];cases m with
  |zero=>grind
  | succ m =>
   simp at h
   have:=eS (ms:=ms) r (a::ahead) (by grind) m i o h ho
   grind
theorem Pp{ops:List Oper}{ms:List Nat}:∀(l ahead:List Nat),(∀i∈l,∃o,ops[i]?=some o)->(Aq ops ms ahead l).length=l.length
 |[],_,_=>rfl
 | a::r,ahead,hl=>by
  obtain⟨oa,hoa⟩:=hl a (zqf ..);rw[Yk hoa,zqk,zqk,Pp r (a::ahead) (by grind)]
structure PlanX(ops:Array Oper)(ms l:List Nat)(sk:Nat->Prop)(xs:List XOp):Prop extends Plan ops ms l where
 xlen:xs.length=l.length
 xat:∀(m i:Nat)(o:Oper),l[m]?=some i->ops[i]?=some o->∃x,xs[m]?=some x/\x.dst=o.dst/\x.op=o.op/\x.quiet=m5 ops.toList ms i (l.drop (m+1))/\x.careful=j3 ops.toList ms i ((l.take m).reverse++[])/\(¬sk m->x.gd=G4 ops.toList o)
theorem Plan.have{ops:Array Oper}{ms l:List Nat}(hp:Plan ops ms l):∀i∈l,∃o,ops.toList[i]?=some o:=by
 intro i hi;obtain⟨m,hm⟩:=zqi hi
 have:=hp.lt m i hm
 simp_all
theorem Plan.xget{ops:Array Oper}{ms l:List Nat}(hp:Plan ops ms l){m i:Nat}{o:Oper}(hm:l[m]?=some i)(ho:ops[i]?=some o):
 (Aq ops.toList ms [] l)[m]?=some (dM ops.toList (m5 ops.toList ms i (l.drop (m+1))) (Nh ops.toList ms i (l.drop (m+1))) (j3 ops.toList ms i ((l.take m).reverse++[])) o):=
 eS l [] hp.have m i o hm (by grind)
def eT(x:XOp):XOp:={x with gd:=some (none,true)}
def bC:List XOp->List Bool->List XOp
 |[],_=>[]
 |x::xs,[]=>x::xs
 |x::xs,b::bs=>(match b with|true=>eT x|false=>x)::bC xs bs
theorem eU:∀(xs:List XOp)(bs:List Bool),(bC xs bs).length=xs.length
 |[],bs=>by cases bs<;>rfl
 |x::xs,[]=>rfl
 |x::xs,b::bs=>by show(bC xs bs).length+1=_;rw[eU xs bs];rfl
theorem eV:∀(xs:List XOp)(bs:List Bool)(m:Nat)(x:XOp),xs[m]?=some x->(bC xs bs)[m]?=some (if bs[m]?=some true then eT x else x)
 |[],bs,m,x,h=>by simp at h
 |y::xs,[],m,x,h=>by grind[bC]
 | y::xs,b::bs,0,x,h=>by
  simp at h;subst h;cases b<;>rfl
 | y::xs,b::bs,m+1,x,h=>by
  have:=eV xs bs m x (by grind)
  simp_all[bC]
section
variable {E:Env}{call:E7}
theorem pJ(x:XOp)(fr:Tr)(h:HD):stp E call (eT x) fr h=some (skipped,h):=rfl
theorem eW{xs ys:List XOp}{s₀:Tr×HD}:∀(m:Nat),(∀q,q<m->ys[q]?=xs[q]?)->St E call ys s₀ m=St E call xs s₀ m
 |0,_=>rfl
 | m+1,h=>by
  show A7 (St E call ys s₀ m) _=A7 (St E call xs s₀ m) _
  rw[eW m fun q hq=>h q (by omega),h m (by omega)]
theorem tH{ys:List XOp}{s₀:Tr×HD}:∀(xs:List XOp)(late:List Bool)(k:Nat)(fr:Tr)(h:HD),c7 E call xs late fr h.1 h.2=true->(∀(q:Nat)(x:XOp),xs[q]?=some x->ys[k+q]?=some (if late[q]?=some true then eT x else x)) ->
 St E call ys s₀ k=some (fr,h)->∃s,St E call ys s₀ (k+xs.length)=some s:=fun _ _ _ _ _ hv _ _=>by cases hv
end
end Go.AM
/-
 The abstract machine: a region that draws its order: what holds between its operations.
-/
namespace Go.AM
structure Keeps(h h':Heap):Prop where
 next:h.next<=h'.next
 get:∀i,i<h.next->h'.get i=h.get i
theorem Keeps.refl(h:Heap):Keeps h h:=⟨zql _,fun _ _=>rfl⟩
theorem Keeps.trans{h h₁ h₂:Heap}(a:Keeps h h₁)(b:Keeps h₁ h₂):Keeps h h₂:=⟨zqm a.next b.next,fun i hi=>(b.get i (Nat.lt_of_lt_of_le hi a.next)).trans (a.get i hi)⟩
theorem Keeps.push(h:Heap)(x:AObj):Keeps h (h.push x):=⟨Nat.le_succ _,(by grind[Go.AM.Heap.get_push_ne])⟩
section
variable {E:Env}{call:E7}{h:Heap}
theorem pK{op:Op}(hc:Ic op=1){fr:Tr}{v:AV}{h':Heap}(hev:evOp E call op fr h=.ok v h'):h'=h:=by
 cases op with
 |load t x=>obtain⟨ti,_,hq⟩:=F6 hev;exact(H8 hq).2
 |lookup t m k ok=>cases hev
 | call c =>
  obtain⟨callee,args,argTypes⟩:=c;cases callee with
  |value f=>cases hc
  |invoke f n=>cases hc
  | builtin b =>
   have hev:lift2 (G1 E b argTypes.toList (opvs E args.toList fr) h)=.ok v h':=hev;cases hq:G1 E b argTypes.toList (opvs E args.toList fr) h with
   |none=>rw[hq]at hev;cases hev
   | some p =>
    rw[hq]at hev;cases hev;obtain⟨p1,p2⟩:=p;cases b with
    | len =>
     have hb:Wu E argTypes.toList (opvs E args.toList fr) h=some (p1,p2):=hq;unfold Wu at hb;generalize argTypes.toList=ats at hb;generalize opvs E args.toList fr=vs at hb;cases ats with
     |nil=>cases hb
     | cons t ts =>
      cases vs with
      |nil=>cases hb
      | cons x l =>
       obtain⟨ti,_,hb⟩:=F7 hb;obtain⟨n,_,hb⟩:=A1 hb;rw[C9]at hb;cases hb;rfl
    | max =>
     have hb:pB (opvs E args.toList fr) h=some (p1,p2):=hq;unfold pB at hb;generalize opvs E args.toList fr=vs at hb;cases vs with
     |nil=>cases hb
     | cons x l =>
      obtain⟨y,_,hb⟩:=zqn.1 hb;cases hb;rfl
    | min =>
     have hb:pC (opvs E args.toList fr) h=some (p1,p2):=hq;unfold pC at hb;generalize opvs E args.toList fr=vs at hb;cases vs with
     |nil=>cases hb
     | cons x l =>
      obtain⟨y,_,hb⟩:=zqn.1 hb;cases hb;rfl
    |_=>cases hc
 |_=>cases hc
theorem pL{op:Op}(hc:Ic op=2){fr:Tr}{v:AV}{h':Heap}(hev:evOp E call op fr h=.ok v h'):∃x,h'=h.push x:=by
 cases op with
 |alloc t=>obtain⟨ti,_,hx⟩:=F6 hev;cases hx;grind
 | box t x =>
  obtain⟨ti,_,hx⟩:=F6 hev;cases hb:(Nat.beq (lenL (opv E x fr).cells) ti.size&&E8 (opv E x fr).cells)with
  |true=>rw[hb]at hx;cases hx;grind
  |false=>grind
 | buildSlice t n ps =>
  obtain⟨ti,_,hx⟩:=F6 hev;grind
 | makeSlice t l c =>
  obtain⟨ti,_,hx⟩:=F6 hev;grind
 | call c =>
  exfalso
  obtain⟨callee,args,argTypes⟩:=c;cases callee with
  |builtin b=>cases b<;>cases hc
  |_=>cases hc
 |_=>cases hc
theorem cls_cases(op:Op):Ic op=0\/Ic op=1\/Ic op=2\/Ic op=3:=by
 cases op with
 | call c =>
  grind[Ic]
 |_=>simp[Ic]
theorem Tk{op:Op}(hc:Ic op≠3){fr:Tr}{v:AV}{h':Heap}(hev:evOp E call op fr h=.ok v h'):Keeps h h':=by
 rcases cls_cases op with h0|h0|h0|h0
 . rw[(Nm h0 hev h).1];exact .refl _
 . rw[pK h0 hev];exact .refl _
 . obtain⟨x,rfl⟩:=pL h0 hev;exact .push _ _
 grind
theorem Jr{r:DRes}{p:AV×HD}(h:AJ r=some p):r=.ok p.1 p.2.1 p.2.2:=by
 cases r with
 |ok v h' d=>cases h;rfl
 |pan v h'=>cases h
 |bad=>cases h
theorem Tl{i:Nat}{b:List Nat}:∀{a:List Nat},i∈Bn a b↔i∈a\/i∈b
 |[]=>by show i∈b↔_;simp
 | x::a=>by
  show i∈x::Bn a b↔_
  rw[zqg,Tl (a:=a),zqg,or_assoc]
theorem j5{i n:Nat}:∀{l:List Nat},i∈I6 n l↔i∈l/\i<n
 |[]=>by show i∈([]:List Nat)↔_;simp
 | x::l=>by
  show i∈(bif Nat.blt x n then x::I6 n l else I6 n l)↔_
  cases hb:Nat.blt x n with
  | true =>
   have:=M3 hb
   simp only[cond_true,zqg,j5 (l:=l)];grind
  | false =>
   have hx:¬x<n:=(by grind[Nat.blt,Nat.ble_eq_true_of_le])
   simp only[cond_false,zqg,j5 (l:=l)];grind
theorem Yl{i:Nat}:∀{l:List Nat},rK i l=false->i∉l
 |[],_=>by simp
 | x::l,h=>by
  have h:(bif Nat.beq x i then true else rK i l)=false:=h;cases hb:Nat.beq x i with
  |true=>grind
  | false =>
   rw[hb]at h;have hne:x≠i:=fun e=>by simp_all
   intro hm;rcases zqg.1 hm with h1|h1
   . grind
   . exact Yl (l:=l) h h1
theorem Lg{x:XOp}{fr:Tr}{v:AV}{h':Heap}{d d':List Nat}(hev:evOpD E call x fr h d=.ok v h' d'):
 ∃ t h₁ t',evOp E call x.op fr {h with tch:=t}=.ok v h₁/\h'={h₁ with tch:=t'}/\
   (x.quiet=true->t=[]/\t'=Bn (I6 h.next h₁.tch) h.tch/\d'=Bn (I6 h.next h₁.tch) d)/\
   (x.quiet=false->t=h.tch/\t'=h₁.tch/\d'=d/\(x.careful=true->readOk (readO E x.op fr) d=true)):=by
 unfold evOpD at hev;cases hq:x.quiet with
 | false =>
  rw [hq]at hev;simp only[cond_false]at hev;have key:t8 d (evOp E call x.op fr h)=.ok v h' d'->evOp E call x.op fr h=.ok v h'/\d'=d:=fun hev=>by
   cases hr:evOp E call x.op fr h with
   |ok v1 h1=>rw[hr]at hev;cases hev;grind
   |pan v1 h1=>rw[hr]at hev;cases hev
   |bad=>rw[hr]at hev;cases hev
  cases hc:x.careful with
  | false =>
   rw[hc]at hev;obtain⟨h1,h2⟩:=key hev;exact⟨h.tch,h',h'.tch,h1,rfl,fun e=>(by cases e),(by grind)⟩
  | true =>
   rw[hc]at hev;simp only[cond_true]at hev;cases hro:readOk (readO E x.op fr) d with
   |false=>grind
   | true =>
    rw[hro]at hev;obtain⟨h1,h2⟩:=key hev;exact⟨h.tch,h',h'.tch,h1,rfl,fun e=>(by cases e),(by grind)⟩
 | true =>
  rw[hq]at hev;have hev:x4 h.next h.tch d (evOp E call x.op fr {h with tch:=[]})=.ok v h' d':=hev;cases hr:evOp E call x.op fr {h with tch:=[]}with
  | ok v1 h1 =>
   rw[hr]at hev;cases hev;grind
  |pan v1 h1=>rw[hr]at hev;cases hev
  |bad=>rw[hr]at hev;cases hev
theorem eX{x:XOp}(hc:Ic x.op≠3){fr:Tr}{v:AV}{h':Heap}{d d':List Nat}(hev:evOpD E call x fr h d=.ok v h' d'):Keeps h h':=by
 obtain⟨t,h₁,t',h1,rfl,_⟩:=Lg hev;have hk:=Tk hc h1;exact⟨hk.next,fun i hi=>hk.get i hi⟩
theorem kC(hpres:N9 call){x:XOp}(hx:Ic x.op=3->x.quiet=true){fr:Tr}{v:AV}{h':Heap}{d d':List Nat}(hev:evOpD E call x fr h d=.ok v h' d'):
 h.next<=h'.next/\(∀i,i∈d->i∈d')/\∀i,i<h.next->i∉d'->h'.get i=h.get i:=by
 obtain ⟨t,h₁,t',h1,rfl,h2,h3⟩:=Lg hev;have hd:∀i,i∈d->i∈d':=fun i hi=>by
  cases hq:x.quiet with
  |true=>grind[Tl]
  |false=>grind
 by_cases hc:Ic x.op=3
 . obtain⟨rfl,_,h4⟩:=h2 (hx hc)
   obtain⟨hn,new,e,hg⟩:=evOp_pres hpres h1;refine⟨hn,hd,fun i hi hni=>hg i hi fun hm=>hni ?_⟩;grind[Tl,j5]
 . have hk:=Tk hc h1
   exact⟨hk.next,hd,fun i hi _=>hk.get i hi⟩
theorem eY{fr fr':Tr}(op:Op)(hy:∀y∈op.operands.toList,opv E y fr=opv E y fr'):readO E op fr=readO E op fr':=by
 cases op with
 |load t x=>show n8 (opv E x fr)=n8 (opv E x fr');grind[Op.operands]
 |lookup t m k ok=>show n8 (opv E m fr)=n8 (opv E m fr');grind[Op.operands]
 | call c =>
  obtain⟨callee,args,argTypes⟩:=c;show(match args.toList with|[]=>none|x::_=>n8 (opv E x fr))=(match args.toList with|[]=>none|x::_=>n8 (opv E x fr'))
  grind[Op.operands,Call.operands]
 |_=>rfl
end
section
variable {E:Env}{call:E7}{ops:Array Oper}{ms l:List Nat}{sk:Nat->Prop}{xs:List XOp}{s₀:Tr×HD}
theorem Plan.at(hp:Plan ops ms l){m:Nat}(hm:m<l.length):∃i o,l[m]?=some i/\ops[i]?=some o:=by
 have h1:l[m]?=some l[m]:=zqj hm
 have:=hp.lt m _ h1
 simp_all
theorem Rv(hp:PlanX ops ms l sk xs){m:Nat}{s:Tr×HD}(h:St E call xs s₀ (m+1)=some s):
 ∃i o s' x r,l[m]?=some i/\ops[i]?=some o/\St E call xs s₀ m=some s'/\xs[m]?=some x/\(x.op=o.op/\x.quiet=m5 ops.toList ms i (l.drop (m+1)))/\stp E call x s'.1 s'.2=some r/\s=(setDst o.dst r.1 s'.1,r.2):=by
 obtain ⟨s',x,r,h1,h2,h3,h4⟩:=bB h;have hm:m<l.length:=by
  rw[<-hp.xlen];grind
 obtain⟨i,o,h5,h6⟩:=hp.at hm;obtain⟨x',h7,h8,h9,h10,_⟩:=hp.xat m i o h5 h6;grind
theorem S8(d:Option Tmp)(v:AV)(fr:Tr)(t:Nat):(setDst d v fr).has t=fr.has t:=by
 cases d with
 |none=>rfl
 |some d=>exact Tr.has_set _ _ _ _
theorem Y5{d:Option Tmp}{v:AV}{fr:Tr}{t:Nat}(h:d≠some t):(setDst d v fr).get t=fr.get t:=by
 cases d with
 |none=>rfl
 |some d=>exact Tr.get_set_ne _ _ _ _ (fun e=>h (by rw[e]))
theorem j6{v:AV}{fr:Tr}{t:Nat}:(setDst (some t) v fr).get t=if fr.has t then v else .und:=Tr.get_set_eq _ _ _
theorem St_has(hp:PlanX ops ms l sk xs){k:Nat}{s:Tr×HD}(hs:St E call xs s₀ k=some s):∀(n:Nat)(s':Tr×HD),St E call xs s₀ (k+n)=some s'->∀t,s'.1.has t=s.1.has t
 |0,s',h,t=>by grind
 | n+1,s',h,t=>by
  obtain⟨i,o,s1,x,r,_,_,h3,_,_,_,rfl⟩:=Rv hp h;show(setDst _ _ _).has t=_
  rw[S8];exact St_has hp hs n s1 h3 t
theorem kD(hp:PlanX ops ms l sk xs){k:Nat}{s:Tr×HD}(hs:St E call xs s₀ k=some s){t:Nat}:∀(n:Nat)(s':Tr×HD),St E call xs s₀ (k+n)=some s' ->
 (∀(m i:Nat)(o:Oper),k<=m->m<k+n->l[m]?=some i->ops[i]?=some o->o.dst≠some t)->s'.1.get t=s.1.get t
 |0,s',h,_=>by grind
 | n+1,s',h,hn=>by
  obtain⟨i,o,s1,x,r,h1,h2,h3,_,_,_,rfl⟩:=Rv hp h;show(setDst _ _ _).get t=_
  rw[Y5 (hn (k+n) i o (by omega) (by omega) h1 h2)];exact kD hp hs n s1 h3 fun m i o a b=>hn m i o a (by omega)
theorem DQ(hp:PlanX ops ms l sk xs){k p m i:Nat}{s sp s':Tr×HD}(hs:St E call xs s₀ k=some s)(hk:k<=p)(hm:p<m)(hsp:St E call xs s₀ p=some sp)(hs':St E call xs s₀ m=some s')
 {x:XOp}{r:AV×HD}(hx:xs[p]?=some x)(hr:stp E call x sp.1 sp.2=some r){o:Oper}(hl:l[p]?=some i)(ho:ops[i]?=some o){t:Nat}(hd:o.dst=some t):s'.1.get t=if s.1.has t then r.1 else .und:=by
 have h1:=Yj hsp hx hr;obtain⟨x',hx',hxd,_⟩:=hp.xat p i o hl ho;rw[hx]at hx';cases hx';obtain⟨n,rfl⟩:∃n,m=p+1+n:=⟨m-(p+1),by omega⟩
 have h2:=kD hp h1 n s' hs' (t:=t) fun q j o' a b c d=>hp.dst p q i j o o' t (by omega) hl c ho d hd
 rw[h2,hxd,hd];show(setDst (some t) r.1 sp.1).get t=_
 rw[j6];obtain⟨n',rfl⟩:∃n',p=k+n':=⟨p-k,by omega⟩
 grind[St_has]
theorem stp_some{x:XOp}{fr:Tr}{h:HD}{r:AV×HD}(hr:stp E call x fr h=some r):(guardOk x.gd fr=some false/\r=(skipped,h))\/(guardOk x.gd fr=some true/\evOpD E call x fr h.1 h.2=.ok r.1 r.2.1 r.2.2):=by
 unfold stp at hr;cases hg:guardOk x.gd fr with
 |none=>grind
 | some b =>
  rw[hg]at hr;cases b with
  |false=>grind
  |true=>exact .inr ⟨rfl,Jr hr⟩
theorem eZ(hp:PlanX ops ms l sk xs){k:Nat}{s:Tr×HD}(hs:St E call xs s₀ k=some s):∀(n:Nat)(s':Tr×HD),St E call xs s₀ (k+n)=some s' ->
 (∀(m i:Nat)(o:Oper),k<=m->m<k+n->l[m]?=some i->ops[i]?=some o->Ic o.op≠3)->Keeps s.2.1 s'.2.1
 |0,s',h,_=>by rw[Nat.add_zero]at h;rw[hs]at h;cases h;exact .refl _
 | n+1,s',h,hn=>by
  obtain⟨i,o,s1,x,r,h1,h2,h3,_,h5,h6,rfl⟩:=Rv hp h;refine(eZ hp hs n s1 h3 fun m i o a b=>hn m i o a (by omega)).trans ?_;show Keeps s1.2.1 r.2.1
  rcases stp_some h6 with⟨_,rfl⟩|⟨_,h7⟩
  . exact .refl _
  grind[eX]
theorem mO(hp:PlanX ops ms l sk xs)(hpres:N9 call){k:Nat}{s:Tr×HD}(hs:St E call xs s₀ k=some s):∀(n:Nat)(s':Tr×HD),St E call xs s₀ (k+n)=some s' ->
 (∀ (m i:Nat) (o:Oper),k<=m->m<k+n->l[m]?=some i->ops[i]?=some o->Ic o.op=3->m5 ops.toList ms i (l.drop (m+1))=true) ->
   s.2.1.next<=s'.2.1.next/\(∀i,i∈s.2.2->i∈s'.2.2)/\∀i,i<s.2.1.next->i∉s'.2.2->s'.2.1.get i=s.2.1.get i
 |0,s',h,_=>by grind
 | n + 1,s',h,hn=>by
  obtain⟨i,o,s1,x,r,h1,h2,h3,_,h5,h6,rfl⟩:=Rv hp h;obtain⟨a1,a2,a3⟩:=mO hp hpres hs n s1 h3 fun m i o a b=>hn m i o a (by omega)
  have hb:s1.2.1.next<=r.2.1.next/\(∀i,i∈s1.2.2->i∈r.2.2)/\∀i,i<s1.2.1.next->i∉r.2.2->r.2.1.get i=s1.2.1.get i:=by
   rcases stp_some h6 with⟨_,rfl⟩|⟨_,h7⟩
   . grind
   . refine kC hpres (fun hc=>?_) h7
     grind
  grind
end
end Go.AM
