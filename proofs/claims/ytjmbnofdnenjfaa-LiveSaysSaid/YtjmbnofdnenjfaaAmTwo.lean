/- The abstract machine, part two: each operation on values, rows, slices and maps is sound. Conditions: none. -/
import Derived.Test.YtjmbnofdnenjfaaAmOne
import Derived.Laws.Append
import Derived.Laws.Tables
import Derived.Laws.MakeOwn
set_option linter.unusedVariables false
set_option linter.unusedSectionVars false
set_option linter.unusedSimpArgs false
/-
 The abstract machine: rows of elements,as cells; what is read out of them,and written into them.
set_option maxHeartbeats 4000000
-/
open Bool renaming and_eq_true→zqa
open Nat renaming mul_le_mul_right→zqb,le_refl→zqc,add_assoc→zqd,add_mul→zqe,mod_lt→zqf,mul_comm→zqg,add_zero→zqh,lt_succ_self→zqi,le_mul_of_pos_right→zqj,eq_zero_or_pos→zqk,div_lt_iff_lt_mul→zql,div_add_mod'→zqm,lt_of_lt_of_le→zqn
open List renaming getElem?_eq_getElem→zqo,range→zqp,getElem?_append→zqq,getElem?_take→zqr,getElem?_map→zqs,eq_nil_of_length_eq_zero→zqt,mem_of_getElem?→zqu,length_take→zqv,getElem?_drop→zqw,mem_cons_self→zqx,getElem?_of_mem→zqy,length_drop→zqz,getElem?_range→zka,getElem?_set_self→zkb,getElem?_set_ne→zkc,ext_getElem?→zkd,length_append→zke
open Array renaming range→zkf,length_toList→zkg
namespace Go.AM
structure RowRep(W:World)(cx:Cx)(vs:List Value)(es:List AV)(sz:Nat):Prop where
 len:vs.length=es.length*sz
 size:∀(i:Nat) e,es[i]?=some e->e.cells.length=sz
 cell:∀(i:Nat) e (j:Nat) c,es[i]?=some e->e.cells[j]?=some c->∃v,vs[i*sz+j]?=some v/\v.oneC=true/\Rep W cx v c
section
variable {W:World}{cx:Cx}
theorem V7{α:Type}{l:List α}{i:Nat}{a:α}(h:l[i]?=some a):i<l.length:=by
 grind
theorem bD{i j n sz:Nat}(hi:i<n)(hj:j<sz):i*sz+j<n*sz:=by
 have:=zqb sz (show i+1<=n from hi)
 grind
theorem RowRep.mono{W':World}{cx':Cx}(he:Ext W cx W' cx'){vs:List Value}{es:List AV}{sz:Nat}(h:RowRep W cx vs es sz):RowRep W' cx' vs es sz:=
 ⟨h.len,h.size,fun i e j c h1 h2=>let⟨v,a,b,r⟩:=h.cell i e j c h1 h2;⟨v,a,b,r.mono he⟩⟩
theorem RowRep.append{vs vs':List Value}{es es':List AV}{sz:Nat}(h:RowRep W cx vs es sz)(h':RowRep W cx vs' es' sz):RowRep W cx (vs++vs') (es++es') sz where
 len:=by simp[h.len,h'.len,zqe]
 size i e hi:=by
  rw[zqq]at hi;split at hi
  . exact h.size _ _ hi
  . exact h'.size _ _ hi
 cell i e j c hi hj:=by
  have hsz:e.cells.length=sz:=by
   rw[zqq]at hi;split at hi
   . exact h.size _ _ hi
   . exact h'.size _ _ hi
  have hjl:=V7 hj;rw[hsz]at hjl;rw[zqq]at hi;split at hi
  . rename_i hl
    obtain⟨v,a,b,r⟩:=h.cell i e j c hi hj;grind
  . rename_i hl
    obtain ⟨v,a,b,r⟩:=h'.cell _ e j c hi hj;refine⟨v,?_,b,r⟩;have e1:i*sz+j=vs.length+((i-es.length)*sz+j):=by
     rw[h.len,Nat.sub_mul]
     have:=zqb sz (show es.length<=i by omega)
     omega
    grind
theorem RowRep.one{us:List Value}{a:AV}{sz:Nat}(h:RepL W cx us a.cells)(h1:Ww us)(hs:a.cells.length=sz):RowRep W cx us [a] sz where
 len:=by simp[h.1,hs]
 size i e hi:=by
  grind
 cell i e j c hi hj:=by
  cases i with
  | zero =>
   simp at hi;subst hi;obtain⟨v,hv,r⟩:=h.get hj;exact⟨v,by grind,h1 v (zqu hv),r⟩
  |succ i=>simp at hi
theorem RowRep.take{vs:List Value}{es:List AV}{sz:Nat}(h:RowRep W cx vs es sz)(n:Nat):RowRep W cx (vs.take (n*sz)) (es.take n) sz where
 len:=by
  rw[zqv,zqv,h.len,Nat.mul_min_mul_right]
 size i e hi:=by
  rw[zqr]at hi;split at hi
  . exact h.size i e hi
  . cases hi
 cell i e j c hi hj:=by
  rw[zqr]at hi;split at hi
  . rename_i hin
    obtain⟨v,a,b,r⟩:=h.cell i e j c hi hj;have hjl:=V7 hj;rw[h.size i e hi]at hjl;simp_all[bD]
  . cases hi
theorem RowRep.drop{vs:List Value}{es:List AV}{sz:Nat}(h:RowRep W cx vs es sz)(n:Nat):RowRep W cx (vs.drop (n*sz)) (es.drop n) sz where
 len:=by rw[zqz,zqz,h.len,Nat.sub_mul]
 size i e hi:=by rw[zqw]at hi;exact h.size _ e hi
 cell i e j c hi hj:=by
  rw[zqw]at hi;obtain⟨v,a,b,r⟩:=h.cell _ e j c hi hj;grind
theorem RowRep.set{vs:List Value}{es:List AV}{sz:Nat}(h:RowRep W cx vs es sz){us:List Value}{a:AV}(hr:RowRep W cx us [a] sz){i:Nat}(hi:i<es.length):
 RowRep W cx (vs.take (i*sz)++(us++vs.drop ((i+1)*sz))) (es.set i a) sz:=by
 have e:es.set i a=es.take i++([a]++es.drop (i+1)):=by
  grind[List.set_eq_take_append_cons_drop]
 rw[e];exact(h.take i).append (hr.append (h.drop (i+1)))
theorem Q1.row{p:Nat×Nat×Nat}{es:List AV}{sz:Nat}(h:Q1 W cx p (.row es sz)):
 p.2.2=sz/\∃(c:Array Value)(t:TypeId),W.heap[p.1]?=some (.cells c t (0,0))/\p.2.1+es.length*sz<=c.size/\RowRep W cx ((c.toList.drop p.2.1).take (es.length*sz)) es sz:=by
 obtain⟨h1,c,t,g,h2,h3,h4,h5⟩:=h;refine⟨h1,c,t,h2,h3,⟨?_,h4,fun i e j c' hi hj=>?_⟩⟩
 . grind
 . obtain⟨a,b,r⟩:=h5 i e j c' hi hj
   refine⟨g i j,?_,b,r⟩;have hjl:=V7 hj;rw[h4 i e hi]at hjl;simp_all[zqr,bD,V7,zqd]
theorem Q1.mk{p:Nat×Nat×Nat}{es:List AV}{sz:Nat}{c:Array Value}{t:TypeId}{vs:List Value}(hz:p.2.2=sz)(hh:W.heap[p.1]?=some (.cells c t (0,0)))
 (hfit:p.2.1+es.length*sz<=c.size)(hsub:∀(k:Nat) v,vs[k]?=some v->c[p.2.1+k]?=some v)(hr:RowRep W cx vs es sz):Q1 W cx p (.row es sz):=by
 refine⟨hz,c,t,fun i j=>c.getD (p.2.1+i*sz+j) undef,hh,hfit,hr.size,fun i e j c' hi hj=>?_⟩;obtain⟨v,a,b,r⟩:=hr.cell i e j c' hi hj
 have:=hsub _ _ a
 rw[<-zqd]at this;simp_all
theorem Pq{P:Program}{t:Nat}{ti:TI}(ht:TyOk P t ti){b o:Nat}{cs:List AV}{r:AV}{off:Nat}
 (hc:∀(j:Nat) c,cs[j]?=some c->∃v,W.cell? ⟨b,o+j,none⟩=some v/\v.oneC=true/\Rep W cx v c)(h:partOf ti cs off=some r):
 ∃v,(loadVar t ⟨b,o+off,none⟩).run P W=.ok v W/\Rep W cx v r:=by
 unfold partOf at h;have hi:=ht.run_isAgg (W:=W);cases ha:o9 ti.desc with
 | false =>
  rw[ha]at h hi;rw[S3]at h;have h:cs[off]?=some r:=h;obtain⟨v,h1,h2,h3⟩:=hc off r h;simp_all[loadVar]
 | true =>
  rw[ha]at h hi;rw[A9,K5,K6]at h;cases hb:Nat.ble (Nat.add off ti.size) cs.length with
  |false=>grind
  | true =>
   rw[hb]at h;cases h;have hl:=E3 hb;have hl:off+ti.size<=cs.length:=hl;let f:Nat->Value:=fun j=>(W.cell? ⟨b,o+off+j,none⟩).getD undef
   have hf:∀j,j<ti.size->W.cell? ((⟨b,o+off,none⟩:Addr).add j)=some (f j):=by
    intro j hj;have hlt:off+j<cs.length:=by omega
    obtain⟨v,h1,_,_⟩:=hc (off+j) _ (zqo hlt);grind[add_addr]
   have hrun:=run_loadCells (P:=P) W ⟨b,o+off,none⟩ ti.size f hf;refine⟨.agg ((zqp ti.size).map f).toArray,?_,?_⟩
   . simp[loadVar,hi,ht.run_sizeOf,hrun]
   . refine Rep.agg_mk ⟨by simp;omega,fun i v c h1 h2=>?_⟩
     have hi':i<ti.size:=by have:=V7 h1;simpa using this
     rw[zqs,zka hi']at h1;simp at h1;rw[zqr,if_pos hi',zqw]at h2;obtain⟨v',h3,_,h4⟩:=hc (off+i) c h2
     have:f i=v':=by simp only[f];rw[show o+off+i=o+(off+i) by omega,h3];rfl
     rw[<-h1,this];exact h4
theorem mP{i j sz:Nat}(hj:j<sz):(i*sz+j)/sz=i/\(i*sz+j)%sz=j:=by
 grind[zqg,Nat.mul_add_div,Nat.div_eq_of_lt,Nat.mul_add_mod,Nat.mod_eq_of_lt]
theorem Fi{P:Program}{a:Option Addr}{b o n cap m size sz:Nat}{vs:List Value}{k:Nat}(hl:vs.length=k*sz)(hm:m<=k)
 (ha:0<k->a=some ⟨b,o,none⟩/\size=sz)(hc:∀(j:Nat) v,vs[j]?=some v->W.cell? ⟨b,o+j,none⟩=some v):
 (Builtin.firstCells size m (.slice a n cap)).run P W=.ok (vs.take (m*sz)).toArray W:=by
 cases zqk m with
 | inl h0 =>
  subst h0;cases a<;>simp[Builtin.firstCells,loadCells,loadCellsFrom]
 | inr hp =>
  obtain⟨rfl,rfl⟩:=ha (by omega);grind[Builtin.firstCells,zqv,zqb,run_loadCells_list,add_addr]
theorem pM{W':World}(h:W'.heap=W.heap){a:Addr}:W'.cell? a=W.cell? a:=by unfold World.cell?;rw[h]
theorem Lh{P:Program}{E:Env}{h:Heap}(hs:Sat E W cx h){x:Value}{a:AV}{xs:List AV}(hx:Rep W cx x a)(hnl:a≠.nilsl)(he:elems a h=some xs):
 ∃ (ad:Option Addr) (cap:Nat) (vs:List Value) (sz:Nat),x=.slice ad xs.length cap/\xs.length<=cap/\RowRep W cx vs xs sz/\
   ∀(W':World),W'.heap=W.heap->∀m size,m<=xs.length->(∀e∈xs,e.cells.length=size)->(Builtin.firstCells size m x).run P W'=.ok (vs.take (m*sz)).toArray W':=by
 cases hx with
 |nilsl=>grind
 | fsl ad b o n cap es full sz g hn hc hf ha hsz hcell hone hrep hnn =>
  have e0:es=xs:=Option.some.inj he;clear he;subst e0;let vs:List Value:=(zqp (n*sz)).map fun k=>g (k/sz) (k%sz)
  have hlen:vs.length=n*sz:=by simp[vs]
  have hget:∀(i j:Nat),i<n->j<sz->vs[i*sz+j]?=some (g i j):=by
   grind[mP,bD]
  refine⟨ad,cap,vs,sz,by rw[hn],by omega,⟨by grind,hsz,fun i e j c h1 h2=>?_⟩,fun W' hW' m size hm hall=>?_⟩
  . grind
  . refine Fi (k:=n) (b:=b) (o:=o) hlen (by omega) (fun hp=>?_) (fun k v hk=>?_)
    . have hne:es≠[]:=(by grind)
      refine⟨(ha hne).1,?_⟩;cases es with
      |nil=>grind
      |cons e r=>rw[<-hall e (zqx ..)];exact hsz 0 e rfl
    . have hkl:=V7 hk
      rw [hlen]at hkl;simp only[vs,zqs,zka hkl,Option.map_some,Option.some.injEq]at hk;have hsp:0<sz:=by
       grind
      have hi:k/sz<n:=by grind[zql]
      have hj:k%sz<sz:=zqf _ hsp;have hi':k/sz<es.length:=by omega
      have e1:=zqo hi';have hj':k%sz<es[k/sz].cells.length:=by grind
      have:=hcell (k/sz) _ (k%sz) _ e1 (zqo hj')
      rw[show o+k/sz*sz+k%sz=o+k by rw[zqd,zqm]]at this;grind[pM]
 | msl ad n cap id off sz hid hz hb hc ha hnn =>
  obtain⟨es,sz',hg,hx⟩:=Heap.onRow_some he;cases hble:Nat.ble (Nat.add off n) (lenL es)with
  |false=>grind
  | true =>
   rw[hble]at hx;cases hx;rw[K6,K5];have hle:=E3 hble;rw[A9]at hle;have hle:off+n<=es.length:=hle;obtain⟨_,_,_,hobj⟩:=hs.objs id _ hg;obtain⟨h1,c,t,hh,hfit,hrow⟩:=hobj.row
   have:sz'=sz:=by grind
   subst this;have hrow2:=(hrow.drop off).take n;have hlen:((es.drop off).take n).length=n:=by grind
   refine⟨ad,cap,_,sz',by rw[hlen],by grind,hrow2,fun W' hW' m size hm hall=>?_⟩;rw[hlen]at hm;have hrl:=hrow2.len;rw[hlen]at hrl;refine Fi (k:=n) (b:=(cx.μ id).1) (o:=(cx.μ id).2.1+off*sz') hrl hm (fun hp=>?_) (fun k v hk=>?_)
   . have hcap:cap≠0:=by omega
     refine⟨(ha hcap).1,?_⟩;have hlt:0<((es.drop off).take n).length:=by omega
     have e1:=zqo hlt;rw[<-hall _ (List.getElem_mem hlt)];exact hrow2.size 0 _ e1
   grind[Nj]
 |_=>cases he
theorem Be{P:Program}{E:Env}{h:Heap}(hs:Sat E W cx h){x:Value}{a:AV}{xs:List AV}(hx:Rep W cx x a)(he:elems a h=some xs):
 ∃ (ad:Option Addr) (cap:Nat) (vs:List Value) (sz:Nat),x=.slice ad xs.length cap/\xs.length<=cap/\RowRep W cx vs xs sz/\
   ∀(W':World),W'.heap=W.heap->∀m size,m<=xs.length->(∀e∈xs,e.cells.length=size)->(Builtin.firstCells size m x).run P W'=.ok (vs.take (m*sz)).toArray W':=by
 cases a with
 |nilsl=>exact Lh hs hx.nil_fsl (by simp) he
 |_=>exact Lh hs hx (by simp) he
end
end Go.AM
/-
 The abstract machine: operations on memory are sound.
-/
namespace Go.AM
def lsplice{α:Type}(l:List α)(p:Nat)(us:List α):List α:=l.take p++(us++l.drop (p+us.length))
theorem Ps{α:Type}{l:List α}{p:Nat}{us:List α}(h:p+us.length<=l.length)(k:Nat):
 (lsplice l p us)[k]?=if k<p then l[k]? else if k<p+us.length then us[k-p]? else l[k]?:=by
 grind[lsplice]
theorem S9{α:Type}{l:List α}{p:Nat}{us:List α}(h:p+us.length<=l.length):(lsplice l p us).length=l.length:=by
 grind[lsplice]
theorem U6(cs:List AV)(off:Nat)(new:List AV):O8 cs off new=lsplice cs off new:=by
 grind[O8,lsplice,Q0,K6,K5,A9]
theorem Li{c:Array Value}{p:Nat}{us:List Value}(h:p+us.length<=c.size)(k:Nat):
 (putC c p us)[k]?=if k<p then c[k]? else if k<p+us.length then us[k-p]? else c[k]?:=by
 split
 . grind[Kx]
 . split
   . rename_i h1 h2
     have:=mN us c p (k-p) h (by omega)
     grind
   grind[Kx]
section
variable {P:Program}{E:Env}{W:World}{cx:Cx}{h:Heap}
def Km(P:Program)(E:Env)(W:World)(cx:Cx)(s:Sem Next)(v:AV)(h':Heap):Prop:=
 ∃v' W' cx',(s.run P W=.ok (.value v') W'\/(s.run P W=.ok .skip W'/\v'=undef))/\Ext W cx W' cx'/\Sat E W' cx' h'/\Rep W' cx' v' v
theorem Km.value{s:Sem Value}{v':Value}{W':World}{cx':Cx}{v:AV}{h':Heap}(hr:s.run P W=.ok v' W')(he:Ext W cx W' cx')(hs:Sat E W' cx' h')(hv:Rep W' cx' v' v):
 Km P E W cx (do pure (.value (<-s))) v h':=⟨v',W',cx',.inl (by simp[hr]),he,hs,hv⟩
theorem Km.same{s:Sem Value}{v':Value}{v:AV}(hs:Sat E W cx h)(hr:s.run P W=.ok v' W)(hv:Rep W cx v' v):Km P E W cx (do pure (.value (<-s))) v h:=
 .value hr (Ext.refl W cx) hs hv
theorem Km.unit{s:Sem Unit}{W':World}{cx':Cx}{h':Heap}(hr:s.run P W=.ok () W')(he:Ext W cx W' cx')(hs:Sat E W' cx' h'):
 Km P E W cx (do s;pure .skip) .und h':=⟨undef,W',cx',.inr ⟨by simp[hr],rfl⟩,he,hs,.und _⟩
theorem Rep.ptr_inv{v:Value}{id i off:Nat}(h:Rep W cx v (.ptr id i off)):id<cx.nx/\v=.pointer (some ⟨(cx.μ id).1,(cx.μ id).2.1+i*(cx.μ id).2.2+off,none⟩):=by
 cases h with
 |ptr id i off hid hb=>grind
theorem Rep.fptr_inv{v:Value}{a:AV}{off:Nat}(h:Rep W cx v (.fptr a off)):∃b o,v=.pointer (some ⟨b,o+off,none⟩)/\¬cx.own b/\b<W.heap.size/\
 ∀(j:Nat) c,a.cells[j]?=some c->∃u,W.cell? ⟨b,o+j,none⟩=some u/\u.oneC=true/\Rep W cx u c:=by
 cases h with
 |fptr b o off v g ho hb hcell hone hrep=>grind
theorem Rep.fptr_mk{b o off:Nat}{a:AV}(ho:¬cx.own b)(hb:b<W.heap.size)(hc:∀(j:Nat) c,a.cells[j]?=some c->∃u,W.cell? ⟨b,o+j,none⟩=some u/\u.oneC=true/\Rep W cx u c):
 Rep W cx (.pointer (some ⟨b,o+off,none⟩)) (.fptr a off):=by
 have key:∀(j:Nat) c,a.cells[j]?=some c->∃u,W.cell? ⟨b,o+j,none⟩=some u/\(W.cell? ⟨b,o+j,none⟩).getD undef=u/\u.oneC=true/\Rep W cx u c:=by
  grind
 refine .fptr b o off a (fun j=>(W.cell? ⟨b,o+j,none⟩).getD undef) ho hb (fun j c hj=>?_) (fun j c hj=>?_) (fun j c hj=>?_)
 . grind
 . grind
 grind
theorem Tm(hE:EnvOk E P)(hs:Sat E W cx h){t:Nat}{ti:TI}(ht:E.ti t=some ti){x:Value}{a r:AV}(hx:Rep W cx x a)(hl:Ev ti a h=some r):
 ∃v,(Instr.loadAt t x).run P W=.ok v W/\Rep W cx v r:=by
 have hty:=hE.ti t ti ht;cases a with
 | fptr v off =>
  obtain⟨b,o,rfl,_,_,hc⟩:=hx.fptr_inv;obtain⟨u,h1,h2⟩:=Pq hty hc hl;grind[Instr.loadAt,Instr.sureAddr]
 | ptr id i off =>
  obtain ⟨es,sz,hg,hl⟩:=Heap.onRow_some hl;obtain⟨e,he,hl⟩:=A1 hl;rw[S3]at he;obtain⟨_,rfl⟩:=hx.ptr_inv;obtain⟨_,_,_,hobj⟩:=hs.objs id _ hg;obtain⟨h1,c,t',g,hh,hfit,hsz,hcell⟩:=hobj;have hc:∀(j:Nat) c',e.cells[j]?=some c'->∃u,W.cell? ⟨(cx.μ id).1,(cx.μ id).2.1+i*(cx.μ id).2.2+j,none⟩=some u/\u.oneC=true/\Rep W cx u c':=by
   grind[Nj]
  obtain⟨u,h1,h2⟩:=Pq hty hc hl;grind[Instr.loadAt,Instr.sureAddr]
 |_=>cases hl
theorem Xa(old:AV)(off:Nat)(ncs:List AV)(hfit:off+ncs.length<=old.cells.length)(hn:0<ncs.length)(hok:∀c∈ncs,okCell c=true):
 (old.withCells off ncs).cells=lsplice old.cells off ncs:=by
 have key:(∀cs,old≠.agg cs)->(match ncs with|[]=>AV.und|x::r=>(match r with|[]=>x|_::_=>.und)).cells=lsplice old.cells off ncs:=by
  intro ha;have e1:old.cells=[old]:=by cases old<;>first|rfl|grind
  rw[e1]at hfit|-;simp at hfit;cases ncs with
  |nil=>simp at hn
  | cons x r =>
   simp at hfit;have hr:r=[]:=zqt (by omega);subst hr;have ho:off=0:=by grind
   subst ho;have hx:=hok x (zqx ..)
   have:x.cells=[x]:=by cases x<;>first|rfl|exact absurd hx (by decide)|grind[okCell]
   simp[this,lsplice]
 cases old with
 |agg cs=>show O8 cs off ncs=_;exact U6 cs off ncs
 |_=>exact key (by simp)
theorem fA(hE:EnvOk E P)(hs:Sat E W cx h){t:Nat}{ti:TI}(ht:E.ti t=some ti){x y:Value}{a b:AV}(hx:Rep W cx x a)(hy:Rep W cx y b){h':Heap}(hl:Cu ti a b h=some h'):
 ∃W',(Instr.storeAt t x y).run P W=.ok () W'/\Ext W cx W' cx/\Sat E W' cx h':=by
 have hty:=hE.ti t ti ht;cases a with
 | ptr id i off =>
  obtain ⟨es,sz,hg,hl⟩:=Heap.onRow_some hl;obtain⟨old,he,hl⟩:=A1 hl;obtain⟨hb,hl⟩:=B0 hl;have hl:=Option.some.inj hl;rw[S3]at he;rw[zqa,zqa,zqa,A9,G9]at hb;obtain⟨⟨⟨hb1,hb2⟩,hb3⟩,hok⟩:=hb;have hb1:=E5 hb1;have hb2:=M3 hb2;have hb3:off+ti.size<=sz:=E3 hb3;obtain⟨_,rfl⟩:=hx.ptr_inv;obtain⟨_,hown,hblk,hobj⟩:=hs.objs id _ hg;obtain⟨h1,c,t',g,hh,hfit,hsz,hcell⟩:=hobj;have hbu:b≠.und:=fun e=>by
   subst e
   have:=hok .und (by simp[AV.cells])
   cases this
  have hcs:=hy.cells hbu;have hone:=hcs.one hok;have hil:=V7 he;have hrow:(cx.μ id).2.1+i*sz+off+y.cells.toList.length<=c.size:=by
   have:=zqb sz (show i+1<=es.length from hil)
   rw[zqe]at this;rw[hcs.1];omega
  have hrun:=x8 (P:=P) y.cells.toList ((cx.μ id).2.1+i*sz+off) 0 c W hh hone (by grind);have hrun2:(Instr.storeAt t (.pointer (some ⟨(cx.μ id).1,(cx.μ id).2.1+i*(cx.μ id).2.2+off,none⟩)) y).run P W=.ok () (setBlock W (cx.μ id).1 (.cells (putC c ((cx.μ id).2.1+i*sz+off) y.cells.toList) t' (0,0))):=by
   have hsz':y.cells.size=ti.size:=by have:=hcs.1;grind
   rw[h1];simp only[zqh]at hrun;simp[Instr.storeAt,Instr.sureAddr,storeVar,hty.run_sizeOf,hsz',hrun]
  have hext:Ext W cx (setBlock W (cx.μ id).1 (.cells (putC c ((cx.μ id).2.1+i*sz+off) y.cells.toList) t' (0,0))) cx:=
   Ext.set _ hown (hs.free _ _ hg) (fun c0 t0 f0 e=>by rw[hh]at e;cases e;exact⟨_,_,_,rfl,v7 _ _ _⟩) (fun hn=>absurd hh (hn _ _ _))
  refine⟨_,hrun2,hext,?_⟩;rw[<-hl];refine hs.set hext hg _ (by grind[Go.AM.setBlock_ne]) ?_;rw[Ay];have hlen:off+b.cells.length<=old.cells.length:=by grind
  have hwc:=Xa old off b.cells hlen (by omega) hok;refine⟨h1,putC c ((cx.μ id).2.1+i*sz+off) y.cells.toList,t',fun i' j=>if i'=i/\off<=j/\j<off+b.cells.length then(y.cells.toList[j-off]?).getD undef else g i' j,Ba W _ hblk,?_,?_,?_⟩
  . grind[v7]
  . intro i' e hi'
    by_cases hii:i=i'
    . subst hii
      rw[zkb hil]at hi';cases hi';rw[hwc,S9 hlen];exact hsz i old he
    . rw[zkc hii]at hi';exact hsz i' e hi'
  . intro i' e j c' hi' hj
    rw[Li (by omega)];dsimp only;by_cases hii:i=i'
    . subst hii
      rw[zkb hil]at hi';cases hi';rw[hwc,Ps hlen]at hj;by_cases hj1:j<off
      . rw[if_pos hj1]at hj
        obtain⟨a1,a2,a3⟩:=hcell i old j c' he hj;rw[if_pos (by omega),if_neg (by omega)];exact⟨a1,a2,a3.mono hext⟩
      . rw [if_neg hj1]at hj
        by_cases hj2:j<off+b.cells.length
        . rw[if_pos hj2]at hj
          obtain⟨v,hv,hr⟩:=hcs.get hj;rw[if_neg (by omega),if_pos (by grind),if_pos ⟨rfl,by omega,hj2⟩];rw[show(cx.μ id).2.1+i*sz+j-((cx.μ id).2.1+i*sz+off)=j-off by omega,hv];exact⟨rfl,hone v (zqu hv),hr.mono hext⟩
        . rw[if_neg hj2]at hj
          obtain⟨a1,a2,a3⟩:=hcell i old j c' he hj;rw[if_neg (by omega),if_neg (by rw[hcs.1];omega),if_neg (by omega)];exact⟨a1,a2,a3.mono hext⟩
    . rw [zkc hii]at hi'
      obtain ⟨a1,a2,a3⟩:=hcell i' e j c' hi' hj;have hjl:=V7 hj;rw[hsz i' e hi']at hjl;have hout:¬((cx.μ id).2.1+i'*sz+j>=(cx.μ id).2.1+i*sz+off/\(cx.μ id).2.1+i'*sz+j<(cx.μ id).2.1+i*sz+off+y.cells.toList.length):=by
       rw[hcs.1];rcases Nat.lt_or_gt_of_ne hii with hlt|hgt
       . have:=zqb sz (show i+1<=i' from hlt)
         grind
       . have:=zqb sz (show i'+1<=i from hgt)
         grind
      have hg':(if i'=i/\off<=j/\j<off+b.cells.length then(y.cells.toList[j-off]?).getD undef else g i' j)=g i' j:=if_neg (fun hc=>hii hc.1.symm);rw[hg'];split
      . exact⟨a1,a2,a3.mono hext⟩
      . rename_i hn1
        rw[if_neg (fun hn2=>hout ⟨by omega,hn2⟩)];exact⟨a1,a2,a3.mono hext⟩
 |_=>cases hl
theorem Tn(hs:Sat E W cx h){t:Nat}{c:Array Value}{es:List AV}{sz:Nat}{vs:List Value}(hr:RowRep W cx vs es sz)(hsub:∀(k:Nat) v,vs[k]?=some v->c[k]?=some v)(hfit:es.length*sz<=c.size):
 Ext W cx (W.alloc (.cells c t)) (cx.push W.heap.size sz)/\Sat E (W.alloc (.cells c t)) (cx.push W.heap.size sz) (h.push (.row es sz))/\(cx.push W.heap.size sz).μ h.next=(W.heap.size,0,sz):=by
 have he:=Ext.alloc W cx (.cells c t) sz;refine⟨he,hs.push _ _ sz ?_,by rw[hs.nx,Cx.push_new]⟩;exact Q1.mk (t:=t) rfl (K7 W _) (by grind) (by grind) (hr.mono he)
theorem To(hs:Sat E W cx h){t:Nat}{v:Value}{a:AV}{sz:Nat}(hv:Rep W cx v a)(hok:Ww v.cells.toList)(hu:a≠.und)(hz:a.cells.length=sz){r:AV}{h':Heap}(hn:jQ sz a h=.ok r h'):
 ∃v' W' cx',(do pure (.pointer (some (<-newVar t v))):Sem Value).run P W=.ok v' W'/\Ext W cx W' cx'/\Sat E W' cx' h'/\Rep W' cx' v' r:=by
 cases hn;have hcs:=hv.cells hu;obtain⟨h1,h2,h3⟩:=Tn hs (t:=t) (c:=v.cells) (es:=[a]) (sz:=sz) (RowRep.one hcs hok hz) (fun k v hk=>by grind) (by have:=hcs.1;grind);refine⟨.pointer (some ⟨W.heap.size,0,none⟩),_,_,by simp[newVar,newRow],h1,h2,?_⟩
 have:=Rep.ptr (W:=W.alloc (.cells v.cells t)) (cx:=cx.push W.heap.size sz) h.next 0 0 (by rw[hs.nx];exact zqi _) (by rw[h3];simp)
 grind
end
end Go.AM
/-
 The abstract machine: further operations: fields,indexes,slices,builds.
-/
namespace Go.AM
section
variable {P:Program}{E:Env}{W:World}{cx:Cx}{h:Heap}
theorem kE{op:UnOp}{x:Value}{a r:AV}(hx:Rep W cx x a)(h:Pk op a=some r):∃v,(Op.unary op x).run P W=.ok v W/\Rep W cx v r:=by
 cases op with
 | neg =>
  obtain⟨k,n,e,g⟩:=D4 (v:=a) h;subst e;cases hx.int_inv;rw[Fc g];exact⟨.int k (k.wrap (0-n)),by simp[Op.unary,Op.intArith],.int _ _⟩
 | not =>
  obtain⟨b,e,g⟩:=Bb (v:=a) h;subst e;cases hx.bool_inv;rw[Bc g];exact⟨_,rfl,.bool _⟩
 |_=>cases h
theorem Xb(hE:EnvOk E P){s d:Nat}{ts td:TI}(hs:E.ti s=some ts)(hd:E.ti d=some td){x:Value}{a r:AV}(hx:Rep W cx x a)(h:S4 td.desc a=some r):
 ∃v,(convert s d x).run P W=.ok v W/\Rep W cx v r:=by
 obtain⟨ds,hus⟩:=(hE.ti s ts hs).under;have hdd:=(hE.ti d td hd).desc;unfold J1 at hdd;have r1:∀W:World,(underlying s).run P W=.ok ds W:=fun W=>A4 hus
 cases hk:td.desc with
 | int k =>
  rw[hk]at h hdd;have r2:∀W:World,(underlying d).run P W=.ok (.int k) W:=fun W=>A4 hdd
  obtain⟨k',n,e,g⟩:=D4 (v:=a) h;subst e;cases hx.int_inv;rw[Fc g];exact⟨_,by simp[convert,r1,r2,Conv.intToInt],.int _ _⟩
 | string =>
  rw[hk]at h hdd;have r2:∀W:World,(underlying d).run P W=.ok .string W:=fun W=>A4 hdd
  obtain⟨l,e,g⟩:=K8 (v:=a) h;subst e;obtain⟨b,rfl,hb⟩:=hx.str_inv;simp_all[convert]
 |_=>rw[hk]at h;cases h
theorem Iq{ad:Addr}{a r:AV}{d:Nat}(hx:Rep W cx (.pointer (some ad)) a)(h:C4 a d=some r):Rep W cx (.pointer (some (ad.add d))) r:=by
 cases a with
 | fptr v off =>
  have h:N7 (Nat.add off d) (fun o=>some (AV.fptr v o))=some r:=h;rw[C9]at h;cases h;obtain⟨b,o,e,h1,h2,h3⟩:=hx.fptr_inv;simp_all[add_addr,zqd,Rep.fptr_mk]
 | ptr id i off =>
  have h:N7 (Nat.add off d) (fun o=>some (AV.ptr id i o))=some r:=h;rw[C9]at h;cases h;cases hx with
  | ptr id i off hid hb =>
   rw[add_addr,zqd];exact .ptr id i (off+d) hid hb
 |_=>cases h
theorem Pt{x:Value}{a r:AV}{d:Nat}(hx:Rep W cx x a)(h:C4 a d=some r):∃ad,x=.pointer (some ad):=by
 cases a with
 |fptr v off=>obtain⟨b,o,e,_⟩:=hx.fptr_inv;grind
 |ptr id i off=>obtain⟨_,e⟩:=hx.ptr_inv;grind
 |_=>cases h
theorem Ir(hE:EnvOk E P){t:Nat}{ti:TI}(ht:E.ti t=some ti){f:Nat}{p:TI×Nat}(h:fieldAt E ti f=some p):
 ∃fields fl,P.underlying t=some (.struct fields)/\fields[f]?=some fl/\fl.offset=p.2/\E.ti fl.type=some p.1:=by
 have hd:=(hE.ti t ti ht).desc;unfold fieldAt at h;unfold J1 at hd;cases hk:ti.desc with
 | struct fs b =>
  rw[hk]at h hd;obtain⟨fields,h1,h2,_⟩:=hd;obtain⟨q,hq,h⟩:=A1 h;obtain⟨ft,hft,h⟩:=F7 h;cases h;rw[aV,<-h2,zqs]at hq;grind
 |_=>grind
theorem Qt(hE:EnvOk E P){t:Nat}{ti:TI}(ht:E.ti t=some ti){f:Nat}{p:TI×Nat}{x:Value}{a r:AV}(hx:Rep W cx x a)(hp:fieldAt E ti f=some p)
 (h:B6 (Nat.blt 0 p.1.size) (C4 a p.2)=some r):∃v,(Instr.fieldAt t x f).run P W=.ok v W/\Rep W cx v r:=by
 obtain⟨fields,fl,h1,h2,h3,h4⟩:=Ir hE ht hp;obtain⟨hb,h⟩:=B0 h;have hb:=M3 hb;obtain⟨ad,rfl⟩:=Pt hx h;have r1:∀W:World,(underlying t).run P W=.ok (.struct fields) W:=fun W=>A4 h1
 have hz:=(hE.ti fl.type p.1 h4).run_sizeOf (W:=W);refine⟨.pointer (some (ad.add p.2)),?_,Iq hx h⟩
 have:¬p.1.size=0:=by omega
 simp_all[Instr.fieldAt,Instr.sureAddr,fieldPlace]
theorem Pu(hE:EnvOk E P){t:Nat}{ti:TI}(ht:E.ti t=some ti){vs:Array Value}{cs:List AV}(hc:RepL W cx vs.toList cs){off:Nat}{r:AV}(h:partOf ti cs off=some r):
 ∃v,(part t vs off).run P W=.ok v W/\Rep W cx v r:=by
 have hty:=hE.ti t ti ht;have hi:=hty.run_isAgg (W:=W);unfold partOf at h;cases ha:o9 ti.desc with
 | false =>
  rw[ha]at h hi;have h:Ep cs off=some r:=h;rw[S3]at h;obtain⟨v,h1,h2⟩:=hc.get h;simp_all[part]
 | true =>
  rw[ha]at h hi;have h:(bif Nat.ble (Nat.add off ti.size) (lenL cs)then some (AV.agg (Es (Er cs off) ti.size))else none)=some r:=h;rw[A9,K5,K6]at h;cases hb:Nat.ble (Nat.add off ti.size) cs.length with
  |false=>grind
  | true =>
   rw[hb]at h;cases h;refine⟨.agg (vs.extract off (off+ti.size)),by simp[part,hi,hty.run_sizeOf],?_⟩
   have:=Rep.agg_mk ((hc.drop off).take ti.size)
   have e:((vs.toList.drop off).take ti.size).toArray=vs.extract off (off+ti.size):=by
    grind
   grind
theorem fB(hE:EnvOk E P){t:Nat}{ti:TI}(ht:E.ti t=some ti){f:Nat}{p:TI×Nat}{x:Value}{a r:AV}(hx:Rep W cx x a)(hp:fieldAt E ti f=some p)
 (h:a.onAgg none (fun cs=>partOf p.1 cs p.2)=some r):∃v,(Instr.field t x f).run P W=.ok v W/\Rep W cx v r:=by
 obtain⟨fields,fl,h1,h2,h3,h4⟩:=Ir hE ht hp;obtain⟨cs,e,g⟩:=x9 h;subst e;obtain⟨vs,rfl,hvs⟩:=hx.agg_inv;obtain⟨v,hv,hr⟩:=Pu hE h4 hvs g;simp_all[Instr.field,asAgg,A4]
theorem Qu(hE:EnvOk E P){t:Nat}{ti:TI}(ht:E.ti t=some ti){x y:Value}{a b r:AV}{i:Nat}(hx:Rep W cx x a)(hy:Rep W cx y b)(hi:asNat b=some i)
 (h:S5 E ti.desc i a=some r):∃v,(Instr.indexAt t x y).run P W=.ok v W/\Rep W cx v r:=by
 obtain⟨k,rfl⟩:=S7 hi;cases hy.int_inv;have hd:=(hE.ti t ti ht).desc;unfold J1 at hd;cases hk:ti.desc with
 | slice e =>
  rw[hk]at h hd;have r1:∀W:World,(underlying t).run P W=.ok (.slice e) W:=fun W=>A4 hd
  obtain⟨te,hte,h⟩:=F7 h;have hz:=(hE.ti e te hte).run_sizeOf (W:=W);cases hx with
  | fsl ad b o n cap es full sz g hn hc hf ha hsz hcell hone hrep hnn =>
   obtain ⟨v,hv,h⟩:=A1 h;obtain⟨hb,h⟩:=B0 h;cases h;rw[S3]at hv;have hb:=E5 hb;rw[A9]at hb;have hil:=V7 hv;obtain⟨rfl,ho,hlt⟩:=ha (fun e=>by rw[e]at hil;simp at hil);have hs1:=hsz i v hv;have hrun:(Instr.indexAt t (.slice (some ⟨b,o,none⟩) n cap) (.int k (i:Int))).run P W=.ok (.pointer (some ⟨b,o+i*te.size,none⟩)) W:=by
    have hc1:i<n:=by omega
    simp[Instr.indexAt,asIntOf,r1,hc1,hz,add_addr]
   refine⟨_,hrun,?_⟩
   have:=Rep.fptr_mk (W:=W) (cx:=cx) (o:=o+i*te.size) (off:=0) (a:=v) ho hlt (by grind)
   exact this
  | msl ad n cap id off sz hid hz' hb hc ha hnn =>
   obtain⟨hg,h⟩:=B0 h;rw[C9]at h;cases h;rw[zqa]at hg;have hin:=M3 hg.1;have hsz:=E5 hg.2;have hcap:cap≠0:=by omega
   obtain ⟨rfl,_⟩:=ha hcap;have hrun:(Instr.indexAt t (.slice (some ⟨(cx.μ id).1,(cx.μ id).2.1+off*sz,none⟩) n cap) (.int k (i:Int))).run P W=.ok (.pointer (some ⟨(cx.μ id).1,(cx.μ id).2.1+(off+i)*sz,none⟩)) W:=by
    have hc1:i<n:=hin;simp[Instr.indexAt,asIntOf,r1,hc1,hz,add_addr,<-hsz,zqe,zqd]
   refine⟨_,hrun,?_⟩
   have:=Rep.ptr (W:=W) (cx:=cx) id (off+i) 0 hid hb
   grind
  |_=>cases h
 | array len e =>
  rw[hk]at h hd;have r1:∀W:World,(underlying t).run P W=.ok (.array len e) W:=fun W=>A4 hd
  obtain⟨te,hte,h⟩:=F7 h;have hz:=(hE.ti e te hte).run_sizeOf (W:=W);obtain⟨hg,h⟩:=B0 h;rw[zqa]at hg;have hin:=M3 hg.1;obtain⟨ad,rfl⟩:=Pt hx h;refine⟨.pointer (some (ad.add (i*te.size))),?_,Iq hx h⟩;have hc1:i<len:=hin;simp[Instr.indexAt,asIntOf,r1,hc1,hz,Instr.sureAddr]
 |_=>rw[hk]at h;cases h
theorem fC(hE:EnvOk E P){t:Nat}{ti:TI}(ht:E.ti t=some ti){x y:Value}{a b r:AV}{i:Nat}(hx:Rep W cx x a)(hy:Rep W cx y b)(hi:asNat b=some i)
 (h:Ew E ti.desc i a=some r):∃v,(Instr.index t x y).run P W=.ok v W/\Rep W cx v r:=by
 obtain⟨k,rfl⟩:=S7 hi;cases hy.int_inv;have hd:=(hE.ti t ti ht).desc;unfold J1 at hd;cases hk:ti.desc with
 | string =>
  rw[hk]at h hd;have r1:∀W:World,(underlying t).run P W=.ok .string W:=fun W=>A4 hd
  obtain ⟨l,e,h⟩:=K8 (v:=a) h;subst e;obtain⟨u,hu,h⟩:=A1 h;cases h;rw[mM]at hu;obtain⟨s,rfl,hs⟩:=hx.str_inv;have hu':s[i]?=some u:=by
   have hil:=V7 hu;have hsl:s.size=l.length:=by rw[<-hs];exact zkg.symm
   have hlt:i<s.size:=by omega
   have e1:s[i]?=some s[i]:=by grind
   rw[e1];rw[<-hs]at hu;have e2:s.data.toList[i]?=some s.data[i]:=by simp
   rw[e2]at hu;exact hu
  refine⟨.int .u8 u.toNat,?_,.int _ _⟩;simp[Instr.index,asIntOf,r1,hu']
 | array len e =>
  rw[hk]at h hd;have r1:∀W:World,(underlying t).run P W=.ok (.array len e) W:=fun W=>A4 hd
  obtain⟨te,hte,h⟩:=F7 h;have hz:=(hE.ti e te hte).run_sizeOf (W:=W);obtain⟨hg,h⟩:=B0 h;have hin:=M3 hg;obtain⟨cs,ea,h⟩:=x9 h;subst ea;obtain⟨vs,rfl,hvs⟩:=hx.agg_inv;obtain⟨v,hv,hr⟩:=Pu hE hte hvs h;simp_all[Instr.index,asIntOf]
 |_=>rw[hk]at h;cases h
theorem Xc{x:Value}{vs:List AV}{i:Nat}{r:AV}(hx:Rep W cx x (.tup vs))(h:Ep vs i=some r):∃v,(Instr.extract x i).run P W=.ok v W/\Rep W cx v r:=by
 obtain⟨us,rfl,hu⟩:=hx.tup_inv;rw[S3]at h;obtain⟨v,h1,h2⟩:=hu.get h;simp_all[Instr.extract]
def W8(W:World)(cx:Cx)(o:Option Value)(a:Option AV):Prop:=match o,a with|none,none=>True|some v,some x=>Rep W cx v x|_,_=>False
theorem optNat_some{o:Option Value}{a:Option AV}(ho:W8 W cx o a){d n:Nat}(h:F3 a d=some n):(o=none/\a=none/\n=d)\/∃k x,o=some (.int k (n:Int))/\a=some x:=by
 cases a with
 | none =>
  cases o with
  |none=>cases h;grind
  |some v=>exact ho.elim
 | some x =>
  cases o with
  |none=>exact ho.elim
  | some v =>
   obtain⟨k,e⟩:=S7 h;subst e;have ho:Rep W cx v (.int k (n:Int)):=ho;cases ho.int_inv;grind
theorem F9{k:IntKind}{n y:Nat}{code:BoundsCode}(h:n<=y):(Instr.sliceBound (.int k (n:Int)) y code).run P W=.ok n W:=by
 simp_all[Instr.sliceBound,asIntOf]
theorem W9{isSlice:Bool}{len cap:Nat}{lo hi mx:Option Value}{alo ahi amx:Option AV}{l r m:Nat}(h1:W8 W cx lo alo)(h2:W8 W cx hi ahi)(h3:W8 W cx mx amx)
 (hl:F3 alo 0=some l)(hr:F3 ahi len=some r)(hm:F3 amx len=some m)(hlr:l<=r)(hrm:r<=m)(hml:m<=len)(hlc:len<=cap)(hh:ahi=none->amx=none):
 (Instr.sliceBounds isSlice len cap lo hi mx).run P W=.ok (l,r,if amx.isNone then cap else m) W:=by
 have k1:∀y code,m<=y->(match mx with|some v=>Instr.sliceBound v y code|none=>pure y:Sem Nat).run P W=.ok (if amx.isNone then y else m) W:=by
  intro y code hy;rcases optNat_some h3 hm with⟨rfl,rfl,_⟩|⟨k,x,rfl,rfl⟩
  . rfl
  . simp[F9 hy]
 rcases optNat_some h3 hm with⟨rfl,rfl,em⟩|⟨km,xm,rfl,rfl⟩
 . rcases optNat_some h2 hr with⟨rfl,rfl,er⟩|⟨kr,xr,rfl,rfl⟩
   . rcases optNat_some h1 hl with⟨rfl,rfl,el⟩|⟨kl,xl,rfl,rfl⟩
     . subst el er;simp[Instr.sliceBounds]
     simp_all[Instr.sliceBounds,F9]
   . rcases optNat_some h1 hl with⟨rfl,rfl,el⟩|⟨kl,xl,rfl,rfl⟩
     . subst el;simp[Instr.sliceBounds,F9 (show r<=cap by omega)]
     . simp[Instr.sliceBounds,F9 (show r<=cap by omega),F9 hlr]
 . rcases optNat_some h2 hr with⟨rfl,rfl,er⟩|⟨kr,xr,rfl,rfl⟩
   . grind
   . rcases optNat_some h1 hl with⟨rfl,rfl,el⟩|⟨kl,xl,rfl,rfl⟩
     . subst el;simp[Instr.sliceBounds,F9 (show m<=cap by omega),F9 hrm]
     . simp[Instr.sliceBounds,F9 (show m<=cap by omega),F9 hrm,F9 hlr]
end
end Go.AM
/-
 The abstract machine: slices of slices,builds,makes,appends,copies.
-/
namespace Go.AM
section
variable {P:Program}{E:Env}{W:World}{cx:Cx}{h:Heap}
theorem bE(s:ByteArray)(l r:Nat):(s.extract l r).data.toList=(s.data.toList.drop l).take (r-l):=by
 simp_all
theorem bF(hE:EnvOk E P){t:Nat}{ti:TI}(ht:E.ti t=some ti){x:Value}{a r:AV}{lo hi mx:Option Value}{alo ahi amx:Option AV}(hx:Rep W cx x a)
 (h1:W8 W cx lo alo)(h2:W8 W cx hi ahi)(h3:W8 W cx mx amx)(hh:ahi=none->amx=none)(hnl:a≠.nilsl)(h:sliceA E ti.desc alo ahi amx a=some r):
 ∃v,(Instr.sliceAt t x lo hi mx).run P W=.ok v W/\Rep W cx v r:=by
 have hd:=(hE.ti t ti ht).desc;unfold J1 at hd;cases hk:ti.desc with
 | string =>
  rw[hk]at h hd;have r1:∀W:World,(underlying t).run P W=.ok .string W:=fun W=>A4 hd
  obtain⟨l,e,h⟩:=K8 (v:=a) h;subst e;obtain⟨s,rfl,hs⟩:=hx.str_inv;obtain⟨lo',hlo,h⟩:=A1 h;obtain⟨hi',hhi,h⟩:=A1 h;obtain⟨hg,h⟩:=B0 h;cases h;rw[zqa,zqa,u3]at hg;obtain⟨⟨g1,g2⟩,g3⟩:=hg;have g1:=E3 g1;have g2:=E3 g2;have hmx:amx=none:=by simp_all
  subst hmx;have hmx':mx=none:=by cases mx<;>first|rfl|exact h3.elim
  subst hmx';have hsz:s.size=l.length:=by rw[<-hs];exact zkg.symm
  rw[u3,<-hsz]at hhi;have hb:=W9 (P:=P) (W:=W) (cx:=cx) (isSlice:=false) (len:=s.size) (cap:=s.size) (m:=s.size) h1 h2 (show W8 W cx none none from trivial) hlo hhi rfl g1 (by omega) (zqc _) (zqc _) (fun _=>rfl);refine⟨.string (s.extract lo' hi'),?_,?_⟩
  . simp[Instr.sliceAt,Instr.slice,r1,hb]
  . have:=Rep.str (W:=W) (cx:=cx) (s.extract lo' hi')
    rw[bE,hs]at this;exact this
 | slice e =>
  rw[hk]at h hd;have r1:∀W:World,(underlying t).run P W=.ok (.slice e) W:=fun W=>A4 hd
  obtain⟨te,hte,h⟩:=F7 h;have hz:=(hE.ti e te hte).run_sizeOf (W:=W);cases hx with
  | fsl ad b o n cap es full sz g hn hc hf ha hsz hcell hone hrep hnn =>
   obtain⟨l,hl,h⟩:=A1 h;obtain⟨q,hq,h⟩:=A1 h;obtain⟨m,hm,h⟩:=A1 h;obtain⟨hg,h⟩:=B0 h;cases h;rw[A9]at hq hm;rw[zqa,zqa,zqa,A9]at hg;obtain⟨⟨⟨g1,g2⟩,g3⟩,g4⟩:=hg;have g1:=E3 g1;have g2:=E3 g2;have g3:=E3 g3;rw[hn]at hq hm;have hb:=W9 (P:=P) (isSlice:=true) (cap:=cap) h1 h2 h3 hl hq hm g1 g2 (by omega) hc hh;generalize hM:(if amx.isNone then cap else m)=M at hb;have hqM:q<=M:=by grind
   have hMc:M<=cap:=by grind
   refine⟨.slice (if M=l then ad else ad.map (·.add (l*te.size))) (q-l) (M-l),by simp[Instr.sliceAt,Instr.slice,r1,hb,hz],?_⟩;rw[K6,K5,A9];have hlen:((es.drop l).take (q-l)).length=q-l:=by grind
   refine .fsl _ b (o+l*sz) (q-l) (M-l) _ _ sz (fun i j=>g (l+i) j) hlen (by omega) (fun hfull=>?_) (fun hne=>?_) (fun i e' hi'=>?_) (fun i e' j c hi' hj=>?_) (fun i e' j c hi' hj=>?_) (fun i e' j c hi' hj=>?_) (fun he' hff=>?_)
   . cases amx with
     | none =>
      simp_all
     | some am =>
      simp_all
   . have hlq:0<q-l:=by
      grind
     have hne':es≠[]:=(by grind)
     obtain ⟨ea,ho,hlt⟩:=ha hne';have hsz':te.size=sz:=by
      cases es with
      |nil=>grind
      | cons e0 r0 =>
       have g4:Nat.beq (lenL e0.cells) te.size=true:=g4;rw[A9]at g4;rw[<-E5 g4];exact hsz 0 e0 rfl
     refine⟨?_,ho,hlt⟩;rw[if_neg (by omega),ea,hsz'];simp[add_addr]
   . grind
   . grind
   . grind
   . grind
   . have had:ad≠none:=by
      grind[Nat.beq]
     split
     . exact had
     simp_all
  | msl ad n cap id off sz hid hz' hb' hc ha hnn =>
   obtain⟨l,hl,h⟩:=A1 h;obtain⟨q,hq,h⟩:=A1 h;obtain⟨m,hm,h⟩:=A1 h;obtain⟨hg,h⟩:=B0 h;rw[C9,C9]at h;cases h;rw[zqa,zqa,zqa]at hg;obtain⟨⟨⟨g1,g2⟩,g3⟩,g4⟩:=hg;have g1:=E3 g1;have g2:=E3 g2;have g3:=E3 g3;have g4:=E5 g4;have hb:=W9 (P:=P) (isSlice:=true) (cap:=cap) h1 h2 h3 hl hq hm g1 g2 g3 hc hh;generalize hM:(if amx.isNone then cap else m)=M at hb;have hqM:q<=M:=by grind
   have hMc:M<=cap:=by grind
   refine⟨.slice (if M=l then ad else ad.map (·.add (l*te.size))) (q-l) (M-l),by simp[Instr.sliceAt,Instr.slice,r1,hb,hz],?_⟩;refine .msl _ (q-l) (M-l) id (off+l) sz hid hz' hb' (by omega) (fun hcap=>?_) (by grind);obtain⟨ea,hfit⟩:=ha (by omega);refine⟨?_,?_⟩
   . rw[if_neg (by omega),ea,<-g4]
     grind[add_addr]
   . have:off+l+(M-l)=off+M:=by omega
     rw[this]
     have:=zqb sz (show off+M<=off+cap by omega)
     omega
  |nilsl=>grind
  |_=>cases h
 |_=>rw[hk]at h;cases h
def mQ(cells:Array Value)(off:Nat)(v:Value):Array Value:=v.cells.zipIdx.foldl (fun cs (c,j)=>cs.setIfInBounds (off+j) c) cells
theorem fD(hE:EnvOk E P){t:Nat}{ti:TI}(ht:E.ti t=some ti){x:Value}{a r:AV}{lo hi mx:Option Value}{alo ahi amx:Option AV}(hx:Rep W cx x a)
 (h1:W8 W cx lo alo)(h2:W8 W cx hi ahi)(h3:W8 W cx mx amx)(hh:ahi=none->amx=none)(h:sliceA E ti.desc alo ahi amx a=some r):
 ∃v,(Instr.sliceAt t x lo hi mx).run P W=.ok v W/\Rep W cx v r:=by
 by_cases hn:a=.nilsl
 . subst hn
   have hd:=(hE.ti t ti ht).desc;unfold J1 at hd;cases hk:ti.desc with
   | slice e =>
    rw[hk]at h hd;have r1:∀W:World,(underlying t).run P W=.ok (.slice e) W:=fun W=>A4 hd
    obtain⟨te,hte,h⟩:=F7 h;have hz:=(hE.ti e te hte).run_sizeOf (W:=W);have h:aL alo ahi amx=some r:=h;obtain⟨l,hl,h⟩:=A1 h;obtain⟨q,hq,h⟩:=A1 h;obtain⟨m,hm,h⟩:=A1 h;obtain⟨hg,h⟩:=B0 h;cases h;rw[zqa,zqa]at hg;have g1:=E3 hg.1.1;have g2:=E3 hg.1.2;have g3:=E3 hg.2;cases hx;have hb:=W9 (P:=P) (W:=W) (isSlice:=true) (cap:=0) h1 h2 h3 hl hq hm g1 g2 g3 (zqc _) hh;generalize hM:(if amx.isNone then 0 else m)=M at hb;have hM0:M=0:=by rw[<-hM];split<;>omega
    obtain rfl:l=0:=by omega
    obtain rfl:q=0:=by omega
    subst hM0;exact⟨.slice none 0 0,by simp[Instr.sliceAt,Instr.slice,r1,hb,hz],.nilsl⟩
   |string=>rw[hk]at h;cases h
   |_=>rw[hk]at h;cases h
 . exact bF hE ht hx h1 h2 h3 hh hn h
theorem Ym:∀(l:List Value)(k off:Nat)(cs:Array Value),(l.zipIdx k).foldl (fun cs (p:Value×Nat)=>cs.setIfInBounds (off+p.2) p.1) cs=putC cs (off+k) l
 |[],_,_,_=>rfl
 | v::r,k,off,cs=>by
  simp only[List.zipIdx_cons,List.foldl_cons,putC];rw[Ym r (k+1) off];rfl
theorem fE(cells:Array Value)(off:Nat)(v:Value):mQ cells off v=putC cells off v.cells.toList:=by
 have:=Ym v.cells.toList 0 off cells
 unfold mQ;rw[zqh]at this;rw[<-this,<-Array.foldl_toList];grind
theorem Tp{place:Nat->Option (Nat×Nat)}{place':Nat->Option (Nat×Nat)}(hp:∀i q,place' i=some q->place i=some q):
 ∀ (ps:List (Nat×Value)) (qs:List (Nat×AV)) (cells:Array Value) (cs:List AV) (r:List AV),
   ps.length=qs.length->(∀(i:Nat) p q,ps[i]?=some p->qs[i]?=some q->p.1=q.1/\Rep W cx p.2 q.2)->RepL W cx cells.toList cs->V3 place' qs cs=some r ->
   ∃c',Instr.fill place cells ps=some c'/\RepL W cx c'.toList r:=by
 intro ps
 induction ps with
 | nil =>
  intro qs cells cs r hl _ hc h;cases qs with
  |nil=>cases h;exact⟨cells,rfl,hc⟩
  |cons _ _=>simp at hl
 | cons p ps ih =>
  intro qs cells cs r hl hq hc h;cases qs with
  |nil=>simp at hl
  | cons q qs =>
   obtain ⟨e1,hv⟩:=hq 0 p q rfl rfl;have h:A7 (place' q.1) (fun z=>B6 (Nat.beq (lenL q.2.cells) z.2&&Nat.ble (Nat.add z.1 z.2) (lenL cs)&&E8 q.2.cells) (V3 place' qs (O8 cs z.1 q.2.cells)))=some r:=h;obtain⟨z,hz,h⟩:=A1 h;obtain⟨hg,h⟩:=B0 h;rw[zqa,zqa,A9,A9,G9]at hg;have g1:=E5 hg.1.1;have g2:=E3 hg.1.2;have g2:z.1+z.2<=cs.length:=g2;have hun:q.2≠.und:=fun e=>by
    have:=hg.2 .und (by rw[e];simp[AV.cells])
    cases this
   have hcl:=hc.1;rw[U6]at h;have hpl:=hp _ _ hz;have hrv:RepL W cx p.2.cells.toList q.2.cells:=hv.cells hun
   . have hsz:p.2.cells.size=z.2:=by have:=hrv.1;grind
     have hfit:z.1+p.2.cells.toList.length<=cells.size:=by
      grind
     have hnew:RepL W cx (putC cells z.1 p.2.cells.toList).toList (lsplice cs z.1 q.2.cells):=by
      have hl1:z.1+q.2.cells.length<=cs.length:=by omega
      refine⟨?_,fun i v c h1 h2=>?_⟩
      . grind[S9,v7]
      . have h1:(putC cells z.1 p.2.cells.toList)[i]?=some v:=by grind
        rw[Li hfit]at h1;rw[Ps hl1]at h2;rw[hrv.1]at h1;split at h1
        . rename_i hi;rw[if_pos hi]at h2
          exact hc.2 i v c (by grind) h2
        . rename_i hi;rw[if_neg hi]at h2
          split at h1
          . rename_i hi2;rw[if_pos hi2]at h2;exact hrv.2 _ v c h1 h2
          . rename_i hi2;rw[if_neg hi2]at h2;exact hc.2 i v c (by grind) h2
     obtain ⟨c',h1,h2⟩:=ih qs _ _ r (by grind) (fun i p' q' hp' hq'=>hq (i+1) p' q' (by grind) (by grind)) hnew h;refine⟨c',?_,h2⟩;rw[<-e1]at hpl;unfold Instr.fill;rw[hpl];have hcond:¬(p.2.cells.size≠z.2||decide (z.1+p.2.cells.size>cells.size))=true:=by
      grind
     have e3:(match(z:Nat×Nat)with|(off,size)=>if p.2.cells.size≠size||decide (off+p.2.cells.size>cells.size)then none else Instr.fill place (p.2.cells.zipIdx.foldl (fun cs (c,j)=>cs.setIfInBounds (off+j) c) cells) ps)=some c':=by
      show(if _ then _ else _)=_
      rw[if_neg hcond]
      have:=fE cells z.1 p.2
      grind[mQ]
     exact e3
theorem Ha(hs:Sat E W cx h){a:Act}{fr:Tr}(hf:FrRep W cx a.tmps fr):∀(l:List (Nat×Operand)),
 (l.map fun p=>(p.1,a.eval p.2)).length=(opvps E l fr).length/\
   ∀(i:Nat)(p:Nat×Value)(q:Nat×AV),(l.map fun p=>(p.1,a.eval p.2))[i]?=some p->(opvps E l fr)[i]?=some q->p.1=q.1/\Rep W cx p.2 q.2
 |[]=>⟨rfl,by simp⟩
 | x::r=>by
  obtain⟨h1,h2⟩:=Ha hs hf r;have e:opvps E (x::r) fr=(x.1,opv E x.2 fr)::opvps E r fr:=rfl;refine⟨by grind,fun i p q hp hq=>?_⟩;rw[e]at hq;cases i with
  |zero=>simp at hp hq;subst hp hq;exact⟨rfl,c8 hs hf x.2⟩
  | succ i =>
   grind
theorem Yn{α β:Type}(g:α->Option β):∀(l:List α),(∀f∈l,∃b,g f=some b)->∃bs,l.mapM g=some bs/\∀(i:Nat) f,l[i]?=some f->bs[i]?=g f
 |[],_=>⟨[],rfl,by simp⟩
 | f::l,h=>by
  obtain⟨b,hb⟩:=h f (zqx ..);obtain⟨bs,h1,h2⟩:=Yn g l (by grind);refine⟨b::bs,by simp_all,fun i f' hi=>?_⟩;grind
theorem fF(hE:EnvOk E P){t:Nat}{ti:TI}(ht:E.ti t=some ti){ps:Array (Nat×Value)}{qs:List (Nat×AV)}{r:AV}(hl:ps.toList.length=qs.length)
 (hq:∀(i:Nat) p q,ps.toList[i]?=some p->qs[i]?=some q->p.1=q.1/\Rep W cx p.2 q.2)(h:X5 E ti qs=some r):
 ∃v,(Instr.build t ps).run P W=.ok v W/\Rep W cx v r:=by
 have hty:=hE.ti t ti ht;have hd:=hty.desc;unfold J1 at hd;obtain⟨z,hz,hzo⟩:=hty.run_zero (W:=W);have hzc:=(hzo.rep W cx).cells hzo.und;unfold X5 at h;cases hk:ti.desc with
 | struct fs b =>
  rw[hk]at h hd;obtain⟨fields,hu,h2,hinf,_⟩:=hd;have r1:∀W:World,(underlying t).run P W=.ok (.struct fields) W:=fun W=>A4 hu
  obtain ⟨cs,hcs,rfl⟩:=Option.map_eq_some_iff.1 h;obtain⟨pl,hp1,hp2⟩:=Yn (fun f:Field=>(P.info? f.type).map fun i=>(f.offset,i.size)) fields.toList (fun f hf=>by
   obtain⟨i,hi⟩:=hinf f hf;simp_all)
  have hp3:∀i q,A7 (Wv fs i) (fun f=>onTI E f.1 none fun g=>some (f.2,g.size))=some q->pl[i]?=some q:=by
   intro i q hi;obtain⟨p,h5,hi⟩:=A1 hi;obtain⟨g,hg,hi⟩:=F7 hi;cases hi;rw[aV,<-h2,zqs]at h5;cases hf:fields.toList[i]? with
   |none=>grind
   | some f =>
    rw[hf]at h5;cases h5;obtain⟨ii,_,e1,e2,_⟩:=(hE.ti _ _ hg).info;grind
  obtain⟨c',h3,h4⟩:=Tp (place:=(pl[·]?)) hp3 ps.toList qs z.cells _ cs hl hq hzc hcs;refine⟨.agg c',by simp[Instr.build,hz,r1,Array.mapM_eq_mapM_toList,run_places W _ _ hp1,h3],?_⟩
  have:=Rep.agg_mk h4
  omega
 | array n e =>
  rw[hk]at h hd;have r1:∀W:World,(underlying t).run P W=.ok (.array n e) W:=fun W=>A4 hd
  obtain⟨te,hte,h⟩:=F7 h;obtain⟨cs,hcs,rfl⟩:=Option.map_eq_some_iff.1 h;have hze:=(hE.ti e te hte).run_sizeOf (W:=W);obtain⟨c',h3,h4⟩:=Tp (place:=fun i=>some (i*te.size,te.size)) (fun i q hq=>hq) ps.toList qs z.cells _ cs hl hq hzc hcs;refine⟨.agg c',by simp[Instr.build,hz,r1,hze,h3],?_⟩
  have:=Rep.agg_mk h4
  simp_all
 |_=>grind
end
end Go.AM
/-
 The abstract machine: new slices; append; copy.
-/
namespace Go.AM
section
variable {P:Program}{E:Env}{W:World}{cx:Cx}{h:Heap}
theorem Rw{z:Value}{a:AV}{sz:Nat}(hz:ZeroOk z a)(hs:a.cells.length=sz)(hp:0<sz)(n:Nat){c:Array Value}(hc:∀k,k<n*sz->c[k]?=z.cells[k%sz]?):
 RowRep W cx ((zqp (n*sz)).map fun k=>(z.cells[k%sz]?).getD undef) (List.replicate n a) sz/\(∀(k:Nat) v,((zqp (n*sz)).map fun k=>(z.cells[k%sz]?).getD undef)[k]?=some v->c[k]?=some v):=by
 have hcs:=(hz.rep W cx).cells hz.und;have hzs:z.cells.size=sz:=by have:=hcs.1;grind
 have hget:∀k,k<n*sz->∃v,z.cells[k%sz]?=some v:=by
  grind[zqf]
 refine⟨⟨by simp,fun i e hi=>?_,fun i e j c' hi hj=>?_⟩,fun k v hk=>?_⟩
 . grind
 . rw [List.getElem?_replicate]at hi
   split at hi
   . rename_i hin
     cases hi;have hjl:=V7 hj;rw[hs]at hjl;have hk:=bD hin hjl;obtain⟨v,hv,hr⟩:=hcs.get hj;have hv':z.cells[j]?=some v:=by grind
     refine⟨v,?_,hz.one v (zqu hv),hr⟩;grind[mP]
   . cases hi
 grind
theorem rangeMap_get{z:Array Value}{sz:Nat}(hz:z.size=sz)(hp:0<sz)(n k:Nat)(hk:k<n):((zkf n).map (fun i=>z[i%z.size]!))[k]?=z[k%sz]?:=by
 grind[zqf]
theorem bG{b sz n cap:Nat}{cx:Cx}{W:World}{id:Nat}(hid:id<cx.nx)(hm:cx.μ id=(b,0,sz))(hb:b<W.heap.size)(hn:n<=cap)(hc:cap*sz<=szOf W b):
 Rep W cx (.slice (some ⟨b,0,none⟩) n cap) (.msl id 0 n sz):=by
 refine .msl _ n cap id 0 sz hid (by rw[hm]) (by grind) hn (by grind) (by simp)
theorem Tq(W:World)(c:Array Value)(t:TypeId)(f:Nat×Nat):szOf (W.alloc (.cells c t f)) W.heap.size=c.size:=by
 unfold szOf;rw[K7]
theorem Ts(hs:Sat E W cx h){t:Nat}{c:Array Value}{es:List AV}{sz n cap:Nat}{vs:List Value}(hr:RowRep W cx vs es sz)(hsub:∀(k:Nat) v,vs[k]?=some v->c[k]?=some v)
 (hfit:es.length*sz<=c.size)(hn:n<=cap)(hc:cap*sz<=c.size):
 ∃cx',Ext W cx (W.alloc (.cells c t)) cx'/\Sat E (W.alloc (.cells c t)) cx' (h.push (.row es sz))/\Rep (W.alloc (.cells c t)) cx' (.slice (some ⟨W.heap.size,0,none⟩) n cap) (.msl h.next 0 n sz):=by
 obtain⟨h1,h2,h3⟩:=Tn hs (t:=t) hr hsub hfit;exact⟨_,h1,h2,bG (by rw[hs.nx];exact zqi _) h3 (by simp) hn (by rw[Tq];exact hc)⟩
theorem u4{d:TD}{te:TI}(h:elemOfT E d=some te):∃e,d=.slice e/\E.ti e=some te:=by
 cases d with
 |slice e=>exact⟨e,rfl,h⟩
 |_=>cases h
theorem fG{sz:Nat}(hp:0<sz):∀(ps:List (Nat×Value))(qs:List (Nat×AV))(cells:Array Value)(es r:List AV),
 ps.length=qs.length->(∀(i:Nat) p q,ps[i]?=some p->qs[i]?=some q->p.1=q.1/\Rep W cx p.2 q.2)->RowRep W cx cells.toList es sz->placeL sz qs es=some r ->
 ∃c',Instr.fill (fun i=>some (i*sz,sz)) cells ps=some c'/\RowRep W cx c'.toList r sz:=by
 intro ps
 induction ps with
 | nil =>
  intro qs cells es r hl _ hc h;cases qs with
  |nil=>cases h;exact⟨cells,rfl,hc⟩
  |cons _ _=>simp at hl
 | cons p ps ih =>
  intro qs cells es r hl hq hc h;cases qs with
  |nil=>simp at hl
  | cons q qs =>
   obtain ⟨e1,hv⟩:=hq 0 p q rfl rfl;have h:B6 (Nat.blt q.1 (lenL es)&&Nat.beq (lenL q.2.cells) sz&&E8 q.2.cells) (placeL sz qs (setL es q.1 q.2))=some r:=h;obtain⟨hg,h⟩:=B0 h;rw[zqa,zqa,A9,A9,G9]at hg;have g1:=M3 hg.1.1;have g2:=E5 hg.1.2;have hun:q.2≠.und:=fun e=>by
    have:=hg.2 .und (by rw[e];simp[AV.cells])
    cases this
   have hrv:=hv.cells hun;have hone:=hrv.one hg.2;rw[Ay]at h;have hcl:=hc.len;have hlen:p.2.cells.toList.length=sz:=by rw[hrv.1,g2]
   have hfit:q.1*sz+sz<=cells.size:=by
    have:cells.size=es.length*sz:=by grind
    have:=zqb sz (show q.1+1<=es.length from g1)
    grind
   have hnew:RowRep W cx (putC cells (q.1*sz) p.2.cells.toList).toList (es.set q.1 q.2) sz:=by
    have:=hc.set (RowRep.one hrv hone g2) g1
    have e:cells.toList.take (q.1*sz)++(p.2.cells.toList++cells.toList.drop ((q.1+1)*sz))=(putC cells (q.1*sz) p.2.cells.toList).toList:=by
     have e0:cells.toList.take (q.1*sz)++(p.2.cells.toList++cells.toList.drop ((q.1+1)*sz))=lsplice cells.toList (q.1*sz) p.2.cells.toList:=by
      grind[lsplice]
     rw[e0];apply zkd;grind[Li]
    grind
   obtain ⟨c',h1,h2⟩:=ih qs _ _ r (by grind) (fun i p' q' hp' hq'=>hq (i+1) p' q' (by grind) (by grind)) hnew h;refine⟨c',?_,h2⟩;have hcond:¬(p.2.cells.size≠sz||decide (p.1*sz+p.2.cells.size>cells.size))=true:=by
    grind
   have e3:(if p.2.cells.size≠sz||decide (p.1*sz+p.2.cells.size>cells.size)then none else Instr.fill (fun i=>some (i*sz,sz)) (p.2.cells.zipIdx.foldl (fun cs (c,j)=>cs.setIfInBounds (p.1*sz+j) c) cells) ps)=some c':=by
    rw[if_neg hcond]
    have:=fE cells (p.1*sz) p.2
    grind[mQ]
   exact e3
theorem Fj(hE:EnvOk E P)(hs:Sat E W cx h){t:Nat}{ti te:TI}(ht:E.ti t=some ti)(hte:elemOfT E ti.desc=some te){n:Nat}{ps:Array (Nat×Value)}{qs:List (Nat×AV)}{es:List AV}
 (hl:ps.toList.length=qs.length)(hq:∀(i:Nat) p q,ps.toList[i]?=some p->qs[i]?=some q->p.1=q.1/\Rep W cx p.2 q.2)
 (hg:(Nat.ble (Nat.mul n te.size) 65536&&Nat.blt 0 te.size)=true)(hp:placeL te.size qs (repL n te.zero)=some es):
 ∃(e:Nat)(c':Array Value),(Instr.buildSlice t n ps).run P W=.ok (.slice (some ⟨W.heap.size,0,none⟩) n n) (W.alloc (.cells c' e))/\RowRep W cx c'.toList es te.size/\c'.size=n*te.size/\es.length=n:=by
 obtain⟨e,hk,hte⟩:=u4 hte;have hd:=(hE.ti t ti ht).desc;unfold J1 at hd;rw[hk]at hd;have r1:∀W:World,(underlying t).run P W=.ok (.slice e) W:=fun W=>A4 hd
 rw[zqa]at hg;have g1:n*te.size<=65536:=E3 hg.1;have g2:=M3 hg.2;have hty:=hE.ti e te hte;have hz:=hty.run_sizeOf (W:=W);obtain⟨z,hzr,hzo⟩:=hty.run_zero (W:=W);have hzs:z.cells.size=te.size:=by have:=((hzo.rep W cx).cells hzo.und).1;simp at this;rw[this];exact hty.zsz
 have place:∀(cells:Array Value),RowRep W cx cells.toList (List.replicate n te.zero) te.size->cells.size=n*te.size ->
  ∃c',Instr.fill (fun i=>some (i*te.size,te.size)) cells ps.toList=some c'/\RowRep W cx c'.toList es te.size:=by
  grind[m6,fG]
 have h24:¬(n*te.size>2^24):=by omega
 obtain ⟨c',hc1,hc2⟩:=place ((zkf (n*te.size)).map (fun i=>z.cells[i%z.cells.size]!)) (by
  obtain ⟨a1,a2⟩:=Rw (W:=W) (cx:=cx) hzo hty.zsz g2 n (c:=(zkf (n*te.size)).map (fun i=>z.cells[i%z.cells.size]!)) (by grind[Go.AM.rangeMap_get]);have e:((zkf (n*te.size)).map (fun i=>z.cells[i%z.cells.size]!)).toList=(zqp (n*te.size)).map fun k=>(z.cells[k%te.size]?).getD undef:=by
   apply zkd;grind
  grind) (by simp)
 have hlen:=hc2.len;have hrl:es.length=n:=by
  have:∀(qs:List (Nat×AV))(es r:List AV),placeL te.size qs es=some r->r.length=es.length:=by
   intro qs
   induction qs with
   |nil=>intro es r h;cases h;rfl
   | cons q qs ih =>
    intro es r h;have h:B6 (Nat.blt q.1 (lenL es)&&Nat.beq (lenL q.2.cells) te.size&&E8 q.2.cells) (placeL te.size qs (setL es q.1 q.2))=some r:=h;grind[B0,Ay]
  grind[m6]
 have hcs:c'.size=n*te.size:=by grind
 refine ⟨e,c',?_,hc2,hcs,hrl⟩;have hfill:Instr.fill (fun i=>some (i*te.size,te.size)) ((zkf (n*te.size)).map (fun i=>(if n*te.size=0 then #[]else z.cells)[i%(if n*te.size=0 then(#[]:Array Value)else z.cells).size]!)) ps.toList=some c':=by
  grind
 have hz':(sizeOf e).run P W=.ok te.size W:=hz;simp only[Instr.buildSlice,Sem.run_bind,r1,hz',Result.andThen_ok,if_neg h24];by_cases h0:n*te.size=0
 . simp only[if_pos h0]at hfill|-
   simp only[Sem.run_bind,Sem.run_pure,Result.andThen_ok,hfill];simp[newRow]
 . simp only[if_neg h0]at hfill|-
   simp only[Sem.run_bind,Sem.run_pure,Result.andThen_ok,hzr,hfill];simp[newRow]
theorem Nn(hE:EnvOk E P)(hs:Sat E W cx h){t:Nat}{ti te:TI}(ht:E.ti t=some ti)(hte:elemOfT E ti.desc=some te){n:Nat}{ps:Array (Nat×Value)}{qs:List (Nat×AV)}{es:List AV}
 (hl:ps.toList.length=qs.length)(hq:∀(i:Nat) p q,ps.toList[i]?=some p->qs[i]?=some q->p.1=q.1/\Rep W cx p.2 q.2)
 (hg:(Nat.ble (Nat.mul n te.size) 65536&&Nat.blt 0 te.size)=true)(hp:placeL te.size qs (repL n te.zero)=some es):
 ∃v W' cx',(Instr.buildSlice t n ps).run P W=.ok v W'/\Ext W cx W' cx'/\Sat E W' cx' (h.push (.row es te.size))/\Rep W' cx' v (.msl h.next 0 n te.size):=by
 obtain⟨e,c',h1,hc2,hcs,hrl⟩:=Fj hE hs ht hte hl hq hg hp;obtain⟨cx',k1,k2,k3⟩:=Ts hs (t:=e) (c:=c') (n:=n) (cap:=n) hc2 (fun k v hk=>by grind) (by grind) (zqc _) (by grind);grind
theorem Qv(hE:EnvOk E P)(hs:Sat E W cx h){t:Nat}{ti te:TI}(ht:E.ti t=some ti)(hte:elemOfT E ti.desc=some te){x y:Value}{a b:AV}{n m:Nat}(hx:Rep W cx x a)(hy:Rep W cx y b)
 (hn:asNat a=some n)(hm:asNat b=some m)(hg:(Nat.ble n m&&Nat.ble (Nat.mul m te.bytes) 140737488355328&&Nat.blt 0 te.size)=true):
 ∃v W' cx',(Instr.makeSlice t x y).run P W=.ok v W'/\Ext W cx W' cx'/\Sat E W' cx' (h.push (.row (repL n te.zero) te.size))/\Rep W' cx' v (.msl h.next 0 n te.size):=by
 obtain⟨e,hk,hte⟩:=u4 hte;have hd:=(hE.ti t ti ht).desc;unfold J1 at hd;rw[hk]at hd;obtain⟨k1,rfl⟩:=S7 hn;obtain⟨k2,rfl⟩:=S7 hm;cases hx.int_inv;cases hy.int_inv;rw[zqa,zqa]at hg;have g1:=E3 hg.1.1;have g2:m*te.bytes<=140737488355328:=E3 hg.1.2;have g3:=M3 hg.2;have hty:=hE.ti e te hte;have hb:=hty.pos g3;obtain⟨i,z,hi1,hi2,hi3,hi4,hzo⟩:=hty.info;have hzs:z.cells.size=te.size:=by have:=((hzo.rep W cx).cells hzo.und).1;simp at this;rw[this];exact hty.zsz
 have hm47:m<=140737488355328:=Nat.le_trans (zqj m hb) g2;have hrow:=Rw (W:=W) (cx:=cx) hzo hty.zsz g3 n (c:=madeCells z.cells (m*te.size)) (fun k hk=>rangeMap_get hzs g3 _ k (zqn hk (zqb _ g1)));obtain⟨cx',k1',k2',k3'⟩:=Ts hs (t:=e) (c:=madeCells z.cells (m*te.size)) (n:=n) (cap:=m) hrow.1 hrow.2 (by simp_all[size_madeCells,zqb]) g1 (by simp_all[size_madeCells]);rw[m6];refine⟨_,_,cx',?_,k1',k2',k3'⟩;have hrun:=run_make (P:=P) W t e i z hd hi1 hi4 k1 k2 (n:Int) (m:Int) (by omega) (by omega) (by
  rw[hi3]
  have:(te.bytes:Int)*(m:Int)=((m*te.bytes:Nat):Int):=by rw[zqg];simp
  rw[this];omega) (by omega)
 rw[hi2]at hrun;simpa using hrun
theorem Xd(hE:EnvOk E P)(hs:Sat E W cx h){t:Nat}{ti te:TI}(ht:E.ti t=some ti)(hte:elemOfT E ti.desc=some te){x y:Value}{a b:AV}{n m:Nat}(hx:Rep W cx x a)(hy:Rep W cx y b)
 (hn:asNat a=some n)(hm:asNat b=some m)(hg:(Nat.ble n m&&Nat.ble (Nat.mul m te.bytes) 140737488355328&&Nat.blt 0 te.size)=true):
 ∃(e:Nat)(c':Array Value)(vs:List Value),(Instr.makeSlice t x y).run P W=.ok (.slice (some ⟨W.heap.size,0,none⟩) n m) (W.alloc (.cells c' e))/\RowRep W cx vs (repL n te.zero) te.size/\(∀(k:Nat) v,vs[k]?=some v->c'[k]?=some v)/\n<=m/\c'.size=m*te.size:=by
 obtain⟨e,hk,hte⟩:=u4 hte;have hd:=(hE.ti t ti ht).desc;unfold J1 at hd;rw[hk]at hd;obtain⟨k1,rfl⟩:=S7 hn;obtain⟨k2,rfl⟩:=S7 hm;cases hx.int_inv;cases hy.int_inv;rw[zqa,zqa]at hg;have g1:=E3 hg.1.1;have g2:m*te.bytes<=140737488355328:=E3 hg.1.2;have g3:=M3 hg.2;have hty:=hE.ti e te hte;have hb:=hty.pos g3;obtain⟨i,z,hi1,hi2,hi3,hi4,hzo⟩:=hty.info;have hzs:z.cells.size=te.size:=by have:=((hzo.rep W cx).cells hzo.und).1;simp at this;rw[this];exact hty.zsz
 have hm47:m<=140737488355328:=Nat.le_trans (zqj m hb) g2;have hrow:=Rw (W:=W) (cx:=cx) hzo hty.zsz g3 n (c:=madeCells z.cells (m*te.size)) (fun k hk=>rangeMap_get hzs g3 _ k (zqn hk (zqb _ g1)));rw[m6];refine⟨e,madeCells z.cells (m*te.size),_,?_,hrow.1,hrow.2,g1,by rw[size_madeCells]⟩;have hrun:=run_make (P:=P) W t e i z hd hi1 hi4 k1 k2 (n:Int) (m:Int) (by omega) (by omega) (by
  rw[hi3]
  have:(te.bytes:Int)*(m:Int)=((m*te.bytes:Nat):Int):=by rw[zqg];simp
  rw[this];omega) (by omega)
 rw[hi2]at hrun;simpa using hrun
structure AppIn(P:Program)(W:World)(argTypes:Array TypeId)(args:Array Value)(e:TypeId)(i:TypeInfo)(z:Value)(base:Option Addr)(sLen sCap n:Nat)(news:List Value):Prop where
 t:∃t,argTypes[0]?=some t/\P.underlying t=some (.slice e)
 s:args[0]?=some (.slice base sLen sCap)
 info:P.info? e=some i
 zero:i.zero=some z
 x:∃x tx d,args[1]?=some x/\argTypes[1]?=some tx/\P.underlying tx=some d/\
  (((∀k,d≠.int k)/\(∃a c,x=.slice a n c)/\∀W':World,W'.heap=W.heap->(Builtin.firstCells i.size n x).run P W'=.ok news.toArray W')\/
   (∃k,d=.int k/\(∃k',x=.int k' (n:Int))/\n*i.bytes<=140737488355328/\n<=140737488355328/\(if n*i.size=0 then []else(Builtin.zeroCells z.cells n).toList)=news))
theorem Pv{argTypes:Array TypeId}{ty:TypeId}{args:Array Value}{e:TypeId}{i:TypeInfo}{z:Value}{base:Option Addr}{sLen sCap n:Nat}{news:List Value}
 (ha:AppIn P W argTypes args e i z base sLen sCap n news)(hroom:sLen+n<=sCap){W':World}
 (hst:∀a,base=some a->(storeCells (a.add (sLen*i.size)) news).run P W=.ok () W')(hnone:base=none->W'=W):
 (Builtin.append_ argTypes ty args).run P W=.ok (.slice base (sLen+n) sCap) W':=by
 obtain⟨t,ht1,ht2⟩:=ha.t;obtain⟨x,tx,d,hx1,hx2,hx3,hx4⟩:=ha.x;have r1:∀W:World,(underlying t).run P W=.ok (.slice e) W:=fun W=>A4 ht2
 have r2:∀W:World,(underlying tx).run P W=.ok d W:=fun W=>A4 hx3
 have r3:∀W:World,(typeInfo e).run P W=.ok i W:=fun W=>by simp[typeInfo,ha.info]
 have r4:∀W:World,(sizeOf e).run P W=.ok i.size W:=fun W=>by simp[sizeOf,r3]
 have r5:∀W:World,(zeroValue e).run P W=.ok z W:=fun W=>by simp[zeroValue,r3,ha.zero]
 rcases hx4 with⟨hd,⟨a,c,rfl⟩,hf⟩|⟨k,rfl,⟨k',rfl⟩,hb,hn,hz⟩
 . have hm:(match d with | .int _=>true|_=>false)=false:=by simp_all
   have hf:=hf W rfl;cases base with
   | none =>
    have:=hnone rfl
    subst this;simp[Builtin.append_,ht1,ha.s,hx1,hx2,r1,r2,r4,hm,Builtin.lenOf,hroom,hf]
   | some a0 =>
    have:=hst a0 rfl
    simp[Builtin.append_,ht1,ha.s,hx1,hx2,r1,r2,r4,hm,Builtin.lenOf,hroom,hf,this]
 . have c0:¬((n:Int)<0):=by omega
   have w1:IntKind.i64.wrap (n:Int)=(n:Int):=by rw[IntKind.wrap_i64];omega
   have c3:¬(281474976710656<(n:Int)*(i.bytes:Int)):=by
    grind
   cases base with
   | none =>
    have:=hnone rfl
    subst this;by_cases h0:n*i.size=0
    . simp[Builtin.append_,ht1,ha.s,hx1,hx2,r1,r2,r3,r4,hroom,asInt,asIntOf,w1,c0,c3,h0]
    . simp[Builtin.append_,ht1,ha.s,hx1,hx2,r1,r2,r3,r4,r5,hroom,asInt,asIntOf,w1,c0,c3,h0]
   | some a0 =>
    have:=hst a0 rfl
    by_cases h0:n*i.size=0
    . rw[if_pos h0]at hz;subst hz
      simp[Builtin.append_,ht1,ha.s,hx1,hx2,r1,r2,r3,r4,hroom,asInt,asIntOf,w1,c0,c3,h0,this]
    . rw[if_neg h0]at hz;subst hz
      simp[Builtin.append_,ht1,ha.s,hx1,hx2,r1,r2,r3,r4,r5,hroom,asInt,asIntOf,w1,c0,c3,h0,this]
theorem fH{argTypes:Array TypeId}{ty:TypeId}{args:Array Value}{e:TypeId}{i:TypeInfo}{z:Value}{base:Option Addr}{sLen sCap n:Nat}{olds news:List Value}
 (ha:AppIn P W argTypes args e i z base sLen sCap n news)(hold:∀W':World,W'.heap=W.heap->(Builtin.firstCells i.size sLen (.slice base sLen sCap)).run P W'=.ok olds.toArray W')(hroom:sCap<sLen+n)(h63:sLen+n<=9223372036854775807)(hfit:(sLen+n)*i.bytes<=140737488355328):
 (Builtin.append_ argTypes ty args).run P W=.ok (.slice (some ⟨W.heap.size,0,none⟩) (sLen+n) (grownCap W (sLen+n) sCap e))
   (W.drew.alloc (.cells (olds.toArray++news.toArray++Builtin.zeroCells z.cells (grownCap W (sLen+n) sCap e-(sLen+n))) e)):=by
 obtain⟨t,ht1,ht2⟩:=ha.t;obtain⟨x,tx,d,hx1,hx2,hx3,hx4⟩:=ha.x;have r1:∀W:World,(underlying t).run P W=.ok (.slice e) W:=fun W=>A4 ht2
 have r2:∀W:World,(underlying tx).run P W=.ok d W:=fun W=>A4 hx3
 have r3:∀W:World,(typeInfo e).run P W=.ok i W:=fun W=>by simp[typeInfo,ha.info]
 have r4:∀W:World,(sizeOf e).run P W=.ok i.size W:=fun W=>by simp[sizeOf,r3]
 have r5:∀W:World,(zeroValue e).run P W=.ok z W:=fun W=>by simp[zeroValue,r3,ha.zero]
 have hn:¬(sLen+n<=sCap):=by omega
 have h63':¬(9223372036854775807<((sLen:Int)+(n:Int))):=by omega
 have h48':¬(281474976710656<Builtin.nextslicecap (sLen+n) sCap*i.bytes):=by simp_all[growslice_fits]
 have ho:=hold W.drew rfl;rcases hx4 with⟨hd,⟨a,c,rfl⟩,hf⟩|⟨k,rfl,⟨k',rfl⟩,hb,hnn,hz⟩
 . have hm:(match d with | .int _=>true|_=>false)=false:=by simp_all
   have hf:=hf W.drew rfl;simp[Builtin.append_,ht1,ha.s,hx1,hx2,r1,r2,r3,r4,r5,Builtin.lenOf,hn,h63',h48',Question.forced,hf,ho,newRow,grownCap];grind
 . have c0:¬((n:Int)<0):=by omega
   have w1:IntKind.i64.wrap (n:Int)=(n:Int):=by rw[IntKind.wrap_i64];omega
   have c3:¬(281474976710656<(n:Int)*(i.bytes:Int)):=by
    grind
   by_cases h0:n*i.size=0
   . rw[if_pos h0]at hz;subst hz
     simp[Builtin.append_,ht1,ha.s,hx1,hx2,r1,r2,r3,r4,r5,hn,h63',h48',Question.forced,ho,newRow,grownCap,asInt,asIntOf,w1,c0,c3,h0]
   . rw[if_neg h0]at hz;subst hz
     simp[Builtin.append_,ht1,ha.s,hx1,hx2,r1,r2,r3,r4,r5,hn,h63',h48',Question.forced,ho,newRow,grownCap,asInt,asIntOf,w1,c0,c3,h0]
theorem bH(w:World)(need old:Nat)(e:TypeId):need<=grownCap w need old e:=by
 simp_all[grownCap,Question.cut]
theorem Bo(hE:EnvOk E P)(hs:Sat E W cx h){e:Nat}{te:TI}(hte:E.ti e=some te){argTypes:Array TypeId}{ty:TypeId}{args:Array Value}{t tx:Nat}{dx:TypeDesc}
 (ht1:argTypes[0]?=some t)(ht2:P.underlying t=some (.slice e))(hx2:argTypes[1]?=some tx)(hx3:P.underlying tx=some dx)
 {sv xv:Value}{s r:AV}(ha1:args[0]?=some sv)(ha2:args[1]?=some xv)(hsv:Rep W cx sv s){xs:List AV}{us:List Value}(hur:RowRep W cx us xs te.size)
 (hx:((∀k,dx≠.int k)/\(∃a c,xv=.slice a xs.length c)/\∀W':World,W'.heap=W.heap->(Builtin.firstCells te.size xs.length xv).run P W'=.ok us.toArray W')\/
   (∃k,dx=.int k/\(∃k',xv=.int k' (xs.length:Int))/\xs.length*te.bytes<=140737488355328/\xs.length<=140737488355328/\∀z i,P.info? e=some i->i.zero=some z->(if xs.length*te.size=0 then []else(Builtin.zeroCells z.cells xs.length).toList)=us))
 (hone:Ww us) (hpos:0<te.bytes) {h':Heap} (hnl:s≠.nilsl\/xs=[]) (hap:I2 te s xs h=some (r,h')):
 ∃v W' cx',(Builtin.append_ argTypes ty args).run P W=.ok v W'/\Ext W cx W' cx'/\Sat E W' cx' h'/\Rep W' cx' v r:=by
 have hty:=hE.ti e te hte;obtain⟨i,z,hi1,hi2,hi3,hi4,hzo⟩:=hty.info;have mkIn:∀{base:Option Addr}{sLen sCap:Nat},sv=.slice base sLen sCap->AppIn P W argTypes args e i z base sLen sCap xs.length us:=by
  intro base sLen sCap hsv';refine⟨⟨t,ht1,ht2⟩,hsv'▸ha1,hi1,hi4,⟨xv,tx,dx,ha2,hx2,hx3,?_⟩⟩;grind
 have grow:∀{base:Option Addr}{sLen sCap:Nat}{olds:List Value}{es:List AV}{h0:Heap},sv=.slice base sLen sCap->Sat E W cx h0->h0.next=h.next ->
  (∀W':World,W'.heap=W.heap->(Builtin.firstCells te.size sLen (.slice base sLen sCap)).run P W'=.ok olds.toArray W')->RowRep W cx olds es te.size->es.length=sLen ->
  sCap<sLen+xs.length->(sLen+xs.length)*te.bytes<=140737488355328->r=.msl h.next 0 (sLen+xs.length) te.size->h'=h0.push (.row (es++xs) te.size) ->
  ∃v W' cx',(Builtin.append_ argTypes ty args).run P W=.ok v W'/\Ext W cx W' cx'/\Sat E W' cx' h'/\Rep W' cx' v r:=by
  intro base sLen sCap olds es h0 hsv' hs0 hnx hold hor hel hroom hfit hr hh;have h63:sLen+xs.length<=9223372036854775807:=by
   have:=zqj (sLen+xs.length) hpos;omega
  have hrun:=fH (ty:=ty) (mkIn hsv') (hi2.symm▸hold) hroom h63 (hi3▸hfit);have he1:Ext W cx W.drew cx:=Ext.of_heap rfl ⟨rfl,rfl,rfl⟩;have hs1:Sat E W.drew cx h0:=hs0.mono rfl;have hrow:=(hor.append hur).mono he1;have hge:=bH W (sLen+xs.length) sCap e;have hzs:z.cells.size=te.size:=by have:=((hzo.rep W cx).cells hzo.und).1;simp at this;rw[this];exact hty.zsz
  have hcsz:(olds.toArray++us.toArray++Builtin.zeroCells z.cells (grownCap W (sLen+xs.length) sCap e-(sLen+xs.length))).size=grownCap W (sLen+xs.length) sCap e*te.size:=by
   have h1:=hor.len;have h2:=hur.len;simp only[Array.size_append,List.size_toArray,Builtin.zeroCells,Array.size_map,Array.size_range,hzs,h1,h2,hel];rw[<-zqe,<-zqe]
   congr 1;omega
  obtain ⟨cx',k1,k2,k3⟩:=Ts hs1 (t:=e) (n:=sLen+xs.length) (cap:=grownCap W (sLen+xs.length) sCap e) hrow
   (c:=olds.toArray++us.toArray++Builtin.zeroCells z.cells (grownCap W (sLen+xs.length) sCap e-(sLen+xs.length)))
   (by grind)
   (by rw[hcsz,zke,hel];exact zqb _ hge) hge (by rw[hcsz];exact zqc _)
  refine⟨_,_,cx',hrun,he1.trans k1,?_,?_⟩
  . grind
  simp_all
 cases hxs:xs with
 | nil =>
  subst hxs;have hu0:us=[]:=zqt (by have:=hur.len;grind);have same:r=s->h'=h->∀{base:Option Addr}{sLen sCap:Nat},sv=.slice base sLen sCap->sLen<=sCap ->
   ∃v W' cx',(Builtin.append_ argTypes ty args).run P W=.ok v W'/\Ext W cx W' cx'/\Sat E W' cx' h'/\Rep W' cx' v r:=by
   intro hr hh base sLen sCap hsv' hlc;have hrun:=Pv (ty:=ty) (mkIn hsv') (by grind) (W':=W) (fun a _=>by rw[hu0];rfl) (fun _=>rfl);refine⟨_,W,cx,hrun,Ext.refl _ _,by rw[hh];exact hs,?_⟩;rw[hr];simp only[List.length_nil,zqh];rw[<-hsv'];exact hsv
  cases s with
  | fsl es f =>
   have hap:=Option.some.inj hap;simp only[Prod.mk.injEq]at hap;obtain⟨ad,cap,vs,sz,e1,e2,_⟩:=Be (P:=P) hs hsv (rfl:elems (.fsl es f) h=some es);exact same hap.1.symm hap.2.symm e1 e2
  | msl id off n sz =>
   have hap:=Option.some.inj hap;simp only[Prod.mk.injEq]at hap;cases hsv with
   |msl ad n cap id off sz hid hz hb hc ha hnn=>grind
  | nilsl =>
   have hap:=Option.some.inj hap;simp only[Prod.mk.injEq]at hap;cases hsv with
   |nilsl=>grind
  |_=>cases hap
 | cons x0 xr =>
  rw[hxs]at hap;cases s with
  | fsl es full =>
   have hap:Au te es full (x0::xr) h=some (r,h'):=hap;rw[Jn]at hap;rw[C9]at hap;obtain⟨hg,hap⟩:=B0 hap;rw[<-hxs]at hg hap;rw[zqa,zqa,A9,A9]at hg;obtain⟨⟨g1,g2⟩,g3⟩:=hg;have g2:(es.length+xs.length)*te.bytes<=140737488355328:=E3 g2;simp only[Option.some.injEq,Prod.mk.injEq,A9,Q0]at hap;obtain⟨ad,cap,vs,sz,e1,e2,hrow,hfc⟩:=Be (P:=P) hs hsv (rfl:elems (.fsl es full) h=some es);have hcap:cap=es.length:=by
    have key:∀{v:Value},Rep W cx v (.fsl es full)->v=.slice ad es.length cap->cap=es.length:=by
     intro v hv he;cases hv with
     |fsl ad' b o n cap' es' full' sz' g hn hc hf ha hsz hcell hone hrep _=>grind
    grind
   have hall:∀e∈es,e.cells.length=te.size:=by
    intro e' he';obtain⟨k,hk⟩:=zqy he';cases es with
    |nil=>simp at he'
    | cons e0 r0 =>
     have g3:Nat.beq (lenL e0.cells) te.size=true:=g3;rw[A9]at g3;rw[hrow.size k e' hk,<-hrow.size 0 e0 rfl];simp_all
   have hrow':RowRep W cx vs es te.size:=by
    cases es with
    |nil=>exact⟨by have:=hrow.len;grind,by simp,by simp⟩
    | cons e0 r0 =>
     have:sz=te.size:=by rw[<-hrow.size 0 e0 rfl];grind
     grind
   have hne:0<xs.length:=by grind
   refine grow e1 hs rfl (fun W' hW'=>?_) hrow' rfl (by omega) g2 hap.1.symm hap.2.symm
   have:=hfc W' hW' es.length te.size (zqc _) hall
   rw[<-hrow.len,List.take_length,e1]at this;exact this
  | msl id off n sz =>
   have hap:h.onRow id none (Ks te id off n (x0::xr) h)=some (r,h'):=hap;obtain⟨es,sz',hg0,hap⟩:=Heap.onRow_some hap;rw[Sv]at hap;rw[C9]at hap;obtain⟨hg,hap⟩:=B0 hap;rw[<-hxs]at hg hap;rw[zqa,zqa,A9,A9]at hg;obtain⟨⟨g1,g2⟩,g3⟩:=hg;have g1:off+n<=es.length:=E3 g1;have g2:=E5 g2;have g3:(n+xs.length)*te.bytes<=140737488355328:=E3 g3;subst g2;simp only[Option.some.injEq,Prod.mk.injEq,A9,Q0,K6,K5]at hap;obtain⟨_,hown,hblk,hobj⟩:=hs.objs id _ hg0;have hel:elems (.msl id off n sz) h=some ((es.drop off).take n):=by
    show h.onRow id none _=_
    unfold Heap.onRow;rw[hg0];show(bif Nat.ble (Nat.add off n) (lenL es)then some (Es (Er es off) n)else none)=_
    simp_all[Nat.ble_eq_true_of_le,A9,K6,K5]
   have hlen:((es.drop off).take n).length=n:=by grind
   obtain ⟨ad,cap,vs,sz1,e1,e2,hrow,hfc⟩:=Be (P:=P) hs hsv hel;obtain⟨h1,c,t',hh,hfit,hrow0⟩:=hobj.row;have hall:∀e∈(es.drop off).take n,e.cells.length=te.size:=by
    intro e' he';have hm:e'∈es:=(by grind)
    obtain⟨k,hk⟩:=zqy hm;exact hrow0.size k e' hk
   have hne:0<xs.length:=by grind
   rw[hlen]at e1 e2;by_cases hroom:n+xs.length<=cap
   . -- in place
     have hsz:sz=te.size:=by
      rw[e1]at hsv;cases hsv with
      |msl ad n cap id off sz hid hz hb hc ha hnn=>grind
     have hadr:ad=some ⟨(cx.μ id).1,(cx.μ id).2.1+off*te.size,none⟩/\(cx.μ id).2.1+(off+cap)*te.size<=c.size:=by
      rw[e1]at hsv;cases hsv with
      | msl ad n cap id off sz hid hz hb hc ha hnn =>
       grind[szOf]
     obtain⟨rfl,hcapfit⟩:=hadr;have hul:=hur.len;have hroom':=zqb te.size (show off+(n+xs.length)<=off+cap by omega);have e5:(off+(n+xs.length))*te.size=off*te.size+n*te.size+xs.length*te.size:=by grind
     have hst:=x8 (P:=P) us ((cx.μ id).2.1+off*te.size+n*te.size) 0 c W hh hone (by grind);have hrun:=Pv (ty:=ty) (mkIn e1) hroom (W':=setBlock W (cx.μ id).1 (.cells (putC c ((cx.μ id).2.1+off*te.size+n*te.size) us) t' (0,0)))
      (fun a ha=>by cases ha;rw[add_addr,hi2];exact hst) (fun h=>by cases h)
     have hext:Ext W cx (setBlock W (cx.μ id).1 (.cells (putC c ((cx.μ id).2.1+off*te.size+n*te.size) us) t' (0,0))) cx:=
      Ext.set _ hown (hs.free _ _ hg0) (fun c0 t0 f0 e=>by rw[hh]at e;cases e;exact⟨_,_,_,rfl,v7 _ _ _⟩) (fun hn=>absurd hh (hn _ _ _))
     have hext2:=hext.move (cx.μ id).1 ((cx.μ id).2.1+off*te.size) te.size;refine⟨_,_,_,hrun,hext2,?_,?_⟩
     . rw [<-hap.2]
       refine hs.move hext hg0 _ ((cx.μ id).2.1+off*te.size) te.size (by grind[Go.AM.setBlock_ne]) ?_;refine Q1.mk (t:=t') (c:=putC c ((cx.μ id).2.1+off*te.size+n*te.size) us) rfl (Ba W _ hblk) ?_ (fun k v hk=>?_) ((((hrow0.drop off).take n).append hur).mono hext2)
       . rw[v7,zke,hlen]
         grind
       . show(putC c ((cx.μ id).2.1+off*te.size+n*te.size) us)[(cx.μ id).2.1+off*te.size+k]?=some v
         rw[Li (by grind)];have hl1:=((hrow0.drop off).take n).len;rw[hlen]at hl1;rw[zqq]at hk;grind
     . rw[<-hap.1]
       have hid:h.next<(cx.move (cx.μ id).1 ((cx.μ id).2.1+off*te.size) te.size).nx:=by rw[hs.nx];exact zqi _
       have hm:=Cx.move_new cx (cx.μ id).1 ((cx.μ id).2.1+off*te.size) te.size;rw[<-hs.nx]at hm;refine .msl _ (n+xs.length) cap h.next 0 te.size hid (by rw[hm]) (by grind[In]) hroom (fun _=>⟨by grind,?_⟩) (by simp);rw[hm];show(cx.μ id).2.1+off*te.size+(0+cap)*te.size<=szOf _ (cx.μ id).1
       rw[hext.shape _ hblk];grind[szOf]
   . have hrow':RowRep W cx vs ((es.drop off).take n) te.size:=by
      refine⟨?_,(by grind),fun k e' j c' hk hj=>?_⟩
      . rcases zqk n with h0|h0
        . have:=hrow.len;grind
        . have hlt:0<((es.drop off).take n).length:=by omega
          have e3:=zqo hlt
          have:sz1=te.size:=by rw[<-hrow.size 0 _ e3];grind
          rw[<-this];exact hrow.len
      . have:sz1=te.size:=by rw[<-hrow.size k e' hk];grind
        rw[<-this];exact hrow.cell k e' j c' hk hj
     refine grow (h0:=h.del id) e1 (hs.del id) rfl (fun W' hW'=>?_) hrow' hlen (by omega) g3 hap.1.symm hap.2.symm
     have:=hfc W' hW' n te.size (by rw[hlen];exact zqc _) hall
     have hl2:=hrow.len;grind
  |nilsl=>grind
  |_=>cases hap
theorem Lj(hE:EnvOk E P)(hs:Sat E W cx h){e:Nat}{te:TI}(hte:E.ti e=some te){argTypes:Array TypeId}{ty:TypeId}{args:Array Value}{t tx:Nat}{dx:TypeDesc}
 (ht1:argTypes[0]?=some t)(ht2:P.underlying t=some (.slice e))(hx2:argTypes[1]?=some tx)(hx3:P.underlying tx=some dx)
 {sv xv:Value}{s r:AV}(ha1:args[0]?=some sv)(ha2:args[1]?=some xv)(hsv:Rep W cx sv s){xs:List AV}{us:List Value}(hur:RowRep W cx us xs te.size)
 (hx:((∀k,dx≠.int k)/\(∃a c,xv=.slice a xs.length c)/\∀W':World,W'.heap=W.heap->(Builtin.firstCells te.size xs.length xv).run P W'=.ok us.toArray W')\/
   (∃k,dx=.int k/\(∃k',xv=.int k' (xs.length:Int))/\xs.length*te.bytes<=140737488355328/\xs.length<=140737488355328/\∀z i,P.info? e=some i->i.zero=some z->(if xs.length*te.size=0 then []else(Builtin.zeroCells z.cells xs.length).toList)=us))
 (hone:Ww us) (hpos:0<te.bytes) {h':Heap} (hap:I2 te s xs h=some (r,h')):
 ∃v W' cx',(Builtin.append_ argTypes ty args).run P W=.ok v W'/\Ext W cx W' cx'/\Sat E W' cx' h'/\Rep W' cx' v r:=by
 by_cases hn:s=.nilsl
 . subst hn
   by_cases hx0:xs=[]
   . exact Bo hE hs hte ht1 ht2 hx2 hx3 ha1 ha2 hsv hur hx hone hpos (.inr hx0) hap
   . have e:I2 te .nilsl xs h=I2 te (.fsl [] true) xs h:=by
      cases xs with
      |nil=>grind
      |cons x xs=>rfl
     rw[e]at hap;exact Bo hE hs hte ht1 ht2 hx2 hx3 ha1 ha2 hsv.nil_fsl hur hx hone hpos (.inl (by simp)) hap
 . exact Bo hE hs hte ht1 ht2 hx2 hx3 ha1 ha2 hsv hur hx hone hpos (.inl hn) hap
end
end Go.AM
/-
 The abstract machine: copy,len,max,min; maps.
-/
namespace Go.AM
section
variable {P:Program}{E:Env}{W:World}{cx:Cx}{h:Heap}
theorem RowRep.oneL{vs:List Value}{es:List AV}{sz:Nat}(hr:RowRep W cx vs es sz):Ww vs:=by
 intro v hv;obtain⟨k,hk⟩:=zqy hv;have hkl:=V7 hk;rw[hr.len]at hkl;have hsp:0<sz:=by
  grind
 have hi:k/sz<es.length:=by simp_all[zql]
 have hj:k%sz<sz:=zqf _ hsp;have e1:=zqo hi;have hj':k%sz<es[k/sz].cells.length:=by rw[hr.size _ _ e1];exact hj
 obtain⟨u,h1,h2,_⟩:=hr.cell (k/sz) _ (k%sz) _ e1 (zqo hj');grind[zqm]
theorem pN(hE:EnvOk E P)(hs:Sat E W cx h){t:Nat}{ti:TI}(ht:E.ti t=some ti){argTypes:Array TypeId}{ty:TypeId}{args:Array Value}(ht1:argTypes[0]?=some t){xv:Value}{x:AV}(ha1:args[0]?=some xv)
 (hxv:Rep W cx xv x){n:Nat}(hl:jP ti.desc x h=some n):(Builtin.len_ argTypes ty args).run P W=.ok (goInt (n:Int)) W:=by
 have hd:=(hE.ti t ti ht).desc;unfold J1 at hd;cases hk:ti.desc with
 | string =>
  rw[hk]at hl hd;have r1:∀W:World,(underlying t).run P W=.ok .string W:=fun W=>A4 hd
  obtain⟨l,e,hl⟩:=K8 (v:=x) hl;subst e;cases hl;obtain⟨s,rfl,hsl⟩:=hxv.str_inv
  have:s.size=o8 l:=by rw[u3,<-hsl];exact zkg.symm
  simp[Builtin.len_,ht1,ha1,r1,this]
 | slice e =>
  rw[hk]at hl hd;have r1:∀W:World,(underlying t).run P W=.ok (.slice e) W:=fun W=>A4 hd
  cases hxv with
  | fsl ad b o n' cap es full sz g hn hc hf ha hsz hcell hone hrep hnn =>
   have hl:some (lenL es)=some n:=hl;simp_all[Builtin.len_,A9]
  | nilsl =>
   have hl:some 0=some n:=hl;simp_all[Builtin.len_]
  | msl ad n' cap id off sz hid hz hb hc ha hnn =>
   have hl:some n'=some n:=hl;cases hl;simp[Builtin.len_,ht1,ha1,r1]
  |_=>cases hl
 | map k e =>
  rw[hk]at hl hd;have r1:∀W:World,(underlying t).run P W=.ok (.map k e) W:=fun W=>A4 hd
  cases hxv with
  | nilmap =>
   have hl:some 0=some n:=hl;cases hl;simp[Builtin.len_,ht1,ha1,r1]
  | map id hid hb =>
   have hl:h.onMapo id none (fun es=>some (pA es))=some n:=hl;obtain⟨es,hg,hl⟩:=Heap.onMapo_some hl;cases hl;obtain⟨_,_,_,ents,clock,l,h1,hp,h2,_⟩:=hs.objs id _ hg;have h2:ents.size=es.length:=by have:=hp.length_eq;grind
   simp_all[getObj,Sem.run,Builtin.len_,Ru]
  |_=>cases hl
 |_=>rw[hk]at hl;cases hl
theorem Yo:∀{l:List AV}{vs:List Value}{x r:AV}{xv:Value},RepL W cx vs l->Rep W cx xv x->Nb l x=some r->∃v,(vs.foldlM Builtin.max2 xv).run P W=.ok v W/\Rep W cx v r
 | [],vs,x,r,xv,hl,hx,h=>by
  have:vs=[]:=zqt (by have:=hl.1;grind)
  subst this;cases h;simp_all
 | y :: l,vs,x,r,xv,hl,hx,h=>by
  obtain⟨k,a,e,h⟩:=D4 (v:=x) h;obtain⟨k',b,e',h'⟩:=D4 (v:=y) (f:=fun _ b=>Nb l (.int k (bif intLe b a then a else b))) h;subst e e';cases vs with
  |nil=>have:=hl.1;simp at this
  | cons u vs =>
   cases hx.int_inv;cases (hl.2 0 u _ rfl rfl).int_inv;have hm:(Builtin.max2 (.int k a) (.int k' b)).run P W=.ok (.int k (bif intLe b a then a else b)) W:=by
    rw[S6];by_cases hba:b<=a
    . have:¬b>a:=by omega
      simp[Builtin.max2,hba,this]
    . have:b>a:=by omega
      simp[Builtin.max2,hba,this]
   obtain⟨v,h1,h2⟩:=Yo (vs:=vs) (xv:=.int k (bif intLe b a then a else b)) ⟨by have:=hl.1;grind,fun i v c h1 h2=>hl.2 (i+1) v c (by grind) (by grind)⟩ (.int _ _) h';simp_all
theorem Yp:∀{l:List AV}{vs:List Value}{x r:AV}{xv:Value},RepL W cx vs l->Rep W cx xv x->Qq l x=some r->∃v,(vs.foldlM Builtin.min2 xv).run P W=.ok v W/\Rep W cx v r
 | [],vs,x,r,xv,hl,hx,h=>by
  have:vs=[]:=zqt (by have:=hl.1;grind)
  subst this;cases h;simp_all
 | y :: l,vs,x,r,xv,hl,hx,h=>by
  obtain⟨k,a,e,h⟩:=D4 (v:=x) h;obtain⟨k',b,e',h'⟩:=D4 (v:=y) (f:=fun _ b=>Qq l (.int k (bif intLe a b then a else b))) h;subst e e';cases vs with
  |nil=>have:=hl.1;simp at this
  | cons u vs =>
   cases hx.int_inv;cases (hl.2 0 u _ rfl rfl).int_inv;have hm:(Builtin.min2 (.int k a) (.int k' b)).run P W=.ok (.int k (bif intLe a b then a else b)) W:=by
    rw[S6];by_cases hba:a<=b
    . have:¬b<a:=by omega
      simp[Builtin.min2,hba,this]
    . have:b<a:=by omega
      simp[Builtin.min2,hba,this]
   obtain⟨v,h1,h2⟩:=Yp (vs:=vs) (xv:=.int k (bif intLe a b then a else b)) ⟨by have:=hl.1;grind,fun i v c h1 h2=>hl.2 (i+1) v c (by grind) (by grind)⟩ (.int _ _) h';simp_all
end
end Go.AM
/-
 The abstract machine: maps.
-/
namespace Go.AM
section
variable {P:Program}{E:Env}{W:World}{cx:Cx}{h:Heap}
end
end Go.AM
