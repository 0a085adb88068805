/- The abstract machine, part two: each operation on values, rows, slices and maps is sound. Conditions: none. -/
import Derived.Test.YtnglooakgahhhaaAmOne
import Derived.Laws.Append
import Derived.Laws.Tables
import Derived.Laws.MakeOwn
set_option linter.unusedVariables false
set_option linter.unusedSectionVars false
set_option linter.unusedSimpArgs false
/-
 The abstract machine: rows of elements,as cells; what is read out of them,and written into them.
set_option maxHeartbeats 4000000
-/
open Option renaming some→zs,none→zn
open Bool renaming true→zt,false→zf
open Bool renaming and_eq_true→zqa
open Nat renaming mul_le_mul_right→zqb,le_refl→zqc,add_mul→zqd,add_assoc→zqe,mod_lt→zqf,mul_comm→zqg,eq_zero_or_pos→zqh,add_zero→zqi,lt_succ_self→zqj,le_mul_of_pos_right→zqk,div_lt_iff_lt_mul→zql,div_add_mod'→zqm,lt_of_lt_of_le→zqn,ble_eq_true_of_le→zqo
open List renaming getElem?_eq_getElem→zqp,getElem?_append→zqq,range→zqr,getElem?_take→zqs,getElem?_drop→zqt,getElem?_map→zqu,mem_cons_self→zqv,eq_nil_of_length_eq_zero→zqw,mem_of_getElem?→zqx,length_take→zqy,getElem?_of_mem→zqz,length_drop→zka,getElem?_range→zkb,getElem?_set_self→zkc,getElem?_set_ne→zkd,ext_getElem?→zke,length_append→zkf
open Array renaming range→zkg,length_toList→zkh
namespace Go.AM
structure RowRep(W:World)(cx:Cx)(vs:List Value)(es:List AV)(sz:Nat):Prop where
 len:vs.length=es.length*sz
 size:∀(i:Nat) e,es[i]?=zs e->e.cells.length=sz
 cell:∀(i:Nat) e (j:Nat) c,es[i]?=zs e->e.cells[j]?=zs c->∃v,vs[i*sz+j]?=zs v/\v.oneC=zt/\Rep W cx v c
section
variable {W:World}{cx:Cx}
theorem V5{α:Type}{l:List α}{i:Nat}{a:α}(h:l[i]?=zs a):i<l.length:=by
 grind
theorem Zl{i j n sz:Nat}(hi:i<n)(hj:j<sz):i*sz+j<n*sz:=by
 have:=zqb sz (show i+1<=n from hi)
 grind
theorem RowRep.mono{W':World}{cx':Cx}(A:Ext W cx W' cx'){vs:List Value}{es:List AV}{sz:Nat}(h:RowRep W cx vs es sz):RowRep W' cx' vs es sz:=
 ⟨h.len,h.size,fun i e j c h1 h2=>let⟨v,a,b,r⟩:=h.cell i e j c h1 h2;⟨v,a,b,r.mono A⟩⟩
theorem RowRep.append{vs vs':List Value}{es es':List AV}{sz:Nat}(h:RowRep W cx vs es sz)(h':RowRep W cx vs' es' sz):RowRep W cx (vs++vs') (es++es') sz where
 len:=by simp[h.len,h'.len,zqd]
 size i e hi:=by
  rw[zqq]at hi;split at hi
  . exact h.size _ _ hi
  . exact h'.size _ _ hi
 cell i e j c hi hj:=by
  have hsz:e.cells.length=sz:=by
   rw[zqq]at hi;split at hi
   . exact h.size _ _ hi
   . exact h'.size _ _ hi
  have A:=V5 hj;rw[hsz]at A;rw[zqq]at hi;split at hi
  . rename_i hl
    obtain⟨v,a,b,r⟩:=h.cell i e j c hi hj;grind
  . rename_i hl
    obtain ⟨v,a,b,r⟩:=h'.cell _ e j c hi hj;refine⟨v,?_,b,r⟩;have e1:i*sz+j=vs.length+((i-es.length)*sz+j):=by
     rw[h.len,Nat.sub_mul]
     have:=zqb sz (show es.length<=i by omega)
     omega
    grind
theorem RowRep.one{us:List Value}{a:AV}{sz:Nat}(h:RepL W cx us a.cells)(h1:Vj us)(A:a.cells.length=sz):RowRep W cx us [a] sz where
 len:=by simp[h.1,A]
 size i e hi:=by
  grind
 cell i e j c hi hj:=by
  cases i with
  |zero=>
   simp at hi;subst hi;obtain⟨v,B,r⟩:=h.get hj;exact⟨v,by grind,h1 v (zqx B),r⟩
  |succ i=>simp at hi
theorem RowRep.take{vs:List Value}{es:List AV}{sz:Nat}(h:RowRep W cx vs es sz)(n:Nat):RowRep W cx (vs.take (n*sz)) (es.take n) sz where
 len:=by
  rw[zqy,zqy,h.len,Nat.mul_min_mul_right]
 size i e hi:=by
  rw[zqs]at hi;split at hi
  . exact h.size i e hi
  . cases hi
 cell i e j c hi hj:=by
  rw[zqs]at hi;split at hi
  . rename_i hin
    obtain⟨v,a,b,r⟩:=h.cell i e j c hi hj;have A:=V5 hj;rw[h.size i e hi]at A;simp_all[Zl]
  . cases hi
theorem RowRep.drop{vs:List Value}{es:List AV}{sz:Nat}(h:RowRep W cx vs es sz)(n:Nat):RowRep W cx (vs.drop (n*sz)) (es.drop n) sz where
 len:=by rw[zka,zka,h.len,Nat.sub_mul]
 size i e hi:=by rw[zqt]at hi;exact h.size _ e hi
 cell i e j c hi hj:=by
  rw[zqt]at hi;obtain⟨v,a,b,r⟩:=h.cell _ e j c hi hj;grind
theorem RowRep.set{vs:List Value}{es:List AV}{sz:Nat}(h:RowRep W cx vs es sz){us:List Value}{a:AV}(A:RowRep W cx us [a] sz){i:Nat}(hi:i<es.length):
 RowRep W cx (vs.take (i*sz)++(us++vs.drop ((i+1)*sz))) (es.set i a) sz:=by
 have e:es.set i a=es.take i++([a]++es.drop (i+1)):=by
  grind[List.set_eq_take_append_cons_drop]
 rw[e];exact(h.take i).append (A.append (h.drop (i+1)))
theorem N8.row{p:Nat×Nat×Nat}{es:List AV}{sz:Nat}(h:N8 W cx p (.row es sz)):
 p.2.2=sz/\∃(c:Array Value)(t:TypeId),W.heap[p.1]?=zs (.cells c t (0,0))/\p.2.1+es.length*sz<=c.size/\RowRep W cx ((c.toList.drop p.2.1).take (es.length*sz)) es sz:=by
 obtain⟨h1,c,t,g,h2,G,C,H⟩:=h;refine⟨h1,c,t,h2,G,⟨?_,C,fun i e j D hi B=>?_⟩⟩
 . grind
 . obtain⟨a,b,r⟩:=H i e j D hi B
   refine⟨g i j,?_,b,r⟩;have A:=V5 B;rw[C i e hi]at A;simp_all[zqs,Zl,V5,zqe]
theorem N8.mk{p:Nat×Nat×Nat}{es:List AV}{sz:Nat}{c:Array Value}{t:TypeId}{vs:List Value}(hz:p.2.2=sz)(hh:W.heap[p.1]?=zs (.cells c t (0,0)))
 (hfit:p.2.1+es.length*sz<=c.size)(hsub:∀(k:Nat) v,vs[k]?=zs v->c[p.2.1+k]?=zs v)(hr:RowRep W cx vs es sz):N8 W cx p (.row es sz):=by
 refine⟨hz,c,t,fun i j=>c.getD (p.2.1+i*sz+j) undef,hh,hfit,hr.size,fun i e j A hi B=>?_⟩;obtain⟨v,a,b,r⟩:=hr.cell i e j A hi B
 have:=hsub _ _ a
 rw[<-zqe]at this;simp_all
theorem On{P:Program}{t:Nat}{ti:TI}(D:TyOk P t ti){b o:Nat}{cs:List AV}{r:AV}{off:Nat}
 (hc:∀(j:Nat) c,cs[j]?=zs c->∃v,W.cell? ⟨b,o+j,zn⟩=zs v/\v.oneC=zt/\Rep W cx v c)(h:partOf ti cs off=zs r):
 ∃v,(loadVar t ⟨b,o+off,zn⟩).run P W=.ok v W/\Rep W cx v r:=by
 unfold partOf at h;have hi:=D.run_isAgg (W:=W);cases ha:r7 ti.desc with
 |false=>
  rw[ha]at h hi;rw[R2]at h;have h:cs[off]?=zs r:=h;obtain⟨v,h1,h2,G⟩:=hc off r h;simp_all[loadVar]
 |true=>
  rw[ha]at h hi;rw[A3,G3,G4]at h;cases hb:Nat.ble (Nat.add off ti.size) cs.length with
  |false=>grind
  |true=>
   rw[hb]at h;cases h;have hl:=B9 hb;have hl:off+ti.size<=cs.length:=hl;let f:Nat->Value:=fun j=>(W.cell? ⟨b,o+off+j,zn⟩).getD undef
   have hf:∀j,j<ti.size->W.cell? ((⟨b,o+off,zn⟩:Addr).add j)=zs (f j):=by
    intro j hj;have C:off+j<cs.length:=by omega
    obtain⟨v,h1,_,_⟩:=hc (off+j) _ (zqp C);grind[add_addr]
   have A:=run_loadCells (P:=P) W ⟨b,o+off,zn⟩ ti.size f hf;refine⟨.agg ((zqr ti.size).map f).toArray,?_,?_⟩
   . simp[loadVar,hi,D.run_sizeOf,A]
   . refine Rep.agg_mk ⟨by simp;omega,fun i v c h1 h2=>?_⟩
     have B:i<ti.size:=by have:=V5 h1;simpa using this
     rw[zqu,zkb B]at h1;simp at h1;rw[zqs,if_pos B,zqt]at h2;obtain⟨v',G,_,H⟩:=hc (off+i) c h2
     have:f i=v':=by simp only[f];rw[show o+off+i=o+(off+i) by omega,G];rfl
     rw[<-h1,this];exact H
theorem lN{i j sz:Nat}(hj:j<sz):(i*sz+j)/sz=i/\(i*sz+j)%sz=j:=by
 grind[zqg,Nat.mul_add_div,Nat.div_eq_of_lt,Nat.mul_add_mod,Nat.mod_eq_of_lt]
theorem Fw{P:Program}{a:Option Addr}{b o n cap m size sz:Nat}{vs:List Value}{k:Nat}(hl:vs.length=k*sz)(hm:m<=k)
 (ha:0<k->a=zs ⟨b,o,zn⟩/\size=sz)(hc:∀(j:Nat) v,vs[j]?=zs v->W.cell? ⟨b,o+j,zn⟩=zs v):
 (Builtin.firstCells size m (.slice a n cap)).run P W=.ok (vs.take (m*sz)).toArray W:=by
 cases zqh m with
 |inl h0=>
  subst h0;cases a<;>simp[Builtin.firstCells,loadCells,loadCellsFrom]
 |inr hp=>
  obtain⟨rfl,rfl⟩:=ha (by omega);grind[Builtin.firstCells,zqy,zqb,run_loadCells_list,add_addr]
theorem pC{W':World}(h:W'.heap=W.heap){a:Addr}:W'.cell? a=W.cell? a:=by unfold World.cell?;rw[h]
theorem Ld{P:Program}{E:Env}{h:Heap}(hs:Sat E W cx h){x:Value}{a:AV}{xs:List AV}(X:Rep W cx x a)(hnl:a≠.nilsl)(Y:elems a h=zs xs):
 ∃ (I:Option Addr) (cap:Nat) (vs:List Value) (sz:Nat),x=.slice I xs.length cap/\xs.length<=cap/\RowRep W cx vs xs sz/\
   ∀(W':World),W'.heap=W.heap->∀m size,m<=xs.length->(∀e∈xs,e.cells.length=size)->(Builtin.firstCells size m x).run P W'=.ok (vs.take (m*sz)).toArray W':=by
 cases X with
 |nilsl=>grind
 |fsl I b o n cap es full sz g hn hc hf ha hsz hcell hone hrep hnn=>
  have e0:es=xs:=Option.some.inj Y;clear Y;subst e0;let vs:List Value:=(zqr (n*sz)).map fun k=>g (k/sz) (k%sz)
  have A:vs.length=n*sz:=by simp[vs]
  have hget:∀(i j:Nat),i<n->j<sz->vs[i*sz+j]?=zs (g i j):=by
   grind[lN,Zl]
  refine⟨I,cap,vs,sz,by rw[hn],by omega,⟨by grind,hsz,fun i e j c h1 h2=>?_⟩,fun W' aa m size hm C=>?_⟩
  . grind
  . refine Fw (k:=n) (b:=b) (o:=o) A (by omega) (fun hp=>?_) (fun k v hk=>?_)
    . have ab:es≠[]:=(by grind)
      refine⟨(ha ab).1,?_⟩;cases es with
      |nil=>grind
      |cons e r=>rw[<-C e (zqv ..)];exact hsz 0 e rfl
    . have J:=V5 hk
      rw [A]at J;simp only[vs,zqu,zkb J,Option.map_some,Option.some.injEq]at hk;have ac:0<sz:=by
       grind
      have hi:k/sz<n:=by grind[zql]
      have hj:k%sz<sz:=zqf _ ac;have ae:k/sz<es.length:=by omega
      have e1:=zqp ae;have af:k%sz<es[k/sz].cells.length:=by grind
      have:=hcell (k/sz) _ (k%sz) _ e1 (zqp af)
      rw[show o+k/sz*sz+k%sz=o+k by rw[zqe,zqm]]at this;grind[pC]
 |msl I n cap id off sz hid hz hb hc ha hnn=>
  obtain⟨es,H,hg,X⟩:=Heap.onRow_some Y;cases D:Nat.ble (Nat.add off n) (lenL es)with
  |false=>grind
  |true=>
   rw[D]at X;cases X;rw[G4,G3];have G:=B9 D;rw[A3]at G;have G:off+n<=es.length:=G;obtain⟨_,_,_,U⟩:=hs.objs id _ hg;obtain⟨h1,c,t,hh,hfit,V⟩:=U.row
   have:H=sz:=by grind
   subst this;have B:=(V.drop off).take n;have A:((es.drop off).take n).length=n:=by grind
   refine⟨I,cap,_,H,by rw[A],by grind,B,fun W' aa m size hm C=>?_⟩;rw[A]at hm;have N:=B.len;rw[A]at N;refine Fw (k:=n) (b:=(cx.μ id).1) (o:=(cx.μ id).2.1+off*H) N hm (fun hp=>?_) (fun k v hk=>?_)
   . have O:cap≠0:=by omega
     refine⟨(ha O).1,?_⟩;have Q:0<((es.drop off).take n).length:=by omega
     have e1:=zqp Q;rw[<-C _ (List.getElem_mem Q)];exact B.size 0 _ e1
   grind[Nd]
 |_=>cases Y
theorem Z7{P:Program}{E:Env}{h:Heap}(A:Sat E W cx h){x:Value}{a:AV}{xs:List AV}(B:Rep W cx x a)(C:elems a h=zs xs):
 ∃ (D:Option Addr) (cap:Nat) (vs:List Value) (sz:Nat),x=.slice D xs.length cap/\xs.length<=cap/\RowRep W cx vs xs sz/\
   ∀(W':World),W'.heap=W.heap->∀m size,m<=xs.length->(∀e∈xs,e.cells.length=size)->(Builtin.firstCells size m x).run P W'=.ok (vs.take (m*sz)).toArray W':=by
 cases a with
 |nilsl=>exact Ld A B.nil_fsl (by simp) C
 |_=>exact Ld A B (by simp) C
end
end Go.AM
/-
 The abstract machine: operations on memory are sound.
-/
namespace Go.AM
def lsplice{α:Type}(l:List α)(p:Nat)(us:List α):List α:=l.take p++(us++l.drop (p+us.length))
theorem Oo{α:Type}{l:List α}{p:Nat}{us:List α}(h:p+us.length<=l.length)(k:Nat):
 (lsplice l p us)[k]?=if k<p then l[k]? else if k<p+us.length then us[k-p]? else l[k]?:=by
 grind[lsplice]
theorem R9{α:Type}{l:List α}{p:Nat}{us:List α}(h:p+us.length<=l.length):(lsplice l p us).length=l.length:=by
 grind[lsplice]
theorem U4(cs:List AV)(off:Nat)(new:List AV):O7 cs off new=lsplice cs off new:=by
 grind[O7,lsplice,L7,G4,G3,A3]
theorem Fx{c:Array Value}{p:Nat}{us:List Value}(h:p+us.length<=c.size)(k:Nat):
 (putC c p us)[k]?=if k<p then c[k]? else if k<p+us.length then us[k-p]? else c[k]?:=by
 split
 . grind[Ks]
 . split
   . rename_i h1 h2
     have:=lK us c p (k-p) h (by omega)
     grind
   grind[Ks]
section
variable {P:Program}{E:Env}{W:World}{cx:Cx}{h:Heap}
def Jf(P:Program)(E:Env)(W:World)(cx:Cx)(s:Sem Next)(v:AV)(h':Heap):Prop:=
 ∃v' W' cx',(s.run P W=.ok (.value v') W'\/(s.run P W=.ok .skip W'/\v'=undef))/\Ext W cx W' cx'/\Sat E W' cx' h'/\Rep W' cx' v' v
theorem Jf.value{s:Sem Value}{v':Value}{W':World}{cx':Cx}{v:AV}{h':Heap}(A:s.run P W=.ok v' W')(B:Ext W cx W' cx')(C:Sat E W' cx' h')(D:Rep W' cx' v' v):
 Jf P E W cx (do pure (.value (<-s))) v h':=⟨v',W',cx',.inl (by simp[A]),B,C,D⟩
theorem Jf.same{s:Sem Value}{v':Value}{v:AV}(A:Sat E W cx h)(B:s.run P W=.ok v' W)(C:Rep W cx v' v):Jf P E W cx (do pure (.value (<-s))) v h:=
 .value B (Ext.refl W cx) A C
theorem Jf.unit{s:Sem Unit}{W':World}{cx':Cx}{h':Heap}(A:s.run P W=.ok () W')(B:Ext W cx W' cx')(C:Sat E W' cx' h'):
 Jf P E W cx (do s;pure .skip) .und h':=⟨undef,W',cx',.inr ⟨by simp[A],rfl⟩,B,C,.und _⟩
theorem Rep.ptr_inv{v:Value}{id i off:Nat}(h:Rep W cx v (.ptr id i off)):id<cx.nx/\v=.pointer (zs ⟨(cx.μ id).1,(cx.μ id).2.1+i*(cx.μ id).2.2+off,zn⟩):=by
 cases h with
 |ptr id i off hid hb=>grind
theorem Rep.fptr_inv{v:Value}{a:AV}{off:Nat}(h:Rep W cx v (.fptr a off)):∃b o,v=.pointer (zs ⟨b,o+off,zn⟩)/\¬cx.own b/\b<W.heap.size/\
 ∀(j:Nat) c,a.cells[j]?=zs c->∃u,W.cell? ⟨b,o+j,zn⟩=zs u/\u.oneC=zt/\Rep W cx u c:=by
 cases h with
 |fptr b o off v g ho hb hcell hone hrep=>grind
theorem Rep.fptr_mk{b o off:Nat}{a:AV}(ho:¬cx.own b)(hb:b<W.heap.size)(hc:∀(j:Nat) c,a.cells[j]?=zs c->∃u,W.cell? ⟨b,o+j,zn⟩=zs u/\u.oneC=zt/\Rep W cx u c):
 Rep W cx (.pointer (zs ⟨b,o+off,zn⟩)) (.fptr a off):=by
 have key:∀(j:Nat) c,a.cells[j]?=zs c->∃u,W.cell? ⟨b,o+j,zn⟩=zs u/\(W.cell? ⟨b,o+j,zn⟩).getD undef=u/\u.oneC=zt/\Rep W cx u c:=by
  grind
 refine .fptr b o off a (fun j=>(W.cell? ⟨b,o+j,zn⟩).getD undef) ho hb (fun j c A=>?_) (fun j c A=>?_) (fun j c A=>?_)
 . grind
 . grind
 grind
theorem Sc(hE:EnvOk E P)(G:Sat E W cx h){t:Nat}{ti:TI}(H:E.ti t=zs ti){x:Value}{a r:AV}(C:Rep W cx x a)(hl:Fj ti a h=zs r):
 ∃v,(Instr.loadAt t x).run P W=.ok v W/\Rep W cx v r:=by
 have A:=hE.ti t ti H;cases a with
 |fptr v off=>
  obtain⟨b,o,rfl,_,_,hc⟩:=C.fptr_inv;obtain⟨u,h1,h2⟩:=On A hc hl;grind[Instr.loadAt,Instr.sureAddr]
 |ptr id i off=>
  obtain ⟨es,sz,hg,hl⟩:=Heap.onRow_some hl;obtain⟨e,I,hl⟩:=A0 hl;rw[R2]at I;obtain⟨_,rfl⟩:=C.ptr_inv;obtain⟨_,_,_,B⟩:=G.objs id _ hg;obtain⟨h1,c,t',g,hh,hfit,hsz,hcell⟩:=B;have hc:∀(j:Nat) D,e.cells[j]?=zs D->∃u,W.cell? ⟨(cx.μ id).1,(cx.μ id).2.1+i*(cx.μ id).2.2+j,zn⟩=zs u/\u.oneC=zt/\Rep W cx u D:=by
   grind[Nd]
  obtain⟨u,h1,h2⟩:=On A hc hl;grind[Instr.loadAt,Instr.sureAddr]
 |_=>cases hl
theorem Vo(old:AV)(off:Nat)(ncs:List AV)(A:off+ncs.length<=old.cells.length)(hn:0<ncs.length)(B:∀c∈ncs,okCell c=zt):
 (old.withCells off ncs).cells=lsplice old.cells off ncs:=by
 have C:(∀cs,old≠.agg cs)->(match ncs with|[]=>AV.und|x::r=>(match r with|[]=>x|_::_=>.und)).cells=lsplice old.cells off ncs:=by
  intro ha;have e1:old.cells=[old]:=by cases old<;>first|rfl|grind
  rw[e1]at A|-;simp at A;cases ncs with
  |nil=>simp at hn
  |cons x r=>
   simp at A;have D:r=[]:=zqw (by omega);subst D;have ho:off=0:=by grind
   subst ho;have G:=B x (zqv ..)
   have:x.cells=[x]:=by cases x<;>first|rfl|exact absurd G (by decide)|grind[okCell]
   simp[this,lsplice]
 cases old with
 |agg cs=>show O7 cs off ncs=_;exact U4 cs off ncs
 |_=>exact C (by simp)
theorem dQ(hE:EnvOk E P)(hs:Sat E W cx h){t:Nat}{ti:TI}(ht:E.ti t=zs ti){x y:Value}{a b:AV}(hx:Rep W cx x a)(hy:Rep W cx y b){h':Heap}(hl:Dn ti a b h=zs h'):
 ∃W',(Instr.storeAt t x y).run P W=.ok () W'/\Ext W cx W' cx/\Sat E W' cx h':=by
 have ai:=hE.ti t ti ht;cases a with
 |ptr id i off=>
  obtain ⟨es,sz,hg,hl⟩:=Heap.onRow_some hl;obtain⟨old,he,hl⟩:=A0 hl;obtain⟨hb,hl⟩:=A6 hl;have hl:=Option.some.inj hl;rw[R2]at he;rw[zqa,zqa,zqa,A3,G0]at hb;obtain⟨⟨⟨V,X⟩,Y⟩,O⟩:=hb;have V:=C4 V;have X:=I5 X;have Y:off+ti.size<=sz:=B9 Y;obtain⟨_,rfl⟩:=hx.ptr_inv;obtain⟨_,ad,ae,af⟩:=hs.objs id _ hg;obtain⟨h1,c,t',g,hh,hfit,hsz,hcell⟩:=af;have aj:b≠.und:=fun e=>by
   subst e
   have:=O .und (by simp[AV.cells])
   cases this
  have D:=hy.cells aj;have hone:=D.one O;have J:=V5 he;have hrow:(cx.μ id).2.1+i*sz+off+y.cells.toList.length<=c.size:=by
   have:=zqb sz (show i+1<=es.length from J)
   rw[zqd]at this;rw[D.1];omega
  have I:=g8 (P:=P) y.cells.toList ((cx.μ id).2.1+i*sz+off) 0 c W hh hone (by grind);have N:(Instr.storeAt t (.pointer (zs ⟨(cx.μ id).1,(cx.μ id).2.1+i*(cx.μ id).2.2+off,zn⟩)) y).run P W=.ok () (setBlock W (cx.μ id).1 (.cells (putC c ((cx.μ id).2.1+i*sz+off) y.cells.toList) t' (0,0))):=by
   have aa:y.cells.size=ti.size:=by have:=D.1;grind
   rw[h1];simp only[zqi]at I;simp[Instr.storeAt,Instr.sureAddr,storeVar,ai.run_sizeOf,aa,I]
  have A:Ext W cx (setBlock W (cx.μ id).1 (.cells (putC c ((cx.μ id).2.1+i*sz+off) y.cells.toList) t' (0,0))) cx:=
   Ext.set _ ad (hs.free _ _ hg) (fun c0 t0 f0 e=>by rw[hh]at e;cases e;exact⟨_,_,_,rfl,Y9 _ _ _⟩) (fun hn=>absurd hh (hn _ _ _))
  refine⟨_,N,A,?_⟩;rw[<-hl];refine hs.set A hg _ (by grind[Go.AM.setBlock_ne]) ?_;rw[Bd];have G:off+b.cells.length<=old.cells.length:=by grind
  have ab:=Vo old off b.cells G (by omega) O;refine⟨h1,putC c ((cx.μ id).2.1+i*sz+off) y.cells.toList,t',fun i' j=>if i'=i/\off<=j/\j<off+b.cells.length then(y.cells.toList[j-off]?).getD undef else g i' j,o7 W _ ae,?_,?_,?_⟩
  . grind[Y9]
  . intro i' e B
    by_cases C:i=i'
    . subst C
      rw[zkc J]at B;cases B;rw[ab,R9 G];exact hsz i old he
    . rw[zkd C]at B;exact hsz i' e B
  . intro i' e j c' B H
    rw[Fx (by omega)];dsimp only;by_cases C:i=i'
    . subst C
      rw[zkc J]at B;cases B;rw[ab,Oo G]at H;by_cases ag:j<off
      . rw[if_pos ag]at H
        obtain⟨U,a2,a3⟩:=hcell i old j c' he H;rw[if_pos (by omega),if_neg (by omega)];exact⟨U,a2,a3.mono A⟩
      . rw [if_neg ag]at H
        by_cases Q:j<off+b.cells.length
        . rw[if_pos Q]at H
          obtain⟨v,hv,hr⟩:=D.get H;rw[if_neg (by omega),if_pos (by grind),if_pos ⟨rfl,by omega,Q⟩];rw[show(cx.μ id).2.1+i*sz+j-((cx.μ id).2.1+i*sz+off)=j-off by omega,hv];exact⟨rfl,hone v (zqx hv),hr.mono A⟩
        . rw[if_neg Q]at H
          obtain⟨U,a2,a3⟩:=hcell i old j c' he H;rw[if_neg (by omega),if_neg (by rw[D.1];omega),if_neg (by omega)];exact⟨U,a2,a3.mono A⟩
    . rw [zkd C]at B
      obtain ⟨U,a2,a3⟩:=hcell i' e j c' B H;have ak:=V5 H;rw[hsz i' e B]at ak;have ac:¬((cx.μ id).2.1+i'*sz+j>=(cx.μ id).2.1+i*sz+off/\(cx.μ id).2.1+i'*sz+j<(cx.μ id).2.1+i*sz+off+y.cells.toList.length):=by
       rw[D.1];rcases Nat.lt_or_gt_of_ne C with am|an
       . have:=zqb sz (show i+1<=i' from am)
         grind
       . have:=zqb sz (show i'+1<=i from an)
         grind
      have al:(if i'=i/\off<=j/\j<off+b.cells.length then(y.cells.toList[j-off]?).getD undef else g i' j)=g i' j:=if_neg (fun hc=>C hc.1.symm);rw[al];split
      . exact⟨U,a2,a3.mono A⟩
      . rename_i hn1
        rw[if_neg (fun ah=>ac ⟨by omega,ah⟩)];exact⟨U,a2,a3.mono A⟩
 |_=>cases hl
theorem Sd(A:Sat E W cx h){t:Nat}{c:Array Value}{es:List AV}{sz:Nat}{vs:List Value}(C:RowRep W cx vs es sz)(hsub:∀(k:Nat) v,vs[k]?=zs v->c[k]?=zs v)(hfit:es.length*sz<=c.size):
 Ext W cx (W.alloc (.cells c t)) (cx.push W.heap.size sz)/\Sat E (W.alloc (.cells c t)) (cx.push W.heap.size sz) (h.push (.row es sz))/\(cx.push W.heap.size sz).μ h.next=(W.heap.size,0,sz):=by
 have B:=Ext.alloc W cx (.cells c t) sz;refine⟨B,A.push _ _ sz ?_,by rw[A.nx,Cx.push_new]⟩;exact N8.mk (t:=t) rfl (J6 W _) (by grind) (by grind) (C.mono B)
theorem Se(C:Sat E W cx h){t:Nat}{v:Value}{a:AV}{sz:Nat}(D:Rep W cx v a)(B:Vj v.cells.toList)(G:a≠.und)(hz:a.cells.length=sz){r:AV}{h':Heap}(hn:iI sz a h=.ok r h'):
 ∃v' W' cx',(do pure (.pointer (zs (<-newVar t v))):Sem Value).run P W=.ok v' W'/\Ext W cx W' cx'/\Sat E W' cx' h'/\Rep W' cx' v' r:=by
 cases hn;have A:=D.cells G;obtain⟨h1,h2,H⟩:=Sd C (t:=t) (c:=v.cells) (es:=[a]) (sz:=sz) (RowRep.one A B hz) (fun k v hk=>by grind) (by have:=A.1;grind);refine⟨.pointer (zs ⟨W.heap.size,0,zn⟩),_,_,by simp[newVar,newRow],h1,h2,?_⟩
 have:=Rep.ptr (W:=W.alloc (.cells v.cells t)) (cx:=cx.push W.heap.size sz) h.next 0 0 (by rw[C.nx];exact zqj _) (by rw[H];simp)
 grind
end
end Go.AM
/-
 The abstract machine: further operations: fields,indexes,slices,builds.
-/
namespace Go.AM
section
variable {P:Program}{E:Env}{W:World}{cx:Cx}{h:Heap}
theorem iZ{op:UnOp}{x:Value}{a r:AV}(A:Rep W cx x a)(h:Kh op a=zs r):∃v,(Op.unary op x).run P W=.ok v W/\Rep W cx v r:=by
 cases op with
 |neg=>
  obtain⟨k,n,e,g⟩:=B4 (v:=a) h;subst e;cases A.int_inv;rw[o8 g];exact⟨.int k (k.wrap (0-n)),by simp[Op.unary,Op.intArith],.int _ _⟩
 |not=>
  obtain⟨b,e,g⟩:=Be (v:=a) h;subst e;cases A.bool_inv;rw[Bf g];exact⟨_,rfl,.bool _⟩
 |_=>cases h
theorem Vp(hE:EnvOk E P){s d:Nat}{ts B:TI}(H:E.ti s=zs ts)(I:E.ti d=zs B){x:Value}{a r:AV}(G:Rep W cx x a)(h:R5 B.desc a=zs r):
 ∃v,(convert s d x).run P W=.ok v W/\Rep W cx v r:=by
 obtain⟨ds,C⟩:=(hE.ti s ts H).under;have A:=(hE.ti d B I).desc;unfold H3 at A;have J:∀W:World,(underlying s).run P W=.ok ds W:=fun W=>A2 C
 cases D:B.desc with
 |int k=>
  rw[D]at h A;have r2:∀W:World,(underlying d).run P W=.ok (.int k) W:=fun W=>A2 A
  obtain⟨k',n,e,g⟩:=B4 (v:=a) h;subst e;cases G.int_inv;rw[o8 g];exact⟨_,by simp[convert,J,r2,Conv.intToInt],.int _ _⟩
 |string=>
  rw[D]at h A;have r2:∀W:World,(underlying d).run P W=.ok .string W:=fun W=>A2 A
  obtain⟨l,e,g⟩:=J7 (v:=a) h;subst e;obtain⟨b,rfl,hb⟩:=G.str_inv;simp_all[convert]
 |_=>rw[D]at h;cases h
theorem Ie{A:Addr}{a r:AV}{d:Nat}(B:Rep W cx (.pointer (zs A)) a)(h:B0 a d=zs r):Rep W cx (.pointer (zs (A.add d))) r:=by
 cases a with
 |fptr v off=>
  have h:M2 (Nat.add off d) (fun o=>zs (AV.fptr v o))=zs r:=h;rw[B7]at h;cases h;obtain⟨b,o,e,h1,h2,h3⟩:=B.fptr_inv;simp_all[add_addr,zqe,Rep.fptr_mk]
 |ptr id i off=>
  have h:M2 (Nat.add off d) (fun o=>zs (AV.ptr id i o))=zs r:=h;rw[B7]at h;cases h;cases B with
  |ptr id i off hid hb=>
   rw[add_addr,zqe];exact .ptr id i (off+d) hid hb
 |_=>cases h
theorem Oq{x:Value}{a r:AV}{d:Nat}(A:Rep W cx x a)(h:B0 a d=zs r):∃B,x=.pointer (zs B):=by
 cases a with
 |fptr v off=>obtain⟨b,o,e,_⟩:=A.fptr_inv;grind
 |ptr id i off=>obtain⟨_,e⟩:=A.ptr_inv;grind
 |_=>cases h
theorem If(hE:EnvOk E P){t:Nat}{ti:TI}(B:E.ti t=zs ti){f:Nat}{p:TI×Nat}(h:fieldAt E ti f=zs p):
 ∃fields fl,P.underlying t=zs (.struct fields)/\fields[f]?=zs fl/\fl.offset=p.2/\E.ti fl.type=zs p.1:=by
 have A:=(hE.ti t ti B).desc;unfold fieldAt at h;unfold H3 at A;cases D:ti.desc with
 |struct fs b=>
  rw[D]at h A;obtain⟨fields,h1,h2,_⟩:=A;obtain⟨q,C,h⟩:=A0 h;obtain⟨ft,hft,h⟩:=D7 h;cases h;rw[Zd,<-h2,zqu]at C;grind
 |_=>grind
theorem Pg(hE:EnvOk E P){t:Nat}{ti:TI}(B:E.ti t=zs ti){f:Nat}{p:TI×Nat}{x:Value}{a r:AV}(A:Rep W cx x a)(C:fieldAt E ti f=zs p)
 (h:A9 (Nat.blt 0 p.1.size) (B0 a p.2)=zs r):∃v,(Instr.fieldAt t x f).run P W=.ok v W/\Rep W cx v r:=by
 obtain⟨fields,fl,h1,h2,h3,D⟩:=If hE B C;obtain⟨hb,h⟩:=A6 h;have hb:=I5 hb;obtain⟨G,rfl⟩:=Oq A h;have r1:∀W:World,(underlying t).run P W=.ok (.struct fields) W:=fun W=>A2 h1
 have hz:=(hE.ti fl.type p.1 D).run_sizeOf (W:=W);refine⟨.pointer (zs (G.add p.2)),?_,Ie A h⟩
 have:¬p.1.size=0:=by omega
 simp_all[Instr.fieldAt,Instr.sureAddr,fieldPlace]
theorem Ot(hE:EnvOk E P){t:Nat}{ti:TI}(B:E.ti t=zs ti){vs:Array Value}{cs:List AV}(hc:RepL W cx vs.toList cs){off:Nat}{r:AV}(h:partOf ti cs off=zs r):
 ∃v,(part t vs off).run P W=.ok v W/\Rep W cx v r:=by
 have A:=hE.ti t ti B;have hi:=A.run_isAgg (W:=W);unfold partOf at h;cases ha:r7 ti.desc with
 |false=>
  rw[ha]at h hi;have h:Fg cs off=zs r:=h;rw[R2]at h;obtain⟨v,h1,h2⟩:=hc.get h;simp_all[part]
 |true=>
  rw[ha]at h hi;have h:(bif Nat.ble (Nat.add off ti.size) (lenL cs)then zs (AV.agg (takeL (dropL cs off) ti.size))else zn)=zs r:=h;rw[A3,G3,G4]at h;cases hb:Nat.ble (Nat.add off ti.size) cs.length with
  |false=>grind
  |true=>
   rw[hb]at h;cases h;refine⟨.agg (vs.extract off (off+ti.size)),by simp[part,hi,A.run_sizeOf],?_⟩
   have:=Rep.agg_mk ((hc.drop off).take ti.size)
   have e:((vs.toList.drop off).take ti.size).toArray=vs.extract off (off+ti.size):=by
    grind
   grind
theorem dS(hE:EnvOk E P){t:Nat}{ti:TI}(B:E.ti t=zs ti){f:Nat}{p:TI×Nat}{x:Value}{a r:AV}(C:Rep W cx x a)(D:fieldAt E ti f=zs p)
 (h:a.onAgg zn (fun cs=>partOf p.1 cs p.2)=zs r):∃v,(Instr.field t x f).run P W=.ok v W/\Rep W cx v r:=by
 obtain⟨fields,fl,h1,h2,h3,G⟩:=If hE B D;obtain⟨cs,e,g⟩:=Aa h;subst e;obtain⟨vs,rfl,A⟩:=C.agg_inv;obtain⟨v,hv,hr⟩:=Ot hE G A g;simp_all[Instr.field,asAgg,A2]
theorem Ph(hE:EnvOk E P){t:Nat}{ti:TI}(X:E.ti t=zs ti){x y:Value}{a b r:AV}{i:Nat}(N:Rep W cx x a)(Y:Rep W cx y b)(hi:asNat b=zs i)
 (h:R6 E ti.desc i a=zs r):∃v,(Instr.indexAt t x y).run P W=.ok v W/\Rep W cx v r:=by
 obtain⟨k,rfl⟩:=R7 hi;cases Y.int_inv;have G:=(hE.ti t ti X).desc;unfold H3 at G;cases V:ti.desc with
 |slice e=>
  rw[V]at h G;have J:∀W:World,(underlying t).run P W=.ok (.slice e) W:=fun W=>A2 G
  obtain⟨te,D,h⟩:=D7 h;have hz:=(hE.ti e te D).run_sizeOf (W:=W);cases N with
  |fsl U b o n cap es full sz g hn hc hf ha hsz hcell hone hrep hnn=>
   obtain ⟨v,O,h⟩:=A0 h;obtain⟨hb,h⟩:=A6 h;cases h;rw[R2]at O;have hb:=C4 hb;rw[A3]at hb;have H:=V5 O;obtain⟨rfl,ho,Q⟩:=ha (fun e=>by rw[e]at H;simp at H);have hs1:=hsz i v O;have A:(Instr.indexAt t (.slice (zs ⟨b,o,zn⟩) n cap) (.int k (i:Int))).run P W=.ok (.pointer (zs ⟨b,o+i*te.size,zn⟩)) W:=by
    have B:i<n:=by omega
    simp[Instr.indexAt,asIntOf,J,B,hz,add_addr]
   refine⟨_,A,?_⟩
   have:=Rep.fptr_mk (W:=W) (cx:=cx) (o:=o+i*te.size) (off:=0) (a:=v) ho Q (by grind)
   exact this
  |msl U n cap id off sz hid hz' hb hc ha hnn=>
   obtain⟨hg,h⟩:=A6 h;rw[B7]at h;cases h;rw[zqa]at hg;have C:=I5 hg.1;have hsz:=C4 hg.2;have I:cap≠0:=by omega
   obtain ⟨rfl,_⟩:=ha I;have A:(Instr.indexAt t (.slice (zs ⟨(cx.μ id).1,(cx.μ id).2.1+off*sz,zn⟩) n cap) (.int k (i:Int))).run P W=.ok (.pointer (zs ⟨(cx.μ id).1,(cx.μ id).2.1+(off+i)*sz,zn⟩)) W:=by
    have B:i<n:=C;simp[Instr.indexAt,asIntOf,J,B,hz,add_addr,<-hsz,zqd,zqe]
   refine⟨_,A,?_⟩
   have:=Rep.ptr (W:=W) (cx:=cx) id (off+i) 0 hid hb
   grind
  |_=>cases h
 |array len e=>
  rw[V]at h G;have J:∀W:World,(underlying t).run P W=.ok (.array len e) W:=fun W=>A2 G
  obtain⟨te,D,h⟩:=D7 h;have hz:=(hE.ti e te D).run_sizeOf (W:=W);obtain⟨hg,h⟩:=A6 h;rw[zqa]at hg;have C:=I5 hg.1;obtain⟨U,rfl⟩:=Oq N h;refine⟨.pointer (zs (U.add (i*te.size))),?_,Ie N h⟩;have B:i<len:=C;simp[Instr.indexAt,asIntOf,J,B,hz,Instr.sureAddr]
 |_=>rw[V]at h;cases h
theorem dT(hE:EnvOk E P){t:Nat}{ti:TI}(O:E.ti t=zs ti){x y:Value}{a b r:AV}{i:Nat}(I:Rep W cx x a)(Q:Rep W cx y b)(hi:asNat b=zs i)
 (h:Fk E ti.desc i a=zs r):∃v,(Instr.index t x y).run P W=.ok v W/\Rep W cx v r:=by
 obtain⟨k,rfl⟩:=R7 hi;cases Q.int_inv;have A:=(hE.ti t ti O).desc;unfold H3 at A;cases H:ti.desc with
 |string=>
  rw[H]at h A;have J:∀W:World,(underlying t).run P W=.ok .string W:=fun W=>A2 A
  obtain ⟨l,e,h⟩:=J7 (v:=a) h;subst e;obtain⟨u,B,h⟩:=A0 h;cases h;rw[lI]at B;obtain⟨s,rfl,N⟩:=I.str_inv;have D:s[i]?=zs u:=by
   have hil:=V5 B;have hsl:s.size=l.length:=by rw[<-N];exact zkh.symm
   have hlt:i<s.size:=by omega
   have e1:s[i]?=zs s[i]:=by grind
   rw[e1];rw[<-N]at B;have e2:s.data.toList[i]?=zs s.data[i]:=by simp
   rw[e2]at B;exact B
  refine⟨.int .u8 u.toNat,?_,.int _ _⟩;simp[Instr.index,asIntOf,J,D]
 |array len e=>
  rw[H]at h A;have J:∀W:World,(underlying t).run P W=.ok (.array len e) W:=fun W=>A2 A
  obtain⟨te,C,h⟩:=D7 h;have hz:=(hE.ti e te C).run_sizeOf (W:=W);obtain⟨hg,h⟩:=A6 h;have hin:=I5 hg;obtain⟨cs,U,h⟩:=Aa h;subst U;obtain⟨vs,rfl,G⟩:=I.agg_inv;obtain⟨v,hv,hr⟩:=Ot hE C G h;simp_all[Instr.index,asIntOf]
 |_=>rw[H]at h;cases h
theorem Vq{x:Value}{vs:List AV}{i:Nat}{r:AV}(A:Rep W cx x (.tup vs))(h:Fg vs i=zs r):∃v,(Instr.extract x i).run P W=.ok v W/\Rep W cx v r:=by
 obtain⟨us,rfl,B⟩:=A.tup_inv;rw[R2]at h;obtain⟨v,h1,h2⟩:=B.get h;simp_all[Instr.extract]
def X6(W:World)(cx:Cx)(o:Option Value)(a:Option AV):Prop:=match o,a with|none,zn=>True|some v,zs x=>Rep W cx v x|_,_=>False
theorem optNat_some{o:Option Value}{a:Option AV}(ho:X6 W cx o a){d n:Nat}(h:D5 a d=zs n):(o=zn/\a=zn/\n=d)\/∃k x,o=zs (.int k (n:Int))/\a=zs x:=by
 cases a with
 |none=>
  cases o with
  |none=>cases h;grind
  |some v=>exact ho.elim
 |some x=>
  cases o with
  |none=>exact ho.elim
  |some v=>
   obtain⟨k,e⟩:=R7 h;subst e;have ho:Rep W cx v (.int k (n:Int)):=ho;cases ho.int_inv;grind
theorem E5{k:IntKind}{n y:Nat}{code:BoundsCode}(h:n<=y):(Instr.sliceBound (.int k (n:Int)) y code).run P W=.ok n W:=by
 simp_all[Instr.sliceBound,asIntOf]
theorem X7{isSlice:Bool}{len cap:Nat}{lo hi mx:Option Value}{C B A:Option AV}{l r m:Nat}(h1:X6 W cx lo C)(h2:X6 W cx hi B)(G:X6 W cx mx A)
 (hl:D5 C 0=zs l)(hr:D5 B len=zs r)(hm:D5 A len=zs m)(hlr:l<=r)(hrm:r<=m)(hml:m<=len)(hlc:len<=cap)(hh:B=zn->A=zn):
 (Instr.sliceBounds isSlice len cap lo hi mx).run P W=.ok (l,r,if A.isNone then cap else m) W:=by
 have k1:∀y code,m<=y->(match mx with|some v=>Instr.sliceBound v y code|none=>pure y:Sem Nat).run P W=.ok (if A.isNone then y else m) W:=by
  intro y code I;rcases optNat_some G hm with⟨rfl,rfl,_⟩|⟨k,x,rfl,rfl⟩
  . rfl
  . simp[E5 I]
 rcases optNat_some G hm with⟨rfl,rfl,em⟩|⟨km,xm,rfl,rfl⟩
 . rcases optNat_some h2 hr with⟨rfl,rfl,er⟩|⟨J,N,rfl,rfl⟩
   . rcases optNat_some h1 hl with⟨rfl,rfl,D⟩|⟨H,xl,rfl,rfl⟩
     . subst D er;simp[Instr.sliceBounds]
     simp_all[Instr.sliceBounds,E5]
   . rcases optNat_some h1 hl with⟨rfl,rfl,D⟩|⟨H,xl,rfl,rfl⟩
     . subst D;simp[Instr.sliceBounds,E5 (show r<=cap by omega)]
     . simp[Instr.sliceBounds,E5 (show r<=cap by omega),E5 hlr]
 . rcases optNat_some h2 hr with⟨rfl,rfl,er⟩|⟨J,N,rfl,rfl⟩
   . grind
   . rcases optNat_some h1 hl with⟨rfl,rfl,D⟩|⟨H,xl,rfl,rfl⟩
     . subst D;simp[Instr.sliceBounds,E5 (show m<=cap by omega),E5 hrm]
     . simp[Instr.sliceBounds,E5 (show m<=cap by omega),E5 hrm,E5 hlr]
end
end Go.AM
/-
 The abstract machine: slices of slices,builds,makes,appends,copies.
-/
namespace Go.AM
section
variable {P:Program}{E:Env}{W:World}{cx:Cx}{h:Heap}
theorem Zm(s:ByteArray)(l r:Nat):(s.extract l r).data.toList=(s.data.toList.drop l).take (r-l):=by
 simp_all
theorem Zn(hE:EnvOk E P){t:Nat}{ti:TI}(ht:E.ti t=zs ti){x:Value}{a r:AV}{lo hi mx:Option Value}{N H A:Option AV}(hx:Rep W cx x a)
 (h1:X6 W cx lo N)(h2:X6 W cx hi H)(h3:X6 W cx mx A)(hh:H=zn->A=zn)(hnl:a≠.nilsl)(h:sliceA E ti.desc N H A a=zs r):
 ∃v,(Instr.sliceAt t x lo hi mx).run P W=.ok v W/\Rep W cx v r:=by
 have O:=(hE.ti t ti ht).desc;unfold H3 at O;cases hk:ti.desc with
 |string=>
  rw[hk]at h O;have r1:∀W:World,(underlying t).run P W=.ok .string W:=fun W=>A2 O
  obtain⟨l,e,h⟩:=J7 (v:=a) h;subst e;obtain⟨s,rfl,hs⟩:=hx.str_inv;obtain⟨Y,ag,h⟩:=A0 h;obtain⟨B,aa,h⟩:=A0 h;obtain⟨hg,h⟩:=A6 h;cases h;rw[zqa,zqa,x4]at hg;obtain⟨⟨C,D⟩,I⟩:=hg;have C:=B9 C;have D:=B9 D;have ab:A=zn:=by simp_all
  subst ab;have Q:mx=zn:=by cases mx<;>first|rfl|exact h3.elim
  subst Q;have hsz:s.size=l.length:=by rw[<-hs];exact zkh.symm
  rw[x4,<-hsz]at aa;have hb:=X7 (P:=P) (W:=W) (cx:=cx) (isSlice:=zf) (len:=s.size) (cap:=s.size) (m:=s.size) h1 h2 (show X6 W cx zn zn from trivial) ag aa rfl C (by omega) (zqc _) (zqc _) (fun _=>rfl);refine⟨.string (s.extract Y B),?_,?_⟩
  . simp[Instr.sliceAt,Instr.slice,r1,hb]
  . have:=Rep.str (W:=W) (cx:=cx) (s.extract Y B)
    rw[Zm,hs]at this;exact this
 |slice e=>
  rw[hk]at h O;have r1:∀W:World,(underlying t).run P W=.ok (.slice e) W:=fun W=>A2 O
  obtain⟨te,ah,h⟩:=D7 h;have hz:=(hE.ti e te ah).run_sizeOf (W:=W);cases hx with
  |fsl J b o n cap es full sz g hn hc hf ha hsz hcell hone hrep hnn=>
   obtain⟨l,hl,h⟩:=A0 h;obtain⟨q,hq,h⟩:=A0 h;obtain⟨m,hm,h⟩:=A0 h;obtain⟨hg,h⟩:=A6 h;cases h;rw[A3]at hq hm;rw[zqa,zqa,zqa,A3]at hg;obtain⟨⟨⟨C,D⟩,I⟩,G⟩:=hg;have C:=B9 C;have D:=B9 D;have I:=B9 I;rw[hn]at hq hm;have hb:=X7 (P:=P) (isSlice:=zt) (cap:=cap) h1 h2 h3 hl hq hm C D (by omega) hc hh;generalize hM:(if A.isNone then cap else m)=M at hb;have ac:q<=M:=by grind
   have ae:M<=cap:=by grind
   refine⟨.slice (if M=l then J else J.map (·.add (l*te.size))) (q-l) (M-l),by simp[Instr.sliceAt,Instr.slice,r1,hb,hz],?_⟩;rw[G4,G3,A3];have U:((es.drop l).take (q-l)).length=q-l:=by grind
   refine .fsl _ b (o+l*sz) (q-l) (M-l) _ _ sz (fun i j=>g (l+i) j) U (by omega) (fun hfull=>?_) (fun hne=>?_) (fun i e' B=>?_) (fun i e' j c B hj=>?_) (fun i e' j c B hj=>?_) (fun i e' j c B hj=>?_) (fun he' hff=>?_)
   . cases A with
     |none=>
      simp_all
     |some am=>
      simp_all
   . have hlq:0<q-l:=by
      grind
     have V:es≠[]:=(by grind)
     obtain ⟨ea,ho,ai⟩:=ha V;have X:te.size=sz:=by
      cases es with
      |nil=>grind
      |cons e0 r0=>
       have G:Nat.beq (lenL e0.cells) te.size=zt:=G;rw[A3]at G;rw[<-C4 G];exact hsz 0 e0 rfl
     refine⟨?_,ho,ai⟩;rw[if_neg (by omega),ea,X];simp[add_addr]
   . grind
   . grind
   . grind
   . grind
   . have af:J≠zn:=by
      grind[Nat.beq]
     split
     . exact af
     simp_all
  |msl J n cap id off sz hid aj ak hc ha hnn=>
   obtain⟨l,hl,h⟩:=A0 h;obtain⟨q,hq,h⟩:=A0 h;obtain⟨m,hm,h⟩:=A0 h;obtain⟨hg,h⟩:=A6 h;rw[B7,B7]at h;cases h;rw[zqa,zqa,zqa]at hg;obtain⟨⟨⟨C,D⟩,I⟩,G⟩:=hg;have C:=B9 C;have D:=B9 D;have I:=B9 I;have G:=C4 G;have hb:=X7 (P:=P) (isSlice:=zt) (cap:=cap) h1 h2 h3 hl hq hm C D I hc hh;generalize hM:(if A.isNone then cap else m)=M at hb;have ac:q<=M:=by grind
   have ae:M<=cap:=by grind
   refine⟨.slice (if M=l then J else J.map (·.add (l*te.size))) (q-l) (M-l),by simp[Instr.sliceAt,Instr.slice,r1,hb,hz],?_⟩;refine .msl _ (q-l) (M-l) id (off+l) sz hid aj ak (by omega) (fun hcap=>?_) (by grind);obtain⟨ea,hfit⟩:=ha (by omega);refine⟨?_,?_⟩
   . rw[if_neg (by omega),ea,<-G]
     grind[add_addr]
   . have:off+l+(M-l)=off+M:=by omega
     rw[this]
     have:=zqb sz (show off+M<=off+cap by omega)
     omega
  |nilsl=>grind
  |_=>cases h
 |_=>rw[hk]at h;cases h
def lO(cells:Array Value)(off:Nat)(v:Value):Array Value:=v.cells.zipIdx.foldl (fun cs (c,j)=>cs.setIfInBounds (off+j) c) cells
theorem dU(hE:EnvOk E P){t:Nat}{ti:TI}(J:E.ti t=zs ti){x:Value}{a r:AV}{lo hi mx:Option Value}{C B A:Option AV}(N:Rep W cx x a)
 (h1:X6 W cx lo C)(h2:X6 W cx hi B)(h3:X6 W cx mx A)(hh:B=zn->A=zn)(h:sliceA E ti.desc C B A a=zs r):
 ∃v,(Instr.sliceAt t x lo hi mx).run P W=.ok v W/\Rep W cx v r:=by
 by_cases hn:a=.nilsl
 . subst hn
   have D:=(hE.ti t ti J).desc;unfold H3 at D;cases I:ti.desc with
   |slice e=>
    rw[I]at h D;have O:∀W:World,(underlying t).run P W=.ok (.slice e) W:=fun W=>A2 D
    obtain⟨te,H,h⟩:=D7 h;have hz:=(hE.ti e te H).run_sizeOf (W:=W);have h:Yt C B A=zs r:=h;obtain⟨l,hl,h⟩:=A0 h;obtain⟨q,X,h⟩:=A0 h;obtain⟨m,Y,h⟩:=A0 h;obtain⟨hg,h⟩:=A6 h;cases h;rw[zqa,zqa]at hg;have Q:=B9 hg.1.1;have U:=B9 hg.1.2;have V:=B9 hg.2;cases N;have hb:=X7 (P:=P) (W:=W) (isSlice:=zt) (cap:=0) h1 h2 h3 hl X Y Q U V (zqc _) hh;generalize hM:(if A.isNone then 0 else m)=M at hb;have G:M=0:=by rw[<-hM];split<;>omega
    obtain rfl:l=0:=by omega
    obtain rfl:q=0:=by omega
    subst G;exact⟨.slice zn 0 0,by simp[Instr.sliceAt,Instr.slice,O,hb,hz],.nilsl⟩
   |string=>rw[I]at h;cases h
   |_=>rw[I]at h;cases h
 . exact Zn hE J N h1 h2 h3 hh hn h
theorem Xb:∀(l:List Value)(k off:Nat)(cs:Array Value),(l.zipIdx k).foldl (fun cs (p:Value×Nat)=>cs.setIfInBounds (off+p.2) p.1) cs=putC cs (off+k) l
 |[],_,_,_=>rfl
 |v::r,k,off,cs=>by
  simp only[List.zipIdx_cons,List.foldl_cons,putC];rw[Xb r (k+1) off];rfl
theorem dX(cells:Array Value)(off:Nat)(v:Value):lO cells off v=putC cells off v.cells.toList:=by
 have:=Xb v.cells.toList 0 off cells
 unfold lO;rw[zqi]at this;rw[<-this,<-Array.foldl_toList];grind
theorem Sf{place:Nat->Option (Nat×Nat)}{A:Nat->Option (Nat×Nat)}(V:∀i q,A i=zs q->place i=zs q):
 ∀ (ps:List (Nat×Value)) (qs:List (Nat×AV)) (cells:Array Value) (cs:List AV) (r:List AV),
   ps.length=qs.length->(∀(i:Nat) p q,ps[i]?=zs p->qs[i]?=zs q->p.1=q.1/\Rep W cx p.2 q.2)->RepL W cx cells.toList cs->X0 A qs cs=zs r ->
   ∃G,Instr.fill place cells ps=zs G/\RepL W cx G.toList r:=by
 intro ps
 induction ps with
 |nil=>
  intro qs cells cs r hl _ hc h;cases qs with
  |nil=>cases h;exact⟨cells,rfl,hc⟩
  |cons _ _=>simp at hl
 |cons p ps ih=>
  intro qs cells cs r hl Q hc h;cases qs with
  |nil=>simp at hl
  |cons q qs=>
   obtain ⟨e1,hv⟩:=Q 0 p q rfl rfl;have h:A4 (A q.1) (fun z=>A9 (Nat.beq (lenL q.2.cells) z.2&&Nat.ble (Nat.add z.1 z.2) (lenL cs)&&D1 q.2.cells) (X0 A qs (O7 cs z.1 q.2.cells)))=zs r:=h;obtain⟨z,hz,h⟩:=A0 h;obtain⟨hg,h⟩:=A6 h;rw[zqa,zqa,A3,A3,G0]at hg;have g1:=C4 hg.1.1;have U:=B9 hg.1.2;have U:z.1+z.2<=cs.length:=U;have N:q.2≠.und:=fun e=>by
    have:=hg.2 .und (by rw[e];simp[AV.cells])
    cases this
   have hcl:=hc.1;rw[U4]at h;have H:=V _ _ hz;have C:RepL W cx p.2.cells.toList q.2.cells:=hv.cells N
   . have hsz:p.2.cells.size=z.2:=by have:=C.1;grind
     have I:z.1+p.2.cells.toList.length<=cells.size:=by
      grind
     have J:RepL W cx (putC cells z.1 p.2.cells.toList).toList (lsplice cs z.1 q.2.cells):=by
      have O:z.1+q.2.cells.length<=cs.length:=by omega
      refine⟨?_,fun i v c h1 h2=>?_⟩
      . grind[R9,Y9]
      . have h1:(putC cells z.1 p.2.cells.toList)[i]?=zs v:=by grind
        rw[Fx I]at h1;rw[Oo O]at h2;rw[C.1]at h1;split at h1
        . rename_i hi;rw[if_pos hi]at h2
          exact hc.2 i v c (by grind) h2
        . rename_i hi;rw[if_neg hi]at h2
          split at h1
          . rename_i B;rw[if_pos B]at h2;exact C.2 _ v c h1 h2
          . rename_i B;rw[if_neg B]at h2;exact hc.2 i v c (by grind) h2
     obtain ⟨G,h1,h2⟩:=ih qs _ _ r (by grind) (fun i X Y hp' hq'=>Q (i+1) X Y (by grind) (by grind)) J h;refine⟨G,?_,h2⟩;rw[<-e1]at H;unfold Instr.fill;rw[H];have D:¬(p.2.cells.size≠z.2||decide (z.1+p.2.cells.size>cells.size))=zt:=by
      grind
     have e3:(match(z:Nat×Nat)with|(off,size)=>if p.2.cells.size≠size||decide (off+p.2.cells.size>cells.size)then zn else Instr.fill place (p.2.cells.zipIdx.foldl (fun cs (c,j)=>cs.setIfInBounds (off+j) c) cells) ps)=zs G:=by
      show(if _ then _ else _)=_
      rw[if_neg D]
      have:=dX cells z.1 p.2
      grind[lO]
     exact e3
theorem Hg(B:Sat E W cx h){a:Act}{fr:Tr}(hf:FrRep W cx a.tmps fr):∀(l:List (Nat×Operand)),
 (l.map fun p=>(p.1,a.eval p.2)).length=(opvps E l fr).length/\
   ∀(i:Nat)(p:Nat×Value)(q:Nat×AV),(l.map fun p=>(p.1,a.eval p.2))[i]?=zs p->(opvps E l fr)[i]?=zs q->p.1=q.1/\Rep W cx p.2 q.2
 |[]=>⟨rfl,by simp⟩
 |x::r=>by
  obtain⟨h1,h2⟩:=Hg B hf r;have e:opvps E (x::r) fr=(x.1,opv E x.2 fr)::opvps E r fr:=rfl;refine⟨by grind,fun i p q C A=>?_⟩;rw[e]at A;cases i with
  |zero=>simp at C A;subst C A;exact⟨rfl,X5 B hf x.2⟩
  |succ i=>
   grind
theorem Xc{α β:Type}(g:α->Option β):∀(l:List α),(∀f∈l,∃b,g f=zs b)->∃bs,l.mapM g=zs bs/\∀(i:Nat) f,l[i]?=zs f->bs[i]?=g f
 |[],_=>⟨[],rfl,by simp⟩
 |f::l,h=>by
  obtain⟨b,hb⟩:=h f (zqv ..);obtain⟨bs,h1,h2⟩:=Xc g l (by grind);refine⟨b::bs,by simp_all,fun i f' hi=>?_⟩;grind
theorem dY(hE:EnvOk E P){t:Nat}{ti:TI}(ht:E.ti t=zs ti){ps:Array (Nat×Value)}{qs:List (Nat×AV)}{r:AV}(hl:ps.toList.length=qs.length)
 (I:∀(i:Nat) p q,ps.toList[i]?=zs p->qs[i]?=zs q->p.1=q.1/\Rep W cx p.2 q.2)(h:f8 E ti qs=zs r):
 ∃v,(Instr.build t ps).run P W=.ok v W/\Rep W cx v r:=by
 have B:=hE.ti t ti ht;have C:=B.desc;unfold H3 at C;obtain⟨z,hz,G⟩:=B.run_zero (W:=W);have D:=(G.rep W cx).cells G.und;unfold f8 at h;cases hk:ti.desc with
 |struct fs b=>
  rw[hk]at h C;obtain⟨fields,hu,h2,H,_⟩:=C;have J:∀W:World,(underlying t).run P W=.ok (.struct fields) W:=fun W=>A2 hu
  obtain ⟨cs,A,rfl⟩:=Option.map_eq_some_iff.1 h;obtain⟨pl,Q,hp2⟩:=Xc (fun f:Field=>(P.info? f.type).map fun i=>(f.offset,i.size)) fields.toList (fun f hf=>by
   obtain⟨i,hi⟩:=H f hf;simp_all)
  have N:∀i q,A4 (Yv fs i) (fun f=>onTI E f.1 zn fun g=>zs (f.2,g.size))=zs q->pl[i]?=zs q:=by
   intro i q hi;obtain⟨p,U,hi⟩:=A0 hi;obtain⟨g,hg,hi⟩:=D7 hi;cases hi;rw[Zd,<-h2,zqu]at U;cases hf:fields.toList[i]? with
   |none=>grind
   |some f=>
    rw[hf]at U;cases U;obtain⟨ii,_,e1,e2,_⟩:=(hE.ti _ _ hg).info;grind
  obtain⟨V,X,Y⟩:=Sf (place:=(pl[·]?)) N ps.toList qs z.cells _ cs hl I D A;refine⟨.agg V,by simp[Instr.build,hz,J,Array.mapM_eq_mapM_toList,run_places W _ _ Q,X],?_⟩
  have:=Rep.agg_mk Y
  omega
 |array n e=>
  rw[hk]at h C;have J:∀W:World,(underlying t).run P W=.ok (.array n e) W:=fun W=>A2 C
  obtain⟨te,aa,h⟩:=D7 h;obtain⟨cs,A,rfl⟩:=Option.map_eq_some_iff.1 h;have O:=(hE.ti e te aa).run_sizeOf (W:=W);obtain⟨V,X,Y⟩:=Sf (place:=fun i=>zs (i*te.size,te.size)) (fun i q I=>I) ps.toList qs z.cells _ cs hl I D A;refine⟨.agg V,by simp[Instr.build,hz,J,O,X],?_⟩
  have:=Rep.agg_mk Y
  simp_all
 |_=>grind
end
end Go.AM
/-
 The abstract machine: new slices; append; copy.
-/
namespace Go.AM
section
variable {P:Program}{E:Env}{W:World}{cx:Cx}{h:Heap}
theorem Qh{z:Value}{a:AV}{sz:Nat}(hz:ZeroOk z a)(G:a.cells.length=sz)(hp:0<sz)(n:Nat){c:Array Value}(hc:∀k,k<n*sz->c[k]?=z.cells[k%sz]?):
 RowRep W cx ((zqr (n*sz)).map fun k=>(z.cells[k%sz]?).getD undef) (List.replicate n a) sz/\(∀(k:Nat) v,((zqr (n*sz)).map fun k=>(z.cells[k%sz]?).getD undef)[k]?=zs v->c[k]?=zs v):=by
 have A:=(hz.rep W cx).cells hz.und;have hzs:z.cells.size=sz:=by have:=A.1;grind
 have hget:∀k,k<n*sz->∃v,z.cells[k%sz]?=zs v:=by
  grind[zqf]
 refine⟨⟨by simp,fun i e hi=>?_,fun i e j c' hi D=>?_⟩,fun k v H=>?_⟩
 . grind
 . rw [List.getElem?_replicate]at hi
   split at hi
   . rename_i C
     cases hi;have B:=V5 D;rw[G]at B;have H:=Zl C B;obtain⟨v,I,J⟩:=A.get D;have hv':z.cells[j]?=zs v:=by grind
     refine⟨v,?_,hz.one v (zqx I),J⟩;grind[lN]
   . cases hi
 grind
theorem rangeMap_get{z:Array Value}{sz:Nat}(hz:z.size=sz)(hp:0<sz)(n k:Nat)(hk:k<n):((zkg n).map (fun i=>z[i%z.size]!))[k]?=z[k%sz]?:=by
 grind[zqf]
theorem Zo{b sz n cap:Nat}{cx:Cx}{W:World}{id:Nat}(hid:id<cx.nx)(A:cx.μ id=(b,0,sz))(hb:b<W.heap.size)(hn:n<=cap)(hc:cap*sz<=szOf W b):
 Rep W cx (.slice (zs ⟨b,0,zn⟩) n cap) (.msl id 0 n sz):=by
 refine .msl _ n cap id 0 sz hid (by rw[A]) (by grind) hn (by grind) (by simp)
theorem Sg(W:World)(c:Array Value)(t:TypeId)(f:Nat×Nat):szOf (W.alloc (.cells c t f)) W.heap.size=c.size:=by
 unfold szOf;rw[J6]
theorem Sh(B:Sat E W cx h){t:Nat}{c:Array Value}{es:List AV}{sz n cap:Nat}{vs:List Value}(C:RowRep W cx vs es sz)(A:∀(k:Nat) v,vs[k]?=zs v->c[k]?=zs v)
 (hfit:es.length*sz<=c.size)(hn:n<=cap)(hc:cap*sz<=c.size):
 ∃cx',Ext W cx (W.alloc (.cells c t)) cx'/\Sat E (W.alloc (.cells c t)) cx' (h.push (.row es sz))/\Rep (W.alloc (.cells c t)) cx' (.slice (zs ⟨W.heap.size,0,zn⟩) n cap) (.msl h.next 0 n sz):=by
 obtain⟨h1,h2,D⟩:=Sd B (t:=t) C A hfit;exact⟨_,h1,h2,Zo (by rw[B.nx];exact zqj _) D (by simp) hn (by rw[Sg];exact hc)⟩
theorem g9{d:TD}{te:TI}(h:elemOfT E d=zs te):∃e,d=.slice e/\E.ti e=zs te:=by
 cases d with
 |slice e=>exact⟨e,rfl,h⟩
 |_=>cases h
theorem dZ{sz:Nat}(hp:0<sz):∀(ps:List (Nat×Value))(qs:List (Nat×AV))(cells:Array Value)(es r:List AV),
 ps.length=qs.length->(∀(i:Nat) p q,ps[i]?=zs p->qs[i]?=zs q->p.1=q.1/\Rep W cx p.2 q.2)->RowRep W cx cells.toList es sz->placeL sz qs es=zs r ->
 ∃C,Instr.fill (fun i=>zs (i*sz,sz)) cells ps=zs C/\RowRep W cx C.toList r sz:=by
 intro ps
 induction ps with
 |nil=>
  intro qs cells es r hl _ hc h;cases qs with
  |nil=>cases h;exact⟨cells,rfl,hc⟩
  |cons _ _=>simp at hl
 |cons p ps X=>
  intro qs cells es r hl H hc h;cases qs with
  |nil=>simp at hl
  |cons q qs=>
   obtain ⟨e1,V⟩:=H 0 p q rfl rfl;have h:A9 (Nat.blt q.1 (lenL es)&&Nat.beq (lenL q.2.cells) sz&&D1 q.2.cells) (placeL sz qs (setL es q.1 q.2))=zs r:=h;obtain⟨hg,h⟩:=A6 h;rw[zqa,zqa,A3,A3,G0]at hg;have I:=I5 hg.1.1;have J:=C4 hg.1.2;have G:q.2≠.und:=fun e=>by
    have:=hg.2 .und (by rw[e];simp[AV.cells])
    cases this
   have A:=V.cells G;have hone:=A.one hg.2;rw[Bd]at h;have hcl:=hc.len;have hlen:p.2.cells.toList.length=sz:=by rw[A.1,J]
   have hfit:q.1*sz+sz<=cells.size:=by
    have:cells.size=es.length*sz:=by grind
    have:=zqb sz (show q.1+1<=es.length from I)
    grind
   have D:RowRep W cx (putC cells (q.1*sz) p.2.cells.toList).toList (es.set q.1 q.2) sz:=by
    have:=hc.set (RowRep.one A hone J) I
    have e:cells.toList.take (q.1*sz)++(p.2.cells.toList++cells.toList.drop ((q.1+1)*sz))=(putC cells (q.1*sz) p.2.cells.toList).toList:=by
     have Q:cells.toList.take (q.1*sz)++(p.2.cells.toList++cells.toList.drop ((q.1+1)*sz))=lsplice cells.toList (q.1*sz) p.2.cells.toList:=by
      grind[lsplice]
     rw[Q];apply zke;grind[Fx]
    grind
   obtain ⟨C,h1,h2⟩:=X qs _ _ r (by grind) (fun i N O hp' hq'=>H (i+1) N O (by grind) (by grind)) D h;refine⟨C,?_,h2⟩;have B:¬(p.2.cells.size≠sz||decide (p.1*sz+p.2.cells.size>cells.size))=zt:=by
    grind
   have U:(if p.2.cells.size≠sz||decide (p.1*sz+p.2.cells.size>cells.size)then zn else Instr.fill (fun i=>zs (i*sz,sz)) (p.2.cells.zipIdx.foldl (fun cs (c,j)=>cs.setIfInBounds (p.1*sz+j) c) cells) ps)=zs C:=by
    rw[if_neg B]
    have:=dX cells (p.1*sz) p.2
    grind[lO]
   exact U
theorem Fy(hE:EnvOk E P)(hs:Sat E W cx h){t:Nat}{ti te:TI}(V:E.ti t=zs ti)(D:elemOfT E ti.desc=zs te){n:Nat}{ps:Array (Nat×Value)}{qs:List (Nat×AV)}{es:List AV}
 (hl:ps.toList.length=qs.length)(hq:∀(i:Nat) p q,ps.toList[i]?=zs p->qs[i]?=zs q->p.1=q.1/\Rep W cx p.2 q.2)
 (hg:(Nat.ble (Nat.mul n te.size) 65536&&Nat.blt 0 te.size)=zt)(hp:placeL te.size qs (repL n te.zero)=zs es):
 ∃(e:Nat)(B:Array Value),(Instr.buildSlice t n ps).run P W=.ok (.slice (zs ⟨W.heap.size,0,zn⟩) n n) (W.alloc (.cells B e))/\RowRep W cx B.toList es te.size/\B.size=n*te.size/\es.length=n:=by
 obtain⟨e,hk,D⟩:=g9 D;have I:=(hE.ti t ti V).desc;unfold H3 at I;rw[hk]at I;have X:∀W:World,(underlying t).run P W=.ok (.slice e) W:=fun W=>A2 I
 rw[zqa]at hg;have g1:n*te.size<=65536:=B9 hg.1;have Y:=I5 hg.2;have C:=hE.ti e te D;have hz:=C.run_sizeOf (W:=W);obtain⟨z,U,G⟩:=C.run_zero (W:=W);have hzs:z.cells.size=te.size:=by have:=((G.rep W cx).cells G.und).1;simp at this;rw[this];exact C.zsz
 have place:∀(cells:Array Value),RowRep W cx cells.toList (List.replicate n te.zero) te.size->cells.size=n*te.size ->
  ∃B,Instr.fill (fun i=>zs (i*te.size,te.size)) cells ps.toList=zs B/\RowRep W cx B.toList es te.size:=by
  grind[m8,dZ]
 have J:¬(n*te.size>2^24):=by omega
 obtain ⟨B,hc1,H⟩:=place ((zkg (n*te.size)).map (fun i=>z.cells[i%z.cells.size]!)) (by
  obtain ⟨a1,a2⟩:=Qh (W:=W) (cx:=cx) G C.zsz Y n (c:=(zkg (n*te.size)).map (fun i=>z.cells[i%z.cells.size]!)) (by grind[Go.AM.rangeMap_get]);have e:((zkg (n*te.size)).map (fun i=>z.cells[i%z.cells.size]!)).toList=(zqr (n*te.size)).map fun k=>(z.cells[k%te.size]?).getD undef:=by
   apply zke;grind
  grind) (by simp)
 have hlen:=H.len;have N:es.length=n:=by
  have:∀(qs:List (Nat×AV))(es r:List AV),placeL te.size qs es=zs r->r.length=es.length:=by
   intro qs
   induction qs with
   |nil=>intro es r h;cases h;rfl
   |cons q qs ih=>
    intro es r h;have h:A9 (Nat.blt q.1 (lenL es)&&Nat.beq (lenL q.2.cells) te.size&&D1 q.2.cells) (placeL te.size qs (setL es q.1 q.2))=zs r:=h;grind[A6,Bd]
  grind[m8]
 have O:B.size=n*te.size:=by grind
 refine ⟨e,B,?_,H,O,N⟩;have A:Instr.fill (fun i=>zs (i*te.size,te.size)) ((zkg (n*te.size)).map (fun i=>(if n*te.size=0 then #[]else z.cells)[i%(if n*te.size=0 then(#[]:Array Value)else z.cells).size]!)) ps.toList=zs B:=by
  grind
 have Q:(sizeOf e).run P W=.ok te.size W:=hz;simp only[Instr.buildSlice,Sem.run_bind,X,Q,Result.andThen_ok,if_neg J];by_cases h0:n*te.size=0
 . simp only[if_pos h0]at A|-
   simp only[Sem.run_bind,Sem.run_pure,Result.andThen_ok,A];simp[newRow]
 . simp only[if_neg h0]at A|-
   simp only[Sem.run_bind,Sem.run_pure,Result.andThen_ok,U,A];simp[newRow]
theorem Nh(hE:EnvOk E P)(C:Sat E W cx h){t:Nat}{ti te:TI}(D:E.ti t=zs ti)(A:elemOfT E ti.desc=zs te){n:Nat}{ps:Array (Nat×Value)}{qs:List (Nat×AV)}{es:List AV}
 (hl:ps.toList.length=qs.length)(hq:∀(i:Nat) p q,ps.toList[i]?=zs p->qs[i]?=zs q->p.1=q.1/\Rep W cx p.2 q.2)
 (hg:(Nat.ble (Nat.mul n te.size) 65536&&Nat.blt 0 te.size)=zt)(hp:placeL te.size qs (repL n te.zero)=zs es):
 ∃v W' cx',(Instr.buildSlice t n ps).run P W=.ok v W'/\Ext W cx W' cx'/\Sat E W' cx' (h.push (.row es te.size))/\Rep W' cx' v (.msl h.next 0 n te.size):=by
 obtain⟨e,G,h1,B,hcs,hrl⟩:=Fy hE C D A hl hq hg hp;obtain⟨cx',k1,k2,k3⟩:=Sh C (t:=e) (c:=G) (n:=n) (cap:=n) B (fun k v hk=>by grind) (by grind) (zqc _) (by grind);grind
theorem Pj(hE:EnvOk E P)(hs:Sat E W cx h){t:Nat}{ti te:TI}(ht:E.ti t=zs ti)(D:elemOfT E ti.desc=zs te){x y:Value}{a b:AV}{n m:Nat}(hx:Rep W cx x a)(hy:Rep W cx y b)
 (hn:asNat a=zs n)(hm:asNat b=zs m)(hg:(Nat.ble n m&&Nat.ble (Nat.mul m te.bytes) 140737488355328&&Nat.blt 0 te.size)=zt):
 ∃v W' cx',(Instr.makeSlice t x y).run P W=.ok v W'/\Ext W cx W' cx'/\Sat E W' cx' (h.push (.row (repL n te.zero) te.size))/\Rep W' cx' v (.msl h.next 0 n te.size):=by
 obtain⟨e,H,D⟩:=g9 D;have I:=(hE.ti t ti ht).desc;unfold H3 at I;rw[H]at I;obtain⟨k1,rfl⟩:=R7 hn;obtain⟨k2,rfl⟩:=R7 hm;cases hx.int_inv;cases hy.int_inv;rw[zqa,zqa]at hg;have g1:=B9 hg.1.1;have g2:m*te.bytes<=140737488355328:=B9 hg.1.2;have J:=I5 hg.2;have A:=hE.ti e te D;have hb:=A.pos J;obtain⟨i,z,O,Q,U,V,G⟩:=A.info;have N:z.cells.size=te.size:=by have:=((G.rep W cx).cells G.und).1;simp at this;rw[this];exact A.zsz
 have hm47:m<=140737488355328:=Nat.le_trans (zqk m hb) g2;have B:=Qh (W:=W) (cx:=cx) G A.zsz J n (c:=madeCells z.cells (m*te.size)) (fun k H=>rangeMap_get N J _ k (zqn H (zqb _ g1)));obtain⟨cx',X,Y,aa⟩:=Sh hs (t:=e) (c:=madeCells z.cells (m*te.size)) (n:=n) (cap:=m) B.1 B.2 (by simp_all[size_madeCells,zqb]) g1 (by simp_all[size_madeCells]);rw[m8];refine⟨_,_,cx',?_,X,Y,aa⟩;have C:=run_make (P:=P) W t e i z I O V k1 k2 (n:Int) (m:Int) (by omega) (by omega) (by
  rw[U]
  have:(te.bytes:Int)*(m:Int)=((m*te.bytes:Nat):Int):=by rw[zqg];simp
  rw[this];omega) (by omega)
 rw[Q]at C;simpa using C
theorem Vr(hE:EnvOk E P)(hs:Sat E W cx h){t:Nat}{ti te:TI}(ht:E.ti t=zs ti)(D:elemOfT E ti.desc=zs te){x y:Value}{a b:AV}{n m:Nat}(hx:Rep W cx x a)(hy:Rep W cx y b)
 (hn:asNat a=zs n)(hm:asNat b=zs m)(hg:(Nat.ble n m&&Nat.ble (Nat.mul m te.bytes) 140737488355328&&Nat.blt 0 te.size)=zt):
 ∃(e:Nat)(H:Array Value)(vs:List Value),(Instr.makeSlice t x y).run P W=.ok (.slice (zs ⟨W.heap.size,0,zn⟩) n m) (W.alloc (.cells H e))/\RowRep W cx vs (repL n te.zero) te.size/\(∀(k:Nat) v,vs[k]?=zs v->H[k]?=zs v)/\n<=m/\H.size=m*te.size:=by
 obtain⟨e,I,D⟩:=g9 D;have J:=(hE.ti t ti ht).desc;unfold H3 at J;rw[I]at J;obtain⟨k1,rfl⟩:=R7 hn;obtain⟨k2,rfl⟩:=R7 hm;cases hx.int_inv;cases hy.int_inv;rw[zqa,zqa]at hg;have Y:=B9 hg.1.1;have g2:m*te.bytes<=140737488355328:=B9 hg.1.2;have N:=I5 hg.2;have A:=hE.ti e te D;have hb:=A.pos N;obtain⟨i,z,Q,U,V,X,G⟩:=A.info;have O:z.cells.size=te.size:=by have:=((G.rep W cx).cells G.und).1;simp at this;rw[this];exact A.zsz
 have hm47:m<=140737488355328:=Nat.le_trans (zqk m hb) g2;have B:=Qh (W:=W) (cx:=cx) G A.zsz N n (c:=madeCells z.cells (m*te.size)) (fun k I=>rangeMap_get O N _ k (zqn I (zqb _ Y)));rw[m8];refine⟨e,madeCells z.cells (m*te.size),_,?_,B.1,B.2,Y,by rw[size_madeCells]⟩;have C:=run_make (P:=P) W t e i z J Q X k1 k2 (n:Int) (m:Int) (by omega) (by omega) (by
  rw[V]
  have:(te.bytes:Int)*(m:Int)=((m*te.bytes:Nat):Int):=by rw[zqg];simp
  rw[this];omega) (by omega)
 rw[U]at C;simpa using C
structure AppIn(P:Program)(W:World)(argTypes:Array TypeId)(args:Array Value)(e:TypeId)(i:TypeInfo)(z:Value)(base:Option Addr)(sLen sCap n:Nat)(news:List Value):Prop where
 t:∃t,argTypes[0]?=zs t/\P.underlying t=zs (.slice e)
 s:args[0]?=zs (.slice base sLen sCap)
 info:P.info? e=zs i
 zero:i.zero=zs z
 x:∃x tx d,args[1]?=zs x/\argTypes[1]?=zs tx/\P.underlying tx=zs d/\
  (((∀k,d≠.int k)/\(∃a c,x=.slice a n c)/\∀W':World,W'.heap=W.heap->(Builtin.firstCells i.size n x).run P W'=.ok news.toArray W')\/
   (∃k,d=.int k/\(∃k',x=.int k' (n:Int))/\n*i.bytes<=140737488355328/\n<=140737488355328/\(if n*i.size=0 then []else(Builtin.zeroCells z.cells n).toList)=news))
theorem Ou{argTypes:Array TypeId}{ty:TypeId}{args:Array Value}{e:TypeId}{i:TypeInfo}{z:Value}{base:Option Addr}{sLen sCap n:Nat}{news:List Value}
 (ha:AppIn P W argTypes args e i z base sLen sCap n news)(hroom:sLen+n<=sCap){W':World}
 (hst:∀a,base=zs a->(storeCells (a.add (sLen*i.size)) news).run P W=.ok () W')(hnone:base=zn->W'=W):
 (Builtin.append_ argTypes ty args).run P W=.ok (.slice base (sLen+n) sCap) W':=by
 obtain⟨t,A,N⟩:=ha.t;obtain⟨x,tx,d,B,C,O,Q⟩:=ha.x;have D:∀W:World,(underlying t).run P W=.ok (.slice e) W:=fun W=>A2 N
 have r2:∀W:World,(underlying tx).run P W=.ok d W:=fun W=>A2 O
 have G:∀W:World,(typeInfo e).run P W=.ok i W:=fun W=>by simp[typeInfo,ha.info]
 have H:∀W:World,(sizeOf e).run P W=.ok i.size W:=fun W=>by simp[sizeOf,G]
 have V:∀W:World,(zeroValue e).run P W=.ok z W:=fun W=>by simp[zeroValue,G,ha.zero]
 rcases Q with⟨hd,⟨a,c,rfl⟩,hf⟩|⟨k,rfl,⟨k',rfl⟩,hb,hn,hz⟩
 . have X:(match d with | .int _=>zt|_=>zf)=zf:=by simp_all
   have hf:=hf W rfl;cases base with
   |none=>
    have:=hnone rfl
    subst this;simp[Builtin.append_,A,ha.s,B,C,D,r2,H,X,Builtin.lenOf,hroom,hf]
   |some U=>
    have:=hst U rfl
    simp[Builtin.append_,A,ha.s,B,C,D,r2,H,X,Builtin.lenOf,hroom,hf,this]
 . have c0:¬((n:Int)<0):=by omega
   have I:IntKind.i64.wrap (n:Int)=(n:Int):=by rw[IntKind.wrap_i64];omega
   have J:¬(281474976710656<(n:Int)*(i.bytes:Int)):=by
    grind
   cases base with
   |none=>
    have:=hnone rfl
    subst this;by_cases h0:n*i.size=0
    . simp[Builtin.append_,A,ha.s,B,C,D,r2,G,H,hroom,asInt,asIntOf,I,c0,J,h0]
    . simp[Builtin.append_,A,ha.s,B,C,D,r2,G,H,V,hroom,asInt,asIntOf,I,c0,J,h0]
   |some U=>
    have:=hst U rfl
    by_cases h0:n*i.size=0
    . rw[if_pos h0]at hz;subst hz
      simp[Builtin.append_,A,ha.s,B,C,D,r2,G,H,hroom,asInt,asIntOf,I,c0,J,h0,this]
    . rw[if_neg h0]at hz;subst hz
      simp[Builtin.append_,A,ha.s,B,C,D,r2,G,H,V,hroom,asInt,asIntOf,I,c0,J,h0,this]
theorem eA{argTypes:Array TypeId}{ty:TypeId}{args:Array Value}{e:TypeId}{i:TypeInfo}{z:Value}{base:Option Addr}{sLen sCap n:Nat}{C news:List Value}
 (ha:AppIn P W argTypes args e i z base sLen sCap n news)(hold:∀W':World,W'.heap=W.heap->(Builtin.firstCells i.size sLen (.slice base sLen sCap)).run P W'=.ok C.toArray W')(hroom:sCap<sLen+n)(h63:sLen+n<=9223372036854775807)(hfit:(sLen+n)*i.bytes<=140737488355328):
 (Builtin.append_ argTypes ty args).run P W=.ok (.slice (zs ⟨W.heap.size,0,zn⟩) (sLen+n) (grownCap W (sLen+n) sCap e))
   (W.drew.alloc (.cells (C.toArray++news.toArray++Builtin.zeroCells z.cells (grownCap W (sLen+n) sCap e-(sLen+n))) e)):=by
 obtain⟨t,D,Q⟩:=ha.t;obtain⟨x,tx,d,G,H,U,V⟩:=ha.x;have J:∀W:World,(underlying t).run P W=.ok (.slice e) W:=fun W=>A2 Q
 have r2:∀W:World,(underlying tx).run P W=.ok d W:=fun W=>A2 U
 have I:∀W:World,(typeInfo e).run P W=.ok i W:=fun W=>by simp[typeInfo,ha.info]
 have N:∀W:World,(sizeOf e).run P W=.ok i.size W:=fun W=>by simp[sizeOf,I]
 have O:∀W:World,(zeroValue e).run P W=.ok z W:=fun W=>by simp[zeroValue,I,ha.zero]
 have hn:¬(sLen+n<=sCap):=by omega
 have A:¬(9223372036854775807<((sLen:Int)+(n:Int))):=by omega
 have B:¬(281474976710656<Builtin.nextslicecap (sLen+n) sCap*i.bytes):=by simp_all[growslice_fits]
 have ho:=hold W.drew rfl;rcases V with⟨hd,⟨a,c,rfl⟩,hf⟩|⟨k,rfl,⟨k',rfl⟩,hb,hnn,hz⟩
 . have hm:(match d with | .int _=>zt|_=>zf)=zf:=by simp_all
   have hf:=hf W.drew rfl;simp[Builtin.append_,D,ha.s,G,H,J,r2,I,N,O,Builtin.lenOf,hn,A,B,Question.forced,hf,ho,newRow,grownCap];grind
 . have c0:¬((n:Int)<0):=by omega
   have X:IntKind.i64.wrap (n:Int)=(n:Int):=by rw[IntKind.wrap_i64];omega
   have Y:¬(281474976710656<(n:Int)*(i.bytes:Int)):=by
    grind
   by_cases h0:n*i.size=0
   . rw[if_pos h0]at hz;subst hz
     simp[Builtin.append_,D,ha.s,G,H,J,r2,I,N,O,hn,A,B,Question.forced,ho,newRow,grownCap,asInt,asIntOf,X,c0,Y,h0]
   . rw[if_neg h0]at hz;subst hz
     simp[Builtin.append_,D,ha.s,G,H,J,r2,I,N,O,hn,A,B,Question.forced,ho,newRow,grownCap,asInt,asIntOf,X,c0,Y,h0]
theorem Zp(w:World)(A old:Nat)(e:TypeId):A<=grownCap w A old e:=by
 simp_all[grownCap,Question.cut]
theorem Bq(hE:EnvOk E P)(O:Sat E W cx h){e:Nat}{te:TI}(aw:E.ti e=zs te){argTypes:Array TypeId}{ty:TypeId}{args:Array Value}{t tx:Nat}{dx:TypeDesc}
 (ht1:argTypes[0]?=zs t)(ht2:P.underlying t=zs (.slice e))(hx2:argTypes[1]?=zs tx)(hx3:P.underlying tx=zs dx)
 {sv xv:Value}{s r:AV}(ha1:args[0]?=zs sv)(ha2:args[1]?=zs xv)(hsv:Rep W cx sv s){xs:List AV}{us:List Value}(hur:RowRep W cx us xs te.size)
 (hx:((∀k,dx≠.int k)/\(∃a c,xv=.slice a xs.length c)/\∀W':World,W'.heap=W.heap->(Builtin.firstCells te.size xs.length xv).run P W'=.ok us.toArray W')\/
   (∃k,dx=.int k/\(∃k',xv=.int k' (xs.length:Int))/\xs.length*te.bytes<=140737488355328/\xs.length<=140737488355328/\∀z i,P.info? e=zs i->i.zero=zs z->(if xs.length*te.size=0 then []else(Builtin.zeroCells z.cells xs.length).toList)=us))
 (hone:Vj us) (hpos:0<te.bytes) {h':Heap} (hnl:s≠.nilsl\/xs=[]) (A:G9 te s xs h=zs (r,h')):
 ∃v W' cx',(Builtin.append_ argTypes ty args).run P W=.ok v W'/\Ext W cx W' cx'/\Sat E W' cx' h'/\Rep W' cx' v r:=by
 have al:=hE.ti e te aw;obtain⟨i,z,a9,ap,ba,bb,aq⟩:=al.info;have Q:∀{base:Option Addr}{sLen sCap:Nat},sv=.slice base sLen sCap->AppIn P W argTypes args e i z base sLen sCap xs.length us:=by
  intro base sLen sCap C;refine⟨⟨t,ht1,ht2⟩,C▸ha1,a9,bb,⟨xv,tx,dx,ha2,hx2,hx3,?_⟩⟩;grind
 have ae:∀{base:Option Addr}{sLen sCap:Nat}{G:List Value}{es:List AV}{h0:Heap},sv=.slice base sLen sCap->Sat E W cx h0->h0.next=h.next ->
  (∀W':World,W'.heap=W.heap->(Builtin.firstCells te.size sLen (.slice base sLen sCap)).run P W'=.ok G.toArray W')->RowRep W cx G es te.size->es.length=sLen ->
  sCap<sLen+xs.length->(sLen+xs.length)*te.bytes<=140737488355328->r=.msl h.next 0 (sLen+xs.length) te.size->h'=h0.push (.row (es++xs) te.size) ->
  ∃v W' cx',(Builtin.append_ argTypes ty args).run P W=.ok v W'/\Ext W cx W' cx'/\Sat E W' cx' h'/\Rep W' cx' v r:=by
  intro base sLen sCap G es h0 C ax hnx hold ak Y D ac hr hh;have ay:sLen+xs.length<=9223372036854775807:=by
   have:=zqk (sLen+xs.length) hpos;omega
  have H:=eA (ty:=ty) (Q C) (ap.symm▸hold) D ay (ba▸ac);have am:Ext W cx W.drew cx:=Ext.of_heap rfl ⟨rfl,rfl,rfl⟩;have az:Sat E W.drew cx h0:=ax.mono rfl;have B:=(ak.append hur).mono am;have an:=Zp W (sLen+xs.length) sCap e;have a0:z.cells.size=te.size:=by have:=((aq.rep W cx).cells aq.und).1;simp at this;rw[this];exact al.zsz
  have af:(G.toArray++us.toArray++Builtin.zeroCells z.cells (grownCap W (sLen+xs.length) sCap e-(sLen+xs.length))).size=grownCap W (sLen+xs.length) sCap e*te.size:=by
   have h1:=ak.len;have h2:=hur.len;simp only[Array.size_append,List.size_toArray,Builtin.zeroCells,Array.size_map,Array.size_range,a0,h1,h2,Y];rw[<-zqd,<-zqd]
   congr 1;omega
  obtain ⟨cx',k1,k2,k3⟩:=Sh az (t:=e) (n:=sLen+xs.length) (cap:=grownCap W (sLen+xs.length) sCap e) B
   (c:=G.toArray++us.toArray++Builtin.zeroCells z.cells (grownCap W (sLen+xs.length) sCap e-(sLen+xs.length)))
   (by grind)
   (by rw[af,zkf,Y];exact zqb _ an) an (by rw[af];exact zqc _)
  refine⟨_,_,cx',H,am.trans k1,?_,?_⟩
  . grind
  simp_all
 cases ab:xs with
 |nil=>
  subst ab;have a1:us=[]:=zqw (by have:=hur.len;grind);have same:r=s->h'=h->∀{base:Option Addr}{sLen sCap:Nat},sv=.slice base sLen sCap->sLen<=sCap ->
   ∃v W' cx',(Builtin.append_ argTypes ty args).run P W=.ok v W'/\Ext W cx W' cx'/\Sat E W' cx' h'/\Rep W' cx' v r:=by
   intro hr hh base sLen sCap C hlc;have H:=Ou (ty:=ty) (Q C) (by grind) (W':=W) (fun a _=>by rw[a1];rfl) (fun _=>rfl);refine⟨_,W,cx,H,Ext.refl _ _,by rw[hh];exact O,?_⟩;rw[hr];simp only[List.length_nil,zqi];rw[<-C];exact hsv
  cases s with
  |fsl es f=>
   have A:=Option.some.inj A;simp only[Prod.mk.injEq]at A;obtain⟨ad,cap,vs,sz,e1,e2,_⟩:=Z7 (P:=P) O hsv (rfl:elems (.fsl es f) h=zs es);exact same A.1.symm A.2.symm e1 e2
  |msl id off n sz=>
   have A:=Option.some.inj A;simp only[Prod.mk.injEq]at A;cases hsv with
   |msl ad n cap id off sz hid hz hb hc ha hnn=>grind
  |nilsl=>
   have A:=Option.some.inj A;simp only[Prod.mk.injEq]at A;cases hsv with
   |nilsl=>grind
  |_=>cases A
 |cons x0 xr=>
  rw[ab]at A;cases s with
  |fsl es full=>
   have A:Ay te es full (x0::xr) h=zs (r,h'):=A;rw[Ja]at A;rw[B7]at A;obtain⟨hg,A⟩:=A6 A;rw[<-ab]at hg A;rw[zqa,zqa,A3,A3]at hg;obtain⟨⟨g1,g2⟩,g3⟩:=hg;have g2:(es.length+xs.length)*te.bytes<=140737488355328:=B9 g2;simp only[Option.some.injEq,Prod.mk.injEq,A3,L7]at A;obtain⟨ad,cap,vs,sz,e1,e2,B,aj⟩:=Z7 (P:=P) O hsv (rfl:elems (.fsl es full) h=zs es);have hcap:cap=es.length:=by
    have key:∀{v:Value},Rep W cx v (.fsl es full)->v=.slice ad es.length cap->cap=es.length:=by
     intro v hv he;cases hv with
     |fsl ad' b o n cap' es' full' bc g hn hc hf ha hsz hcell hone hrep _=>grind
    grind
   have U:∀e∈es,e.cells.length=te.size:=by
    intro e' ah;obtain⟨k,hk⟩:=zqz ah;cases es with
    |nil=>simp at ah
    |cons e0 r0=>
     have g3:Nat.beq (lenL e0.cells) te.size=zt:=g3;rw[A3]at g3;rw[B.size k e' hk,<-B.size 0 e0 rfl];simp_all
   have J:RowRep W cx vs es te.size:=by
    cases es with
    |nil=>exact⟨by have:=B.len;grind,by simp,by simp⟩
    |cons e0 r0=>
     have:sz=te.size:=by rw[<-B.size 0 e0 rfl];grind
     grind
   have a4:0<xs.length:=by grind
   refine ae e1 O rfl (fun W' ai=>?_) J rfl (by omega) g2 A.1.symm A.2.symm
   have:=aj W' ai es.length te.size (zqc _) U
   rw[<-B.len,List.take_length,e1]at this;exact this
  |msl id off n sz=>
   have A:h.onRow id zn (Ki te id off n (x0::xr) h)=zs (r,h'):=A;obtain⟨es,bc,aa,A⟩:=Heap.onRow_some A;rw[Rk]at A;rw[B7]at A;obtain⟨hg,A⟩:=A6 A;rw[<-ab]at hg A;rw[zqa,zqa,A3,A3]at hg;obtain⟨⟨g1,g2⟩,g3⟩:=hg;have g1:off+n<=es.length:=B9 g1;have g2:=C4 g2;have g3:(n+xs.length)*te.bytes<=140737488355328:=B9 g3;subst g2;simp only[Option.some.injEq,Prod.mk.injEq,A3,L7,G4,G3]at A;obtain⟨_,ar,ag,au⟩:=O.objs id _ aa;have Y:elems (.msl id off n sz) h=zs ((es.drop off).take n):=by
    show h.onRow id zn _=_
    unfold Heap.onRow;rw[aa];show(bif Nat.ble (Nat.add off n) (lenL es)then zs (takeL (dropL es off) n)else zn)=_
    simp_all[zqo,A3,G4,G3]
   have I:((es.drop off).take n).length=n:=by grind
   obtain ⟨ad,cap,vs,av,e1,e2,B,aj⟩:=Z7 (P:=P) O hsv Y;obtain⟨h1,c,t',hh,ac,N⟩:=au.row;have U:∀e∈(es.drop off).take n,e.cells.length=te.size:=by
    intro e' ah;have hm:e'∈es:=(by grind)
    obtain⟨k,hk⟩:=zqz hm;exact N.size k e' hk
   have a4:0<xs.length:=by grind
   rw[I]at e1 e2;by_cases D:n+xs.length<=cap
   . -- in place
     have hsz:sz=te.size:=by
      rw[e1]at hsv;cases hsv with
      |msl ad n cap id off sz hid hz hb hc ha hnn=>grind
     have ao:ad=zs ⟨(cx.μ id).1,(cx.μ id).2.1+off*te.size,zn⟩/\(cx.μ id).2.1+(off+cap)*te.size<=c.size:=by
      rw[e1]at hsv;cases hsv with
      |msl ad n cap id off sz hid hz hb hc ha hnn=>
       grind[szOf]
     obtain⟨rfl,hcapfit⟩:=ao;have hul:=hur.len;have hroom':=zqb te.size (show off+(n+xs.length)<=off+cap by omega);have e5:(off+(n+xs.length))*te.size=off*te.size+n*te.size+xs.length*te.size:=by grind
     have a5:=g8 (P:=P) us ((cx.μ id).2.1+off*te.size+n*te.size) 0 c W hh hone (by grind);have H:=Ou (ty:=ty) (Q e1) D (W':=setBlock W (cx.μ id).1 (.cells (putC c ((cx.μ id).2.1+off*te.size+n*te.size) us) t' (0,0)))
      (fun a ha=>by cases ha;rw[add_addr,ap];exact a5) (fun h=>by cases h)
     have V:Ext W cx (setBlock W (cx.μ id).1 (.cells (putC c ((cx.μ id).2.1+off*te.size+n*te.size) us) t' (0,0))) cx:=
      Ext.set _ ar (O.free _ _ aa) (fun c0 t0 f0 e=>by rw[hh]at e;cases e;exact⟨_,_,_,rfl,Y9 _ _ _⟩) (fun hn=>absurd hh (hn _ _ _))
     have X:=V.move (cx.μ id).1 ((cx.μ id).2.1+off*te.size) te.size;refine⟨_,_,_,H,X,?_,?_⟩
     . rw [<-A.2]
       refine O.move V aa _ ((cx.μ id).2.1+off*te.size) te.size (by grind[Go.AM.setBlock_ne]) ?_;refine N8.mk (t:=t') (c:=putC c ((cx.μ id).2.1+off*te.size+n*te.size) us) rfl (o7 W _ ag) ?_ (fun k v hk=>?_) ((((N.drop off).take n).append hur).mono X)
       . rw[Y9,zkf,I]
         grind
       . show(putC c ((cx.μ id).2.1+off*te.size+n*te.size) us)[(cx.μ id).2.1+off*te.size+k]?=zs v
         rw[Fx (by grind)];have a6:=((N.drop off).take n).len;rw[I]at a6;rw[zqq]at hk;grind
     . rw[<-A.1]
       have hid:h.next<(cx.move (cx.μ id).1 ((cx.μ id).2.1+off*te.size) te.size).nx:=by rw[O.nx];exact zqj _
       have hm:=Cx.move_new cx (cx.μ id).1 ((cx.μ id).2.1+off*te.size) te.size;rw[<-O.nx]at hm;refine .msl _ (n+xs.length) cap h.next 0 te.size hid (by rw[hm]) (by grind[Ib]) D (fun _=>⟨by grind,?_⟩) (by simp);rw[hm];show(cx.μ id).2.1+off*te.size+(0+cap)*te.size<=szOf _ (cx.μ id).1
       rw[V.shape _ ag];grind[szOf]
   . have J:RowRep W cx vs ((es.drop off).take n) te.size:=by
      refine⟨?_,(by grind),fun k e' j c' hk hj=>?_⟩
      . rcases zqh n with h0|h0
        . have:=B.len;grind
        . have a7:0<((es.drop off).take n).length:=by omega
          have e3:=zqp a7
          have:av=te.size:=by rw[<-B.size 0 _ e3];grind
          rw[<-this];exact B.len
      . have:av=te.size:=by rw[<-B.size k e' hk];grind
        rw[<-this];exact B.cell k e' j c' hk hj
     refine ae (h0:=h.del id) e1 (O.del id) rfl (fun W' ai=>?_) J I (by omega) g3 A.1.symm A.2.symm
     have:=aj W' ai n te.size (by rw[I];exact zqc _) U
     have hl2:=B.len;grind
  |nilsl=>grind
  |_=>cases A
theorem Lf(hE:EnvOk E P)(B:Sat E W cx h){e:Nat}{te:TI}(A:E.ti e=zs te){argTypes:Array TypeId}{ty:TypeId}{args:Array Value}{t tx:Nat}{C:TypeDesc}
 (ht1:argTypes[0]?=zs t)(ht2:P.underlying t=zs (.slice e))(hx2:argTypes[1]?=zs tx)(hx3:P.underlying tx=zs C)
 {sv xv:Value}{s r:AV}(ha1:args[0]?=zs sv)(ha2:args[1]?=zs xv)(hsv:Rep W cx sv s){xs:List AV}{us:List Value}(hur:RowRep W cx us xs te.size)
 (hx:((∀k,C≠.int k)/\(∃a c,xv=.slice a xs.length c)/\∀W':World,W'.heap=W.heap->(Builtin.firstCells te.size xs.length xv).run P W'=.ok us.toArray W')\/
   (∃k,C=.int k/\(∃k',xv=.int k' (xs.length:Int))/\xs.length*te.bytes<=140737488355328/\xs.length<=140737488355328/\∀z i,P.info? e=zs i->i.zero=zs z->(if xs.length*te.size=0 then []else(Builtin.zeroCells z.cells xs.length).toList)=us))
 (hone:Vj us) (hpos:0<te.bytes) {h':Heap} (hap:G9 te s xs h=zs (r,h')):
 ∃v W' cx',(Builtin.append_ argTypes ty args).run P W=.ok v W'/\Ext W cx W' cx'/\Sat E W' cx' h'/\Rep W' cx' v r:=by
 by_cases hn:s=.nilsl
 . subst hn
   by_cases D:xs=[]
   . exact Bq hE B A ht1 ht2 hx2 hx3 ha1 ha2 hsv hur hx hone hpos (.inr D) hap
   . have e:G9 te .nilsl xs h=G9 te (.fsl [] zt) xs h:=by
      cases xs with
      |nil=>grind
      |cons x xs=>rfl
     rw[e]at hap;exact Bq hE B A ht1 ht2 hx2 hx3 ha1 ha2 hsv.nil_fsl hur hx hone hpos (.inl (by simp)) hap
 . exact Bq hE B A ht1 ht2 hx2 hx3 ha1 ha2 hsv hur hx hone hpos (.inl hn) hap
end
end Go.AM
/-
 The abstract machine: copy,len,max,min; maps.
-/
namespace Go.AM
section
variable {P:Program}{E:Env}{W:World}{cx:Cx}{h:Heap}
theorem RowRep.oneL{vs:List Value}{es:List AV}{sz:Nat}(A:RowRep W cx vs es sz):Vj vs:=by
 intro v G;obtain⟨k,I⟩:=zqz G;have B:=V5 I;rw[A.len]at B;have C:0<sz:=by
  grind
 have hi:k/sz<es.length:=by simp_all[zql]
 have H:k%sz<sz:=zqf _ C;have e1:=zqp hi;have D:k%sz<es[k/sz].cells.length:=by rw[A.size _ _ e1];exact H
 obtain⟨u,h1,h2,_⟩:=A.cell (k/sz) _ (k%sz) _ e1 (zqp D);grind[zqm]
theorem jA(hE:EnvOk E P)(O:Sat E W cx h){e:Nat}{te:TI}(al:E.ti e=zs te){argTypes:Array TypeId}{ty:TypeId}{args:Array Value}{t:Nat}
 (ht1:argTypes[0]?=zs t)(ht2:P.underlying t=zs (.slice e)){dv sv:Value}{d s r:AV}(ha1:args[0]?=zs dv)(ha2:args[1]?=zs sv)(hdv:Rep W cx dv d)(hsv:Rep W cx sv s)
 {xs:List AV}(hel:elems s h=zs xs)(hall:F2 te.size xs=zt){h':Heap}(hc:cV te d xs h=zs (r,h')):
 ∃v W' cx',(Builtin.copy_ argTypes ty args).run P W=.ok v W'/\Ext W cx W' cx'/\Sat E W' cx' h'/\Rep W' cx' v r:=by
 have U:=hE.ti e te al;rw[o5]at hall;cases d with
 |msl id off n aj=>
  obtain ⟨es,sz,N,hc⟩:=Heap.onRow_some hc;unfold Kj at hc;rw[B7]at hc;obtain⟨hg,hc⟩:=A6 hc;rw[zqa,A3]at hg;have g1:off+n<=es.length:=B9 hg.1;have g2:=C4 hg.2;subst g2;have hk:(bif Nat.ble n (lenL xs)then n else lenL xs)=min n xs.length:=by
   grind[A3,B9,zqo]
  rw[hk]at hc;generalize hkk:min n xs.length=k at hc;have hkn:k<=n:=by omega
  have am:k<=xs.length:=by omega
  simp only[Option.some.injEq,Prod.mk.injEq,L7,G4,G3]at hc;have V:=hc;obtain⟨_,ae,af,ag⟩:=O.objs id _ N;obtain⟨h1,c,t',hh,hfit,G⟩:=ag.row;obtain⟨au,ah,us,A,e1,e2,ai,B⟩:=Z7 (P:=P) O hsv hel;have B:=B W rfl k te.size am hall;cases hdv with
  |msl ad n cap id off aj hid hz hb hcn ha hnn=>
   have X:aj=te.size:=by grind
   subst X;have D:RowRep W cx (us.take (k*A)) (xs.take k) te.size:=by
    have:=ai.take k
    cases ak:xs.take k with
    |nil=>
     rw[ak]at this;exact⟨by grind,by simp,by simp⟩
    |cons x0 xr=>
     rw[ak]at this;have hx0:x0∈xs:=(by grind[zqv])
     have:A=te.size:=by rw[<-this.size 0 x0 rfl];grind
     grind
   have hone:=D.oneL;have Y:=D.len;have an:(xs.take k).length=k:=by grind
   rw [an]at Y;have C:(us.take (k*A)).length=k*te.size:=Y;have hkfit:off*te.size+k*te.size<=es.length*te.size:=by
    rw[<-zqd];exact zqb _ (by omega)
   have aa:=g8 (P:=P) (us.take (k*A)) ((cx.μ id).2.1+off*te.size) 0 c W hh hone (by grind);have H:Ext W cx (setBlock W (cx.μ id).1 (.cells (putC c ((cx.μ id).2.1+off*te.size) (us.take (k*A))) t' (0,0))) cx:=
    Ext.set _ ae (O.free _ _ N) (fun c0 t0 f0 e=>by rw[hh]at e;cases e;exact⟨_,_,_,rfl,Y9 _ _ _⟩) (fun hn=>absurd hh (hn _ _ _))
   have hsat:Sat E (setBlock W (cx.μ id).1 (.cells (putC c ((cx.μ id).2.1+off*te.size) (us.take (k*A))) t' (0,0))) cx h':=by
    rw[<-V.2];refine O.set H N _ (by grind[Go.AM.setBlock_ne]) ?_;have ab:=((G.take off).append (D.append (G.drop (off+k)))).mono H;have hrl:=G.len;refine N8.mk (t:=t') (c:=putC c ((cx.μ id).2.1+off*te.size) (us.take (k*A))) h1 (o7 W _ af) ?_ (fun q v Q=>?_) ab
    . rw [Y9]
      have:(es.take off++(xs.take k++es.drop (Nat.add off k))).length=es.length:=by
       grind
      grind
    . rw [Fx (by grind),C]
      have ao:(((c.toList.drop (cx.μ id).2.1).take (es.length*te.size)).take (off*te.size)).length=off*te.size:=by
       grind
      have J:∀q v,((c.toList.drop (cx.μ id).2.1).take (es.length*te.size))[q]?=zs v->c[(cx.μ id).2.1+q]?=zs v:=by
       grind
      rw[zqq,ao]at Q;split at Q
      . grind
      . rename_i hq1
        rw[if_neg (by omega)];rw[zqq,C]at Q;split at Q
        . grind
        . rename_i hq2
          rw[if_neg (by omega)];rw[zqt]at Q
          have:=J _ v Q
          grind
   have r1:∀W:World,(underlying t).run P W=.ok (.slice e) W:=fun W=>A2 ht2
   have r4:=U.run_sizeOf (W:=W);have ac:Nat.min xs.length n=k:=by grind
   rw[e1]at B ha2;have hrep:∀W' cx',Rep W' cx' (goInt (k:Int)) r:=fun W' cx'=>by rw[<-V.1];exact .int _ _
   have I:∀W',W'=setBlock W (cx.μ id).1 (.cells (putC c ((cx.μ id).2.1+off*te.size) (us.take (k*A))) t' (0,0))->(Builtin.copy_ argTypes ty args).run P W=.ok (goInt (k:Int)) W' ->
    ∃v W' cx',(Builtin.copy_ argTypes ty args).run P W=.ok v W'/\Ext W cx W' cx'/\Sat E W' cx' h'/\Rep W' cx' v r:=by
    grind
   rcases zqh cap with hc0|hcp
   . have ap:k=0:=by omega
     subst ap;have aq:us.take (0*A)=[]:=by simp
     have ar:setBlock W (cx.μ id).1 (.cells (putC c ((cx.μ id).2.1+off*te.size) (us.take (0*A))) t' (0,0))=W:=by
      rw[aq]at aa|-;simp only[storeCells]at aa
      have:(pure ():Sem Unit).run P W=.ok () W:=rfl
      grind
     refine I W ar.symm ?_;cases ad with
     |none=>grind
     |some a0=>simp[Builtin.copy_,ht1,ha1,ha2,r1,r4,Builtin.lenOf,ac,B,storeCells]
   . obtain⟨rfl,_⟩:=ha (by omega)
     refine I _ rfl ?_;simp_all[Builtin.copy_,Builtin.lenOf]
 |nilsl=>
  obtain⟨au,ah,us,A,e1,e2,ai,B⟩:=Z7 (P:=P) O hsv hel;have B:=B W rfl 0 te.size (Nat.zero_le _) hall;have r1:∀W:World,(underlying t).run P W=.ok (.slice e) W:=fun W=>A2 ht2
  have r4:=U.run_sizeOf (W:=W);rw[e1]at B ha2;cases hdv;cases hc;exact⟨goInt 0,W,cx,by simp_all[Builtin.copy_,Builtin.lenOf],.refl _ _,O,.int _ _⟩
 |_=>cases hc
theorem pD(hE:EnvOk E P)(J:Sat E W cx h){t:Nat}{ti:TI}(N:E.ti t=zs ti){argTypes:Array TypeId}{ty:TypeId}{args:Array Value}(A:argTypes[0]?=zs t){xv:Value}{x:AV}(B:args[0]?=zs xv)
 (hxv:Rep W cx xv x){n:Nat}(hl:iH ti.desc x h=zs n):(Builtin.len_ argTypes ty args).run P W=.ok (goInt (n:Int)) W:=by
 have C:=(hE.ti t ti N).desc;unfold H3 at C;cases H:ti.desc with
 |string=>
  rw[H]at hl C;have D:∀W:World,(underlying t).run P W=.ok .string W:=fun W=>A2 C
  obtain⟨l,e,hl⟩:=J7 (v:=x) hl;subst e;cases hl;obtain⟨s,rfl,I⟩:=hxv.str_inv
  have:s.size=r6 l:=by rw[x4,<-I];exact zkh.symm
  simp[Builtin.len_,A,B,D,this]
 |slice e=>
  rw[H]at hl C;have D:∀W:World,(underlying t).run P W=.ok (.slice e) W:=fun W=>A2 C
  cases hxv with
  |fsl Q b o n' cap es full sz g hn hc hf ha hsz hcell hone hrep hnn=>
   have hl:zs (lenL es)=zs n:=hl;simp_all[Builtin.len_,A3]
  |nilsl=>
   have hl:zs 0=zs n:=hl;simp_all[Builtin.len_]
  |msl Q n' cap id off sz hid hz hb hc ha hnn=>
   have hl:zs n'=zs n:=hl;cases hl;simp[Builtin.len_,A,B,D]
  |_=>cases hl
 |map k e=>
  rw[H]at hl C;have D:∀W:World,(underlying t).run P W=.ok (.map k e) W:=fun W=>A2 C
  cases hxv with
  |nilmap=>
   have hl:zs 0=zs n:=hl;cases hl;simp[Builtin.len_,A,B,D]
  |map id hid hb=>
   have hl:h.onMapo id zn (fun es=>zs (oP es))=zs n:=hl;obtain⟨es,hg,hl⟩:=Heap.onMapo_some hl;cases hl;obtain⟨_,_,_,G,clock,l,h1,O,h2,_⟩:=J.objs id _ hg;have h2:G.size=es.length:=by have:=O.length_eq;grind
   simp_all[getObj,Sem.run,Builtin.len_,Qf]
  |_=>cases hl
 |_=>rw[H]at hl;cases hl
theorem Xd:∀{l:List AV}{vs:List Value}{x r:AV}{xv:Value},RepL W cx vs l->Rep W cx xv x->Mw l x=zs r->∃v,(vs.foldlM Builtin.max2 xv).run P W=.ok v W/\Rep W cx v r
 |[],vs,x,r,xv,hl,hx,h=>by
  have:vs=[]:=zqw (by have:=hl.1;grind)
  subst this;cases h;simp_all
 |y :: l,vs,x,r,xv,hl,hx,h=>by
  obtain⟨k,a,e,h⟩:=B4 (v:=x) h;obtain⟨k',b,B,h'⟩:=B4 (v:=y) (f:=fun _ b=>Mw l (.int k (bif intLe b a then a else b))) h;subst e B;cases vs with
  |nil=>have:=hl.1;simp at this
  |cons u vs=>
   cases hx.int_inv;cases (hl.2 0 u _ rfl rfl).int_inv;have hm:(Builtin.max2 (.int k a) (.int k' b)).run P W=.ok (.int k (bif intLe b a then a else b)) W:=by
    rw[N7];by_cases A:b<=a
    . have:¬b>a:=by omega
      simp[Builtin.max2,A,this]
    . have:b>a:=by omega
      simp[Builtin.max2,A,this]
   obtain⟨v,h1,h2⟩:=Xd (vs:=vs) (xv:=.int k (bif intLe b a then a else b)) ⟨by have:=hl.1;grind,fun i v c h1 h2=>hl.2 (i+1) v c (by grind) (by grind)⟩ (.int _ _) h';simp_all
theorem Xe:∀{l:List AV}{vs:List Value}{x r:AV}{xv:Value},RepL W cx vs l->Rep W cx xv x->Pe l x=zs r->∃v,(vs.foldlM Builtin.min2 xv).run P W=.ok v W/\Rep W cx v r
 |[],vs,x,r,xv,hl,hx,h=>by
  have:vs=[]:=zqw (by have:=hl.1;grind)
  subst this;cases h;simp_all
 |y :: l,vs,x,r,xv,hl,hx,h=>by
  obtain⟨k,a,e,h⟩:=B4 (v:=x) h;obtain⟨k',b,B,h'⟩:=B4 (v:=y) (f:=fun _ b=>Pe l (.int k (bif intLe a b then a else b))) h;subst e B;cases vs with
  |nil=>have:=hl.1;simp at this
  |cons u vs=>
   cases hx.int_inv;cases (hl.2 0 u _ rfl rfl).int_inv;have hm:(Builtin.min2 (.int k a) (.int k' b)).run P W=.ok (.int k (bif intLe a b then a else b)) W:=by
    rw[N7];by_cases A:a<=b
    . have:¬b<a:=by omega
      simp[Builtin.min2,A,this]
    . have:b<a:=by omega
      simp[Builtin.min2,A,this]
   obtain⟨v,h1,h2⟩:=Xe (vs:=vs) (xv:=.int k (bif intLe a b then a else b)) ⟨by have:=hl.1;grind,fun i v c h1 h2=>hl.2 (i+1) v c (by grind) (by grind)⟩ (.int _ _) h';simp_all
end
end Go.AM
/-
 The abstract machine: maps.
-/
namespace Go.AM
section
variable {P:Program}{E:Env}{W:World}{cx:Cx}{h:Heap}
end
end Go.AM
