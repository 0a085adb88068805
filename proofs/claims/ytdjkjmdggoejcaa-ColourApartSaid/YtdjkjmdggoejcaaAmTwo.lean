/- The abstract machine, part two: each operation on values, rows, slices and maps is sound. Conditions: none. -/
import Derived.Test.YtdjkjmdggoejcaaAmOne
import Derived.Laws.Append
import Derived.Laws.Tables
import Derived.Laws.MakeOwn
set_option linter.unusedVariables false
set_option linter.unusedSectionVars false
set_option linter.unusedSimpArgs false
/-
 The abstract machine: rows of elements,as cells; what is read out of them,and written into them.
set_option maxHeartbeats 4000000
-/
open List renaming length→lz
open Option renaming some→zs,none→zn
open Bool renaming true→zt,false→zf
open Bool renaming and_eq_true→zqa
open Nat renaming mul_le_mul_right→zqb,le_refl→zqc,add_mul→zqd,add_assoc→zqe,mod_lt→zqf,mul_comm→zqg,eq_zero_or_pos→zqh,add_zero→zqi,lt_succ_self→zqj,le_mul_of_pos_right→zqk,div_lt_iff_lt_mul→zql,div_add_mod'→zqm,lt_of_lt_of_le→zqn,ble_eq_true_of_le→zqo
open List renaming getElem?_eq_getElem→zqp,getElem?_append→zqq,range→zqr,getElem?_take→zqs,getElem?_drop→zqt,getElem?_map→zqu,mem_cons_self→zqv,eq_nil_of_length_eq_zero→zqw,mem_of_getElem?→zqx,length_take→zqy,getElem?_of_mem→zqz,length_drop→zka,getElem?_range→zkb,getElem?_set_self→zkc,getElem?_set_ne→zkd,ext_getElem?→zke,length_append→zkf
open Array renaming range→zkg,length_toList→zkh
namespace Go.AM
structure db(W:World)(cx:Cx)(vs:List Value)(es:List AV)(sz:Nat):Prop where
 len:lz vs=lz es*sz
 size:∀(i:Nat) e,es[i]?=zs e->lz e.cells=sz
 cell:∀(i:Nat) e (j:Nat) c,es[i]?=zs e->e.cells[j]?=zs c->∃v,vs[i*sz+j]?=zs v/\v.oneC=zt/\Rep W cx v c
section
variable {W:World}{cx:Cx}
theorem V2{α:Type}{l:List α}{i:Nat}{a:α}(h:l[i]?=zs a):i<lz l:=by
 grind
theorem bK{i j n sz:Nat}(hi:i<n)(hj:j<sz):i*sz+j<n*sz:=by
 have:=zqb sz (show i+1<=n from hi)
 grind
theorem db.mono{W':World}{cx':Cx}(B:Ext W cx W' cx'){vs:List Value}{es:List AV}{sz:Nat}(h:db W cx vs es sz):db W' cx' vs es sz:=
 ⟨h.len,h.size,fun i e j c C D=>let⟨v,a,b,r⟩:=h.cell i e j c C D;⟨v,a,b,r.mono B⟩⟩
theorem db.append{vs vs':List Value}{es es':List AV}{sz:Nat}(h:db W cx vs es sz)(h':db W cx vs' es' sz):db W cx (vs++vs') (es++es') sz where
 len:=by simp[h.len,h'.len,zqd]
 size i e hi:=by
  rw[zqq]at hi;split at hi
  . exact h.size _ _ hi
  . exact h'.size _ _ hi
 cell i e j c hi hj:=by
  have hsz:lz e.cells=sz:=by
   rw[zqq]at hi;split at hi
   . exact h.size _ _ hi
   . exact h'.size _ _ hi
  have B:=V2 hj;rw[hsz]at B;rw[zqq]at hi;split at hi
  . rename_i hl
    obtain⟨v,a,b,r⟩:=h.cell i e j c hi hj;grind
  . rename_i hl
    obtain ⟨v,a,b,r⟩:=h'.cell _ e j c hi hj;refine⟨v,?_,b,r⟩;have e1:i*sz+j=lz vs+((i-lz es)*sz+j):=by
     rw[h.len,Nat.sub_mul]
     have:=zqb sz (show lz es<=i by omega)
     omega
    grind
theorem db.one{us:List Value}{a:AV}{sz:Nat}(h:fc W cx us a.cells)(B:Wl us)(C:lz a.cells=sz):db W cx us [a] sz where
 len:=by simp[h.1,C]
 size i e hi:=by
  grind
 cell i e j c hi hj:=by
  cases i with
  |zero=>
   simp at hi;subst hi;obtain⟨v,D,r⟩:=h.get hj;exact⟨v,by grind,B v (zqx D),r⟩
  |succ i=>simp at hi
theorem db.take{vs:List Value}{es:List AV}{sz:Nat}(h:db W cx vs es sz)(n:Nat):db W cx (vs.take (n*sz)) (es.take n) sz where
 len:=by
  rw[zqy,zqy,h.len,Nat.mul_min_mul_right]
 size i e hi:=by
  rw[zqs]at hi;split at hi
  . exact h.size i e hi
  . cases hi
 cell i e j c hi hj:=by
  rw[zqs]at hi;split at hi
  . rename_i hin
    obtain⟨v,a,b,r⟩:=h.cell i e j c hi hj;have B:=V2 hj;rw[h.size i e hi]at B;simp_all[bK]
  . cases hi
theorem db.drop{vs:List Value}{es:List AV}{sz:Nat}(h:db W cx vs es sz)(n:Nat):db W cx (vs.drop (n*sz)) (es.drop n) sz where
 len:=by rw[zka,zka,h.len,Nat.sub_mul]
 size i e hi:=by rw[zqt]at hi;exact h.size _ e hi
 cell i e j c hi hj:=by
  rw[zqt]at hi;obtain⟨v,a,b,r⟩:=h.cell _ e j c hi hj;grind
theorem db.set{vs:List Value}{es:List AV}{sz:Nat}(h:db W cx vs es sz){us:List Value}{a:AV}(B:db W cx us [a] sz){i:Nat}(hi:i<lz es):
 db W cx (vs.take (i*sz)++(us++vs.drop ((i+1)*sz))) (es.set i a) sz:=by
 have e:es.set i a=es.take i++([a]++es.drop (i+1)):=by
  grind[List.set_eq_take_append_cons_drop]
 rw[e];exact(h.take i).append (B.append (h.drop (i+1)))
theorem N2.row{p:Nat×Nat×Nat}{es:List AV}{sz:Nat}(h:N2 W cx p (.row es sz)):
 p.2.2=sz/\∃(c:Array Value)(t:TypeId),W.heap[p.1]?=zs (.cells c t (0,0))/\p.2.1+lz es*sz<=c.size/\db W cx ((c.toList.drop p.2.1).take (lz es*sz)) es sz:=by
 obtain⟨H,c,t,g,I,J,D,N⟩:=h;refine⟨H,c,t,I,J,⟨?_,D,fun i e j G hi C=>?_⟩⟩
 . grind
 . obtain⟨a,b,r⟩:=N i e j G hi C
   refine⟨g i j,?_,b,r⟩;have B:=V2 C;rw[D i e hi]at B;simp_all[zqs,bK,V2,zqe]
theorem N2.mk{p:Nat×Nat×Nat}{es:List AV}{sz:Nat}{c:Array Value}{t:TypeId}{vs:List Value}(hz:p.2.2=sz)(hh:W.heap[p.1]?=zs (.cells c t (0,0)))
 (hfit:p.2.1+lz es*sz<=c.size)(hsub:∀(k:Nat) v,vs[k]?=zs v->c[p.2.1+k]?=zs v)(hr:db W cx vs es sz):N2 W cx p (.row es sz):=by
 refine⟨hz,c,t,fun i j=>c.getD (p.2.1+i*sz+j) undef,hh,hfit,hr.size,fun i e j B hi C=>?_⟩;obtain⟨v,a,b,r⟩:=hr.cell i e j B hi C
 have:=hsub _ _ a
 rw[<-zqe]at this;simp_all
theorem Pw{P:Program}{t:Nat}{ti:TI}(I:qf P t ti){b o:Nat}{cs:List AV}{r:AV}{off:Nat}
 (hc:∀(j:Nat) c,cs[j]?=zs c->∃v,W.cell? ⟨b,o+j,zn⟩=zs v/\v.oneC=zt/\Rep W cx v c)(h:ct ti cs off=zs r):
 ∃v,(loadVar t ⟨b,o+off,zn⟩).run P W=.ok v W/\Rep W cx v r:=by
 unfold ct at h;have hi:=I.run_isAgg (W:=W);cases ha:r9 ti.desc with
 |false=>
  rw[ha]at h hi;rw[R1]at h;have h:cs[off]?=zs r:=h;obtain⟨v,B,G,J⟩:=hc off r h;simp_all[loadVar]
 |true=>
  rw[ha]at h hi;rw[A4,I5,I6]at h;cases hb:Nat.ble (Nat.add off ti.size) (lz cs) with
  |false=>grind
  |true=>
   rw[hb]at h;cases h;have hl:=C5 hb;have hl:off+ti.size<=lz cs:=hl;let f:Nat->Value:=fun j=>(W.cell? ⟨b,o+off+j,zn⟩).getD undef
   have hf:∀j,j<ti.size->W.cell? ((⟨b,o+off,zn⟩:Addr).add j)=zs (f j):=by
    intro j hj;have H:off+j<lz cs:=by omega
    obtain⟨v,B,_,_⟩:=hc (off+j) _ (zqp H);grind[fy]
   have C:=run_loadCells (P:=P) W ⟨b,o+off,zn⟩ ti.size f hf;refine⟨.agg ((zqr ti.size).map f).toArray,?_,?_⟩
   . simp[loadVar,hi,I.run_sizeOf,C]
   . refine Rep.agg_mk ⟨by simp;omega,fun i v c B G=>?_⟩
     have D:i<ti.size:=by have:=V2 B;simpa using this
     rw[zqu,zkb D]at B;simp at B;rw[zqs,if_pos D,zqt]at G;obtain⟨v',J,_,N⟩:=hc (off+i) c G
     have:f i=v':=by simp only[f];rw[show o+off+i=o+(off+i) by omega,J];rfl
     rw[<-B,this];exact N
theorem mL{i j sz:Nat}(hj:j<sz):(i*sz+j)/sz=i/\(i*sz+j)%sz=j:=by
 grind[zqg,Nat.mul_add_div,Nat.div_eq_of_lt,Nat.mul_add_mod,Nat.mod_eq_of_lt]
theorem Ey{P:Program}{a:Option Addr}{b o n cap m size sz:Nat}{vs:List Value}{k:Nat}(hl:lz vs=k*sz)(hm:m<=k)
 (ha:0<k->a=zs ⟨b,o,zn⟩/\size=sz)(hc:∀(j:Nat) v,vs[j]?=zs v->W.cell? ⟨b,o+j,zn⟩=zs v):
 (Builtin.firstCells size m (.slice a n cap)).run P W=.ok (vs.take (m*sz)).toArray W:=by
 cases zqh m with
 |inl h0=>
  subst h0;cases a<;>simp[Builtin.firstCells,loadCells,loadCellsFrom]
 |inr hp=>
  obtain⟨rfl,rfl⟩:=ha (by omega);grind[Builtin.firstCells,zqy,zqb,run_loadCells_list,fy]
theorem oZ{W':World}(h:W'.heap=W.heap){a:Addr}:W'.cell? a=W.cell? a:=by unfold World.cell?;rw[h]
theorem Mb{P:Program}{E:Env}{h:Vg}(hs:Sat E W cx h){x:Value}{a:AV}{xs:List AV}(hx:Rep W cx x a)(hnl:a≠.x0a)(he:elems a h=zs xs):
 ∃ (J:Option Addr) (cap:Nat) (vs:List Value) (sz:Nat),x=.slice J (lz xs) cap/\lz xs<=cap/\db W cx vs xs sz/\
   ∀(W':World),W'.heap=W.heap->∀m size,m<=lz xs->(∀e∈xs,lz e.cells=size)->(Builtin.firstCells size m x).run P W'=.ok (vs.take (m*sz)).toArray W':=by
 cases hx with
 |x0a=>grind
 |fsl J b o n cap es full sz g hn hc hf ha hsz hcell hone hrep hnn=>
  have e0:es=xs:=Option.some.inj he;clear he;subst e0;let vs:List Value:=(zqr (n*sz)).map fun k=>g (k/sz) (k%sz)
  have B:lz vs=n*sz:=by simp[vs]
  have hget:∀(i j:Nat),i<n->j<sz->vs[i*sz+j]?=zs (g i j):=by
   grind[mL,bK]
  refine⟨J,cap,vs,sz,by rw[hn],by omega,⟨by grind,hsz,fun i e j c h1 h2=>?_⟩,fun W' aa m size hm D=>?_⟩
  . grind
  . refine Ey (k:=n) (b:=b) (o:=o) B (by omega) (fun hp=>?_) (fun k v hk=>?_)
    . have ab:es≠[]:=(by grind)
      refine⟨(ha ab).1,?_⟩;cases es with
      |nil=>grind
      |cons e r=>rw[<-D e (zqv ..)];exact hsz 0 e rfl
    . have N:=V2 hk
      rw [B]at N;simp only[vs,zqu,zkb N,Option.map_some,Option.some.injEq]at hk;have ac:0<sz:=by
       grind
      have hi:k/sz<n:=by grind[zql]
      have hj:k%sz<sz:=zqf _ ac;have ae:k/sz<lz es:=by omega
      have e1:=zqp ae;have af:k%sz<lz es[k/sz].cells:=by grind
      have:=hcell (k/sz) _ (k%sz) _ e1 (zqp af)
      rw[show o+k/sz*sz+k%sz=o+k by rw[zqe,zqm]]at this;grind[oZ]
 |msl J n cap id off sz hid hz hb hc ha hnn=>
  obtain⟨es,I,hg,hx⟩:=Vg.onRow_some he;cases G:Nat.ble (Nat.add off n) (dw es)with
  |false=>grind
  |true=>
   rw[G]at hx;cases hx;rw[I6,I5];have H:=C5 G;rw[A4]at H;have H:off+n<=lz es:=H;obtain⟨_,_,_,X⟩:=hs.objs id _ hg;obtain⟨h1,c,t,hh,hfit,Y⟩:=X.row
   have:I=sz:=by grind
   subst this;have C:=(Y.drop off).take n;have B:lz ((es.drop off).take n)=n:=by grind
   refine⟨J,cap,_,I,by rw[B],by grind,C,fun W' aa m size hm D=>?_⟩;rw[B]at hm;have Q:=C.len;rw[B]at Q;refine Ey (k:=n) (b:=(cx.μ id).1) (o:=(cx.μ id).2.1+off*I) Q hm (fun hp=>?_) (fun k v hk=>?_)
   . have U:cap≠0:=by omega
     refine⟨(ha U).1,?_⟩;have V:0<lz ((es.drop off).take n):=by omega
     have e1:=zqp V;rw[<-D _ (List.getElem_mem V)];exact C.size 0 _ e1
   grind[Ob]
 |_=>cases he
theorem Y4{P:Program}{E:Env}{h:Vg}(B:Sat E W cx h){x:Value}{a:AV}{xs:List AV}(C:Rep W cx x a)(D:elems a h=zs xs):
 ∃ (G:Option Addr) (cap:Nat) (vs:List Value) (sz:Nat),x=.slice G (lz xs) cap/\lz xs<=cap/\db W cx vs xs sz/\
   ∀(W':World),W'.heap=W.heap->∀m size,m<=lz xs->(∀e∈xs,lz e.cells=size)->(Builtin.firstCells size m x).run P W'=.ok (vs.take (m*sz)).toArray W':=by
 cases a with
 |x0a=>exact Mb B C.nil_fsl (by simp) D
 |_=>exact Mb B C (by simp) D
end
end Go.AM
/-
 The abstract machine: operations on memory are sound.
-/
namespace Go.AM
def eh{α:Type}(l:List α)(p:Nat)(us:List α):List α:=l.take p++(us++l.drop (p+lz us))
theorem Px{α:Type}{l:List α}{p:Nat}{us:List α}(h:p+lz us<=lz l)(k:Nat):
 (eh l p us)[k]?=if k<p then l[k]? else if k<p+lz us then us[k-p]? else l[k]?:=by
 grind[eh]
theorem R9{α:Type}{l:List α}{p:Nat}{us:List α}(h:p+lz us<=lz l):lz (eh l p us)=lz l:=by
 grind[eh]
theorem U3(cs:List AV)(off:Nat)(new:List AV):O5 cs off new=eh cs off new:=by
 grind[O5,eh,M0,I6,I5,A4]
theorem Ez{c:Array Value}{p:Nat}{us:List Value}(h:p+lz us<=c.size)(k:Nat):
 (ko c p us)[k]?=if k<p then c[k]? else if k<p+lz us then us[k-p]? else c[k]?:=by
 split
 . grind[Lo]
 . split
   . rename_i h1 h2
     have:=mI us c p (k-p) h (by omega)
     grind
   grind[Lo]
section
variable {P:Program}{E:Env}{W:World}{cx:Cx}{h:Vg}
def Jy(P:Program)(E:Env)(W:World)(cx:Cx)(s:Sem Next)(v:AV)(h':Vg):Prop:=
 ∃v' W' cx',(s.run P W=.ok (.value v') W'\/(s.run P W=.ok .skip W'/\v'=undef))/\Ext W cx W' cx'/\Sat E W' cx' h'/\Rep W' cx' v' v
theorem Jy.value{s:Sem Value}{v':Value}{W':World}{cx':Cx}{v:AV}{h':Vg}(B:s.run P W=.ok v' W')(C:Ext W cx W' cx')(D:Sat E W' cx' h')(G:Rep W' cx' v' v):
 Jy P E W cx (do pure (.value (<-s))) v h':=⟨v',W',cx',.inl (by simp[B]),C,D,G⟩
theorem Jy.same{s:Sem Value}{v':Value}{v:AV}(B:Sat E W cx h)(C:s.run P W=.ok v' W)(D:Rep W cx v' v):Jy P E W cx (do pure (.value (<-s))) v h:=
 .value C (Ext.refl W cx) B D
theorem Jy.unit{s:Sem Unit}{W':World}{cx':Cx}{h':Vg}(B:s.run P W=.ok () W')(C:Ext W cx W' cx')(D:Sat E W' cx' h'):
 Jy P E W cx (do s;pure .skip) .und h':=⟨undef,W',cx',.inr ⟨by simp[B],rfl⟩,C,D,.und _⟩
theorem Rep.ptr_inv{v:Value}{id i off:Nat}(h:Rep W cx v (.ptr id i off)):id<cx.nx/\v=.pointer (zs ⟨(cx.μ id).1,(cx.μ id).2.1+i*(cx.μ id).2.2+off,zn⟩):=by
 cases h with
 |ptr id i off hid hb=>grind
theorem Rep.fptr_inv{v:Value}{a:AV}{off:Nat}(h:Rep W cx v (.fptr a off)):∃b o,v=.pointer (zs ⟨b,o+off,zn⟩)/\¬cx.own b/\b<W.heap.size/\
 ∀(j:Nat) c,a.cells[j]?=zs c->∃u,W.cell? ⟨b,o+j,zn⟩=zs u/\u.oneC=zt/\Rep W cx u c:=by
 cases h with
 |fptr b o off v g ho hb hcell hone hrep=>grind
theorem Rep.fptr_mk{b o off:Nat}{a:AV}(ho:¬cx.own b)(hb:b<W.heap.size)(hc:∀(j:Nat) c,a.cells[j]?=zs c->∃u,W.cell? ⟨b,o+j,zn⟩=zs u/\u.oneC=zt/\Rep W cx u c):
 Rep W cx (.pointer (zs ⟨b,o+off,zn⟩)) (.fptr a off):=by
 have key:∀(j:Nat) c,a.cells[j]?=zs c->∃u,W.cell? ⟨b,o+j,zn⟩=zs u/\(W.cell? ⟨b,o+j,zn⟩).getD undef=u/\u.oneC=zt/\Rep W cx u c:=by
  grind
 refine .fptr b o off a (fun j=>(W.cell? ⟨b,o+j,zn⟩).getD undef) ho hb (fun j c B=>?_) (fun j c B=>?_) (fun j c B=>?_)
 . grind
 . grind
 grind
theorem Tl(I:dn E P)(J:Sat E W cx h){t:Nat}{ti:TI}(N:E.ti t=zs ti){x:Value}{a r:AV}(D:Rep W cx x a)(hl:Ek ti a h=zs r):
 ∃v,(Instr.loadAt t x).run P W=.ok v W/\Rep W cx v r:=by
 have B:=I.ti t ti N;cases a with
 |fptr v off=>
  obtain⟨b,o,rfl,_,_,hc⟩:=D.fptr_inv;obtain⟨u,H,Q⟩:=Pw B hc hl;grind[Instr.loadAt,Instr.sureAddr]
 |ptr id i off=>
  obtain ⟨es,sz,hg,hl⟩:=Vg.onRow_some hl;obtain⟨e,U,hl⟩:=A1 hl;rw[R1]at U;obtain⟨_,rfl⟩:=D.ptr_inv;obtain⟨_,_,_,C⟩:=J.objs id _ hg;obtain⟨H,c,t',g,hh,hfit,hsz,hcell⟩:=C;have hc:∀(j:Nat) G,e.cells[j]?=zs G->∃u,W.cell? ⟨(cx.μ id).1,(cx.μ id).2.1+i*(cx.μ id).2.2+j,zn⟩=zs u/\u.oneC=zt/\Rep W cx u G:=by
   grind[Ob]
  obtain⟨u,H,Q⟩:=Pw B hc hl;grind[Instr.loadAt,Instr.sureAddr]
 |_=>cases hl
theorem Wq(old:AV)(off:Nat)(ncs:List AV)(B:off+lz ncs<=lz old.cells)(hn:0<lz ncs)(C:∀c∈ncs,ff c=zt):
 (old.x0f off ncs).cells=eh old.cells off ncs:=by
 have D:(∀cs,old≠.agg cs)->(match ncs with|[]=>AV.und|x::r=>(match r with|[]=>x|_::_=>.und)).cells=eh old.cells off ncs:=by
  intro ha;have e1:old.cells=[old]:=by cases old<;>first|rfl|grind
  rw[e1]at B|-;simp at B;cases ncs with
  |nil=>simp at hn
  |cons x r=>
   simp at B;have G:r=[]:=zqw (by omega);subst G;have ho:off=0:=by grind
   subst ho;have H:=C x (zqv ..)
   have:x.cells=[x]:=by cases x<;>first|rfl|exact absurd H (by decide)|grind[ff]
   simp[this,eh]
 cases old with
 |agg cs=>show O5 cs off ncs=_;exact U3 cs off ncs
 |_=>exact D (by simp)
theorem eO(hE:dn E P)(hs:Sat E W cx h){t:Nat}{ti:TI}(ht:E.ti t=zs ti){x y:Value}{a b:AV}(hx:Rep W cx x a)(hy:Rep W cx y b){h':Vg}(hl:Cp ti a b h=zs h'):
 ∃W',(Instr.storeAt t x y).run P W=.ok () W'/\Ext W cx W' cx/\Sat E W' cx h':=by
 have al:=hE.ti t ti ht;cases a with
 |ptr id i off=>
  obtain ⟨es,sz,hg,hl⟩:=Vg.onRow_some hl;obtain⟨old,he,hl⟩:=A1 hl;obtain⟨hb,hl⟩:=A6 hl;have hl:=Option.some.inj hl;rw[R1]at he;rw[zqa,zqa,zqa,A4,G9]at hb;obtain⟨⟨⟨aa,ab⟩,ac⟩,U⟩:=hb;have aa:=D8 aa;have ab:=K5 ab;have ac:off+ti.size<=sz:=C5 ac;obtain⟨_,rfl⟩:=hx.ptr_inv;obtain⟨_,ag,ah,ai⟩:=hs.objs id _ hg;obtain⟨h1,c,t',g,hh,hfit,hsz,hcell⟩:=ai;have am:b≠.und:=fun e=>by
   subst e
   have:=U .und (by simp[AV.cells])
   cases this
  have G:=hy.cells am;have hone:=G.one U;have N:=V2 he;have hrow:(cx.μ id).2.1+i*sz+off+lz y.cells.toList<=c.size:=by
   have:=zqb sz (show i+1<=lz es from N)
   rw[zqd]at this;rw[G.1];omega
  have J:=Z5 (P:=P) y.cells.toList ((cx.μ id).2.1+i*sz+off) 0 c W hh hone (by grind);have Q:(Instr.storeAt t (.pointer (zs ⟨(cx.μ id).1,(cx.μ id).2.1+i*(cx.μ id).2.2+off,zn⟩)) y).run P W=.ok () (dl W (cx.μ id).1 (.cells (ko c ((cx.μ id).2.1+i*sz+off) y.cells.toList) t' (0,0))):=by
   have ad:y.cells.size=ti.size:=by have:=G.1;grind
   rw[h1];simp only[zqi]at J;simp[Instr.storeAt,Instr.sureAddr,storeVar,al.run_sizeOf,ad,J]
  have B:Ext W cx (dl W (cx.μ id).1 (.cells (ko c ((cx.μ id).2.1+i*sz+off) y.cells.toList) t' (0,0))) cx:=
   Ext.set _ ag (hs.free _ _ hg) (fun c0 t0 f0 e=>by rw[hh]at e;cases e;exact⟨_,_,_,rfl,Y1 _ _ _⟩) (fun hn=>absurd hh (hn _ _ _))
  refine⟨_,Q,B,?_⟩;rw[<-hl];refine hs.set B hg _ (by grind[Go.AM.gj]) ?_;rw[Ai];have H:off+lz b.cells<=lz old.cells:=by grind
  have ae:=Wq old off b.cells H (by omega) U;refine⟨h1,ko c ((cx.μ id).2.1+i*sz+off) y.cells.toList,t',fun i' j=>if i'=i/\off<=j/\j<off+lz b.cells then(y.cells.toList[j-off]?).getD undef else g i' j,o5 W _ ah,?_,?_,?_⟩
  . grind[Y1]
  . intro i' e C
    by_cases D:i=i'
    . subst D
      rw[zkc N]at C;cases C;rw[ae,R9 H];exact hsz i old he
    . rw[zkd D]at C;exact hsz i' e C
  . intro i' e j c' C I
    rw[Ez (by omega)];dsimp only;by_cases D:i=i'
    . subst D
      rw[zkc N]at C;cases C;rw[ae,Px H]at I;by_cases aj:j<off
      . rw[if_pos aj]at I
        obtain⟨X,Y,a3⟩:=hcell i old j c' he I;rw[if_pos (by omega),if_neg (by omega)];exact⟨X,Y,a3.mono B⟩
      . rw [if_neg aj]at I
        by_cases V:j<off+lz b.cells
        . rw[if_pos V]at I
          obtain⟨v,hv,hr⟩:=G.get I;rw[if_neg (by omega),if_pos (by grind),if_pos ⟨rfl,by omega,V⟩];rw[show(cx.μ id).2.1+i*sz+j-((cx.μ id).2.1+i*sz+off)=j-off by omega,hv];exact⟨rfl,hone v (zqx hv),hr.mono B⟩
        . rw[if_neg V]at I
          obtain⟨X,Y,a3⟩:=hcell i old j c' he I;rw[if_neg (by omega),if_neg (by rw[G.1];omega),if_neg (by omega)];exact⟨X,Y,a3.mono B⟩
    . rw [zkd D]at C
      obtain ⟨X,Y,a3⟩:=hcell i' e j c' C I;have an:=V2 I;rw[hsz i' e C]at an;have af:¬((cx.μ id).2.1+i'*sz+j>=(cx.μ id).2.1+i*sz+off/\(cx.μ id).2.1+i'*sz+j<(cx.μ id).2.1+i*sz+off+lz y.cells.toList):=by
       rw[G.1];rcases Nat.lt_or_gt_of_ne D with aq|ar
       . have:=zqb sz (show i+1<=i' from aq)
         grind
       . have:=zqb sz (show i'+1<=i from ar)
         grind
      have ao:(if i'=i/\off<=j/\j<off+lz b.cells then(y.cells.toList[j-off]?).getD undef else g i' j)=g i' j:=if_neg (fun hc=>D hc.1.symm);rw[ao];split
      . exact⟨X,Y,a3.mono B⟩
      . rename_i hn1
        rw[if_neg (fun ak=>af ⟨by omega,ak⟩)];exact⟨X,Y,a3.mono B⟩
 |_=>cases hl
theorem Tm(B:Sat E W cx h){t:Nat}{c:Array Value}{es:List AV}{sz:Nat}{vs:List Value}(D:db W cx vs es sz)(hsub:∀(k:Nat) v,vs[k]?=zs v->c[k]?=zs v)(hfit:lz es*sz<=c.size):
 Ext W cx (W.alloc (.cells c t)) (cx.push W.heap.size sz)/\Sat E (W.alloc (.cells c t)) (cx.push W.heap.size sz) (h.push (.row es sz))/\(cx.push W.heap.size sz).μ h.next=(W.heap.size,0,sz):=by
 have C:=Ext.alloc W cx (.cells c t) sz;refine⟨C,B.push _ _ sz ?_,by rw[B.nx,Cx.push_new]⟩;exact N2.mk (t:=t) rfl (K7 W _) (by grind) (by grind) (D.mono C)
theorem Tn(D:Sat E W cx h){t:Nat}{v:Value}{a:AV}{sz:Nat}(G:Rep W cx v a)(C:Wl v.cells.toList)(H:a≠.und)(hz:lz a.cells=sz){r:AV}{h':Vg}(hn:iX sz a h=.ok r h'):
 ∃v' W' cx',(do pure (.pointer (zs (<-newVar t v))):Sem Value).run P W=.ok v' W'/\Ext W cx W' cx'/\Sat E W' cx' h'/\Rep W' cx' v' r:=by
 cases hn;have B:=G.cells H;obtain⟨I,J,N⟩:=Tm D (t:=t) (c:=v.cells) (es:=[a]) (sz:=sz) (db.one B C hz) (fun k v hk=>by grind) (by have:=B.1;grind);refine⟨.pointer (zs ⟨W.heap.size,0,zn⟩),_,_,by simp[newVar,newRow],I,J,?_⟩
 have:=Rep.ptr (W:=W.alloc (.cells v.cells t)) (cx:=cx.push W.heap.size sz) h.next 0 0 (by rw[D.nx];exact zqj _) (by rw[N];simp)
 grind
end
end Go.AM
/-
 The abstract machine: further operations: fields,indexes,slices,builds.
-/
namespace Go.AM
section
variable {P:Program}{E:Env}{W:World}{cx:Cx}{h:Vg}
theorem jO{op:UnOp}{x:Value}{a r:AV}(B:Rep W cx x a)(h:Pq op a=zs r):∃v,(Op.unary op x).run P W=.ok v W/\Rep W cx v r:=by
 cases op with
 |neg=>
  obtain⟨k,n,e,g⟩:=B6 (v:=a) h;subst e;cases B.int_inv;rw[o6 g];exact⟨.int k (k.wrap (0-n)),by simp[Op.unary,Op.intArith],.int _ _⟩
 |not=>
  obtain⟨b,e,g⟩:=Aj (v:=a) h;subst e;cases B.bool_inv;rw[Ak g];exact⟨_,rfl,.bool _⟩
 |_=>cases h
theorem Wr(H:dn E P){s d:Nat}{ts C:TI}(N:E.ti s=zs ts)(Q:E.ti d=zs C){x:Value}{a r:AV}(I:Rep W cx x a)(h:R4 C.desc a=zs r):
 ∃v,(convert s d x).run P W=.ok v W/\Rep W cx v r:=by
 obtain⟨ds,D⟩:=(H.ti s ts N).under;have B:=(H.ti d C Q).desc;unfold I7 at B;have U:∀W:World,(underlying s).run P W=.ok ds W:=fun W=>A3 D
 cases G:C.desc with
 |int k=>
  rw[G]at h B;have J:∀W:World,(underlying d).run P W=.ok (.int k) W:=fun W=>A3 B
  obtain⟨k',n,e,g⟩:=B6 (v:=a) h;subst e;cases I.int_inv;rw[o6 g];exact⟨_,by simp[convert,U,J,Conv.intToInt],.int _ _⟩
 |string=>
  rw[G]at h B;have J:∀W:World,(underlying d).run P W=.ok .string W:=fun W=>A3 B
  obtain⟨l,e,g⟩:=K8 (v:=a) h;subst e;obtain⟨b,rfl,hb⟩:=I.str_inv;simp_all[convert]
 |_=>rw[G]at h;cases h
theorem Ir{B:Addr}{a r:AV}{d:Nat}(C:Rep W cx (.pointer (zs B)) a)(h:C0 a d=zs r):Rep W cx (.pointer (zs (B.add d))) r:=by
 cases a with
 |fptr v off=>
  have h:M6 (Nat.add off d) (fun o=>zs (AV.fptr v o))=zs r:=h;rw[C1]at h;cases h;obtain⟨b,o,e,h1,h2,h3⟩:=C.fptr_inv;simp_all[fy,zqe,Rep.fptr_mk]
 |ptr id i off=>
  have h:M6 (Nat.add off d) (fun o=>zs (AV.ptr id i o))=zs r:=h;rw[C1]at h;cases h;cases C with
  |ptr id i off hid hb=>
   rw[fy,zqe];exact .ptr id i (off+d) hid hb
 |_=>cases h
theorem Py{x:Value}{a r:AV}{d:Nat}(B:Rep W cx x a)(h:C0 a d=zs r):∃C,x=.pointer (zs C):=by
 cases a with
 |fptr v off=>obtain⟨b,o,e,_⟩:=B.fptr_inv;grind
 |ptr id i off=>obtain⟨_,e⟩:=B.ptr_inv;grind
 |_=>cases h
theorem Is(C:dn E P){t:Nat}{ti:TI}(D:E.ti t=zs ti){f:Nat}{p:TI×Nat}(h:fieldAt E ti f=zs p):
 ∃fields fl,P.underlying t=zs (.struct fields)/\fields[f]?=zs fl/\fl.offset=p.2/\E.ti fl.type=zs p.1:=by
 have B:=(C.ti t ti D).desc;unfold fieldAt at h;unfold I7 at B;cases I:ti.desc with
 |struct fs b=>
  rw[I]at h B;obtain⟨fields,h1,G,_⟩:=B;obtain⟨q,H,h⟩:=A1 h;obtain⟨ft,hft,h⟩:=E8 h;cases h;rw[bB,<-G,zqu]at H;grind
 |_=>grind
theorem Qo(B:dn E P){t:Nat}{ti:TI}(D:E.ti t=zs ti){f:Nat}{p:TI×Nat}{x:Value}{a r:AV}(C:Rep W cx x a)(G:fieldAt E ti f=zs p)
 (h:B5 (Nat.blt 0 p.1.size) (C0 a p.2)=zs r):∃v,(Instr.fieldAt t x f).run P W=.ok v W/\Rep W cx v r:=by
 obtain⟨fields,fl,H,h2,h3,I⟩:=Is B D G;obtain⟨hb,h⟩:=A6 h;have hb:=K5 hb;obtain⟨J,rfl⟩:=Py C h;have r1:∀W:World,(underlying t).run P W=.ok (.struct fields) W:=fun W=>A3 H
 have hz:=(B.ti fl.type p.1 I).run_sizeOf (W:=W);refine⟨.pointer (zs (J.add p.2)),?_,Ir C h⟩
 have:¬p.1.size=0:=by omega
 simp_all[Instr.fieldAt,Instr.sureAddr,fieldPlace]
theorem Pz(C:dn E P){t:Nat}{ti:TI}(D:E.ti t=zs ti){vs:Array Value}{cs:List AV}(hc:fc W cx vs.toList cs){off:Nat}{r:AV}(h:ct ti cs off=zs r):
 ∃v,(part t vs off).run P W=.ok v W/\Rep W cx v r:=by
 have B:=C.ti t ti D;have hi:=B.run_isAgg (W:=W);unfold ct at h;cases ha:r9 ti.desc with
 |false=>
  rw[ha]at h hi;have h:Eh cs off=zs r:=h;rw[R1]at h;obtain⟨v,h1,h2⟩:=hc.get h;simp_all[part]
 |true=>
  rw[ha]at h hi;have h:(bif Nat.ble (Nat.add off ti.size) (dw cs)then zs (AV.agg (kh (ls cs off) ti.size))else zn)=zs r:=h;rw[A4,I5,I6]at h;cases hb:Nat.ble (Nat.add off ti.size) (lz cs) with
  |false=>grind
  |true=>
   rw[hb]at h;cases h;refine⟨.agg (vs.extract off (off+ti.size)),by simp[part,hi,B.run_sizeOf],?_⟩
   have:=Rep.agg_mk ((hc.drop off).take ti.size)
   have e:((vs.toList.drop off).take ti.size).toArray=vs.extract off (off+ti.size):=by
    grind
   grind
theorem eP(C:dn E P){t:Nat}{ti:TI}(D:E.ti t=zs ti){f:Nat}{p:TI×Nat}{x:Value}{a r:AV}(G:Rep W cx x a)(H:fieldAt E ti f=zs p)
 (h:a.onAgg zn (fun cs=>ct p.1 cs p.2)=zs r):∃v,(Instr.field t x f).run P W=.ok v W/\Rep W cx v r:=by
 obtain⟨fields,fl,h1,h2,h3,I⟩:=Is C D H;obtain⟨cs,e,g⟩:=x4 h;subst e;obtain⟨vs,rfl,B⟩:=G.agg_inv;obtain⟨v,hv,hr⟩:=Pz C I B g;simp_all[Instr.field,asAgg,A3]
theorem Qp(Q:dn E P){t:Nat}{ti:TI}(ht:E.ti t=zs ti){x y:Value}{a b r:AV}{i:Nat}(U:Rep W cx x a)(hy:Rep W cx y b)(hi:ew b=zs i)
 (h:R5 E ti.desc i a=zs r):∃v,(Instr.indexAt t x y).run P W=.ok v W/\Rep W cx v r:=by
 obtain⟨k,rfl⟩:=R7 hi;cases hy.int_inv;have H:=(Q.ti t ti ht).desc;unfold I7 at H;cases hk:ti.desc with
 |slice e=>
  rw[hk]at h H;have N:∀W:World,(underlying t).run P W=.ok (.slice e) W:=fun W=>A3 H
  obtain⟨te,G,h⟩:=E8 h;have hz:=(Q.ti e te G).run_sizeOf (W:=W);cases U with
  |fsl Y b o n cap es full sz g hn hc hf ha hsz hcell hone hrep hnn=>
   obtain ⟨v,V,h⟩:=A1 h;obtain⟨hb,h⟩:=A6 h;cases h;rw[R1]at V;have hb:=D8 hb;rw[A4]at hb;have I:=V2 V;obtain⟨rfl,ho,X⟩:=ha (fun e=>by rw[e]at I;simp at I);have hs1:=hsz i v V;have B:(Instr.indexAt t (.slice (zs ⟨b,o,zn⟩) n cap) (.int k (i:Int))).run P W=.ok (.pointer (zs ⟨b,o+i*te.size,zn⟩)) W:=by
    have C:i<n:=by omega
    simp[Instr.indexAt,asIntOf,N,C,hz,fy]
   refine⟨_,B,?_⟩
   have:=Rep.fptr_mk (W:=W) (cx:=cx) (o:=o+i*te.size) (off:=0) (a:=v) ho X (by grind)
   exact this
  |msl Y n cap id off sz hid hz' hb hc ha hnn=>
   obtain⟨hg,h⟩:=A6 h;rw[C1]at h;cases h;rw[zqa]at hg;have D:=K5 hg.1;have hsz:=D8 hg.2;have J:cap≠0:=by omega
   obtain ⟨rfl,_⟩:=ha J;have B:(Instr.indexAt t (.slice (zs ⟨(cx.μ id).1,(cx.μ id).2.1+off*sz,zn⟩) n cap) (.int k (i:Int))).run P W=.ok (.pointer (zs ⟨(cx.μ id).1,(cx.μ id).2.1+(off+i)*sz,zn⟩)) W:=by
    have C:i<n:=D;simp[Instr.indexAt,asIntOf,N,C,hz,fy,<-hsz,zqd,zqe]
   refine⟨_,B,?_⟩
   have:=Rep.ptr (W:=W) (cx:=cx) id (off+i) 0 hid hb
   grind
  |_=>cases h
 |array len e=>
  rw[hk]at h H;have N:∀W:World,(underlying t).run P W=.ok (.array len e) W:=fun W=>A3 H
  obtain⟨te,G,h⟩:=E8 h;have hz:=(Q.ti e te G).run_sizeOf (W:=W);obtain⟨hg,h⟩:=A6 h;rw[zqa]at hg;have D:=K5 hg.1;obtain⟨Y,rfl⟩:=Py U h;refine⟨.pointer (zs (Y.add (i*te.size))),?_,Ir U h⟩;have C:i<len:=D;simp[Instr.indexAt,asIntOf,N,C,hz,Instr.sureAddr]
 |_=>rw[hk]at h;cases h
theorem eQ(G:dn E P){t:Nat}{ti:TI}(V:E.ti t=zs ti){x y:Value}{a b r:AV}{i:Nat}(N:Rep W cx x a)(X:Rep W cx y b)(hi:ew b=zs i)
 (h:El E ti.desc i a=zs r):∃v,(Instr.index t x y).run P W=.ok v W/\Rep W cx v r:=by
 obtain⟨k,rfl⟩:=R7 hi;cases X.int_inv;have B:=(G.ti t ti V).desc;unfold I7 at B;cases J:ti.desc with
 |string=>
  rw[J]at h B;have Q:∀W:World,(underlying t).run P W=.ok .string W:=fun W=>A3 B
  obtain ⟨l,e,h⟩:=K8 (v:=a) h;subst e;obtain⟨u,C,h⟩:=A1 h;cases h;rw[mG]at C;obtain⟨s,rfl,U⟩:=N.str_inv;have H:s[i]?=zs u:=by
   have hil:=V2 C;have hsl:s.size=lz l:=by rw[<-U];exact zkh.symm
   have hlt:i<s.size:=by omega
   have e1:s[i]?=zs s[i]:=by grind
   rw[e1];rw[<-U]at C;have e2:s.data.toList[i]?=zs s.data[i]:=by simp
   rw[e2]at C;exact C
  refine⟨.int .u8 u.toNat,?_,.int _ _⟩;simp[Instr.index,asIntOf,Q,H]
 |array len e=>
  rw[J]at h B;have Q:∀W:World,(underlying t).run P W=.ok (.array len e) W:=fun W=>A3 B
  obtain⟨te,D,h⟩:=E8 h;have hz:=(G.ti e te D).run_sizeOf (W:=W);obtain⟨hg,h⟩:=A6 h;have hin:=K5 hg;obtain⟨cs,ea,h⟩:=x4 h;subst ea;obtain⟨vs,rfl,I⟩:=N.agg_inv;obtain⟨v,hv,hr⟩:=Pz G D I h;simp_all[Instr.index,asIntOf]
 |_=>rw[J]at h;cases h
theorem Ws{x:Value}{vs:List AV}{i:Nat}{r:AV}(B:Rep W cx x (.tup vs))(h:Eh vs i=zs r):∃v,(Instr.extract x i).run P W=.ok v W/\Rep W cx v r:=by
 obtain⟨us,rfl,C⟩:=B.tup_inv;rw[R1]at h;obtain⟨v,h1,h2⟩:=C.get h;simp_all[Instr.extract]
def W8(W:World)(cx:Cx)(o:Option Value)(a:Option AV):Prop:=match o,a with|none,zn=>True|some v,zs x=>Rep W cx v x|_,_=>False
theorem fq{o:Option Value}{a:Option AV}(ho:W8 W cx o a){d n:Nat}(h:E7 a d=zs n):(o=zn/\a=zn/\n=d)\/∃k x,o=zs (.int k (n:Int))/\a=zs x:=by
 cases a with
 |none=>
  cases o with
  |none=>cases h;grind
  |some v=>exact ho.elim
 |some x=>
  cases o with
  |none=>exact ho.elim
  |some v=>
   obtain⟨k,e⟩:=R7 h;subst e;have ho:Rep W cx v (.int k (n:Int)):=ho;cases ho.int_inv;grind
theorem F6{k:IntKind}{n y:Nat}{code:BoundsCode}(h:n<=y):(Instr.sliceBound (.int k (n:Int)) y code).run P W=.ok n W:=by
 simp_all[Instr.sliceBound,asIntOf]
theorem W9{isSlice:Bool}{len cap:Nat}{lo hi mx:Option Value}{D C B:Option AV}{l r m:Nat}(H:W8 W cx lo D)(I:W8 W cx hi C)(J:W8 W cx mx B)
 (hl:E7 D 0=zs l)(hr:E7 C len=zs r)(hm:E7 B len=zs m)(hlr:l<=r)(hrm:r<=m)(hml:m<=len)(hlc:len<=cap)(hh:C=zn->B=zn):
 (Instr.sliceBounds isSlice len cap lo hi mx).run P W=.ok (l,r,if B.isNone then cap else m) W:=by
 have k1:∀y code,m<=y->(match mx with|some v=>Instr.sliceBound v y code|none=>pure y:Sem Nat).run P W=.ok (if B.isNone then y else m) W:=by
  intro y code N;rcases fq J hm with⟨rfl,rfl,_⟩|⟨k,x,rfl,rfl⟩
  . rfl
  . simp[F6 N]
 rcases fq J hm with⟨rfl,rfl,em⟩|⟨km,xm,rfl,rfl⟩
 . rcases fq I hr with⟨rfl,rfl,er⟩|⟨Q,U,rfl,rfl⟩
   . rcases fq H hl with⟨rfl,rfl,G⟩|⟨kl,xl,rfl,rfl⟩
     . subst G er;simp[Instr.sliceBounds]
     simp_all[Instr.sliceBounds,F6]
   . rcases fq H hl with⟨rfl,rfl,G⟩|⟨kl,xl,rfl,rfl⟩
     . subst G;simp[Instr.sliceBounds,F6 (show r<=cap by omega)]
     . simp[Instr.sliceBounds,F6 (show r<=cap by omega),F6 hlr]
 . rcases fq I hr with⟨rfl,rfl,er⟩|⟨Q,U,rfl,rfl⟩
   . grind
   . rcases fq H hl with⟨rfl,rfl,G⟩|⟨kl,xl,rfl,rfl⟩
     . subst G;simp[Instr.sliceBounds,F6 (show m<=cap by omega),F6 hrm]
     . simp[Instr.sliceBounds,F6 (show m<=cap by omega),F6 hrm,F6 hlr]
end
end Go.AM
/-
 The abstract machine: slices of slices,builds,makes,appends,copies.
-/
namespace Go.AM
section
variable {P:Program}{E:Env}{W:World}{cx:Cx}{h:Vg}
theorem bL(s:ByteArray)(l r:Nat):(s.extract l r).data.toList=(s.data.toList.drop l).take (r-l):=by
 simp_all
theorem bM(hE:dn E P){t:Nat}{ti:TI}(ht:E.ti t=zs ti){x:Value}{a r:AV}{lo hi mx:Option Value}{Q I B:Option AV}(hx:Rep W cx x a)
 (h1:W8 W cx lo Q)(h2:W8 W cx hi I)(h3:W8 W cx mx B)(hh:I=zn->B=zn)(hnl:a≠.x0a)(h:jd E ti.desc Q I B a=zs r):
 ∃v,(Instr.sliceAt t x lo hi mx).run P W=.ok v W/\Rep W cx v r:=by
 have U:=(hE.ti t ti ht).desc;unfold I7 at U;cases hk:ti.desc with
 |string=>
  rw[hk]at h U;have r1:∀W:World,(underlying t).run P W=.ok .string W:=fun W=>A3 U
  obtain⟨l,e,h⟩:=K8 (v:=a) h;subst e;obtain⟨s,rfl,hs⟩:=hx.str_inv;obtain⟨ab,ai,h⟩:=A1 h;obtain⟨C,ac,h⟩:=A1 h;obtain⟨hg,h⟩:=A6 h;cases h;rw[zqa,zqa,u7]at hg;obtain⟨⟨D,G⟩,J⟩:=hg;have D:=C5 D;have G:=C5 G;have ae:B=zn:=by simp_all
  subst ae;have V:mx=zn:=by cases mx<;>first|rfl|exact h3.elim
  subst V;have hsz:s.size=lz l:=by rw[<-hs];exact zkh.symm
  rw[u7,<-hsz]at ac;have hb:=W9 (P:=P) (W:=W) (cx:=cx) (isSlice:=zf) (len:=s.size) (cap:=s.size) (m:=s.size) h1 h2 (show W8 W cx zn zn from trivial) ai ac rfl D (by omega) (zqc _) (zqc _) (fun _=>rfl);refine⟨.string (s.extract ab C),?_,?_⟩
  . simp[Instr.sliceAt,Instr.slice,r1,hb]
  . have:=Rep.str (W:=W) (cx:=cx) (s.extract ab C)
    rw[bL,hs]at this;exact this
 |slice e=>
  rw[hk]at h U;have r1:∀W:World,(underlying t).run P W=.ok (.slice e) W:=fun W=>A3 U
  obtain⟨te,aj,h⟩:=E8 h;have hz:=(hE.ti e te aj).run_sizeOf (W:=W);cases hx with
  |fsl N b o n cap es full sz g hn hc hf ha hsz hcell hone hrep hnn=>
   obtain⟨l,hl,h⟩:=A1 h;obtain⟨q,hq,h⟩:=A1 h;obtain⟨m,hm,h⟩:=A1 h;obtain⟨hg,h⟩:=A6 h;cases h;rw[A4]at hq hm;rw[zqa,zqa,zqa,A4]at hg;obtain⟨⟨⟨D,G⟩,J⟩,H⟩:=hg;have D:=C5 D;have G:=C5 G;have J:=C5 J;rw[hn]at hq hm;have hb:=W9 (P:=P) (isSlice:=zt) (cap:=cap) h1 h2 h3 hl hq hm D G (by omega) hc hh;generalize hM:(if B.isNone then cap else m)=M at hb;have af:q<=M:=by grind
   have ag:M<=cap:=by grind
   refine⟨.slice (if M=l then N else N.map (·.add (l*te.size))) (q-l) (M-l),by simp[Instr.sliceAt,Instr.slice,r1,hb,hz],?_⟩;rw[I6,I5,A4];have X:lz ((es.drop l).take (q-l))=q-l:=by grind
   refine .fsl _ b (o+l*sz) (q-l) (M-l) _ _ sz (fun i j=>g (l+i) j) X (by omega) (fun hfull=>?_) (fun hne=>?_) (fun i e' C=>?_) (fun i e' j c C hj=>?_) (fun i e' j c C hj=>?_) (fun i e' j c C hj=>?_) (fun he' hff=>?_)
   . cases B with
     |none=>
      simp_all
     |some am=>
      simp_all
   . have hlq:0<q-l:=by
      grind
     have Y:es≠[]:=(by grind)
     obtain ⟨ea,ho,ak⟩:=ha Y;have aa:te.size=sz:=by
      cases es with
      |nil=>grind
      |cons e0 r0=>
       have H:Nat.beq (dw e0.cells) te.size=zt:=H;rw[A4]at H;rw[<-D8 H];exact hsz 0 e0 rfl
     refine⟨?_,ho,ak⟩;rw[if_neg (by omega),ea,aa];simp[fy]
   . grind
   . grind
   . grind
   . grind
   . have ah:N≠zn:=by
      grind[Nat.beq]
     split
     . exact ah
     simp_all
  |msl N n cap id off sz hid al an hc ha hnn=>
   obtain⟨l,hl,h⟩:=A1 h;obtain⟨q,hq,h⟩:=A1 h;obtain⟨m,hm,h⟩:=A1 h;obtain⟨hg,h⟩:=A6 h;rw[C1,C1]at h;cases h;rw[zqa,zqa,zqa]at hg;obtain⟨⟨⟨D,G⟩,J⟩,H⟩:=hg;have D:=C5 D;have G:=C5 G;have J:=C5 J;have H:=D8 H;have hb:=W9 (P:=P) (isSlice:=zt) (cap:=cap) h1 h2 h3 hl hq hm D G J hc hh;generalize hM:(if B.isNone then cap else m)=M at hb;have af:q<=M:=by grind
   have ag:M<=cap:=by grind
   refine⟨.slice (if M=l then N else N.map (·.add (l*te.size))) (q-l) (M-l),by simp[Instr.sliceAt,Instr.slice,r1,hb,hz],?_⟩;refine .msl _ (q-l) (M-l) id (off+l) sz hid al an (by omega) (fun hcap=>?_) (by grind);obtain⟨ea,hfit⟩:=ha (by omega);refine⟨?_,?_⟩
   . rw[if_neg (by omega),ea,<-H]
     grind[fy]
   . have:off+l+(M-l)=off+M:=by omega
     rw[this]
     have:=zqb sz (show off+M<=off+cap by omega)
     omega
  |x0a=>grind
  |_=>cases h
 |_=>rw[hk]at h;cases h
def mM(cells:Array Value)(off:Nat)(v:Value):Array Value:=v.cells.zipIdx.foldl (fun cs (c,j)=>cs.setIfInBounds (off+j) c) cells
theorem eR(G:dn E P){t:Nat}{ti:TI}(Q:E.ti t=zs ti){x:Value}{a r:AV}{lo hi mx:Option Value}{D C B:Option AV}(U:Rep W cx x a)
 (h1:W8 W cx lo D)(h2:W8 W cx hi C)(h3:W8 W cx mx B)(hh:C=zn->B=zn)(h:jd E ti.desc D C B a=zs r):
 ∃v,(Instr.sliceAt t x lo hi mx).run P W=.ok v W/\Rep W cx v r:=by
 by_cases hn:a=.x0a
 . subst hn
   have H:=(G.ti t ti Q).desc;unfold I7 at H;cases N:ti.desc with
   |slice e=>
    rw[N]at h H;have V:∀W:World,(underlying t).run P W=.ok (.slice e) W:=fun W=>A3 H
    obtain⟨te,J,h⟩:=E8 h;have hz:=(G.ti e te J).run_sizeOf (W:=W);have h:aS D C B=zs r:=h;obtain⟨l,hl,h⟩:=A1 h;obtain⟨q,hq,h⟩:=A1 h;obtain⟨m,hm,h⟩:=A1 h;obtain⟨hg,h⟩:=A6 h;cases h;rw[zqa,zqa]at hg;have X:=C5 hg.1.1;have Y:=C5 hg.1.2;have g3:=C5 hg.2;cases U;have hb:=W9 (P:=P) (W:=W) (isSlice:=zt) (cap:=0) h1 h2 h3 hl hq hm X Y g3 (zqc _) hh;generalize hM:(if B.isNone then 0 else m)=M at hb;have I:M=0:=by rw[<-hM];split<;>omega
    obtain rfl:l=0:=by omega
    obtain rfl:q=0:=by omega
    subst I;exact⟨.slice zn 0 0,by simp[Instr.sliceAt,Instr.slice,V,hb,hz],.x0a⟩
   |string=>rw[N]at h;cases h
   |_=>rw[N]at h;cases h
 . exact bM G Q U h1 h2 h3 hh hn h
theorem Yg:∀(l:List Value)(k off:Nat)(cs:Array Value),(l.zipIdx k).foldl (fun cs (p:Value×Nat)=>cs.setIfInBounds (off+p.2) p.1) cs=ko cs (off+k) l
 |[],_,_,_=>rfl
 |v::r,k,off,cs=>by
  simp only[List.zipIdx_cons,List.foldl_cons,ko];rw[Yg r (k+1) off];rfl
theorem eS(cells:Array Value)(off:Nat)(v:Value):mM cells off v=ko cells off v.cells.toList:=by
 have:=Yg v.cells.toList 0 off cells
 unfold mM;rw[zqi]at this;rw[<-this,<-Array.foldl_toList];grind
theorem To{place:Nat->Option (Nat×Nat)}{B:Nat->Option (Nat×Nat)}(hp:∀i q,B i=zs q->place i=zs q):
 ∀ (ps:List (Nat×Value)) (qs:List (Nat×AV)) (cells:Array Value) (cs:List AV) (r:List AV),
   lz ps=lz qs->(∀(i:Nat) p q,ps[i]?=zs p->qs[i]?=zs q->p.1=q.1/\Rep W cx p.2 q.2)->fc W cx cells.toList cs->U9 B qs cs=zs r ->
   ∃J,Instr.fill place cells ps=zs J/\fc W cx J.toList r:=by
 intro ps
 induction ps with
 |nil=>
  intro qs cells cs r hl _ hc h;cases qs with
  |nil=>cases h;exact⟨cells,rfl,hc⟩
  |cons _ _=>simp at hl
 |cons p ps ih=>
  intro qs cells cs r hl Y hc h;cases qs with
  |nil=>simp at hl
  |cons q qs=>
   obtain ⟨e1,hv⟩:=Y 0 p q rfl rfl;have h:A5 (B q.1) (fun z=>B5 (Nat.beq (dw q.2.cells) z.2&&Nat.ble (Nat.add z.1 z.2) (dw cs)&&E4 q.2.cells) (U9 B qs (O5 cs z.1 q.2.cells)))=zs r:=h;obtain⟨z,hz,h⟩:=A1 h;obtain⟨hg,h⟩:=A6 h;rw[zqa,zqa,A4,A4,G9]at hg;have g1:=D8 hg.1.1;have g2:=C5 hg.1.2;have g2:z.1+z.2<=lz cs:=g2;have V:q.2≠.und:=fun e=>by
    have:=hg.2 .und (by rw[e];simp[AV.cells])
    cases this
   have hcl:=hc.1;rw[U3]at h;have N:=hp _ _ hz;have H:fc W cx p.2.cells.toList q.2.cells:=hv.cells V
   . have hsz:p.2.cells.size=z.2:=by have:=H.1;grind
     have Q:z.1+lz p.2.cells.toList<=cells.size:=by
      grind
     have U:fc W cx (ko cells z.1 p.2.cells.toList).toList (eh cs z.1 q.2.cells):=by
      have X:z.1+lz q.2.cells<=lz cs:=by omega
      refine⟨?_,fun i v c D C=>?_⟩
      . grind[R9,Y1]
      . have D:(ko cells z.1 p.2.cells.toList)[i]?=zs v:=by grind
        rw[Ez Q]at D;rw[Px X]at C;rw[H.1]at D;split at D
        . rename_i hi;rw[if_pos hi]at C
          exact hc.2 i v c (by grind) C
        . rename_i hi;rw[if_neg hi]at C
          split at D
          . rename_i G;rw[if_pos G]at C;exact H.2 _ v c D C
          . rename_i G;rw[if_neg G]at C;exact hc.2 i v c (by grind) C
     obtain ⟨J,D,C⟩:=ih qs _ _ r (by grind) (fun i p' q' hp' hq'=>Y (i+1) p' q' (by grind) (by grind)) U h;refine⟨J,?_,C⟩;rw[<-e1]at N;unfold Instr.fill;rw[N];have I:¬(p.2.cells.size≠z.2||decide (z.1+p.2.cells.size>cells.size))=zt:=by
      grind
     have e3:(match(z:Nat×Nat)with|(off,size)=>if p.2.cells.size≠size||decide (off+p.2.cells.size>cells.size)then zn else Instr.fill place (p.2.cells.zipIdx.foldl (fun cs (c,j)=>cs.setIfInBounds (off+j) c) cells) ps)=zs J:=by
      show(if _ then _ else _)=_
      rw[if_neg I]
      have:=eS cells z.1 p.2
      grind[mM]
     exact e3
theorem Ha(C:Sat E W cx h){a:Act}{fr:Tr}(hf:dh W cx a.tmps fr):∀(l:List (Nat×Operand)),
 lz (l.map fun p=>(p.1,a.eval p.2))=lz (iz E l fr)/\
   ∀(i:Nat)(p:Nat×Value)(q:Nat×AV),(l.map fun p=>(p.1,a.eval p.2))[i]?=zs p->(iz E l fr)[i]?=zs q->p.1=q.1/\Rep W cx p.2 q.2
 |[]=>⟨rfl,by simp⟩
 |x::r=>by
  obtain⟨h1,h2⟩:=Ha C hf r;have e:iz E (x::r) fr=(x.1,opv E x.2 fr)::iz E r fr:=rfl;refine⟨by grind,fun i p q D B=>?_⟩;rw[e]at B;cases i with
  |zero=>simp at D B;subst D B;exact⟨rfl,W7 C hf x.2⟩
  |succ i=>
   grind
theorem Yh{α β:Type}(g:α->Option β):∀(l:List α),(∀f∈l,∃b,g f=zs b)->∃bs,l.mapM g=zs bs/\∀(i:Nat) f,l[i]?=zs f->bs[i]?=g f
 |[],_=>⟨[],rfl,by simp⟩
 |f::l,h=>by
  obtain⟨b,hb⟩:=h f (zqv ..);obtain⟨bs,h1,h2⟩:=Yh g l (by grind);refine⟨b::bs,by simp_all,fun i f' hi=>?_⟩;grind
theorem eT(N:dn E P){t:Nat}{ti:TI}(ht:E.ti t=zs ti){ps:Array (Nat×Value)}{qs:List (Nat×AV)}{r:AV}(hl:lz ps.toList=lz qs)
 (J:∀(i:Nat) p q,ps.toList[i]?=zs p->qs[i]?=zs q->p.1=q.1/\Rep W cx p.2 q.2)(h:X3 E ti qs=zs r):
 ∃v,(Instr.build t ps).run P W=.ok v W/\Rep W cx v r:=by
 have C:=N.ti t ti ht;have D:=C.desc;unfold I7 at D;obtain⟨z,hz,H⟩:=C.run_zero (W:=W);have G:=(H.rep W cx).cells H.und;unfold X3 at h;cases hk:ti.desc with
 |struct fs b=>
  rw[hk]at h D;obtain⟨fields,hu,h2,I,_⟩:=D;have Q:∀W:World,(underlying t).run P W=.ok (.struct fields) W:=fun W=>A3 hu
  obtain ⟨cs,B,rfl⟩:=Option.map_eq_some_iff.1 h;obtain⟨pl,X,hp2⟩:=Yh (fun f:Field=>(P.info? f.type).map fun i=>(f.offset,i.size)) fields.toList (fun f hf=>by
   obtain⟨i,hi⟩:=I f hf;simp_all)
  have U:∀i q,A5 (Wj fs i) (fun f=>onTI E f.1 zn fun g=>zs (f.2,g.size))=zs q->pl[i]?=zs q:=by
   intro i q hi;obtain⟨p,Y,hi⟩:=A1 hi;obtain⟨g,hg,hi⟩:=E8 hi;cases hi;rw[bB,<-h2,zqu]at Y;cases hf:fields.toList[i]? with
   |none=>grind
   |some f=>
    rw[hf]at Y;cases Y;obtain⟨ii,_,e1,e2,_⟩:=(N.ti _ _ hg).info;grind
  obtain⟨c',h3,h4⟩:=To (place:=(pl[·]?)) U ps.toList qs z.cells _ cs hl J G B;refine⟨.agg c',by simp[Instr.build,hz,Q,Array.mapM_eq_mapM_toList,run_places W _ _ X,h3],?_⟩
  have:=Rep.agg_mk h4
  omega
 |array n e=>
  rw[hk]at h D;have Q:∀W:World,(underlying t).run P W=.ok (.array n e) W:=fun W=>A3 D
  obtain⟨te,aa,h⟩:=E8 h;obtain⟨cs,B,rfl⟩:=Option.map_eq_some_iff.1 h;have V:=(N.ti e te aa).run_sizeOf (W:=W);obtain⟨c',h3,h4⟩:=To (place:=fun i=>zs (i*te.size,te.size)) (fun i q J=>J) ps.toList qs z.cells _ cs hl J G B;refine⟨.agg c',by simp[Instr.build,hz,Q,V,h3],?_⟩
  have:=Rep.agg_mk h4
  simp_all
 |_=>grind
end
end Go.AM
/-
 The abstract machine: new slices; append; copy.
-/
namespace Go.AM
section
variable {P:Program}{E:Env}{W:World}{cx:Cx}{h:Vg}
theorem Rp{z:Value}{a:AV}{sz:Nat}(hz:qx z a)(H:lz a.cells=sz)(hp:0<sz)(n:Nat){c:Array Value}(hc:∀k,k<n*sz->c[k]?=z.cells[k%sz]?):
 db W cx ((zqr (n*sz)).map fun k=>(z.cells[k%sz]?).getD undef) (List.replicate n a) sz/\(∀(k:Nat) v,((zqr (n*sz)).map fun k=>(z.cells[k%sz]?).getD undef)[k]?=zs v->c[k]?=zs v):=by
 have B:=(hz.rep W cx).cells hz.und;have hzs:z.cells.size=sz:=by have:=B.1;grind
 have hget:∀k,k<n*sz->∃v,z.cells[k%sz]?=zs v:=by
  grind[zqf]
 refine⟨⟨by simp,fun i e hi=>?_,fun i e j c' hi G=>?_⟩,fun k v I=>?_⟩
 . grind
 . rw [List.getElem?_replicate]at hi
   split at hi
   . rename_i D
     cases hi;have C:=V2 G;rw[H]at C;have I:=bK D C;obtain⟨v,J,N⟩:=B.get G;have hv':z.cells[j]?=zs v:=by grind
     refine⟨v,?_,hz.one v (zqx J),N⟩;grind[mL]
   . cases hi
 grind
theorem ie{z:Array Value}{sz:Nat}(hz:z.size=sz)(hp:0<sz)(n k:Nat)(hk:k<n):((zkg n).map (fun i=>z[i%z.size]!))[k]?=z[k%sz]?:=by
 grind[zqf]
theorem bN{b sz n cap:Nat}{cx:Cx}{W:World}{id:Nat}(hid:id<cx.nx)(B:cx.μ id=(b,0,sz))(hb:b<W.heap.size)(hn:n<=cap)(hc:cap*sz<=mm W b):
 Rep W cx (.slice (zs ⟨b,0,zn⟩) n cap) (.msl id 0 n sz):=by
 refine .msl _ n cap id 0 sz hid (by rw[B]) (by grind) hn (by grind) (by simp)
theorem Tp(W:World)(c:Array Value)(t:TypeId)(f:Nat×Nat):mm (W.alloc (.cells c t f)) W.heap.size=c.size:=by
 unfold mm;rw[K7]
theorem Tq(C:Sat E W cx h){t:Nat}{c:Array Value}{es:List AV}{sz n cap:Nat}{vs:List Value}(D:db W cx vs es sz)(B:∀(k:Nat) v,vs[k]?=zs v->c[k]?=zs v)
 (hfit:lz es*sz<=c.size)(hn:n<=cap)(hc:cap*sz<=c.size):
 ∃cx',Ext W cx (W.alloc (.cells c t)) cx'/\Sat E (W.alloc (.cells c t)) cx' (h.push (.row es sz))/\Rep (W.alloc (.cells c t)) cx' (.slice (zs ⟨W.heap.size,0,zn⟩) n cap) (.msl h.next 0 n sz):=by
 obtain⟨G,H,I⟩:=Tm C (t:=t) D B hfit;exact⟨_,G,H,bN (by rw[C.nx];exact zqj _) I (by simp) hn (by rw[Tp];exact hc)⟩
theorem Z6{d:TD}{te:TI}(h:cu E d=zs te):∃e,d=.slice e/\E.ti e=zs te:=by
 cases d with
 |slice e=>exact⟨e,rfl,h⟩
 |_=>cases h
theorem eU{sz:Nat}(hp:0<sz):∀(ps:List (Nat×Value))(qs:List (Nat×AV))(cells:Array Value)(es r:List AV),
 lz ps=lz qs->(∀(i:Nat) p q,ps[i]?=zs p->qs[i]?=zs q->p.1=q.1/\Rep W cx p.2 q.2)->db W cx cells.toList es sz->gi sz qs es=zs r ->
 ∃D,Instr.fill (fun i=>zs (i*sz,sz)) cells ps=zs D/\db W cx D.toList r sz:=by
 intro ps
 induction ps with
 |nil=>
  intro qs cells es r hl _ hc h;cases qs with
  |nil=>cases h;exact⟨cells,rfl,hc⟩
  |cons _ _=>simp at hl
 |cons p ps ih=>
  intro qs cells es r hl I hc h;cases qs with
  |nil=>simp at hl
  |cons q qs=>
   obtain ⟨e1,X⟩:=I 0 p q rfl rfl;have h:B5 (Nat.blt q.1 (dw es)&&Nat.beq (dw q.2.cells) sz&&E4 q.2.cells) (gi sz qs (we es q.1 q.2))=zs r:=h;obtain⟨hg,h⟩:=A6 h;rw[zqa,zqa,A4,A4,G9]at hg;have J:=K5 hg.1.1;have N:=D8 hg.1.2;have H:q.2≠.und:=fun e=>by
    have:=hg.2 .und (by rw[e];simp[AV.cells])
    cases this
   have B:=X.cells H;have hone:=B.one hg.2;rw[Ai]at h;have hcl:=hc.len;have hlen:lz p.2.cells.toList=sz:=by rw[B.1,N]
   have hfit:q.1*sz+sz<=cells.size:=by
    have:cells.size=lz es*sz:=by grind
    have:=zqb sz (show q.1+1<=lz es from J)
    grind
   have G:db W cx (ko cells (q.1*sz) p.2.cells.toList).toList (es.set q.1 q.2) sz:=by
    have:=hc.set (db.one B hone N) J
    have e:cells.toList.take (q.1*sz)++(p.2.cells.toList++cells.toList.drop ((q.1+1)*sz))=(ko cells (q.1*sz) p.2.cells.toList).toList:=by
     have V:cells.toList.take (q.1*sz)++(p.2.cells.toList++cells.toList.drop ((q.1+1)*sz))=eh cells.toList (q.1*sz) p.2.cells.toList:=by
      grind[eh]
     rw[V];apply zke;grind[Ez]
    grind
   obtain ⟨D,h1,Y⟩:=ih qs _ _ r (by grind) (fun i Q U hp' hq'=>I (i+1) Q U (by grind) (by grind)) G h;refine⟨D,?_,Y⟩;have C:¬(p.2.cells.size≠sz||decide (p.1*sz+p.2.cells.size>cells.size))=zt:=by
    grind
   have e3:(if p.2.cells.size≠sz||decide (p.1*sz+p.2.cells.size>cells.size)then zn else Instr.fill (fun i=>zs (i*sz,sz)) (p.2.cells.zipIdx.foldl (fun cs (c,j)=>cs.setIfInBounds (p.1*sz+j) c) cells) ps)=zs D:=by
    rw[if_neg C]
    have:=eS cells (p.1*sz) p.2
    grind[mM]
   exact e3
theorem Fa(Y:dn E P)(hs:Sat E W cx h){t:Nat}{ti te:TI}(ht:E.ti t=zs ti)(G:cu E ti.desc=zs te){n:Nat}{ps:Array (Nat×Value)}{qs:List (Nat×AV)}{es:List AV}
 (hl:lz ps.toList=lz qs)(hq:∀(i:Nat) p q,ps.toList[i]?=zs p->qs[i]?=zs q->p.1=q.1/\Rep W cx p.2 q.2)
 (hg:(Nat.ble (Nat.mul n te.size) 65536&&Nat.blt 0 te.size)=zt)(hp:gi te.size qs (oi n te.zero)=zs es):
 ∃(e:Nat)(C:Array Value),(Instr.buildSlice t n ps).run P W=.ok (.slice (zs ⟨W.heap.size,0,zn⟩) n n) (W.alloc (.cells C e))/\db W cx C.toList es te.size/\C.size=n*te.size/\lz es=n:=by
 obtain⟨e,hk,G⟩:=Z6 G;have J:=(Y.ti t ti ht).desc;unfold I7 at J;rw[hk]at J;have r1:∀W:World,(underlying t).run P W=.ok (.slice e) W:=fun W=>A3 J
 rw[zqa]at hg;have g1:n*te.size<=65536:=C5 hg.1;have g2:=K5 hg.2;have D:=Y.ti e te G;have hz:=D.run_sizeOf (W:=W);obtain⟨z,X,H⟩:=D.run_zero (W:=W);have hzs:z.cells.size=te.size:=by have:=((H.rep W cx).cells H.und).1;simp at this;rw[this];exact D.zsz
 have place:∀(cells:Array Value),db W cx cells.toList (List.replicate n te.zero) te.size->cells.size=n*te.size ->
  ∃C,Instr.fill (fun i=>zs (i*te.size,te.size)) cells ps.toList=zs C/\db W cx C.toList es te.size:=by
  grind[m7,eU]
 have N:¬(n*te.size>2^24):=by omega
 obtain ⟨C,hc1,I⟩:=place ((zkg (n*te.size)).map (fun i=>z.cells[i%z.cells.size]!)) (by
  obtain ⟨a1,a2⟩:=Rp (W:=W) (cx:=cx) H D.zsz g2 n (c:=(zkg (n*te.size)).map (fun i=>z.cells[i%z.cells.size]!)) (by grind[Go.AM.ie]);have e:((zkg (n*te.size)).map (fun i=>z.cells[i%z.cells.size]!)).toList=(zqr (n*te.size)).map fun k=>(z.cells[k%te.size]?).getD undef:=by
   apply zke;grind
  grind) (by simp)
 have hlen:=I.len;have Q:lz es=n:=by
  have:∀(qs:List (Nat×AV))(es r:List AV),gi te.size qs es=zs r->lz r=lz es:=by
   intro qs
   induction qs with
   |nil=>intro es r h;cases h;rfl
   |cons q qs ih=>
    intro es r h;have h:B5 (Nat.blt q.1 (dw es)&&Nat.beq (dw q.2.cells) te.size&&E4 q.2.cells) (gi te.size qs (we es q.1 q.2))=zs r:=h;grind[A6,Ai]
  grind[m7]
 have U:C.size=n*te.size:=by grind
 refine ⟨e,C,?_,I,U,Q⟩;have B:Instr.fill (fun i=>zs (i*te.size,te.size)) ((zkg (n*te.size)).map (fun i=>(if n*te.size=0 then #[]else z.cells)[i%(if n*te.size=0 then(#[]:Array Value)else z.cells).size]!)) ps.toList=zs C:=by
  grind
 have V:(sizeOf e).run P W=.ok te.size W:=hz;simp only[Instr.buildSlice,Sem.run_bind,r1,V,Result.andThen_ok,if_neg N];by_cases h0:n*te.size=0
 . simp only[if_pos h0]at B|-
   simp only[Sem.run_bind,Sem.run_pure,Result.andThen_ok,B];simp[newRow]
 . simp only[if_neg h0]at B|-
   simp only[Sem.run_bind,Sem.run_pure,Result.andThen_ok,X,B];simp[newRow]
theorem Oe(G:dn E P)(D:Sat E W cx h){t:Nat}{ti te:TI}(H:E.ti t=zs ti)(B:cu E ti.desc=zs te){n:Nat}{ps:Array (Nat×Value)}{qs:List (Nat×AV)}{es:List AV}
 (hl:lz ps.toList=lz qs)(hq:∀(i:Nat) p q,ps.toList[i]?=zs p->qs[i]?=zs q->p.1=q.1/\Rep W cx p.2 q.2)
 (hg:(Nat.ble (Nat.mul n te.size) 65536&&Nat.blt 0 te.size)=zt)(hp:gi te.size qs (oi n te.zero)=zs es):
 ∃v W' cx',(Instr.buildSlice t n ps).run P W=.ok v W'/\Ext W cx W' cx'/\Sat E W' cx' (h.push (.row es te.size))/\Rep W' cx' v (.msl h.next 0 n te.size):=by
 obtain⟨e,I,h1,C,hcs,hrl⟩:=Fa G D H B hl hq hg hp;obtain⟨cx',k1,k2,k3⟩:=Tq D (t:=e) (c:=I) (n:=n) (cap:=n) C (fun k v hk=>by grind) (by grind) (zqc _) (by grind);grind
theorem Qq(hE:dn E P)(hs:Sat E W cx h){t:Nat}{ti te:TI}(ht:E.ti t=zs ti)(G:cu E ti.desc=zs te){x y:Value}{a b:AV}{n m:Nat}(hx:Rep W cx x a)(hy:Rep W cx y b)
 (hn:ew a=zs n)(hm:ew b=zs m)(hg:(Nat.ble n m&&Nat.ble (Nat.mul m te.bytes) 140737488355328&&Nat.blt 0 te.size)=zt):
 ∃v W' cx',(Instr.makeSlice t x y).run P W=.ok v W'/\Ext W cx W' cx'/\Sat E W' cx' (h.push (.row (oi n te.zero) te.size))/\Rep W' cx' v (.msl h.next 0 n te.size):=by
 obtain⟨e,I,G⟩:=Z6 G;have J:=(hE.ti t ti ht).desc;unfold I7 at J;rw[I]at J;obtain⟨k1,rfl⟩:=R7 hn;obtain⟨k2,rfl⟩:=R7 hm;cases hx.int_inv;cases hy.int_inv;rw[zqa,zqa]at hg;have g1:=C5 hg.1.1;have g2:m*te.bytes<=140737488355328:=C5 hg.1.2;have N:=K5 hg.2;have B:=hE.ti e te G;have hb:=B.pos N;obtain⟨i,z,U,V,X,Y,H⟩:=B.info;have Q:z.cells.size=te.size:=by have:=((H.rep W cx).cells H.und).1;simp at this;rw[this];exact B.zsz
 have hm47:m<=140737488355328:=Nat.le_trans (zqk m hb) g2;have C:=Rp (W:=W) (cx:=cx) H B.zsz N n (c:=madeCells z.cells (m*te.size)) (fun k I=>ie Q N _ k (zqn I (zqb _ g1)));obtain⟨cx',aa,ab,ac⟩:=Tq hs (t:=e) (c:=madeCells z.cells (m*te.size)) (n:=n) (cap:=m) C.1 C.2 (by simp_all[size_madeCells,zqb]) g1 (by simp_all[size_madeCells]);rw[m7];refine⟨_,_,cx',?_,aa,ab,ac⟩;have D:=run_make (P:=P) W t e i z J U Y k1 k2 (n:Int) (m:Int) (by omega) (by omega) (by
  rw[X]
  have:(te.bytes:Int)*(m:Int)=((m*te.bytes:Nat):Int):=by rw[zqg];simp
  rw[this];omega) (by omega)
 rw[V]at D;simpa using D
theorem Wu(hE:dn E P)(hs:Sat E W cx h){t:Nat}{ti te:TI}(ht:E.ti t=zs ti)(G:cu E ti.desc=zs te){x y:Value}{a b:AV}{n m:Nat}(hx:Rep W cx x a)(hy:Rep W cx y b)
 (hn:ew a=zs n)(hm:ew b=zs m)(hg:(Nat.ble n m&&Nat.ble (Nat.mul m te.bytes) 140737488355328&&Nat.blt 0 te.size)=zt):
 ∃(e:Nat)(I:Array Value)(vs:List Value),(Instr.makeSlice t x y).run P W=.ok (.slice (zs ⟨W.heap.size,0,zn⟩) n m) (W.alloc (.cells I e))/\db W cx vs (oi n te.zero) te.size/\(∀(k:Nat) v,vs[k]?=zs v->I[k]?=zs v)/\n<=m/\I.size=m*te.size:=by
 obtain⟨e,J,G⟩:=Z6 G;have N:=(hE.ti t ti ht).desc;unfold I7 at N;rw[J]at N;obtain⟨k1,rfl⟩:=R7 hn;obtain⟨k2,rfl⟩:=R7 hm;cases hx.int_inv;cases hy.int_inv;rw[zqa,zqa]at hg;have g1:=C5 hg.1.1;have g2:m*te.bytes<=140737488355328:=C5 hg.1.2;have Q:=K5 hg.2;have B:=hE.ti e te G;have hb:=B.pos Q;obtain⟨i,z,V,X,Y,aa,H⟩:=B.info;have U:z.cells.size=te.size:=by have:=((H.rep W cx).cells H.und).1;simp at this;rw[this];exact B.zsz
 have hm47:m<=140737488355328:=Nat.le_trans (zqk m hb) g2;have C:=Rp (W:=W) (cx:=cx) H B.zsz Q n (c:=madeCells z.cells (m*te.size)) (fun k J=>ie U Q _ k (zqn J (zqb _ g1)));rw[m7];refine⟨e,madeCells z.cells (m*te.size),_,?_,C.1,C.2,g1,by rw[size_madeCells]⟩;have D:=run_make (P:=P) W t e i z N V aa k1 k2 (n:Int) (m:Int) (by omega) (by omega) (by
  rw[Y]
  have:(te.bytes:Int)*(m:Int)=((m*te.bytes:Nat):Int):=by rw[zqg];simp
  rw[this];omega) (by omega)
 rw[X]at D;simpa using D
structure xu(P:Program)(W:World)(argTypes:Array TypeId)(args:Array Value)(e:TypeId)(i:TypeInfo)(z:Value)(base:Option Addr)(sLen sCap n:Nat)(news:List Value):Prop where
 t:∃t,argTypes[0]?=zs t/\P.underlying t=zs (.slice e)
 s:args[0]?=zs (.slice base sLen sCap)
 info:P.info? e=zs i
 zero:i.zero=zs z
 x:∃x tx d,args[1]?=zs x/\argTypes[1]?=zs tx/\P.underlying tx=zs d/\
  (((∀k,d≠.int k)/\(∃a c,x=.slice a n c)/\∀W':World,W'.heap=W.heap->(Builtin.firstCells i.size n x).run P W'=.ok news.toArray W')\/
   (∃k,d=.int k/\(∃k',x=.int k' (n:Int))/\n*i.bytes<=140737488355328/\n<=140737488355328/\(if n*i.size=0 then []else(Builtin.zeroCells z.cells n).toList)=news))
theorem Qa{argTypes:Array TypeId}{ty:TypeId}{args:Array Value}{e:TypeId}{i:TypeInfo}{z:Value}{base:Option Addr}{sLen sCap n:Nat}{news:List Value}
 (ha:xu P W argTypes args e i z base sLen sCap n news)(hroom:sLen+n<=sCap){W':World}
 (hst:∀a,base=zs a->(storeCells (a.add (sLen*i.size)) news).run P W=.ok () W')(hnone:base=zn->W'=W):
 (Builtin.append_ argTypes ty args).run P W=.ok (.slice base (sLen+n) sCap) W':=by
 obtain⟨t,B,U⟩:=ha.t;obtain⟨x,tx,d,C,D,V,X⟩:=ha.x;have G:∀W:World,(underlying t).run P W=.ok (.slice e) W:=fun W=>A3 U
 have H:∀W:World,(underlying tx).run P W=.ok d W:=fun W=>A3 V
 have I:∀W:World,(typeInfo e).run P W=.ok i W:=fun W=>by simp[typeInfo,ha.info]
 have J:∀W:World,(sizeOf e).run P W=.ok i.size W:=fun W=>by simp[sizeOf,I]
 have r5:∀W:World,(zeroValue e).run P W=.ok z W:=fun W=>by simp[zeroValue,I,ha.zero]
 rcases X with⟨hd,⟨a,c,rfl⟩,hf⟩|⟨k,rfl,⟨k',rfl⟩,hb,hn,hz⟩
 . have hm:(match d with | .int _=>zt|_=>zf)=zf:=by simp_all
   have hf:=hf W rfl;cases base with
   |none=>
    have:=hnone rfl
    subst this;simp[Builtin.append_,B,ha.s,C,D,G,H,J,hm,Builtin.lenOf,hroom,hf]
   |some Y=>
    have:=hst Y rfl
    simp[Builtin.append_,B,ha.s,C,D,G,H,J,hm,Builtin.lenOf,hroom,hf,this]
 . have c0:¬((n:Int)<0):=by omega
   have N:IntKind.i64.wrap (n:Int)=(n:Int):=by rw[IntKind.wrap_i64];omega
   have Q:¬(281474976710656<(n:Int)*(i.bytes:Int)):=by
    grind
   cases base with
   |none=>
    have:=hnone rfl
    subst this;by_cases h0:n*i.size=0
    . simp[Builtin.append_,B,ha.s,C,D,G,H,I,J,hroom,asInt,asIntOf,N,c0,Q,h0]
    . simp[Builtin.append_,B,ha.s,C,D,G,H,I,J,r5,hroom,asInt,asIntOf,N,c0,Q,h0]
   |some Y=>
    have:=hst Y rfl
    by_cases h0:n*i.size=0
    . rw[if_pos h0]at hz;subst hz
      simp[Builtin.append_,B,ha.s,C,D,G,H,I,J,hroom,asInt,asIntOf,N,c0,Q,h0,this]
    . rw[if_neg h0]at hz;subst hz
      simp[Builtin.append_,B,ha.s,C,D,G,H,I,J,r5,hroom,asInt,asIntOf,N,c0,Q,h0,this]
theorem eV{argTypes:Array TypeId}{ty:TypeId}{args:Array Value}{e:TypeId}{i:TypeInfo}{z:Value}{base:Option Addr}{sLen sCap n:Nat}{D news:List Value}
 (ha:xu P W argTypes args e i z base sLen sCap n news)(hold:∀W':World,W'.heap=W.heap->(Builtin.firstCells i.size sLen (.slice base sLen sCap)).run P W'=.ok D.toArray W')(hroom:sCap<sLen+n)(h63:sLen+n<=9223372036854775807)(hfit:(sLen+n)*i.bytes<=140737488355328):
 (Builtin.append_ argTypes ty args).run P W=.ok (.slice (zs ⟨W.heap.size,0,zn⟩) (sLen+n) (grownCap W (sLen+n) sCap e))
   (W.drew.alloc (.cells (D.toArray++news.toArray++Builtin.zeroCells z.cells (grownCap W (sLen+n) sCap e-(sLen+n))) e)):=by
 obtain⟨t,G,X⟩:=ha.t;obtain⟨x,tx,d,H,I,Y,aa⟩:=ha.x;have N:∀W:World,(underlying t).run P W=.ok (.slice e) W:=fun W=>A3 X
 have Q:∀W:World,(underlying tx).run P W=.ok d W:=fun W=>A3 Y
 have J:∀W:World,(typeInfo e).run P W=.ok i W:=fun W=>by simp[typeInfo,ha.info]
 have U:∀W:World,(sizeOf e).run P W=.ok i.size W:=fun W=>by simp[sizeOf,J]
 have V:∀W:World,(zeroValue e).run P W=.ok z W:=fun W=>by simp[zeroValue,J,ha.zero]
 have hn:¬(sLen+n<=sCap):=by omega
 have B:¬(9223372036854775807<((sLen:Int)+(n:Int))):=by omega
 have C:¬(281474976710656<Builtin.nextslicecap (sLen+n) sCap*i.bytes):=by simp_all[growslice_fits]
 have ho:=hold W.drew rfl;rcases aa with⟨hd,⟨a,c,rfl⟩,hf⟩|⟨k,rfl,⟨k',rfl⟩,hb,hnn,hz⟩
 . have hm:(match d with | .int _=>zt|_=>zf)=zf:=by simp_all
   have hf:=hf W.drew rfl;simp[Builtin.append_,G,ha.s,H,I,N,Q,J,U,V,Builtin.lenOf,hn,B,C,Question.forced,hf,ho,newRow,grownCap];grind
 . have c0:¬((n:Int)<0):=by omega
   have w1:IntKind.i64.wrap (n:Int)=(n:Int):=by rw[IntKind.wrap_i64];omega
   have c3:¬(281474976710656<(n:Int)*(i.bytes:Int)):=by
    grind
   by_cases h0:n*i.size=0
   . rw[if_pos h0]at hz;subst hz
     simp[Builtin.append_,G,ha.s,H,I,N,Q,J,U,V,hn,B,C,Question.forced,ho,newRow,grownCap,asInt,asIntOf,w1,c0,c3,h0]
   . rw[if_neg h0]at hz;subst hz
     simp[Builtin.append_,G,ha.s,H,I,N,Q,J,U,V,hn,B,C,Question.forced,ho,newRow,grownCap,asInt,asIntOf,w1,c0,c3,h0]
theorem bO(w:World)(B old:Nat)(e:TypeId):B<=grownCap w B old e:=by
 simp_all[grownCap,Question.cut]
theorem Av(hE:dn E P)(U:Sat E W cx h){e:Nat}{te:TI}(az:E.ti e=zs te){argTypes:Array TypeId}{ty:TypeId}{args:Array Value}{t tx:Nat}{dx:TypeDesc}
 (ht1:argTypes[0]?=zs t)(ht2:P.underlying t=zs (.slice e))(hx2:argTypes[1]?=zs tx)(hx3:P.underlying tx=zs dx)
 {sv xv:Value}{s r:AV}(ha1:args[0]?=zs sv)(ha2:args[1]?=zs xv)(hsv:Rep W cx sv s){xs:List AV}{us:List Value}(hur:db W cx us xs te.size)
 (hx:((∀k,dx≠.int k)/\(∃a c,xv=.slice a (lz xs) c)/\∀W':World,W'.heap=W.heap->(Builtin.firstCells te.size (lz xs) xv).run P W'=.ok us.toArray W')\/
   (∃k,dx=.int k/\(∃k',xv=.int k' (lz xs:Int))/\lz xs*te.bytes<=140737488355328/\lz xs<=140737488355328/\∀z i,P.info? e=zs i->i.zero=zs z->(if lz xs*te.size=0 then []else(Builtin.zeroCells z.cells (lz xs)).toList)=us))
 (hone:Wl us) (hpos:0<te.bytes) {h':Vg} (hnl:s≠.x0a\/xs=[]) (B:I1 te s xs h=zs (r,h')):
 ∃v W' cx',(Builtin.append_ argTypes ty args).run P W=.ok v W'/\Ext W cx W' cx'/\Sat E W' cx' h'/\Rep W' cx' v r:=by
 have an:=hE.ti e te az;obtain⟨i,z,ba,au,bb,bc,av⟩:=an.info;have V:∀{base:Option Addr}{sLen sCap:Nat},sv=.slice base sLen sCap->xu P W argTypes args e i z base sLen sCap (lz xs) us:=by
  intro base sLen sCap D;refine⟨⟨t,ht1,ht2⟩,D▸ha1,ba,bc,⟨xv,tx,dx,ha2,hx2,hx3,?_⟩⟩;grind
 have ag:∀{base:Option Addr}{sLen sCap:Nat}{H:List Value}{es:List AV}{h0:Vg},sv=.slice base sLen sCap->Sat E W cx h0->h0.next=h.next ->
  (∀W':World,W'.heap=W.heap->(Builtin.firstCells te.size sLen (.slice base sLen sCap)).run P W'=.ok H.toArray W')->db W cx H es te.size->lz es=sLen ->
  sCap<sLen+lz xs->(sLen+lz xs)*te.bytes<=140737488355328->r=.msl h.next 0 (sLen+lz xs) te.size->h'=h0.push (.row (es++xs) te.size) ->
  ∃v W' cx',(Builtin.append_ argTypes ty args).run P W=.ok v W'/\Ext W cx W' cx'/\Sat E W' cx' h'/\Rep W' cx' v r:=by
  intro base sLen sCap H es h0 D a0 hnx hold am ab G af hr hh;have a1:sLen+lz xs<=9223372036854775807:=by
   have:=zqk (sLen+lz xs) hpos;omega
  have I:=eV (ty:=ty) (V D) (au.symm▸hold) G a1 (bb▸af);have ao:Ext W cx W.drew cx:=Ext.of_heap rfl ⟨rfl,rfl,rfl⟩;have a2:Sat E W.drew cx h0:=a0.mono rfl;have C:=(am.append hur).mono ao;have aq:=bO W (sLen+lz xs) sCap e;have a3:z.cells.size=te.size:=by have:=((av.rep W cx).cells av.und).1;simp at this;rw[this];exact an.zsz
  have ah:(H.toArray++us.toArray++Builtin.zeroCells z.cells (grownCap W (sLen+lz xs) sCap e-(sLen+lz xs))).size=grownCap W (sLen+lz xs) sCap e*te.size:=by
   have h1:=am.len;have h2:=hur.len;simp only[Array.size_append,List.size_toArray,Builtin.zeroCells,Array.size_map,Array.size_range,a3,h1,h2,ab];rw[<-zqd,<-zqd]
   congr 1;omega
  obtain ⟨cx',k1,k2,k3⟩:=Tq a2 (t:=e) (n:=sLen+lz xs) (cap:=grownCap W (sLen+lz xs) sCap e) C
   (c:=H.toArray++us.toArray++Builtin.zeroCells z.cells (grownCap W (sLen+lz xs) sCap e-(sLen+lz xs)))
   (by grind)
   (by rw[ah,zkf,ab];exact zqb _ aq) aq (by rw[ah];exact zqc _)
  refine⟨_,_,cx',I,ao.trans k1,?_,?_⟩
  . grind
  simp_all
 cases ae:xs with
 |nil=>
  subst ae;have a4:us=[]:=zqw (by have:=hur.len;grind);have same:r=s->h'=h->∀{base:Option Addr}{sLen sCap:Nat},sv=.slice base sLen sCap->sLen<=sCap ->
   ∃v W' cx',(Builtin.append_ argTypes ty args).run P W=.ok v W'/\Ext W cx W' cx'/\Sat E W' cx' h'/\Rep W' cx' v r:=by
   intro hr hh base sLen sCap D hlc;have I:=Qa (ty:=ty) (V D) (by grind) (W':=W) (fun a _=>by rw[a4];rfl) (fun _=>rfl);refine⟨_,W,cx,I,Ext.refl _ _,by rw[hh];exact U,?_⟩;rw[hr];simp only[List.length_nil,zqi];rw[<-D];exact hsv
  cases s with
  |fsl es f=>
   have B:=Option.some.inj B;simp only[Prod.mk.injEq]at B;obtain⟨ad,cap,vs,sz,e1,e2,_⟩:=Y4 (P:=P) U hsv (rfl:elems (.fsl es f) h=zs es);exact same B.1.symm B.2.symm e1 e2
  |msl id off n sz=>
   have B:=Option.some.inj B;simp only[Prod.mk.injEq]at B;cases hsv with
   |msl ad n cap id off sz hid hz hb hc ha hnn=>grind
  |x0a=>
   have B:=Option.some.inj B;simp only[Prod.mk.injEq]at B;cases hsv with
   |x0a=>grind
  |_=>cases B
 |cons x0 xr=>
  rw[ae]at B;cases s with
  |fsl es full=>
   have B:Ad te es full (x0::xr) h=zs (r,h'):=B;rw[Jt]at B;rw[C1]at B;obtain⟨hg,B⟩:=A6 B;rw[<-ae]at hg B;rw[zqa,zqa,A4,A4]at hg;obtain⟨⟨g1,g2⟩,g3⟩:=hg;have g2:(lz es+lz xs)*te.bytes<=140737488355328:=C5 g2;simp only[Option.some.injEq,Prod.mk.injEq,A4,M0]at B;obtain⟨ad,cap,vs,sz,e1,e2,C,al⟩:=Y4 (P:=P) U hsv (rfl:elems (.fsl es full) h=zs es);have hcap:cap=lz es:=by
    have key:∀{v:Value},Rep W cx v (.fsl es full)->v=.slice ad (lz es) cap->cap=lz es:=by
     intro v hv he;cases hv with
     |fsl ad' b o n cap' es' full' bd g hn hc hf ha hsz hcell hone hrep _=>grind
    grind
   have X:∀e∈es,lz e.cells=te.size:=by
    intro e' aj;obtain⟨k,hk⟩:=zqz aj;cases es with
    |nil=>simp at aj
    |cons e0 r0=>
     have g3:Nat.beq (dw e0.cells) te.size=zt:=g3;rw[A4]at g3;rw[C.size k e' hk,<-C.size 0 e0 rfl];simp_all
   have N:db W cx vs es te.size:=by
    cases es with
    |nil=>exact⟨by have:=C.len;grind,by simp,by simp⟩
    |cons e0 r0=>
     have:sz=te.size:=by rw[<-C.size 0 e0 rfl];grind
     grind
   have a5:0<lz xs:=by grind
   refine ag e1 U rfl (fun W' ak=>?_) N rfl (by omega) g2 B.1.symm B.2.symm
   have:=al W' ak (lz es) te.size (zqc _) X
   rw[<-C.len,List.take_length,e1]at this;exact this
  |msl id off n sz=>
   have B:h.onRow id zn (Ld te id off n (x0::xr) h)=zs (r,h'):=B;obtain⟨es,bd,ac,B⟩:=Vg.onRow_some B;rw[Su]at B;rw[C1]at B;obtain⟨hg,B⟩:=A6 B;rw[<-ae]at hg B;rw[zqa,zqa,A4,A4]at hg;obtain⟨⟨g1,g2⟩,g3⟩:=hg;have g1:off+n<=lz es:=C5 g1;have g2:=D8 g2;have g3:(n+lz xs)*te.bytes<=140737488355328:=C5 g3;subst g2;simp only[Option.some.injEq,Prod.mk.injEq,A4,M0,I6,I5]at B;obtain⟨_,aw,ai,ax⟩:=U.objs id _ ac;have ab:elems (.msl id off n sz) h=zs ((es.drop off).take n):=by
    show h.onRow id zn _=_
    unfold Vg.onRow;rw[ac];show(bif Nat.ble (Nat.add off n) (dw es)then zs (kh (ls es off) n)else zn)=_
    simp_all[zqo,A4,I6,I5]
   have J:lz ((es.drop off).take n)=n:=by grind
   obtain ⟨ad,cap,vs,ay,e1,e2,C,al⟩:=Y4 (P:=P) U hsv ab;obtain⟨h1,c,t',hh,af,Q⟩:=ax.row;have X:∀e∈(es.drop off).take n,lz e.cells=te.size:=by
    intro e' aj;have hm:e'∈es:=(by grind)
    obtain⟨k,hk⟩:=zqz hm;exact Q.size k e' hk
   have a5:0<lz xs:=by grind
   rw[J]at e1 e2;by_cases G:n+lz xs<=cap
   . -- in place
     have hsz:sz=te.size:=by
      rw[e1]at hsv;cases hsv with
      |msl ad n cap id off sz hid hz hb hc ha hnn=>grind
     have ar:ad=zs ⟨(cx.μ id).1,(cx.μ id).2.1+off*te.size,zn⟩/\(cx.μ id).2.1+(off+cap)*te.size<=c.size:=by
      rw[e1]at hsv;cases hsv with
      |msl ad n cap id off sz hid hz hb hc ha hnn=>
       grind[mm]
     obtain⟨rfl,hcapfit⟩:=ar;have hul:=hur.len;have hroom':=zqb te.size (show off+(n+lz xs)<=off+cap by omega);have e5:(off+(n+lz xs))*te.size=off*te.size+n*te.size+lz xs*te.size:=by grind
     have a6:=Z5 (P:=P) us ((cx.μ id).2.1+off*te.size+n*te.size) 0 c W hh hone (by grind);have I:=Qa (ty:=ty) (V e1) G (W':=dl W (cx.μ id).1 (.cells (ko c ((cx.μ id).2.1+off*te.size+n*te.size) us) t' (0,0)))
      (fun a ha=>by cases ha;rw[fy,au];exact a6) (fun h=>by cases h)
     have Y:Ext W cx (dl W (cx.μ id).1 (.cells (ko c ((cx.μ id).2.1+off*te.size+n*te.size) us) t' (0,0))) cx:=
      Ext.set _ aw (U.free _ _ ac) (fun c0 t0 f0 e=>by rw[hh]at e;cases e;exact⟨_,_,_,rfl,Y1 _ _ _⟩) (fun hn=>absurd hh (hn _ _ _))
     have aa:=Y.move (cx.μ id).1 ((cx.μ id).2.1+off*te.size) te.size;refine⟨_,_,_,I,aa,?_,?_⟩
     . rw [<-B.2]
       refine U.move Y ac _ ((cx.μ id).2.1+off*te.size) te.size (by grind[Go.AM.gj]) ?_;refine N2.mk (t:=t') (c:=ko c ((cx.μ id).2.1+off*te.size+n*te.size) us) rfl (o5 W _ ai) ?_ (fun k v hk=>?_) ((((Q.drop off).take n).append hur).mono aa)
       . rw[Y1,zkf,J]
         grind
       . show(ko c ((cx.μ id).2.1+off*te.size+n*te.size) us)[(cx.μ id).2.1+off*te.size+k]?=zs v
         rw[Ez (by grind)];have a7:=((Q.drop off).take n).len;rw[J]at a7;rw[zqq]at hk;grind
     . rw[<-B.1]
       have hid:h.next<(cx.move (cx.μ id).1 ((cx.μ id).2.1+off*te.size) te.size).nx:=by rw[U.nx];exact zqj _
       have hm:=Cx.move_new cx (cx.μ id).1 ((cx.μ id).2.1+off*te.size) te.size;rw[<-U.nx]at hm;refine .msl _ (n+lz xs) cap h.next 0 te.size hid (by rw[hm]) (by grind[Ip]) G (fun _=>⟨by grind,?_⟩) (by simp);rw[hm];show(cx.μ id).2.1+off*te.size+(0+cap)*te.size<=mm _ (cx.μ id).1
       rw[Y.shape _ ai];grind[mm]
   . have N:db W cx vs ((es.drop off).take n) te.size:=by
      refine⟨?_,(by grind),fun k e' j c' hk hj=>?_⟩
      . rcases zqh n with h0|h0
        . have:=C.len;grind
        . have a9:0<lz ((es.drop off).take n):=by omega
          have e3:=zqp a9
          have:ay=te.size:=by rw[<-C.size 0 _ e3];grind
          rw[<-this];exact C.len
      . have:ay=te.size:=by rw[<-C.size k e' hk];grind
        rw[<-this];exact C.cell k e' j c' hk hj
     refine ag (h0:=h.del id) e1 (U.del id) rfl (fun W' ak=>?_) N J (by omega) g3 B.1.symm B.2.symm
     have:=al W' ak n te.size (by rw[J];exact zqc _) X
     have hl2:=C.len;grind
  |x0a=>grind
  |_=>cases B
theorem Mc(C:dn E P)(D:Sat E W cx h){e:Nat}{te:TI}(B:E.ti e=zs te){argTypes:Array TypeId}{ty:TypeId}{args:Array Value}{t tx:Nat}{G:TypeDesc}
 (ht1:argTypes[0]?=zs t)(ht2:P.underlying t=zs (.slice e))(hx2:argTypes[1]?=zs tx)(hx3:P.underlying tx=zs G)
 {sv xv:Value}{s r:AV}(ha1:args[0]?=zs sv)(ha2:args[1]?=zs xv)(hsv:Rep W cx sv s){xs:List AV}{us:List Value}(hur:db W cx us xs te.size)
 (hx:((∀k,G≠.int k)/\(∃a c,xv=.slice a (lz xs) c)/\∀W':World,W'.heap=W.heap->(Builtin.firstCells te.size (lz xs) xv).run P W'=.ok us.toArray W')\/
   (∃k,G=.int k/\(∃k',xv=.int k' (lz xs:Int))/\lz xs*te.bytes<=140737488355328/\lz xs<=140737488355328/\∀z i,P.info? e=zs i->i.zero=zs z->(if lz xs*te.size=0 then []else(Builtin.zeroCells z.cells (lz xs)).toList)=us))
 (hone:Wl us) (hpos:0<te.bytes) {h':Vg} (hap:I1 te s xs h=zs (r,h')):
 ∃v W' cx',(Builtin.append_ argTypes ty args).run P W=.ok v W'/\Ext W cx W' cx'/\Sat E W' cx' h'/\Rep W' cx' v r:=by
 by_cases hn:s=.x0a
 . subst hn
   by_cases H:xs=[]
   . exact Av C D B ht1 ht2 hx2 hx3 ha1 ha2 hsv hur hx hone hpos (.inr H) hap
   . have e:I1 te .x0a xs h=I1 te (.fsl [] zt) xs h:=by
      cases xs with
      |nil=>grind
      |cons x xs=>rfl
     rw[e]at hap;exact Av C D B ht1 ht2 hx2 hx3 ha1 ha2 hsv.nil_fsl hur hx hone hpos (.inl (by simp)) hap
 . exact Av C D B ht1 ht2 hx2 hx3 ha1 ha2 hsv hur hx hone hpos (.inl hn) hap
end
end Go.AM
/-
 The abstract machine: copy,len,max,min; maps.
-/
namespace Go.AM
section
variable {P:Program}{E:Env}{W:World}{cx:Cx}{h:Vg}
theorem db.oneL{vs:List Value}{es:List AV}{sz:Nat}(B:db W cx vs es sz):Wl vs:=by
 intro v H;obtain⟨k,J⟩:=zqz H;have C:=V2 J;rw[B.len]at C;have D:0<sz:=by
  grind
 have hi:k/sz<lz es:=by simp_all[zql]
 have I:k%sz<sz:=zqf _ D;have e1:=zqp hi;have G:k%sz<lz es[k/sz].cells:=by rw[B.size _ _ e1];exact I
 obtain⟨u,h1,h2,_⟩:=B.cell (k/sz) _ (k%sz) _ e1 (zqp G);grind[zqm]
theorem jP(hE:dn E P)(U:Sat E W cx h){e:Nat}{te:TI}(an:E.ti e=zs te){argTypes:Array TypeId}{ty:TypeId}{args:Array Value}{t:Nat}
 (ht1:argTypes[0]?=zs t)(ht2:P.underlying t=zs (.slice e)){dv sv:Value}{d s r:AV}(ha1:args[0]?=zs dv)(ha2:args[1]?=zs sv)(hdv:Rep W cx dv d)(hsv:Rep W cx sv s)
 {xs:List AV}(hel:elems s h=zs xs)(hall:G1 te.size xs=zt){h':Vg}(hc:dU te d xs h=zs (r,h')):
 ∃v W' cx',(Builtin.copy_ argTypes ty args).run P W=.ok v W'/\Ext W cx W' cx'/\Sat E W' cx' h'/\Rep W' cx' v r:=by
 have X:=hE.ti e te an;rw[n9]at hall;cases d with
 |msl id off n al=>
  obtain ⟨es,sz,Q,hc⟩:=Vg.onRow_some hc;unfold Lf at hc;rw[C1]at hc;obtain⟨hg,hc⟩:=A6 hc;rw[zqa,A4]at hg;have g1:off+n<=lz es:=C5 hg.1;have g2:=D8 hg.2;subst g2;have hk:(bif Nat.ble n (dw xs)then n else dw xs)=min n (lz xs):=by
   grind[A4,C5,zqo]
  rw[hk]at hc;generalize hkk:min n (lz xs)=k at hc;have hkn:k<=n:=by omega
  have ao:k<=lz xs:=by omega
  simp only[Option.some.injEq,Prod.mk.injEq,M0,I6,I5]at hc;have Y:=hc;obtain⟨_,ag,ah,ai⟩:=U.objs id _ Q;obtain⟨h1,c,t',hh,hfit,H⟩:=ai.row;obtain⟨ax,aj,us,B,e1,e2,ak,C⟩:=Y4 (P:=P) U hsv hel;have C:=C W rfl k te.size ao hall;cases hdv with
  |msl ad n cap id off al hid hz hb hcn ha hnn=>
   have aa:al=te.size:=by grind
   subst aa;have G:db W cx (us.take (k*B)) (xs.take k) te.size:=by
    have:=ak.take k
    cases am:xs.take k with
    |nil=>
     rw[am]at this;exact⟨by grind,by simp,by simp⟩
    |cons x0 xr=>
     rw[am]at this;have hx0:x0∈xs:=(by grind[zqv])
     have:B=te.size:=by rw[<-this.size 0 x0 rfl];grind
     grind
   have hone:=G.oneL;have ab:=G.len;have aq:lz (xs.take k)=k:=by grind
   rw [aq]at ab;have D:lz (us.take (k*B))=k*te.size:=ab;have hkfit:off*te.size+k*te.size<=lz es*te.size:=by
    rw[<-zqd];exact zqb _ (by omega)
   have ac:=Z5 (P:=P) (us.take (k*B)) ((cx.μ id).2.1+off*te.size) 0 c W hh hone (by grind);have I:Ext W cx (dl W (cx.μ id).1 (.cells (ko c ((cx.μ id).2.1+off*te.size) (us.take (k*B))) t' (0,0))) cx:=
    Ext.set _ ag (U.free _ _ Q) (fun c0 t0 f0 e=>by rw[hh]at e;cases e;exact⟨_,_,_,rfl,Y1 _ _ _⟩) (fun hn=>absurd hh (hn _ _ _))
   have hsat:Sat E (dl W (cx.μ id).1 (.cells (ko c ((cx.μ id).2.1+off*te.size) (us.take (k*B))) t' (0,0))) cx h':=by
    rw[<-Y.2];refine U.set I Q _ (by grind[Go.AM.gj]) ?_;have ae:=((H.take off).append (G.append (H.drop (off+k)))).mono I;have hrl:=H.len;refine N2.mk (t:=t') (c:=ko c ((cx.μ id).2.1+off*te.size) (us.take (k*B))) h1 (o5 W _ ah) ?_ (fun q v V=>?_) ae
    . rw [Y1]
      have:lz (es.take off++(xs.take k++es.drop (Nat.add off k)))=lz es:=by
       grind
      grind
    . rw [Ez (by grind),D]
      have ar:(((c.toList.drop (cx.μ id).2.1).take (lz es*te.size)).take (off*te.size)).length=off*te.size:=by
       grind
      have N:∀q v,((c.toList.drop (cx.μ id).2.1).take (lz es*te.size))[q]?=zs v->c[(cx.μ id).2.1+q]?=zs v:=by
       grind
      rw[zqq,ar]at V;split at V
      . grind
      . rename_i hq1
        rw[if_neg (by omega)];rw[zqq,D]at V;split at V
        . grind
        . rename_i hq2
          rw[if_neg (by omega)];rw[zqt]at V
          have:=N _ v V
          grind
   have r1:∀W:World,(underlying t).run P W=.ok (.slice e) W:=fun W=>A3 ht2
   have r4:=X.run_sizeOf (W:=W);have af:Nat.min (lz xs) n=k:=by grind
   rw[e1]at C ha2;have hrep:∀W' cx',Rep W' cx' (goInt (k:Int)) r:=fun W' cx'=>by rw[<-Y.1];exact .int _ _
   have J:∀W',W'=dl W (cx.μ id).1 (.cells (ko c ((cx.μ id).2.1+off*te.size) (us.take (k*B))) t' (0,0))->(Builtin.copy_ argTypes ty args).run P W=.ok (goInt (k:Int)) W' ->
    ∃v W' cx',(Builtin.copy_ argTypes ty args).run P W=.ok v W'/\Ext W cx W' cx'/\Sat E W' cx' h'/\Rep W' cx' v r:=by
    grind
   rcases zqh cap with hc0|hcp
   . have au:k=0:=by omega
     subst au;have av:us.take (0*B)=[]:=by simp
     have aw:dl W (cx.μ id).1 (.cells (ko c ((cx.μ id).2.1+off*te.size) (us.take (0*B))) t' (0,0))=W:=by
      rw[av]at ac|-;simp only[storeCells]at ac
      have:(pure ():Sem Unit).run P W=.ok () W:=rfl
      grind
     refine J W aw.symm ?_;cases ad with
     |none=>grind
     |some a0=>simp[Builtin.copy_,ht1,ha1,ha2,r1,r4,Builtin.lenOf,af,C,storeCells]
   . obtain⟨rfl,_⟩:=ha (by omega)
     refine J _ rfl ?_;simp_all[Builtin.copy_,Builtin.lenOf]
 |x0a=>
  obtain⟨ax,aj,us,B,e1,e2,ak,C⟩:=Y4 (P:=P) U hsv hel;have C:=C W rfl 0 te.size (Nat.zero_le _) hall;have r1:∀W:World,(underlying t).run P W=.ok (.slice e) W:=fun W=>A3 ht2
  have r4:=X.run_sizeOf (W:=W);rw[e1]at C ha2;cases hdv;cases hc;exact⟨goInt 0,W,cx,by simp_all[Builtin.copy_,Builtin.lenOf],.refl _ _,U,.int _ _⟩
 |_=>cases hc
theorem pA(N:dn E P)(Q:Sat E W cx h){t:Nat}{ti:TI}(U:E.ti t=zs ti){argTypes:Array TypeId}{ty:TypeId}{args:Array Value}(B:argTypes[0]?=zs t){xv:Value}{x:AV}(C:args[0]?=zs xv)
 (hxv:Rep W cx xv x){n:Nat}(hl:iW ti.desc x h=zs n):(Builtin.len_ argTypes ty args).run P W=.ok (goInt (n:Int)) W:=by
 have D:=(N.ti t ti U).desc;unfold I7 at D;cases I:ti.desc with
 |string=>
  rw[I]at hl D;have G:∀W:World,(underlying t).run P W=.ok .string W:=fun W=>A3 D
  obtain⟨l,e,hl⟩:=K8 (v:=x) hl;subst e;cases hl;obtain⟨s,rfl,J⟩:=hxv.str_inv
  have:s.size=r8 l:=by rw[u7,<-J];exact zkh.symm
  simp[Builtin.len_,B,C,G,this]
 |slice e=>
  rw[I]at hl D;have G:∀W:World,(underlying t).run P W=.ok (.slice e) W:=fun W=>A3 D
  cases hxv with
  |fsl Y b o n' cap es full sz g hn hc hf ha hsz hcell hone hrep hnn=>
   have hl:zs (dw es)=zs n:=hl;simp_all[Builtin.len_,A4]
  |x0a=>
   have hl:zs 0=zs n:=hl;simp_all[Builtin.len_]
  |msl Y n' cap id off sz hid hz hb hc ha hnn=>
   have hl:zs n'=zs n:=hl;cases hl;simp[Builtin.len_,B,C,G]
  |_=>cases hl
 |map k e=>
  rw[I]at hl D;have G:∀W:World,(underlying t).run P W=.ok (.map k e) W:=fun W=>A3 D
  cases hxv with
  |x0d=>
   have hl:zs 0=zs n:=hl;cases hl;simp[Builtin.len_,B,C,G]
  |map id hid hb=>
   have hl:h.onMapo id zn (fun es=>zs (oO es))=zs n:=hl;obtain⟨es,hg,hl⟩:=Vg.onMapo_some hl;cases hl;obtain⟨_,_,_,H,clock,l,h1,X,V,_⟩:=Q.objs id _ hg;have V:H.size=lz es:=by have:=X.length_eq;grind
   simp_all[getObj,Sem.run,Builtin.len_,Rn]
  |_=>cases hl
 |_=>rw[I]at hl;cases hl
theorem Yi:∀{l:List AV}{vs:List Value}{x r:AV}{xv:Value},fc W cx vs l->Rep W cx xv x->Nt l x=zs r->∃v,(vs.foldlM Builtin.max2 xv).run P W=.ok v W/\Rep W cx v r
 |[],vs,x,r,xv,hl,hx,h=>by
  have:vs=[]:=zqw (by have:=hl.1;grind)
  subst this;cases h;simp_all
 |y :: l,vs,x,r,xv,hl,hx,h=>by
  obtain⟨k,a,e,h⟩:=B6 (v:=x) h;obtain⟨k',b,G,h'⟩:=B6 (v:=y) (f:=fun _ b=>Nt l (.int k (bif il b a then a else b))) h;subst e G;cases vs with
  |nil=>have:=hl.1;simp at this
  |cons u vs=>
   cases hx.int_inv;cases (hl.2 0 u _ rfl rfl).int_inv;have hm:(Builtin.max2 (.int k a) (.int k' b)).run P W=.ok (.int k (bif il b a then a else b)) W:=by
    rw[R6];by_cases B:b<=a
    . have:¬b>a:=by omega
      simp[Builtin.max2,B,this]
    . have:b>a:=by omega
      simp[Builtin.max2,B,this]
   obtain⟨v,C,D⟩:=Yi (vs:=vs) (xv:=.int k (bif il b a then a else b)) ⟨by have:=hl.1;grind,fun i v c C D=>hl.2 (i+1) v c (by grind) (by grind)⟩ (.int _ _) h';simp_all
theorem Yj:∀{l:List AV}{vs:List Value}{x r:AV}{xv:Value},fc W cx vs l->Rep W cx xv x->Qm l x=zs r->∃v,(vs.foldlM Builtin.min2 xv).run P W=.ok v W/\Rep W cx v r
 |[],vs,x,r,xv,hl,hx,h=>by
  have:vs=[]:=zqw (by have:=hl.1;grind)
  subst this;cases h;simp_all
 |y :: l,vs,x,r,xv,hl,hx,h=>by
  obtain⟨k,a,e,h⟩:=B6 (v:=x) h;obtain⟨k',b,G,h'⟩:=B6 (v:=y) (f:=fun _ b=>Qm l (.int k (bif il a b then a else b))) h;subst e G;cases vs with
  |nil=>have:=hl.1;simp at this
  |cons u vs=>
   cases hx.int_inv;cases (hl.2 0 u _ rfl rfl).int_inv;have hm:(Builtin.min2 (.int k a) (.int k' b)).run P W=.ok (.int k (bif il a b then a else b)) W:=by
    rw[R6];by_cases B:a<=b
    . have:¬b<a:=by omega
      simp[Builtin.min2,B,this]
    . have:b<a:=by omega
      simp[Builtin.min2,B,this]
   obtain⟨v,C,D⟩:=Yj (vs:=vs) (xv:=.int k (bif il a b then a else b)) ⟨by have:=hl.1;grind,fun i v c C D=>hl.2 (i+1) v c (by grind) (by grind)⟩ (.int _ _) h';simp_all
end
end Go.AM
/-
 The abstract machine: maps.
-/
namespace Go.AM
section
variable {P:Program}{E:Env}{W:World}{cx:Cx}{h:Vg}
end
end Go.AM
