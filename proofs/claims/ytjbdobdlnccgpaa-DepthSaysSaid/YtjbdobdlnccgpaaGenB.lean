/- What this program's functions do, at any data. Conditions: none. -/
import Derived.Test.YtjbdobdlnccgpaaGenA
import Derived.KernelRfl
set_option linter.unusedVariables false
set_option linter.unusedSimpArgs false
set_option linter.unusedSectionVars false
set_option linter.defProp false
set_option maxRecDepth 100000
set_option maxHeartbeats 4000000
open Option renaming some→zsq,none→zn
open Bool renaming true→zt,false→zf
open List renaming replicate→zqa,length_map→zqb,getD_eq_getElem?_getD→zqc,getElem_mem→zqd,getElem?_map→zqe,getElem?_eq_getElem→zqf,set_set→zqg,getElem?_eq_some_iff→zqh,length_set→zqi,map_set→zqj,nodup_nil→zqk,mem_cons_of_mem→zql,getElem?_set→zqm,mem_cons_self→zqn,append_nil→zqo,drop_eq_getElem_cons→zqp,mem_singleton→zqq,append_assoc→zqr,mem_cons→zqs,drop_length→zqt,ext_getElem?→zqu,getElem?_append_right→zqv,length_cons→zqw,count_cons→zqx,mem_append→zqy,drop_zero→zqz,not_mem_nil→zka,range→zkb,mem_of_getElem?→zkc,take_succ_eq_append_getElem→zkd,map_append→zke,mem_map→zkf,range_succ→zkg,foldl_append→zkh,map_congr_left→zki,getElem?_append_left→zkj,length_append→zkk,mem_replicate→zkl,map_replicate→zkm,count_pos_iff→zkn,getElem?_eq_none→zko,getElem?_drop→zkp,set_append_right→zkq,set_cons_zero→zkr,length_nil→zks,getElem?_set_self→zkt,mem_flatMap→zku,mem_filter→zkv,getElem_of_mem→zkw,take_of_length_le→zkx,count_le_length→zky,nil_append→zkz,getElem?_replicate→zja,any_eq_true→zjb
open Nat renaming le_refl→zjc,sub_self→zjd,not_lt_zero→zje,lt_of_le_of_lt→zjf,zero_le→zjg,add_zero→zjh,zero_add→zji
open Int renaming eq_ofNat_of_zero_le→zjj,toNat_of_nonneg→zjk,le_refl→zjl,toNat_natCast→zjm,max_eq_right→zjn
open Option renaming getD_some→zjo
open Bool renaming and_eq_true→zjp,or_eq_true→zjq
noncomputable section
namespace Go.Proofs.AmEnv
open Go Go.AM
variable {T:Nat->Option (List AV->Option (List AV))}
theorem mxx{K:PK}(a b:Int):G3 env .max [3,3] [.int .i64 a,.int .i64 b] K=zsq (.int .i64 (max a b),K):=by
 have e:G3 env .max [3,3] [.int .i64 a,.int .i64 b] K=zsq (.int .i64 (bif intLe b a then a else b),K):=rfl;rw[e,R9];grind
theorem L3{k:List Int}{v:Nat}(h:v<k.length):(ints k)[v]?=zsq (.int .i64 (k.getD v 0)):=by
 grind
theorem S2(k:List Int):(ints k).length=k.length:=by simp[ints]
theorem Af(k:List Int)(v:Nat)(x:Int):(ints k).set v (.int .i64 x)=ints (k.set v x):=by simp_all
section
variable {A:PO}{g:List (List Int)}{k k':List Int}{xs ys:List PO}{v n q i ex:Nat}{r most:Int}{l:List Int}{fr:PF}{tch tch':List Nat}
theorem NN(h33:lookP fr 35=.int .i64 (l.length:Int))(h34:lookP fr 34=.int .i64 (l.length:Int)){K:PK}:∃fr',evP ⟨env,T,A0⟩ (.code p20b0 fr K)=zsq (.ok (.exit 0) fr' K)/\lookP fr' 1=lookP fr 1/\lookP fr' 2=lookP fr 2/\lookP fr' 8=lookP fr 8:=by
 unfold p20b0;have C:decide ((l.length:Int)<(l.length:Int))=zf:=by simp
 simp only[C,h33,h34,XP,seval];exact⟨_,rfl,by simp only[XP,seval]⟩
structure LgF(fr:PF)(n v q len i:Nat)(most:Int):Prop where
 h0:lookP fr 0=.msl 1 0 n 1
 h1:lookP fr 1=.int .i64 (v:Int)
 h2:lookP fr 2=.msl 2 0 n 1
 h8:lookP fr 8=.int .i64 most
 h33:lookP fr 33=.msl (q+3) 0 len 1
 h34:lookP fr 34=.int .i64 (len:Int)
 h35:lookP fr 35=.int .i64 (i:Int)
theorem Zw{x:Int}{l:List Int}:rowG (x::l)=ownd 0 1 (ints (x::l)):=rfl
theorem A1Y{t:Nat}(D:LgF fr n v q l.length i most)(hi:i<l.length)(H:l[i]=(t:Int))(hl:l.length<=10000000)(hg:(g.map rowG)[v]?=zsq (ownd 0 1 (ints l)))(I:xs[q]?=zsq (.sub 1 v 0))
 (hr:evP ⟨env,T,A0⟩ (.call 20 [.msl 1 0 n 1,.int .i64 (t:Int),.msl 2 0 n 1] ⟨A::.row 0 (g.map rowG) 1::.row 0 (ints k) 1::xs,ex,tch⟩)=zsq (.val [.int .i64 r,.bool zt] ⟨A::.row 0 (g.map rowG) 1::.row 0 (ints k') 1::ys,ex,tch'⟩)):
 ∃fr',evP ⟨env,T,A0⟩ (.code p20b0 fr ⟨A::.row 0 (g.map rowG) 1::.row 0 (ints k) 1::xs,ex,tch⟩)=zsq (.ok .normal fr' ⟨A::.row 0 (g.map rowG) 1::.row 0 (ints k') 1::ys,ex,tch'⟩)/\LgF fr' n v q l.length (i+1) (max most r):=by
 have C:decide ((i:Int)<(l.length:Int))=zt:=by simp[hi]
 have J:=A1 (i:=i) (by omega);have Q:(ints l)[i]?=zsq (.int .i64 (t:Int)):=by grind
 obtain⟨h0,h1,h2,h8,h33,h34,h35⟩:=D;unfold p20b0;generalize g.map rowG=G at *;simp only[C,J,hi,Q,hg,I,h0,h1,h2,h8,h33,h34,h35,hr,mxx,XP,seval];exact⟨_,rfl,by simp_all [XP],by simp_all [XP],by simp_all [XP],by simp only[XP,seval],by simp_all [XP],by simp_all [XP],by simp only[XP,seval]⟩
theorem A1Z{t:Nat}(D:LgF fr n v q l.length i most)(hi:i<l.length)(H:l[i]=(t:Int))(hl:l.length<=10000000)(hg:(g.map rowG)[v]?=zsq (ownd 0 1 (ints l)))(I:xs[q]?=zsq (.sub 1 v 0))
 (hr:evP ⟨env,T,A0⟩ (.call 20 [.msl 1 0 n 1,.int .i64 (t:Int),.msl 2 0 n 1] ⟨A::.row 0 (g.map rowG) 1::.row 0 (ints k) 1::xs,ex,tch⟩)=zsq (.val [.int .i64 r,.bool zf] ⟨A::.row 0 (g.map rowG) 1::.row 0 (ints k') 1::ys,ex,tch'⟩)):
 ∃fr',evP ⟨env,T,A0⟩ (.code p20b0 fr ⟨A::.row 0 (g.map rowG) 1::.row 0 (ints k) 1::xs,ex,tch⟩)=zsq (.ok .ret fr' ⟨A::.row 0 (g.map rowG) 1::.row 0 (ints k') 1::ys,ex,tch'⟩)/\lookP fr' 6=.int .i64 0/\lookP fr' 7=.bool zf:=by
 have C:decide ((i:Int)<(l.length:Int))=zt:=by simp[hi]
 have J:(ints l)[i]?=zsq (.int .i64 (t:Int)):=by grind
 obtain⟨h0,h1,h2,h8,h33,h34,h35⟩:=D;unfold p20b0;generalize g.map rowG=G at *;simp only[C,hi,J,hg,I,h0,h1,h2,h8,h33,h34,h35,hr,XP,seval];exact⟨_,rfl,by simp only[XP,seval],by simp only[XP,seval]⟩
end
def NO(T:Nat->Option (List AV->Option (List AV)))(A:PO)(g:List (List Int))(n v:Nat)(k:List Int)(r:(Int×Bool)×List Int):Prop:=∀(xs:List PO)(ex:Nat)(tch:List Nat),∃ys tch',evP ⟨env,T,A0⟩ (.call 20 [.msl 1 0 n 1,.int .i64 (v:Int),.msl 2 0 n 1] ⟨A::.row 0 (g.map rowG) 1::.row 0 (ints k) 1::xs,ex,tch⟩)=zsq (.val [.int .i64 r.1.1,.bool r.1.2] ⟨A::.row 0 (g.map rowG) 1::.row 0 (ints r.2) 1::(xs++ys),ex,tch'⟩)
structure GrOk(n:Nat)(g:List (List Int)):Prop where
 len:g.length=n
 sz:n<=10000
 rows:∀v,(g.getD v []).length<=10000000
 tg:∀v,∀t∈g.getD v [],0<=t/\t<n
section
variable {A:PO}{g:List (List Int)}{n v f:Nat}
theorem NP(G:GrOk n g)(V:∀v k,v<n->KInv n k->k.count 0<f->NO T A g n v k (lonD g f v k)){l:List Int}{q:Nat}(C:g.getD v []=l)(hv:v<n)(hg:(g.map rowG)[v]?=zsq (ownd 0 1 (ints l))):
 ∀ (m i:Nat) (most:Int) (k:List Int) (xs:List PO) (ex:Nat) (tch:List Nat) (fr:PF),l.length=i+m->LgF fr n v q l.length i most->xs[q]?=zsq (.sub 1 v 0)->KInv n k->k.count 0<f ->
   ∃ fr' ys tch',evP ⟨env,T,A0⟩ (.code (.loop p20b0) fr ⟨A::.row 0 (g.map rowG) 1::.row 0 (ints k) 1::xs,ex,tch⟩)=zsq (.ok (match(lonL (lonD g f) (l.drop i) most k).1 with|some _=>.exit 0|none=>.ret) fr' ⟨A::.row 0 (g.map rowG) 1::.row 0 (ints (lonL (lonD g f) (l.drop i) most k).2) 1::(xs++ys),ex,tch'⟩)/\
     match(lonL (lonD g f) (l.drop i) most k).1 with|some x=>lookP fr' 1=.int .i64 (v:Int)/\lookP fr' 2=.msl 2 0 n 1/\lookP fr' 8=.int .i64 x|none=>lookP fr' 6=.int .i64 0/\lookP fr' 7=.bool zf
 |0,i,most,k,xs,ex,tch,fr,e,hF,hq,hk,hc=>by
  obtain rfl:i=l.length:=by omega
  obtain⟨fr',h1,h2,I,J⟩:=NN (T:=T) hF.h35 hF.h34 (K:=⟨A::.row 0 (g.map rowG) 1::.row 0 (ints k) 1::xs,ex,tch⟩);rw[zqt];exact⟨fr',[],tch,by rw[zqo];exact loop_exit h1,h2.trans hF.h1,I.trans hF.h2,J.trans hF.h8⟩
 |m+1,i,most,k,xs,ex,tch,fr,e,hF,hq,hk,hc=>by
  have hi:i<l.length:=by omega
  obtain⟨t0,t1⟩:=G.tg v l[i] (by grind);obtain⟨t,Y⟩:=zjj t0;have D:t<n:=by omega
  have H:l.length<=10000000:=by rw[<-C];exact G.rows v
  obtain⟨ys,t2,Q⟩:=V t k D hk hc xs ex tch;obtain⟨p1,p2⟩:=Cj G.tg f t k D hk hc;rw[zqp hi,lonL,show l[i].toNat=t by omega];rcases hx:lonD g f t k with⟨⟨a,b⟩,k'⟩
  rw[hx]at Q p1 p2;cases b with
  |false=>
   grind [A1Z, Y2]
  |true=>
   obtain⟨U,h1,h2⟩:=A1Y hF hi Y H hg hq Q;obtain⟨fr',zs,t3,I,J⟩:=NP G V C hv hg m (i+1) (max most a) k' (xs++ys) ex t2 U (by omega) h2 (by grind) p1.inv (zjf (p1.cz hk.len) hc);grind [loop_more]
theorem Kp(G:GrOk n g)(C:v<n):(g.map rowG)[v]?=zsq (rowG (g.getD v [])):=by
 rw[zqe,zqc,zqf (by rw[G.len];exact C)];rfl
theorem yX(D:T 20=zn)(G:GrOk n g){k:List Int}(C:v<n)(H:KInv n k)(h0:¬k.getD v 0=0)(xs:List PO)(ex:Nat)(tch:List Nat):∃tch',evP ⟨env,T,A0⟩ (.call 20 [.msl 1 0 n 1,.int .i64 (v:Int),.msl 2 0 n 1] ⟨A::.row 0 (g.map rowG) 1::.row 0 (ints k) 1::xs,ex,tch⟩)=zsq (.val [.int .i64 (k.getD v 0),.bool (decide (¬k.getD v 0=-1))] ⟨A::.row 0 (g.map rowG) 1::.row 0 (ints k) 1::xs,ex,tch'⟩):=by
 rw[u6 D rfl,A3 (c:=CD) (nt:=61) (rs:=[.tmp 6,.tmp 7]) rfl (by simp)];have I:=L3 (k:=k) (v:=v) (by grind);generalize k.getD v 0=y at *;have e1:(!decide (y=0))=zt:=by simp[h0]
 have e2:(!decide (y=-1))=decide (¬y=-1):=by simp
 unfold CD;simp only[I,C,h0,e2,XP,seval];grind
end
section
variable {A:PO}{g:List (List Int)}{n v f:Nat}
theorem NQ:∃F:PF->PK->PF,∀fr K,lookP fr 35=.int .i64 0->lookP fr 34=.int .i64 0->evP ⟨env,T,A0⟩ (.code (.loop p20b0) fr K)=zsq (.ok (.exit 0) (F fr K) K)/\lookP (F fr K) 1=lookP fr 1/\lookP (F fr K) 2=lookP fr 2/\lookP (F fr K) 8=lookP fr 8:=by
 have C:∀x:PF×PK,∃y,lookP x.1 35=.int .i64 0->lookP x.1 34=.int .i64 0->evP ⟨env,T,A0⟩ (.code (.loop p20b0) x.1 x.2)=zsq (.ok (.exit 0) y x.2)/\lookP y 1=lookP x.1 1/\lookP y 2=lookP x.1 2/\lookP y 8=lookP x.1 8:=fun x=>by
  by_cases h:lookP x.1 35=.int .i64 0/\lookP x.1 34=.int .i64 0
  . obtain⟨fr',h1,h2⟩:=NN (T:=T) (l:=[]) (K:=x.2) h.1 h.2
    grind [loop_exit]
  simp_all
 exact⟨fun fr K=>(C (fr,K)).choose,fun fr K=>(C (fr,K)).choose_spec⟩
theorem GQ(Q:T 20=zn)(G:GrOk n g){k:List Int}(D:v<n)(I:KInv n k)(h0:k.getD v 0=0)(U:g.getD v []=[])(xs:List PO)(ex:Nat)(tch:List Nat):∃tch',evP ⟨env,T,A0⟩ (.call 20 [.msl 1 0 n 1,.int .i64 (v:Int),.msl 2 0 n 1] ⟨A::.row 0 (g.map rowG) 1::.row 0 (ints k) 1::xs,ex,tch⟩)=zsq (.val [.int .i64 1,.bool zt] ⟨A::.row 0 (g.map rowG) 1::.row 0 (ints ((k.set v (-1)).set v 1)) 1::xs,ex,tch'⟩):=by
 rw[u6 Q rfl,A3 (c:=CD) (nt:=61) (rs:=[.tmp 6,.tmp 7]) rfl (by simp)];have C:v<(ints k).length:=by rw[S2,I.len];exact D
 have J:=L3 (k:=k) (v:=v) (by grind);rw[h0]at J;have hg:=Kp G D;rw[U]at hg
 replace hg:(g.map rowG)[v]?=zsq .nilsl:=hg
 generalize g.map rowG=Gr at *;rw[<-Af,<-Af];generalize ints k=ik at *;have V:=fun y:AV=>C4 (v:=y) C
 obtain⟨F,H⟩:=NQ (T:=T);have Y:=fun fr K a b=>(H fr K a b).1
 have f2:=fun fr K a b=>(H fr K a b).2.1
 have f3:=fun fr K a b=>(H fr K a b).2.2.1
 have f4:=fun fr K a b=>(H fr K a b).2.2.2
 unfold CD;generalize p20b0=b0 at *;simp only[J,D,hg,C,V,Y,f2,f3,f4,zqg,zqi,show IntKind.i64.wrap (0+1)=1 from rfl,XP,seval];exact⟨_,rfl⟩
def NR(fr:PF)(n v q len:Nat):Prop:=lookP fr 0=.msl 1 0 n 1/\lookP fr 1=.int .i64 (v:Int)/\lookP fr 2=.msl 2 0 n 1/\lookP fr 8=.int .i64 0/\lookP fr 33=.msl (q+3) 0 len 1/\lookP fr 34=.int .i64 (len:Int)/\lookP fr 35=.int .i64 0
theorem NS(G:GrOk n g)(H:∀v k,v<n->KInv n k->k.count 0<f->NO T A g n v k (lonD g f v k)){l:List Int}(D:g.getD v []=l)(I:v<n)(hg:(g.map rowG)[v]?=zsq (ownd 0 1 (ints l))){k:List Int}(J:KInv n k)(hc:k.count 0<f)(xs:List PO):
 ∃ F:PF->Nat->List Nat->PF×List PO×List Nat,∀fr ex tch,NR fr n v xs.length l.length->evP ⟨env,T,A0⟩ (.code (.loop p20b0) fr ⟨A::.row 0 (g.map rowG) 1::.row 0 (ints k) 1::(xs++[.sub 1 v 0]),ex,tch⟩)=zsq (.ok (match(lonL (lonD g f) l 0 k).1 with|some _=>.exit 0|none=>.ret) (F fr ex tch).1 ⟨A::.row 0 (g.map rowG) 1::.row 0 (ints (lonL (lonD g f) l 0 k).2) 1::((xs++[.sub 1 v 0])++(F fr ex tch).2.1),ex,(F fr ex tch).2.2⟩)/\
    match(lonL (lonD g f) l 0 k).1 with|some x=>lookP (F fr ex tch).1 1=.int .i64 (v:Int)/\lookP (F fr ex tch).1 2=.msl 2 0 n 1/\lookP (F fr ex tch).1 8=.int .i64 x|none=>lookP (F fr ex tch).1 6=.int .i64 0/\lookP (F fr ex tch).1 7=.bool zf:=by
 have C:∀x:PF×Nat×List Nat,∃y:PF×List PO×List Nat,NR x.1 n v xs.length l.length->evP ⟨env,T,A0⟩ (.code (.loop p20b0) x.1 ⟨A::.row 0 (g.map rowG) 1::.row 0 (ints k) 1::(xs++[.sub 1 v 0]),x.2.1,x.2.2⟩)=zsq (.ok (match(lonL (lonD g f) l 0 k).1 with|some _=>.exit 0|none=>.ret) y.1 ⟨A::.row 0 (g.map rowG) 1::.row 0 (ints (lonL (lonD g f) l 0 k).2) 1::((xs++[.sub 1 v 0])++y.2.1),x.2.1,y.2.2⟩)/\
       match(lonL (lonD g f) l 0 k).1 with|some x=>lookP y.1 1=.int .i64 (v:Int)/\lookP y.1 2=.msl 2 0 n 1/\lookP y.1 8=.int .i64 x|none=>lookP y.1 6=.int .i64 0/\lookP y.1 7=.bool zf:=fun x=>by
  by_cases h:NR x.1 n v xs.length l.length
  . obtain⟨h0,h1,h2,h8,h33,h34,h35⟩:=h
    obtain⟨fr',ys,Q,U,V⟩:=NP (T:=T) (A:=A) G H D I hg l.length 0 0 k (xs++[.sub 1 v 0]) x.2.1 x.2.2 x.1 (by omega) ⟨h0,h1,h2,h8,h33,h34,h35⟩ (by grind) J hc;exact⟨(fr',ys,Q),fun _=>⟨U,V⟩⟩
  simp_all
 exact⟨fun fr ex t=>(C (fr,ex,t)).choose,fun fr ex t=>(C (fr,ex,t)).choose_spec⟩
theorem yY(hN:T 20=zn)(G:GrOk n g)(hC:∀v k,v<n->KInv n k->k.count 0<f->NO T A g n v k (lonD g f v k)){k:List Int}(C:v<n)(hk:KInv n k)(hc:k.count 0<f+1)(h0:k.getD v 0=0){y:Int}{r:List Int}(hr:g.getD v []=y::r):NO T A g n v k (lonD g (f+1) v k):=by
 intro xs ex tch;obtain⟨p1,p2,p3,p4⟩:=hk.open C h0;obtain⟨q1,q2⟩:=Ko (Cj G.tg f) (g.getD v []) 0 (k.set v (-1)) (G.tg v) p1 (by omega) ⟨zjl _,by omega⟩;have hg:=Kp G C;rw[hr,Zw]at hg;obtain⟨F,D⟩:=NS (T:=T) (A:=A) G hC hr C hg p1 (by omega) xs;rw[lonD,if_pos h0,hr];rw[hr]at q1 q2;have U:=S2 (y::r);generalize y::r=l at *;rcases hx:lonL (lonD g f) l 0 (k.set v (-1))with⟨o,k'⟩
 rw[hx]at D q1 q2;have I:v<(ints k).length:=by rw[S2,hk.len];exact C
 have J:=L3 (k:=k) (v:=v) (by rw[hk.len];exact C);rw[h0]at J;rw[u6 hN rfl,A3 (c:=CD) (nt:=61) (rs:=[.tmp 6,.tmp 7]) rfl (by simp)];rw[<-Af]at D;generalize g.map rowG=Gr at *;have g1:=fun y:AV=>C4 (v:=y) I
 unfold CD;generalize p20b0=b0 at *;generalize ints l=il at *;cases o with
 |none=>
  have V:=fun fr ex tch h=>(D fr ex tch h).1
  have Y:=fun fr ex tch h=>(D fr ex tch h).2.1
  have f3:=fun fr ex tch h=>(D fr ex tch h).2.2
  simp only[NR]at V Y f3;simp only[J,C,hg,I,g1,V,Y,f3,U,zqg,zqi,XP,seval];rw[zqr];exact⟨_,_,rfl⟩
 |some most=>
  have V:=fun fr ex tch h=>(D fr ex tch h).1
  have Y:=fun fr ex tch h=>(D fr ex tch h).2.1
  have f3:=fun fr ex tch h=>(D fr ex tch h).2.2.1
  have f4:=fun fr ex tch h=>(D fr ex tch h).2.2.2
  simp only[NR]at V Y f3 f4;obtain⟨q3,q4⟩:=q2 most rfl;have Q:=q1.inv.len;simp only at Q q4;have hsz:=G.sz
  have:=DU k'
  have hw:=yW (n:=most+1) (by omega) (by omega);have H:v<(ints k').length:=by rw[S2,Q];exact C
  have g2:=fun y:AV=>C4 (v:=y) H
  have aa:=L3 (k:=k') (v:=v) (by rw[Q];exact C);rw[<-Af];simp only[J,C,hg,I,g1,g2,H,aa,V,Y,f3,f4,U,hw,zqg,zqi,XP,seval];rw[zqr];exact⟨_,_,rfl⟩
theorem vI(C:T 20=zn)(G:GrOk n g):∀(f v:Nat)(k:List Int),v<n->KInv n k->k.count 0<f->NO T A g n v k (lonD g f v k)
 |0,v,k,hv,hk,hc=>absurd hc (zje _)
 |f + 1,v,k,hv,hk,hc=>by
  by_cases h0:k.getD v 0=0
  . cases H:g.getD v []with
    |nil=>
     intro xs ex tch;obtain⟨D,h⟩:=GQ (A:=A) C G hv hk h0 H xs ex tch;refine⟨[],D,?_⟩;rw[lonD,if_pos h0,H,zqo];exact h
    |cons y r=>exact yY C G (vI C G f) hv hk hc h0 H
  . intro xs ex tch
    obtain⟨D,h⟩:=yX (A:=A) C G hv hk h0 xs ex tch;simp_all [lonD]
end
def grM(m:Modl):List (List Int):=m.fs.map callsD
structure DpOk(m:Modl):Prop where
 n0:0<m.fs.length
 sz:m.fs.length<=10000
 ok:∀c∈m.fs,GOk c
 mn:0<=mainI m/\mainI m<m.fs.length
 tg:∀c∈m.fs,∀t∈callsD c,0<=t/\t<m.fs.length
theorem lF{c:Cod}(h:GOk c):(callsD c).length<=10000000:=by
 have:∀l:List Blk,(∀b∈l,b.code.length<=1000)->(l.flatMap fun b=>callsI b.code).length<=l.length*1000:=fun l=>by
  induction l with
  |nil=>grind
  |cons b l C=>
   grind [Ae]
 have h1:=this c.blocks h.code;have h2:=h.blocks;unfold callsD;omega
theorem gS{m:Modl}(P:List Int->Prop)(h0:P [])(h:∀c∈m.fs,P (callsD c))(v:Nat):P ((grM m).getD v []):=by
 grind [grM]
theorem DpOk.gr{m:Modl}(h:DpOk m):GrOk m.fs.length (grM m):=⟨by simp[grM],h.sz,fun v=>gS (fun l=>l.length<=10000000) (by simp) (fun c hc=>lF (h.ok c hc)) v,fun v=>gS (fun l=>∀t∈l,0<=t/\t<m.fs.length) (by simp) h.tg v⟩
theorem nN(m:Modl):graD m.fs=(grM m).map rowG:=by simp_all [graD, grM]
theorem lG(n:Nat):KInv n (zqa n 0):=⟨by simp,fun v C=>by grind,fun v C=>by grind⟩
def yZ(m:Modl):Int×Bool:=(lonD (grM m) (m.fs.length+1) (mainI m).toNat (zqa m.fs.length 0)).1
def depD(m:Modl):Int×Bool:=if(yZ m).2=zt then yZ m else(0,zf)
theorem cO{n:Nat}{K:PK}(h:n*8<=140737488355328):Lo env Ha (.int .i64 (n:Int)) (.int .i64 (n:Int)) K=.val (.msl K.os.length 0 n 1) ⟨K.os++[.row 0 (ints (zqa n 0)) 1],K.ext,K.tch⟩:=by
 unfold Lo;rw[show elemOfT env (Ha).desc=zsq gA from rfl,as_nat];dsimp only;rw[if_pos ⟨zjc _,h,by decide⟩];unfold ints;rw[zkm];rfl
theorem Fl(t:TypeId)(l c:Operand)(fr:PF)(K:PK):prim env (.makeSlice t l c) fr K=o7 env t fun ti=>Lo env ti (opvP env l fr) (opvP env c fr) K:=rfl
theorem Kq(D:T 19=zsq n7)(C:T 20=zn){m:Modl}(H:DpOk m):AM.Comes ⟨env,T,A0⟩ 7 [m.F] [.int .i64 (depD m).1,.bool (depD m).2]:=by
 have t:=fun K=>Zu (K:=K) D ⟨⟨H.n0,H.sz⟩,H.ok⟩
 have hz:=fun K=>cO (n:=m.fs.length) (K:=K) (by have:=H.sz;omega)
 obtain⟨V,a2⟩:=H.mn;obtain⟨mi,J⟩:=zjj V;have Q:mi<m.fs.length:=by omega
 obtain ⟨ys,t2,hl⟩:=vI (T:=T) (A:=.row 1 [.agg [fslN (m.gs.map Glo.F),fslN (m.fs.map Cod.F)]] 2) C H.gr (m.fs.length+1) mi (zqa m.fs.length 0) Q (lG _) (by simp) [] 0 [];have e:depD m=if(lonD (grM m) (m.fs.length+1) mi (zqa m.fs.length 0)).1.2=zt then(lonD (grM m) (m.fs.length+1) mi (zqa m.fs.length 0)).1 else(0,zf):=by
  grind [depD, yZ]
 have U:idxOf (fun c:Cod=>decide (c.name=B3)) m.fs=(mi:Int):=J;have I:((grM m).map rowG).length=m.fs.length:=by unfold grM;simp
 rw[e];unfold Modl.F at t;simp only[nN,U]at t;rcases Y:lonD (grM m) (m.fs.length+1) mi (zqa m.fs.length 0)with⟨⟨r,b⟩,k'⟩
 rw[Y]at hl;generalize (grM m).map rowG=G at *;cases b with
 |true=>
  refine⟨[.int .i64 r,.bool zt],⟨[],0,[]⟩,?_,A9 rfl zqk rfl rfl rfl⟩;rw[A3 (c:=p7) (nt:=25) (rs:=[.tmp 2,.tmp 3]) rfl (by simp)];simp_all [p7, K0, Modl.F, XP, Fl]
 |false=>
  refine⟨[.int .i64 0,.bool zf],⟨[],0,[]⟩,?_,A9 rfl zqk rfl rfl rfl⟩;rw[A3 (c:=p7) (nt:=25) (rs:=[.tmp 2,.tmp 3]) rfl (by simp)];simp_all [p7, K0, Modl.F, XP, Fl]
def N6:=X6 (fun p:(Modl)=>[p.F]) (fun p=>[.int .i64 (depD p).1,.bool (depD p).2]) (fun p=>DpOk p)
theorem Ag(C:T 7=zsq N6){m:Modl}{K:PK}{args:List AV}(D:viewAs K.os args=zsq [m.F])(G:DpOk m):evP ⟨env,T,A0⟩ (.call 7 args K)=zsq (.val (openTs K.os.length [.int .i64 (depD m).1,.bool (depD m).2]).1 ⟨K.os++(openTs K.os.length [.int .i64 (depD m).1,.bool (depD m).2]).2,K.ext,K.tch⟩):=B4 C D (B6 (a:=fun p:(Modl)=>[p.F]) (r:=fun p=>[.int .i64 (depD p).1,.bool (depD p).2]) (fun x y e=>by simp_all [VJ]) (m) G) (by simp_all [XP])
theorem Ux(D:T 19=zsq n7)(C:T 20=zn)(G:PEok ⟨env,T,A0⟩):TC env 7 N6:=B7 G fun p h=>Kq D C h
def mkL(rec:Nat->List Bool->List Bool)(l:List Int)(nd:List Bool):List Bool:=l.foldl (fun nd t=>rec t.toNat nd) nd
def mkD(g:List (List Int)):Nat->Nat->List Bool->List Bool
 |0,_,nd=>nd
 |f+1,v,nd=>if nd.getD v zf=zt then nd else mkL (mkD g f) (g.getD v []) (nd.set v zt)
structure MLe(n:Nat)(a b:List Bool):Prop where
 len:b.length=n
 le:∀i,a.getD i zf=zt->b.getD i zf=zt
theorem MLe.tr{n:Nat}{a b c:List Bool}(h1:MLe n a b)(h2:MLe n b c):MLe n a c:=⟨h2.len,fun i hi=>h2.le i (h1.le i hi)⟩
theorem DV{a b:List Bool}(hl:b.length=a.length)(h:∀i,a.getD i zf=zt->b.getD i zf=zt):b.count zf<=a.count zf:=by
 induction a generalizing b with
 |nil=>grind
 | cons x l C=>cases b with
  |nil=>simp at hl
  |cons y D=>
   have h1:=h 0;have h2:=C (b:=D) (by grind) (fun i hi=>by have:=h (i+1);grind);grind
theorem MLe.cf{n:Nat}{a b:List Bool}(ha:a.length=n)(h:MLe n a b):b.count zf<=a.count zf:=DV (by rw[h.len,ha]) h.le
theorem vJ{a:List Bool}{v:Nat}(h:v<a.length)(h0:a.getD v zf=zf):(a.set v zt).count zf+1=a.count zf:=by
 grind
theorem zA{n:Nat}{a:List Bool}{v:Nat}(ha:a.length=n):MLe n a (a.set v zt):=⟨by simp[ha],(by grind)⟩
theorem Uy{n:Nat}{rec:Nat->List Bool->List Bool}{f:Nat}(C:∀v a,v<n->a.length=n->MLe n a (rec v a)):∀(l:List Int)(a:List Bool),(∀t∈l,0<=t/\t<n)->a.length=n->MLe n a (mkL rec l a)
 |[],a,_,ha=>⟨ha,fun _ h=>h⟩
 |t::l,a,hl,ha=>by
  have h1:=C t.toNat a (by have:=hl t (zqn ..);omega) ha;exact h1.tr (Uy (f:=f) C l _ (fun t D=>hl t (zql _ D)) h1.len)
theorem Nr{g:List (List Int)}{n:Nat}(hg:∀v,∀t∈g.getD v [],0<=t/\t<n):∀(f v:Nat)(a:List Bool),v<n->a.length=n->MLe n a (mkD g f v a)
 |0,v,a,_,ha=>⟨ha,fun _ h=>h⟩
 |f+1,v,a,hv,ha=>by
  rw[mkD];split
  . exact⟨ha,fun _ h=>h⟩
  . exact(zA ha).tr (Uy (f:=f) (Nr hg f) _ _ (hg v) (by simp[ha]))
section
variable {A B:PO}{g:List (List Int)}{k k':List Bool}{xs ys:List PO}{v n q i ex f:Nat}{l:List Int}{fr:PF}{tch tch':List Nat}
theorem G1{k:List Bool}{v:Nat}(h:v<k.length):(bools k)[v]?=zsq (.bool (k.getD v zf)):=by
 grind
theorem E2(k:List Bool):(bools k).length=k.length:=by simp[bools]
theorem Ck(k:List Bool)(v:Nat)(x:Bool):(bools k).set v (.bool x)=bools (k.set v x):=by simp_all
def NT(T:Nat->Option (List AV->Option (List AV)))(A B:PO)(g:List (List Int))(n v:Nat)(k r:List Bool):Prop:=∀(xs:List PO)(ex:Nat)(tch:List Nat),∃ys tch',evP ⟨env,T,A0⟩ (.call 24 [.msl 2 0 n 1,.int .i64 (v:Int),.msl 3 0 n 1] ⟨A::B::.row 0 (g.map rowG) 1::.row 0 (bools k) 1::xs,ex,tch⟩)=zsq (.val [] ⟨A::B::.row 0 (g.map rowG) 1::.row 0 (bools r) 1::(xs++ys),ex,tch'⟩)
structure MkF(fr:PF)(n q len i:Nat):Prop where
 h0:lookP fr 0=.msl 2 0 n 1
 h2:lookP fr 2=.msl 3 0 n 1
 h18:lookP fr 18=.msl (q+4) 0 len 1
 h19:lookP fr 19=.int .i64 (len:Int)
 h20:lookP fr 20=.int .i64 (i:Int)
theorem NU(h20:lookP fr 20=.int .i64 (l.length:Int))(h19:lookP fr 19=.int .i64 (l.length:Int)){K:PK}:∃fr',evP ⟨env,T,A0⟩ (.code p24b0 fr K)=zsq (.ok (.exit 0) fr' K):=by
 unfold p24b0;have C:decide ((l.length:Int)<(l.length:Int))=zf:=by simp
 simp only[C,h19,h20,XP,seval];grind
theorem A1a{t:Nat}(D:MkF fr n q l.length i)(hi:i<l.length)(H:l[i]=(t:Int))(hl:l.length<=10000000)(hg:(g.map rowG)[v]?=zsq (ownd 0 1 (ints l)))(I:xs[q]?=zsq (.sub 2 v 0))
 (hr:evP ⟨env,T,A0⟩ (.call 24 [.msl 2 0 n 1,.int .i64 (t:Int),.msl 3 0 n 1] ⟨A::B::.row 0 (g.map rowG) 1::.row 0 (bools k) 1::xs,ex,tch⟩)=zsq (.val [] ⟨A::B::.row 0 (g.map rowG) 1::.row 0 (bools k') 1::ys,ex,tch'⟩)):
 ∃fr',evP ⟨env,T,A0⟩ (.code p24b0 fr ⟨A::B::.row 0 (g.map rowG) 1::.row 0 (bools k) 1::xs,ex,tch⟩)=zsq (.ok .normal fr' ⟨A::B::.row 0 (g.map rowG) 1::.row 0 (bools k') 1::ys,ex,tch'⟩)/\MkF fr' n q l.length (i+1):=by
 have C:decide ((i:Int)<(l.length:Int))=zt:=by simp[hi]
 have J:=A1 (i:=i) (by omega);have Q:(ints l)[i]?=zsq (.int .i64 (t:Int)):=by grind
 obtain⟨h0,h2,h18,h19,h20⟩:=D;unfold p24b0;generalize g.map rowG=G at *;simp only[C,J,hi,Q,hg,I,h0,h2,h18,h19,h20,hr,XP,seval];exact⟨_,rfl,by simp_all [XP],by simp_all [XP],by simp_all [XP],by simp_all [XP],by simp only[XP,seval]⟩
theorem NV(G:GrOk n g)(J:∀v k,v<n->k.length=n->k.count zf<f->NT T A B g n v k (mkD g f v k))(C:g.getD v []=l)(Q:v<n)(hg:(g.map rowG)[v]?=zsq (ownd 0 1 (ints l))):
 ∀ (m i:Nat) (k:List Bool) (xs:List PO) (ex:Nat) (tch:List Nat) (fr:PF),l.length=i+m->MkF fr n q l.length i->xs[q]?=zsq (.sub 2 v 0)->k.length=n->k.count zf<f ->
   ∃fr' ys tch',evP ⟨env,T,A0⟩ (.code (.loop p24b0) fr ⟨A::B::.row 0 (g.map rowG) 1::.row 0 (bools k) 1::xs,ex,tch⟩)=zsq (.ok (.exit 0) fr' ⟨A::B::.row 0 (g.map rowG) 1::.row 0 (bools (mkL (mkD g f) (l.drop i) k)) 1::(xs++ys),ex,tch'⟩)
 |0,i,k,xs,ex,tch,fr,e,hF,hq,hk,hc=>by
  obtain rfl:i=l.length:=by omega
  obtain⟨fr',h1⟩:=NU (T:=T) hF.h20 hF.h19 (K:=⟨A::B::.row 0 (g.map rowG) 1::.row 0 (bools k) 1::xs,ex,tch⟩);rw[zqt];exact⟨fr',[],tch,by rw[zqo];exact loop_exit h1⟩
 |m+1,i,k,xs,ex,tch,fr,e,hF,hq,hk,hc=>by
  have hi:i<l.length:=by omega
  obtain⟨U,t1⟩:=G.tg v l[i] (by grind);obtain⟨t,V⟩:=zjj U;have D:t<n:=by omega
  have H:l.length<=10000000:=by rw[<-C];exact G.rows v
  obtain⟨ys,Y,hr⟩:=J t k D hk hc xs ex tch;have p1:=Nr G.tg f t k D hk;rw[zqp hi,mkL,List.foldl_cons,show l[i].toNat=t by omega];obtain⟨I,h1,h2⟩:=A1a hF hi V H hg hq hr;obtain⟨fr',zs,t3,h3⟩:=NV G J C Q hg m (i+1) (mkD g f t k) (xs++ys) ex Y I (by omega) h2 (by grind) p1.len (zjf (p1.cf hk) hc);refine⟨fr',ys++zs,t3,?_⟩;rw[<-zqr];exact(loop_more h1).trans h3
theorem zB(G:T 24=zn)(C:v<n)(H:k.length=n)(h0:k.getD v zf=zt)(xs:List PO)(ex:Nat)(tch:List Nat):∃tch',evP ⟨env,T,A0⟩ (.call 24 [.msl 2 0 n 1,.int .i64 (v:Int),.msl 3 0 n 1] ⟨A::B::.row 0 (g.map rowG) 1::.row 0 (bools k) 1::xs,ex,tch⟩)=zsq (.val [] ⟨A::B::.row 0 (g.map rowG) 1::.row 0 (bools k) 1::xs,ex,tch'⟩):=by
 rw[u6 G rfl,A3 (c:=CE) (nt:=29) (rs:=[]) rfl (by simp)];have D:=G1 (k:=k) (v:=v) (by grind);rw[h0]at D;unfold CE;simp only[D,C,XP,seval];grind
theorem NW:∃F:PF->PK->PF,∀fr K,lookP fr 20=.int .i64 0->lookP fr 19=.int .i64 0->evP ⟨env,T,A0⟩ (.code (.loop p24b0) fr K)=zsq (.ok (.exit 0) (F fr K) K):=by
 have C:∀x:PF×PK,∃y,lookP x.1 20=.int .i64 0->lookP x.1 19=.int .i64 0->evP ⟨env,T,A0⟩ (.code (.loop p24b0) x.1 x.2)=zsq (.ok (.exit 0) y x.2):=fun x=>by
  by_cases h:lookP x.1 20=.int .i64 0/\lookP x.1 19=.int .i64 0
  . obtain⟨fr',h1⟩:=NU (T:=T) (l:=[]) (K:=x.2) h.1 h.2
    grind [loop_exit]
  simp_all
 exact⟨fun fr K=>(C (fr,K)).choose,fun fr K=>(C (fr,K)).choose_spec⟩
theorem GR(J:T 24=zn)(G:GrOk n g)(C:v<n)(H:k.length=n)(h0:k.getD v zf=zf)(Q:g.getD v []=[])(xs:List PO)(ex:Nat)(tch:List Nat):∃tch',evP ⟨env,T,A0⟩ (.call 24 [.msl 2 0 n 1,.int .i64 (v:Int),.msl 3 0 n 1] ⟨A::B::.row 0 (g.map rowG) 1::.row 0 (bools k) 1::xs,ex,tch⟩)=zsq (.val [] ⟨A::B::.row 0 (g.map rowG) 1::.row 0 (bools (k.set v zt)) 1::xs,ex,tch'⟩):=by
 rw[u6 J rfl,A3 (c:=CE) (nt:=29) (rs:=[]) rfl (by simp)];have D:v<(bools k).length:=by grind
 have I:=G1 (k:=k) (v:=v) (by grind);rw[h0]at I;have hg:=Kp G C;rw[Q]at hg
 replace hg:(g.map rowG)[v]?=zsq .nilsl:=hg
 generalize g.map rowG=Gr at *;rw[<-Ck];generalize bools k=ik at *;obtain⟨F,U⟩:=NW (T:=T);unfold CE;generalize p24b0=b0 at *;simp only[I,C,hg,D,U,zqg,zqi,XP,seval];grind
def UL(fr:PF)(n q len:Nat):Prop:=lookP fr 0=.msl 2 0 n 1/\lookP fr 2=.msl 3 0 n 1/\lookP fr 18=.msl (q+4) 0 len 1/\lookP fr 19=.int .i64 (len:Int)/\lookP fr 20=.int .i64 0
theorem NX(G:GrOk n g)(H:∀v k,v<n->k.length=n->k.count zf<f->NT T A B g n v k (mkD g f v k))(D:g.getD v []=l)(I:v<n)(hg:(g.map rowG)[v]?=zsq (ownd 0 1 (ints l)))(J:k.length=n)(hc:k.count zf<f)(xs:List PO):
 ∃F:PF->Nat->List Nat->PF×List PO×List Nat,∀fr ex tch,UL fr n xs.length l.length->evP ⟨env,T,A0⟩ (.code (.loop p24b0) fr ⟨A::B::.row 0 (g.map rowG) 1::.row 0 (bools k) 1::(xs++[.sub 2 v 0]),ex,tch⟩)=zsq (.ok (.exit 0) (F fr ex tch).1 ⟨A::B::.row 0 (g.map rowG) 1::.row 0 (bools (mkL (mkD g f) l k)) 1::((xs++[.sub 2 v 0])++(F fr ex tch).2.1),ex,(F fr ex tch).2.2⟩):=by
 have C:∀x:PF×Nat×List Nat,∃y:PF×List PO×List Nat,UL x.1 n xs.length l.length->evP ⟨env,T,A0⟩ (.code (.loop p24b0) x.1 ⟨A::B::.row 0 (g.map rowG) 1::.row 0 (bools k) 1::(xs++[.sub 2 v 0]),x.2.1,x.2.2⟩)=zsq (.ok (.exit 0) y.1 ⟨A::B::.row 0 (g.map rowG) 1::.row 0 (bools (mkL (mkD g f) l k)) 1::((xs++[.sub 2 v 0])++y.2.1),x.2.1,y.2.2⟩):=fun x=>by
  by_cases h:UL x.1 n xs.length l.length
  . obtain⟨h0,h2,h18,h19,h20⟩:=h
    obtain⟨fr',ys,Q,U⟩:=NV (T:=T) (A:=A) (B:=B) G H D I hg l.length 0 k (xs++[.sub 2 v 0]) x.2.1 x.2.2 x.1 (by omega) ⟨h0,h2,h18,h19,h20⟩ (by grind) J hc;exact⟨(fr',ys,Q),fun _=>U⟩
  simp_all
 exact⟨fun fr ex t=>(C (fr,ex,t)).choose,fun fr ex t=>(C (fr,ex,t)).choose_spec⟩
theorem zC(V:T 24=zn)(G:GrOk n g)(Y:∀v k,v<n->k.length=n->k.count zf<f->NT T A B g n v k (mkD g f v k))(C:v<n)(H:k.length=n)(hc:k.count zf<f+1)(h0:k.getD v zf=zf){y:Int}{r:List Int}(I:g.getD v []=y::r):NT T A B g n v k (mkD g (f+1) v k):=by
 intro xs ex tch;have p3:=vJ (a:=k) (v:=v) (by omega) h0;have hg:=Kp G C;rw[I,Zw]at hg;obtain⟨F,U⟩:=NX (T:=T) (A:=A) (B:=B) G Y I C hg (k:=k.set v zt) (by simp[H]) (by omega) xs;rw[mkD,if_neg (by grind),I];have J:=S2 (y::r);generalize y::r=l at *;have Q:v<(bools k).length:=by grind
 have D:=G1 (k:=k) (v:=v) (by grind);rw[h0]at D;rw[u6 V rfl,A3 (c:=CE) (nt:=29) (rs:=[]) rfl (by simp)];generalize mkL (mkD g f) l (k.set v zt)=k' at *;rw[<-Ck]at U;generalize g.map rowG=Gr at *;unfold CE;generalize p24b0=b0 at *;generalize ints l=il at *;simp only[UL]at U;simp only[D,C,hg,Q,U,J,zqg,zqi,XP,seval];simp_all
theorem vK(C:T 24=zn)(G:GrOk n g):∀(f v:Nat)(k:List Bool),v<n->k.length=n->k.count zf<f->NT T A B g n v k (mkD g f v k)
 |0,v,k,hv,hk,hc=>absurd hc (zje _)
 |f + 1,v,k,hv,hk,hc=>by
  cases h0:k.getD v zf with
  |false=>
   cases H:g.getD v []with
   |nil=>
    intro xs ex tch;obtain⟨D,h⟩:=GR (A:=A) (B:=B) C G hv hk h0 H xs ex tch;refine⟨[],D,?_⟩;rw[mkD,if_neg (by grind),H,zqo];exact h
   |cons y r=>exact zC C G (vK C G f) hv hk hc h0 H
  |true=>
   intro xs ex tch;obtain⟨D,h⟩:=zB (A:=A) (B:=B) (g:=g) C hv hk h0 xs ex tch;simp_all [mkD]
end
section
variable {bs es tl R:List AV}{i k:Nat}{x:Ins}{c1 c2:AV}{n m:Int}
variable {e1 e2 e3 e4:AV}{nm:List UInt8}{ty ps:Int}{nr nb:Nat}
theorem Uz(C:T 41=zsq F6){l:List Int}(h:l.length*8<=bigN){K:PK}:evP ⟨env,T,A0⟩ (.call 41 [fslN (ints l)] K)=zsq (.val (openTs K.os.length [ownd 0 1 (ints l)]).1 ⟨K.os++(openTs K.os.length [ownd 0 1 (ints l)]).2,K.ext,K.tch⟩):=B4 C (by simp only[frzL_ints,XP,seval]) (v8 h) rfl
theorem lH{l:List Ins}(h:l.length*88<=bigN):w4 [fslN (l.map Ins.F)]=zsq [ownd 0 8 (l.map Ins.F)]:=B6 (a:=fun l:List Ins=>[fslN (l.map Ins.F)]) (fun x y e=>by simp_all [fslN_iff]) l h
theorem zD(C:T 43=zsq w4){l:List Ins}(h:l.length*88<=bigN){K:PK}:evP ⟨env,T,A0⟩ (.call 43 [fslN (l.map Ins.F)] K)=zsq (.val (openTs K.os.length [ownd 0 8 (l.map Ins.F)]).1 ⟨K.os++(openTs K.os.length [ownd 0 8 (l.map Ins.F)]).2,K.ext,K.tch⟩):=B4 C (by simp only[frzL_insF,XP,seval]) (lH h) rfl
theorem lI{l:List Blk}(h:l.length*56<=bigN):Dc [fslN (l.map Blk.F)]=zsq [ownd 0 5 (l.map Blk.F)]:=B6 (a:=fun l:List Blk=>[fslN (l.map Blk.F)]) (fun x y e=>by simp_all [fslN_iff]) l h
theorem zE(C:T 42=zsq Dc){l:List Blk}(h:l.length*56<=bigN){K:PK}:evP ⟨env,T,A0⟩ (.call 42 [fslN (l.map Blk.F)] K)=zsq (.val (openTs K.os.length [ownd 0 5 (l.map Blk.F)]).1 ⟨K.os++(openTs K.os.length [ownd 0 5 (l.map Blk.F)]).2,K.ext,K.tch⟩):=B4 C (by simp only[frzL_blkF,XP,seval]) (lI h) rfl
theorem A1b(H:T 41=zsq F6)(hb:bs[i]?=zsq (.agg [ownd 0 8 es,e1,e2,e3,e4]))(C:es[k]?=zsq x.F)(I:x.ok)(J:es.length<=bigN):
 evP ⟨env,T,A0⟩ (.code Tt [(1,.ptr 0 0 0),(2,.ptr 1 0 0),(4,.ptr 2 i 0),(16,.int .i64 n),(17,.int .i64 m),(36,.int .i64 (es.length:Int)),(37,.int .i64 (k:Int))] ⟨[(PO.row 1 [AV.agg [.str nm,.int .i64 ty,.int .i64 ps,.msl 3 0 nr 1,.msl 2 0 nb 5]] 5),.row 1 [(AV.agg [.str [],.int .i64 0,.int .i64 0,.nilsl,.nilsl])] 5,.row 0 bs 5,.row 0 R 1],0,[]⟩)=zsq (.ok .normal [(1,.ptr 0 0 0),(2,.ptr 1 0 0),(4,.ptr 2 i 0),(16,.int .i64 n),(17,.int .i64 m),(36,.int .i64 (es.length:Int)),(37,.int .i64 ((k+1:Nat):Int))] ⟨[(PO.row 1 [AV.agg [.str nm,.int .i64 ty,.int .i64 ps,.msl 3 0 nr 1,.msl 2 0 nb 5]] 5),.row 1 [(AV.agg [.str [],.int .i64 0,.int .i64 0,.nilsl,.nilsl])] 5,.row 0 (bs.set i (.agg [ownd 0 8 (es.set k x.O),e1,e2,e3,e4])) 5,.row 0 R 1],0,[]⟩):=by
 have hi:i<bs.length:=(zqh.1 hb).1;have D:k<es.length:=(zqh.1 C).1;have G:decide ((k:Int)<(es.length:Int))=zt:=by simp[D]
 have Q:=A1 (i:=k) (by grind);have tc:=fun K=>Uz (K:=K) H I
 have U:=fun v=>C4 (v:=v) hi
 have V:=fun v=>C4 (v:=v) D
 simp only[Ins.F]at C;simp only[Ins.O];unfold Tt uD CG;simp only[hb,C,hi,D,G,Q,tc,U,V,nc_ptr,zqg,zqi,zqb,XP,seval]
end
def mix{X:Type}(F O:X->AV)(l:List X)(k:Nat):List AV:=(l.take k).map O++(l.drop k).map F
section
variable {X:Type}{F O:X->AV}{L:List X}{k:Nat}
theorem DW:mix F O L 0=L.map F:=rfl
theorem nO:mix F O L L.length=L.map O:=by unfold mix;simp
theorem cP:(mix F O L k).length=L.length:=by grind [mix]
theorem nP(h:k<L.length):(mix F O L k)[k]?=zsq (F L[k]):=by
 grind [mix]
theorem nQ(h:k<L.length):(mix F O L k).set k (O L[k])=mix F O L (k+1):=by
 unfold mix;have e:((L.take k).map O).length=k:=by simp;omega
 rw[zkq _ _ (by omega),e,zjd,zkd h,zke,zqp h,List.map_cons,zkr];simp
end
section
variable {bs es tl R:List AV}{i k:Nat}{x:Ins}{b:Blk}{l:List Blk}{n m:Int}{e1 e2 e3 e4:AV}{nm:List UInt8}{ty ps:Int}{nr nb:Nat}
theorem A1c(hb:bs[i]?=zsq (.agg [ownd 0 8 es,e1,e2,e3,e4])):∃fr',evP ⟨env,T,A0⟩ (.code Tt [(1,.ptr 0 0 0),(2,.ptr 1 0 0),(4,.ptr 2 i 0),(16,.int .i64 n),(17,.int .i64 m),(36,.int .i64 (k:Int)),(37,.int .i64 (k:Int))] ⟨[(PO.row 1 [AV.agg [.str nm,.int .i64 ty,.int .i64 ps,.msl 3 0 nr 1,.msl 2 0 nb 5]] 5),.row 1 [(AV.agg [.str [],.int .i64 0,.int .i64 0,.nilsl,.nilsl])] 5,.row 0 bs 5,.row 0 R 1],0,[]⟩)=zsq (.ok (.exit 2) fr' ⟨[(PO.row 1 [AV.agg [.str nm,.int .i64 ty,.int .i64 ps,.msl 3 0 nr 1,.msl 2 0 nb 5]] 5),.row 1 [(AV.agg [.str [],.int .i64 0,.int .i64 0,.nilsl,.nilsl])] 5,.row 0 bs 5,.row 0 R 1],0,[]⟩)/\lookP fr' 1=.ptr 0 0 0/\lookP fr' 2=.ptr 1 0 0/\lookP fr' 16=.int .i64 n/\lookP fr' 17=.int .i64 m:=by
 unfold Tt uD;have C:decide ((k:Int)<(k:Int))=zf:=by simp
 simp only[C,XP,seval];exact⟨_,rfl,rfl,rfl,rfl,rfl⟩
theorem NY(D:T 41=zsq F6)(hb:b.ok)(hi:i<bs.length):∀(q k:Nat),b.code.length=k+q ->
 ∃ fr',evP ⟨env,T,A0⟩ (.code (.loop Tt) [(1,.ptr 0 0 0),(2,.ptr 1 0 0),(4,.ptr 2 i 0),(16,.int .i64 n),(17,.int .i64 m),(36,.int .i64 (b.code.length:Int)),(37,.int .i64 (k:Int))] ⟨[(PO.row 1 [AV.agg [.str nm,.int .i64 ty,.int .i64 ps,.msl 3 0 nr 1,.msl 2 0 nb 5]] 5),.row 1 [(AV.agg [.str [],.int .i64 0,.int .i64 0,.nilsl,.nilsl])] 5,.row 0 (bs.set i (.agg [ownd 0 8 (mix Ins.F Ins.O b.code k),e1,e2,e3,e4])) 5,.row 0 R 1],0,[]⟩) =
   zsq (.ok (.exit 2) fr' ⟨[(PO.row 1 [AV.agg [.str nm,.int .i64 ty,.int .i64 ps,.msl 3 0 nr 1,.msl 2 0 nb 5]] 5),.row 1 [(AV.agg [.str [],.int .i64 0,.int .i64 0,.nilsl,.nilsl])] 5,.row 0 (bs.set i (.agg [ownd 0 8 (b.code.map Ins.O),e1,e2,e3,e4])) 5,.row 0 R 1],0,[]⟩)/\lookP fr' 1=.ptr 0 0 0/\lookP fr' 2=.ptr 1 0 0/\lookP fr' 16=.int .i64 n/\lookP fr' 17=.int .i64 m
 |0,k,e=>by
  obtain rfl:k=b.code.length:=by omega
  rw[nO];obtain⟨fr',h1,h2⟩:=A1c (T:=T) (R:=R) (i:=i) (k:=b.code.length) (n:=n) (m:=m) (nm:=nm) (ty:=ty) (ps:=ps) (nr:=nr) (nb:=nb) (C4 (v:=AV.agg [ownd 0 8 (b.code.map Ins.O),e1,e2,e3,e4]) hi);exact⟨fr',loop_exit h1,h2⟩
 |q+1,k,e=>by
  have C:k<b.code.length:=by omega
  have h1:=A1b (T:=T) (R:=R) (i:=i) (k:=k) (n:=n) (m:=m) (nm:=nm) (ty:=ty) (ps:=ps) (nr:=nr) (nb:=nb) D (C4 (v:=AV.agg [ownd 0 8 (mix Ins.F Ins.O b.code k),e1,e2,e3,e4]) hi) (nP C) (hb.1 _ (zqd C)) (by rw[cP];have:=hb.2;simp only[bigN]at this|-;omega);rw[cP,nQ C,zqg]at h1;rw[loop_more h1];exact NY D hb hi q (k+1) (by omega)
theorem A1d(H:T 41=zsq F6)(I:T 43=zsq w4)(h:i<l.length)(J:l.length<=bigN)(hb:l[i].ok):
 evP ⟨env,T,A0⟩ (.code Tu [(1,.ptr 0 0 0),(2,.ptr 1 0 0),(16,.int .i64 (l.length:Int)),(17,.int .i64 (i:Int))] ⟨[PO.row 1 [AV.agg [.str nm,.int .i64 ty,.int .i64 ps,.msl 2 0 nr 1,.msl 3 0 l.length 5]] 5,.row 1 [(AV.agg [.str [],.int .i64 0,.int .i64 0,.nilsl,.nilsl])] 5,.row 0 R 1,.row 0 (mix Blk.F Blk.O l i) 5],0,[]⟩)=zsq (.ok .normal [(1,.ptr 0 0 0),(2,.ptr 1 0 0),(16,.int .i64 (l.length:Int)),(17,.int .i64 ((i+1:Nat):Int))] ⟨[PO.row 1 [AV.agg [.str nm,.int .i64 ty,.int .i64 ps,.msl 2 0 nr 1,.msl 3 0 l.length 5]] 5,.row 1 [(AV.agg [.str [],.int .i64 0,.int .i64 0,.nilsl,.nilsl])] 5,.row 0 R 1,.row 0 (mix Blk.F Blk.O l (i+1)) 5],0,[]⟩):=by
 have G:decide ((i:Int)<(l.length:Int))=zt:=by simp[h]
 have Q:=A1 (i:=i) (by grind);have hg:=nP (F:=Blk.F) (O:=Blk.O) h;have D:=nQ (F:=Blk.F) (O:=Blk.O) h;have C:i<(mix Blk.F Blk.O l i).length:=by grind
 generalize mix Blk.F Blk.O l i=bs at hg D C;rw[<-D];generalize l[i]=b at hg hb;have tc:=fun K=>zD (K:=K) I hb.2
 obtain⟨fr',h1,h2,V,Y,h5⟩:=NY (T:=T) (R:=R) (b:=b) (bs:=bs) (i:=i) (n:=(l.length:Int)) (m:=(i:Int)) (nm:=nm) (ty:=ty) (ps:=ps) (nr:=nr) (nb:=l.length) (e1:=.int .i64 b.e.kind) (e2:=.int .i64 b.e.a) (e3:=.int .i64 b.e.to) (e4:=.int .i64 b.e.els) H hb C b.code.length 0 (by omega);rw[DW]at h1;have h1:evP ⟨env,T,A0⟩ (.code (.loop Tt) [(1,.ptr 0 0 0),(2,.ptr 1 0 0),(4,.ptr 2 i 0),(16,.int .i64 (l.length:Int)),(17,.int .i64 (i:Int)),(36,.int .i64 (b.code.length:Int)),(37,.int .i64 0)] _)=_:=h1;simp_all [Blk.F, Blk.O, Tu, uE, CL, CK, CJ, CI, CH, XP]
end
section
variable {bs es tl R:List AV}{i k:Nat}{l:List Blk}{c:Cod}{nm:List UInt8}{ty ps:Int}{nr nb:Nat}{tch:List Nat}
theorem A1e:∃fr',evP ⟨env,T,A0⟩ (.code Tu [(1,.ptr 0 0 0),(2,.ptr 1 0 0),(16,.int .i64 (l.length:Int)),(17,.int .i64 (l.length:Int))] ⟨[(PO.row 1 [AV.agg [.str nm,.int .i64 ty,.int .i64 ps,.msl 2 0 nr 1,.msl 3 0 l.length 5]] 5),.row 1 [(AV.agg [.str [],.int .i64 0,.int .i64 0,.nilsl,.nilsl])] 5,.row 0 R 1,.row 0 bs 5],0,[]⟩)=zsq (.ok (.exit 0) fr' ⟨[(PO.row 1 [AV.agg [.str nm,.int .i64 ty,.int .i64 ps,.msl 2 0 nr 1,.msl 3 0 l.length 5]] 5),.row 1 [(AV.agg [.str [],.int .i64 0,.int .i64 0,.nilsl,.nilsl])] 5,.row 0 R 1,.row 0 bs 5],0,[]⟩)/\lookP fr' 1=.ptr 0 0 0/\lookP fr' 2=.ptr 1 0 0:=by
 unfold Tu uE;have C:decide ((l.length:Int)<(l.length:Int))=zf:=by simp
 simp only[C,XP,seval];exact⟨_,rfl,rfl,rfl⟩
theorem A1f(D:T 41=zsq F6)(G:T 43=zsq w4)(H:l.length<=bigN)(C:∀b∈l,b.ok):∃fr',evP ⟨env,T,A0⟩ (.code (.loop Tu) [(1,.ptr 0 0 0),(2,.ptr 1 0 0),(16,.int .i64 (l.length:Int)),(17,.int .i64 0)] ⟨[(PO.row 1 [AV.agg [.str nm,.int .i64 ty,.int .i64 ps,.msl 2 0 nr 1,.msl 3 0 l.length 5]] 5),.row 1 [(AV.agg [.str [],.int .i64 0,.int .i64 0,.nilsl,.nilsl])] 5,.row 0 R 1,.row 0 (l.map Blk.F) 5],0,[]⟩)=zsq (.ok (.exit 0) fr' ⟨[(PO.row 1 [AV.agg [.str nm,.int .i64 ty,.int .i64 ps,.msl 2 0 nr 1,.msl 3 0 l.length 5]] 5),.row 1 [(AV.agg [.str [],.int .i64 0,.int .i64 0,.nilsl,.nilsl])] 5,.row 0 R 1,.row 0 (l.map Blk.O) 5],0,[]⟩)/\lookP fr' 1=.ptr 0 0 0/\lookP fr' 2=.ptr 1 0 0:=by
 have hl:=M2 (P:=⟨env,T,A0⟩) (c:=Tu) (fun i=>([(1,.ptr 0 0 0),(2,.ptr 1 0 0),(16,.int .i64 (l.length:Int)),(17,.int .i64 (i:Int))],⟨[(PO.row 1 [AV.agg [.str nm,.int .i64 ty,.int .i64 ps,.msl 2 0 nr 1,.msl 3 0 l.length 5]] 5),.row 1 [(AV.agg [.str [],.int .i64 0,.int .i64 0,.nilsl,.nilsl])] 5,.row 0 R 1,.row 0 (mix Blk.F Blk.O l i) 5],0,[]⟩)) l.length (fun i h=>A1d D G h H (C _ (zqd h)));simp only[DW,nO]at hl;obtain⟨fr',h1,h2,I⟩:=A1e (T:=T) (R:=R) (bs:=l.map Blk.O) (l:=l) (nm:=nm) (ty:=ty) (ps:=ps) (nr:=nr);grind [loop_exit]
theorem Kr(C:T 41=zsq F6)(D:T 42=zsq Dc)(G:T 43=zsq w4){c:Cod}(H:c.ok):AM.Comes ⟨env,T,A0⟩ 26 [c.F] [c.O]:=by
 have I:=fun K=>Uz (K:=K) C H.1
 have J:=fun K=>zE (K:=K) D H.2.2
 have Q:=H.2.2;obtain⟨fr1,h1,h2,U⟩:=A1f (T:=T) (R:=ints c.regs) (l:=c.blocks) (nm:=c.name) (ty:=c.ty) (ps:=c.ps) (nr:=c.regs.length) C G (by grind) H.2.1;refine⟨[.agg (c.cs (.msl 1 0 c.regs.length 1) (.msl 2 0 c.blocks.length 5))],⟨[.row 1 [.agg (c.cs (.msl 1 0 c.regs.length 1) (.msl 2 0 c.blocks.length 5))] 5,.row 0 (ints c.regs) 1,.row 0 (c.blocks.map Blk.O) 5],0,[]⟩,?_,?_⟩
 . rw[A3 (c:=SE) (nt:=59) (rs:=[.cell 2 36]) rfl (by simp)];unfold SE
   unfold K0;simp only[Cod.F];unfold uF CN CM;simp only[I,J,h1,h2,U,Cod.cs,zqb,XP,seval]
 . refine A9 (vs':=[.agg (c.cs (.msl 1 0 c.regs.length 1) (.msl 2 0 c.blocks.length 5))]) (os':=[.row 1 [.agg (c.cs (.msl 1 0 c.regs.length 1) (.msl 2 0 c.blocks.length 5))] 5,.row 0 (ints c.regs) 1,.row 0 (c.blocks.map Blk.O) 5]) ?_ ?_ (us:=[.agg (c.cs (.msl 0 0 c.regs.length 1) (.msl 1 0 c.blocks.length 5))]) (ps:=[.row 0 (ints c.regs) 1,.row 0 (c.blocks.map Blk.O) 5]) ?_ ?_ ?_
   all_goals simp_all [Cod.cs, Cod.O, XP]
def K6:=X6 (fun p:(Cod)=>[p.F]) (fun p=>[p.O]) (fun p=>p.ok)
theorem Ks(C:T 26=zsq K6){c:Cod}{K:PK}(D:c.ok):evP ⟨env,T,A0⟩ (.call 26 [c.F] K)=zsq (.val (openTs K.os.length [c.O]).1 ⟨K.os++(openTs K.os.length [c.O]).2,K.ext,K.tch⟩):=B4 C (by simp only[VV,XP,seval]) (B6 (a:=fun p:(Cod)=>[p.F]) (r:=fun p=>[p.O]) (fun x y e=>by simp_all [VJ]) (c) D) (by simp only[VN,XP,seval])
theorem Va(G:T 41=zsq F6)(C:T 42=zsq Dc)(D:T 43=zsq w4)(H:PEok ⟨env,T,A0⟩):TC env 26 K6:=B7 H fun p h=>Kr G C D h
end
def relI(p:List Int)(x:Ins):Ins:=if x.op=9 then{x with n:=p.getD x.n.toNat 0}else x
def relB(p:List Int)(b:Blk):Blk:={b with code:=b.code.map (relI p)}
def relC(p:List Int)(c:Cod):Cod:={c with blocks:=c.blocks.map (relB p)}
def mixR{X:Type}(f:X->X)(l:List X)(k:Nat):List X:=(l.take k).map f++l.drop k
section
variable {X:Type}{f:X->X}{l:List X}{k:Nat}
theorem cQ:mixR f l 0=l:=rfl
theorem Ah:mixR f l l.length=l.map f:=by unfold mixR;simp
theorem mixR_len:(mixR f l k).length=l.length:=by grind [mixR]
theorem j5(h:k<l.length):(mixR f l k)[k]?=zsq l[k]:=by
 grind [mixR]
theorem s3(h:k<l.length):(mixR f l k).set k (f l[k])=mixR f l (k+1):=by
 unfold mixR;have e:((l.take k).map f).length=k:=by simp;omega
 rw[zkq _ _ (by omega),e,zjd,zkd h,zke,zqp h,zkr];simp
theorem cR(h:k<l.length)(e:f l[k]=l[k]):mixR f l (k+1)=mixR f l k:=by
 rw[<-s3 h,e];apply zqu;intro q;rw[zqm];split
 . rename_i e2;subst e2;rw[if_pos (by rw[mixR_len];exact h),j5 h]
 . rfl
end
section
variable {Rw Bs Cs gs R:List AV}{pl:List Int}{x:Ins}{nm:List UInt8}{ty ps e1 e2 e3 e4:Int}{i k j n nr nb nc ng nj ex m nv:Nat}{fr:PF}{tch:List Nat}
theorem A1g(U:lookP fr 7=.ptr 2 0 0)(I:Rw[i]?=zsq (AV.agg [.str nm,.int .i64 ty,.int .i64 ps,ownd 0 1 R,ownd 0 5 Bs]))(J:Bs[k]?=zsq (AV.agg [ownd 0 8 Cs,.int .i64 e1,.int .i64 e2,.int .i64 e3,.int .i64 e4]))(D:Cs[j]?=zsq x.O)(G:x.op=9)(Q:x.n=(nv:Int))(hp:pl.length=n)(H:nv<n):∃fr' tch',evP ⟨env,T,A0⟩ (.round (⟨[67],p9q0,p9r0,fr⟩:RC) [.ptr 11 j 0] ⟨[.row 1 [.agg [.nilsl,.nilsl]] 2,.row 1 [.agg [.msl 4 0 ng 4,.msl 3 0 nj 5]] 2,.row 1 [.msl 5 0 n 1] 1,.row 0 Rw 5,.row 0 gs 4,.row 0 (ints pl) 1,.sub 3 i 3,.sub 3 i 4,.row 1 [.agg [.str nm,.int .i64 ty,.int .i64 ps,.msl 6 0 nr 1,.msl 7 0 nb 5]] 5,.row 1 [.agg [.str nm,.int .i64 ty,.int .i64 ps,.msl 6 0 nr 1,.msl 7 0 nb 5]] 5,.row 1 [.agg [.msl 11 0 nc 8,.int .i64 e1,.int .i64 e2,.int .i64 e3,.int .i64 e4]] 5,.sub 7 k 0],12,tch⟩)=zsq (.ok .normal fr' ⟨[.row 1 [.agg [.nilsl,.nilsl]] 2,.row 1 [.agg [.msl 4 0 ng 4,.msl 3 0 nj 5]] 2,.row 1 [.msl 5 0 n 1] 1,.row 0 (Rw.set i (AV.agg [.str nm,.int .i64 ty,.int .i64 ps,ownd 0 1 R,ownd 0 5 (Bs.set k (AV.agg [ownd 0 8 (Cs.set j (relI pl x).O),.int .i64 e1,.int .i64 e2,.int .i64 e3,.int .i64 e4]))])) 5,.row 0 gs 4,.row 0 (ints pl) 1,.sub 3 i 3,.sub 3 i 4,.row 1 [.agg [.str nm,.int .i64 ty,.int .i64 ps,.msl 6 0 nr 1,.msl 7 0 nb 5]] 5,.row 1 [.agg [.str nm,.int .i64 ty,.int .i64 ps,.msl 6 0 nr 1,.msl 7 0 nb 5]] 5,.row 1 [.agg [.msl 11 0 nc 8,.int .i64 e1,.int .i64 e2,.int .i64 e3,.int .i64 e4]] 5,.sub 7 k 0],12,tch'⟩):=by
 rw [Mh (by rfl)];have hi:i<Rw.length:=(zqh.1 I).1;have V:k<Bs.length:=(zqh.1 J).1;have Y:j<Cs.length:=(zqh.1 D).1;have hg:=L3 (k:=pl) (v:=nv) (by omega);have C:(relI pl x).O=(AV.agg [.int .i64 x.op,.int .i64 x.ty,.int .i64 x.dst,.int .i64 x.a,.int .i64 x.b,.int .i64 (pl.getD nv 0),.str x.s,ownd 0 1 (ints x.args)]):=by
  unfold relI;rw[if_pos G,Q];rfl
 rw[C];simp only[Ins.O]at D;rw[Q]at D;generalize pl.getD nv 0=y at *;generalize ints pl=ip at *;unfold p9q0 p9r0;simp only[An,Co,Xb,U,nc_ptr,I,J,D,hg,hi,V,Y,H,zqg,zqi,D2,F7,F8,F9,G0,Z7,Z8,M0,Fh,Fi,Fj,Fk,XP,seval];grind
theorem A1h(V:lookP fr 7=.ptr 2 0 0)(H:Rw[i]?=zsq (AV.agg [.str nm,.int .i64 ty,.int .i64 ps,ownd 0 1 R,ownd 0 5 Bs]))(U:Bs[k]?=zsq (AV.agg [ownd 0 8 Cs,.int .i64 e1,.int .i64 e2,.int .i64 e3,.int .i64 e4]))(G:Cs[j]?=zsq x.O)(C:x.op=9)(Y:x.n=(nv:Int))(hp:pl.length=n)(I:nv<n)(D:j<nc)(hs:nc<=10000000):∃tch',evP ⟨env,T,A0⟩ (.iter (⟨[67],p9q0,p9r0,fr⟩:RC) (m+1+1+1+1+1+1+1+1+1+1+1+1+1+1+1+1) p44b0 zn [(4,.ptr 10 0 0),(8,.msl 7 0 nb 5),(9,.int .i64 (nb:Nat)),(10,.int .i64 (k:Nat)),(16,.int .i64 (nc:Nat)),(17,.int .i64 (j:Nat))] ⟨[.row 1 [.agg [.nilsl,.nilsl]] 2,.row 1 [.agg [.msl 4 0 ng 4,.msl 3 0 nj 5]] 2,.row 1 [.msl 5 0 n 1] 1,.row 0 Rw 5,.row 0 gs 4,.row 0 (ints pl) 1,.sub 3 i 3,.sub 3 i 4,.row 1 [.agg [.str nm,.int .i64 ty,.int .i64 ps,.msl 6 0 nr 1,.msl 7 0 nb 5]] 5,.row 1 [.agg [.str nm,.int .i64 ty,.int .i64 ps,.msl 6 0 nr 1,.msl 7 0 nb 5]] 5,.row 1 [.agg [.msl 11 0 nc 8,.int .i64 e1,.int .i64 e2,.int .i64 e3,.int .i64 e4]] 5,.sub 7 k 0],10,tch⟩)=zsq (.itr .normal zn [(4,.ptr 10 0 0),(8,.msl 7 0 nb 5),(9,.int .i64 (nb:Nat)),(10,.int .i64 (k:Nat)),(16,.int .i64 (nc:Nat)),(17,.int .i64 (j+1:Nat))] ⟨[.row 1 [.agg [.nilsl,.nilsl]] 2,.row 1 [.agg [.msl 4 0 ng 4,.msl 3 0 nj 5]] 2,.row 1 [.msl 5 0 n 1] 1,.row 0 (Rw.set i (AV.agg [.str nm,.int .i64 ty,.int .i64 ps,ownd 0 1 R,ownd 0 5 (Bs.set k (AV.agg [ownd 0 8 (Cs.set j (relI pl x).O),.int .i64 e1,.int .i64 e2,.int .i64 e3,.int .i64 e4]))])) 5,.row 0 gs 4,.row 0 (ints pl) 1,.sub 3 i 3,.sub 3 i 4,.row 1 [.agg [.str nm,.int .i64 ty,.int .i64 ps,.msl 6 0 nr 1,.msl 7 0 nb 5]] 5,.row 1 [.agg [.str nm,.int .i64 ty,.int .i64 ps,.msl 6 0 nr 1,.msl 7 0 nb 5]] 5,.row 1 [.agg [.msl 11 0 nc 8,.int .i64 e1,.int .i64 e2,.int .i64 e3,.int .i64 e4]] 5,.sub 7 k 0],10,tch'⟩):=by
 have J:decide ((j:Int)<(nc:Int))=zt:=by simp[D]
 have hw:=A1 (i:=j) (by omega);have hi:i<Rw.length:=(zqh.1 H).1;have g1:=fun v:AV=>C4 (v:=v) hi
 obtain⟨fr1,t1,Q⟩:=A1g (T:=T) (nr:=nr) (nb:=nb) (nc:=nc) (ng:=ng) (nj:=nj) (gs:=gs) (tch:=[]) V H U G C Y hp I;have hC':=G;simp only[Ins.O]at G;generalize (relI pl x).O=y at *;unfold p44b0;generalize p9q0=q0 at Q|-;generalize p9r0=r0 at Q|-;generalize ints pl=ip at *;simp only[M4,X1,H3,H4,H5,H6,X2,M3,E3,E4,I0,H7,H8,H9,M5,X3,E8,X5,H2,V7,V8,V9,W6,W7,W8,W9,X0,H1,X4,M6,E5,E6,E7,wentOn,I5,J,hw,H,U,G,Q,D,nc_ptr,eq_true C,zqg,zqi,g1,D2,F7,F8,F9,G0,Z7,Z8,M0,Fh,Fi,Fj,Fk,XP,seval];grind
theorem A1i(I:Rw[i]?=zsq (AV.agg [.str nm,.int .i64 ty,.int .i64 ps,ownd 0 1 R,ownd 0 5 Bs]))(J:Bs[k]?=zsq (AV.agg [ownd 0 8 Cs,.int .i64 e1,.int .i64 e2,.int .i64 e3,.int .i64 e4]))(H:Cs[j]?=zsq x.O)(D:¬x.op=9)(C:j<nc)(hs:nc<=10000000):∃tch',evP ⟨env,T,A0⟩ (.iter (⟨[67],p9q0,p9r0,fr⟩:RC) (m+1+1+1+1+1+1+1+1+1+1+1+1+1+1+1+1) p44b0 zn [(4,.ptr 10 0 0),(8,.msl 7 0 nb 5),(9,.int .i64 (nb:Nat)),(10,.int .i64 (k:Nat)),(16,.int .i64 (nc:Nat)),(17,.int .i64 (j:Nat))] ⟨[.row 1 [.agg [.nilsl,.nilsl]] 2,.row 1 [.agg [.msl 4 0 ng 4,.msl 3 0 nj 5]] 2,.row 1 [.msl 5 0 n 1] 1,.row 0 Rw 5,.row 0 gs 4,.row 0 (ints pl) 1,.sub 3 i 3,.sub 3 i 4,.row 1 [.agg [.str nm,.int .i64 ty,.int .i64 ps,.msl 6 0 nr 1,.msl 7 0 nb 5]] 5,.row 1 [.agg [.str nm,.int .i64 ty,.int .i64 ps,.msl 6 0 nr 1,.msl 7 0 nb 5]] 5,.row 1 [.agg [.msl 11 0 nc 8,.int .i64 e1,.int .i64 e2,.int .i64 e3,.int .i64 e4]] 5,.sub 7 k 0],10,tch⟩)=zsq (.itr .normal zn [(4,.ptr 10 0 0),(8,.msl 7 0 nb 5),(9,.int .i64 (nb:Nat)),(10,.int .i64 (k:Nat)),(16,.int .i64 (nc:Nat)),(17,.int .i64 (j+1:Nat))] ⟨[.row 1 [.agg [.nilsl,.nilsl]] 2,.row 1 [.agg [.msl 4 0 ng 4,.msl 3 0 nj 5]] 2,.row 1 [.msl 5 0 n 1] 1,.row 0 Rw 5,.row 0 gs 4,.row 0 (ints pl) 1,.sub 3 i 3,.sub 3 i 4,.row 1 [.agg [.str nm,.int .i64 ty,.int .i64 ps,.msl 6 0 nr 1,.msl 7 0 nb 5]] 5,.row 1 [.agg [.str nm,.int .i64 ty,.int .i64 ps,.msl 6 0 nr 1,.msl 7 0 nb 5]] 5,.row 1 [.agg [.msl 11 0 nc 8,.int .i64 e1,.int .i64 e2,.int .i64 e3,.int .i64 e4]] 5,.sub 7 k 0],10,tch'⟩):=by
 have G:decide ((j:Int)<(nc:Int))=zt:=by simp[C]
 have Q:=A1 (i:=j) (by omega);simp only[Ins.O]at H;unfold p44b0;generalize p9q0=q0;generalize p9r0=r0;generalize ints pl=ip at *;simp only[M4,X1,H3,H4,H5,H6,X2,M3,E3,E4,I0,H7,H8,H9,M5,X3,E8,X5,H2,V7,V8,V9,W6,W7,W8,W9,X0,H1,X4,M6,E5,E6,E7,wentOn,I5,G,Q,I,J,H,C,nc_ptr,D,D2,F7,F8,F9,G0,Z7,Z8,M0,Fh,Fi,Fj,Fk,XP,seval];grind
theorem A1j{K:PK}:∃fr',evP ⟨env,T,A0⟩ (.iter (⟨[67],p9q0,p9r0,fr⟩:RC) (m+1+1+1+1+1+1+1+1+1+1+1+1+1+1+1+1) p44b0 zn [(4,.ptr 10 0 0),(8,.msl 7 0 nb 5),(9,.int .i64 (nb:Nat)),(10,.int .i64 (k:Nat)),(16,.int .i64 (nc:Nat)),(17,.int .i64 (nc:Nat))] K)=zsq (.itr (.exit 2) zn fr' K)/\lookP fr' 8=.msl 7 0 nb 5/\lookP fr' 9=.int .i64 (nb:Nat)/\lookP fr' 10=.int .i64 (k:Nat):=by
 unfold p44b0;have C:decide ((nc:Int)<(nc:Int))=zf:=by simp
 simp only[M4,X1,H3,H4,H5,H6,X2,M3,E3,E4,I0,H7,H8,H9,M5,X3,E8,X5,H2,V7,V8,V9,W6,W7,W8,W9,X0,H1,X4,M6,E5,E6,E7,wentOn,I5,C,XP,seval];exact⟨_,rfl,rfl,rfl,rfl⟩
end
def stR(Rw:List AV)(i:Nat)(c:Cod)(bs:List Blk):List AV:=Rw.set i (Cod.O {c with blocks:=bs})
section
variable {Rw gs:List AV}{pl:List Int}{c:Cod}{b:Blk}{bs:List Blk}{i k j n ng nj ex m:Nat}{fr:PF}{tch:List Nat}
def mxB(pl:List Int)(b:Blk)(j:Nat):Blk:={b with code:=mixR (relI pl) b.code j}
def Bo(n:Nat)(l:List Ins):Prop:=∀x∈l,x.op=9->0<=x.n/\x.n<n
theorem iq(V:lookP fr 7=.ptr 2 0 0)(hi:i<Rw.length)(Y:k<bs.length)(hp:pl.length=n)(ht:Bo n b.code)(D:j<b.code.length)(I:b.code.length<=10000000):∃tch',evP ⟨env,T,A0⟩ (.iter (⟨[67],p9q0,p9r0,fr⟩:RC) (m+1+1+1+1+1+1+1+1+1+1+1+1+1+1+1+1) p44b0 zn [(4,.ptr 10 0 0),(8,.msl 7 0 bs.length 5),(9,.int .i64 (bs.length:Nat)),(10,.int .i64 (k:Nat)),(16,.int .i64 (b.code.length:Nat)),(17,.int .i64 (j:Nat))] ⟨[.row 1 [.agg [.nilsl,.nilsl]] 2,.row 1 [.agg [.msl 4 0 ng 4,.msl 3 0 nj 5]] 2,.row 1 [.msl 5 0 n 1] 1,.row 0 (stR Rw i c (bs.set k (mxB pl b j))) 5,.row 0 gs 4,.row 0 (ints pl) 1,.sub 3 i 3,.sub 3 i 4,.row 1 [.agg [.str c.name,.int .i64 c.ty,.int .i64 c.ps,.msl 6 0 c.regs.length 1,.msl 7 0 bs.length 5]] 5,.row 1 [.agg [.str c.name,.int .i64 c.ty,.int .i64 c.ps,.msl 6 0 c.regs.length 1,.msl 7 0 bs.length 5]] 5,.row 1 [.agg [.msl 11 0 b.code.length 8,.int .i64 b.e.kind,.int .i64 b.e.a,.int .i64 b.e.to,.int .i64 b.e.els]] 5,.sub 7 k 0],10,tch⟩)=zsq (.itr .normal zn [(4,.ptr 10 0 0),(8,.msl 7 0 bs.length 5),(9,.int .i64 (bs.length:Nat)),(10,.int .i64 (k:Nat)),(16,.int .i64 (b.code.length:Nat)),(17,.int .i64 (j+1:Nat))] ⟨[.row 1 [.agg [.nilsl,.nilsl]] 2,.row 1 [.agg [.msl 4 0 ng 4,.msl 3 0 nj 5]] 2,.row 1 [.msl 5 0 n 1] 1,.row 0 (stR Rw i c (bs.set k (mxB pl b (j+1)))) 5,.row 0 gs 4,.row 0 (ints pl) 1,.sub 3 i 3,.sub 3 i 4,.row 1 [.agg [.str c.name,.int .i64 c.ty,.int .i64 c.ps,.msl 6 0 c.regs.length 1,.msl 7 0 bs.length 5]] 5,.row 1 [.agg [.str c.name,.int .i64 c.ty,.int .i64 c.ps,.msl 6 0 c.regs.length 1,.msl 7 0 bs.length 5]] 5,.row 1 [.agg [.msl 11 0 b.code.length 8,.int .i64 b.e.kind,.int .i64 b.e.a,.int .i64 b.e.to,.int .i64 b.e.els]] 5,.sub 7 k 0],10,tch'⟩):=by
 have J:(stR Rw i c (bs.set k (mxB pl b j)))[i]?=zsq (AV.agg [.str c.name,.int .i64 c.ty,.int .i64 c.ps,ownd 0 1 (ints c.regs),ownd 0 5 ((bs.set k (mxB pl b j)).map Blk.O)]):=C4 hi;have Q:((bs.set k (mxB pl b j)).map Blk.O)[k]?=zsq (AV.agg [ownd 0 8 ((mixR (relI pl) b.code j).map Ins.O),.int .i64 b.e.kind,.int .i64 b.e.a,.int .i64 b.e.to,.int .i64 b.e.els]):=by
  rw[zqe,C4 Y];rfl
 have U:((mixR (relI pl) b.code j).map Ins.O)[j]?=zsq (b.code[j]).O:=by rw[zqe,j5 D];rfl
 by_cases C:b.code[j].op=9
 . obtain ⟨t0,t1⟩:=ht _ (zqd D) C
   obtain⟨nv,G⟩:=zjj t0;obtain⟨H,h⟩:=A1h (T:=T) (nr:=c.regs.length) (nb:=bs.length) (nc:=b.code.length) (ng:=ng) (nj:=nj) (gs:=gs) (pl:=pl) (m:=m) (tch:=tch) V J Q U C G hp (by omega) D I;refine⟨H,h.trans ?_⟩;have e1:((mixR (relI pl) b.code j).map Ins.O).set j (relI pl b.code[j]).O=(mixR (relI pl) b.code (j+1)).map Ins.O:=by rw[<-s3 D,zqj]
   have e2:((bs.set k (mxB pl b j)).map Blk.O).set k (AV.agg [ownd 0 8 (((mixR (relI pl) b.code j).map Ins.O).set j (relI pl b.code[j]).O),.int .i64 b.e.kind,.int .i64 b.e.a,.int .i64 b.e.to,.int .i64 b.e.els])=(bs.set k (mxB pl b (j+1))).map Blk.O:=by
    rw[e1,zqj,zqg,zqj];rfl
   rw[e2];unfold stR;rw[zqg];rfl
 . obtain⟨H,h⟩:=A1i (T:=T) (fr:=fr) (n:=n) (nr:=c.regs.length) (nb:=bs.length) (nc:=b.code.length) (ng:=ng) (nj:=nj) (gs:=gs) (pl:=pl) (m:=m) (tch:=tch) J Q U C D I
   simp_all [mxB, relI, cR]
theorem NZ(C:lookP fr 7=.ptr 2 0 0)(hi:i<Rw.length)(D:k<bs.length)(G:pl.length=n)(H:Bo n b.code)(I:b.code.length<=10000000):∀(q j m:Nat)(tch:List Nat),b.code.length=j+q->q+20<=m ->
 ∃fr' tch',evP ⟨env,T,A0⟩ (.iter (⟨[67],p9q0,p9r0,fr⟩:RC) m (.loop p44b0) zn [(4,.ptr 10 0 0),(8,.msl 7 0 bs.length 5),(9,.int .i64 (bs.length:Nat)),(10,.int .i64 (k:Nat)),(16,.int .i64 (b.code.length:Nat)),(17,.int .i64 (j:Nat))] ⟨[.row 1 [.agg [.nilsl,.nilsl]] 2,.row 1 [.agg [.msl 4 0 ng 4,.msl 3 0 nj 5]] 2,.row 1 [.msl 5 0 n 1] 1,.row 0 (stR Rw i c (bs.set k (mxB pl b j))) 5,.row 0 gs 4,.row 0 (ints pl) 1,.sub 3 i 3,.sub 3 i 4,.row 1 [.agg [.str c.name,.int .i64 c.ty,.int .i64 c.ps,.msl 6 0 c.regs.length 1,.msl 7 0 bs.length 5]] 5,.row 1 [.agg [.str c.name,.int .i64 c.ty,.int .i64 c.ps,.msl 6 0 c.regs.length 1,.msl 7 0 bs.length 5]] 5,.row 1 [.agg [.msl 11 0 b.code.length 8,.int .i64 b.e.kind,.int .i64 b.e.a,.int .i64 b.e.to,.int .i64 b.e.els]] 5,.sub 7 k 0],10,tch⟩)=zsq (.itr (.exit 2) zn fr' ⟨[.row 1 [.agg [.nilsl,.nilsl]] 2,.row 1 [.agg [.msl 4 0 ng 4,.msl 3 0 nj 5]] 2,.row 1 [.msl 5 0 n 1] 1,.row 0 (stR Rw i c (bs.set k (relB pl b))) 5,.row 0 gs 4,.row 0 (ints pl) 1,.sub 3 i 3,.sub 3 i 4,.row 1 [.agg [.str c.name,.int .i64 c.ty,.int .i64 c.ps,.msl 6 0 c.regs.length 1,.msl 7 0 bs.length 5]] 5,.row 1 [.agg [.str c.name,.int .i64 c.ty,.int .i64 c.ps,.msl 6 0 c.regs.length 1,.msl 7 0 bs.length 5]] 5,.row 1 [.agg [.msl 11 0 b.code.length 8,.int .i64 b.e.kind,.int .i64 b.e.a,.int .i64 b.e.to,.int .i64 b.e.els]] 5,.sub 7 k 0],10,tch'⟩)/\lookP fr' 8=.msl 7 0 bs.length 5/\lookP fr' 9=.int .i64 bs.length/\lookP fr' 10=.int .i64 k
 |0,j,m,tch,e,hm=>by
  obtain rfl:j=b.code.length:=by omega
  obtain⟨r,rfl⟩:∃r,m=r+1+1+1+1+1+1+1+1+1+1+1+1+1+1+1+1+1:=⟨m-17,by omega⟩
  obtain⟨fr',h1,h2⟩:=A1j (T:=T) (fr:=fr) (nb:=bs.length) (k:=k) (nc:=b.code.length) (m:=r) (K:=⟨[.row 1 [.agg [.nilsl,.nilsl]] 2,.row 1 [.agg [.msl 4 0 ng 4,.msl 3 0 nj 5]] 2,.row 1 [.msl 5 0 n 1] 1,.row 0 (stR Rw i c (bs.set k (relB pl b))) 5,.row 0 gs 4,.row 0 (ints pl) 1,.sub 3 i 3,.sub 3 i 4,.row 1 [.agg [.str c.name,.int .i64 c.ty,.int .i64 c.ps,.msl 6 0 c.regs.length 1,.msl 7 0 bs.length 5]] 5,.row 1 [.agg [.str c.name,.int .i64 c.ty,.int .i64 c.ps,.msl 6 0 c.regs.length 1,.msl 7 0 bs.length 5]] 5,.row 1 [.agg [.msl 11 0 b.code.length 8,.int .i64 b.e.kind,.int .i64 b.e.a,.int .i64 b.e.to,.int .i64 b.e.els]] 5,.sub 7 k 0],10,tch⟩);have e:mxB pl b b.code.length=relB pl b:=by unfold mxB relB;rw[Ah]
  exact⟨fr',tch,by rw[e,u4,h1];rfl,h2⟩
 |q+1,j,m,tch,e,hm=>by
  obtain⟨r,rfl⟩:∃r,m=r+1+1+1+1+1+1+1+1+1+1+1+1+1+1+1+1+1:=⟨m-17,by omega⟩
  obtain⟨J,h1⟩:=iq (T:=T) (c:=c) (ng:=ng) (nj:=nj) (gs:=gs) (m:=r) (tch:=tch) C hi D G H (show j<b.code.length by omega) I;obtain⟨fr',Q,h2,U⟩:=NZ C hi D G H I q (j+1) (r+1+1+1+1+1+1+1+1+1+1+1+1+1+1+1+1) J (by omega) (by omega);exact⟨fr',Q,by rw[u4,h1];exact h2,U⟩
end
section
variable {Rw gs:List AV}{pl:List Int}{c:Cod}{b:Blk}{bs:List Blk}{i k j n ng nj ex m:Nat}{fr:PF}{tch:List Nat}{g:Operand}
theorem ibq(Q:lookP fr 7=.ptr 2 0 0)(hi:i<Rw.length)(D:k<c.blocks.length)(U:pl.length=n)(V:Bo n c.blocks[k].code)(hs:c.blocks[k].code.length<=1000)(hl:c.blocks.length<=10000000)(hm:c.blocks[k].code.length+20<=m):∃tch',evP ⟨env,T,A0⟩ (.iter (⟨[67],p9q0,p9r0,fr⟩:RC) (m+1+1+1+1+1+1+1+1+1+1+1+1+1+1+1+1) p44b1 zn [(8,.msl 7 0 c.blocks.length 5),(9,.int .i64 c.blocks.length),(10,.int .i64 (k:Nat))] ⟨[.row 1 [.agg [.nilsl,.nilsl]] 2,.row 1 [.agg [.msl 4 0 ng 4,.msl 3 0 nj 5]] 2,.row 1 [.msl 5 0 n 1] 1,.row 0 (stR Rw i c (mixR (relB pl) c.blocks k)) 5,.row 0 gs 4,.row 0 (ints pl) 1,.sub 3 i 3,.sub 3 i 4,.row 1 [.agg [.str c.name,.int .i64 c.ty,.int .i64 c.ps,.msl 6 0 c.regs.length 1,.msl 7 0 c.blocks.length 5]] 5,.row 1 [.agg [.str c.name,.int .i64 c.ty,.int .i64 c.ps,.msl 6 0 c.regs.length 1,.msl 7 0 c.blocks.length 5]] 5],10,tch⟩)=zsq (.itr .normal zn [(8,.msl 7 0 c.blocks.length 5),(9,.int .i64 c.blocks.length),(10,.int .i64 (k+1:Nat))] ⟨[.row 1 [.agg [.nilsl,.nilsl]] 2,.row 1 [.agg [.msl 4 0 ng 4,.msl 3 0 nj 5]] 2,.row 1 [.msl 5 0 n 1] 1,.row 0 (stR Rw i c (mixR (relB pl) c.blocks (k+1))) 5,.row 0 gs 4,.row 0 (ints pl) 1,.sub 3 i 3,.sub 3 i 4,.row 1 [.agg [.str c.name,.int .i64 c.ty,.int .i64 c.ps,.msl 6 0 c.regs.length 1,.msl 7 0 c.blocks.length 5]] 5,.row 1 [.agg [.str c.name,.int .i64 c.ty,.int .i64 c.ps,.msl 6 0 c.regs.length 1,.msl 7 0 c.blocks.length 5]] 5],10,tch'⟩):=by
 have H:decide ((k:Int)<(c.blocks.length:Int))=zt:=by simp[D]
 have Y:=A1 (i:=k) (by omega);have C:∀tch:List Nat,∃fr' tch',_:=fun tch=>NZ (T:=T) (c:=c) (gs:=gs) (ng:=ng) (nj:=nj) (fr:=fr) (b:=c.blocks[k]) (bs:=mixR (relB pl) c.blocks k) Q hi (by rw[mixR_len];exact D) U V (by omega) c.blocks[k].code.length 0 (m+1+1+1+1+1+1+1+1+1) tch (by omega) (by omega)
 have I:(mixR (relB pl) c.blocks k).set k (mxB pl c.blocks[k] 0)=mixR (relB pl) c.blocks k:=by
  apply zqu;intro q;rw[zqm];split
  . rename_i e2;subst e2;rw[if_pos (by rw[mixR_len];exact D),j5 D];rfl
  . rfl
 rw [s3 D,I,mixR_len]at C;have J:(stR Rw i c (mixR (relB pl) c.blocks k))[i]?=zsq (AV.agg [.str c.name,.int .i64 c.ty,.int .i64 c.ps,ownd 0 1 (ints c.regs),ownd 0 5 ((mixR (relB pl) c.blocks k).map Blk.O)]):=C4 hi;have hB:((mixR (relB pl) c.blocks k).map Blk.O)[k]?=zsq (AV.agg [ownd 0 8 (c.blocks[k].code.map Ins.O),.int .i64 c.blocks[k].e.kind,.int .i64 c.blocks[k].e.a,.int .i64 c.blocks[k].e.to,.int .i64 c.blocks[k].e.els]):=by
  rw[zqe,j5 D];rfl
 generalize stR Rw i c (mixR (relB pl) c.blocks k)=R1 at C J|-;generalize stR Rw i c (mixR (relB pl) c.blocks (k+1))=R2 at C|-;obtain⟨F1,G⟩:∃F:List Nat->PF×List Nat,∀t,evP ⟨env,T,A0⟩ (.iter (⟨[67],p9q0,p9r0,fr⟩:RC) (m+1+1+1+1+1+1+1+1+1) (.loop p44b0) zn [(4,.ptr 10 0 0),(8,.msl 7 0 c.blocks.length 5),(9,.int .i64 (c.blocks.length:Nat)),(10,.int .i64 (k:Nat)),(16,.int .i64 (c.blocks[k].code.length:Nat)),(17,.int .i64 0)] ⟨[.row 1 [.agg [.nilsl,.nilsl]] 2,.row 1 [.agg [.msl 4 0 ng 4,.msl 3 0 nj 5]] 2,.row 1 [.msl 5 0 n 1] 1,.row 0 R1 5,.row 0 gs 4,.row 0 (ints pl) 1,.sub 3 i 3,.sub 3 i 4,.row 1 [.agg [.str c.name,.int .i64 c.ty,.int .i64 c.ps,.msl 6 0 c.regs.length 1,.msl 7 0 c.blocks.length 5]] 5,.row 1 [.agg [.str c.name,.int .i64 c.ty,.int .i64 c.ps,.msl 6 0 c.regs.length 1,.msl 7 0 c.blocks.length 5]] 5,.row 1 [.agg [.msl 11 0 c.blocks[k].code.length 8,.int .i64 c.blocks[k].e.kind,.int .i64 c.blocks[k].e.a,.int .i64 c.blocks[k].e.to,.int .i64 c.blocks[k].e.els]] 5,.sub 7 k 0],10,t⟩)=zsq (.itr (.exit 2) zn (F t).1 ⟨[.row 1 [.agg [.nilsl,.nilsl]] 2,.row 1 [.agg [.msl 4 0 ng 4,.msl 3 0 nj 5]] 2,.row 1 [.msl 5 0 n 1] 1,.row 0 R2 5,.row 0 gs 4,.row 0 (ints pl) 1,.sub 3 i 3,.sub 3 i 4,.row 1 [.agg [.str c.name,.int .i64 c.ty,.int .i64 c.ps,.msl 6 0 c.regs.length 1,.msl 7 0 c.blocks.length 5]] 5,.row 1 [.agg [.str c.name,.int .i64 c.ty,.int .i64 c.ps,.msl 6 0 c.regs.length 1,.msl 7 0 c.blocks.length 5]] 5,.row 1 [.agg [.msl 11 0 c.blocks[k].code.length 8,.int .i64 c.blocks[k].e.kind,.int .i64 c.blocks[k].e.a,.int .i64 c.blocks[k].e.to,.int .i64 c.blocks[k].e.els]] 5,.sub 7 k 0],10,(F t).2⟩)/\lookP (F t).1 8=.msl 7 0 c.blocks.length 5/\lookP (F t).1 9=.int .i64 c.blocks.length/\lookP (F t).1 10=.int .i64 k:=⟨fun t=>((C t).choose,(C t).choose_spec.choose),fun t=>(C t).choose_spec.choose_spec⟩
 clear C I;have h1:=fun t=>(G t).1
 have h2:=fun t=>(G t).2.1
 have h3:=fun t=>(G t).2.2.1
 have h4:=fun t=>(G t).2.2.2
 clear G;unfold p44b1;generalize p44b0=b0 at h1|-;generalize p9q0=q0 at h1|-;generalize p9r0=r0 at h1|-;generalize ints pl=ip at *;generalize ints c.regs=rg at *;generalize c.blocks[k]=b at *;simp only[M4,X1,H3,H4,H5,H6,X2,M3,E3,E4,I0,H7,H8,H9,M5,X3,E8,X5,H2,V7,V8,V9,W6,W7,W8,W9,X0,H1,X4,M6,E5,E6,E7,wentOn,I5,H,Y,D,J,hB,h1,h2,h3,h4,zqb,D2,F7,F8,F9,G0,Z7,Z8,M0,Fh,Fi,Fj,Fk,XP,seval];grind
theorem OA{K:PK}:∃fr',evP ⟨env,T,A0⟩ (.iter (⟨[67],p9q0,p9r0,fr⟩:RC) (m+1+1+1+1+1+1+1+1+1+1+1+1+1+1+1+1) p44b1 zn [(8,.msl 7 0 c.blocks.length 5),(9,.int .i64 c.blocks.length),(10,.int .i64 (c.blocks.length:Nat))] K)=zsq (.itr (.exit 0) zn fr' K):=by
 unfold p44b1;have C:decide ((c.blocks.length:Int)<(c.blocks.length:Int))=zf:=by simp
 simp only[M4,X1,H3,H4,H5,H6,X2,M3,E3,E4,I0,H7,H8,H9,M5,X3,E8,X5,H2,V7,V8,V9,W6,W7,W8,W9,X0,H1,X4,M6,E5,E6,E7,wentOn,I5,C,XP,seval];grind
theorem DX(G:lookP fr 7=.ptr 2 0 0)(hi:i<Rw.length)(H:pl.length=n)(I:∀b∈c.blocks,Bo n b.code)(hc:GOk c):∀(q k m:Nat)(tch:List Nat),c.blocks.length=k+q->q+1100<=m ->
 ∃fr' tch',evP ⟨env,T,A0⟩ (.iter (⟨[67],p9q0,p9r0,fr⟩:RC) m (.loop p44b1) zn [(8,.msl 7 0 c.blocks.length 5),(9,.int .i64 c.blocks.length),(10,.int .i64 (k:Nat))] ⟨[.row 1 [.agg [.nilsl,.nilsl]] 2,.row 1 [.agg [.msl 4 0 ng 4,.msl 3 0 nj 5]] 2,.row 1 [.msl 5 0 n 1] 1,.row 0 (stR Rw i c (mixR (relB pl) c.blocks k)) 5,.row 0 gs 4,.row 0 (ints pl) 1,.sub 3 i 3,.sub 3 i 4,.row 1 [.agg [.str c.name,.int .i64 c.ty,.int .i64 c.ps,.msl 6 0 c.regs.length 1,.msl 7 0 c.blocks.length 5]] 5,.row 1 [.agg [.str c.name,.int .i64 c.ty,.int .i64 c.ps,.msl 6 0 c.regs.length 1,.msl 7 0 c.blocks.length 5]] 5],10,tch⟩)=zsq (.itr (.exit 0) zn fr' ⟨[.row 1 [.agg [.nilsl,.nilsl]] 2,.row 1 [.agg [.msl 4 0 ng 4,.msl 3 0 nj 5]] 2,.row 1 [.msl 5 0 n 1] 1,.row 0 (Rw.set i (relC pl c).O) 5,.row 0 gs 4,.row 0 (ints pl) 1,.sub 3 i 3,.sub 3 i 4,.row 1 [.agg [.str c.name,.int .i64 c.ty,.int .i64 c.ps,.msl 6 0 c.regs.length 1,.msl 7 0 c.blocks.length 5]] 5,.row 1 [.agg [.str c.name,.int .i64 c.ty,.int .i64 c.ps,.msl 6 0 c.regs.length 1,.msl 7 0 c.blocks.length 5]] 5],10,tch'⟩)
 |0,k,m,tch,e,hm=>by
  obtain rfl:k=c.blocks.length:=by omega
  obtain⟨r,rfl⟩:∃r,m=r+1+1+1+1+1+1+1+1+1+1+1+1+1+1+1+1+1:=⟨m-17,by omega⟩
  obtain⟨fr',h1⟩:=OA (T:=T) (c:=c) (fr:=fr) (m:=r) (K:=⟨[.row 1 [.agg [.nilsl,.nilsl]] 2,.row 1 [.agg [.msl 4 0 ng 4,.msl 3 0 nj 5]] 2,.row 1 [.msl 5 0 n 1] 1,.row 0 (Rw.set i (relC pl c).O) 5,.row 0 gs 4,.row 0 (ints pl) 1,.sub 3 i 3,.sub 3 i 4,.row 1 [.agg [.str c.name,.int .i64 c.ty,.int .i64 c.ps,.msl 6 0 c.regs.length 1,.msl 7 0 c.blocks.length 5]] 5,.row 1 [.agg [.str c.name,.int .i64 c.ty,.int .i64 c.ps,.msl 6 0 c.regs.length 1,.msl 7 0 c.blocks.length 5]] 5],10,tch⟩);refine⟨fr',tch,?_⟩;rw[Ah,u4];show aU _ _ _ _ (evP ⟨env,T,A0⟩ (.iter (⟨[67],p9q0,p9r0,fr⟩:RC) (r+1+1+1+1+1+1+1+1+1+1+1+1+1+1+1+1) p44b1 zn [(8,.msl 7 0 c.blocks.length 5),(9,.int .i64 c.blocks.length),(10,.int .i64 (c.blocks.length:Nat))] ⟨[.row 1 [.agg [.nilsl,.nilsl]] 2,.row 1 [.agg [.msl 4 0 ng 4,.msl 3 0 nj 5]] 2,.row 1 [.msl 5 0 n 1] 1,.row 0 (Rw.set i (relC pl c).O) 5,.row 0 gs 4,.row 0 (ints pl) 1,.sub 3 i 3,.sub 3 i 4,.row 1 [.agg [.str c.name,.int .i64 c.ty,.int .i64 c.ps,.msl 6 0 c.regs.length 1,.msl 7 0 c.blocks.length 5]] 5,.row 1 [.agg [.str c.name,.int .i64 c.ty,.int .i64 c.ps,.msl 6 0 c.regs.length 1,.msl 7 0 c.blocks.length 5]] 5],10,tch⟩))=_
  rw[h1];rfl
 |q+1,k,m,tch,e,hm=>by
  have C:k<c.blocks.length:=by omega
  have D:=hc.code _ (zqd C);have hbl:=hc.blocks;obtain⟨r,rfl⟩:∃r,m=r+1+1+1+1+1+1+1+1+1+1+1+1+1+1+1+1+1:=⟨m-17,by omega⟩
  obtain⟨J,h1⟩:=ibq (T:=T) (gs:=gs) (ng:=ng) (nj:=nj) (m:=r) (tch:=tch) G hi C H (I _ (zqd C)) D (by omega) (by omega);obtain⟨fr',Q,h2⟩:=DX G hi H I hc q (k+1) (r+1+1+1+1+1+1+1+1+1+1+1+1+1+1+1+1) J (by omega) (by omega);exact⟨fr',Q,by rw[u4,h1];exact h2⟩
theorem rfq(D:lookP fr 7=.ptr 2 0 0)(hg:opvP env g fr=.fn (.func 44) [] [.ptr 9 0 0])(hi:i<Rw.length)(C:Rw[i]?=zsq c.O)(G:pl.length=n)(H:∀b∈c.blocks,Bo n b.code)(hc:GOk c):∃tch',evP ⟨env,T,A0⟩ (.code (.rfn g [67] p9q0 p9r0) fr ⟨[.row 1 [.agg [.nilsl,.nilsl]] 2,.row 1 [.agg [.msl 4 0 ng 4,.msl 3 0 nj 5]] 2,.row 1 [.msl 5 0 n 1] 1,.row 0 Rw 5,.row 0 gs 4,.row 0 (ints pl) 1,.sub 3 i 3,.sub 3 i 4,.row 1 [.agg [.str c.name,.int .i64 c.ty,.int .i64 c.ps,.msl 6 0 c.regs.length 1,.msl 7 0 c.blocks.length 5]] 5,.row 1 [.agg [.str c.name,.int .i64 c.ty,.int .i64 c.ps,.msl 6 0 c.regs.length 1,.msl 7 0 c.blocks.length 5]] 5],ex,tch⟩)=zsq (.ok .normal fr ⟨[.row 1 [.agg [.nilsl,.nilsl]] 2,.row 1 [.agg [.msl 4 0 ng 4,.msl 3 0 nj 5]] 2,.row 1 [.msl 5 0 n 1] 1,.row 0 (Rw.set i (relC pl c).O) 5,.row 0 gs 4,.row 0 (ints pl) 1,.sub 3 i 3,.sub 3 i 4,.row 1 [.agg [.str c.name,.int .i64 c.ty,.int .i64 c.ps,.msl 6 0 c.regs.length 1,.msl 7 0 c.blocks.length 5]] 5,.row 1 [.agg [.str c.name,.int .i64 c.ty,.int .i64 c.ps,.msl 6 0 c.regs.length 1,.msl 7 0 c.blocks.length 5]] 5],ex,tch'⟩):=by
 obtain ⟨fr',J,h1⟩:=DX (T:=T) (gs:=gs) (ng:=ng) (nj:=nj) (fr:=fr) D hi G H hc c.blocks.length 0 (itMax-2) [] (by omega) (by have:=hc.blocks;grind [itMax]);have I:stR Rw i c (mixR (relB pl) c.blocks 0)=Rw:=by
  rw[cQ];apply zqu;simp_all [stR, zqm]
 rw[xR (x:=SS) (nt:=37) (rs:=[]) (i:=zf) hg rfl (by simp)];rw[show itMax=65534+1+1 from rfl];rw[I]at h1;have h1:evP ⟨env,T,A0⟩ (.iter (⟨[67],p9q0,p9r0,fr⟩:RC) 65534 (.loop p44b1) zn [(8,.msl 7 0 c.blocks.length 5),(9,.int .i64 c.blocks.length),(10,.int .i64 0)] ⟨[.row 1 [.agg [.nilsl,.nilsl]] 2,.row 1 [.agg [.msl 4 0 ng 4,.msl 3 0 nj 5]] 2,.row 1 [.msl 5 0 n 1] 1,.row 0 Rw 5,.row 0 gs 4,.row 0 (ints pl) 1,.sub 3 i 3,.sub 3 i 4,.row 1 [.agg [.str c.name,.int .i64 c.ty,.int .i64 c.ps,.msl 6 0 c.regs.length 1,.msl 7 0 c.blocks.length 5]] 5,.row 1 [.agg [.str c.name,.int .i64 c.ty,.int .i64 c.ps,.msl 6 0 c.regs.length 1,.msl 7 0 c.blocks.length 5]] 5],10,[]⟩)=zsq (.itr (.exit 0) zn fr' ⟨[.row 1 [.agg [.nilsl,.nilsl]] 2,.row 1 [.agg [.msl 4 0 ng 4,.msl 3 0 nj 5]] 2,.row 1 [.msl 5 0 n 1] 1,.row 0 (Rw.set i (relC pl c).O) 5,.row 0 gs 4,.row 0 (ints pl) 1,.sub 3 i 3,.sub 3 i 4,.row 1 [.agg [.str c.name,.int .i64 c.ty,.int .i64 c.ps,.msl 6 0 c.regs.length 1,.msl 7 0 c.blocks.length 5]] 5,.row 1 [.agg [.str c.name,.int .i64 c.ty,.int .i64 c.ps,.msl 6 0 c.regs.length 1,.msl 7 0 c.blocks.length 5]] 5],10,J⟩):=h1;generalize Rw.set i (relC pl c).O=R2 at h1|-;generalize p44b1=b1 at h1|-;generalize p9q0=q0 at h1|-;generalize p9r0=r0 at h1|-;generalize ints pl=ip at *;simp only[M4,X1,H3,H4,H5,H6,X2,M3,E3,E4,I0,H7,H8,H9,M5,X3,E8,X5,H2,V7,V8,V9,W6,W7,W8,W9,X0,H1,X4,M6,E5,E6,E7,wentOn,I5,h1,mQ,qI,D2,F7,F8,F9,G0,Z7,Z8,M0,Fh,Fi,Fj,Fk,XP,seval];grind
theorem A1k(hi:i<Rw.length)(D:Rw[i]?=zsq c.O)(H:pl.length=n)(G:∀b∈c.blocks,Bo n b.code)(hc:GOk c):∃F:PF->List Nat->List Nat,∀(fr:PF)(tch:List Nat),lookP fr 7=.ptr 2 0 0->opvP env (.tmp 66) fr=.fn (.func 44) [] [.ptr 9 0 0]->evP ⟨env,T,A0⟩ (.code (.rfn (.tmp 66) [67] p9q0 p9r0) fr ⟨[.row 1 [.agg [.nilsl,.nilsl]] 2,.row 1 [.agg [.msl 4 0 ng 4,.msl 3 0 nj 5]] 2,.row 1 [.msl 5 0 n 1] 1,.row 0 Rw 5,.row 0 gs 4,.row 0 (ints pl) 1,.sub 3 i 3,.sub 3 i 4,.row 1 [.agg [.str c.name,.int .i64 c.ty,.int .i64 c.ps,.msl 6 0 c.regs.length 1,.msl 7 0 c.blocks.length 5]] 5,.row 1 [.agg [.str c.name,.int .i64 c.ty,.int .i64 c.ps,.msl 6 0 c.regs.length 1,.msl 7 0 c.blocks.length 5]] 5],0,tch⟩)=zsq (.ok .normal fr ⟨[.row 1 [.agg [.nilsl,.nilsl]] 2,.row 1 [.agg [.msl 4 0 ng 4,.msl 3 0 nj 5]] 2,.row 1 [.msl 5 0 n 1] 1,.row 0 (Rw.set i (relC pl c).O) 5,.row 0 gs 4,.row 0 (ints pl) 1,.sub 3 i 3,.sub 3 i 4,.row 1 [.agg [.str c.name,.int .i64 c.ty,.int .i64 c.ps,.msl 6 0 c.regs.length 1,.msl 7 0 c.blocks.length 5]] 5,.row 1 [.agg [.str c.name,.int .i64 c.ty,.int .i64 c.ps,.msl 6 0 c.regs.length 1,.msl 7 0 c.blocks.length 5]] 5],0,F fr tch⟩):=by
 have C:∀x:PF×List Nat,∃t,lookP x.1 7=.ptr 2 0 0->opvP env (.tmp 66) x.1=.fn (.func 44) [] [.ptr 9 0 0]->evP ⟨env,T,A0⟩ (.code (.rfn (.tmp 66) [67] p9q0 p9r0) x.1 ⟨[.row 1 [.agg [.nilsl,.nilsl]] 2,.row 1 [.agg [.msl 4 0 ng 4,.msl 3 0 nj 5]] 2,.row 1 [.msl 5 0 n 1] 1,.row 0 Rw 5,.row 0 gs 4,.row 0 (ints pl) 1,.sub 3 i 3,.sub 3 i 4,.row 1 [.agg [.str c.name,.int .i64 c.ty,.int .i64 c.ps,.msl 6 0 c.regs.length 1,.msl 7 0 c.blocks.length 5]] 5,.row 1 [.agg [.str c.name,.int .i64 c.ty,.int .i64 c.ps,.msl 6 0 c.regs.length 1,.msl 7 0 c.blocks.length 5]] 5],0,x.2⟩)=zsq (.ok .normal x.1 ⟨[.row 1 [.agg [.nilsl,.nilsl]] 2,.row 1 [.agg [.msl 4 0 ng 4,.msl 3 0 nj 5]] 2,.row 1 [.msl 5 0 n 1] 1,.row 0 (Rw.set i (relC pl c).O) 5,.row 0 gs 4,.row 0 (ints pl) 1,.sub 3 i 3,.sub 3 i 4,.row 1 [.agg [.str c.name,.int .i64 c.ty,.int .i64 c.ps,.msl 6 0 c.regs.length 1,.msl 7 0 c.blocks.length 5]] 5,.row 1 [.agg [.str c.name,.int .i64 c.ty,.int .i64 c.ps,.msl 6 0 c.regs.length 1,.msl 7 0 c.blocks.length 5]] 5],0,t⟩):=fun x=>by
  by_cases h:lookP x.1 7=.ptr 2 0 0/\opvP env (.tmp 66) x.1=.fn (.func 44) [] [.ptr 9 0 0]
  . simp_all [rfq]
  simp_all
 exact⟨fun fr t=>(C (fr,t)).choose,fun fr t=>(C (fr,t)).choose_spec⟩
end
section
variable {gs:List AV}{pl:List Int}{outs:List Cod}{i n ng:Nat}
def JE(k i:Nat):PF:=[(2,.ptr 0 0 0),(6,.ptr 1 0 0),(7,.ptr 2 0 0),(59,.msl 3 0 k 5),(60,.int .i64 (k:Int)),(61,.int .i64 (i:Int))]
theorem A1l(U:T 27=zn)(hi:i<outs.length)(hs:outs.length<=10000)(V:pl.length=n)(Y:∀b∈outs[i].blocks,Bo n b.code)(hc:GOk outs[i]):evP ⟨env,T,A0⟩ (.code fZ (JE outs.length i) ⟨[.row 1 [.agg [.nilsl,.nilsl]] 2,.row 1 [.agg [.msl 4 0 ng 4,.msl 3 0 outs.length 5]] 2,.row 1 [.msl 5 0 n 1] 1,.row 0 ((mixR (relC pl) outs i).map Cod.O) 5,.row 0 gs 4,.row 0 (ints pl) 1],0,[]⟩)=zsq (.ok .normal (JE outs.length (i+1)) ⟨[.row 1 [.agg [.nilsl,.nilsl]] 2,.row 1 [.agg [.msl 4 0 ng 4,.msl 3 0 outs.length 5]] 2,.row 1 [.msl 5 0 n 1] 1,.row 0 ((mixR (relC pl) outs (i+1)).map Cod.O) 5,.row 0 gs 4,.row 0 (ints pl) 1],0,[]⟩):=by
 have H:decide ((i:Int)<(outs.length:Int))=zt:=by simp[hi]
 have hw:=A1 (i:=i) (by omega);have C:((mixR (relC pl) outs i).map Cod.O)[i]?=zsq outs[i].O:=by rw[zqe,j5 hi];rfl
 have D:((mixR (relC pl) outs i).map Cod.O).set i (relC pl outs[i]).O=(mixR (relC pl) outs (i+1)).map Cod.O:=by rw[<-s3 hi,zqj]
 obtain⟨F,G⟩:=A1k (T:=T) (gs:=gs) (ng:=ng) (nj:=outs.length) (pl:=pl) (by grind) C V Y hc;have I:i<((mixR (relC pl) outs i).map Cod.O).length:=by grind
 rw[D]at G;have J:=fun K a b c d=>Uv (T:=T) (K:=K) U (s:=outs[i].name) (p:=outs[i].ty) (q:=outs[i].ps) (u:=.msl a 0 b 1) (w:=.msl c 0 d 5) rfl rfl
 simp_all [mixR, Cod.O, fZ, FT, KB, KA, JZ, JE, XP]
theorem A1m{K:PK}:∃fr',evP ⟨env,T,A0⟩ (.code fZ (JE outs.length outs.length) K)=zsq (.ok (.exit 2) fr' K)/\lookP fr' 2=.ptr 0 0 0/\lookP fr' 6=.ptr 1 0 0:=by
 unfold fZ FT JE;have C:decide ((outs.length:Int)<(outs.length:Int))=zf:=by simp
 simp only[C,XP,seval];exact⟨_,rfl,rfl,rfl⟩
theorem A1n(C:T 27=zn)(D:outs.length<=10000)(G:pl.length=n)(H:∀c∈outs,∀b∈c.blocks,Bo n b.code)(hc:∀c∈outs,GOk c):∃fr',evP ⟨env,T,A0⟩ (.code (.loop fZ) [(2,.ptr 0 0 0),(6,.ptr 1 0 0),(7,.ptr 2 0 0),(59,.msl 3 0 outs.length 5),(60,.int .i64 (outs.length:Int)),(61,.int .i64 0)] ⟨[.row 1 [.agg [.nilsl,.nilsl]] 2,.row 1 [.agg [.msl 4 0 ng 4,.msl 3 0 outs.length 5]] 2,.row 1 [.msl 5 0 n 1] 1,.row 0 (outs.map Cod.O) 5,.row 0 gs 4,.row 0 (ints pl) 1],0,[]⟩)=zsq (.ok (.exit 2) fr' ⟨[.row 1 [.agg [.nilsl,.nilsl]] 2,.row 1 [.agg [.msl 4 0 ng 4,.msl 3 0 outs.length 5]] 2,.row 1 [.msl 5 0 n 1] 1,.row 0 ((outs.map (relC pl)).map Cod.O) 5,.row 0 gs 4,.row 0 (ints pl) 1],0,[]⟩)/\lookP fr' 2=.ptr 0 0 0/\lookP fr' 6=.ptr 1 0 0:=by
 have:=M2 (P:=⟨env,T,A0⟩) (c:=fZ) (fun i=>(JE outs.length i,⟨[.row 1 [.agg [.nilsl,.nilsl]] 2,.row 1 [.agg [.msl 4 0 ng 4,.msl 3 0 outs.length 5]] 2,.row 1 [.msl 5 0 n 1] 1,.row 0 ((mixR (relC pl) outs i).map Cod.O) 5,.row 0 gs 4,.row 0 (ints pl) 1],0,[]⟩)) outs.length (by grind [Go.Proofs.AmEnv.A1l])
 simp only[Ah,cQ]at this;obtain⟨fr',e,p⟩:=A1m (T:=T) (outs:=outs) (K:=⟨[.row 1 [.agg [.nilsl,.nilsl]] 2,.row 1 [.agg [.msl 4 0 ng 4,.msl 3 0 outs.length 5]] 2,.row 1 [.msl 5 0 n 1] 1,.row 0 ((outs.map (relC pl)).map Cod.O) 5,.row 0 gs 4,.row 0 (ints pl) 1],0,[]⟩);exact⟨fr',by
  have h0:evP ⟨env,T,A0⟩ (.code (.loop fZ) [(2,.ptr 0 0 0),(6,.ptr 1 0 0),(7,.ptr 2 0 0),(59,.msl 3 0 outs.length 5),(60,.int .i64 (outs.length:Int)),(61,.int .i64 0)] ⟨[.row 1 [.agg [.nilsl,.nilsl]] 2,.row 1 [.agg [.msl 4 0 ng 4,.msl 3 0 outs.length 5]] 2,.row 1 [.msl 5 0 n 1] 1,.row 0 (outs.map Cod.O) 5,.row 0 gs 4,.row 0 (ints pl) 1],0,[]⟩)=_:=this;rw[h0];exact loop_exit e,p⟩
end
def keepL(nd:List Bool):Nat->List Cod->List Cod->List Int->List Cod×List Int
 |_,[],o,p=>(o,p)
 |i,c::l,o,p=>if nd.getD i zf=zt then keepL nd (i+1) l (o++[c]) (p.set i o.length)else keepL nd (i+1) l o p
section
variable {gs:List AV}{nd:List Bool}{pl:List Int}{outs fs:List Cod}{i n ng:Nat}
def cS(n:Nat)(fs:List Cod)(i:Nat):PF:=[(2,.ptr 0 0 0),(5,.msl 1 0 n 1),(6,.ptr 2 0 0),(7,.ptr 3 0 0),(33,fslN (fs.map Cod.F)),(34,.int .i64 (fs.length:Int)),(35,.int .i64 (i:Int))]
theorem A1o(hi:i<fs.length)(hs:fs.length<=10000)(hn:nd.length=n)(hfn:fs.length=n)(h0:nd.getD i zf=zf):evP ⟨env,T,A0⟩ (.code Nb (cS n fs i) ⟨[.row 1 [.agg [.nilsl,.nilsl]] 2,.row 0 (bools nd) 1,.row 1 [.agg [.msl 4 0 ng 4,.nilsl]] 2,.row 1 [.msl 5 0 n 1] 1,.row 0 gs 4,.row 0 (ints pl) 1],0,[]⟩)=zsq (.ok .normal (cS n fs (i+1)) ⟨[.row 1 [.agg [.nilsl,.nilsl]] 2,.row 0 (bools nd) 1,.row 1 [.agg [.msl 4 0 ng 4,.nilsl]] 2,.row 1 [.msl 5 0 n 1] 1,.row 0 gs 4,.row 0 (ints pl) 1],0,[]⟩):=by
 have C:decide ((i:Int)<(fs.length:Int))=zt:=by simp[hi]
 have G:=A1 (i:=i) (by omega);simp_all [Cod.F, Nb, qR, uC, uB, uA, cS, XP]
theorem A1p(J:T 26=zsq K6)(hi:i<fs.length)(hs:fs.length<=10000)(hn:nd.length=n)(hpn:pl.length=n)(hfn:fs.length=n)(h0:nd.getD i zf=zt)(hc:fs[i].ok):evP ⟨env,T,A0⟩ (.code Nb (cS n fs i) ⟨[.row 1 [.agg [.nilsl,.nilsl]] 2,.row 0 (bools nd) 1,.row 1 [.agg [.msl 4 0 ng 4,.nilsl]] 2,.row 1 [.msl 5 0 n 1] 1,.row 0 gs 4,.row 0 (ints pl) 1],0,[]⟩)=zsq (.ok .normal (cS n fs (i+1)) ⟨[.row 1 [.agg [.nilsl,.nilsl]] 2,.row 0 (bools nd) 1,.row 1 [.agg [.msl 4 0 ng 4,.msl 5 0 1 5]] 2,.row 1 [.msl 6 0 n 1] 1,.row 0 gs 4,.row 0 [fs[i].O] 5,.row 0 (ints (pl.set i 0)) 1],0,[]⟩):=by
 have C:decide ((i:Int)<(fs.length:Int))=zt:=by simp[hi]
 have Q:=A1 (i:=i) (by omega);have hg:=A5 (F:=Cod.F) hi;have hb:=G1 (k:=nd) (v:=i) (by omega);rw[h0]at hb;have D:i<n:=by omega
 have G:=fun K=>Ks (K:=K) J hc
 have H:i<(ints pl).length:=by rw[S2];omega
 have I:=L3 (k:=pl) (v:=i) (by omega);rw[<-Af];simp only[Cod.F]at hg G;simp only[Cod.O]at G|-;unfold Nb qR uC uB uA cS;generalize ints pl=ip at *;generalize bools nd=bn at *;simp only[C,Q,hg,hb,D,H,I,G,D2,F7,F8,F9,G0,Z7,Z8,M0,Fh,Fi,Fj,Fk,XP,seval]
end
section
theorem lJ:AM.Comes ⟨env,T,A0⟩ 25 [.nilsl] [ownd 0 4 (([]:List Glo).map Glo.F)]:=by
 refine⟨[.nilsl],⟨[],0,[]⟩,?_,C6 (.inl ⟨rfl,rfl,rfl⟩)⟩;rw[A3 (c:=CF) (nt:=8) (rs:=[.tmp 2]) rfl (by simp)];unfold CF K0;simp only[Rr (t:=22) rfl,XP,seval]
theorem lK:AM.Comes ⟨env,T,A0⟩ 25 [.fsl [] zf] [ownd 0 4 (([]:List Glo).map Glo.F)]:=by
 refine⟨[.msl 0 0 0 4],⟨[.row 0 [] 4],0,[]⟩,?_,C6 (.inr ⟨rfl,rfl⟩)⟩;rw[A3 (c:=CF) (nt:=8) (rs:=[.tmp 2]) rfl (by simp)];unfold CF K0;simp only[Rs (t:=22) rfl,cE,XP,seval]
theorem OB:∀l:List Glo,J4 4 (l.map Glo.F)=zt
 |[]=>rfl
 |x::l=>OB l
theorem gT{x:Glo}{l:List Glo}(G:(x::l).length*40<=bigN):AM.Comes ⟨env,T,A0⟩ 25 [fslN ((x::l).map Glo.F)] [ownd 0 4 ((x::l).map Glo.F)]:=by
 refine⟨[.msl 0 0 ((x::l).map Glo.F).length 4],⟨[.row 0 ((x::l).map Glo.F) 4],0,[]⟩,?_,C6 (.inr ⟨rfl,rfl⟩)⟩;rw[A3 (c:=CF) (nt:=8) (rs:=[.tmp 2]) rfl (by simp)];unfold CF K0;have h1:∀K:PK,V4 env .eql 22 (fslN ((x::l).map Glo.F)) .nilsl K=.val (.bool zf) K:=fun K=>Kc (t:=22) rfl
 have h2:=OB (x::l);have C:((x::l).map Glo.F).isEmpty=zf:=rfl;simp_all [XP]
def Dg:=X6 (fun l:List Glo=>[fslN (l.map Glo.F)]) (fun l=>[ownd 0 4 (l.map Glo.F)]) (fun l=>l.length*40<=bigN)
theorem rJ{P:PE}(C:PEok P)(D:P=⟨env,T,A0⟩):TC P.E 25 Dg:=by
 subst D;refine eB C (fun a args rs hg G ha=>?_) (by simp_all [Dg, X6]);obtain⟨l,h1,h2,rfl⟩:=Mi hg;injection h2 with h2 H
 subst h2 H;cases l with
 |nil=>
  rcases zqs.1 ha with rfl|ha
  . exact lJ
  . obtain rfl:=zqq.1 ha;exact lK
 |cons x l=>
  obtain rfl:=zqq.1 (show G∈[fslN ((x::l).map Glo.F)]from ha);exact gT h1
end
section
theorem lL{l:List Glo}(h:l.length*40<=bigN):Dg [fslN (l.map Glo.F)]=zsq [ownd 0 4 (l.map Glo.F)]:=B6 (a:=fun l:List Glo=>[fslN (l.map Glo.F)]) (fun x y e=>by simp_all [fslN_iff]) l h
theorem zF(C:T 25=zsq Dg){l:List Glo}(h:l.length*40<=bigN){K:PK}:evP ⟨env,T,A0⟩ (.call 25 [fslN (l.map Glo.F)] K)=zsq (.val (openTs K.os.length [ownd 0 4 (l.map Glo.F)]).1 ⟨K.os++(openTs K.os.length [ownd 0 4 (l.map Glo.F)]).2,K.ext,K.tch⟩):=B4 C (by simp only[frzL_gloF,XP,seval]) (lL h) rfl
end
section
variable {gs:List AV}{nd:List Bool}{pl:List Int}{outs fs:List Cod}{i n ng:Nat}
theorem A1q(hi:i<fs.length)(hs:fs.length<=10000)(hn:nd.length=n)(hfn:fs.length=n)(h0:nd.getD i zf=zf):evP ⟨env,T,A0⟩ (.code Nb (cS n fs i) ⟨[.row 1 [.agg [.nilsl,.nilsl]] 2,.row 0 (bools nd) 1,.row 1 [.agg [.msl 4 0 ng 4,.msl 5 0 outs.length 5]] 2,.row 1 [.msl 6 0 n 1] 1,.row 0 gs 4,.row 0 (outs.map Cod.O) 5,.row 0 (ints pl) 1],0,[]⟩)=zsq (.ok .normal (cS n fs (i+1)) ⟨[.row 1 [.agg [.nilsl,.nilsl]] 2,.row 0 (bools nd) 1,.row 1 [.agg [.msl 4 0 ng 4,.msl 5 0 outs.length 5]] 2,.row 1 [.msl 6 0 n 1] 1,.row 0 gs 4,.row 0 (outs.map Cod.O) 5,.row 0 (ints pl) 1],0,[]⟩):=by
 have C:decide ((i:Int)<(fs.length:Int))=zt:=by simp[hi]
 have G:=A1 (i:=i) (by omega);simp_all [Cod.F, Nb, qR, uC, uB, uA, cS, XP]
theorem A1r(Q:T 26=zsq K6)(hi:i<fs.length)(hs:fs.length<=10000)(hn:nd.length=n)(hpn:pl.length=n)(hfn:fs.length=n)(h0:nd.getD i zf=zt)(hc:fs[i].ok)(ho:outs.length<=10000):evP ⟨env,T,A0⟩ (.code Nb (cS n fs i) ⟨[.row 1 [.agg [.nilsl,.nilsl]] 2,.row 0 (bools nd) 1,.row 1 [.agg [.msl 4 0 ng 4,.msl 5 0 outs.length 5]] 2,.row 1 [.msl 6 0 n 1] 1,.row 0 gs 4,.row 0 (outs.map Cod.O) 5,.row 0 (ints pl) 1],0,[]⟩)=zsq (.ok .normal (cS n fs (i+1)) ⟨[.row 1 [.agg [.nilsl,.nilsl]] 2,.row 0 (bools nd) 1,.row 1 [.agg [.msl 4 0 ng 4,.msl 5 0 (outs.length+1) 5]] 2,.row 1 [.msl 6 0 n 1] 1,.row 0 gs 4,.row 0 (outs.map Cod.O++[fs[i].O]) 5,.row 0 (ints (pl.set i (outs.length:Int))) 1],0,[]⟩):=by
 have C:decide ((i:Int)<(fs.length:Int))=zt:=by simp[hi]
 have U:=A1 (i:=i) (by omega);have hg:=A5 (F:=Cod.F) hi;have hb:=G1 (k:=nd) (v:=i) (by omega);rw[h0]at hb;have D:i<n:=by omega
 have G:(outs.map Cod.O).length=outs.length:=by simp
 have hz:(outs.length+1)*80<=140737488355328:=by omega
 have H:=fun K=>Ks (K:=K) Q hc
 have I:i<(ints pl).length:=by rw[S2];omega
 have J:=L3 (k:=pl) (v:=i) (by omega);rw[<-Af];simp only[Cod.F]at hg H;simp only[Cod.O]at H|-;unfold Nb qR uC uB uA cS;generalize ints pl=ip at *;generalize outs.map Cod.O=os1 at *;generalize bools nd=bn at *;simp only[C,U,hg,hb,D,I,J,H,G,hz,D2,F7,F8,F9,G0,Z7,Z8,M0,Fh,Fi,Fj,Fk,XP,seval]
def zG(gs:List AV)(ng n:Nat)(nd:List Bool)(pl:List Int)(outs:List Cod):PK:=match outs with|[]=>⟨[.row 1 [.agg [.nilsl,.nilsl]] 2,.row 0 (bools nd) 1,.row 1 [.agg [.msl 4 0 ng 4,.nilsl]] 2,.row 1 [.msl 5 0 n 1] 1,.row 0 gs 4,.row 0 (ints pl) 1],0,[]⟩|_::_=>⟨[.row 1 [.agg [.nilsl,.nilsl]] 2,.row 0 (bools nd) 1,.row 1 [.agg [.msl 4 0 ng 4,.msl 5 0 outs.length 5]] 2,.row 1 [.msl 6 0 n 1] 1,.row 0 gs 4,.row 0 (outs.map Cod.O) 5,.row 0 (ints pl) 1],0,[]⟩
theorem k_1(H:T 26=zsq K6)(hi:i<fs.length)(G:fs.length<=10000)(hn:nd.length=n)(D:pl.length=n)(C:fs.length=n)(hc:fs[i].ok)(ho:outs.length<=10000):evP ⟨env,T,A0⟩ (.code Nb (cS n fs i) (zG gs ng n nd pl outs))=zsq (.ok .normal (cS n fs (i+1)) (if nd.getD i zf=zt then zG gs ng n nd (pl.set i (outs.length:Int)) (outs++[fs[i]])else zG gs ng n nd pl outs)):=by
 cases h0:nd.getD i zf with
 |false=>
  rw[if_neg (by decide)];cases outs with
  |nil=>exact A1o hi G hn C h0
  |cons y l=>exact A1q (outs:=y::l) hi G hn C h0
 |true=>
  rw[if_pos rfl];cases outs with
  |nil=>exact A1p H hi G hn D C h0 hc
  |cons y l=>
   grind [zG, A1r]
theorem k_x{K:PK}:∃fr',evP ⟨env,T,A0⟩ (.code Nb (cS n fs fs.length) K)=zsq (.ok (.exit 0) fr' K)/\lookP fr' 2=.ptr 0 0 0/\lookP fr' 6=.ptr 2 0 0/\lookP fr' 7=.ptr 3 0 0:=by
 unfold Nb qR cS;have C:decide ((fs.length:Int)<(fs.length:Int))=zf:=by simp
 simp only[C,XP,seval];exact⟨_,rfl,rfl,rfl,rfl⟩
theorem k_l(D:T 26=zsq K6)(G:fs.length<=10000)(hn:nd.length=n)(C:fs.length=n)(hc:∀c∈fs,c.ok):∀(q i:Nat)(outs:List Cod)(pl:List Int),fs.length=i+q->outs.length<=i->pl.length=n ->
 ∃fr',evP ⟨env,T,A0⟩ (.code (.loop Nb) (cS n fs i) (zG gs ng n nd pl outs))=zsq (.ok (.exit 0) fr' (zG gs ng n nd (keepL nd i (fs.drop i) outs pl).2 (keepL nd i (fs.drop i) outs pl).1))/\lookP fr' 2=.ptr 0 0 0/\lookP fr' 6=.ptr 2 0 0/\lookP fr' 7=.ptr 3 0 0
 |0,i,outs,pl,e,ho,hp=>by
  obtain rfl:i=fs.length:=by omega
  obtain⟨fr',h1,h2⟩:=k_x (T:=T) (n:=n) (fs:=fs) (K:=zG gs ng n nd pl outs);rw[zqt];exact⟨fr',loop_exit h1,h2⟩
 |q + 1,i,outs,pl,e,ho,hp=>by
  have hi:i<fs.length:=by omega
  have h1:=k_1 (T:=T) (gs:=gs) (ng:=ng) (pl:=pl) (outs:=outs) D hi G hn hp C (hc _ (zqd hi)) (by omega);rw[zqp hi,keepL];by_cases h0:nd.getD i zf=zt
  . rw[if_pos h0]at h1|-
    obtain⟨fr',h2,H⟩:=k_l D G hn C hc q (i+1) (outs++[fs[i]]) (pl.set i (outs.length:Int)) (by omega) (by simp;omega) (by simp[hp]);exact⟨fr',(loop_more h1).trans h2,H⟩
  . rw[if_neg h0]at h1|-
    obtain⟨fr',h2,H⟩:=k_l D G hn C hc q (i+1) outs pl (by omega) (by omega) hp;exact⟨fr',(loop_more h1).trans h2,H⟩
end
def vL(m:Modl):List Bool:=mkD (grM m) (m.fs.length+1) (mainI m).toNat (zqa m.fs.length zf)
def kpM(m:Modl):List Cod×List Int:=keepL (vL m) 0 m.fs [] (zqa m.fs.length 0)
def pruD(m:Modl):Modl:=⟨m.gs,(kpM m).1.map (relC (kpM m).2)⟩
theorem keepL_mem{nd:List Bool}{c:Cod}:∀(l:List Cod)(i:Nat)(o:List Cod)(p:List Int),c∈(keepL nd i l o p).1->c∈o\/c∈l
 |[],i,o,p,h=>.inl h
 |x :: l,i,o,p,h=>by
  rw[keepL]at h;split at h
  . rcases keepL_mem l _ _ _ h with h|h
    . grind
    grind
  . rcases keepL_mem l _ _ _ h with h|h
    . exact .inl h
    grind
theorem Gi{nd:List Bool}:∀(l:List Cod)(i:Nat)(o:List Cod)(p:List Int),(keepL nd i l o p).1.length<=o.length+l.length/\(keepL nd i l o p).2.length=p.length
 |[],i,o,p=>⟨by simp[keepL],rfl⟩
 |x :: l,i,o,p=>by
  rw[keepL];split
  . have h:=Gi (nd:=nd) l (i+1) (o++[x]) (p.set i o.length)
    grind
  . have h:=Gi (nd:=nd) l (i+1) o p
    grind
theorem Kt{nd:List Bool}:∀(l:List Cod)(i:Nat)(o:List Cod)(p:List Int),(o≠[]\/∃j,i<=j/\j<i+l.length/\nd.getD j zf=zt)->(keepL nd i l o p).1≠[]
 |[],i,o,p,h=>by
  rcases h with h|⟨j,h1,h2,_⟩
  . exact h
  . simp at h2;omega
 |x :: l,i,o,p,h=>by
  rw[keepL];split
  . exact Kt l _ _ _ (.inl (by simp))
  . rename_i h0
    rcases h with h|⟨j,h1,h2,C⟩
    . exact Kt l _ _ _ (.inl h)
    . exact Kt l _ _ _ (.inr ⟨j,by
       have:j≠i:=fun e=>h0 (e▸C)
       omega,by simp at h2;omega,C⟩)
theorem nR{m:Modl}(h:DpOk m):(vL m).length=m.fs.length:=(Nr h.gr.tg _ _ _ (by have:=h.mn;omega) (by simp)).len
theorem GS{g:List (List Int)}{n:Nat}(hg:∀v,∀t∈g.getD v [],0<=t/\t<n){f v:Nat}{a:List Bool}(hv:v<n)(ha:a.length=n):(mkD g (f+1) v a).getD v zf=zt:=by
 rw[mkD];split
 . rename_i h;exact h
 . refine(Uy (f:=f) (Nr hg f) _ _ (hg v) (by simp[ha])).le v ?_
   rw[zqc,zkt (by omega)];rfl
theorem vM{m:Modl}(h:DpOk m):(vL m).getD (mainI m).toNat zf=zt:=GS h.gr.tg (by have:=h.mn;omega) (by simp)
theorem GT{m:Modl}(h:DpOk m):(kpM m).1≠[]:=Kt _ _ _ _ (.inr ⟨(mainI m).toNat,zjg _,by have:=h.mn;omega,vM h⟩)
theorem nS{m:Modl}(h:DpOk m){c:Cod}(hc:c∈m.fs):∀b∈c.blocks,Bo m.fs.length b.code:=fun b hb x C D=>h.tg c hc x.n (zku.2 ⟨b,hb,zkf.2 ⟨x,zkv.2 ⟨C,by simp[D]⟩,rfl⟩⟩)
theorem cT{n:Nat}{K:PK}(h:n*1<=140737488355328):Lo env uU (.int .i64 (n:Int)) (.int .i64 (n:Int)) K=.val (.msl K.os.length 0 n 1) ⟨K.os++[.row 0 (bools (zqa n zf)) 1],K.ext,K.tch⟩:=by
 unfold Lo;rw[show elemOfT env (uU).desc=zsq JB from rfl,as_nat];dsimp only;rw[if_pos ⟨zjc _,h,by decide⟩];unfold bools;rw[zkm];rfl
theorem Ku(J:T 19=zsq n7)(C:T 24=zn)(D:T 25=zsq Dg)(H:T 26=zsq K6)(I:T 27=zn){m:Modl}(Q:DpOk m/\m.gs.length*40<=bigN):AM.Comes ⟨env,T,A0⟩ 9 [m.F] [(pruD m).O]:=by
 obtain⟨Q,hg⟩:=Q;have t:=fun K=>Zu (K:=K) J ⟨⟨Q.n0,Q.sz⟩,Q.ok⟩
 have tg:=fun K=>zF (K:=K) D hg
 have hsz:=Q.sz;have hz:=fun K=>cO (n:=m.fs.length) (K:=K) (by omega)
 have ae:=fun K=>cT (n:=m.fs.length) (K:=K) (by omega)
 obtain⟨a1,a2⟩:=Q.mn;obtain⟨mi,ad⟩:=zjj a1;have af:mi<m.fs.length:=by omega
 have ag:idxOf (fun c:Cod=>decide (c.name=B3)) m.fs=(mi:Int):=ad;have ah:((grM m).map rowG).length=m.fs.length:=by unfold grM;simp
 have ai:=nR Q;have aj:=GT Q;obtain⟨ys,t2,hl⟩:=vK (T:=T) (A:=.row 1 [.agg [fslN (m.gs.map Glo.F),fslN (m.fs.map Cod.F)]] 2) (B:=.row 1 [.agg [.nilsl,.nilsl]] 2) C Q.gr (m.fs.length+1) mi (zqa m.fs.length zf) af (by simp) (by simp) [] 0 [];have e1:mkD (grM m) (m.fs.length+1) mi (zqa m.fs.length zf)=vL m:=by unfold vL;rw[ad];rfl
 rw[e1]at hl;obtain⟨fr1,V,l2,l3,l4⟩:=k_l (T:=T) (gs:=m.gs.map Glo.F) (ng:=m.gs.length) (nd:=vL m) H hsz ai rfl (fun c hc=>(Q.ok c hc).ok) m.fs.length 0 [] (zqa m.fs.length 0) (by omega) (zjc _) (by simp);rw[zqz]at V;have aa:keepL (vL m) 0 m.fs [] (zqa m.fs.length 0)=kpM m:=rfl;rw[aa]at V;have Y:=Gi (nd:=vL m) m.fs 0 [] (zqa m.fs.length 0);rw[aa]at Y;have ab:∀c∈(kpM m).1,c∈m.fs:=fun c hc=>(keepL_mem _ _ _ _ hc).resolve_left (by simp)
 obtain⟨fr2,q1,q2,q3⟩:=A1n (T:=T) (gs:=m.gs.map Glo.F) (ng:=m.gs.length) (n:=m.fs.length) (outs:=(kpM m).1) (pl:=(kpM m).2) I (by simp at Y;omega) (by simpa using Y.2) (fun c hc=>nS Q (ab c hc)) (fun c hc=>Q.ok c (ab c hc));have e2:(pruD m).O=.agg [ownd 0 4 (m.gs.map Glo.F),ownd 0 5 (((kpM m).1.map (relC (kpM m).2)).map Cod.O)]:=rfl;rw[e2];have ac:(((kpM m).1.map (relC (kpM m).2)).map Cod.O).length=(kpM m).1.length:=by simp
 generalize ((kpM m).1.map (relC (kpM m).2)).map Cod.O=R2 at *;generalize (kpM m).2=pl at *;obtain⟨y,l,ak⟩:∃y l,(kpM m).1=y::l:=by
  cases h:(kpM m).1 with
  |nil=>exact absurd h aj
  |cons y l=>exact⟨y,l,rfl⟩
 rw[ak]at V q1 ac;simp only[zG]at V;have U:(m.gs.map Glo.F).length=m.gs.length:=by simp
 refine⟨[.agg [.msl 1 0 m.gs.length 4,.msl 2 0 (y::l).length 5]],⟨[.row 1 [.agg [.msl 1 0 m.gs.length 4,.msl 2 0 (y::l).length 5]] 2,.row 0 (m.gs.map Glo.F) 4,.row 0 R2 5],0,[]⟩,?_,?_⟩
 . rw[A3 (c:=p9) (nt:=80) (rs:=[.cell 2 25]) rfl (by simp)];unfold p9
   unfold cS at V;simp only[show((0:Nat):Int)=0 from rfl]at V;generalize hol1:(y::l).map Cod.O=R1 at V q1;generalize (y::l).length=j at *;unfold Modl.F at t;simp only[nN,ag]at t;unfold K0 Modl.F;unfold CC CB CA BZ BY BX BW KC JY;generalize (grM m).map rowG=G at *;simp only[t,tg,hl,hz,ae,ah,U,Fl,V,l2,l3,l4,q1,q2,q3,zqb,D2,F7,F8,F9,G0,Z7,Z8,M0,Fh,Fi,Fj,Fk,XP,seval]
   done
 . refine A9 (vs':=[.agg [.msl 1 0 m.gs.length 4,.msl 2 0 (y::l).length 5]]) (os':=[.row 1 [.agg [.msl 1 0 m.gs.length 4,.msl 2 0 (y::l).length 5]] 2,.row 0 (m.gs.map Glo.F) 4,.row 0 R2 5]) ?_ ?_ (us:=[.agg [.msl 0 0 m.gs.length 4,.msl 1 0 (y::l).length 5]]) (ps:=[.row 0 (m.gs.map Glo.F) 4,.row 0 R2 5]) ?_ ?_ ?_
   all_goals simp only[U,ac,XP,seval]
def Q8:=X6 (fun p:(Modl)=>[p.F]) (fun p=>[(pruD p).O]) (fun p=>DpOk p/\p.gs.length*40<=bigN)
theorem Fm(C:T 9=zsq Q8){m:Modl}{K:PK}{args:List AV}(D:viewAs K.os args=zsq [m.F])(G:DpOk m/\m.gs.length*40<=bigN):evP ⟨env,T,A0⟩ (.call 9 args K)=zsq (.val (openTs K.os.length [(pruD m).O]).1 ⟨K.os++(openTs K.os.length [(pruD m).O]).2,K.ext,K.tch⟩):=B4 C D (B6 (a:=fun p:(Modl)=>[p.F]) (r:=fun p=>[(pruD p).O]) (fun x y e=>by simp only[VJ]at e;simp only[e]) (m) G) (by generalize (refsL args).isEmpty=z;simp only[VN,XP,seval])
theorem Vb(I:T 19=zsq n7)(C:T 24=zn)(D:T 25=zsq Dg)(G:T 26=zsq K6)(H:T 27=zn)(J:PEok ⟨env,T,A0⟩):TC env 9 Q8:=B7 J fun p h=>Ku I C D G H h
section
variable {c d:Cod}{K:PK}
def N0:=X6 (fun x:Cod=>[x.F]) (fun x=>[x.O]) Cod.ok
def f8:=X6 (fun p:Cod×Cod=>[p.1.F,p.2.F]) (fun p=>[.bool (decide (p.1=p.2))]) (fun p=>p.1.ok)
theorem Gj(C:T 29=zsq N0){x:Cod}(h:x.ok){K:PK}:evP ⟨env,T,A0⟩ (.call 29 [x.F] K)=zsq (.val (openTs K.os.length [x.O]).1 ⟨K.os++(openTs K.os.length [x.O]).2,K.ext,K.tch⟩):=B4 C (by simp only[Cod.viewF,XP,seval]) (B6 (a:=fun x:Cod=>[x.F]) (r:=fun x=>[x.O]) (fun x y e=>by simp only[List.cons.injEq,Cod.F_iff,and_true]at e;simp only[e]) x h) (by
 simp only[Cod.okO,Cod.noF,XP,seval])
theorem cU(h:c.ok):f8 [c.F,d.F]=zsq [.bool (decide (c=d))]:=B6 (a:=fun p:Cod×Cod=>[p.1.F,p.2.F]) (r:=fun p=>[.bool (decide (p.1=p.2))]) (fun x y e=>by simp only[List.cons.injEq,Cod.F_iff,and_true]at e;simp only[e]) (c,d) h
theorem gU(C:T 47=zsq f8)(h:c.ok){args:List AV}(D:viewAs K.os args=zsq [c.F,d.F]):evP ⟨env,T,A0⟩ (.call 47 args K)=zsq (.val [.bool (decide (c=d))] ⟨K.os++[],K.ext,K.tch⟩):=B4 C D (cU h) (by show(zt&&(_||true))=zt;simp)
end
section
variable {l:List Glo}{i:Nat}
theorem OC(hl:i<l.length)(D:l.length*40<=bigN):
 evP ⟨env,T,A0⟩ (.code Pj [(0,fslN (l.map Glo.F)),(3,.msl 0 0 i 4),(4,.int .i64 i)] ⟨[.row 0 ((l.take i).map Glo.F) 4],0,[]⟩)=zsq (.ok .normal [(0,fslN (l.map Glo.F)),(3,.msl 0 0 (i+1) 4),(4,.int .i64 ((i+1:Nat):Int))] ⟨[.row 0 ((l.take (i+1)).map Glo.F) 4],0,[]⟩):=by
 unfold Pj;have C:decide ((i:Int)<((l.map Glo.F).length:Int))=zt:=by simp[hl]
 have hi:=A5 (F:=Glo.F) hl;have H:((l.take i).map Glo.F).length=i:=by simp;omega
 have I:=A1 (i:=i) (by simp only[bigN]at D;omega);have hz:(i+1)*40<=140737488355328:=by simp only[bigN]at D;omega
 have G:=r9 (F:=Glo.F) hl;simp only[Glo.F]at hi G;simp only[C,hi,H,I,hz,Glo.F,G,XP,seval]
theorem OD(hl:0<l.length):
 evP ⟨env,T,A0⟩ (.code Pj [(0,fslN (l.map Glo.F)),(3,.nilsl),(4,.int .i64 0)] ⟨[],0,[]⟩)=zsq (.ok .normal [(0,fslN (l.map Glo.F)),(3,.msl 0 0 1 4),(4,.int .i64 ((1:Nat):Int))] ⟨[.row 0 ((l.take 1).map Glo.F) 4],0,[]⟩):=by
 unfold Pj;have D:decide ((0:Int)<((l.map Glo.F).length:Int))=zt:=by simp[hl]
 have hi:Xc Cb (fslN (l.map Glo.F)) (.int .i64 0)=zsq (.fptr (Glo.F l[0]) 0):=ix_fslN (te:=Cb) (k:=.i64) (i:=0) (A5 (F:=Glo.F) hl) rfl;have C:=r9 (F:=Glo.F) hl;rw[List.take_zero]at C;have C:[Glo.F l[0]]=(l.take 1).map Glo.F:=C;simp only[Glo.F]at hi;rw[<-C];simp only[D,hi,Glo.F,show IntKind.i64.wrap (0+1)=((1:Nat):Int)from rfl,XP,Nat.reduceAdd,Nat.reduceSub,Nat.reduceLT,Nat.reduceLeDiff,Nat.reduceEqDiff,Nat.reduceMul,↓reduceIte]
theorem OE{y:AV}{K:PK}:∃fr',evP ⟨env,T,A0⟩ (.code Pj [(0,fslN (l.map Glo.F)),(3,y),(4,.int .i64 l.length)] K)=zsq (.ok (.exit 0) fr' K)/\lookP fr' 3=y:=by
 unfold Pj;have C:decide ((l.length:Int)<((l.map Glo.F).length:Int))=zf:=by simp
 simp only[C,XP,seval];exact⟨_,rfl,rfl⟩
theorem Kv  {l:List Glo} (D:l.length*40<=bigN):AM.Comes ⟨env,T,A0⟩ 17 [fslN (l.map Glo.F)] [ownd 0 4 (l.map Glo.F)]:=by
 obtain⟨fr',y,os,h1,h2,C⟩:=Gx (P:=⟨env,T,A0⟩) (c:=Pj) (A:=fslN (l.map Glo.F)) (O:=Glo.F) (sz:=4) (l:=l) (fun h=>OD h) (fun i h=>OC h D) (fun y K=>OE);refine⟨[y],⟨os,0,[]⟩,?_,C6 C⟩;rw[A3 (c:=SA) (nt:=19) (rs:=[.tmp 2]) rfl (by simp)];unfold SA;unfold K0;rcases C with⟨_,rfl,rfl⟩|⟨rfl,rfl⟩
 . simp only[h1,h2,XP,seval]
 . simp only[h1,h2,XP,seval]
def Q9:=X6 (fun p:(List Glo)=>[fslN (p.map Glo.F)]) (fun p=>[ownd 0 4 (p.map Glo.F)]) (fun p=>p.length*40<=bigN)
theorem Kw(C:T 17=zsq Q9){l:List Glo}{K:PK}(D:l.length*40<=bigN):evP ⟨env,T,A0⟩ (.call 17 [fslN (l.map Glo.F)] K)=zsq (.val (openTs K.os.length [ownd 0 4 (l.map Glo.F)]).1 ⟨K.os++(openTs K.os.length [ownd 0 4 (l.map Glo.F)]).2,K.ext,K.tch⟩):=B4 C (by simp only[VV,XP,seval]) (B6 (a:=fun p:(List Glo)=>[fslN (p.map Glo.F)]) (r:=fun p=>[ownd 0 4 (p.map Glo.F)]) (fun x y e=>by simp only[VJ]at e;simp only[e]) (l) D) (by simp only[VN,XP,seval])
theorem Vd  (C:PEok ⟨env,T,A0⟩):TC env 17 Q9:=B7 C fun p h=>Kv  h
end
section
variable {l:List Cod}{i:Nat}
theorem OF(I:T 29=zsq N0)(hl:i<l.length)(J:l[i].ok)(D:l.length*80<=bigN):
 evP ⟨env,T,A0⟩ (.code Pk [(0,fslN (l.map Cod.F)),(3,.msl 0 0 i 5),(4,.int .i64 i)] ⟨[.row 0 ((l.take i).map Cod.O) 5],0,[]⟩)=zsq (.ok .normal [(0,fslN (l.map Cod.F)),(3,.msl 0 0 (i+1) 5),(4,.int .i64 ((i+1:Nat):Int))] ⟨[.row 0 ((l.take (i+1)).map Cod.O) 5],0,[]⟩):=by
 unfold Pk;have C:decide ((i:Int)<((l.map Cod.F).length:Int))=zt:=by simp[hl]
 have hi:=A5 (F:=Cod.F) hl;have Q:((l.take i).map Cod.O).length=i:=by simp;omega
 have U:=A1 (i:=i) (by simp only[bigN]at D;omega);have hz:(i+1)*80<=140737488355328:=by simp only[bigN]at D;omega
 have G:=fun K=>Gj (K:=K) I J
 have H:=r9 (F:=Cod.O) hl;simp only[Cod.F]at hi G;simp only[Cod.O]at H;simp only[C,hi,Q,U,hz,Cod.O,G,H,XP,seval]
theorem OG(H:T 29=zsq N0)(hl:0<l.length)(I:l[0].ok):
 evP ⟨env,T,A0⟩ (.code Pk [(0,fslN (l.map Cod.F)),(3,.nilsl),(4,.int .i64 0)] ⟨[],0,[]⟩)=zsq (.ok .normal [(0,fslN (l.map Cod.F)),(3,.msl 0 0 1 5),(4,.int .i64 ((1:Nat):Int))] ⟨[.row 0 ((l.take 1).map Cod.O) 5],0,[]⟩):=by
 unfold Pk;have D:decide ((0:Int)<((l.map Cod.F).length:Int))=zt:=by simp[hl]
 have hi:Xc l6 (fslN (l.map Cod.F)) (.int .i64 0)=zsq (.fptr (Cod.F l[0]) 0):=ix_fslN (te:=l6) (k:=.i64) (i:=0) (A5 (F:=Cod.F) hl) rfl;have G:=fun K=>Gj (K:=K) H I
 have C:=r9 (F:=Cod.O) hl;rw[List.take_zero]at C;have C:[Cod.O l[0]]=(l.take 1).map Cod.O:=C;simp only[Cod.F]at hi G;rw[<-C];simp only[D,hi,Cod.O,G,show IntKind.i64.wrap (0+1)=((1:Nat):Int)from rfl,XP,Nat.reduceAdd,Nat.reduceSub,Nat.reduceLT,Nat.reduceLeDiff,Nat.reduceEqDiff,Nat.reduceMul,↓reduceIte]
theorem OH{y:AV}{K:PK}:∃fr',evP ⟨env,T,A0⟩ (.code Pk [(0,fslN (l.map Cod.F)),(3,y),(4,.int .i64 l.length)] K)=zsq (.ok (.exit 0) fr' K)/\lookP fr' 3=y:=by
 unfold Pk;have C:decide ((l.length:Int)<((l.map Cod.F).length:Int))=zf:=by simp
 simp only[C,XP,seval];exact⟨_,rfl,rfl⟩
end
theorem Qy(C:T 29=zsq N0){l:List Cod}(D:(∀x∈l,x.ok)/\l.length*80<=bigN):AM.Comes ⟨env,T,A0⟩ 18 [fslN (l.map Cod.F)] [ownd 0 5 (l.map Cod.O)]:=by
 obtain⟨fr',y,os,h1,h2,G⟩:=Gx (P:=⟨env,T,A0⟩) (c:=Pk) (A:=fslN (l.map Cod.F)) (O:=Cod.O) (sz:=5) (l:=l) (fun h=>OG C h (D.1 _ (zqd h))) (fun i h=>OF C h (D.1 _ (zqd h)) D.2) (fun y K=>OH);refine⟨[y],⟨os,0,[]⟩,?_,C6 G⟩;rw[A3 (c:=SB) (nt:=20) (rs:=[.tmp 2]) rfl (by simp)];unfold SB;unfold K0;rcases G with⟨_,rfl,rfl⟩|⟨rfl,rfl⟩
 . simp only[h1,h2,XP,seval]
 . simp only[h1,h2,XP,seval]
def Ai:=X6 (fun p:(List Cod)=>[fslN (p.map Cod.F)]) (fun p=>[ownd 0 5 (p.map Cod.O)]) (fun p=>(∀x∈p,x.ok)/\p.length*80<=bigN)
theorem lM(C:T 18=zsq Ai){l:List Cod}{K:PK}(D:(∀x∈l,x.ok)/\l.length*80<=bigN):evP ⟨env,T,A0⟩ (.call 18 [fslN (l.map Cod.F)] K)=zsq (.val (openTs K.os.length [ownd 0 5 (l.map Cod.O)]).1 ⟨K.os++(openTs K.os.length [ownd 0 5 (l.map Cod.O)]).2,K.ext,K.tch⟩):=B4 C (by simp only[VV,XP,seval]) (B6 (a:=fun p:(List Cod)=>[fslN (p.map Cod.F)]) (r:=fun p=>[ownd 0 5 (p.map Cod.O)]) (fun x y e=>by simp only[VJ]at e;simp only[e]) (l) D) (by simp only[VN,XP,seval])
theorem cV(C:T 29=zsq N0)(D:PEok ⟨env,T,A0⟩):TC env 18 Ai:=B7 D fun p h=>Qy C h
theorem Modl.copied{m:Modl}(h:m.ok):m.gs.length*40<=bigN/\(∀x∈m.fs,x.ok):=⟨h.2.2,fun c hc=>(h.1 c hc).1⟩
theorem Ns(C:T 17=zsq Q9)(D:T 18=zsq Ai){m:Modl}(G:m.ok/\m.fs.length*80<=bigN):AM.Comes ⟨env,T,A0⟩ 6 [m.F] [m.O]:=by
 have H:=fun K=>Kw (K:=K) C (Modl.copied G.1).1
 have I:=fun K=>lM (K:=K) D ⟨(Modl.copied G.1).2,G.2⟩
 refine⟨[.agg [.msl 1 0 m.gs.length 4,.msl 2 0 m.fs.length 5]],⟨[.row 1 [.agg [.msl 1 0 m.gs.length 4,.msl 2 0 m.fs.length 5]] 2,.row 0 (m.gs.map Glo.F) 4,.row 0 (m.fs.map Cod.O) 5],0,[]⟩,?_,?_⟩
 . rw[A3 (c:=p6) (nt:=10) (rs:=[.cell 2 25]) rfl (by simp)];unfold p6
   unfold K0 Modl.F;simp only[H,I,zqb,GG,List.contains_cons,List.contains_nil,Nat.reduceBEq,XP,seval]
 . refine A9 (vs':=[.agg [.msl 1 0 m.gs.length 4,.msl 2 0 m.fs.length 5]]) (os':=[.row 1 [.agg [.msl 1 0 m.gs.length 4,.msl 2 0 m.fs.length 5]] 2,.row 0 (m.gs.map Glo.F) 4,.row 0 (m.fs.map Cod.O) 5]) ?_ ?_ (us:=[.agg [.msl 0 0 (m.gs.map Glo.F).length 4,.msl 1 0 (m.fs.map Cod.O).length 5]]) (ps:=[.row 0 (m.gs.map Glo.F) 4,.row 0 (m.fs.map Cod.O) 5]) ?_ ?_ ?_
   all_goals simp only[Modl.O,zqb,XP,seval]
def Bi:=X6 (fun p:(Modl)=>[p.F]) (fun p=>[p.O]) (fun p=>p.ok/\p.fs.length*80<=bigN)
theorem gV(C:T 6=zsq Bi){m:Modl}{K:PK}(D:m.ok/\m.fs.length*80<=bigN):evP ⟨env,T,A0⟩ (.call 6 [m.F] K)=zsq (.val (openTs K.os.length [m.O]).1 ⟨K.os++(openTs K.os.length [m.O]).2,K.ext,K.tch⟩):=B4 C (by simp only[VV,XP,seval]) (B6 (a:=fun p:(Modl)=>[p.F]) (r:=fun p=>[p.O]) (fun x y e=>by simp only[VJ]at e;simp only[e]) (m) D) (by simp only[VN,XP,seval])
theorem Xx(C:T 17=zsq Q9)(D:T 18=zsq Ai)(G:PEok ⟨env,T,A0⟩):TC env 6 Bi:=B7 G fun p h=>Ns C D h
section
variable {l m:List Glo}{i:Nat}
theorem nT{e e':Glo}{K:PK}:V4 env .eql 59 e.F e'.F K=.val (.bool (decide (e=e'))) K:=by
 have h:∀a b:Int,jG (.int .i64 a) (.int .i64 b)=zsq (decide (a=b)):=fun a b=>by
  show zsq (intEq a b)=_
  rw[Bx];by_cases e:a=b<;>simp[e]
 have Q:∀a b:List UInt8,jG (.str a) (.str b)=zsq (decide (a=b)):=fun a b=>by
  show zsq (Jh a b)=_
  rw[By];by_cases e:a=b<;>simp[e]
 unfold Glo.F;rw[bp _ _ rfl rfl];show Gq (A6 (N9 (jG (.str e.name) (.str e'.name)) zn (N9 (jG (.int .i64 e.ty) (.int .i64 e'.ty)) zn (N9 (jG (.int .i64 e.size) (.int .i64 e'.size)) zn (N9 (jG (.int .i64 e.at_) (.int .i64 e'.at_)) zn (zsq zt) (zsq zf)) (zsq zf)) (zsq zf)) (zsq zf)) E9) K=_
 simp only[h,Q];obtain⟨a,b,c,d⟩:=e;obtain⟨C,D,G,H⟩:=e';simp only[Glo.mk.injEq];by_cases h1:a=C
 . by_cases h2:b=D
   . by_cases I:c=G
     . by_cases J:d=H
       . rw[B8 h1,B8 h2,B8 I,B8 J,B8 (p:=a=C/\b=D/\c=G/\d=H) ⟨h1,h2,I,J⟩];rfl
       . rw[B8 h1,B8 h2,B8 I,D4 J,D4 (p:=a=C/\b=D/\c=G/\d=H) (fun h=>J h.2.2.2)];rfl
     . rw[B8 h1,B8 h2,D4 I,D4 (p:=a=C/\b=D/\c=G/\d=H) (fun h=>I h.2.2.1)];rfl
   . rw[B8 h1,D4 h2,D4 (p:=a=C/\b=D/\c=G/\d=H) (fun h=>h2 h.2.1)];rfl
 . rw[D4 h1,D4 (p:=a=C/\b=D/\c=G/\d=H) (fun h=>h1 h.1)];rfl
end
section
variable {l m:List Glo}{i:Nat}
theorem A1t(hl:i<l.length)(G:i<m.length)(H:l.length*40<=bigN)(I:l[i]=m[i]):
 evP ⟨env,T,A0⟩ (.code Po [(0,fslN (l.map Glo.F)),(1,fslN (m.map Glo.F)),(5,.int .i64 i)] ⟨[],0,[]⟩)=zsq (.ok .normal [(0,fslN (l.map Glo.F)),(1,fslN (m.map Glo.F)),(5,.int .i64 ((i+1:Nat):Int))] ⟨[],0,[]⟩):=by
 unfold Po;have C:decide ((i:Int)<((l.map Glo.F).length:Int))=zt:=by simp[hl]
 have h1:=A5 (F:=Glo.F) hl;have h2:=A5 (F:=Glo.F) G;have J:=A1 (i:=i) (by simp only[bigN]at H;omega);have D:=fun K=>nT (e:=l[i]) (e':=m[i]) (K:=K)
 rw[B8 I]at D;simp only[Glo.F]at h1 h2 D;simp only[C,h1,h2,J,D,u_not,XP,seval]
theorem A1u(hl:i<l.length)(G:i<m.length)(H:¬l[i]=m[i]):
 ∃fr',evP ⟨env,T,A0⟩ (.code Po [(0,fslN (l.map Glo.F)),(1,fslN (m.map Glo.F)),(5,.int .i64 i)] ⟨[],0,[]⟩)=zsq (.ok .ret fr' ⟨[],0,[]⟩)/\lookP fr' 4=.bool zf:=by
 unfold Po;have C:decide ((i:Int)<((l.map Glo.F).length:Int))=zt:=by simp[hl]
 have h1:=A5 (F:=Glo.F) hl;have h2:=A5 (F:=Glo.F) G;have D:=fun K=>nT (e:=l[i]) (e':=m[i]) (K:=K)
 rw[D4 H]at D;simp only[Glo.F]at h1 h2 D;simp only[C,h1,h2,D,u_not,XP,seval];exact⟨_,rfl,rfl⟩
theorem A1v:∃fr',evP ⟨env,T,A0⟩ (.code Po [(0,fslN (l.map Glo.F)),(1,fslN (m.map Glo.F)),(5,.int .i64 l.length)] ⟨[],0,[]⟩)=zsq (.ok (.exit 0) fr' ⟨[],0,[]⟩):=by
 unfold Po;have C:decide ((l.length:Int)<((l.map Glo.F).length:Int))=zf:=by simp
 simp only[C,XP,seval];exact⟨_,rfl⟩
end
theorem Kx  {l:List Glo} {m:List Glo} (D:l.length*40<=bigN):AM.Comes ⟨env,T,A0⟩ 30 [fslN (l.map Glo.F),fslN (m.map Glo.F)] [.bool (decide (l=m))]:=by
 refine⟨[.bool (decide (l=m))],⟨[],0,[]⟩,?_,A9 rfl zqk rfl rfl rfl⟩;rw[A3 (c:=SJ) (nt:=27) (rs:=[.tmp 4]) rfl (by simp)];unfold SJ;unfold K0;by_cases C:l.length=m.length
 . have hn:(!decide (((l.map Glo.F).length:Int)=((m.map Glo.F).length:Int)))=zf:=by simp[C]
   rcases same_loop (P:=⟨env,T,A0⟩) (c:=Po) (A:=fslN (l.map Glo.F)) (B:=fslN (m.map Glo.F)) C (fun i h h' e=>A1t h h' D e) (fun i h h' e=>A1u h h' e) A1v with⟨h1,fr',h2⟩|⟨h1,fr',h2,G⟩
   . simp only[hn,B8 h1,h2,XP,seval]
   . simp only[hn,D4 h1,h2,G,XP,seval]
 . have hn:(!decide (((l.map Glo.F).length:Int)=((m.map Glo.F).length:Int)))=zt:=by simp;omega
   have h1:¬l=m:=fun h=>C (by rw[h])
   simp only[hn,D4 h1,XP,seval]
def j6:=X6 (fun p:(List Glo)×(List Glo)=>[fslN (p.1.map Glo.F),fslN (p.2.map Glo.F)]) (fun p=>[.bool (decide (p.1=p.2))]) (fun p=>p.1.length*40<=bigN)
theorem cW(C:T 30=zsq j6){l:List Glo}{m:List Glo}{K:PK}(D:l.length*40<=bigN):evP ⟨env,T,A0⟩ (.call 30 [fslN (l.map Glo.F),fslN (m.map Glo.F)] K)=zsq (.val (openTs K.os.length [.bool (decide (l=m))]).1 ⟨K.os++(openTs K.os.length [.bool (decide (l=m))]).2,K.ext,K.tch⟩):=B4 C (by simp only[VV,XP,seval]) (B6 (a:=fun p:(List Glo)×(List Glo)=>[fslN (p.1.map Glo.F),fslN (p.2.map Glo.F)]) (r:=fun p=>[.bool (decide (p.1=p.2))]) (fun x y e=>by simp only[VJ]at e;simp only[e]) (l,m) D) (by simp only[VN,XP,seval])
theorem Ve  (C:PEok ⟨env,T,A0⟩):TC env 30 j6:=B7 C fun p h=>Kx  h
section
variable {c d:Cod}{K:PK}
theorem Zx(C:T 47=zsq f8)(h:c.ok):evP ⟨env,T,A0⟩ (.call 47 [c.F,d.F] K)=zsq (.val [.bool (decide (c=d))] ⟨K.os++[],K.ext,K.tch⟩):=gU C h (by simp only[Cod.viewF,XP,seval])
end
section
variable {l m:List Cod}{i:Nat}
theorem A1w(G:T 47=zsq f8)(hl:i<l.length)(H:i<m.length)(I:l[i].ok)(J:l.length*80<=bigN)(Q:l[i]=m[i]):
 evP ⟨env,T,A0⟩ (.code Pp [(0,fslN (l.map Cod.F)),(1,fslN (m.map Cod.F)),(5,.int .i64 i)] ⟨[],0,[]⟩)=zsq (.ok .normal [(0,fslN (l.map Cod.F)),(1,fslN (m.map Cod.F)),(5,.int .i64 ((i+1:Nat):Int))] ⟨[],0,[]⟩):=by
 unfold Pp;have C:decide ((i:Int)<((l.map Cod.F).length:Int))=zt:=by simp[hl]
 have h1:=A5 (F:=Cod.F) hl;have h2:=A5 (F:=Cod.F) H;have U:=A1 (i:=i) (by simp only[bigN]at J;omega);have D:=fun K=>Zx (K:=K) (d:=m[i]) G I
 rw[B8 Q]at D;simp only[Cod.F]at h1 h2 D;simp only[C,h1,h2,U,D,u_not,XP,seval]
theorem A1x(G:T 47=zsq f8)(hl:i<l.length)(H:i<m.length)(I:l[i].ok)(J:¬l[i]=m[i]):
 ∃fr',evP ⟨env,T,A0⟩ (.code Pp [(0,fslN (l.map Cod.F)),(1,fslN (m.map Cod.F)),(5,.int .i64 i)] ⟨[],0,[]⟩)=zsq (.ok .ret fr' ⟨[],0,[]⟩)/\lookP fr' 4=.bool zf:=by
 unfold Pp;have C:decide ((i:Int)<((l.map Cod.F).length:Int))=zt:=by simp[hl]
 have h1:=A5 (F:=Cod.F) hl;have h2:=A5 (F:=Cod.F) H;have D:=fun K=>Zx (K:=K) (d:=m[i]) G I
 rw[D4 J]at D;simp only[Cod.F]at h1 h2 D;simp only[C,h1,h2,D,u_not,XP,seval];exact⟨_,rfl,rfl⟩
theorem A1y:∃fr',evP ⟨env,T,A0⟩ (.code Pp [(0,fslN (l.map Cod.F)),(1,fslN (m.map Cod.F)),(5,.int .i64 l.length)] ⟨[],0,[]⟩)=zsq (.ok (.exit 0) fr' ⟨[],0,[]⟩):=by
 unfold Pp;have C:decide ((l.length:Int)<((l.map Cod.F).length:Int))=zf:=by simp
 simp only[C,XP,seval];exact⟨_,rfl⟩
end
theorem Qz(C:T 47=zsq f8){l:List Cod}{m:List Cod}(D:(∀x∈l,x.ok)/\l.length*80<=bigN):AM.Comes ⟨env,T,A0⟩ 31 [fslN (l.map Cod.F),fslN (m.map Cod.F)] [.bool (decide (l=m))]:=by
 refine⟨[.bool (decide (l=m))],⟨[],0,[]⟩,?_,A9 rfl zqk rfl rfl rfl⟩;rw[A3 (c:=SK) (nt:=27) (rs:=[.tmp 4]) rfl (by simp)];unfold SK;unfold K0;by_cases G:l.length=m.length
 . have hn:(!decide (((l.map Cod.F).length:Int)=((m.map Cod.F).length:Int)))=zf:=by simp[G]
   rcases same_loop (P:=⟨env,T,A0⟩) (c:=Pp) (A:=fslN (l.map Cod.F)) (B:=fslN (m.map Cod.F)) G (fun i h h' e=>A1w C h h' (D.1 _ (zqd h)) D.2 e) (fun i h h' e=>A1x C h h' (D.1 _ (zqd h)) e) A1y with⟨h1,fr',h2⟩|⟨h1,fr',h2,H⟩
   . simp only[hn,B8 h1,h2,XP,seval]
   . simp only[hn,D4 h1,h2,H,XP,seval]
 . have hn:(!decide (((l.map Cod.F).length:Int)=((m.map Cod.F).length:Int)))=zt:=by simp;omega
   have h1:¬l=m:=fun h=>G (by rw[h])
   simp only[hn,D4 h1,XP,seval]
def Aj:=X6 (fun p:(List Cod)×(List Cod)=>[fslN (p.1.map Cod.F),fslN (p.2.map Cod.F)]) (fun p=>[.bool (decide (p.1=p.2))]) (fun p=>(∀x∈p.1,x.ok)/\p.1.length*80<=bigN)
theorem lN(C:T 31=zsq Aj){l:List Cod}{m:List Cod}{K:PK}(D:(∀x∈l,x.ok)/\l.length*80<=bigN):evP ⟨env,T,A0⟩ (.call 31 [fslN (l.map Cod.F),fslN (m.map Cod.F)] K)=zsq (.val (openTs K.os.length [.bool (decide (l=m))]).1 ⟨K.os++(openTs K.os.length [.bool (decide (l=m))]).2,K.ext,K.tch⟩):=B4 C (by simp only[VV,XP,seval]) (B6 (a:=fun p:(List Cod)×(List Cod)=>[fslN (p.1.map Cod.F),fslN (p.2.map Cod.F)]) (r:=fun p=>[.bool (decide (p.1=p.2))]) (fun x y e=>by simp only[VJ]at e;simp only[e]) (l,m) D) (by simp only[VN,XP,seval])
theorem cX(C:T 47=zsq f8)(D:PEok ⟨env,T,A0⟩):TC env 31 Aj:=B7 D fun p h=>Qz C h
theorem Modl.eq_iff{a b:Modl}:a=b↔a.gs=b.gs/\a.fs=b.fs:=by cases a;cases b;simp
theorem Nt(C:T 30=zsq j6)(D:T 31=zsq Aj){a:Modl}{b:Modl}(H:a.gs.length*40<=bigN/\(∀x∈a.fs,x.ok)/\a.fs.length*80<=bigN):AM.Comes ⟨env,T,A0⟩ 11 [a.F,b.F] [.bool (decide (a=b))]:=by
 refine⟨[.bool (decide (a=b))],⟨[],0,[]⟩,?_,A9 rfl zqk rfl rfl rfl⟩;rw[A3 (c:=IV) (nt:=17) (rs:=[.tmp 4]) rfl (by simp)];unfold IV;unfold K0;have G:=fun K=>cW (K:=K) (l:=a.gs) (m:=b.gs) C H.1
 have I:=fun K=>lN (K:=K) (l:=a.fs) (m:=b.fs) D H.2
 unfold Modl.F;by_cases h1:a.gs=b.gs
 . have e:decide (a=b)=decide (a.fs=b.fs):=by simp[Modl.eq_iff,h1]
   rw[B8 h1]at G;simp only[G,I,e,XP,seval]
 . have e:decide (a=b)=zf:=D4 fun e=>h1 (Modl.eq_iff.1 e).1
   rw[D4 h1]at G;simp only[G,e,XP,seval]
def U7:=X6 (fun p:(Modl)×(Modl)=>[p.1.F,p.2.F]) (fun p=>[.bool (decide (p.1=p.2))]) (fun p=>p.1.gs.length*40<=bigN/\(∀x∈p.1.fs,x.ok)/\p.1.fs.length*80<=bigN)
theorem Bp(C:T 11=zsq U7){a:Modl}{b:Modl}{K:PK}{args:List AV}(D:viewAs K.os args=zsq [a.F,b.F])(G:a.gs.length*40<=bigN/\(∀x∈a.fs,x.ok)/\a.fs.length*80<=bigN):evP ⟨env,T,A0⟩ (.call 11 args K)=zsq (.val (openTs K.os.length [.bool (decide (a=b))]).1 ⟨K.os++(openTs K.os.length [.bool (decide (a=b))]).2,K.ext,K.tch⟩):=B4 C D (B6 (a:=fun p:(Modl)×(Modl)=>[p.1.F,p.2.F]) (r:=fun p=>[.bool (decide (p.1=p.2))]) (fun x y e=>by simp only[VJ]at e;simp only[e]) (a,b) G) (by generalize (refsL args).isEmpty=z;simp only[VN,XP,seval])
theorem Xy(C:T 30=zsq j6)(D:T 31=zsq Aj)(G:PEok ⟨env,T,A0⟩):TC env 11 U7:=B7 G fun p h=>Nt C D h
def S0(k:Nat):Option (List AV->Option (List AV)):=zn
def bkO(to:List Int):AV:=.agg [match to with|[]=>.nilsl|x::l=>ownd 0 8 ((x::l).map fun t=>.agg [.int .i64 9,.int .i64 0,.int .i64 0,.int .i64 0,.int .i64 0,.int .i64 t,.str [],.nilsl]),.int .i64 3,.int .i64 0,.int .i64 0,.int .i64 0]
def Jc(p:List UInt8×List Int):AV:=.agg [.str p.1,.int .i64 1,.int .i64 0,ownd 0 1 [.int .i64 1],ownd 0 5 [bkO p.2]]
def fn0:List UInt8×List Int:=([102],[])
def rK:List UInt8×List Int:=([109,97,105,110],[0,2])
def rL:List UInt8×List Int:=([103],[0])
def zH:List UInt8×List Int:=([104],[3])
def DY:List UInt8×List Int:=([109,97,105,110],[1])
def DZ:List UInt8×List Int:=([102],[0])
def sL:List (List UInt8×List Int):=[fn0,rK,rL,zH,DY,DZ]
def Nu(p:List UInt8×List Int):Prop:=UN ⟨env,S0,A0⟩ 300 (.body 16 [.str p.1,fslN (ints p.2)] K0)=zsq (.val [.agg [.str p.1,.int .i64 1,.int .i64 0,.msl 1 0 1 1,.msl 2 0 1 5]] ⟨[.row 1 [.agg [.str p.1,.int .i64 1,.int .i64 0,.msl 1 0 1 1,.msl 2 0 1 5]] 5,.row 0 [.int .i64 1] 1,.row 0 [bkO p.2] 5],0,[]⟩)
theorem OI:Nu fn0:=by unfold Nu;kernel_rfl
theorem OJ:Nu rK:=by unfold Nu;kernel_rfl
theorem OL:Nu rL:=by unfold Nu;kernel_rfl
theorem OM:Nu zH:=by unfold Nu;kernel_rfl
theorem ON:Nu DY:=by unfold Nu;kernel_rfl
theorem OO:Nu DZ:=by unfold Nu;kernel_rfl
theorem OP{p:List UInt8×List Int}(h:p∈sL):Nu p:=by
 unfold sL at h;simp only[zqs,zka,or_false]at h;rcases h with rfl|rfl|rfl|rfl|rfl|rfl
 . exact OI
 . exact OJ
 . exact OL
 . exact OM
 . exact ON
 . exact OO
theorem vN{p:List UInt8×List Int}(h:p∈sL):AM.Comes ⟨env,S0,A0⟩ 16 [.str p.1,fslN (ints p.2)] [Jc p]:=by
 refine⟨[.agg [.str p.1,.int .i64 1,.int .i64 0,.msl 1 0 1 1,.msl 2 0 1 5]],_,HZ (OP h),?_⟩;refine A9 (vs':=[.agg [.str p.1,.int .i64 1,.int .i64 0,.msl 1 0 1 1,.msl 2 0 1 5]]) (os':=[.row 1 [.agg [.str p.1,.int .i64 1,.int .i64 0,.msl 1 0 1 1,.msl 2 0 1 5]] 5,.row 0 [.int .i64 1] 1,.row 0 [bkO p.2] 5]) ?_ ?_ (us:=[.agg [.str p.1,.int .i64 1,.int .i64 0,.msl 0 0 1 1,.msl 1 0 1 5]]) (ps:=[.row 0 [.int .i64 1] 1,.row 0 [bkO p.2] 5]) ?_ ?_ ?_
 all_goals simp only[Jc,XP,seval]
def N1:=X6 (fun p:List UInt8×List Int=>[.str p.1,fslN (ints p.2)]) (fun p=>[Jc p]) (fun p=>p∈sL)
theorem gW(C:PEok ⟨env,S0,A0⟩):TC env 16 N1:=B7 C fun p h=>vN h
theorem cY{p:List UInt8×List Int}(h:p∈sL):N1 [.str p.1,fslN (ints p.2)]=zsq [Jc p]:=B6 (a:=fun p:List UInt8×List Int=>[.str p.1,fslN (ints p.2)]) (r:=fun p=>[Jc p]) (fun x y e=>by
 simp only[List.cons.injEq,AV.str.injEq,fslN_iff,ints_iff,and_true]at e;obtain⟨x1,x2⟩:=x;obtain⟨y1,y2⟩:=y;simp only at e|-;obtain⟨rfl,rfl⟩:=e;rfl) p h
theorem zI(to:List Int):noF (bkO to)=zt:=by
 unfold bkO;cases to with
 |nil=>rfl
 |cons x l=>
  have:∀l:List Int,noFL (l.map fun t=>AV.agg [.int .i64 9,.int .i64 0,.int .i64 0,.int .i64 0,.int .i64 0,.int .i64 t,.str [],.nilsl])=zt:=fun l=>by
   induction l with
   |nil=>rfl
   |cons y l C=>show(zt&&noFL (l.map _))=zt;rw[C];rfl
  have h:=this (x::l);show(noF (ownd 0 8 _)&&noFL [.int .i64 3,.int .i64 0,.int .i64 0,.int .i64 0])=zt
  rw[zjp];exact⟨h,rfl⟩
theorem Zy(C:T 16=zsq N1){p:List UInt8×List Int}(h:p∈sL){K:PK}{args:List AV}(D:viewAs K.os args=zsq [.str p.1,fslN (ints p.2)]):evP ⟨env,T,A0⟩ (.call 16 args K)=zsq (.val [.agg [.str p.1,.int .i64 1,.int .i64 0,.msl K.os.length 0 1 1,.msl (K.os.length+1) 0 1 5]] ⟨K.os++[.row 0 [.int .i64 1] 1,.row 0 [bkO p.2] 5],K.ext,K.tch⟩):=by
 refine B4 C D (cY h) ?_
 have:noFL [Jc p]=zt:=by
  show(noF (Jc p)&&zt)=zt
  rw[Bool.and_true];show(zt&&(zt&&(zt&&(zt&&((noF (bkO p.2)&&zt)&&zt)))))=zt
  rw[zI];rfl
 rw[this,Bool.or_true,Bool.and_true];rfl
theorem A1z(C:T 16=zsq N1){K:PK}:evP ⟨env,T,A0⟩ (.call 16 [.str [102],.nilsl] K)=zsq (.val [.agg [.str [102],.int .i64 1,.int .i64 0,.msl K.os.length 0 1 1,.msl (K.os.length+1) 0 1 5]] ⟨K.os++[.row 0 [.int .i64 1] 1,.row 0 [bkO []] 5],K.ext,K.tch⟩):=Zy (p:=fn0) C (by simp[sL]) (rfl)
theorem A2A(C:T 16=zsq N1){K:PK}{q:Nat}(h:rowOf K.os 6 q=zsq (0,[.int .i64 0,.int .i64 2],1)):evP ⟨env,T,A0⟩ (.call 16 [.str [109,97,105,110],.msl q 0 2 1] K)=zsq (.val [.agg [.str [109,97,105,110],.int .i64 1,.int .i64 0,.msl K.os.length 0 1 1,.msl (K.os.length+1) 0 1 5]] ⟨K.os++[.row 0 [.int .i64 1] 1,.row 0 [bkO [0,2]] 5],K.ext,K.tch⟩):=Zy (p:=rK) C (by simp[sL]) (by
 rw[va_cons,va_cons,va_nil,vv_msl,h];rfl)
theorem A2B(C:T 16=zsq N1){K:PK}{q:Nat}(h:rowOf K.os 6 q=zsq (0,[.int .i64 0],1)):evP ⟨env,T,A0⟩ (.call 16 [.str [103],.msl q 0 1 1] K)=zsq (.val [.agg [.str [103],.int .i64 1,.int .i64 0,.msl K.os.length 0 1 1,.msl (K.os.length+1) 0 1 5]] ⟨K.os++[.row 0 [.int .i64 1] 1,.row 0 [bkO [0]] 5],K.ext,K.tch⟩):=Zy (p:=rL) C (by simp[sL]) (by
 rw[va_cons,va_cons,va_nil,vv_msl,h];rfl)
theorem A2C(C:T 16=zsq N1){K:PK}{q:Nat}(h:rowOf K.os 6 q=zsq (0,[.int .i64 3],1)):evP ⟨env,T,A0⟩ (.call 16 [.str [104],.msl q 0 1 1] K)=zsq (.val [.agg [.str [104],.int .i64 1,.int .i64 0,.msl K.os.length 0 1 1,.msl (K.os.length+1) 0 1 5]] ⟨K.os++[.row 0 [.int .i64 1] 1,.row 0 [bkO [3]] 5],K.ext,K.tch⟩):=Zy (p:=zH) C (by simp[sL]) (by
 rw[va_cons,va_cons,va_nil,vv_msl,h];rfl)
theorem A2D(C:T 16=zsq N1){K:PK}{q:Nat}(h:rowOf K.os 6 q=zsq (0,[.int .i64 1],1)):evP ⟨env,T,A0⟩ (.call 16 [.str [109,97,105,110],.msl q 0 1 1] K)=zsq (.val [.agg [.str [109,97,105,110],.int .i64 1,.int .i64 0,.msl K.os.length 0 1 1,.msl (K.os.length+1) 0 1 5]] ⟨K.os++[.row 0 [.int .i64 1] 1,.row 0 [bkO [1]] 5],K.ext,K.tch⟩):=Zy (p:=DY) C (by simp[sL]) (by
 rw[va_cons,va_cons,va_nil,vv_msl,h];rfl)
theorem A2E(C:T 16=zsq N1){K:PK}{q:Nat}(h:rowOf K.os 6 q=zsq (0,[.int .i64 0],1)):evP ⟨env,T,A0⟩ (.call 16 [.str [102],.msl q 0 1 1] K)=zsq (.val [.agg [.str [102],.int .i64 1,.int .i64 0,.msl K.os.length 0 1 1,.msl (K.os.length+1) 0 1 5]] ⟨K.os++[.row 0 [.int .i64 1] 1,.row 0 [bkO [0]] 5],K.ext,K.tch⟩):=Zy (p:=DZ) C (by simp[sL]) (by
 rw[va_cons,va_cons,va_nil,vv_msl,h];rfl)
def cZ(p:List UInt8×List Int):Cod:=⟨p.1,1,0,[1],[⟨p.2.map fun t=>⟨9,0,0,0,0,t,[],[]⟩,⟨3,0,0,0⟩⟩]⟩
def OQ:Modl:=⟨[],[cZ fn0,cZ rK,cZ rL,cZ zH]⟩
def UM:Modl:=⟨[],[cZ DY,cZ DZ]⟩
def wm2:Modl:=⟨[],[cZ fn0,cZ rK,cZ rL]⟩
theorem fnC_ok(p:List UInt8×List Int)(h:p.2.length<=5):GOk (cZ p):=by
 refine⟨⟨by show 1*8<=bigN;decide,fun b hb=>?_,by show 1*56<=bigN;decide⟩,fun b hb=>?_,by show 1<=1000;decide⟩
 . rw [zqq.1 hb]
   refine⟨fun x C=>?_,?_⟩
   . obtain⟨t,_,rfl⟩:=zkf.1 C
     show 0*8<=bigN
     simp[bigN]
   . rw[zqb];simp only[bigN];omega
 . rw[zqq.1 hb,zqb];omega
theorem vO:DpOk OQ:=⟨by decide,by decide,fun c hc=>by
 simp only[OQ,zqs,zka,or_false]at hc;rcases hc with rfl|rfl|rfl|rfl<;>exact fnC_ok _ (by decide),by decide,by decide⟩
theorem GU:DpOk UM:=⟨by decide,by decide,fun c hc=>by
 simp only[UM,zqs,zka,or_false]at hc;rcases hc with rfl|rfl<;>exact fnC_ok _ (by decide),by decide,by decide⟩
theorem zJ:depD OQ=(3,zt):=by kernel_rfl
theorem zK:depD UM=(0,zf):=by kernel_rfl
theorem zL:pruD OQ=wm2:=by kernel_rfl
theorem nU{os:List PO}{q:Nat}(h:rowOf os 6 q=zsq (0,[Jc fn0,Jc rK,Jc rL,Jc zH],5)):viewAs os [.agg [.nilsl,.msl q 0 4 5]]=zsq [OQ.F]:=by
 have e:viewV os (.msl q 0 4 5)=zsq (fslN ([cZ fn0,cZ rK,cZ rL,cZ zH].map Cod.F)):=by
  rw[wv_msl,h];rfl
 show consO (match consO (viewV os .nilsl) (consO (viewV os (.msl q 0 4 5)) (zsq []))with|some cs=>zsq (AV.agg cs)|none=>zn) (zsq [])=_
 rw[e];rfl
theorem zM{os:List PO}{q:Nat}(h:rowOf os 6 q=zsq (0,[Jc DY,Jc DZ],5)):viewAs os [.agg [.nilsl,.msl q 0 2 5]]=zsq [UM.F]:=by
 have e:viewV os (.msl q 0 2 5)=zsq (fslN ([cZ DY,cZ DZ].map Cod.F)):=by
  rw[wv_msl,h];rfl
 show consO (match consO (viewV os .nilsl) (consO (viewV os (.msl q 0 2 5)) (zsq []))with|some cs=>zsq (AV.agg cs)|none=>zn) (zsq [])=_
 rw[e];rfl
theorem zN{os:List PO}{a b q:Nat}(h1:rowOf os 6 a=zsq (0,[],4))(h2:rowOf os 6 b=zsq (0,wm2.fs.map Cod.O,5))(h:rowOf os 6 q=zsq (0,[Jc fn0,Jc rK,Jc rL],5)):viewAs os [.agg [.msl a 0 0 4,.msl b 0 3 5],.agg [.nilsl,.msl q 0 3 5]]=zsq [wm2.F,wm2.F]:=by
 have e:viewV os (.msl q 0 3 5)=zsq (fslN ([cZ fn0,cZ rK,cZ rL].map Cod.F)):=by
  rw[wv_msl,h];rfl
 have C:viewV os (.msl a 0 0 4)=zsq (fslN []):=by
  rw[wv_msl,h1];rfl
 have D:viewV os (.msl b 0 3 5)=zsq (fslN (wm2.fs.map Cod.F)):=by
  rw[wv_msl,h2];rfl
 show consO (match consO (viewV os (.msl a 0 0 4)) (consO (viewV os (.msl b 0 3 5)) (zsq []))with|some cs=>zsq (AV.agg cs)|none=>zn) (consO (match consO (viewV os .nilsl) (consO (viewV os (.msl q 0 3 5)) (zsq []))with|some cs=>zsq (AV.agg cs)|none=>zn) (zsq []))=_
 rw[e,C,D];rfl
section
variable {K:PK}{q a b:Nat}
theorem OR(C:T 7=zsq N6)(h:rowOf K.os 6 q=zsq (0,[Jc fn0,Jc rK,Jc rL,Jc zH],5)):evP ⟨env,T,A0⟩ (.call 7 [.agg [.nilsl,.msl q 0 4 5]] K)=zsq (.val [.int .i64 3,.bool zt] ⟨K.os++[],K.ext,K.tch⟩):=by
 have:=Ag C (nU h) vO
 rw[zJ]at this;exact this
theorem OS(C:T 7=zsq N6)(h:rowOf K.os 6 q=zsq (0,[Jc DY,Jc DZ],5)):evP ⟨env,T,A0⟩ (.call 7 [.agg [.nilsl,.msl q 0 2 5]] K)=zsq (.val [.int .i64 0,.bool zf] ⟨K.os++[],K.ext,K.tch⟩):=by
 have:=Ag C (zM h) GU
 rw[zK]at this;exact this
theorem OT(C:T 9=zsq Q8)(h:rowOf K.os 6 q=zsq (0,[Jc fn0,Jc rK,Jc rL,Jc zH],5)):evP ⟨env,T,A0⟩ (.call 9 [.agg [.nilsl,.msl q 0 4 5]] K)=zsq (.val [.agg [.msl K.os.length 0 0 4,.msl (K.os.length+1) 0 3 5]] ⟨K.os++[.row 0 [] 4,.row 0 (wm2.fs.map Cod.O) 5],K.ext,K.tch⟩):=by
 have:=Fm C (nU h) ⟨vO,by decide⟩
 rw[zL]at this;exact this
theorem A2F(D:T 11=zsq U7)(h1:rowOf K.os 6 a=zsq (0,[],4))(h2:rowOf K.os 6 b=zsq (0,wm2.fs.map Cod.O,5))(h:rowOf K.os 6 q=zsq (0,[Jc fn0,Jc rK,Jc rL],5)):evP ⟨env,T,A0⟩ (.call 11 [.agg [.msl a 0 0 4,.msl b 0 3 5],.agg [.nilsl,.msl q 0 3 5]] K)=zsq (.val [.bool zt] ⟨K.os++[],K.ext,K.tch⟩):=by
 have:=Bp (a:=wm2) (b:=wm2) D (zN h1 h2 h) ⟨by decide,fun x C=>by
  simp only[wm2,zqs,zka,or_false]at C;rcases C with rfl|rfl|rfl<;>exact(fnC_ok _ (by decide)).ok,by decide⟩
 rw[decide_eq_true rfl]at this;exact this
end
theorem rM(C:T 15=zn){q n:Nat}{K:PK}:evP ⟨env,T,A0⟩ (.call 15 [.msl q 0 n 5] K)=zsq (.val [.agg [.nilsl,.msl q 0 n 5]] ⟨K.os++[.row 1 [.agg [.nilsl,.msl q 0 n 5]] 2],K.ext,K.os.length::K.tch⟩):=by
 rw[u6 C rfl,A3 (c:=RZ) (nt:=5) (rs:=[.cell 2 25]) rfl (by simp)];have D:∀x:PO,(K.os++[x])[K.os.length]?=zsq x:=fun x=>by simp
 have gs:∀x y:PO,(K.os++[x]).set K.os.length y=K.os++[y]:=fun x y=>by simp
 unfold RZ;simp only[D,gs,XP,seval]
theorem Ky(C:T 16=zsq N1)(G:T 15=zn)(D:T 7=zsq N6)(H:T 9=zsq Q8)(I:T 11=zsq U7):AM.Comes ⟨env,T,A0⟩ 5 [] [.bool zt]:=by
 refine⟨[.bool zt],⟨[],0,[]⟩,?_,A9 rfl zqk rfl rfl rfl⟩;rw[A3 (c:=p5) (nt:=51) (rs:=[.tmp 0]) rfl (by simp)];unfold p5;unfold K0;have Q:=fun K:PK=>A1z (K:=K) C
 have U:=fun(K:PK) q h=>A2A (K:=K) (q:=q) C h
 have V:=fun(K:PK) q h=>A2B (K:=K) (q:=q) C h
 have Y:=fun(K:PK) q h=>A2C (K:=K) (q:=q) C h
 have f4:=fun(K:PK) q h=>A2D (K:=K) (q:=q) C h
 have f5:=fun(K:PK) q h=>A2E (K:=K) (q:=q) C h
 have md:=fun(K:PK) q n=>rM (K:=K) (q:=q) (n:=n) G
 have J:=fun(K:PK) q h=>OR (K:=K) (q:=q) D h
 have d1:=fun(K:PK) q h=>OS (K:=K) (q:=q) D h
 have p0:=fun(K:PK) q h=>OT (K:=K) (q:=q) H h
 have sm:=fun(K:PK) a b q h1 h2 h=>A2F (K:=K) (a:=a) (b:=b) (q:=q) I h1 h2 h
 simp only[Jc,fn0,rK,rL,zH,DY,DZ]at J d1 p0 sm;generalize wm2.fs.map Cod.O=W2 at *;generalize bkO []=b0 at *;generalize bkO [0,2]=b1 at *;generalize bkO [0]=b2 at *;generalize bkO [3]=b3 at *;generalize bkO [1]=b4 at *;simp only[Q,U,V,Y,f4,f5,md,J,d1,p0,sm,XP,seval]
 done
def w6:=X6 (fun p:Unit=>[]) (fun p=>[.bool zt]) (fun p=>True)
theorem dA(C:T 5=zsq w6)  {K:PK}:evP ⟨env,T,A0⟩ (.call 5 [] K)=zsq (.val (openTs K.os.length [.bool zt]).1 ⟨K.os++(openTs K.os.length [.bool zt]).2,K.ext,K.tch⟩):=B4 C (by simp only[VV,XP,seval]) (B6 (a:=fun p:Unit=>[]) (r:=fun p=>[.bool zt]) (fun x y e=>by simp only[VJ]at e;simp only[e]) () trivial) (by simp only[VN,XP,seval])
theorem Vf(I:T 16=zsq N1)(C:T 15=zn)(D:T 7=zsq N6)(G:T 9=zsq Q8)(H:T 11=zsq U7)(J:PEok ⟨env,T,A0⟩):TC env 5 w6:=B7 J fun p h=>Ky I C D G H
theorem any_loop{P:PE}{c:PC}{α:Type}{p:α->Bool}{l:List α}{S:Nat->PF}{K K2:PK}{e:Nat}{Q R:PF->Prop}(h1:∀i (h:i<l.length),p l[i]=zf->evP P (.code c (S i) K)=zsq (.ok .normal (S (i+1)) K))
 (h2:∀i (h:i<l.length),p l[i]=zt->∃fr',evP P (.code c (S i) K)=zsq (.ok .ret fr' K2)/\Q fr')(h3:∃fr',evP P (.code c (S l.length) K)=zsq (.ok (.exit e) fr' K)/\R fr'):
 (l.any p=zt/\∃fr',evP P (.code (.loop c) (S 0) K)=zsq (.ok .ret fr' K2)/\Q fr')\/(l.any p=zf/\∃fr',evP P (.code (.loop c) (S 0) K)=zsq (.ok (.exit e) fr' K)/\R fr'):=by
 have C:∀q i,l.length=i+q->((l.drop i).any p=zt/\∃fr',evP P (.code (.loop c) (S i) K)=zsq (.ok .ret fr' K2)/\Q fr')\/((l.drop i).any p=zf/\∃fr',evP P (.code (.loop c) (S i) K)=zsq (.ok (.exit e) fr' K)/\R fr'):=fun q=>by
  induction q with
  |zero=>
   intro i e;obtain rfl:i=l.length:=by omega
   obtain⟨fr',h,G⟩:=h3;exact .inr ⟨by rw[zqt];rfl,fr',loop_exit h,G⟩
  |succ q I=>
   intro i e;have hi:i<l.length:=by omega
   rw[zqp hi,List.any_cons];cases D:p l[i]with
   |true=>
    obtain⟨fr',h,H⟩:=h2 i hi D;exact .inl ⟨rfl,fr',Y2 h,H⟩
   |false=>
    rw[Bool.false_or,loop_more (h1 i hi D)];exact I (i+1) (by omega)
 exact C l.length 0 (by omega)
def Im(t:Int)(x:Ins):Bool:=decide (x.op=9)&&decide (x.n=t)
def callsTo(m:Modl)(v:Nat)(t:Int):Bool:=((grM m).getD v []).any fun x=>decide (x=t)
theorem Vh(t:Int):∀l:List Ins,(callsI l).any (fun x=>decide (x=t))=l.any (Im t)
 |[]=>rfl
 |x::l=>by
  rw[Py,List.any_append,Vh t l,List.any_cons];by_cases h:x.op=9
  . rw[Il h];simp[Im,h]
  . rw[Np h];simp[Im,h]
theorem lO(t:Int)(c:Cod):(callsD c).any (fun x=>decide (x=t))=c.blocks.any fun b=>b.code.any (Im t):=by
 unfold callsD;rw[List.any_flatMap]
 congr 1
 funext b
 exact Vh t b.code
theorem lP{m:Modl}{v:Nat}(h:v<m.fs.length)(t:Int):callsTo m v t=m.fs[v].blocks.any fun b=>b.code.any (Im t):=by
 unfold callsTo grM;rw[zqc,zqe,zqf h,<-lO];rfl
section
variable {m:Modl}{v k:Nat}{t q:Int}{l:List Ins}
def Vi(v:Nat)(t q:Int)(l:List Ins)(k:Nat):PF:=[(1,.int .i64 (v:Int)),(2,.int .i64 t),(3,.ptr 0 0 0),(7,.int .i64 q),(8,fslN (l.map Ins.F)),(9,.int .i64 (k:Int))]
theorem EA(G:k<l.length)(hs:l.length<=10000000)(h:Im t l[k]=zf):evP ⟨env,T,A0⟩ (.code p40b0 (Vi v t q l k) ⟨[.row 1 [.agg [fslN (m.gs.map Glo.F),fslN (m.fs.map Cod.F)]] 2],0,[]⟩)=zsq (.ok .normal (Vi v t q l (k+1)) ⟨[.row 1 [.agg [fslN (m.gs.map Glo.F),fslN (m.fs.map Cod.F)]] 2],0,[]⟩):=by
 have C:decide ((k:Int)<(l.length:Int))=zt:=by simp[G]
 have H:=A1 (i:=k) (by omega);have hg:=A5 (F:=Ins.F) G;simp only[Ins.F]at hg;unfold Im at h;unfold p40b0 Vi;by_cases D:l[k].op=9
 . have hn:¬l[k].n=t:=fun e=>by rw[decide_eq_true D,decide_eq_true e]at h;cases h
   simp only[C,H,hg,eq_true D,hn,zqb,D2,F7,F8,F9,G0,XP,seval]
 . simp only[C,H,hg,D,zqb,D2,F7,F8,F9,G0,XP,seval]
theorem EB(D:k<l.length)(h:Im t l[k]=zt):∃fr',evP ⟨env,T,A0⟩ (.code p40b0 (Vi v t q l k) ⟨[.row 1 [.agg [fslN (m.gs.map Glo.F),fslN (m.fs.map Cod.F)]] 2],0,[]⟩)=zsq (.ok .ret fr' ⟨[],0,[]⟩)/\lookP fr' 6=.bool zt:=by
 have C:decide ((k:Int)<(l.length:Int))=zt:=by simp[D]
 have hg:=A5 (F:=Ins.F) D;simp only[Ins.F]at hg;unfold Im at h;have G:l[k].op=9:=by simp at h;exact h.1
 have hn:l[k].n=t:=by simp at h;exact h.2
 unfold p40b0 Vi;simp only[C,hg,eq_true G,eq_true hn,zqb,D2,F7,F8,F9,G0,XP,seval];exact⟨_,rfl,rfl⟩
theorem EC:∃fr',evP ⟨env,T,A0⟩ (.code p40b0 (Vi v t q l l.length) ⟨[.row 1 [.agg [fslN (m.gs.map Glo.F),fslN (m.fs.map Cod.F)]] 2],0,[]⟩)=zsq (.ok (.exit 2) fr' ⟨[.row 1 [.agg [fslN (m.gs.map Glo.F),fslN (m.fs.map Cod.F)]] 2],0,[]⟩)/\(lookP fr' 1=.int .i64 (v:Int)/\lookP fr' 2=.int .i64 t/\lookP fr' 3=.ptr 0 0 0/\lookP fr' 7=.int .i64 q):=by
 have C:decide ((l.length:Int)<(l.length:Int))=zf:=by simp
 unfold p40b0 Vi;simp only[C,zqb,D2,F7,F8,F9,G0,XP,seval];exact⟨_,rfl,rfl,rfl,rfl,rfl⟩
def Xz(v:Nat)(t:Int)(k:Nat):PF:=[(1,.int .i64 (v:Int)),(2,.int .i64 t),(3,.ptr 0 0 0),(7,.int .i64 (k:Int))]
theorem OU(H:v<m.fs.length)(C:k<m.fs[v].blocks.length)(hc:GOk m.fs[v])(h:(m.fs[v].blocks[k].code.any (Im t))=zf):evP ⟨env,T,A0⟩ (.code Pq (Xz v t k) ⟨[.row 1 [.agg [fslN (m.gs.map Glo.F),fslN (m.fs.map Cod.F)]] 2],0,[]⟩)=zsq (.ok .normal (Xz v t (k+1)) ⟨[.row 1 [.agg [fslN (m.gs.map Glo.F),fslN (m.fs.map Cod.F)]] 2],0,[]⟩):=by
 have hbl:=hc.blocks;have G:decide ((k:Int)<(m.fs[v].blocks.length:Int))=zt:=by simp[C]
 have I:=A1 (i:=k) (by omega);have hg:=A5 (F:=Cod.F) H;have hb:=A5 (F:=Blk.F) C;have hcl:=hc.code _ (zqd C);rcases any_loop (P:=⟨env,T,A0⟩) (c:=p40b0) (p:=Im t) (l:=m.fs[v].blocks[k].code) (S:=Vi v t (k:Int) m.fs[v].blocks[k].code) (K:=⟨[.row 1 [.agg [fslN (m.gs.map Glo.F),fslN (m.fs.map Cod.F)]] 2],0,[]⟩) (K2:=⟨[],0,[]⟩) (Q:=fun fr'=>lookP fr' 6=.bool zt) (R:=fun fr'=>lookP fr' 1=.int .i64 (v:Int)/\lookP fr' 2=.int .i64 t/\lookP fr' 3=.ptr 0 0 0/\lookP fr' 7=.int .i64 (k:Int)) (fun i hi D=>EA hi (by omega) D) (fun i hi D=>EB hi D) EC with⟨e,_⟩|⟨e,fr',h1,h2,J,U,V⟩
 . rw[e]at h;cases h
 . unfold Vi at h1
   simp only[show((0:Nat):Int)=0 from rfl]at h1;simp only[Cod.F]at hg;simp only[Blk.F]at hb;unfold Pq Xz;generalize p40b0=b0 at *;simp only[G,I,hg,hb,h1,h2,J,U,V,zqb,D2,F7,F8,F9,G0,XP,seval]
theorem OV(H:v<m.fs.length)(C:k<m.fs[v].blocks.length)(hc:GOk m.fs[v])(h:(m.fs[v].blocks[k].code.any (Im t))=zt):∃fr',evP ⟨env,T,A0⟩ (.code Pq (Xz v t k) ⟨[.row 1 [.agg [fslN (m.gs.map Glo.F),fslN (m.fs.map Cod.F)]] 2],0,[]⟩)=zsq (.ok .ret fr' ⟨[],0,[]⟩)/\lookP fr' 6=.bool zt:=by
 have hbl:=hc.blocks;have G:decide ((k:Int)<(m.fs[v].blocks.length:Int))=zt:=by simp[C]
 have hg:=A5 (F:=Cod.F) H;have hb:=A5 (F:=Blk.F) C;have hcl:=hc.code _ (zqd C);rcases any_loop (P:=⟨env,T,A0⟩) (c:=p40b0) (p:=Im t) (l:=m.fs[v].blocks[k].code) (S:=Vi v t (k:Int) m.fs[v].blocks[k].code) (K:=⟨[.row 1 [.agg [fslN (m.gs.map Glo.F),fslN (m.fs.map Cod.F)]] 2],0,[]⟩) (K2:=⟨[],0,[]⟩) (Q:=fun fr'=>lookP fr' 6=.bool zt) (R:=fun fr'=>lookP fr' 1=.int .i64 (v:Int)/\lookP fr' 2=.int .i64 t/\lookP fr' 3=.ptr 0 0 0/\lookP fr' 7=.int .i64 (k:Int)) (fun i hi D=>EA hi (by omega) D) (fun i hi D=>EB hi D) EC with⟨e,fr',h1,h2⟩|⟨e,_⟩
 . unfold Vi at h1
   simp only[show((0:Nat):Int)=0 from rfl]at h1;simp only[Cod.F]at hg;simp only[Blk.F]at hb;unfold Pq Xz;generalize p40b0=b0 at *;simp only[G,hg,hb,h1,h2,zqb,D2,F7,F8,F9,G0,XP,seval];exact⟨_,rfl,h2⟩
 . rw[e]at h;cases h
theorem OW(D:v<m.fs.length):∃fr',evP ⟨env,T,A0⟩ (.code Pq (Xz v t m.fs[v].blocks.length) ⟨[.row 1 [.agg [fslN (m.gs.map Glo.F),fslN (m.fs.map Cod.F)]] 2],0,[]⟩)=zsq (.ok (.exit 0) fr' ⟨[.row 1 [.agg [fslN (m.gs.map Glo.F),fslN (m.fs.map Cod.F)]] 2],0,[]⟩)/\True:=by
 have C:decide ((m.fs[v].blocks.length:Int)<(m.fs[v].blocks.length:Int))=zf:=by simp
 have hg:=A5 (F:=Cod.F) D;simp only[Cod.F]at hg;unfold Pq Xz;simp only[C,hg,zqb,D2,F7,F8,F9,G0,XP,seval];exact⟨_,rfl⟩
end
theorem Kz  {m:Modl} {v:Int} {t:Int} (H:(0<=v/\v<m.fs.length)/\∀c∈m.fs,GOk c):AM.Comes ⟨env,T,A0⟩ 40 [m.F,.int .i64 v,.int .i64 t] [.bool (callsTo m v.toNat t)]:=by
 obtain⟨⟨h0,h1⟩,hc⟩:=H;obtain⟨w,rfl⟩:=zjj h0;have C:w<m.fs.length:=by omega
 have D:=hc _ (zqd C);rw[zjm,lP C];refine⟨[.bool (m.fs[w].blocks.any fun b=>b.code.any (Im t))],⟨[],0,[]⟩,?_,A9 rfl zqk rfl rfl rfl⟩;rcases any_loop (P:=⟨env,T,A0⟩) (c:=Pq) (p:=fun b:Blk=>b.code.any (Im t)) (l:=m.fs[w].blocks) (S:=Xz w t) (K:=⟨[.row 1 [.agg [fslN (m.gs.map Glo.F),fslN (m.fs.map Cod.F)]] 2],0,[]⟩) (K2:=⟨[],0,[]⟩) (Q:=fun fr'=>lookP fr' 6=.bool zt) (R:=fun _=>True) (fun i hi G=>OU C hi D G) (fun i hi G=>OV C hi D G) (OW C)with⟨e,fr',h1,h2⟩|⟨e,fr',h1,_⟩
 . unfold Xz at h1
   simp only[show((0:Nat):Int)=0 from rfl]at h1;rw[A3 (c:=IZ) (nt:=52) (rs:=[.tmp 6]) rfl (by simp)];unfold IZ;unfold K0 Modl.F;simp only[h1,h2,e,XP,seval]
 . unfold Xz at h1
   simp only[show((0:Nat):Int)=0 from rfl]at h1;rw[A3 (c:=IZ) (nt:=52) (rs:=[.tmp 6]) rfl (by simp)];unfold IZ;unfold K0 Modl.F;simp only[h1,e,XP,seval]
def R0:=X6 (fun p:(Modl)×(Int)×(Int)=>[p.1.F,.int .i64 p.2.1,.int .i64 p.2.2]) (fun p=>[.bool (callsTo p.1 p.2.1.toNat p.2.2)]) (fun p=>(0<=p.2.1/\p.2.1<p.1.fs.length)/\∀c∈p.1.fs,GOk c)
theorem dB(C:T 40=zsq R0){m:Modl}{v:Int}{t:Int}{K:PK}(D:(0<=v/\v<m.fs.length)/\∀c∈m.fs,GOk c):evP ⟨env,T,A0⟩ (.call 40 [m.F,.int .i64 v,.int .i64 t] K)=zsq (.val (openTs K.os.length [.bool (callsTo m v.toNat t)]).1 ⟨K.os++(openTs K.os.length [.bool (callsTo m v.toNat t)]).2,K.ext,K.tch⟩):=B4 C (by simp only[VV,XP,seval]) (B6 (a:=fun p:(Modl)×(Int)×(Int)=>[p.1.F,.int .i64 p.2.1,.int .i64 p.2.2]) (r:=fun p=>[.bool (callsTo p.1 p.2.1.toNat p.2.2)]) (fun x y e=>by simp only[VJ]at e;simp only[e]) (m,v,t) D) (by simp only[VN,XP,seval])
theorem Vj  (C:PEok ⟨env,T,A0⟩):TC env 40 R0:=B7 C fun p h=>Kz  h
theorem idx_loopK{P:PE}{c:PC}{X:Type}{p:X->Bool}{l:List X}{S:Nat->PF}{K K2:PK}{s:Nat}
 (h1:∀i (h:i<l.length),p l[i]=zf->evP P (.code c (S i) K)=zsq (.ok .normal (S (i+1)) K))
 (h2:∀i (h:i<l.length),p l[i]=zt->∃fr',evP P (.code c (S i) K)=zsq (.ok .ret fr' K2)/\lookP fr' s=.int .i64 (i:Int))
 (hx:∃fr',evP P (.code c (S l.length) K)=zsq (.ok (.exit 0) fr' K)):
 (∃i:Nat,idxOf p l=i/\∃fr',evP P (.code (.loop c) (S 0) K)=zsq (.ok .ret fr' K2)/\lookP fr' s=.int .i64 (i:Int))\/(idxOf p l=-1/\∃fr',evP P (.code (.loop c) (S 0) K)=zsq (.ok (.exit 0) fr' K)):=by
 have H:∀(n i:Nat),l.length=i+n->(∀j (C:j<l.length),j<i->p l[j]=zf)->(∃k:Nat,idxOf p l=k/\∃fr',evP P (.code (.loop c) (S i) K)=zsq (.ok .ret fr' K2)/\lookP fr' s=.int .i64 (k:Int))\/(idxOf p l=-1/\∃fr',evP P (.code (.loop c) (S i) K)=zsq (.ok (.exit 0) fr' K)):=fun n=>by
  induction n with
  |zero=>
   intro i e D;obtain rfl:i=l.length:=by omega
   obtain⟨fr',h⟩:=hx;refine .inr ⟨?_,fr',loop_exit h⟩;unfold idxOf
   have:l.findIdx? p=zn:=by
    rw[List.findIdx?_eq_none_iff];intro x I;obtain⟨j,C,rfl⟩:=zkw I;exact D j C C
   rw[this]
  |succ n U=>
   intro i e D;have hl:i<l.length:=by omega
   cases G:p l[i]with
   |false=>
    rw[loop_more (h1 i hl G)];refine U (i+1) (by omega) fun j C hji=>?_
    by_cases V:j=i
    . subst V;exact G
    . exact D j C (by omega)
   |true=>
    obtain⟨fr',J,Q⟩:=h2 i hl G;refine .inl ⟨i,?_,fr',Y2 J,Q⟩;unfold idxOf
    have:l.findIdx? p=zsq i:=by
     rw[List.findIdx?_eq_some_iff_getElem];exact⟨hl,G,fun j C=>by simpa using D j (by omega) C⟩
    rw[this]
 exact H l.length 0 (by omega) fun j C h=>absurd h (by omega)
section
variable {m:Modl}{i k n:Nat}{l o:List Bool}{fr:PF}
def Ya(i:Nat):PF:=[(1,.ptr 0 0 0),(3,.int .i64 (i:Int))]
theorem OX(hi:i<m.fs.length)(hs:m.fs.length<=10000)(D:decide (m.fs[i].name=B3)=zf):evP ⟨env,T,A0⟩ (.code Pm (Ya i) ⟨[.row 1 [.agg [fslN (m.gs.map Glo.F),fslN (m.fs.map Cod.F)]] 2],0,[]⟩)=zsq (.ok .normal (Ya (i+1)) ⟨[.row 1 [.agg [fslN (m.gs.map Glo.F),fslN (m.fs.map Cod.F)]] 2],0,[]⟩):=by
 have C:decide ((i:Int)<(m.fs.length:Int))=zt:=by simp[hi]
 have G:=A1 (i:=i) (by omega);have hg:=A5 (F:=Cod.F) hi;simp only[Cod.F]at hg;unfold B3 at D;unfold Pm Ya;simp only[C,G,hg,D,zqb,D2,F7,F8,F9,G0,XP,seval]
theorem OY(hi:i<m.fs.length)(D:decide (m.fs[i].name=B3)=zt):∃fr',evP ⟨env,T,A0⟩ (.code Pm (Ya i) ⟨[.row 1 [.agg [fslN (m.gs.map Glo.F),fslN (m.fs.map Cod.F)]] 2],0,[]⟩)=zsq (.ok .ret fr' ⟨[],0,[]⟩)/\lookP fr' 2=.int .i64 (i:Int):=by
 have C:decide ((i:Int)<(m.fs.length:Int))=zt:=by simp[hi]
 have hg:=A5 (F:=Cod.F) hi;simp only[Cod.F]at hg;unfold B3 at D;unfold Pm Ya;simp only[C,hg,D,zqb,D2,F7,F8,F9,G0,XP,seval];exact⟨_,rfl,rfl⟩
theorem OZ:∃fr',evP ⟨env,T,A0⟩ (.code Pm (Ya m.fs.length) ⟨[.row 1 [.agg [fslN (m.gs.map Glo.F),fslN (m.fs.map Cod.F)]] 2],0,[]⟩)=zsq (.ok (.exit 0) fr' ⟨[.row 1 [.agg [fslN (m.gs.map Glo.F),fslN (m.fs.map Cod.F)]] 2],0,[]⟩):=by
 have C:decide ((m.fs.length:Int)<(m.fs.length:Int))=zf:=by simp
 unfold Pm Ya;simp only[C,zqb,D2,F7,F8,F9,G0,XP,seval];exact⟨_,rfl⟩
end
theorem Nv  {m:Modl} (D:m.fs.length<=10000):AM.Comes ⟨env,T,A0⟩ 21 [m.F] [.int .i64 (mainI m)]:=by
 refine⟨[.int .i64 (mainI m)],⟨[],0,[]⟩,?_,A9 rfl zqk rfl rfl rfl⟩;rcases idx_loopK (P:=⟨env,T,A0⟩) (c:=Pm) (p:=fun c:Cod=>decide (c.name=B3)) (l:=m.fs) (S:=Ya) (K:=⟨[.row 1 [.agg [fslN (m.gs.map Glo.F),fslN (m.fs.map Cod.F)]] 2],0,[]⟩) (K2:=⟨[],0,[]⟩) (s:=2) (fun i hi C=>OX hi D C) (fun i hi C=>OY hi C) OZ with⟨i,e,fr',h1,h2⟩|⟨e,fr',h1⟩
 . have e:mainI m=(i:Int):=e
   unfold Ya at h1;simp only[show((0:Nat):Int)=0 from rfl]at h1;rw[A3 (c:=IW) (nt:=19) (rs:=[.tmp 2]) rfl (by simp)];unfold IW;unfold K0 Modl.F;simp only[h1,h2,e,XP,seval]
 . have e:mainI m=-1:=e
   unfold Ya at h1;simp only[show((0:Nat):Int)=0 from rfl]at h1;rw[A3 (c:=IW) (nt:=19) (rs:=[.tmp 2]) rfl (by simp)];unfold IW;unfold K0 Modl.F;simp only[h1,e,XP,seval]
def U8:=X6 (fun p:(Modl)=>[p.F]) (fun p=>[.int .i64 (mainI p)]) (fun p=>p.fs.length<=10000)
theorem Qb(C:T 21=zsq U8){m:Modl}{K:PK}(D:m.fs.length<=10000):evP ⟨env,T,A0⟩ (.call 21 [m.F] K)=zsq (.val (openTs K.os.length [.int .i64 (mainI m)]).1 ⟨K.os++(openTs K.os.length [.int .i64 (mainI m)]).2,K.ext,K.tch⟩):=B4 C (by simp only[VV,XP,seval]) (B6 (a:=fun p:(Modl)=>[p.F]) (r:=fun p=>[.int .i64 (mainI p)]) (fun x y e=>by simp only[VJ]at e;simp only[e]) (m) D) (by simp only[VN,XP,seval])
theorem Yb  (C:PEok ⟨env,T,A0⟩):TC env 21 U8:=B7 C fun p h=>Nv  h
section
variable {i k n:Nat}{l o:List Bool}{fr:PF}
def Yc(l:List Bool)(i:Nat):PF:=[(0,fslN (bools l)),(3,.int .i64 (i:Int))]
theorem PA(hi:i<l.length)(hs:l.length<=10000)(G:l[i]=zf):evP ⟨env,T,A0⟩ (.code Pn (Yc l i) ⟨[],0,[]⟩)=zsq (.ok .normal (Yc l (i+1)) ⟨[],0,[]⟩):=by
 have C:decide ((i:Int)<(l.length:Int))=zt:=by simp[hi]
 have H:=A1 (i:=i) (by omega);have hg:=G1 hi;rw[zqc,zqf hi,zjo,G]at hg;have D:=E2 l;unfold Pn Yc;generalize bools l=bl at *;simp only[C,H,hg,D,D2,F7,F8,F9,G0,XP,seval]
theorem PB(hi:i<l.length)(G:l[i]=zt):∃fr',evP ⟨env,T,A0⟩ (.code Pn (Yc l i) ⟨[],0,[]⟩)=zsq (.ok .ret fr' ⟨[],0,[]⟩)/\lookP fr' 2=.bool zt:=by
 have C:decide ((i:Int)<(l.length:Int))=zt:=by simp[hi]
 have hg:=G1 hi;rw[zqc,zqf hi,zjo,G]at hg;have D:=E2 l;unfold Pn Yc;generalize bools l=bl at *;simp only[C,hg,D,D2,F7,F8,F9,G0,XP,seval];exact⟨_,rfl,rfl⟩
theorem PD:∃fr',evP ⟨env,T,A0⟩ (.code Pn (Yc l l.length) ⟨[],0,[]⟩)=zsq (.ok (.exit 0) fr' ⟨[],0,[]⟩)/\True:=by
 have C:decide ((l.length:Int)<(l.length:Int))=zf:=by simp
 have D:=E2 l;unfold Pn Yc;generalize bools l=bl at *;simp only[C,D,D2,F7,F8,F9,G0,XP,seval];exact⟨_,rfl⟩
end
theorem Nw  {l:List Bool} (D:l.length<=10000):AM.Comes ⟨env,T,A0⟩ 22 [fslN (bools l)] [.bool (l.any id)]:=by
 refine⟨[.bool (l.any id)],⟨[],0,[]⟩,?_,A9 rfl zqk rfl rfl rfl⟩;rcases any_loop (P:=⟨env,T,A0⟩) (c:=Pn) (p:=id) (l:=l) (S:=Yc l) (K:=⟨[],0,[]⟩) (K2:=⟨[],0,[]⟩) (Q:=fun fr'=>lookP fr' 2=.bool zt) (R:=fun _=>True) (fun i hi C=>PA hi D C) (fun i hi C=>PB hi C) PD with⟨e,fr',h1,h2⟩|⟨e,fr',h1,_⟩
 . unfold Yc at h1
   simp only[show((0:Nat):Int)=0 from rfl]at h1;rw[A3 (c:=IX) (nt:=14) (rs:=[.tmp 2]) rfl (by simp)];unfold IX;unfold K0;simp only[h1,h2,e,XP,seval]
 . unfold Yc at h1
   simp only[show((0:Nat):Int)=0 from rfl]at h1;rw[A3 (c:=IX) (nt:=14) (rs:=[.tmp 2]) rfl (by simp)];unfold IX;unfold K0;simp only[h1,e,XP,seval]
def U9:=X6 (fun p:(List Bool)=>[fslN (bools p)]) (fun p=>[.bool (p.any id)]) (fun p=>p.length<=10000)
theorem Yd(C:T 22=zsq U9){l:List Bool}{K:PK}{args:List AV}(D:viewAs K.os args=zsq [fslN (bools l)])(G:l.length<=10000):evP ⟨env,T,A0⟩ (.call 22 args K)=zsq (.val (openTs K.os.length [.bool (l.any id)]).1 ⟨K.os++(openTs K.os.length [.bool (l.any id)]).2,K.ext,K.tch⟩):=B4 C D (B6 (a:=fun p:(List Bool)=>[fslN (bools p)]) (r:=fun p=>[.bool (p.any id)]) (fun x y e=>by simp only[VJ]at e;simp only[e]) (l) G) (by generalize (refsL args).isEmpty=z;simp only[VN,XP,seval])
theorem Ye  (C:PEok ⟨env,T,A0⟩):TC env 22 U9:=B7 C fun p h=>Nw  h
def JF(m:Modl)(l:List Bool)(i:Nat)(o:List Bool)(k:Nat):List Bool:=o.set k (o.getD k zf||(l.getD i zf&&callsTo m i k))
def rN(m:Modl)(l:List Bool)(i:Nat)(o:List Bool)(k:Nat):List Bool:=(zkb k).foldl (JF m l i) o
def vP(m:Modl)(l:List Bool)(j:Nat):List Bool:=(zkb j).foldl (fun o i=>rN m l i o l.length) (zqa l.length zf)
def nxD(m:Modl)(l:List Bool):List Bool:=vP m l l.length
theorem Vk{m:Modl}{l o:List Bool}{i k:Nat}:rN m l i o (k+1)=JF m l i (rN m l i o k) k:=by unfold rN;rw[zkg,zkh];rfl
theorem Vl{m:Modl}{l:List Bool}{j:Nat}:vP m l (j+1)=rN m l j (vP m l j) l.length:=by unfold vP;rw[zkg,zkh];rfl
theorem Rv{m:Modl}{l o:List Bool}{i:Nat}:∀k,(rN m l i o k).length=o.length
 |0=>rfl
 |k+1=>by rw[Vk,JF,zqi,Rv k]
theorem La{m:Modl}{l:List Bool}:∀j,(vP m l j).length=l.length
 |0=>by simp[vP]
 |j+1=>by rw[Vl,Rv,La j]
section
variable {m:Modl}{i k n:Nat}{l o:List Bool}{fr:PF}
def lQ(l:List Bool)(i k:Nat):PF:=[(1,fslN (bools l)),(2,.ptr 0 0 0),(5,.msl 1 0 l.length 1),(6,.int .i64 (i:Int)),(7,.int .i64 (k:Int))]
theorem A2G(U:T 40=zsq R0)(hc:∀c∈m.fs,GOk c)(hm:m.fs.length=l.length)(hs:l.length<=10000)(ho:o.length=l.length)(hi:i<l.length)(Q:k<l.length):evP ⟨env,T,A0⟩ (.code p23b0 (lQ l i k) ⟨[.row 1 [.agg [fslN (m.gs.map Glo.F),fslN (m.fs.map Cod.F)]] 2,.row 0 (bools o) 1],0,[]⟩)=zsq (.ok .normal (lQ l i (k+1)) ⟨[.row 1 [.agg [fslN (m.gs.map Glo.F),fslN (m.fs.map Cod.F)]] 2,.row 0 (bools (JF m l i o k)) 1],0,[]⟩):=by
 have G:decide ((k:Int)<(l.length:Int))=zt:=by simp[Q]
 have V:=A1 (i:=k) (by omega);have hg:=G1 hi;have C:k<o.length:=by omega
 have D:=G1 C;have H:k<(bools o).length:=by rw[E2];exact C
 have I:=E2 l;have J:=fun K=>dB (K:=K) U (m:=m) (v:=(i:Int)) (t:=(k:Int)) ⟨⟨by omega,by omega⟩,hc⟩
 unfold Modl.F at J;rw[zjm]at J;unfold JF;rw[<-Ck];unfold p23b0 lQ;generalize bools l=bl at *;generalize bools o=bo at *;generalize o.getD k zf=x at D|-;generalize l.getD i zf=y at hg|-;cases x<;>cases y <;>
  simp only[G,V,hg,D,H,I,hi,Q,J,D2,F7,F8,F9,G0,XP,seval]
theorem A2H{K:PK}:∃fr',evP ⟨env,T,A0⟩ (.code p23b0 (lQ l i l.length) K)=zsq (.ok (.exit 2) fr' K)/\lookP fr' 1=fslN (bools l)/\lookP fr' 2=.ptr 0 0 0/\lookP fr' 5=.msl 1 0 l.length 1/\lookP fr' 6=.int .i64 (i:Int):=by
 have C:decide ((l.length:Int)<(l.length:Int))=zf:=by simp
 have D:=E2 l;unfold p23b0 lQ;generalize bools l=bl at *;simp only[C,D,D2,F7,F8,F9,G0,XP,seval];exact⟨_,rfl,rfl,rfl,rfl,rfl⟩
def lR(l:List Bool)(i:Nat):PF:=[(1,fslN (bools l)),(2,.ptr 0 0 0),(5,.msl 1 0 l.length 1),(6,.int .i64 (i:Int))]
theorem A2I(G:T 40=zsq R0)(hc:∀c∈m.fs,GOk c)(H:m.fs.length=l.length)(I:l.length<=10000)(ho:o.length=l.length)(hi:i<l.length):evP ⟨env,T,A0⟩ (.code Zl (lR l i) ⟨[.row 1 [.agg [fslN (m.gs.map Glo.F),fslN (m.fs.map Cod.F)]] 2,.row 0 (bools o) 1],0,[]⟩)=zsq (.ok .normal (lR l (i+1)) ⟨[.row 1 [.agg [fslN (m.gs.map Glo.F),fslN (m.fs.map Cod.F)]] 2,.row 0 (bools (rN m l i o l.length)) 1],0,[]⟩):=by
 have C:decide ((i:Int)<(l.length:Int))=zt:=by simp[hi]
 have Q:=A1 (i:=i) (by omega);have D:=E2 l;have h0:=M2 (P:=⟨env,T,A0⟩) (c:=p23b0) (fun k=>(lQ l i k,⟨[.row 1 [.agg [fslN (m.gs.map Glo.F),fslN (m.fs.map Cod.F)]] 2,.row 0 (bools (rN m l i o k)) 1],0,[]⟩)) l.length fun k J=>by rw[Vk];exact A2G G hc H I (by rw[Rv,ho]) hi J
 obtain⟨fr',e,p1,p2,p3,p4⟩:=A2H (T:=T) (l:=l) (i:=i) (K:=⟨[.row 1 [.agg [fslN (m.gs.map Glo.F),fslN (m.fs.map Cod.F)]] 2,.row 0 (bools (rN m l i o l.length)) 1],0,[]⟩);have h1:=h0.trans (loop_exit e);unfold lQ at h1;simp only[show((0:Nat):Int)=0 from rfl,show rN m l i o 0=o from rfl]at h1;unfold Zl lR;generalize p23b0=b0 at *;generalize bools l=bl at *;simp only[C,Q,D,h1,p1,p2,p3,p4,D2,F7,F8,F9,G0,XP,seval]
theorem A2J{K:PK}:∃fr',evP ⟨env,T,A0⟩ (.code Zl (lR l l.length) K)=zsq (.ok (.exit 0) fr' K)/\lookP fr' 5=.msl 1 0 l.length 1:=by
 have C:decide ((l.length:Int)<(l.length:Int))=zf:=by simp
 have D:=E2 l;unfold Zl lR;generalize bools l=bl at *;simp only[C,D,D2,F7,F8,F9,G0,XP,seval];exact⟨_,rfl,rfl⟩
end
theorem Nx(C:T 40=zsq R0){m:Modl}{l:List Bool}(H:(∀c∈m.fs,GOk c)/\m.fs.length=l.length/\l.length<=10000):AM.Comes ⟨env,T,A0⟩ 23 [m.F,fslN (bools l)] [ownd 0 1 (bools (nxD m l))]:=by
 obtain⟨hc,I,J⟩:=H;have hz:=fun K=>cT (n:=l.length) (K:=K) (by omega)
 have h0:=M2 (P:=⟨env,T,A0⟩) (c:=Zl) (fun i=>(lR l i,⟨[.row 1 [.agg [fslN (m.gs.map Glo.F),fslN (m.fs.map Cod.F)]] 2,.row 0 (bools (vP m l i)) 1],0,[]⟩)) l.length fun i hi=>by rw[Vl];exact A2I C hc I J (La i) hi
 obtain⟨fr',e,p⟩:=A2J (T:=T) (l:=l) (K:=⟨[.row 1 [.agg [fslN (m.gs.map Glo.F),fslN (m.fs.map Cod.F)]] 2,.row 0 (bools (vP m l l.length)) 1],0,[]⟩);have h1:=h0.trans (loop_exit e);unfold lR at h1;simp only[show((0:Nat):Int)=0 from rfl,show vP m l 0=zqa l.length zf from rfl]at h1;have D:=E2 l;have G:(bools (nxD m l)).length=l.length:=by rw[E2];exact La _
 refine⟨[.msl 0 0 l.length 1],⟨[.row 0 (bools (nxD m l)) 1],0,[]⟩,?_,?_⟩
 . rw[A3 (c:=SD) (nt:=43) (rs:=[.tmp 4]) rfl (by simp)];unfold SD
   unfold K0 Modl.F;unfold nxD;simp only[hz,h1,p,D,Fl,XP,seval]
 . exact C6 (.inr ⟨by rw[G],rfl⟩)
def K9:=X6 (fun p:(Modl)×(List Bool)=>[p.1.F,fslN (bools p.2)]) (fun p=>[ownd 0 1 (bools (nxD p.1 p.2))]) (fun p=>(∀c∈p.1.fs,GOk c)/\p.1.fs.length=p.2.length/\p.2.length<=10000)
theorem Yf(C:T 23=zsq K9){m:Modl}{l:List Bool}{K:PK}{args:List AV}(D:viewAs K.os args=zsq [m.F,fslN (bools l)])(G:(∀c∈m.fs,GOk c)/\m.fs.length=l.length/\l.length<=10000):evP ⟨env,T,A0⟩ (.call 23 args K)=zsq (.val (openTs K.os.length [ownd 0 1 (bools (nxD m l))]).1 ⟨K.os++(openTs K.os.length [ownd 0 1 (bools (nxD m l))]).2,K.ext,K.tch⟩):=B4 C D (B6 (a:=fun p:(Modl)×(List Bool)=>[p.1.F,fslN (bools p.2)]) (r:=fun p=>[ownd 0 1 (bools (nxD p.1 p.2))]) (fun x y e=>by simp only[VJ]at e;simp only[e]) (m,l) G) (by generalize (refsL args).isEmpty=z;simp only[VN,XP,seval])
theorem Yg(C:T 40=zsq R0)(D:PEok ⟨env,T,A0⟩):TC env 23 K9:=B7 D fun p h=>Nx C h
def l0M(m:Modl):List Bool:=(zqa m.fs.length zf).set (mainI m).toNat zt
theorem l0M_len(m:Modl):(l0M m).length=m.fs.length:=by simp[l0M]
theorem Rx(m:Modl)(l:List Bool):(nxD m l).length=l.length:=La _
def vQ(m:Modl):Nat->Nat->List Bool->Int×Bool
 |0,_,_=>(0,zf)
 |f+1,n,l=>if l.any id=zt then(if m.fs.length<n+1 then(0,zf)else vQ m f (n+1) (nxD m l))else((n:Int),zt)
def jH(m:Modl):Int×Bool:=vQ m (m.fs.length+2) 0 (l0M m)
section
variable {m:Modl}{i k n:Nat}{l o:List Bool}{fr:PF}
theorem zO(C:T 22=zsq U9){l:List Bool}(h:l.length<=10000){K:PK}{id:Nat}(h1:rowOf K.os 6 id=zsq (0,bools l,1)):evP ⟨env,T,A0⟩ (.call 22 [.msl id 0 l.length 1] K)=zsq (.val [.bool (l.any _root_.id)] ⟨K.os++[],K.ext,K.tch⟩):=by
 have D:viewAs K.os [.msl id 0 l.length 1]=zsq [fslN (bools l)]:=by
  rw[va_cons,va_nil,vv_msl,h1];show consO (if 0=0/\1=1/\0+l.length<=(bools l).length then(match frzL (((bools l).drop 0).take l.length)with|some es=>zsq (fslN es)|none=>zn)else zn) _=_
  rw[if_pos ⟨rfl,rfl,by rw[E2];omega⟩,zqz,zkx (by rw[E2];exact zjc _),frzL_bools];rfl
 exact Yd C D h
theorem nV(C:T 23=zsq K9){l:List Bool}(D:(∀c∈m.fs,GOk c)/\m.fs.length=l.length/\l.length<=10000){K:PK}{id:Nat}(h1:rowOf K.os 6 id=zsq (0,bools l,1)):evP ⟨env,T,A0⟩ (.call 23 [.agg [fslN (m.gs.map Glo.F),fslN (m.fs.map Cod.F)],.msl id 0 l.length 1] K)=zsq (.val [.msl K.os.length 0 l.length 1] ⟨K.os++[.row 0 (bools (nxD m l)) 1],K.ext,K.tch⟩):=by
 have G:viewAs K.os [m.F,.msl id 0 l.length 1]=zsq [m.F,fslN (bools l)]:=by
  rw[va_cons,va_cons,va_nil,Modl.viewF,vv_msl,h1];show consO _ (consO (if 0=0/\1=1/\0+l.length<=(bools l).length then(match frzL (((bools l).drop 0).take l.length)with|some es=>zsq (fslN es)|none=>zn)else zn) _)=_
  rw[if_pos ⟨rfl,rfl,by rw[E2];omega⟩,zqz,zkx (by rw[E2];exact zjc _),frzL_bools];rfl
 have h:=Yf C G D;have e:(bools (nxD m l)).length=l.length:=by rw[E2,Rx]
 have e2:AV.msl K.os.length 0 l.length 1=.msl K.os.length 0 (bools (nxD m l)).length 1:=by rw[e]
 rw[e2];exact h
def Vm(N:Nat)(n:Nat):PF:=[(1,.ptr 0 0 0),(4,.msl 1 0 N 1),(5,.int .i64 (n:Int))]
theorem rd_l(D:T 22=zsq U9)(G:T 23=zsq K9)(hc:∀c∈m.fs,GOk c)(Q:m.fs.length<=10000):∀(f n:Nat)(l:List Bool),n+f=m.fs.length+2->n<=m.fs.length->l.length=m.fs.length ->
 ((vQ m f n l).2=zt/\∃fr' K',evP ⟨env,T,A0⟩ (.code (.loop bZ) (Vm m.fs.length n) ⟨[.row 1 [.agg [fslN (m.gs.map Glo.F),fslN (m.fs.map Cod.F)]] 2,.row 0 (bools l) 1],0,[]⟩)=zsq (.ok (.exit 0) fr' K')/\lookP fr' 5=.int .i64 (vQ m f n l).1/\K'.ext=0/\K'.tch=[])\/
 (vQ m f n l=(0,zf)/\∃fr',evP ⟨env,T,A0⟩ (.code (.loop bZ) (Vm m.fs.length n) ⟨[.row 1 [.agg [fslN (m.gs.map Glo.F),fslN (m.fs.map Cod.F)]] 2,.row 0 (bools l) 1],0,[]⟩)=zsq (.ok .ret fr' ⟨[],0,[]⟩)/\lookP fr' 2=.int .i64 0/\lookP fr' 3=.bool zf)
 |0,n,l,e,hn,hl=>by omega
 |f + 1,n,l,e,hn,hl=>by
  have ts:=fun K id h=>zO (K:=K) (id:=id) D (l:=l) (by omega) h
  rw[hl]at ts;have H:=fun K id h=>nV (K:=K) (id:=id) G (m:=m) (l:=l) ⟨hc,hl.symm,by omega⟩ h
  rw[hl]at H;have I:=A1 (i:=n) (by omega);rw[vQ];cases ha:l.any id with
  |false=>
   refine .inl ⟨rfl,?_⟩;rw[ha]at ts
   have:∃fr',evP ⟨env,T,A0⟩ (.code bZ (Vm m.fs.length n) ⟨[.row 1 [.agg [fslN (m.gs.map Glo.F),fslN (m.fs.map Cod.F)]] 2,.row 0 (bools l) 1],0,[]⟩)=zsq (.ok (.exit 0) fr' ⟨[.row 1 [.agg [fslN (m.gs.map Glo.F),fslN (m.fs.map Cod.F)]] 2,.row 0 (bools l) 1],0,[]⟩)/\lookP fr' 5=.int .i64 (n:Int):=by
    unfold bZ Vm;generalize bools l=J at *;simp only[ts,D2,F7,F8,F9,G0,XP,seval];exact⟨_,rfl,rfl⟩
   obtain⟨fr',h1,h2⟩:=this;exact⟨fr',_,loop_exit h1,h2,rfl,rfl⟩
  |true=>
   rw[ha]at ts;rw[if_pos rfl];by_cases hb:m.fs.length<n+1
   . rw [if_pos hb]
     refine .inr ⟨rfl,?_⟩;have C:decide ((m.fs.length:Int)<((n+1:Nat):Int))=zt:=by simp;omega
     have:∃fr',evP ⟨env,T,A0⟩ (.code bZ (Vm m.fs.length n) ⟨[.row 1 [.agg [fslN (m.gs.map Glo.F),fslN (m.fs.map Cod.F)]] 2,.row 0 (bools l) 1],0,[]⟩)=zsq (.ok .ret fr' ⟨[],0,[]⟩)/\lookP fr' 2=.int .i64 0/\lookP fr' 3=.bool zf:=by
      unfold bZ Vm;generalize bools l=J at *;simp only[ts,I,C,zqb,D2,F7,F8,F9,G0,XP,seval];exact⟨_,rfl,rfl,rfl⟩
     obtain⟨fr',h1,h2⟩:=this;exact⟨fr',Y2 h1,h2⟩
   . rw [if_neg hb]
     have C:decide ((m.fs.length:Int)<((n+1:Nat):Int))=zf:=by simp;omega
     have h1:evP ⟨env,T,A0⟩ (.code bZ (Vm m.fs.length n) ⟨[.row 1 [.agg [fslN (m.gs.map Glo.F),fslN (m.fs.map Cod.F)]] 2,.row 0 (bools l) 1],0,[]⟩)=zsq (.ok .normal (Vm m.fs.length (n+1)) ⟨[.row 1 [.agg [fslN (m.gs.map Glo.F),fslN (m.fs.map Cod.F)]] 2,.row 0 (bools (nxD m l)) 1],0,[]⟩):=by
      unfold bZ Vm;generalize bools l=J at *;simp only[ts,H,I,C,zqb,D2,F7,F8,F9,G0,XP,seval]
     rw[loop_more h1];exact rd_l D G hc Q f (n+1) (nxD m l) (by omega) (by omega) (by rw[Rx,hl])
end
theorem Lb(C:T 22=zsq U9)(D:T 23=zsq K9)(G:T 21=zsq U8){m:Modl}(hk:(∀c∈m.fs,GOk c)/\m.fs.length<=10000/\0<=mainI m/\mainI m<m.fs.length):AM.Comes ⟨env,T,A0⟩ 8 [m.F] [.int .i64 (jH m).1,.bool (jH m).2]:=by
 obtain⟨hc,V,a1,a2⟩:=hk;have tm:=fun K=>Qb (K:=K) G V
 have hz:=fun K=>cT (n:=m.fs.length) (K:=K) (by omega)
 obtain⟨mi,J⟩:=zjj a1;have H:mi<m.fs.length:=by omega
 rw[J]at tm;have hg:mi<(bools (zqa m.fs.length zf)).length:=by rw[E2];simpa using H
 have U:(bools (zqa m.fs.length zf)).set mi (.bool zt)=bools (l0M m):=by unfold l0M;rw[J,Ck];rfl
 have I:=G1 (k:=zqa m.fs.length zf) (v:=mi) (by simpa using H);generalize bools (zqa m.fs.length zf)=bz at *;unfold Modl.F at tm;rcases rd_l C D hc V (m.fs.length+2) 0 (l0M m) (by omega) (zjg _) (l0M_len m)with⟨e,fr',K',h1,h2,Q,Y⟩|⟨e,fr',h1,h2,Q⟩
 . have e:(jH m).2=zt:=e
   have h2:lookP fr' 5=.int .i64 (jH m).1:=h2;obtain⟨os,ex,tc⟩:=K';simp only at Q Y;subst Q Y;rw[e];refine⟨[.int .i64 (jH m).1,.bool zt],⟨[],0,[]⟩,?_,A9 rfl zqk rfl rfl rfl⟩;unfold Vm at h1;simp only[show((0:Nat):Int)=0 from rfl]at h1;rw[A3 (c:=p8) (nt:=27) (rs:=[.tmp 2,.tmp 3]) rfl (by simp)];unfold p8;unfold K0 Modl.F;simp only[hz,tm,hg,I,U,h1,h2,H,Fl,zqb,XP,seval]
 . have e:jH m=(0,zf):=e
   rw[e];refine⟨[.int .i64 0,.bool zf],⟨[],0,[]⟩,?_,A9 rfl zqk rfl rfl rfl⟩;unfold Vm at h1;simp only[show((0:Nat):Int)=0 from rfl]at h1;rw[A3 (c:=p8) (nt:=27) (rs:=[.tmp 2,.tmp 3]) rfl (by simp)];unfold p8;unfold K0 Modl.F;simp only[hz,tm,hg,I,U,h1,h2,Q,H,Fl,zqb,XP,seval]
def w7:=X6 (fun p:(Modl)=>[p.F]) (fun p=>[.int .i64 (jH p).1,.bool (jH p).2]) (fun p=>(∀c∈p.fs,GOk c)/\p.fs.length<=10000/\0<=mainI p/\mainI p<p.fs.length)
theorem dC(C:T 8=zsq w7){m:Modl}{K:PK}(D:(∀c∈m.fs,GOk c)/\m.fs.length<=10000/\0<=mainI m/\mainI m<m.fs.length):evP ⟨env,T,A0⟩ (.call 8 [m.F] K)=zsq (.val (openTs K.os.length [.int .i64 (jH m).1,.bool (jH m).2]).1 ⟨K.os++(openTs K.os.length [.int .i64 (jH m).1,.bool (jH m).2]).2,K.ext,K.tch⟩):=B4 C (by simp only[VV,XP,seval]) (B6 (a:=fun p:(Modl)=>[p.F]) (r:=fun p=>[.int .i64 (jH p).1,.bool (jH p).2]) (fun x y e=>by simp only[VJ]at e;simp only[e]) (m) D) (by simp only[VN,XP,seval])
theorem Vn(C:T 22=zsq U9)(D:T 23=zsq K9)(G:T 21=zsq U8)(H:PEok ⟨env,T,A0⟩):TC env 8 w7:=B7 H fun p h=>Lb C D G h
def ED(mo l:List Bool)(k:Nat):List Bool:=l.set k (l.getD k zf||mo.getD k zf)
def orI(mo l:List Bool)(k:Nat):List Bool:=(zkb k).foldl (ED mo) l
def In(m:Modl):Nat->List Bool
 |0=>l0M m
 |j+1=>orI (nxD m (In m j)) (In m j) m.fs.length
def neD(m:Modl):List Bool:=In m m.fs.length
theorem Lc{mo l:List Bool}{k:Nat}:orI mo l (k+1)=ED mo (orI mo l k) k:=by unfold orI;rw[zkg,zkh];rfl
theorem Ry{mo l:List Bool}:∀k,(orI mo l k).length=l.length
 |0=>rfl
 |k+1=>by rw[Lc,ED,zqi,Ry k]
theorem j7(m:Modl):∀j,(In m j).length=m.fs.length
 |0=>l0M_len m
 |j+1=>by rw[In,Ry,j7 m j]
section
variable {m:Modl}{i k n N:Nat}{l mo:List Bool}{fr:PF}
def lS(N n k:Nat):PF:=[(1,.ptr 0 0 0),(3,.msl 1 0 N 1),(4,.int .i64 (n:Int)),(5,.msl 2 0 N 1),(6,.int .i64 (k:Int))]
theorem A2K(hl:l.length=N)(ho:mo.length=N)(hs:N<=10000)(H:k<N):evP ⟨env,T,A0⟩ (.code p28b0 (lS N n k) ⟨[.row 1 [.agg [fslN (m.gs.map Glo.F),fslN (m.fs.map Cod.F)]] 2,.row 0 (bools l) 1,.row 0 (bools mo) 1],0,[]⟩)=zsq (.ok .normal (lS N n (k+1)) ⟨[.row 1 [.agg [fslN (m.gs.map Glo.F),fslN (m.fs.map Cod.F)]] 2,.row 0 (bools (ED mo l k)) 1,.row 0 (bools mo) 1],0,[]⟩):=by
 have D:decide ((k:Int)<(N:Int))=zt:=by simp[H]
 have I:=A1 (i:=k) (by omega);have hg:=G1 (k:=l) (v:=k) (by omega);have C:=G1 (k:=mo) (v:=k) (by omega);have G:k<(bools l).length:=by rw[E2];omega
 unfold ED;rw[<-Ck];unfold p28b0 lS;generalize bools l=bl at *;generalize bools mo=bo at *;generalize l.getD k zf=x at hg|-;generalize mo.getD k zf=y at C|-;cases x<;>cases y <;>
  simp only[D,I,hg,C,G,H,D2,F7,F8,F9,G0,XP,seval]
theorem A2L{K:PK}:∃fr',evP ⟨env,T,A0⟩ (.code p28b0 (lS N n N) K)=zsq (.ok (.exit 2) fr' K)/\lookP fr' 1=.ptr 0 0 0/\lookP fr' 3=.msl 1 0 N 1/\lookP fr' 4=.int .i64 (n:Int):=by
 have C:decide ((N:Int)<(N:Int))=zf:=by simp
 unfold p28b0 lS;simp only[C,D2,F7,F8,F9,G0,XP,seval];exact⟨_,rfl,rfl,rfl,rfl⟩
def lT(N n:Nat):PF:=[(1,.ptr 0 0 0),(3,.msl 1 0 N 1),(4,.int .i64 (n:Int))]
theorem A2M(G:T 23=zsq K9)(hc:∀c∈m.fs,GOk c)(hl:l.length=m.fs.length)(H:m.fs.length<=10000)(hn:n<m.fs.length):evP ⟨env,T,A0⟩ (.code Zm (lT m.fs.length n) ⟨[.row 1 [.agg [fslN (m.gs.map Glo.F),fslN (m.fs.map Cod.F)]] 2,.row 0 (bools l) 1],0,[]⟩)=zsq (.ok .normal (lT m.fs.length (n+1)) ⟨[.row 1 [.agg [fslN (m.gs.map Glo.F),fslN (m.fs.map Cod.F)]] 2,.row 0 (bools (orI (nxD m l) l m.fs.length)) 1],0,[]⟩):=by
 have C:decide ((n:Int)<(m.fs.length:Int))=zt:=by simp[hn]
 have J:=A1 (i:=n) (by omega);have D:=fun K id h=>nV (K:=K) (id:=id) G (m:=m) (l:=l) ⟨hc,hl.symm,by omega⟩ h
 rw[hl]at D;have h0:=M2 (P:=⟨env,T,A0⟩) (c:=p28b0) (fun k=>(lS m.fs.length n k,⟨[.row 1 [.agg [fslN (m.gs.map Glo.F),fslN (m.fs.map Cod.F)]] 2,.row 0 (bools (orI (nxD m l) l k)) 1,.row 0 (bools (nxD m l)) 1],0,[]⟩)) m.fs.length fun k I=>by rw[Lc];exact A2K (by rw[Ry,hl]) (by rw[Rx,hl]) H I
 obtain⟨fr',e,p1,p2,p3⟩:=A2L (T:=T) (N:=m.fs.length) (n:=n) (K:=⟨[.row 1 [.agg [fslN (m.gs.map Glo.F),fslN (m.fs.map Cod.F)]] 2,.row 0 (bools (orI (nxD m l) l m.fs.length)) 1,.row 0 (bools (nxD m l)) 1],0,[]⟩);have h1:=h0.trans (loop_exit e);unfold lS at h1;simp only[show((0:Nat):Int)=0 from rfl,show orI (nxD m l) l 0=l from rfl]at h1;unfold Zm lT;generalize p28b0=b0 at *;generalize bools (orI (nxD m l) l m.fs.length)=b2 at *;generalize bools (nxD m l)=b3 at *;generalize bools l=bl at *;simp only[C,J,D,h1,p1,p2,p3,zqb,D2,F7,F8,F9,G0,XP,seval]
theorem A2N{K:PK}(hK:rowOf K.os 6 0=zsq (1,[.agg [fslN (m.gs.map Glo.F),fslN (m.fs.map Cod.F)]],2)):∃fr',evP ⟨env,T,A0⟩ (.code Zm (lT m.fs.length m.fs.length) ⟨[.row 1 [.agg [fslN (m.gs.map Glo.F),fslN (m.fs.map Cod.F)]] 2,.row 0 (bools l) 1],0,[]⟩)=zsq (.ok (.exit 0) fr' ⟨[.row 1 [.agg [fslN (m.gs.map Glo.F),fslN (m.fs.map Cod.F)]] 2,.row 0 (bools l) 1],0,[]⟩)/\lookP fr' 3=.msl 1 0 m.fs.length 1:=by
 have C:decide ((m.fs.length:Int)<(m.fs.length:Int))=zf:=by simp
 unfold Zm lT;simp only[C,zqb,D2,F7,F8,F9,G0,XP,seval];exact⟨_,rfl,rfl⟩
end
theorem Ip(C:T 23=zsq K9)(D:T 21=zsq U8){m:Modl}(U:(∀c∈m.fs,GOk c)/\m.fs.length<=10000/\0<=mainI m/\mainI m<m.fs.length):AM.Comes ⟨env,T,A0⟩ 28 [m.F] [ownd 0 1 (bools (neD m))]:=by
 obtain⟨hc,Q,a1,a2⟩:=U;have tm:=fun K=>Qb (K:=K) D Q
 have hz:=fun K=>cT (n:=m.fs.length) (K:=K) (by omega)
 obtain⟨mi,H⟩:=zjj a1;have G:mi<m.fs.length:=by omega
 rw[H]at tm;have hg:mi<(bools (zqa m.fs.length zf)).length:=by rw[E2];simpa using G
 have Y:(bools (zqa m.fs.length zf)).set mi (.bool zt)=bools (l0M m):=by unfold l0M;rw[H,Ck];rfl
 have I:=G1 (k:=zqa m.fs.length zf) (v:=mi) (by simpa using G);generalize bools (zqa m.fs.length zf)=bz at *;unfold Modl.F at tm;have h0:=M2 (P:=⟨env,T,A0⟩) (c:=Zm) (fun j=>(lT m.fs.length j,⟨[.row 1 [.agg [fslN (m.gs.map Glo.F),fslN (m.fs.map Cod.F)]] 2,.row 0 (bools (In m j)) 1],0,[]⟩)) m.fs.length fun j V=>A2M C hc (j7 m j) Q V
 obtain⟨fr',e,p⟩:=A2N (T:=T) (m:=m) (l:=In m m.fs.length) (K:=⟨[.row 1 [.agg [fslN (m.gs.map Glo.F),fslN (m.fs.map Cod.F)]] 2],0,[]⟩) rfl;have h1:=h0.trans (loop_exit e);unfold lT at h1;simp only[show((0:Nat):Int)=0 from rfl,show In m 0=l0M m from rfl]at h1;have J:(bools (neD m)).length=m.fs.length:=by rw[E2];exact j7 m _
 refine⟨[.msl 0 0 m.fs.length 1],⟨[.row 0 (bools (neD m)) 1],0,[]⟩,?_,C6 (.inr ⟨by rw[J],rfl⟩)⟩;rw[A3 (c:=SG) (nt:=45) (rs:=[.tmp 2]) rfl (by simp)];unfold SG;unfold K0 Modl.F neD;simp only[hz,tm,hg,I,Y,h1,p,G,Fl,zqb,XP,seval]
def Y1:=X6 (fun p:(Modl)=>[p.F]) (fun p=>[ownd 0 1 (bools (neD p))]) (fun p=>(∀c∈p.fs,GOk c)/\p.fs.length<=10000/\0<=mainI p/\mainI p<p.fs.length)
theorem Yh(C:T 28=zsq Y1){m:Modl}{K:PK}(D:(∀c∈m.fs,GOk c)/\m.fs.length<=10000/\0<=mainI m/\mainI m<m.fs.length):evP ⟨env,T,A0⟩ (.call 28 [m.F] K)=zsq (.val (openTs K.os.length [ownd 0 1 (bools (neD m))]).1 ⟨K.os++(openTs K.os.length [ownd 0 1 (bools (neD m))]).2,K.ext,K.tch⟩):=B4 C (by simp only[VV,XP,seval]) (B6 (a:=fun p:(Modl)=>[p.F]) (r:=fun p=>[ownd 0 1 (bools (neD p))]) (fun x y e=>by simp only[VJ]at e;simp only[e]) (m) D) (by simp only[VN,XP,seval])
theorem Ra(C:T 23=zsq K9)(D:T 21=zsq U8)(G:PEok ⟨env,T,A0⟩):TC env 28 Y1:=B7 G fun p h=>Ip C D h
section
variable {gs fs Bs Cs nd R Os:List AV}{pl:List Int}{x:Ins}{nm:List UInt8}{ty ps e1 e2 e3 e4:Int}{i k j n nr nb ng nj nv:Nat}{b:Blk}{bs:List Blk}{c:Cod}
def s4(n i k j:Nat):PF:=[(1,.ptr 0 0 0),(2,.ptr 1 0 0),(3,.msl 2 0 n 1),(4,.msl 3 0 n 1),(7,.ptr 4 0 0),(8,.int .i64 (i:Int)),(9,.ptr 5 0 0),(10,.int .i64 (k:Int)),(11,.int .i64 (j:Int))]
def Hd(n i k:Nat):PF:=[(1,.ptr 0 0 0),(2,.ptr 1 0 0),(3,.msl 2 0 n 1),(4,.msl 3 0 n 1),(7,.ptr 4 0 0),(8,.int .i64 (i:Int)),(9,.ptr 5 0 0),(10,.int .i64 (k:Int))]
theorem A2O(Q:Bs[k]?=zsq (AV.agg [ownd 0 8 Cs,.int .i64 e1,.int .i64 e2,.int .i64 e3,.int .i64 e4]))(G:Cs[j]?=zsq x.O)(H:k<nb)(hs:Cs.length<=10000000)(C:x.op=9)(U:x.n=(nv:Int))(hp:pl.length=n)(I:nv<n):evP ⟨env,T,A0⟩ (.code p10b1 (s4 n i k j) ⟨[.row 1 [.agg [fslN gs,fslN fs]] 2,.row 1 [.agg [.nilsl,.nilsl]] 2,.row 0 nd 1,.row 0 (ints pl) 1,.row 1 [.agg [.msl 6 0 ng 4,.nilsl]] 2,.row 1 [.agg [.str nm,.int .i64 ty,.int .i64 ps,.msl 7 0 nr 1,.msl 8 0 nb 5]] 5,.row 0 gs 4,.row 0 R 1,.row 0 Bs 5],0,[]⟩)=zsq (.ok .normal (s4 n i k (j+1)) ⟨[.row 1 [.agg [fslN gs,fslN fs]] 2,.row 1 [.agg [.nilsl,.nilsl]] 2,.row 0 nd 1,.row 0 (ints pl) 1,.row 1 [.agg [.msl 6 0 ng 4,.nilsl]] 2,.row 1 [.agg [.str nm,.int .i64 ty,.int .i64 ps,.msl 7 0 nr 1,.msl 8 0 nb 5]] 5,.row 0 gs 4,.row 0 R 1,.row 0 (Bs.set k (AV.agg [ownd 0 8 (Cs.set j (relI pl x).O),.int .i64 e1,.int .i64 e2,.int .i64 e3,.int .i64 e4])) 5],0,[]⟩):=by
 have Y:k<Bs.length:=(zqh.1 Q).1;have V:j<Cs.length:=(zqh.1 G).1;have J:decide ((j:Int)<(Cs.length:Int))=zt:=by simp[V]
 have hw:=A1 (i:=j) (by omega);have hg:=L3 (k:=pl) (v:=nv) (by omega);have D:(relI pl x).O=(AV.agg [.int .i64 x.op,.int .i64 x.ty,.int .i64 x.dst,.int .i64 x.a,.int .i64 x.b,.int .i64 (pl.getD nv 0),.str x.s,ownd 0 1 (ints x.args)]):=by
  unfold relI;rw[if_pos C,U];rfl
 rw[D];simp only[Ins.O]at G;rw[U]at G;generalize pl.getD nv 0=y at *;generalize ints pl=ip at *;unfold p10b1 s4;simp only[J,hw,Q,G,hg,H,Y,V,I,eq_true C,zqg,zqi,D2,XP,seval]
 done
theorem A2P(J:Bs[k]?=zsq (AV.agg [ownd 0 8 Cs,.int .i64 e1,.int .i64 e2,.int .i64 e3,.int .i64 e4]))(C:Cs[j]?=zsq x.O)(D:k<nb)(hs:Cs.length<=10000000)(G:¬x.op=9):evP ⟨env,T,A0⟩ (.code p10b1 (s4 n i k j) ⟨[.row 1 [.agg [fslN gs,fslN fs]] 2,.row 1 [.agg [.nilsl,.nilsl]] 2,.row 0 nd 1,.row 0 (ints pl) 1,.row 1 [.agg [.msl 6 0 ng 4,.nilsl]] 2,.row 1 [.agg [.str nm,.int .i64 ty,.int .i64 ps,.msl 7 0 nr 1,.msl 8 0 nb 5]] 5,.row 0 gs 4,.row 0 R 1,.row 0 Bs 5],0,[]⟩)=zsq (.ok .normal (s4 n i k (j+1)) ⟨[.row 1 [.agg [fslN gs,fslN fs]] 2,.row 1 [.agg [.nilsl,.nilsl]] 2,.row 0 nd 1,.row 0 (ints pl) 1,.row 1 [.agg [.msl 6 0 ng 4,.nilsl]] 2,.row 1 [.agg [.str nm,.int .i64 ty,.int .i64 ps,.msl 7 0 nr 1,.msl 8 0 nb 5]] 5,.row 0 gs 4,.row 0 R 1,.row 0 Bs 5],0,[]⟩):=by
 have I:j<Cs.length:=(zqh.1 C).1;have H:decide ((j:Int)<(Cs.length:Int))=zt:=by simp[I]
 have Q:=A1 (i:=j) (by omega);simp only[Ins.O]at C;generalize ints pl=ip at *;unfold p10b1 s4;simp only[H,Q,J,C,D,I,G,D2,XP,seval]
 done
theorem A2Q(G:Bs[k]?=zsq (AV.agg [ownd 0 8 Cs,.int .i64 e1,.int .i64 e2,.int .i64 e3,.int .i64 e4]))(C:k<nb):∃fr',evP ⟨env,T,A0⟩ (.code p10b1 (s4 n i k Cs.length) ⟨[.row 1 [.agg [fslN gs,fslN fs]] 2,.row 1 [.agg [.nilsl,.nilsl]] 2,.row 0 nd 1,.row 0 (ints pl) 1,.row 1 [.agg [.msl 6 0 ng 4,.nilsl]] 2,.row 1 [.agg [.str nm,.int .i64 ty,.int .i64 ps,.msl 7 0 nr 1,.msl 8 0 nb 5]] 5,.row 0 gs 4,.row 0 R 1,.row 0 Bs 5],0,[]⟩)=zsq (.ok (.exit 6) fr' ⟨[.row 1 [.agg [fslN gs,fslN fs]] 2,.row 1 [.agg [.nilsl,.nilsl]] 2,.row 0 nd 1,.row 0 (ints pl) 1,.row 1 [.agg [.msl 6 0 ng 4,.nilsl]] 2,.row 1 [.agg [.str nm,.int .i64 ty,.int .i64 ps,.msl 7 0 nr 1,.msl 8 0 nb 5]] 5,.row 0 gs 4,.row 0 R 1,.row 0 Bs 5]++[.sub 8 k 0],0,[]⟩)/\(lookP fr' 1=.ptr 0 0 0/\lookP fr' 2=.ptr 1 0 0/\lookP fr' 3=.msl 2 0 n 1/\lookP fr' 4=.msl 3 0 n 1/\lookP fr' 7=.ptr 4 0 0/\lookP fr' 8=.int .i64 (i:Int)/\lookP fr' 9=.ptr 5 0 0/\lookP fr' 10=.int .i64 (k:Int)):=by
 have D:decide ((Cs.length:Int)<(Cs.length:Int))=zf:=by simp
 generalize ints pl=ip at *;unfold p10b1 s4;simp only[D,G,C,D2,XP,seval];exact⟨_,rfl,rfl,rfl,rfl,rfl,rfl,rfl,rfl,rfl⟩
theorem A2R(Q:Bs[k]?=zsq (AV.agg [ownd 0 8 Cs,.int .i64 e1,.int .i64 e2,.int .i64 e3,.int .i64 e4]))(G:Cs[j]?=zsq x.O)(H:k<nb)(hs:Cs.length<=10000000)(C:x.op=9)(U:x.n=(nv:Int))(hp:pl.length=n)(I:nv<n):evP ⟨env,T,A0⟩ (.code p10b1 (s4 n i k j) ⟨[.row 1 [.agg [fslN gs,fslN fs]] 2,.row 1 [.agg [.nilsl,.nilsl]] 2,.row 0 nd 1,.row 0 (ints pl) 1,.row 1 [.agg [.msl 6 0 ng 4,.msl 7 0 nj 5]] 2,.row 1 [.agg [.str nm,.int .i64 ty,.int .i64 ps,.msl 8 0 nr 1,.msl 9 0 nb 5]] 5,.row 0 gs 4,.row 0 Os 5,.row 0 R 1,.row 0 Bs 5],0,[]⟩)=zsq (.ok .normal (s4 n i k (j+1)) ⟨[.row 1 [.agg [fslN gs,fslN fs]] 2,.row 1 [.agg [.nilsl,.nilsl]] 2,.row 0 nd 1,.row 0 (ints pl) 1,.row 1 [.agg [.msl 6 0 ng 4,.msl 7 0 nj 5]] 2,.row 1 [.agg [.str nm,.int .i64 ty,.int .i64 ps,.msl 8 0 nr 1,.msl 9 0 nb 5]] 5,.row 0 gs 4,.row 0 Os 5,.row 0 R 1,.row 0 (Bs.set k (AV.agg [ownd 0 8 (Cs.set j (relI pl x).O),.int .i64 e1,.int .i64 e2,.int .i64 e3,.int .i64 e4])) 5],0,[]⟩):=by
 have Y:k<Bs.length:=(zqh.1 Q).1;have V:j<Cs.length:=(zqh.1 G).1;have J:decide ((j:Int)<(Cs.length:Int))=zt:=by simp[V]
 have hw:=A1 (i:=j) (by omega);have hg:=L3 (k:=pl) (v:=nv) (by omega);have D:(relI pl x).O=(AV.agg [.int .i64 x.op,.int .i64 x.ty,.int .i64 x.dst,.int .i64 x.a,.int .i64 x.b,.int .i64 (pl.getD nv 0),.str x.s,ownd 0 1 (ints x.args)]):=by
  unfold relI;rw[if_pos C,U];rfl
 rw[D];simp only[Ins.O]at G;rw[U]at G;generalize pl.getD nv 0=y at *;generalize ints pl=ip at *;unfold p10b1 s4;simp only[J,hw,Q,G,hg,H,Y,V,I,eq_true C,zqg,zqi,D2,XP,seval]
 done
theorem A2S(J:Bs[k]?=zsq (AV.agg [ownd 0 8 Cs,.int .i64 e1,.int .i64 e2,.int .i64 e3,.int .i64 e4]))(C:Cs[j]?=zsq x.O)(D:k<nb)(hs:Cs.length<=10000000)(G:¬x.op=9):evP ⟨env,T,A0⟩ (.code p10b1 (s4 n i k j) ⟨[.row 1 [.agg [fslN gs,fslN fs]] 2,.row 1 [.agg [.nilsl,.nilsl]] 2,.row 0 nd 1,.row 0 (ints pl) 1,.row 1 [.agg [.msl 6 0 ng 4,.msl 7 0 nj 5]] 2,.row 1 [.agg [.str nm,.int .i64 ty,.int .i64 ps,.msl 8 0 nr 1,.msl 9 0 nb 5]] 5,.row 0 gs 4,.row 0 Os 5,.row 0 R 1,.row 0 Bs 5],0,[]⟩)=zsq (.ok .normal (s4 n i k (j+1)) ⟨[.row 1 [.agg [fslN gs,fslN fs]] 2,.row 1 [.agg [.nilsl,.nilsl]] 2,.row 0 nd 1,.row 0 (ints pl) 1,.row 1 [.agg [.msl 6 0 ng 4,.msl 7 0 nj 5]] 2,.row 1 [.agg [.str nm,.int .i64 ty,.int .i64 ps,.msl 8 0 nr 1,.msl 9 0 nb 5]] 5,.row 0 gs 4,.row 0 Os 5,.row 0 R 1,.row 0 Bs 5],0,[]⟩):=by
 have I:j<Cs.length:=(zqh.1 C).1;have H:decide ((j:Int)<(Cs.length:Int))=zt:=by simp[I]
 have Q:=A1 (i:=j) (by omega);simp only[Ins.O]at C;generalize ints pl=ip at *;unfold p10b1 s4;simp only[H,Q,J,C,D,I,G,D2,XP,seval]
 done
theorem A2T(G:Bs[k]?=zsq (AV.agg [ownd 0 8 Cs,.int .i64 e1,.int .i64 e2,.int .i64 e3,.int .i64 e4]))(C:k<nb):∃fr',evP ⟨env,T,A0⟩ (.code p10b1 (s4 n i k Cs.length) ⟨[.row 1 [.agg [fslN gs,fslN fs]] 2,.row 1 [.agg [.nilsl,.nilsl]] 2,.row 0 nd 1,.row 0 (ints pl) 1,.row 1 [.agg [.msl 6 0 ng 4,.msl 7 0 nj 5]] 2,.row 1 [.agg [.str nm,.int .i64 ty,.int .i64 ps,.msl 8 0 nr 1,.msl 9 0 nb 5]] 5,.row 0 gs 4,.row 0 Os 5,.row 0 R 1,.row 0 Bs 5],0,[]⟩)=zsq (.ok (.exit 6) fr' ⟨[.row 1 [.agg [fslN gs,fslN fs]] 2,.row 1 [.agg [.nilsl,.nilsl]] 2,.row 0 nd 1,.row 0 (ints pl) 1,.row 1 [.agg [.msl 6 0 ng 4,.msl 7 0 nj 5]] 2,.row 1 [.agg [.str nm,.int .i64 ty,.int .i64 ps,.msl 8 0 nr 1,.msl 9 0 nb 5]] 5,.row 0 gs 4,.row 0 Os 5,.row 0 R 1,.row 0 Bs 5]++[.sub 9 k 0],0,[]⟩)/\(lookP fr' 1=.ptr 0 0 0/\lookP fr' 2=.ptr 1 0 0/\lookP fr' 3=.msl 2 0 n 1/\lookP fr' 4=.msl 3 0 n 1/\lookP fr' 7=.ptr 4 0 0/\lookP fr' 8=.int .i64 (i:Int)/\lookP fr' 9=.ptr 5 0 0/\lookP fr' 10=.int .i64 (k:Int)):=by
 have D:decide ((Cs.length:Int)<(Cs.length:Int))=zf:=by simp
 generalize ints pl=ip at *;unfold p10b1 s4;simp only[D,G,C,D2,XP,seval];exact⟨_,rfl,rfl,rfl,rfl,rfl,rfl,rfl,rfl,rfl⟩
theorem A2U(G:k<bs.length)(Q:pl.length=n)(U:Bo n b.code)(hs:b.code.length<=10000000)(D:j<b.code.length):evP ⟨env,T,A0⟩ (.code p10b1 (s4 n i k j) ⟨[.row 1 [.agg [fslN gs,fslN fs]] 2,.row 1 [.agg [.nilsl,.nilsl]] 2,.row 0 nd 1,.row 0 (ints pl) 1,.row 1 [.agg [.msl 6 0 ng 4,.nilsl]] 2,.row 1 [.agg [.str c.name,.int .i64 c.ty,.int .i64 c.ps,.msl 7 0 c.regs.length 1,.msl 8 0 bs.length 5]] 5,.row 0 gs 4,.row 0 (ints c.regs) 1,.row 0 ((bs.set k (mxB pl b j)).map Blk.O) 5],0,[]⟩)=zsq (.ok .normal (s4 n i k (j+1)) ⟨[.row 1 [.agg [fslN gs,fslN fs]] 2,.row 1 [.agg [.nilsl,.nilsl]] 2,.row 0 nd 1,.row 0 (ints pl) 1,.row 1 [.agg [.msl 6 0 ng 4,.nilsl]] 2,.row 1 [.agg [.str c.name,.int .i64 c.ty,.int .i64 c.ps,.msl 7 0 c.regs.length 1,.msl 8 0 bs.length 5]] 5,.row 0 gs 4,.row 0 (ints c.regs) 1,.row 0 ((bs.set k (mxB pl b (j+1))).map Blk.O) 5],0,[]⟩):=by
 have I:((bs.set k (mxB pl b j)).map Blk.O)[k]?=zsq (AV.agg [ownd 0 8 ((mixR (relI pl) b.code j).map Ins.O),.int .i64 b.e.kind,.int .i64 b.e.a,.int .i64 b.e.to,.int .i64 b.e.els]):=by
  rw[zqe,C4 G];rfl
 have J:((mixR (relI pl) b.code j).map Ins.O)[j]?=zsq (b.code[j]).O:=by rw[zqe,j5 D];rfl
 have hl:((mixR (relI pl) b.code j).map Ins.O).length=b.code.length:=by rw[zqb,mixR_len]
 by_cases C:b.code[j].op=9
 . obtain ⟨V,t1⟩:=U _ (zqd D) C
   obtain⟨nv,H⟩:=zjj V;have h:=A2O (T:=T) (gs:=gs) (fs:=fs) (nd:=nd) (R:=ints c.regs) (ng:=ng) (nr:=c.regs.length) (nb:=bs.length) (nm:=c.name) (ty:=c.ty) (ps:=c.ps) (pl:=pl) (n:=n) (i:=i) I J G (by omega) C H Q (by omega);refine h.trans ?_;have e1:((mixR (relI pl) b.code j).map Ins.O).set j (relI pl b.code[j]).O=(mixR (relI pl) b.code (j+1)).map Ins.O:=by rw[<-s3 D,zqj]
   have e2:((bs.set k (mxB pl b j)).map Blk.O).set k (AV.agg [ownd 0 8 (((mixR (relI pl) b.code j).map Ins.O).set j (relI pl b.code[j]).O),.int .i64 b.e.kind,.int .i64 b.e.a,.int .i64 b.e.to,.int .i64 b.e.els])=(bs.set k (mxB pl b (j+1))).map Blk.O:=by
    rw[e1,zqj,zqg,zqj];rfl
   rw[e2]
 . have h:=A2P (T:=T) (gs:=gs) (fs:=fs) (nd:=nd) (R:=ints c.regs) (ng:=ng) (nr:=c.regs.length) (nb:=bs.length) (nm:=c.name) (ty:=c.ty) (ps:=c.ps) (pl:=pl) (n:=n) (i:=i) I J G (by omega) C
   refine h.trans ?_;have e:mxB pl b (j+1)=mxB pl b j:=by unfold mxB;rw[cR D (by unfold relI;rw[if_neg C])]
   rw[e]
theorem A2V(C:k<bs.length)(hb:bs[k]?=zsq b)(D:pl.length=n)(G:Bo n b.code)(H:b.code.length<=10000000):∃fr',evP ⟨env,T,A0⟩ (.code (.loop p10b1) (s4 n i k 0) ⟨[.row 1 [.agg [fslN gs,fslN fs]] 2,.row 1 [.agg [.nilsl,.nilsl]] 2,.row 0 nd 1,.row 0 (ints pl) 1,.row 1 [.agg [.msl 6 0 ng 4,.nilsl]] 2,.row 1 [.agg [.str c.name,.int .i64 c.ty,.int .i64 c.ps,.msl 7 0 c.regs.length 1,.msl 8 0 bs.length 5]] 5,.row 0 gs 4,.row 0 (ints c.regs) 1,.row 0 (bs.map Blk.O) 5],0,[]⟩)=zsq (.ok (.exit 6) fr' ⟨[.row 1 [.agg [fslN gs,fslN fs]] 2,.row 1 [.agg [.nilsl,.nilsl]] 2,.row 0 nd 1,.row 0 (ints pl) 1,.row 1 [.agg [.msl 6 0 ng 4,.nilsl]] 2,.row 1 [.agg [.str c.name,.int .i64 c.ty,.int .i64 c.ps,.msl 7 0 c.regs.length 1,.msl 8 0 bs.length 5]] 5,.row 0 gs 4,.row 0 (ints c.regs) 1,.row 0 ((bs.set k (relB pl b)).map Blk.O) 5,.sub 8 k 0],0,[]⟩)/\(lookP fr' 1=.ptr 0 0 0/\lookP fr' 2=.ptr 1 0 0/\lookP fr' 3=.msl 2 0 n 1/\lookP fr' 4=.msl 3 0 n 1/\lookP fr' 7=.ptr 4 0 0/\lookP fr' 8=.int .i64 (i:Int)/\lookP fr' 9=.ptr 5 0 0/\lookP fr' 10=.int .i64 (k:Int)):=by
 have h:=M2 (P:=⟨env,T,A0⟩) (c:=p10b1) (fun j=>(s4 n i k j,⟨[.row 1 [.agg [fslN gs,fslN fs]] 2,.row 1 [.agg [.nilsl,.nilsl]] 2,.row 0 nd 1,.row 0 (ints pl) 1,.row 1 [.agg [.msl 6 0 ng 4,.nilsl]] 2,.row 1 [.agg [.str c.name,.int .i64 c.ty,.int .i64 c.ps,.msl 7 0 c.regs.length 1,.msl 8 0 bs.length 5]] 5,.row 0 gs 4,.row 0 (ints c.regs) 1,.row 0 ((bs.set k (mxB pl b j)).map Blk.O) 5],0,[]⟩)) b.code.length fun j I=>A2U C D G H I
 have J:bs.set k (mxB pl b 0)=bs:=by
  apply zqu;intro q;rw[zqm];split
  . rename_i e2;subst e2;exact(by first|(rw[if_pos C];exact hb.symm)|exact hb.symm)
  . rfl
 have e1:mxB pl b b.code.length=relB pl b:=by unfold mxB relB;rw[Ah]
 simp only[J,e1]at h;have Q:((bs.set k (relB pl b)).map Blk.O)[k]?=zsq (AV.agg [ownd 0 8 ((b.code.map (relI pl)).map Ins.O),.int .i64 b.e.kind,.int .i64 b.e.a,.int .i64 b.e.to,.int .i64 b.e.els]):=by
  rw[zqe,C4 C];rfl
 have hl:((b.code.map (relI pl)).map Ins.O).length=b.code.length:=by simp
 obtain⟨fr',h1,h2⟩:=A2Q (T:=T) (gs:=gs) (fs:=fs) (nd:=nd) (R:=ints c.regs) (ng:=ng) (nr:=c.regs.length) (nb:=bs.length) (nm:=c.name) (ty:=c.ty) (ps:=c.ps) (pl:=pl) (n:=n) (i:=i) Q C;rw[hl]at h1;exact⟨fr',h.trans (loop_exit h1),h2⟩
theorem A2W(D:k<bs.length)(hb:bs[k]?=zsq b)(G:pl.length=n)(H:Bo n b.code)(I:b.code.length<=10000000)(hl:bs.length<=10000000):evP ⟨env,T,A0⟩ (.code p10b2 (Hd n i k) ⟨[.row 1 [.agg [fslN gs,fslN fs]] 2,.row 1 [.agg [.nilsl,.nilsl]] 2,.row 0 nd 1,.row 0 (ints pl) 1,.row 1 [.agg [.msl 6 0 ng 4,.nilsl]] 2,.row 1 [.agg [.str c.name,.int .i64 c.ty,.int .i64 c.ps,.msl 7 0 c.regs.length 1,.msl 8 0 bs.length 5]] 5,.row 0 gs 4,.row 0 (ints c.regs) 1,.row 0 (bs.map Blk.O) 5],0,[]⟩)=zsq (.ok .normal (Hd n i (k+1)) ⟨[.row 1 [.agg [fslN gs,fslN fs]] 2,.row 1 [.agg [.nilsl,.nilsl]] 2,.row 0 nd 1,.row 0 (ints pl) 1,.row 1 [.agg [.msl 6 0 ng 4,.nilsl]] 2,.row 1 [.agg [.str c.name,.int .i64 c.ty,.int .i64 c.ps,.msl 7 0 c.regs.length 1,.msl 8 0 bs.length 5]] 5,.row 0 gs 4,.row 0 (ints c.regs) 1,.row 0 ((bs.set k (relB pl b)).map Blk.O) 5],0,[]⟩):=by
 have C:decide ((k:Int)<(bs.length:Int))=zt:=by simp[D]
 have J:=A1 (i:=k) (by omega);obtain⟨fr',h1,p1,p2,p3,p4,p5,p6,p7,p8⟩:=A2V (T:=T) (gs:=gs) (fs:=fs) (nd:=nd) (c:=c) (ng:=ng) (i:=i) D hb G H I;unfold s4 at h1;simp only[show((0:Nat):Int)=0 from rfl]at h1;unfold p10b2 Hd;generalize p10b1=b1 at *;generalize (bs.set k (relB pl b)).map Blk.O=B2 at *;generalize bs.map Blk.O=B1 at *;generalize ints pl=ip at *;generalize ints c.regs=rg at *;simp only[C,J,h1,p1,p2,p3,p4,p5,p6,p7,p8,D2,XP,seval]
theorem A2X{q:Nat}(D:q=bs.length):∃fr',evP ⟨env,T,A0⟩ (.code p10b2 (Hd n i q) ⟨[.row 1 [.agg [fslN gs,fslN fs]] 2,.row 1 [.agg [.nilsl,.nilsl]] 2,.row 0 nd 1,.row 0 (ints pl) 1,.row 1 [.agg [.msl 6 0 ng 4,.nilsl]] 2,.row 1 [.agg [.str c.name,.int .i64 c.ty,.int .i64 c.ps,.msl 7 0 c.regs.length 1,.msl 8 0 bs.length 5]] 5,.row 0 gs 4,.row 0 (ints c.regs) 1,.row 0 (bs.map Blk.O) 5],0,[]⟩)=zsq (.ok (.exit 4) fr' ⟨[.row 1 [.agg [fslN gs,fslN fs]] 2,.row 1 [.agg [.nilsl,.nilsl]] 2,.row 0 nd 1,.row 0 (ints pl) 1,.row 1 [.agg [.msl 6 0 ng 4,.nilsl]] 2,.row 1 [.agg [.str c.name,.int .i64 c.ty,.int .i64 c.ps,.msl 7 0 c.regs.length 1,.msl 8 0 bs.length 5]] 5,.row 0 gs 4,.row 0 (ints c.regs) 1,.row 0 (bs.map Blk.O) 5],0,[]⟩)/\(lookP fr' 1=.ptr 0 0 0/\lookP fr' 2=.ptr 1 0 0/\lookP fr' 3=.msl 2 0 n 1/\lookP fr' 4=.msl 3 0 n 1/\lookP fr' 7=.ptr 4 0 0/\lookP fr' 8=.int .i64 (i:Int)/\lookP fr' 9=.ptr 5 0 0):=by
 subst D;have C:decide ((bs.length:Int)<(bs.length:Int))=zf:=by simp
 unfold p10b2 Hd;generalize bs.map Blk.O=B1 at *;generalize ints pl=ip at *;generalize ints c.regs=rg at *;simp only[C,D2,XP,seval];exact⟨_,rfl,rfl,rfl,rfl,rfl,rfl,rfl,rfl⟩
theorem A2Y(G:k<bs.length)(Q:pl.length=n)(U:Bo n b.code)(hs:b.code.length<=10000000)(D:j<b.code.length):evP ⟨env,T,A0⟩ (.code p10b1 (s4 n i k j) ⟨[.row 1 [.agg [fslN gs,fslN fs]] 2,.row 1 [.agg [.nilsl,.nilsl]] 2,.row 0 nd 1,.row 0 (ints pl) 1,.row 1 [.agg [.msl 6 0 ng 4,.msl 7 0 nj 5]] 2,.row 1 [.agg [.str c.name,.int .i64 c.ty,.int .i64 c.ps,.msl 8 0 c.regs.length 1,.msl 9 0 bs.length 5]] 5,.row 0 gs 4,.row 0 Os 5,.row 0 (ints c.regs) 1,.row 0 ((bs.set k (mxB pl b j)).map Blk.O) 5],0,[]⟩)=zsq (.ok .normal (s4 n i k (j+1)) ⟨[.row 1 [.agg [fslN gs,fslN fs]] 2,.row 1 [.agg [.nilsl,.nilsl]] 2,.row 0 nd 1,.row 0 (ints pl) 1,.row 1 [.agg [.msl 6 0 ng 4,.msl 7 0 nj 5]] 2,.row 1 [.agg [.str c.name,.int .i64 c.ty,.int .i64 c.ps,.msl 8 0 c.regs.length 1,.msl 9 0 bs.length 5]] 5,.row 0 gs 4,.row 0 Os 5,.row 0 (ints c.regs) 1,.row 0 ((bs.set k (mxB pl b (j+1))).map Blk.O) 5],0,[]⟩):=by
 have I:((bs.set k (mxB pl b j)).map Blk.O)[k]?=zsq (AV.agg [ownd 0 8 ((mixR (relI pl) b.code j).map Ins.O),.int .i64 b.e.kind,.int .i64 b.e.a,.int .i64 b.e.to,.int .i64 b.e.els]):=by
  rw[zqe,C4 G];rfl
 have J:((mixR (relI pl) b.code j).map Ins.O)[j]?=zsq (b.code[j]).O:=by rw[zqe,j5 D];rfl
 have hl:((mixR (relI pl) b.code j).map Ins.O).length=b.code.length:=by rw[zqb,mixR_len]
 by_cases C:b.code[j].op=9
 . obtain ⟨V,t1⟩:=U _ (zqd D) C
   obtain⟨nv,H⟩:=zjj V;have h:=A2R (T:=T) (gs:=gs) (fs:=fs) (nd:=nd) (R:=ints c.regs) (Os:=Os) (nj:=nj) (ng:=ng) (nr:=c.regs.length) (nb:=bs.length) (nm:=c.name) (ty:=c.ty) (ps:=c.ps) (pl:=pl) (n:=n) (i:=i) I J G (by omega) C H Q (by omega);refine h.trans ?_;have e1:((mixR (relI pl) b.code j).map Ins.O).set j (relI pl b.code[j]).O=(mixR (relI pl) b.code (j+1)).map Ins.O:=by rw[<-s3 D,zqj]
   have e2:((bs.set k (mxB pl b j)).map Blk.O).set k (AV.agg [ownd 0 8 (((mixR (relI pl) b.code j).map Ins.O).set j (relI pl b.code[j]).O),.int .i64 b.e.kind,.int .i64 b.e.a,.int .i64 b.e.to,.int .i64 b.e.els])=(bs.set k (mxB pl b (j+1))).map Blk.O:=by
    rw[e1,zqj,zqg,zqj];rfl
   rw[e2]
 . have h:=A2S (T:=T) (gs:=gs) (fs:=fs) (nd:=nd) (R:=ints c.regs) (Os:=Os) (nj:=nj) (ng:=ng) (nr:=c.regs.length) (nb:=bs.length) (nm:=c.name) (ty:=c.ty) (ps:=c.ps) (pl:=pl) (n:=n) (i:=i) I J G (by omega) C
   refine h.trans ?_;have e:mxB pl b (j+1)=mxB pl b j:=by unfold mxB;rw[cR D (by unfold relI;rw[if_neg C])]
   rw[e]
theorem A2Z(C:k<bs.length)(hb:bs[k]?=zsq b)(D:pl.length=n)(G:Bo n b.code)(H:b.code.length<=10000000):∃fr',evP ⟨env,T,A0⟩ (.code (.loop p10b1) (s4 n i k 0) ⟨[.row 1 [.agg [fslN gs,fslN fs]] 2,.row 1 [.agg [.nilsl,.nilsl]] 2,.row 0 nd 1,.row 0 (ints pl) 1,.row 1 [.agg [.msl 6 0 ng 4,.msl 7 0 nj 5]] 2,.row 1 [.agg [.str c.name,.int .i64 c.ty,.int .i64 c.ps,.msl 8 0 c.regs.length 1,.msl 9 0 bs.length 5]] 5,.row 0 gs 4,.row 0 Os 5,.row 0 (ints c.regs) 1,.row 0 (bs.map Blk.O) 5],0,[]⟩)=zsq (.ok (.exit 6) fr' ⟨[.row 1 [.agg [fslN gs,fslN fs]] 2,.row 1 [.agg [.nilsl,.nilsl]] 2,.row 0 nd 1,.row 0 (ints pl) 1,.row 1 [.agg [.msl 6 0 ng 4,.msl 7 0 nj 5]] 2,.row 1 [.agg [.str c.name,.int .i64 c.ty,.int .i64 c.ps,.msl 8 0 c.regs.length 1,.msl 9 0 bs.length 5]] 5,.row 0 gs 4,.row 0 Os 5,.row 0 (ints c.regs) 1,.row 0 ((bs.set k (relB pl b)).map Blk.O) 5,.sub 9 k 0],0,[]⟩)/\(lookP fr' 1=.ptr 0 0 0/\lookP fr' 2=.ptr 1 0 0/\lookP fr' 3=.msl 2 0 n 1/\lookP fr' 4=.msl 3 0 n 1/\lookP fr' 7=.ptr 4 0 0/\lookP fr' 8=.int .i64 (i:Int)/\lookP fr' 9=.ptr 5 0 0/\lookP fr' 10=.int .i64 (k:Int)):=by
 have h:=M2 (P:=⟨env,T,A0⟩) (c:=p10b1) (fun j=>(s4 n i k j,⟨[.row 1 [.agg [fslN gs,fslN fs]] 2,.row 1 [.agg [.nilsl,.nilsl]] 2,.row 0 nd 1,.row 0 (ints pl) 1,.row 1 [.agg [.msl 6 0 ng 4,.msl 7 0 nj 5]] 2,.row 1 [.agg [.str c.name,.int .i64 c.ty,.int .i64 c.ps,.msl 8 0 c.regs.length 1,.msl 9 0 bs.length 5]] 5,.row 0 gs 4,.row 0 Os 5,.row 0 (ints c.regs) 1,.row 0 ((bs.set k (mxB pl b j)).map Blk.O) 5],0,[]⟩)) b.code.length fun j I=>A2Y C D G H I
 have J:bs.set k (mxB pl b 0)=bs:=by
  apply zqu;intro q;rw[zqm];split
  . rename_i e2;subst e2;exact(by first|(rw[if_pos C];exact hb.symm)|exact hb.symm)
  . rfl
 have e1:mxB pl b b.code.length=relB pl b:=by unfold mxB relB;rw[Ah]
 simp only[J,e1]at h;have Q:((bs.set k (relB pl b)).map Blk.O)[k]?=zsq (AV.agg [ownd 0 8 ((b.code.map (relI pl)).map Ins.O),.int .i64 b.e.kind,.int .i64 b.e.a,.int .i64 b.e.to,.int .i64 b.e.els]):=by
  rw[zqe,C4 C];rfl
 have hl:((b.code.map (relI pl)).map Ins.O).length=b.code.length:=by simp
 obtain⟨fr',h1,h2⟩:=A2T (T:=T) (gs:=gs) (fs:=fs) (nd:=nd) (R:=ints c.regs) (Os:=Os) (nj:=nj) (ng:=ng) (nr:=c.regs.length) (nb:=bs.length) (nm:=c.name) (ty:=c.ty) (ps:=c.ps) (pl:=pl) (n:=n) (i:=i) Q C;rw[hl]at h1;exact⟨fr',h.trans (loop_exit h1),h2⟩
theorem A2a(D:k<bs.length)(hb:bs[k]?=zsq b)(G:pl.length=n)(H:Bo n b.code)(I:b.code.length<=10000000)(hl:bs.length<=10000000):evP ⟨env,T,A0⟩ (.code p10b2 (Hd n i k) ⟨[.row 1 [.agg [fslN gs,fslN fs]] 2,.row 1 [.agg [.nilsl,.nilsl]] 2,.row 0 nd 1,.row 0 (ints pl) 1,.row 1 [.agg [.msl 6 0 ng 4,.msl 7 0 nj 5]] 2,.row 1 [.agg [.str c.name,.int .i64 c.ty,.int .i64 c.ps,.msl 8 0 c.regs.length 1,.msl 9 0 bs.length 5]] 5,.row 0 gs 4,.row 0 Os 5,.row 0 (ints c.regs) 1,.row 0 (bs.map Blk.O) 5],0,[]⟩)=zsq (.ok .normal (Hd n i (k+1)) ⟨[.row 1 [.agg [fslN gs,fslN fs]] 2,.row 1 [.agg [.nilsl,.nilsl]] 2,.row 0 nd 1,.row 0 (ints pl) 1,.row 1 [.agg [.msl 6 0 ng 4,.msl 7 0 nj 5]] 2,.row 1 [.agg [.str c.name,.int .i64 c.ty,.int .i64 c.ps,.msl 8 0 c.regs.length 1,.msl 9 0 bs.length 5]] 5,.row 0 gs 4,.row 0 Os 5,.row 0 (ints c.regs) 1,.row 0 ((bs.set k (relB pl b)).map Blk.O) 5],0,[]⟩):=by
 have C:decide ((k:Int)<(bs.length:Int))=zt:=by simp[D]
 have J:=A1 (i:=k) (by omega);obtain⟨fr',h1,p1,p2,p3,p4,p5,p6,p7,p8⟩:=A2Z (T:=T) (gs:=gs) (fs:=fs) (nd:=nd) (c:=c) (Os:=Os) (nj:=nj) (ng:=ng) (i:=i) D hb G H I;unfold s4 at h1;simp only[show((0:Nat):Int)=0 from rfl]at h1;unfold p10b2 Hd;generalize p10b1=b1 at *;generalize (bs.set k (relB pl b)).map Blk.O=B2 at *;generalize bs.map Blk.O=B1 at *;generalize ints pl=ip at *;generalize ints c.regs=rg at *;simp only[C,J,h1,p1,p2,p3,p4,p5,p6,p7,p8,D2,XP,seval]
theorem A2b{q:Nat}(D:q=bs.length):∃fr',evP ⟨env,T,A0⟩ (.code p10b2 (Hd n i q) ⟨[.row 1 [.agg [fslN gs,fslN fs]] 2,.row 1 [.agg [.nilsl,.nilsl]] 2,.row 0 nd 1,.row 0 (ints pl) 1,.row 1 [.agg [.msl 6 0 ng 4,.msl 7 0 nj 5]] 2,.row 1 [.agg [.str c.name,.int .i64 c.ty,.int .i64 c.ps,.msl 8 0 c.regs.length 1,.msl 9 0 bs.length 5]] 5,.row 0 gs 4,.row 0 Os 5,.row 0 (ints c.regs) 1,.row 0 (bs.map Blk.O) 5],0,[]⟩)=zsq (.ok (.exit 4) fr' ⟨[.row 1 [.agg [fslN gs,fslN fs]] 2,.row 1 [.agg [.nilsl,.nilsl]] 2,.row 0 nd 1,.row 0 (ints pl) 1,.row 1 [.agg [.msl 6 0 ng 4,.msl 7 0 nj 5]] 2,.row 1 [.agg [.str c.name,.int .i64 c.ty,.int .i64 c.ps,.msl 8 0 c.regs.length 1,.msl 9 0 bs.length 5]] 5,.row 0 gs 4,.row 0 Os 5,.row 0 (ints c.regs) 1,.row 0 (bs.map Blk.O) 5],0,[]⟩)/\(lookP fr' 1=.ptr 0 0 0/\lookP fr' 2=.ptr 1 0 0/\lookP fr' 3=.msl 2 0 n 1/\lookP fr' 4=.msl 3 0 n 1/\lookP fr' 7=.ptr 4 0 0/\lookP fr' 8=.int .i64 (i:Int)/\lookP fr' 9=.ptr 5 0 0):=by
 subst D;have C:decide ((bs.length:Int)<(bs.length:Int))=zf:=by simp
 unfold p10b2 Hd;generalize bs.map Blk.O=B1 at *;generalize ints pl=ip at *;generalize ints c.regs=rg at *;simp only[C,D2,XP,seval];exact⟨_,rfl,rfl,rfl,rfl,rfl,rfl,rfl,rfl⟩
theorem A2c(D:pl.length=n)(G:∀b∈c.blocks,Bo n b.code)(hc:GOk c):∃fr',evP ⟨env,T,A0⟩ (.code (.loop p10b2) (Hd n i 0) ⟨[.row 1 [.agg [fslN gs,fslN fs]] 2,.row 1 [.agg [.nilsl,.nilsl]] 2,.row 0 nd 1,.row 0 (ints pl) 1,.row 1 [.agg [.msl 6 0 ng 4,.nilsl]] 2,.row 1 [.agg [.str c.name,.int .i64 c.ty,.int .i64 c.ps,.msl 7 0 c.regs.length 1,.msl 8 0 c.blocks.length 5]] 5,.row 0 gs 4,.row 0 (ints c.regs) 1,.row 0 (c.blocks.map Blk.O) 5],0,[]⟩)=zsq (.ok (.exit 4) fr' ⟨[.row 1 [.agg [fslN gs,fslN fs]] 2,.row 1 [.agg [.nilsl,.nilsl]] 2,.row 0 nd 1,.row 0 (ints pl) 1,.row 1 [.agg [.msl 6 0 ng 4,.nilsl]] 2,.row 1 [.agg [.str c.name,.int .i64 c.ty,.int .i64 c.ps,.msl 7 0 c.regs.length 1,.msl 8 0 c.blocks.length 5]] 5,.row 0 gs 4,.row 0 (ints c.regs) 1,.row 0 ((relC pl c).blocks.map Blk.O) 5],0,[]⟩)/\(lookP fr' 1=.ptr 0 0 0/\lookP fr' 2=.ptr 1 0 0/\lookP fr' 3=.msl 2 0 n 1/\lookP fr' 4=.msl 3 0 n 1/\lookP fr' 7=.ptr 4 0 0/\lookP fr' 8=.int .i64 (i:Int)/\lookP fr' 9=.ptr 5 0 0):=by
 have hbl:=hc.blocks;have h:=M2 (P:=⟨env,T,A0⟩) (c:=p10b2) (fun k=>(Hd n i k,⟨[.row 1 [.agg [fslN gs,fslN fs]] 2,.row 1 [.agg [.nilsl,.nilsl]] 2,.row 0 nd 1,.row 0 (ints pl) 1,.row 1 [.agg [.msl 6 0 ng 4,.nilsl]] 2,.row 1 [.agg [.str c.name,.int .i64 c.ty,.int .i64 c.ps,.msl 7 0 c.regs.length 1,.msl 8 0 c.blocks.length 5]] 5,.row 0 gs 4,.row 0 (ints c.regs) 1,.row 0 ((mixR (relB pl) c.blocks k).map Blk.O) 5],0,[]⟩)) c.blocks.length fun k C=>by
  have h1:=A2W (T:=T) (gs:=gs) (fs:=fs) (nd:=nd) (c:=c) (ng:=ng) (i:=i) (bs:=mixR (relB pl) c.blocks k) (by rw[mixR_len];exact C) (j5 C) D (G _ (zqd C)) (by have:=hc.code _ (zqd C);omega) (by rw[mixR_len];omega);rw[s3 C,mixR_len]at h1;exact h1
 simp only[cQ,Ah]at h;obtain⟨fr',h1,h2⟩:=A2X (T:=T) (gs:=gs) (fs:=fs) (nd:=nd) (c:=c) (pl:=pl) (n:=n) (ng:=ng) (i:=i) (bs:=c.blocks.map (relB pl)) (q:=c.blocks.length) (by simp);rw[zqb]at h1;exact⟨fr',h.trans (loop_exit h1),h2⟩
theorem A2d(D:pl.length=n)(G:∀b∈c.blocks,Bo n b.code)(hc:GOk c):∃fr',evP ⟨env,T,A0⟩ (.code (.loop p10b2) (Hd n i 0) ⟨[.row 1 [.agg [fslN gs,fslN fs]] 2,.row 1 [.agg [.nilsl,.nilsl]] 2,.row 0 nd 1,.row 0 (ints pl) 1,.row 1 [.agg [.msl 6 0 ng 4,.msl 7 0 nj 5]] 2,.row 1 [.agg [.str c.name,.int .i64 c.ty,.int .i64 c.ps,.msl 8 0 c.regs.length 1,.msl 9 0 c.blocks.length 5]] 5,.row 0 gs 4,.row 0 Os 5,.row 0 (ints c.regs) 1,.row 0 (c.blocks.map Blk.O) 5],0,[]⟩)=zsq (.ok (.exit 4) fr' ⟨[.row 1 [.agg [fslN gs,fslN fs]] 2,.row 1 [.agg [.nilsl,.nilsl]] 2,.row 0 nd 1,.row 0 (ints pl) 1,.row 1 [.agg [.msl 6 0 ng 4,.msl 7 0 nj 5]] 2,.row 1 [.agg [.str c.name,.int .i64 c.ty,.int .i64 c.ps,.msl 8 0 c.regs.length 1,.msl 9 0 c.blocks.length 5]] 5,.row 0 gs 4,.row 0 Os 5,.row 0 (ints c.regs) 1,.row 0 ((relC pl c).blocks.map Blk.O) 5],0,[]⟩)/\(lookP fr' 1=.ptr 0 0 0/\lookP fr' 2=.ptr 1 0 0/\lookP fr' 3=.msl 2 0 n 1/\lookP fr' 4=.msl 3 0 n 1/\lookP fr' 7=.ptr 4 0 0/\lookP fr' 8=.int .i64 (i:Int)/\lookP fr' 9=.ptr 5 0 0):=by
 have hbl:=hc.blocks;have h:=M2 (P:=⟨env,T,A0⟩) (c:=p10b2) (fun k=>(Hd n i k,⟨[.row 1 [.agg [fslN gs,fslN fs]] 2,.row 1 [.agg [.nilsl,.nilsl]] 2,.row 0 nd 1,.row 0 (ints pl) 1,.row 1 [.agg [.msl 6 0 ng 4,.msl 7 0 nj 5]] 2,.row 1 [.agg [.str c.name,.int .i64 c.ty,.int .i64 c.ps,.msl 8 0 c.regs.length 1,.msl 9 0 c.blocks.length 5]] 5,.row 0 gs 4,.row 0 Os 5,.row 0 (ints c.regs) 1,.row 0 ((mixR (relB pl) c.blocks k).map Blk.O) 5],0,[]⟩)) c.blocks.length fun k C=>by
  have h1:=A2a (T:=T) (gs:=gs) (fs:=fs) (nd:=nd) (c:=c) (Os:=Os) (nj:=nj) (ng:=ng) (i:=i) (bs:=mixR (relB pl) c.blocks k) (by rw[mixR_len];exact C) (j5 C) D (G _ (zqd C)) (by have:=hc.code _ (zqd C);omega) (by rw[mixR_len];omega);rw[s3 C,mixR_len]at h1;exact h1
 simp only[cQ,Ah]at h;obtain⟨fr',h1,h2⟩:=A2b (T:=T) (gs:=gs) (fs:=fs) (nd:=nd) (c:=c) (Os:=Os) (nj:=nj) (pl:=pl) (n:=n) (ng:=ng) (i:=i) (bs:=c.blocks.map (relB pl)) (q:=c.blocks.length) (by simp);rw[zqb]at h1;exact⟨fr',h.trans (loop_exit h1),h2⟩
end
def cntB(nd:List Bool)(i:Nat):Nat:=(nd.take i).count zt
def plG(nd:List Bool):Nat->List Int
 |0=>zqa nd.length 0
 |i+1=>(plG nd i).set i (cntB nd i:Int)
theorem Ld(nd:List Bool):∀i,(plG nd i).length=nd.length
 |0=>by simp[plG]
 |i+1=>by rw[plG,zqi,Ld nd i]
theorem Zz{nd:List Bool}{i:Nat}(h:i<nd.length):cntB nd (i+1)=cntB nd i+if nd.getD i zf=zt then 1 else 0:=by
 unfold cntB;rw[zkd h,List.count_append,zqc,zqf h];cases nd[i]<;>simp
theorem zP(nd:List Bool)(i:Nat):cntB nd i<=nd.length:=by
 unfold cntB;have h1:=zky (a:=zt) (l:=nd.take i);rw[List.length_take]at h1;omega
section
variable {gs fs:List AV}{nd:List Bool}{pl:List Int}{i j n ng:Nat}{outs cs:List Cod}{c:Cod}
def lU(n q i:Nat):PF:=[(1,.ptr 0 0 0),(2,.ptr 1 0 0),(3,.msl 2 0 n 1),(4,.msl 3 0 n 1),(5,.int .i64 (q:Int)),(6,.int .i64 (i:Int))]
theorem A2e(hn:nd.length=n)(hs:n<=10000)(hi:i<n):evP ⟨env,T,A0⟩ (.code Zk (lU n (cntB nd i) i) ⟨[.row 1 [.agg [fslN gs,fslN fs]] 2,.row 1 [.agg [.nilsl,.nilsl]] 2,.row 0 (bools nd) 1,.row 0 (ints (plG nd i)) 1],0,[]⟩)=zsq (.ok .normal (lU n (cntB nd (i+1)) (i+1)) ⟨[.row 1 [.agg [fslN gs,fslN fs]] 2,.row 1 [.agg [.nilsl,.nilsl]] 2,.row 0 (bools nd) 1,.row 0 (ints (plG nd (i+1))) 1],0,[]⟩):=by
 have C:decide ((i:Int)<(n:Int))=zt:=by simp[hi]
 have I:=A1 (i:=i) (by omega);have hq:=zP nd i;have H:=A1 (i:=cntB nd i) (by omega);have hg:=G1 (k:=nd) (v:=i) (by omega);have D:i<(ints (plG nd i)).length:=by rw[S2,Ld];omega
 have G:=L3 (k:=plG nd i) (v:=i) (by rw[Ld];omega);rw[Zz (by omega),plG,<-Af];unfold Zk lU;generalize ints (plG nd i)=ip at *;generalize bools nd=bn at *;generalize nd.getD i zf=x at hg|-;cases x
 . rw[if_neg (by decide),zjh]
   simp only[C,I,hg,D,G,hi,D2,XP,seval]
 . rw[if_pos rfl]
   simp only[C,I,H,hg,D,G,hi,D2,XP,seval]
theorem A2f{q:Nat}{K:PK}:∃fr',evP ⟨env,T,A0⟩ (.code Zk (lU n q n) K)=zsq (.ok (.exit 0) fr' K)/\lookP fr' 1=.ptr 0 0 0/\lookP fr' 2=.ptr 1 0 0/\lookP fr' 3=.msl 2 0 n 1/\lookP fr' 4=.msl 3 0 n 1:=by
 have C:decide ((n:Int)<(n:Int))=zf:=by simp
 unfold Zk lU;simp only[C,D2,XP,seval];exact⟨_,rfl,rfl,rfl,rfl,rfl⟩
def Dh(n i:Nat):PF:=[(1,.ptr 0 0 0),(2,.ptr 1 0 0),(3,.msl 2 0 n 1),(4,.msl 3 0 n 1),(7,.ptr 4 0 0),(8,.int .i64 (i:Int))]
theorem A2g(hi:i<n)(hs:n<=10000)(hn:nd.length=n)(h0:nd.getD i zf=zf):evP ⟨env,T,A0⟩ (.code Ca (Dh n i) ⟨[.row 1 [.agg [fslN gs,fslN (cs.map Cod.F)]] 2,.row 1 [.agg [.nilsl,.nilsl]] 2,.row 0 (bools nd) 1,.row 0 (ints pl) 1,.row 1 [.agg [.msl 5 0 ng 4,.nilsl]] 2,.row 0 gs 4],0,[]⟩)=zsq (.ok .normal (Dh n (i+1)) ⟨[.row 1 [.agg [fslN gs,fslN (cs.map Cod.F)]] 2,.row 1 [.agg [.nilsl,.nilsl]] 2,.row 0 (bools nd) 1,.row 0 (ints pl) 1,.row 1 [.agg [.msl 5 0 ng 4,.nilsl]] 2,.row 0 gs 4],0,[]⟩):=by
 have C:decide ((i:Int)<(n:Int))=zt:=by simp[hi]
 have D:=A1 (i:=i) (by omega);have hb:=G1 (k:=nd) (v:=i) (by omega);rw[h0]at hb;unfold Ca Dh;generalize ints pl=ip at *;generalize bools nd=bn at *;simp only[C,D,hb,hi,D2,XP,seval]
theorem A2h(G:T 29=zsq N0)(hi:i<n)(hcn:cs.length=n)(hs:n<=10000)(hn:nd.length=n)(H:pl.length=n)(h0:nd.getD i zf=zt)(hc:GOk cs[i])(I:∀b∈cs[i].blocks,Bo n b.code):evP ⟨env,T,A0⟩ (.code Ca (Dh n i) ⟨[.row 1 [.agg [fslN gs,fslN (cs.map Cod.F)]] 2,.row 1 [.agg [.nilsl,.nilsl]] 2,.row 0 (bools nd) 1,.row 0 (ints pl) 1,.row 1 [.agg [.msl 5 0 ng 4,.nilsl]] 2,.row 0 gs 4],0,[]⟩)=zsq (.ok .normal (Dh n (i+1)) ⟨[.row 1 [.agg [fslN gs,fslN (cs.map Cod.F)]] 2,.row 1 [.agg [.nilsl,.nilsl]] 2,.row 0 (bools nd) 1,.row 0 (ints pl) 1,.row 1 [.agg [.msl 5 0 ng 4,.msl 6 0 1 5]] 2,.row 0 gs 4,.row 0 ([(relC pl cs[i]).O]) 5],0,[]⟩):=by
 have D:decide ((i:Int)<(n:Int))=zt:=by simp[hi]
 have J:=A1 (i:=i) (by omega);have hb:=G1 (k:=nd) (v:=i) (by omega);rw[h0]at hb;have C:i<cs.length:=by omega
 have hg:=A5 (F:=Cod.F) C;have tc:=fun K=>Gj (K:=K) G hc.ok
 skip
 skip
 obtain⟨fr',h1,p1,p2,p3,p4,p5,p6,p7⟩:=A2c (T:=T) (gs:=gs) (fs:=cs.map Cod.F) (nd:=bools nd) (ng:=ng) (i:=i) H I hc;unfold Hd at h1;simp only[show((0:Nat):Int)=0 from rfl]at h1;have e1:(relC pl cs[i]).O=.agg [.str cs[i].name,.int .i64 cs[i].ty,.int .i64 cs[i].ps,ownd 0 1 (ints cs[i].regs),ownd 0 5 ((relC pl cs[i]).blocks.map Blk.O)]:=rfl;have e2:((relC pl cs[i]).blocks.map Blk.O).length=cs[i].blocks.length:=by simp[relC]
 have e3:=S2 cs[i].regs;rw[e1];simp only[Cod.F]at hg tc;simp only[Cod.O]at tc;unfold Ca Dh;generalize p10b2=b2 at *;generalize (relC pl cs[i]).blocks.map Blk.O=B2 at *;generalize ints pl=ip at *;generalize bools nd=bn at *
 skip
 simp only[D,J,hb,hi,hg,C,tc,h1,p1,p2,p3,p4,p5,p6,p7,e2,e3,zqb,D2,XP,seval]
 done
theorem A2i(hi:i<n)(hs:n<=10000)(hn:nd.length=n)(h0:nd.getD i zf=zf):evP ⟨env,T,A0⟩ (.code Ca (Dh n i) ⟨[.row 1 [.agg [fslN gs,fslN (cs.map Cod.F)]] 2,.row 1 [.agg [.nilsl,.nilsl]] 2,.row 0 (bools nd) 1,.row 0 (ints pl) 1,.row 1 [.agg [.msl 5 0 ng 4,.msl 6 0 outs.length 5]] 2,.row 0 gs 4,.row 0 (outs.map Cod.O) 5],0,[]⟩)=zsq (.ok .normal (Dh n (i+1)) ⟨[.row 1 [.agg [fslN gs,fslN (cs.map Cod.F)]] 2,.row 1 [.agg [.nilsl,.nilsl]] 2,.row 0 (bools nd) 1,.row 0 (ints pl) 1,.row 1 [.agg [.msl 5 0 ng 4,.msl 6 0 outs.length 5]] 2,.row 0 gs 4,.row 0 (outs.map Cod.O) 5],0,[]⟩):=by
 have C:decide ((i:Int)<(n:Int))=zt:=by simp[hi]
 have D:=A1 (i:=i) (by omega);have hb:=G1 (k:=nd) (v:=i) (by omega);rw[h0]at hb;unfold Ca Dh;generalize ints pl=ip at *;generalize bools nd=bn at *;simp only[C,D,hb,hi,D2,XP,seval]
theorem A2j(H:T 29=zsq N0)(hi:i<n)(hcn:cs.length=n)(hs:n<=10000)(hn:nd.length=n)(I:pl.length=n)(h0:nd.getD i zf=zt)(hc:GOk cs[i])(J:∀b∈cs[i].blocks,Bo n b.code)(ho:outs.length<=10000):evP ⟨env,T,A0⟩ (.code Ca (Dh n i) ⟨[.row 1 [.agg [fslN gs,fslN (cs.map Cod.F)]] 2,.row 1 [.agg [.nilsl,.nilsl]] 2,.row 0 (bools nd) 1,.row 0 (ints pl) 1,.row 1 [.agg [.msl 5 0 ng 4,.msl 6 0 outs.length 5]] 2,.row 0 gs 4,.row 0 (outs.map Cod.O) 5],0,[]⟩)=zsq (.ok .normal (Dh n (i+1)) ⟨[.row 1 [.agg [fslN gs,fslN (cs.map Cod.F)]] 2,.row 1 [.agg [.nilsl,.nilsl]] 2,.row 0 (bools nd) 1,.row 0 (ints pl) 1,.row 1 [.agg [.msl 5 0 ng 4,.msl 6 0 (outs.length+1) 5]] 2,.row 0 gs 4,.row 0 (outs.map Cod.O++[(relC pl cs[i]).O]) 5],0,[]⟩):=by
 have D:decide ((i:Int)<(n:Int))=zt:=by simp[hi]
 have Q:=A1 (i:=i) (by omega);have hb:=G1 (k:=nd) (v:=i) (by omega);rw[h0]at hb;have C:i<cs.length:=by omega
 have hg:=A5 (F:=Cod.F) C;have tc:=fun K=>Gj (K:=K) H hc.ok
 have G:(outs.map Cod.O).length=outs.length:=by simp
 have hz:(outs.length+1)*80<=140737488355328:=by omega
 obtain⟨fr',h1,p1,p2,p3,p4,p5,p6,p7⟩:=A2d (T:=T) (gs:=gs) (fs:=cs.map Cod.F) (nd:=bools nd) (Os:=outs.map Cod.O) (nj:=outs.length) (ng:=ng) (i:=i) I J hc;unfold Hd at h1;simp only[show((0:Nat):Int)=0 from rfl]at h1;have e1:(relC pl cs[i]).O=.agg [.str cs[i].name,.int .i64 cs[i].ty,.int .i64 cs[i].ps,ownd 0 1 (ints cs[i].regs),ownd 0 5 ((relC pl cs[i]).blocks.map Blk.O)]:=rfl;have e2:((relC pl cs[i]).blocks.map Blk.O).length=cs[i].blocks.length:=by simp[relC]
 have e3:=S2 cs[i].regs;rw[e1];simp only[Cod.F]at hg tc;simp only[Cod.O]at tc;unfold Ca Dh;generalize p10b2=b2 at *;generalize (relC pl cs[i]).blocks.map Blk.O=B2 at *;generalize ints pl=ip at *;generalize bools nd=bn at *;generalize outs.map Cod.O=os1 at *;simp only[D,Q,hb,hi,hg,C,tc,h1,p1,p2,p3,p4,p5,p6,p7,e2,e3,G,hz,zqb,D2,XP,seval]
 done
end
def keepR(nd:List Bool)(pl:List Int):Nat->List Cod->List Cod->List Cod
 |_,[],o=>o
 |i,c::l,o=>if nd.getD i zf=zt then keepR nd pl (i+1) l (o++[relC pl c])else keepR nd pl (i+1) l o
theorem Lf{nd:List Bool}{pl:List Int}:∀(l:List Cod)(i:Nat)(o:List Cod),(o≠[]\/∃j,i<=j/\j<i+l.length/\nd.getD j zf=zt)->keepR nd pl i l o≠[]
 |[],i,o,h=>by
  rcases h with h|⟨j,h1,h2,_⟩
  . exact h
  . simp at h2;omega
 |x :: l,i,o,h=>by
  rw[keepR];split
  . exact Lf l _ _ (.inl (by simp))
  . rename_i h0
    rcases h with h|⟨j,h1,h2,C⟩
    . exact Lf l _ _ (.inl h)
    . exact Lf l _ _ (.inr ⟨j,by
       have:j≠i:=fun e=>h0 (e▸C)
       omega,by simp at h2;omega,C⟩)
theorem GV{mo l:List Bool}{k i:Nat}(h:l.getD i zf=zt):(ED mo l k).getD i zf=zt:=by
 unfold ED;rw[zqc]at h|-;rw[zqm];split
 . rename_i e
   subst e
   have:k<l.length:=by
    cases C:l[k]? with
    |none=>rw[C]at h;cases h
    |some x=>exact(zqh.1 C).1
   rw[if_pos this,zjo,zqc,h];rfl
 . exact h
theorem vR{mo l:List Bool}{i:Nat}(h:l.getD i zf=zt):∀k,(orI mo l k).getD i zf=zt
 |0=>h
 |k+1=>by rw[Lc];exact GV (vR h k)
theorem Lg{m:Modl}(h:0<=mainI m/\mainI m<m.fs.length):∀j,(In m j).getD (mainI m).toNat zf=zt
 |0=>by
  unfold In l0M;rw[zqc,zkt (by simp;omega)];rfl
 |j+1=>by rw[In];exact vR (Lg h j) _
section
variable {gs fs:List AV}{nd:List Bool}{pl:List Int}{i j n ng:Nat}{outs cs:List Cod}{c:Cod}
def EE(gs:List AV)(ng:Nat)(cs:List Cod)(nd:List Bool)(pl:List Int)(outs:List Cod):PK:=match outs with|[]=>⟨[.row 1 [.agg [fslN gs,fslN (cs.map Cod.F)]] 2,.row 1 [.agg [.nilsl,.nilsl]] 2,.row 0 (bools nd) 1,.row 0 (ints pl) 1,.row 1 [.agg [.msl 5 0 ng 4,.nilsl]] 2,.row 0 gs 4],0,[]⟩|_::_=>⟨[.row 1 [.agg [fslN gs,fslN (cs.map Cod.F)]] 2,.row 1 [.agg [.nilsl,.nilsl]] 2,.row 0 (bools nd) 1,.row 0 (ints pl) 1,.row 1 [.agg [.msl 5 0 ng 4,.msl 6 0 outs.length 5]] 2,.row 0 gs 4,.row 0 (outs.map Cod.O) 5],0,[]⟩
theorem A2k(H:T 29=zsq N0)(hi:i<n)(C:cs.length=n)(D:n<=10000)(hn:nd.length=n)(I:pl.length=n)(hc:∀c∈cs,GOk c)(J:∀c∈cs,∀b∈c.blocks,Bo n b.code)(ho:outs.length<=10000):evP ⟨env,T,A0⟩ (.code Ca (Dh n i) (EE gs ng cs nd pl outs))=zsq (.ok .normal (Dh n (i+1)) (EE gs ng cs nd pl (if nd.getD i zf=zt then outs++[relC pl (cs[i]'(by omega))]else outs))):=by
 have G:=zqd (l:=cs) (show i<cs.length by omega);cases h0:nd.getD i zf with
 |false=>
  rw[if_neg (by decide)];cases outs with
  |nil=>exact A2g hi D hn h0
  |cons y l=>exact A2i (outs:=y::l) hi D hn h0
 |true=>
  rw[if_pos rfl];cases outs with
  |nil=>exact A2h H hi C D hn I h0 (hc _ G) (J _ G)
  |cons y l=>
   have h:=A2j (T:=T) (gs:=gs) (ng:=ng) (outs:=y::l) H hi C D hn I h0 (hc _ G) (J _ G) ho;refine h.trans ?_;show _=zsq (PR.ok .normal (Dh n (i+1)) (EE gs ng cs nd pl (y::(l++[relC pl cs[i]]))))
   unfold EE;dsimp only;rw[show(y::(l++[relC pl cs[i]])).length=(y::l).length+1 by simp,show(y::(l++[relC pl cs[i]])).map Cod.O=(y::l).map Cod.O++[(relC pl cs[i]).O] by simp]
theorem A2l{K:PK}(hn:nd.length=n):∃fr',evP ⟨env,T,A0⟩ (.code Ca (Dh n n) K)=zsq (.ok (.exit 2) fr' K)/\lookP fr' 2=.ptr 1 0 0/\lookP fr' 7=.ptr 4 0 0:=by
 unfold Ca Dh;have C:decide ((n:Int)<(n:Int))=zf:=by simp
 simp only[C,XP,seval];exact⟨_,rfl,rfl,rfl⟩
theorem GW(D:T 29=zsq N0)(C:cs.length=n)(G:n<=10000)(hn:nd.length=n)(H:pl.length=n)(hc:∀c∈cs,GOk c)(I:∀c∈cs,∀b∈c.blocks,Bo n b.code):∀(q i:Nat)(outs:List Cod),n=i+q->outs.length<=i ->
 ∃fr',evP ⟨env,T,A0⟩ (.code (.loop Ca) (Dh n i) (EE gs ng cs nd pl outs))=zsq (.ok (.exit 2) fr' (EE gs ng cs nd pl (keepR nd pl i (cs.drop i) outs)))/\lookP fr' 2=.ptr 1 0 0/\lookP fr' 7=.ptr 4 0 0
 |0,i,outs,e,ho=>by
  obtain rfl:i=n:=by omega
  obtain⟨fr',h1,h2⟩:=A2l (T:=T) (K:=EE gs ng cs nd pl outs) hn;rw[<-C,zqt];rw[<-C]at h1;exact⟨fr',loop_exit h1,h2⟩
 |q + 1,i,outs,e,ho=>by
  have hi:i<cs.length:=by omega
  have h1:=A2k (T:=T) (gs:=gs) (ng:=ng) (pl:=pl) (outs:=outs) D (show i<n by omega) C G hn H hc I (by omega);rw[zqp hi,keepR];by_cases h0:nd.getD i zf=zt
  . rw[if_pos h0]at h1|-
    obtain⟨fr',h2,J⟩:=GW D C G hn H hc I q (i+1) (outs++[relC pl cs[i]]) (by omega) (by simp;omega);exact⟨fr',(loop_more h1).trans h2,J⟩
  . rw[if_neg h0]at h1|-
    obtain⟨fr',h2,J⟩:=GW D C G hn H hc I q (i+1) outs (by omega) (by omega);exact⟨fr',(loop_more h1).trans h2,J⟩
end
def gX(m:Modl):Modl:=⟨m.gs,keepR (neD m) (plG (neD m) m.fs.length) 0 m.fs []⟩
theorem Lh(C:T 28=zsq Y1)(D:T 17=zsq Q9)(G:T 29=zsq N0){m:Modl}(I:DpOk m/\m.gs.length*40<=bigN):AM.Comes ⟨env,T,A0⟩ 10 [m.F] [(gX m).O]:=by
 obtain⟨I,hg⟩:=I;have t:=fun K=>Yh (K:=K) C ⟨I.ok,I.sz,I.mn⟩
 have tg:=fun K=>Kw (K:=K) D hg
 have hsz:=I.sz;have hz:=fun K=>cO (n:=m.fs.length) (K:=K) (by omega)
 have H:(neD m).length=m.fs.length:=j7 m _;have V:=E2 (neD m);have Y:keepR (neD m) (plG (neD m) m.fs.length) 0 m.fs []≠[]:=Lf _ _ _ (.inr ⟨(mainI m).toNat,zjg _,by have:=I.mn;omega,Lg I.mn _⟩);have h0:=M2 (P:=⟨env,T,A0⟩) (c:=Zk) (fun i=>(lU m.fs.length (cntB (neD m) i) i,⟨[.row 1 [.agg [fslN (m.gs.map Glo.F),fslN (m.fs.map Cod.F)]] 2,.row 1 [.agg [.nilsl,.nilsl]] 2,.row 0 (bools (neD m)) 1,.row 0 (ints (plG (neD m) i)) 1],0,[]⟩)) m.fs.length fun i hi=>A2e H hsz hi
 obtain ⟨fr0,e0,x1,x2,x3,x4⟩:=A2f (T:=T) (n:=m.fs.length) (q:=cntB (neD m) m.fs.length) (K:=⟨[.row 1 [.agg [fslN (m.gs.map Glo.F),fslN (m.fs.map Cod.F)]] 2,.row 1 [.agg [.nilsl,.nilsl]] 2,.row 0 (bools (neD m)) 1,.row 0 (ints (plG (neD m) m.fs.length)) 1],0,[]⟩);have U:=h0.trans (loop_exit e0);rw[show cntB (neD m) 0=0 from rfl,show plG (neD m) 0=zqa (neD m).length 0 from rfl,H]at U;obtain⟨fr1,Q,y1,y2⟩:=GW (T:=T) (gs:=m.gs.map Glo.F) (ng:=m.gs.length) (nd:=neD m) (pl:=plG (neD m) m.fs.length) G rfl hsz H (by rw[Ld,H]) I.ok (fun c hc=>nS I hc) m.fs.length 0 [] (by omega) (zjc _);rw[zqz]at Q;have e2:(gX m).O=.agg [ownd 0 4 (m.gs.map Glo.F),ownd 0 5 ((keepR (neD m) (plG (neD m) m.fs.length) 0 m.fs []).map Cod.O)]:=rfl;rw[e2];generalize keepR (neD m) (plG (neD m) m.fs.length) 0 m.fs []=o at *;obtain⟨y,l,rfl⟩:∃y l,o=y::l:=by
  cases o with
  |nil=>exact absurd rfl Y
  |cons y l=>exact⟨y,l,rfl⟩
 simp only[EE]at Q;have aa:((y::l).map Cod.O).length=(y::l).length:=by simp
 have J:(m.gs.map Glo.F).length=m.gs.length:=by simp
 generalize (y::l).map Cod.O=R2 at *;generalize (y::l).length=j at *;refine⟨[.agg [.msl 1 0 m.gs.length 4,.msl 2 0 j 5]],⟨[.row 1 [.agg [.msl 1 0 m.gs.length 4,.msl 2 0 j 5]] 2,.row 0 (m.gs.map Glo.F) 4,.row 0 R2 5],0,[]⟩,?_,?_⟩
 . unfold lU at U
   unfold Dh at Q;simp only[show((0:Nat):Int)=0 from rfl]at U Q;rw[A3 (c:=IU) (nt:=112) (rs:=[.cell 2 25]) rfl (by simp)];unfold IU;unfold K0;unfold Modl.F at t|-;generalize bools (neD m)=bn at *;generalize ints (plG (neD m) m.fs.length)=ip at *;simp only[t,tg,hz,V,H,J,Fl,U,x1,x2,x3,x4,Q,y1,y2,zqb,D2,XP,seval]
   done
 . refine A9 (vs':=[.agg [.msl 1 0 m.gs.length 4,.msl 2 0 j 5]]) (os':=[.row 1 [.agg [.msl 1 0 m.gs.length 4,.msl 2 0 j 5]] 2,.row 0 (m.gs.map Glo.F) 4,.row 0 R2 5]) ?_ ?_ (us:=[.agg [.msl 0 0 m.gs.length 4,.msl 1 0 j 5]]) (ps:=[.row 0 (m.gs.map Glo.F) 4,.row 0 R2 5]) ?_ ?_ ?_
   all_goals simp only[J,aa,XP,seval]
def w8:=X6 (fun p:(Modl)=>[p.F]) (fun p=>[(gX p).O]) (fun p=>DpOk p/\p.gs.length*40<=bigN)
theorem dD(C:T 10=zsq w8){m:Modl}{K:PK}(D:DpOk m/\m.gs.length*40<=bigN):evP ⟨env,T,A0⟩ (.call 10 [m.F] K)=zsq (.val (openTs K.os.length [(gX m).O]).1 ⟨K.os++(openTs K.os.length [(gX m).O]).2,K.ext,K.tch⟩):=B4 C (by simp only[VV,XP,seval]) (B6 (a:=fun p:(Modl)=>[p.F]) (r:=fun p=>[(gX p).O]) (fun x y e=>by simp only[VJ]at e;simp only[e]) (m) D) (by simp only[VN,XP,seval])
theorem Vo(C:T 28=zsq Y1)(D:T 17=zsq Q9)(G:T 29=zsq N0)(H:PEok ⟨env,T,A0⟩):TC env 10 w8:=B7 H fun p h=>Lh C D G h
def Wk(g:List (List Int)):Nat->Nat->Prop
 |0,_=>True
 |n+1,v=>∃t∈g.getD v [],Wk g n t.toNat
inductive Rch(g:List (List Int))(u:Nat):Nat->Prop
 |one {t:Int}:t∈g.getD u []->Rch g u t.toNat
 |step {v:Nat} {t:Int}:Rch g u v->t∈g.getD v []->Rch g u t.toNat
section
variable {g:List (List Int)}
theorem dE:∀(n v:Nat),Wk g (n+1) v->Wk g n v
 |0,_,_=>trivial
 |n+1,v,h=>by obtain⟨t,C,h⟩:=h;exact⟨t,C,dE n _ h⟩
theorem nW{v:Nat}:∀(d n:Nat),Wk g (n+d) v->Wk g n v
 |0,_,h=>h
 |d+1,n,h=>nW d n (dE _ _ h)
theorem GX{u v:Nat}(h:Rch g u v):∀n,Wk g n v->Wk g (n+1) u:=by
 induction h with
 |one D=>exact fun n C=>⟨_,D,C⟩
 |step _ D G=>exact fun n C=>dE _ _ (G (n+1) ⟨_,D,C⟩)
theorem nX{v:Nat}(h:Rch g v v):∀n,Wk g n v
 |0=>trivial
 |n+1=>GX h n (nX h n)
def rO(g:List (List Int))(k:List Int):Prop:=∀v,0<k.getD v 0->Wk g ((k.getD v 0).toNat-1) v/\¬Wk g (k.getD v 0).toNat v
def Opn(k k':List Int):Prop:=∀u,k'.getD u 0=-1↔k.getD u 0=-1
structure LSem(g:List (List Int))(v:Nat)(k:List Int)(r:(Int×Bool)×List Int):Prop where
 yes:r.1.2=zt->rO g r.2/\Opn k r.2/\0<r.1.1/\Wk g (r.1.1.toNat-1) v/\¬Wk g r.1.1.toNat v
 no:r.1.2=zf->∀n,Wk g n v
theorem gY{n f:Nat}{rec:Nat->List Int->(Int×Bool)×List Int}(hi:∀v k,v<n->KInv n k->k.count 0<f->Lft n k (rec v k).2/\((rec v k).1.2=zt->0<(rec v k).1.1/\(rec v k).1.1<=dn (rec v k).2))
 (hr:∀t k,t<n->KInv n k->k.count 0<f->rO g k->(∀u,k.getD u 0=-1->Rch g u t)->LSem g t k (rec t k)):
 ∀ (l D:List Int) (most:Int) (k:List Int),(∀t∈l,0<=t/\t<n)->KInv n k->k.count 0<f->rO g k->(∀t∈l,∀u,k.getD u 0=-1->Rch g u t.toNat)->0<=most->(most=0\/∃t∈D,Wk g (most.toNat-1) t.toNat)->(∀t∈D,¬Wk g most.toNat t.toNat) ->
   (∀x,(lonL rec l most k).1=zsq x->rO g (lonL rec l most k).2/\Opn k (lonL rec l most k).2/\0<=x/\(x=0\/∃t∈D++l,Wk g (x.toNat-1) t.toNat)/\∀t∈D++l,¬Wk g x.toNat t.toNat)/\
   ((lonL rec l most k).1=zn->∃t∈l,∀n,Wk g n t.toNat)
 |[],D,most,k,hl,hk,hc,hG,hS,h0,hA,hB=>by
  unfold lonL;refine⟨fun x e=>?_,fun e=>by cases e⟩;cases e;rw[zqo];exact⟨hG,fun _=>Iff.rfl,h0,hA,hB⟩
 |t :: l,D,most,k,hl,hk,hc,hG,hS,h0,hA,hB=>by
  have C:t.toNat<n:=by have:=hl t (zqn ..);omega
  have J:=hr t.toNat k C hk hc hG (hS t (zqn ..));obtain⟨p1,p2⟩:=hi t.toNat k C hk hc;unfold lonL;rcases hx:rec t.toNat k with⟨⟨a,b⟩,k'⟩
  rw[hx]at J p1 p2;cases b with
  |false=>exact⟨fun x e=>(by cases e),fun _=>⟨t,zqn ..,J.no rfl⟩⟩
  |true=>
   obtain⟨Y,U,q3,q4,q5⟩:=J.yes rfl;simp only at Y U q3 q4 q5 p1|-;have Q:(max most a).toNat=max most.toNat a.toNat:=by omega
   have h1:=gY hi hr l (D++[t]) (max most a) k' (fun t H=>hl t (zql _ H)) p1.inv (zjf (p1.cz hk.len) hc) Y (fun t H u hu=>hS t (zql _ H) u ((U u).1 hu)) (by omega) (by
    right
    by_cases V:most<=a
    . rw[zjn V]
      exact⟨t,by simp,q4⟩
    . rw[Int.max_eq_left (by omega)]
      rcases hA with e|⟨t',h1,h2⟩
      . omega
      . exact⟨t',zqy.2 (.inl h1),h2⟩) (by
    intro t' I G;rw[Q]at G;rcases zqy.1 I with h|h
    . refine hB t' h (nW (max most.toNat a.toNat-most.toNat) _ ?_)
      rw[show most.toNat+(max most.toNat a.toNat-most.toNat)=max most.toNat a.toNat by omega];exact G
    . rw[zqq.1 h]at G
      refine q5 (nW (max most.toNat a.toNat-a.toNat) _ ?_);rw[show a.toNat+(max most.toNat a.toNat-a.toNat)=max most.toNat a.toNat by omega];exact G)
   simp only[zqr,List.cons_append,zkz]at h1;refine⟨fun x e=>?_,fun e=>?_⟩
   . obtain⟨r1,r2,r3⟩:=h1.1 x e
     exact⟨r1,fun u=>(r2 u).trans (U u),r3⟩
   . obtain⟨t',h2,h3⟩:=h1.2 e
     exact⟨t',zql _ h2,h3⟩
theorem Ak{k:List Int}{v u:Nat}{x:Int}(h:v<k.length):(k.set v x).getD u 0=if v=u then x else k.getD u 0:=by
 rw[zqc,zqc,zqm];split
 . first|rfl|(rw[if_pos h];rfl)
 . rfl
theorem gZ{n:Nat}(hg:∀v,∀t∈g.getD v [],0<=t/\t<n):∀(f v:Nat)(k:List Int),v<n->KInv n k->k.count 0<f->rO g k->(∀u,k.getD u 0=-1->Rch g u v)->LSem g v k (lonD g f v k)
 |0,v,k,hv,hk,hc,_,_=>absurd hc (zje _)
 |f + 1,v,k,hv,hk,hc,hG,hS=>by
  have hl:=hk.len;have V:k.getD v 0∈k:=by rw[zqc,zqf (by omega)];exact zqd _
  rw[lonD];by_cases h0:k.getD v 0=0
  . rw [if_pos h0]
    obtain⟨p1,p2,p3,p4⟩:=hk.open hv h0;have I:v<k.length:=by omega
    have Y:rO g (k.set v (-1)):=fun u C=>by
     rw[Ak I]at C|-;split at C
     . omega
     . rename_i e;rw[if_neg e];exact hG u C
    have aa:∀t∈g.getD v [],∀u,(k.set v (-1)).getD u 0=-1->Rch g u t.toNat:=fun t D u C=>by
     rw[Ak I]at C;split at C
     . rename_i e;subst e;exact .one D
     . exact .step (hS u C) D
    have h1:=gY (g:=g) (Cj hg f) (gZ hg f) (g.getD v []) [] 0 (k.set v (-1)) (hg v) p1 (by omega) Y aa (zjl _) (.inl rfl) (fun t D=>by cases D);have h2:=Ko (Cj hg f) (g.getD v []) 0 (k.set v (-1)) (hg v) p1 (by omega) ⟨zjl _,by omega⟩;rcases hx:lonL (lonD g f) (g.getD v []) 0 (k.set v (-1))with⟨o,k'⟩
    rw[hx]at h1 h2;cases o with
    |none=>
     refine⟨fun e=>(by cases e),fun _ m=>?_⟩;obtain⟨t,D,J⟩:=h1.2 rfl;cases m with
     |zero=>trivial
     |succ m=>exact⟨t,D,J m⟩
    |some most=>
     obtain⟨r1,r2,r3,r4,r5⟩:=h1.1 most rfl;simp only[zkz]at r1 r2 r4 r5;have hl':=h2.1.inv.len;simp only at hl';have G:v<k'.length:=by omega
     have Q:(most+1).toNat=most.toNat+1:=by omega
     have H:Wk g ((most+1).toNat-1) v:=by
      rw[Q,Nat.add_sub_cancel];rcases r4 with e|⟨t,D,J⟩
      . subst e;trivial
      . cases hm:most.toNat with
        |zero=>trivial
        |succ q=>rw[hm]at J;exact⟨t,D,J⟩
     have U:¬Wk g (most+1).toNat v:=by
      rw[Q]
      rintro⟨t,D,J⟩
      exact r5 t D J
     refine⟨fun _=>⟨fun u C=>?_,fun u=>?_,by show 0<most+1;omega,H,U⟩,fun e=>(by cases e)⟩
     . rw[Ak G]at C|-
       split
       . rename_i e;subst e;exact⟨H,U⟩
       . rename_i e;rw[if_neg e]at C;exact r1 u C
     . show (k'.set v (most+1)).getD u 0=-1↔_
       rw[Ak G];split
       . rename_i e;subst e;rw[h0];omega
       . rename_i e
         rw[r2 u,Ak I,if_neg e]
  . rw [if_neg h0]
    have h1:=hk.lo _ V;refine⟨fun e=>?_,fun e=>?_⟩
    . have e:¬k.getD v 0=-1:=by simpa using e
      have hp:0<k.getD v 0:=by omega
      exact⟨hG,fun _=>Iff.rfl,hp,hG v hp⟩
    . have e:k.getD v 0=-1:=by simpa using e
      exact nX (hS v e)
def WT(g:List (List Int))(s:Nat):Nat->Nat->Prop
 |0,k=>k=s
 |n+1,k=>∃i,WT g s n i/\(k:Int)∈g.getD i []
theorem EF{s:Nat}:∀(n k m:Nat),WT g s n k->Wk g m k->Wk g (n+m) s
 |0,k,m,h,hw=>by cases h;rwa[zji]
 |n+1,k,m,⟨i,h1,h2⟩,hw=>by
  have:=EF n i (m+1) h1 ⟨_,h2,hw⟩
  rwa[show n+1+m=n+(m+1) by omega]
theorem EG{s:Nat}(hg:∀v,∀t∈g.getD v [],(0:Int)<=t):∀(n j k:Nat),WT g s j k->Wk g n k->∃q,WT g s (j+n) q
 |0,j,k,h,_=>⟨k,h⟩
 |n+1,j,k,h,⟨t,ht,hw⟩=>by
  have h0:=hg k t ht;have h1:WT g s (j+1) t.toNat:=⟨k,h,by rw[zjk h0];exact ht⟩
  obtain⟨q,hq⟩:=EG hg n (j+1) t.toNat h1 hw;exact⟨q,by rwa[show j+(n+1)=j+1+n by omega]⟩
theorem GY{s n:Nat}(hg:∀v,∀t∈g.getD v [],(0:Int)<=t):Wk g n s↔∃k,WT g s n k:=by
 constructor
 . intro h
   obtain⟨q,C⟩:=EG hg n 0 s rfl h;rw[zji]at C;exact⟨q,C⟩
 . rintro⟨k,D⟩
   have:=EF n k 0 D trivial
   exact this
end
section
variable {m:Modl}
theorem rP{l:List Bool}{v u:Nat}{x:Bool}(h:v<l.length):(l.set v x).getD u zf=if v=u then x else l.getD u zf:=by
 rw[zqc,zqc,zqm];split
 . first|rfl|(rw[if_pos h];rfl)
 . rfl
theorem zQ{n u:Nat}:(zqa n zf).getD u zf=zf:=by
 rw[zqc,zja];split<;>rfl
theorem dF{l:List Bool}{i:Nat}(o:List Bool):∀(k:Nat),k<=o.length->∀u,(rN m l i o k).getD u zf=(o.getD u zf||(decide (u<k)&&(l.getD i zf&&callsTo m i u)))
 |0,_,u=>by simp[rN]
 |k + 1,hk,u=>by
  rw[Vk,JF,rP (by rw[Rv];omega),dF o k (by omega) u,dF o k (by omega) k];by_cases e:k=u
  . subst e
    rw[if_pos rfl];simp
  . rw[if_neg e]
    have:decide (u<k+1)=decide (u<k):=by by_cases h:u<k<;>simp[h]<;>omega
    rw[this]
theorem nY{l:List Bool}:∀(j:Nat)(u:Nat),(vP m l j).getD u zf=zt↔u<l.length/\∃i<j,l.getD i zf=zt/\callsTo m i u=zt
 |0,u=>by
  unfold vP;rw[show(zkb 0).foldl (fun o i=>rN m l i o l.length) (zqa l.length zf)=zqa l.length zf from rfl,zQ];simp
 |j + 1,u=>by
  rw[Vl,dF _ _ (by rw[La];exact zjc _) u,zjq,nY j u]
  constructor
  . rintro (⟨h1,i,h2,C⟩|h)
    . exact⟨h1,i,by omega,C⟩
    . simp only[zjp,decide_eq_true_eq]at h
      exact⟨h.1,j,by omega,h.2⟩
  . rintro ⟨h1,i,h2,C⟩
    by_cases e:i=j
    . subst e
      right
      simp only[zjp,decide_eq_true_eq];exact⟨h1,C⟩
    . exact .inl ⟨h1,i,by omega,C⟩
theorem nZ{l:List Bool}{u:Nat}:(nxD m l).getD u zf=zt↔u<l.length/\∃i,l.getD i zf=zt/\callsTo m i u=zt:=by
 unfold nxD;rw[nY]
 constructor
 . rintro⟨h1,i,_,h2⟩;exact⟨h1,i,h2⟩
 . rintro⟨h1,i,h2,C⟩
   refine⟨h1,i,?_,h2,C⟩;refine Classical.byContradiction fun hn=>?_
   rw[zqc,zko (by omega)]at h2;cases h2
theorem Gk{i u:Nat}:callsTo m i u=zt↔(u:Int)∈(grM m).getD i []:=by
 unfold callsTo;rw[zjb]
 constructor
 . rintro⟨x,h1,h2⟩
   rw[<-of_decide_eq_true h2];exact h1
 . exact fun h=>⟨_,h,by simp⟩
def EH(m:Modl):Nat->List Bool
 |0=>l0M m
 |n+1=>nxD m (EH m n)
theorem oA:∀n,(EH m n).length=m.fs.length
 |0=>l0M_len m
 |n+1=>by rw[EH,Rx,oA n]
theorem oB(h:DpOk m){u:Nat}:(l0M m).getD u zf=zt↔u=(mainI m).toNat:=by
 unfold l0M;rw[rP (by have:=h.mn;simp;omega),zQ];by_cases e:(mainI m).toNat=u
 . rw[if_pos e];exact⟨fun _=>e.symm,fun _=>rfl⟩
 . rw[if_neg e];exact⟨fun h=>(by cases h),fun h=>absurd h.symm e⟩
theorem PG(h:DpOk m)(v:Nat)(t:Int)(C:t∈(grM m).getD v []):0<=t/\t<m.fs.length:=h.gr.tg v t C
theorem PH(h:DpOk m):∀{n k:Nat},WT (grM m) (mainI m).toNat n k->k<m.fs.length
 |0,k,e=>by cases e;have:=h.mn;omega
 |n+1,k,⟨i,_,h2⟩=>by have:=PG h i _ h2;omega
theorem Rz(h:DpOk m):∀(n u:Nat),(EH m n).getD u zf=zt↔WT (grM m) (mainI m).toNat n u
 |0,u=>oB h
 |n + 1,u=>by
  rw[EH,nZ]
  constructor
  . rintro⟨_,i,h1,h2⟩
    exact⟨i,(Rz h n i).1 h1,Gk.1 h2⟩
  . intro D
    have C:=D;obtain⟨i,h1,h2⟩:=D;exact⟨by rw[oA];exact PH h C,i,(Rz h n i).2 h1,Gk.2 h2⟩
theorem zR{l:List Bool}:l.any id=zt↔∃u,l.getD u zf=zt:=by
 rw[zjb]
 constructor
 . rintro⟨x,h1,h2⟩
   obtain⟨i,hi,rfl⟩:=zkw h1;exact⟨i,by rw[zqc,zqf hi];exact h2⟩
 . rintro⟨u,C⟩
   rw[zqc]at C;cases D:l[u]? with
   |none=>rw[D]at C;cases C
   |some x=>rw[D]at C;exact⟨x,zkc D,C⟩
theorem dG(h:DpOk m)(n:Nat):(EH m n).any id=zt↔Wk (grM m) n (mainI m).toNat:=by
 rw[zR,GY fun v t D=>(PG h v t D).1]
 constructor
 . rintro⟨u,C⟩;exact⟨u,(Rz h n u).1 C⟩
 . rintro⟨u,C⟩;exact⟨u,(Rz h n u).2 C⟩
theorem oC(h:DpOk m){n:Nat}(h1:∀j,j<n->Wk (grM m) j (mainI m).toNat)(h2:¬Wk (grM m) n (mainI m).toNat)(hn:n<=m.fs.length):∀(d j f:Nat),n=j+d->j+f=m.fs.length+2->vQ m f j (EH m j)=((n:Int),zt)
 |0,j,0,e,hf=>by omega
 |0,j,f+1,e,hf=>by
  obtain rfl:j=n:=by omega
  rw[vQ,if_neg (fun ha=>h2 ((dG h j).1 ha))]
 |d+1,j,0,e,hf=>by omega
 |d+1,j,f+1,e,hf=>by
  rw[vQ,if_pos ((dG h j).2 (h1 j (by omega))),if_neg (by omega)];exact oC h h1 h2 hn d (j+1) f (by omega) (by omega)
theorem oD(h:DpOk m)(h1:∀j,Wk (grM m) j (mainI m).toNat):∀(f j:Nat),j+f=m.fs.length+2->j<=m.fs.length->vQ m f j (EH m j)=(0,zf)
 |0,j,hf,hj=>by omega
 |f + 1,j,hf,hj=>by
  rw[vQ,if_pos ((dG h j).2 (h1 j))];by_cases hb:m.fs.length<j+1
  . rw[if_pos hb]
  . rw[if_neg hb]
    exact oD h h1 f (j+1) (by omega) (by omega)
theorem GZ(h:DpOk m):depD m=jH m:=by
 have C:(mainI m).toNat<m.fs.length:=by have:=h.mn;omega
 have h0:∀u,(zqa m.fs.length (0:Int)).getD u 0=0:=fun u=>by
  rw[zqc,zja];split<;>rfl
 have s:=gZ (g:=grM m) h.gr.tg (m.fs.length+1) (mainI m).toNat (zqa m.fs.length 0) C (lG _) (by simp) (fun v H=>by rw[h0]at H;omega) (fun u I=>by rw[h0]at I;omega);have i:=Cj h.gr.tg (m.fs.length+1) (mainI m).toNat (zqa m.fs.length 0) C (lG _) (by simp);unfold depD jH yZ;rcases U:lonD (grM m) (m.fs.length+1) (mainI m).toNat (zqa m.fs.length 0)with⟨⟨n,b⟩,k'⟩
 rw[U]at s i;cases b with
 |false=>
  rw[if_neg (by simp)];exact(oD h (s.no rfl) (m.fs.length+2) 0 (by omega) (zjg _)).symm
 |true=>
  obtain⟨_,_,Q,D,G⟩:=s.yes rfl;have J:=(i.2 rfl).2;simp only at Q D G J;have hd:=DU k';have hl:=i.1.inv.len;simp only at hl;rw[if_pos rfl];have e:=oC h (n:=n.toNat) (fun j hj=>nW (n.toNat-1-j) j (by rw[show j+(n.toNat-1-j)=n.toNat-1 by omega];exact D)) G (by omega) n.toNat 0 (m.fs.length+2) (by omega) (by omega);rw[zjk (by omega)]at e;exact e.symm
end
def RS(g:List (List Int))(s k:Nat):Prop:=∃n,WT g s n k
section
variable {g:List (List Int)}{m:Modl}
theorem vS{s:Nat}:∀(n k j q:Nat),WT g s n k->WT g k j q->WT g s (n+j) q
 |n,k,0,q,h1,h2=>by cases h2;exact h1
 |n,k,j+1,q,h1,⟨i,h2,h3⟩=>⟨i,vS n k j i h1 h2,h3⟩
theorem RS.tr{s k q:Nat}(h1:RS g s k)(h2:RS g k q):RS g s q:=by
 obtain⟨n,h1⟩:=h1;obtain⟨j,h2⟩:=h2;exact⟨_,vS n k j q h1 h2⟩
theorem RS.one{s:Nat}{t:Int}(h0:0<=t)(h:t∈g.getD s []):RS g s t.toNat:=⟨1,s,rfl,by rw[zjk h0];exact h⟩
structure MSem(g:List (List Int))(S:Nat->Prop)(a b:List Bool):Prop where
 new:∀i,b.getD i zf=zt->a.getD i zf=zt\/S i
 cl:∀i,b.getD i zf=zt->a.getD i zf=zf->∀t∈g.getD i [],b.getD t.toNat zf=zt
theorem oE{n f:Nat}{rec:Nat->List Bool->List Bool}(hg:∀v,∀t∈g.getD v [],0<=t/\t<n)(C:∀v a,v<n->a.length=n->MLe n a (rec v a))
 (hr:∀v a,v<n->a.length=n->a.count zf<f->MSem g (RS g v) a (rec v a)/\(rec v a).getD v zf=zt):
 ∀(l:List Int)(a:List Bool),(∀t∈l,0<=t/\t<n)->a.length=n->a.count zf<f->MSem g (fun i=>∃t∈l,RS g t.toNat i) a (mkL rec l a)/\∀t∈l,(mkL rec l a).getD t.toNat zf=zt
 |[],a,hl,ha,hc=>⟨⟨fun i h=>.inl h,fun i h h2=>by
     have h:a.getD i zf=zt:=h;rw[h]at h2;cases h2⟩,fun t D=>by cases D⟩
 |t :: l,a,hl,ha,hc=>by
  have H:t.toNat<n:=by have:=hl t (zqn ..);omega
  have I:=C t.toNat a H ha;obtain⟨U,c1⟩:=hr t.toNat a H ha hc;obtain⟨V,c2⟩:=oE hg C hr l (rec t.toNat a) (fun t D=>hl t (zql _ D)) I.len (zjf (I.cf ha) hc);have Q:=Uy (f:=f) C l (rec t.toNat a) (fun t D=>hl t (zql _ D)) I.len;have e:mkL rec (t::l) a=mkL rec l (rec t.toNat a):=rfl;rw[e];refine⟨⟨fun i h=>?_,fun i h h2 u J=>?_⟩,fun q G=>?_⟩
  . rcases V.new i h with h|⟨q,G,h⟩
    . rcases U.new i h with h|h
      . exact .inl h
      . exact .inr ⟨t,zqn ..,h⟩
    . exact .inr ⟨q,zql _ G,h⟩
  . cases Y:(rec t.toNat a).getD i zf with
    |true=>exact Q.le _ (U.cl i Y h2 u J)
    |false=>exact V.cl i h Y u J
  . rcases zqs.1 G with rfl|G
    . exact Q.le _ c1
    . exact c2 q G
theorem oF{n:Nat}(hg:∀v,∀t∈g.getD v [],0<=t/\t<n):∀(f v:Nat)(a:List Bool),v<n->a.length=n->a.count zf<f->MSem g (RS g v) a (mkD g f v a)/\(mkD g f v a).getD v zf=zt
 |0,v,a,hv,ha,hc=>absurd hc (zje _)
 |f + 1,v,a,hv,ha,hc=>by
  rw[mkD];cases h0:a.getD v zf with
  |true=>
   rw[if_pos rfl];exact⟨⟨fun i h=>.inl h,fun i h h2=>by rw[h]at h2;cases h2⟩,h0⟩
  |false=>
   rw[if_neg (by decide)];have hcs:=vJ (a:=a) (v:=v) (by omega) h0;have C:(a.set v zt).length=n:=by simp[ha]
   obtain⟨s,c⟩:=oE hg (Nr hg f) (oF hg f) (g.getD v []) (a.set v zt) (hg v) C (by omega);have l:=Uy (f:=f) (Nr hg f) (g.getD v []) (a.set v zt) (hg v) C;have D:(a.set v zt).getD v zf=zt:=by rw[rP (by omega),if_pos rfl]
   refine⟨⟨fun i h=>?_,fun i h h2 u G=>?_⟩,l.le v D⟩
   . rcases s.new i h with h|⟨t,H,h⟩
     . rw[rP (by omega)]at h
       split at h
       . rename_i e;subst e;exact .inr ⟨0,rfl⟩
       . exact .inl h
     . exact .inr ((RS.one (hg v t H).1 H).tr h)
   . by_cases e:v=i
     . subst e;exact c u G
     . exact s.cl i h (by rw[rP (by omega),if_neg e];exact h2) u G
theorem lV{b:List Bool}{s:Nat}(h0:b.getD s zf=zt)(hc:∀i,b.getD i zf=zt->∀t∈g.getD i [],b.getD t.toNat zf=zt):∀(n k:Nat),WT g s n k->b.getD k zf=zt
 |0,k,h=>by cases h;exact h0
 |n+1,k,⟨i,h1,h2⟩=>by
  have:=hc i (lV h0 hc n i h1) _ h2
  rwa[zjm]at this
theorem zS(h:DpOk m)(u:Nat):(vL m).getD u zf=zt↔RS (grM m) (mainI m).toNat u:=by
 have C:(mainI m).toNat<m.fs.length:=by have:=h.mn;omega
 obtain⟨s,c⟩:=oF (g:=grM m) h.gr.tg (m.fs.length+1) (mainI m).toNat (zqa m.fs.length zf) C (by simp) (by simp)
 constructor
 . intro D
   rcases s.new u D with e|e
   . rw[zQ]at e;cases e
   . exact e
 . rintro⟨n,hn⟩
   exact lV c (fun i hi t G=>s.cl i hi zQ t G) n u hn
theorem dH{mo:List Bool}(l:List Bool):∀(k:Nat),k<=l.length->∀u,(orI mo l k).getD u zf=(l.getD u zf||(decide (u<k)&&mo.getD u zf))
 |0,_,u=>by simp[orI]
 |k + 1,hk,u=>by
  rw[Lc,ED,rP (by rw[Ry];omega),dH l k (by omega) u,dH l k (by omega) k];by_cases e:k=u
  . subst e
    rw[if_pos rfl];simp
  . rw[if_neg e]
    have:decide (u<k+1)=decide (u<k):=by by_cases h:u<k<;>simp[h]<;>omega
    rw[this]
theorem neO_succ(j u:Nat):(In m (j+1)).getD u zf=zt↔(In m j).getD u zf=zt\/∃i,(In m j).getD i zf=zt/\(u:Int)∈(grM m).getD i []/\u<m.fs.length:=by
 rw[In,dH _ _ (by rw[j7];exact zjc _) u,zjq,zjp,decide_eq_true_eq,nZ,j7]
 constructor
 . rintro(h|⟨h1,h2,i,C,D⟩)
   . exact .inl h
   . exact .inr ⟨i,C,Gk.1 D,h1⟩
 . rintro(h|⟨i,h1,h2,C⟩)
   . exact .inl h
   . exact .inr ⟨C,C,i,h1,Gk.2 h2⟩
theorem dI(h:DpOk m):∀(j u:Nat),(In m j).getD u zf=zt->RS (grM m) (mainI m).toNat u
 |0,u,hu=>by rw[(oB h).1 hu];exact⟨0,rfl⟩
 |j + 1,u,hu=>by
  rcases(neO_succ j u).1 hu with h1|⟨i,h1,h2,_⟩
  . exact dI h j u h1
  . obtain⟨n,hn⟩:=dI h j i h1
    exact⟨n+1,i,hn,h2⟩
theorem PI{a b:List Bool}(hl:b.length=a.length)(D:∀i,a.getD i zf=zt->b.getD i zf=zt)(G:∃i,b.getD i zf=zt/\a.getD i zf=zf):a.count zt<b.count zt:=by
 induction a generalizing b with
 | nil=>cases b with
  |nil=>obtain⟨i,h,_⟩:=G;simp at h
  |cons _ _=>simp at hl
 | cons x l I=>cases b with
  |nil=>simp at hl
  |cons y H=>
   have h0:=D 0;simp at h0;have C:∀i,l.getD i zf=zt->H.getD i zf=zt:=fun i hi=>by have:=D (i+1);simp at this|-;exact this (by simpa using hi)
   have hl':H.length=l.length:=by simpa using hl
   have hct:l.count zt<=H.count zt:=by
    have h1:=DV hl' C;have e1:l.count zt+l.count zf=l.length:=by
     clear I D G h0 C hl' h1 hl
     induction l with
     |nil=>rfl
     |cons z l I=>cases z<;>simp<;>omega
    have e2:H.count zt+H.count zf=H.length:=by
     clear I D G h0 C hl' h1 hl e1
     induction H with
     |nil=>rfl
     |cons z l I=>cases z<;>simp<;>omega
    omega
   rw[zqx,zqx];obtain⟨i,h1,h2⟩:=G;cases i with
   |zero=>
    simp at h1 h2;rw[h1,h2];simp;omega
   |succ i=>
    have:=I hl' C ⟨i,by simpa using h1,by simpa using h2⟩
    cases x with
    |false=>cases y<;>simp<;>omega
    |true=>rw[h0 rfl];simp;omega
theorem hH(j u:Nat)(h:(In m j).getD u zf=zt):(In m (j+1)).getD u zf=zt:=(neO_succ j u).2 (.inl h)
theorem neO_stop(h:DpOk m):∀n,(∃j,j<n/\∀u,(In m (j+1)).getD u zf=zt->(In m j).getD u zf=zt)\/n<(In m n).count zt
 |0=>by
  right
  rw[zkn];have C:=Lg h.mn 0;rw[zqc]at C;cases D:(In m 0)[(mainI m).toNat]? with
  |none=>rw[D]at C;cases C
  |some x=>rw[D]at C;obtain rfl:x=zt:=C;exact zkc D
 |n + 1=>by
  rcases neO_stop h n with⟨j,h1,h2⟩|h1
  . exact .inl ⟨j,by omega,h2⟩
  . by_cases G:∀u,(In m (n+1)).getD u zf=zt->(In m n).getD u zf=zt
    . exact .inl ⟨n,by omega,G⟩
    . right
      have:=PI (a:=In m n) (b:=In m (n+1)) (by rw[j7,j7]) (fun i hi=>hH n i hi) (by
       refine Classical.byContradiction fun hn=>G fun u H=>?_
       cases I:(In m n).getD u zf with
       |true=>rfl
       |false=>exact absurd ⟨u,H,I⟩ hn)
      omega
theorem vT{j:Nat}:∀d u,(In m j).getD u zf=zt->(In m (j+d)).getD u zf=zt
 |0,u,h=>h
 |d+1,u,h=>hH _ u (vT d u h)
theorem dJ(h:DpOk m)(u:Nat):(neD m).getD u zf=zt↔RS (grM m) (mainI m).toNat u:=by
 constructor
 . exact dI h _ u
 . rintro ⟨n,hn⟩
   rcases neO_stop h m.fs.length with⟨j,h1,h2⟩|h1
   . have hc:=lV (g:=grM m) (b:=In m j) (Lg h.mn j) (fun i hi t C=>by
      obtain⟨D,t1⟩:=PG h i t C;exact h2 _ ((neO_succ j _).2 (.inr ⟨i,hi,by rw[zjk D];exact C,by omega⟩))) n u hn
     have:=vT (m.fs.length-j) u hc
     rwa[show j+(m.fs.length-j)=m.fs.length by omega]at this
   . have:=zky (a:=zt) (l:=In m m.fs.length)
     rw[j7]at this;omega
theorem rQ{a b:List Bool}(hl:a.length=b.length)(h:∀u,a.getD u zf=zt↔b.getD u zf=zt):a=b:=by
 apply List.ext_getElem hl;intro i h1 h2
 have:=h i
 rw[zqc,zqc,zqf h1,zqf h2]at this;simp only[zjo]at this;cases ha:a[i]<;>cases hb:b[i]<;>simp_all
theorem PL(h:DpOk m):vL m=neD m:=rQ (by rw[nR h];exact(j7 m _).symm) fun u=>(zS h u).trans (dJ h u).symm
theorem PM(h:DpOk m){i:Nat}(hi:(neD m).getD i zf=zt){t:Int}(C:t∈(grM m).getD i []):(neD m).getD t.toNat zf=zt:=by
 obtain⟨n,hn⟩:=(dJ h i).1 hi;exact(dJ h _).2 ⟨n+1,i,hn,by rw[zjk (PG h i t C).1];exact C⟩
theorem oG{nd:List Bool}:∀(j u:Nat),j<=nd.length->u<j->(plG nd j).getD u 0=(cntB nd u:Int)
 |0,u,_,hu=>absurd hu (zje _)
 |j+1,u,hj,hu=>by
  rw[plG,Ak (by rw[Ld];omega)];by_cases e:j=u
  . subst e;rw[if_pos rfl]
  . rw[if_neg e];exact oG j u (by omega) (by omega)
theorem Vp{nd:List Bool}:∀(l:List Cod)(i:Nat)(o:List Cod)(p:List Int),o.length=cntB nd i->nd.length=i+l.length->p.length=nd.length->(∀j,j<i->nd.getD j zf=zt->p.getD j 0=(cntB nd j:Int)) ->
 ∀j,j<nd.length->nd.getD j zf=zt->(keepL nd i l o p).2.getD j 0=(cntB nd j:Int)
 |[],i,o,p,ho,hn,hp,hI,j,hj,hd=>by
  rw[zks]at hn;exact hI j (by omega) hd
 |c :: l,i,o,p,ho,hn,hp,hI,j,hj,hd=>by
  rw[zqw]at hn;have D:=Zz (nd:=nd) (i:=i) (by omega);rw[keepL];by_cases h0:nd.getD i zf=zt
  . rw [if_pos h0]at D|-
    exact Vp l (i+1) (o++[c]) (p.set i o.length) (by simp;omega) (by omega) (by simp[hp]) (fun q G C=>by
     rw[Ak (by omega)];by_cases e:i=q
     . subst e;rw[if_pos rfl,ho]
     . rw[if_neg e];exact hI q (by omega) C) j hj hd
  . rw [if_neg h0]at D|-
    exact Vp l (i+1) o p (by omega) (by omega) hp (fun q G C=>by
     by_cases e:i=q
     . subst e;exact absurd C h0
     . exact hI q (by omega) C) j hj hd
theorem dK{nd:List Bool}{q:List Int}:∀(l:List Cod)(i:Nat)(o:List Cod)(p:List Int),(keepL nd i l o p).1.map (relC q)=keepR nd q i l (o.map (relC q))
 |[],i,o,p=>rfl
 |c::l,i,o,p=>by
  rw[keepL,keepR];split
  . rw[dK l (i+1) (o++[c]) _,zke];rfl
  . exact dK l (i+1) o p
theorem keepL_src{nd:List Bool}{c:Cod}:∀(l:List Cod)(i:Nat)(o:List Cod)(p:List Int),c∈(keepL nd i l o p).1->c∈o\/∃j,l[j]?=zsq c/\nd.getD (i+j) zf=zt
 |[],i,o,p,h=>.inl h
 |x :: l,i,o,p,h=>by
  rw[keepL]at h;split at h
  . rename_i h0
    rcases keepL_src l _ _ _ h with h|⟨j,h1,h2⟩
    . rcases zqy.1 h with h|h
      . exact .inl h
      . rw[zqq.1 h];exact .inr ⟨0,rfl,h0⟩
    . exact .inr ⟨j+1,h1,by rwa[show i+(j+1)=i+1+j by omega]⟩
  . rcases keepL_src l _ _ _ h with h|⟨j,h1,h2⟩
    . exact .inl h
    . exact .inr ⟨j+1,h1,by rwa[show i+(j+1)=i+1+j by omega]⟩
theorem HA{p q:List Int}{c:Cod}(h:∀t∈callsD c,p.getD t.toNat 0=q.getD t.toNat 0):relC p c=relC q c:=by
 unfold relC
 congr 1
 apply zki;intro b hb;unfold relB
 congr 1
 apply zki;intro x C;unfold relI;split
 . rename_i D
   rw[h x.n (zku.2 ⟨b,hb,zkf.2 ⟨x,zkv.2 ⟨C,by simp[D]⟩,rfl⟩⟩)]
 . rfl
theorem HB(h:DpOk m):pruD m=gX m:=by
 unfold pruD gX kpM;rw[PL h];have C:(neD m).length=m.fs.length:=j7 m _
 congr 1
 have e:=dK (nd:=neD m) (q:=plG (neD m) m.fs.length) m.fs 0 [] (zqa m.fs.length 0);rw[List.map_nil]at e;rw[<-e];apply zki;intro c hc;rcases keepL_src _ _ _ _ hc with h1|⟨j,h1,h2⟩
 . cases h1
 . rw [zji]at h2
   apply HA;intro t D;have hg:t∈(grM m).getD j []:=by
    unfold grM;rw[zqc,zqe,h1];exact D
   obtain⟨t0,t1⟩:=PG h j t hg;rw[Vp m.fs 0 [] (zqa m.fs.length 0) rfl (by omega) (by simp[C]) (fun j G=>absurd G (zje _)) t.toNat (by omega) (PM h h2 hg),oG m.fs.length t.toNat (by omega) (by omega)]
end
end Go.Proofs.AmEnv
