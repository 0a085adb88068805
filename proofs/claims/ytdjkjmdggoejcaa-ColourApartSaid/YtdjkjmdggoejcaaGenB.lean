/- What this program's functions do, at any data. Conditions: none. -/
import Derived.Test.YtdjkjmdggoejcaaGenA
import Derived.KernelRfl
set_option linter.unusedVariables false
set_option linter.unusedSimpArgs false
set_option linter.unusedSectionVars false
set_option linter.defProp false
set_option maxRecDepth 100000
set_option maxHeartbeats 4000000
open List renaming length→lz
open Option renaming some→zs,none→zn
open Bool renaming true→zt,false→zf
open List renaming range_zero→zqa,flatMap_nil→zqb,nil_append→zqc,length_map→zqd,getElem_mem→zqe,map_nil→zqf,map_cons→zqg,take_length→zqh,getElem?_eq_none→zqi,getElem?_eq_getElem→zqj,getD_eq_getElem?_getD→zqk,mem_cons→zql,drop_zero→zqm,sum_cons→zqn,sum_nil→zqo,not_mem_nil→zqp,eq_nil_of_length_eq_zero→zqq,nodup_nil→zqr,length_nil→zqs,zip_cons_cons→zqt,zip_nil_left→zqu,take_of_length_le→zqv,getElem?_set_self→zqw,mem_singleton→zqx,map_map→zqy,mem_map_of_mem→zqz,getElem?_append_left→zka,any_eq_true→zkb,mem_of_getElem?→zkc,getElem?_set_ne→zkd,length_set→zke,length_append→zkf,drop_eq_getElem_cons→zkg,take_succ_eq_append_getElem→zkh,map_append→zki,any_eq_false→zkj
open Nat renaming not_lt_zero→zkk,le_refl→zkl
open Int renaming eq_ofNat_of_zero_le→zkm,toNat_natCast→zkn
open Bool renaming or_eq_true→zko,and_eq_true→zkp,and_eq_true_iff→zkq
noncomputable section
namespace Go.Proofs.AmEnv
open Go Go.AM
variable {T:Nat->Option (List AV->Option (List AV))}
theorem tV{c:AV}:AV.x0f .x0e 0 [c]=c:=rfl
theorem Df{c:Cod}(hc:LOk c):B3 (lz c.x0g) (lz c.x0g) (gt c):=by
 have D:∀(k i:Nat)(O:List (List Bool)),lz c.blocks=i+k->B3 (lz c.x0g) (lz c.x0g) O->B3 (lz c.x0g) (lz c.x0g) (wl c.blocks (iu c).2.1 k i O):=fun k=>by
  induction k with
  |zero=>intro i O _ h;exact h
  |succ k G=>
   intro i O e h;have hi:i<lz c.blocks:=by omega
   rw[wl,zqj hi];exact G (i+1) _ (by omega) (Zg (hc.wk _ (zqe hi)) ((Fx c).2.get hi) h)
 exact D _ 0 _ (by omega) (Kh _ 0 (by omega) (O2 _ _))
theorem Ol(V:T 28=zs y5)(J:T 30=zn)(X:T 52=zn)(I:T 51=zs D6)(D:T 27=zn)(Q:T 29=zn)(G:T 31=zn)(N:T 32=zs B7)(U:T 53=zs C7){c:Cod}(hk:LOk c/\lz c.x0g*24<=cp):AM.eo ⟨A0,T,A2⟩ 10 [c.F] [di 0 1 (tab (gt c))]:=by
 obtain⟨hc,hr⟩:=hk;have hs:lz c.x0g<=cp:=by simp only[cp]at hr|-;omega
 obtain⟨sA,sB⟩:=Fx c;have tl:=fun K=>kH (K:=K) V hc
 obtain⟨aa,h1,k1,k2⟩:=BJ (T:=T) (c:=c) hr (lz c.x0g) 0 (by omega);have Y:=Df hc;unfold gt at Y|-;generalize (iu c).1=A at sA tl Y|-;generalize (iu c).2.1=B at sB tl Y|-;by_cases hz:lz c.x0g=0
 . obtain⟨ab,h3,k3⟩:=tU (T:=T) (c:=c) (B:=B) J X I G N U hz hc hs sB (lz c.blocks) 0 (by omega)
   have e0:wl c.blocks B (lz c.blocks) 0 (xy c A (lz c.x0g) 0 (gk (lz c.x0g) (lz c.x0g)))=[]:=zqq (by rw[Y.1,hz]);rw[e0];obtain⟨ac,h2,k4,k5,k6,k7⟩:=BM (T:=T) (c:=c) (K:=⟨[.row 1 [c.F] 5,.row 1 [.x0a] 1,.row 1 [.fn (.func 27) [] [.ptr 1 0 0]] 1,.row 0 (tab B) 1,.row 1 [.msl 5 0 (lz c.blocks) 1] 1,.row 0 (tab A) 1],0,[]⟩);have h2:=B4 h2;rw[hz]at h1 h2;have nz:((0:Nat):Int)=0:=rfl;refine⟨[.x0a],⟨[],0,[]⟩,?_,F3 (.inl ⟨rfl,rfl,rfl⟩)⟩;rw[A7 (c:=AF) (nt:=73) (rs:=[.tmp 2]) rfl (by simp)];unfold AF;unfold K0;unfold EL at h1;rw[nz]at h1 h2 h3;simp only[Cod.F]at tl h1 h2 h3|-;simp only[tV,sA.1,sB.1,hz,nz,h1,k1,k2,tl,h2,k4,k5,k6,k7,h3,k3,C8,C9,D1,D2,D3,D4,Q8,H2,H3,H4,H5,H6,H7,zqd,XP,seval]
 . obtain ⟨m,hm⟩:∃m,lz c.x0g=m+1:=⟨lz c.x0g-1,by omega⟩
   obtain ⟨ac,h2,k4,k5,k6,k7⟩:=BN (T:=T) (c:=c) (A:=A) (B:=B) D Q hr hc.b0 sA (lz c.x0g) 0 (gk (lz c.x0g) (lz c.x0g)) (by omega) (O2 _ _);have s2:=Kh (c:=c) (A:=A) (lz c.x0g) 0 (by omega) (O2 (lz c.x0g) (lz c.x0g));obtain⟨ab,h3,k3⟩:=tT (T:=T) (c:=c) (B:=B) J X I G N U D hc hs sB (lz c.blocks) 0 (xy c A (lz c.x0g) 0 (gk (lz c.x0g) (lz c.x0g))) (by omega) s2;have h1:evP ⟨A0,T,A2⟩ (.code (.loop Md) [(1,.ptr 0 0 0),(3,.ptr 1 0 0),(14,.int .i64 (lz c.x0g:Int)),(15,.int .i64 ((0:Nat):Int))] (EL c 0))=zs (.ok (.exit 0) aa ⟨[.row 1 [c.F] 5,.row 1 [.msl 2 0 (lz c.x0g) 1] 1,.row 0 (tab (gk (lz c.x0g) (lz c.x0g))) 1],0,[]⟩):=by
    rw[h1];unfold EL;rw[hm]
   have nz:((0:Nat):Int)=0:=rfl;generalize wl c.blocks B (lz c.blocks) 0 (xy c A (lz c.x0g) 0 (gk (lz c.x0g) (lz c.x0g)))=O at h3 Y|-;refine⟨[.msl 0 0 (lz c.x0g) 1],⟨[.row 0 (tab O) 1],0,[]⟩,?_,F3 (.inr ⟨by rw[zqd,Y.1],rfl⟩)⟩;rw[A7 (c:=AF) (nt:=73) (rs:=[.tmp 2]) rfl (by simp)];unfold AF;unfold K0;unfold EL at h1;rw[nz]at h1 h2 h3;simp only[Cod.F]at tl h1 h2 h3|-;simp only[tV,h1,k1,k2,tl,h2,k4,k5,k6,k7,h3,k3,sA.1,sB.1,C8,C9,D1,D2,D3,D4,Q8,H2,H3,H4,H5,H6,H7,zqd,XP,seval]
def O3:=Ck (fun p:(Cod)=>[p.F]) (fun p=>[di 0 1 (tab (gt p))]) (fun p=>LOk p/\lz p.x0g*24<=cp)
theorem Qe(D:T 10=zs O3){c:Cod}{K:PK}(G:LOk c/\lz c.x0g*24<=cp):evP ⟨A0,T,A2⟩ (.call 10 [c.F] K)=zs (.val (W2 (lz K.os) [di 0 1 (tab (gt c))]).1 ⟨K.os++(W2 (lz K.os) [di 0 1 (tab (gt c))]).2,K.ext,K.tch⟩):=E6 D (by simp only[VV,XP,seval]) (F2 (a:=fun p:(Cod)=>[p.F]) (r:=fun p=>[di 0 1 (tab (gt p))]) (fun x y e=>by simp only[VJ]at e;simp only[e]) (c) G) (by simp only[VN,Ur,XP,seval])
theorem Xf(N:T 28=zs y5)(Q:T 30=zn)(X:T 52=zn)(J:T 51=zs D6)(D:T 27=zn)(G:T 29=zn)(I:T 31=zn)(U:T 32=zs B7)(V:T 53=zs C7)(hP:ep ⟨A0,T,A2⟩):TC A0 10 O3:=F9 hP fun p h=>Ol N Q X J D G I U V h
abbrev Q2(A:List (List Bool)):List AV:=A.map fun r=>Vx (bools r)
theorem fP{A B:List (List Bool)}:Q2 A=Q2 B↔A=B:=⟨Cz fun _ _ h=>mp.1 (gp h),fun h=>h▸rfl⟩
theorem fQ:∀A:List (List Bool),frzL (tab A)=zs (Q2 A):=fun A=>As (f:=fun r=>di 0 1 (bools r)) (g:=fun r=>Vx (bools r)) (fun r=>by
 show(match frzL (bools r)with|some es=>zs (Vx es)|none=>zn)=_;rw[ip]) A
theorem He{A:List (List Bool)}{i:Nat}(h:i<lz A):(Q2 A)[i]?=zs (Vx (bools (A.getD i []))):=by simp[Q2,h]
structure Cls where
 kind:Int
 mem:List Int
def Cls.F(x:Cls):AV:=.agg [.int .i64 x.kind,Vx (ints x.mem)]
def Cls.O(x:Cls):AV:=.agg [.int .i64 x.kind,di 0 1 (ints x.mem)]
theorem Cls.F_iff{x y:Cls}:x.F=y.F↔x=y:=⟨fun h=>by
 cases x;cases y;simp only[Cls.F,AV.agg.injEq,List.cons.injEq,AV.int.injEq,true_and,and_true,ny,n0]at h;obtain⟨rfl,rfl⟩:=h;rfl,fun h=>h▸rfl⟩
def po(A:List (List Bool))(i j:Nat):Bool:=(A.getD i []).getD j zf
def Dx(A:List (List Bool))(r:Nat)(z:Int):Bool:=po A z.toNat r||po A r z.toNat
def kc(A:List (List Bool))(r:Nat)(kind:Int)(x:Cls):Bool:=decide (x.kind=kind) && !(x.mem.any (Dx A r))
structure SqT(A:List (List Bool))(n:Nat):Prop where
 l:lz A=n
 r:∀i,i<n->lz (A.getD i [])=n
section
variable {A:List (List Bool)}{n r i:Nat}{z:Int}{l:List Int}{tch:List Nat}{ext:Nat}
theorem Zh(V:T 65=zn)(D:SqT A n)(I:r<n)(h0:0<=z)(hz:z<n):evP ⟨A0,T,A2⟩ (.call 65 [.int .i64 z,.ptr 0 0 0,.ptr 1 0 0] ⟨[.row 1 [Vx (Q2 A)] 1,.row 1 [.int .i64 (r:Int)] 1],ext,tch⟩)=zs (.val [.bool (Dx A r z)] ⟨[.row 1 [Vx (Q2 A)] 1,.row 1 [.int .i64 (r:Int)] 1],ext,tch⟩):=by
 obtain⟨k,rfl⟩:=zkm h0;have J:=He (A:=A) (i:=k) (by rw[D.l];omega);have N:=He (A:=A) (i:=r) (by rw[D.l];omega);have G:=D9 (l:=A.getD k []) (i:=r) (by rw[D.r k (by omega)];exact I);have Q:=D9 (l:=A.getD r []) (i:=k) (by rw[D.r r I];omega);have e:Dx A r (k:Int)=((A.getD k []).getD r zf||(A.getD r []).getD k zf):=rfl;rw[e,g9 V rfl];cases U:(A.getD k []).getD r zf with
 |true=>
  rw[U]at G;rw[A7 (c:=GZ) (nt:=21) (rs:=[.tmp 4]) rfl (by simp)];unfold GZ;simp only[J,N,G,Q,XP,seval]
  done
 |false=>
  rw[U]at G;rw[A7 (c:=GZ) (nt:=21) (rs:=[.tmp 4]) rfl (by simp)];unfold GZ;simp only[J,N,G,Q,XP,seval]
  done
theorem YU(G:T 65=zn)(I:SqT A n)(J:r<n)(h:i<lz l)(N:lz l<=cp)(hl:∀z∈l,0<=z/\z<n)(Q:Dx A r l[i]=zf):evP ⟨A0,T,A2⟩ (.code Z9 [(0,Vx (ints l)),(1,.fn (.func 65) [] [.ptr 0 0 0,.ptr 1 0 0]),(7,.int .i64 (lz l:Int)),(8,.int .i64 (i:Int))] ⟨[.row 1 [Vx (Q2 A)] 1,.row 1 [.int .i64 (r:Int)] 1],2,[]⟩)=zs (.ok .normal [(0,Vx (ints l)),(1,.fn (.func 65) [] [.ptr 0 0 0,.ptr 1 0 0]),(7,.int .i64 (lz l:Int)),(8,.int .i64 ((i+1:Nat):Int))] ⟨[.row 1 [Vx (Q2 A)] 1,.row 1 [.int .i64 (r:Int)] 1],2,[]⟩):=by
 unfold Z9;have D:decide ((i:Int)<(lz l:Int))=zt:=by simp[h]
 have U:=A8 (i:=i) (by simp only[cp]at N;omega);have hz:=hl _ (zqe h);have t:=fun tch ext=>Zh (T:=T) (tch:=tch) (ext:=ext) G I J hz.1 hz.2
 rw[Q]at t;have hg:=C6 h;generalize l[i]=z at *;simp only[D,hg,U,t,XP,seval]
theorem YV(G:T 65=zn)(I:SqT A n)(J:r<n)(h:i<lz l)(hl:∀z∈l,0<=z/\z<n)(N:Dx A r l[i]=zt):∃fr',evP ⟨A0,T,A2⟩ (.code Z9 [(0,Vx (ints l)),(1,.fn (.func 65) [] [.ptr 0 0 0,.ptr 1 0 0]),(7,.int .i64 (lz l:Int)),(8,.int .i64 (i:Int))] ⟨[.row 1 [Vx (Q2 A)] 1,.row 1 [.int .i64 (r:Int)] 1],2,[]⟩)=zs (.ok .ret fr' ⟨[.row 1 [Vx (Q2 A)] 1,.row 1 [.int .i64 (r:Int)] 1],2,[]⟩)/\FR fr' 4=.int .i64 (i:Int):=by
 unfold Z9;have D:decide ((i:Int)<(lz l:Int))=zt:=by simp[h]
 have hz:=hl _ (zqe h);have t:=fun tch ext=>Zh (T:=T) (tch:=tch) (ext:=ext) G I J hz.1 hz.2
 rw[N]at t;have hg:=C6 h;generalize l[i]=z at *;simp only[D,hg,t,XP,seval];exact⟨_,rfl,rfl⟩
theorem YW:∃fr',evP ⟨A0,T,A2⟩ (.code Z9 [(0,Vx (ints l)),(1,.fn (.func 65) [] [.ptr 0 0 0,.ptr 1 0 0]),(7,.int .i64 (lz l:Int)),(8,.int .i64 (lz l:Int))] ⟨[.row 1 [Vx (Q2 A)] 1,.row 1 [.int .i64 (r:Int)] 1],2,[]⟩)=zs (.ok (.exit 0) fr' ⟨[.row 1 [Vx (Q2 A)] 1,.row 1 [.int .i64 (r:Int)] 1],2,[]⟩):=by
 unfold Z9;have D:decide ((lz l:Int)<(lz l:Int))=zf:=by simp
 simp only[D,XP,seval];exact⟨_,rfl⟩
theorem tW(I:T 65=zn)(J:SqT A n)(N:r<n)(Q:lz l<=cp)(hl:∀z∈l,0<=z/\z<n):evP ⟨A0,T,A2⟩ (.body 60 [Vx (ints l),.fn (.func 65) [] [.ptr 0 0 0,.ptr 1 0 0]] ⟨[.row 1 [Vx (Q2 A)] 1,.row 1 [.int .i64 (r:Int)] 1],2,[]⟩)=zs (.val [.int .i64 (et (Dx A r) l)] ⟨[.row 1 [Vx (Q2 A)] 1,.row 1 [.int .i64 (r:Int)] 1],2,[]⟩):=by
 rw[A7 (c:=GY) (nt:=19) (rs:=[.tmp 4]) rfl (by simp)];unfold GY;rcases k9 (P:=⟨A0,T,A2⟩) (c:=Z9) (p:=Dx A r) (l:=l) (S:=fun i=>[(0,Vx (ints l)),(1,.fn (.func 65) [] [.ptr 0 0 0,.ptr 1 0 0]),(7,.int .i64 (lz l:Int)),(8,.int .i64 (i:Int))]) (K:=⟨[.row 1 [Vx (Q2 A)] 1,.row 1 [.int .i64 (r:Int)] 1],2,[]⟩) (fun i h G=>YU I J N h Q hl G) (fun i h G=>YV I J N h hl G) YW with⟨i,e,fr',D,U⟩|⟨e,fr',D⟩
 . have D:evP ⟨A0,T,A2⟩ (.code (.loop Z9) [(0,Vx (ints l)),(1,.fn (.func 65) [] [.ptr 0 0 0,.ptr 1 0 0]),(7,.int .i64 (lz l:Int)),(8,.int .i64 0)] ⟨[.row 1 [Vx (Q2 A)] 1,.row 1 [.int .i64 (r:Int)] 1],2,[]⟩)=_:=D
   simp only[D,U,e,zqd,XP,seval]
 . have D:evP ⟨A0,T,A2⟩ (.code (.loop Z9) [(0,Vx (ints l)),(1,.fn (.func 65) [] [.ptr 0 0 0,.ptr 1 0 0]),(7,.int .i64 (lz l:Int)),(8,.int .i64 0)] ⟨[.row 1 [Vx (Q2 A)] 1,.row 1 [.int .i64 (r:Int)] 1],2,[]⟩)=_:=D
   simp only[D,e,zqd,XP,seval]
theorem pO(D:T 60=zn)(G:T 65=zn)(I:SqT A n)(J:r<n)(N:lz l<=cp)(hl:∀z∈l,0<=z/\z<n):evP ⟨A0,T,A2⟩ (.body 37 [Vx (ints l),.fn (.func 65) [] [.ptr 0 0 0,.ptr 1 0 0]] ⟨[.row 1 [Vx (Q2 A)] 1,.row 1 [.int .i64 (r:Int)] 1],2,[]⟩)=zs (.val [.bool (l.any (Dx A r))] ⟨[.row 1 [Vx (Q2 A)] 1,.row 1 [.int .i64 (r:Int)] 1],2,[]⟩):=by
 rw[<-bX];have t:∀tch,evP ⟨A0,T,A2⟩ (.call 60 [Vx (ints l),.fn (.func 65) [] [.ptr 0 0 0,.ptr 1 0 0]] ⟨[.row 1 [Vx (Q2 A)] 1,.row 1 [.int .i64 (r:Int)] 1],2,tch⟩)=zs (.val [.int .i64 (et (Dx A r) l)] ⟨[.row 1 [Vx (Q2 A)] 1,.row 1 [.int .i64 (r:Int)] 1],2,tch⟩):=fun tch=>Dt (ids:=[0,1]) D rfl rfl rfl rfl (tW G I J N hl) rfl rfl
 rw[A7 (c:=GW) (nt:=9) (rs:=[.tmp 4]) rfl (by simp)];unfold GW;simp only[t,XP,seval]
end
structure md(A:List (List Bool))(r:Nat)(x:Cls):Prop where
 sq:SqT A (lz A)
 r:r<lz A
 s:lz x.mem<=cp
 l:∀z∈x.mem,0<=z/\z<lz A
theorem Dg(I:T 60=zn)(G:T 37=zn)(D:T 65=zn){A:List (List Bool)}{r:Nat}{kind:Int}{x:Cls}(J:md A r x):AM.eo ⟨A0,T,A2⟩ 45 [x.F,.int .i64 (r:Int),.int .i64 kind,Vx (Q2 A)] [.bool (kc A r kind x)]:=by
 refine⟨[.bool (kc A r kind x)],⟨[],0,[]⟩,?_,E1 rfl zqr rfl rfl rfl⟩;rw[A7 (c:=OI) (nt:=20) (rs:=[.tmp 8]) rfl (by simp)];unfold OI;unfold K0;have t:∀tch,evP ⟨A0,T,A2⟩ (.call 37 [Vx (ints x.mem),.fn (.func 65) [] [.ptr 2 0 0,.ptr 1 0 0]] ⟨[.row 1 [.agg [.int .i64 x.kind,Vx (ints x.mem)]] 2,.row 1 [.int .i64 (r:Int)] 1,.row 1 [Vx (Q2 A)] 1],0,tch⟩)=zs (.val [.bool (x.mem.any (Dx A r))] ⟨[.row 1 [.agg [.int .i64 x.kind,Vx (ints x.mem)]] 2,.row 1 [.int .i64 (r:Int)] 1,.row 1 [Vx (Q2 A)] 1],0,tch⟩):=fun tch=>Dt (ids:=[2,1]) G rfl rfl rfl rfl (pO I D J.sq J.r J.s J.l) rfl rfl
 unfold Cls.F kc;by_cases h:x.kind=kind
 . simp only[decide_eq_true h,t,XP,seval]
   done
 . simp only[decide_eq_false h,t,XP,seval]
   done
def B8:=Ck (fun p:(List (List Bool))×(Nat)×(Int)×(Cls)=>[p.2.2.2.F,.int .i64 (p.2.1:Int),.int .i64 p.2.2.1,Vx (Q2 p.1)]) (fun p=>[.bool (kc p.1 p.2.1 p.2.2.1 p.2.2.2)]) (fun p=>md p.1 p.2.1 p.2.2.2)
theorem Ih(D:T 45=zs B8){A:List (List Bool)}{r:Nat}{kind:Int}{x:Cls}{K:PK}{args:List AV}(G:gb K.os args=zs [x.F,.int .i64 (r:Int),.int .i64 kind,Vx (Q2 A)])(I:md A r x):evP ⟨A0,T,A2⟩ (.call 45 args K)=zs (.val (W2 (lz K.os) [.bool (kc A r kind x)]).1 ⟨K.os++(W2 (lz K.os) [.bool (kc A r kind x)]).2,K.ext,K.tch⟩):=E6 D G (F2 (a:=fun p:(List (List Bool))×(Nat)×(Int)×(Cls)=>[p.2.2.2.F,.int .i64 (p.2.1:Int),.int .i64 p.2.2.1,Vx (Q2 p.1)]) (r:=fun p=>[.bool (kc p.1 p.2.1 p.2.2.1 p.2.2.2)]) (fun x y e=>by simp only[VJ,fP,Cls.F_iff]at e;simp only[e]) (A,r,kind,x) I) (by generalize (refsL args).isEmpty=z;simp only[VN,XP,seval])
theorem Ii(I:T 60=zn)(G:T 37=zn)(D:T 65=zn)(hP:ep ⟨A0,T,A2⟩):TC A0 45 B8:=F9 hP fun p h=>Dg I G D h
section
variable {A:List (List Bool)}{all:List Cls}{n r i p q:Nat}{kind:Int}{x:Cls}{K:PK}{tch:List Nat}{ext:Nat}
theorem KV(D:T 45=zs B8)(G:md A r x)(hn:lz A=n){m:Nat}(I:lz x.mem=m)(J:cd K.os 6 p=zs (0,ints x.mem,1))(N:cd K.os 6 q=zs (0,tab A,1)):evP ⟨A0,T,A2⟩ (.call 45 [.agg [.int .i64 x.kind,.msl p 0 m 1],.int .i64 (r:Int),.int .i64 kind,.msl q 0 n 1] K)=zs (.val [.bool (kc A r kind x)] ⟨K.os++[],K.ext,K.tch⟩):=by
 subst I hn;refine Ih (r:=r) D ?_ G;have Q:gh K.os (.msl p 0 (lz x.mem) 1)=zs (Vx (ints x.mem)):=by
  rw[pg,J];show(if 0=0/\1=1/\0+lz x.mem<=lz (ints x.mem) then(match frzL (((ints x.mem).drop 0).take (lz x.mem))with|some es=>zs (Vx es)|none=>zn)else zn)=_
  rw[if_pos ⟨rfl,rfl,by simp[ints]⟩,zqm,zqv (by simp[ints]),fm]
 have U:gh K.os (.msl q 0 (lz A) 1)=zs (Vx (Q2 A)):=by
  rw[pg,N];show(if 0=0/\1=1/\0+lz A<=lz (tab A) then(match frzL (((tab A).drop 0).take (lz A))with|some es=>zs (Vx es)|none=>zn)else zn)=_
  rw[if_pos ⟨rfl,rfl,by simp[tab]⟩,zqm,zqv (by simp[tab]),fQ]
 show gu (match gu (zs (.int .i64 x.kind)) (gu (gh K.os (.msl p 0 (lz x.mem) 1)) (zs []))with|some cs=>zs (AV.agg cs)|none=>zn) (gu (zs _) (gu (zs _) (gu (gh K.os (.msl q 0 (lz A) 1)) (zs []))))=_
 rw[Q,U];rfl
theorem Zi(D:T 44=zn)(G:T 45=zs B8)(hn:lz A=n)(I:md A r x)(hg:(all.map Cls.O)[i]?=zs (.agg [.int .i64 x.kind,di 0 1 (ints x.mem)])):
 evP ⟨A0,T,A2⟩ (.call 44 [.agg [.int .i64 x.kind,.msl 5 0 (lz x.mem) 1],.ptr 1 0 0,.ptr 2 0 0,.ptr 3 0 0] ⟨[.row 0 (all.map Cls.O) 2,.row 1 [.int .i64 (r:Int)] 1,.row 1 [.int .i64 kind] 1,.row 1 [.msl 4 0 n 1] 1,.row 0 (tab A) 1,.sub 0 i 1],5,tch⟩) =
  zs (.val [.bool (kc A r kind x)] ⟨[.row 0 (all.map Cls.O) 2,.row 1 [.int .i64 (r:Int)] 1,.row 1 [.int .i64 kind] 1,.row 1 [.msl 4 0 n 1] 1,.row 0 (tab A) 1,.sub 0 i 1,.row 1 [.agg [.int .i64 x.kind,.msl 5 0 (lz x.mem) 1]] 2],5,tch⟩):=by
 have t:=fun(K:PK) p q=>KV (K:=K) (kind:=kind) (p:=p) (q:=q) G I hn rfl
 rw[g9 D rfl];rw[A7 (c:=OH) (nt:=11) (rs:=[.tmp 5]) rfl (by simp)];unfold OH;simp only[hg,t,XP,seval]
theorem YX(J:T 44=zn)(N:T 45=zs B8)(hn:lz A=n)(D:∀x∈all,md A r x)(Q:lz all<=cp)(h:i<lz all)(U:kc A r kind all[i]=zf):evP ⟨A0,T,A2⟩ (.code Dn [(0,.msl 0 0 (lz all) 2),(1,.fn (.func 44) [] [.ptr 1 0 0,.ptr 2 0 0,.ptr 3 0 0]),(7,.int .i64 (lz all:Int)),(8,.int .i64 (i:Int))] ⟨[.row 0 (all.map Cls.O) 2,.row 1 [.int .i64 (r:Int)] 1,.row 1 [.int .i64 kind] 1,.row 1 [.msl 4 0 n 1] 1,.row 0 (tab A) 1],5,[]⟩)=zs (.ok .normal [(0,.msl 0 0 (lz all) 2),(1,.fn (.func 44) [] [.ptr 1 0 0,.ptr 2 0 0,.ptr 3 0 0]),(7,.int .i64 (lz all:Int)),(8,.int .i64 ((i+1:Nat):Int))] ⟨[.row 0 (all.map Cls.O) 2,.row 1 [.int .i64 (r:Int)] 1,.row 1 [.int .i64 kind] 1,.row 1 [.msl 4 0 n 1] 1,.row 0 (tab A) 1],5,[]⟩):=by
 have G:decide ((i:Int)<(lz all:Int))=zt:=by simp[h]
 have V:=A8 (i:=i) (by simp only[cp]at Q;omega);have hg:=B9 (F:=Cls.O) h;have t:=fun hg=>Zi (all:=all) (i:=i) (kind:=kind) (tch:=[]) J N hn (D _ (zqe h)) hg
 rw[U]at t;generalize all[i]=x at *;simp only[Cls.O]at hg;have I:lz (ints x.mem)=lz x.mem:=by simp[ints]
 have t:=t hg;unfold Dn;simp only[G,h,hg,V,t,I,C8,C9,D1,D2,D3,D4,XP,seval]
theorem YY(J:T 44=zn)(N:T 45=zs B8)(hn:lz A=n)(D:∀x∈all,md A r x)(hs:lz all<=cp)(h:i<lz all)(Q:kc A r kind all[i]=zt):∃fr',evP ⟨A0,T,A2⟩ (.code Dn [(0,.msl 0 0 (lz all) 2),(1,.fn (.func 44) [] [.ptr 1 0 0,.ptr 2 0 0,.ptr 3 0 0]),(7,.int .i64 (lz all:Int)),(8,.int .i64 (i:Int))] ⟨[.row 0 (all.map Cls.O) 2,.row 1 [.int .i64 (r:Int)] 1,.row 1 [.int .i64 kind] 1,.row 1 [.msl 4 0 n 1] 1,.row 0 (tab A) 1],5,[]⟩)=zs (.ok .ret fr' ⟨[.row 0 (all.map Cls.O) 2,.row 1 [.int .i64 (r:Int)] 1,.row 1 [.int .i64 kind] 1,.row 1 [.msl 4 0 n 1] 1,.row 0 (tab A) 1],5,[]⟩)/\FR fr' 4=.int .i64 (i:Int):=by
 have G:decide ((i:Int)<(lz all:Int))=zt:=by simp[h]
 have hg:=B9 (F:=Cls.O) h;have t:=fun hg=>Zi (all:=all) (i:=i) (kind:=kind) (tch:=[]) J N hn (D _ (zqe h)) hg
 rw[Q]at t;generalize all[i]=x at *;simp only[Cls.O]at hg;have I:lz (ints x.mem)=lz x.mem:=by simp[ints]
 have t:=t hg;unfold Dn;simp only[G,h,hg,t,I,C8,C9,D1,D2,D3,D4,XP,seval];exact⟨_,rfl,rfl⟩
theorem YZ:∃fr',evP ⟨A0,T,A2⟩ (.code Dn [(0,.msl 0 0 (lz all) 2),(1,.fn (.func 44) [] [.ptr 1 0 0,.ptr 2 0 0,.ptr 3 0 0]),(7,.int .i64 (lz all:Int)),(8,.int .i64 (lz all:Int))] ⟨[.row 0 (all.map Cls.O) 2,.row 1 [.int .i64 (r:Int)] 1,.row 1 [.int .i64 kind] 1,.row 1 [.msl 4 0 n 1] 1,.row 0 (tab A) 1],5,[]⟩)=zs (.ok (.exit 0) fr' ⟨[.row 0 (all.map Cls.O) 2,.row 1 [.int .i64 (r:Int)] 1,.row 1 [.int .i64 kind] 1,.row 1 [.msl 4 0 n 1] 1,.row 0 (tab A) 1],5,[]⟩):=by
 unfold Dn;have D:decide ((lz all:Int)<(lz all:Int))=zf:=by simp
 simp only[D,XP,seval];exact⟨_,rfl⟩
theorem pP(J:T 44=zn)(N:T 45=zs B8)(hn:lz A=n)(G:∀x∈all,md A r x)(Q:lz all<=cp):evP ⟨A0,T,A2⟩ (.body 43 [.msl 0 0 (lz all) 2,.fn (.func 44) [] [.ptr 1 0 0,.ptr 2 0 0,.ptr 3 0 0]] ⟨[.row 0 (all.map Cls.O) 2,.row 1 [.int .i64 (r:Int)] 1,.row 1 [.int .i64 kind] 1,.row 1 [.msl 4 0 n 1] 1,.row 0 (tab A) 1],5,[]⟩)=zs (.val [.int .i64 (et (kc A r kind) all)] ⟨[.row 0 (all.map Cls.O) 2,.row 1 [.int .i64 (r:Int)] 1,.row 1 [.int .i64 kind] 1,.row 1 [.msl 4 0 n 1] 1,.row 0 (tab A) 1],5,[]⟩):=by
 rw[A7 (c:=GX) (nt:=19) (rs:=[.tmp 4]) rfl (by simp)];unfold GX;rcases k9 (P:=⟨A0,T,A2⟩) (c:=Dn) (p:=kc A r kind) (l:=all) (S:=fun i=>[(0,.msl 0 0 (lz all) 2),(1,.fn (.func 44) [] [.ptr 1 0 0,.ptr 2 0 0,.ptr 3 0 0]),(7,.int .i64 (lz all:Int)),(8,.int .i64 (i:Int))]) (K:=⟨[.row 0 (all.map Cls.O) 2,.row 1 [.int .i64 (r:Int)] 1,.row 1 [.int .i64 kind] 1,.row 1 [.msl 4 0 n 1] 1,.row 0 (tab A) 1],5,[]⟩) (fun i h I=>YX J N hn G Q h I) (fun i h I=>YY J N hn G Q h I) YZ with⟨i,e,fr',D,U⟩|⟨e,fr',D⟩
 . have D:evP ⟨A0,T,A2⟩ (.code (.loop Dn) [(0,.msl 0 0 (lz all) 2),(1,.fn (.func 44) [] [.ptr 1 0 0,.ptr 2 0 0,.ptr 3 0 0]),(7,.int .i64 (lz all:Int)),(8,.int .i64 0)] ⟨[.row 0 (all.map Cls.O) 2,.row 1 [.int .i64 (r:Int)] 1,.row 1 [.int .i64 kind] 1,.row 1 [.msl 4 0 n 1] 1,.row 0 (tab A) 1],5,[]⟩)=_:=D
   rw[e];generalize all.map Cls.O=X at *;simp only[D,U,C8,C9,D1,D2,D3,D4,XP,seval]
 . have D:evP ⟨A0,T,A2⟩ (.code (.loop Dn) [(0,.msl 0 0 (lz all) 2),(1,.fn (.func 44) [] [.ptr 1 0 0,.ptr 2 0 0,.ptr 3 0 0]),(7,.int .i64 (lz all:Int)),(8,.int .i64 0)] ⟨[.row 0 (all.map Cls.O) 2,.row 1 [.int .i64 (r:Int)] 1,.row 1 [.int .i64 kind] 1,.row 1 [.msl 4 0 n 1] 1,.row 0 (tab A) 1],5,[]⟩)=_:=D
   rw[e];generalize all.map Cls.O=X at *;simp only[D,C8,C9,D1,D2,D3,D4,XP,seval]
theorem tX{K:PK}{cs:List AV}(hlt:True):∃fr',evP ⟨A0,T,A2⟩ (.code Dn [(0,.x0a),(1,.fn (.func 44) [] cs),(7,.int .i64 0),(8,.int .i64 0)] K)=zs (.ok (.exit 0) fr' K):=by
 unfold Dn;simp only[show decide ((0:Int)<0)=zf from rfl,XP,seval];exact⟨_,rfl⟩
end
def PB(es:List AV)(r:Nat)(q:Option (List PO)):Option (List AV×List PO×List Nat):=match q with|some os2=>zs (es,os2,[r])|none=>zn
def PD(id p i o:Nat)(os:List PO)(es D:List AV)(v:Option AV):Option (List AV×List PO×List Nat):=match v with
 |some v=>PB es (cg os 6 id) (dg (gm os (cg os 6 id) (ei os 6 p)) 6 p (D.set i (v.x0f o [.und])))
 |none=>zn
def PG(id p i o:Nat)(os:List PO)(es:List AV)(r:Option (Nat×List AV×Nat)):Option (List AV×List PO×List Nat):=match r with|some (0,pes,_)=>PD id p i o os es pes pes[i]?|_=>zn
def ZA(te:TI)(id n sz p i o:Nat)(os:List PO)(r:Option (Nat×List AV×Nat)):Option (List AV×List PO×List Nat):=match r with|some (0,es,z)=>if z=te.size/\sz=z/\n=lz es then PG id p i o os es (cd os 6 p)else HB te id 0 n sz os (zs (.sub p i o))|_=>HB te id 0 n sz os (zs (.sub p i o))
theorem Ms{te:TI}{os:List PO}{id n sz p i o:Nat}(h0:os[id]?=zs (.sub p i o)):HB te id 0 n sz os (zs (.sub p i o))=ZA te id n sz p i o os (cd os 6 id):=by
 show jh te (.msl id 0 n sz) os=_
 cases N:cd os 6 id with
 |none=>rfl
 |some q=>
  obtain⟨k,es,z⟩:=q;unfold ZA;cases k with
  |succ=>rfl
  |zero=>
   simp only;by_cases hc:z=te.size/\sz=z/\n=lz es
   . rw [if_pos hc]
     obtain⟨G,I,J⟩:=hc;unfold jh PG;simp only[N,h0,if_pos (show True/\z=te.size/\sz=z/\0+n<=lz es from⟨trivial,G,I,by omega⟩)];cases hp:cd os 6 p with
     |none=>rfl
     |some t=>
      obtain⟨kp,D,pz⟩:=t;cases kp with
      |succ=>rfl
      |zero=>
       simp only[↓reduceIte];unfold PD;cases D[i]? with
       |none=>rfl
       |some v=>
        simp only;unfold PB;cases dg (gm os (cg os 6 id) (ei os 6 p)) 6 p (D.set i (v.x0f o [.und]))with
        |none=>rfl
        |some os2=>simp only[J,zqm,zqh]
   . rw[if_neg hc];rfl
theorem Fy{te:TI}{os:List PO}{es:List AV}{id n sz p i o z:Nat}(D:z=te.size)(G:sz=z)(I:n=lz es):ZA te id n sz p i o os (zs (0,es,z))=PG id p i o os es (cd os 6 p):=if_pos ⟨D,G,I⟩
theorem Ga{os:List PO}{es D:List AV}{id p i o z:Nat}:PG id p i o os es (zs (0,D,z))=PD id p i o os es D D[i]?:=rfl
theorem Gb{os:List PO}{es D:List AV}{v:AV}{id p i o:Nat}:PD id p i o os es D (zs v)=PB es (cg os 6 id) (dg (gm os (cg os 6 id) (ei os 6 p)) 6 p (D.set i (v.x0f o [.und]))):=rfl
theorem Gc{os2:List PO}{es:List AV}{r:Nat}:PB es r (zs os2)=zs (es,os2,[r]):=rfl
def gq(A:List (List Bool))(ps:Int)(all:List Cls)(r:Nat)(kind:Int):Int:=if ps<=(r:Int)then et (kc A r kind) all else -1
def kL(all:List Cls)(k:Nat)(r:Nat)(kind:Int):List Cls:=match all[k]? with|some x=>all.set k ⟨x.kind,x.mem++[(r:Int)]⟩|none=>all++[⟨kind,[(r:Int)]⟩]
def Ki(all:List Cls)(z:Int):Nat:=if z<0 then lz all else z.toNat
structure wm where
 all:List Cls
 of:List Int
def ng(A:List (List Bool))(c:Cod):Nat->wm
 |0=>⟨[],[]⟩
 |n+1=>let s:=ng A c n;let k:=Ki s.all (gq A c.ps s.all n (c.x0g.getD n 0));⟨kL s.all k n (c.x0g.getD n 0),s.of++[(k:Int)]⟩
section
variable {A:List (List Bool)}{all:List Cls}{of:List Int}{c:Cod}{n i k:Nat}{kind:Int}{x:Cls}{tch:List Nat}
theorem Zj(G:T 43=zn)(I:T 44=zn)(J:T 45=zs B8)(hn:lz A=n)(D:∀x∈all,md A i x)(N:lz all<=cp){cF:AV}:
 evP ⟨A0,T,A2⟩ (.call 43 [.msl 2 0 (lz all) 2,.fn (.func 44) [] [.ptr 5 0 0,.ptr 6 0 0,.ptr 1 0 0]] ⟨[.row 1 [cF] 5,.row 1 [.msl 4 0 n 1] 1,.row 0 (all.map Cls.O) 2,.row 0 (ints of) 1,.row 0 (tab A) 1,.row 1 [.int .i64 (i:Int)] 1,.row 1 [.int .i64 kind] 1],0,tch⟩) =
  zs (.val [.int .i64 (et (kc A i kind) all)] ⟨[.row 1 [cF] 5,.row 1 [.msl 4 0 n 1] 1,.row 0 (all.map Cls.O) 2,.row 0 (ints of) 1,.row 0 (tab A) 1,.row 1 [.int .i64 (i:Int)] 1,.row 1 [.int .i64 kind] 1],0,tch⟩):=
 Dt (ids:=[2,5,6,1,4]) G rfl rfl rfl rfl (pP I J hn D N) rfl rfl
theorem ZB(hI:T 43=zn)(hN:T 44=zn)(hM:T 45=zs B8)(hn:lz A=n)(J:∀x∈all,md A i x)(hs:lz all<=100000)(hi:i<lz c.x0g)(hr:lz c.x0g<=100000)(ho:lz of=i)(hk:c.x0g[i]=kind)(N:c.ps<=(i:Int))(hx:et (kc A i kind) all=(k:Int))(D:k<lz all)(Q:all[k]=x)(hml:lz x.mem<=100000):
 evP ⟨A0,T,A2⟩ (.code Bp [(1,.ptr 0 0 0),(4,.ptr 1 0 0),(5,.msl 2 0 (lz all) 2),(6,.msl 3 0 i 1),(13,Vx (ints c.x0g)),(14,.int .i64 (lz c.x0g:Int)),(15,.int .i64 (i:Int))] ⟨[.row 1 [c.F] 5,.row 1 [.msl 4 0 n 1] 1,.row 0 (all.map Cls.O) 2,.row 0 (ints of) 1,.row 0 (tab A) 1],0,[]⟩)=zs (.ok .normal [(1,.ptr 0 0 0),(4,.ptr 1 0 0),(5,.msl 2 0 (lz all) 2),(6,.msl 3 0 (i+1) 1),(13,Vx (ints c.x0g)),(14,.int .i64 (lz c.x0g:Int)),(15,.int .i64 ((i+1:Nat):Int))] ⟨[.row 1 [c.F] 5,.row 1 [.msl 4 0 n 1] 1,.row 0 ((all.set k ⟨x.kind,x.mem++[(i:Int)]⟩).map Cls.O) 2,.row 0 (ints (of++[(k:Int)])) 1,.row 0 (tab A) 1],0,[]⟩):=by
 have U:decide ((i:Int)<(lz c.x0g:Int))=zt:=by simp[hi]
 have hw:=A8 (i:=i) (by omega);have hg:=C6 hi;rw[hk]at hg;have t:=fun tch=>Zj (T:=T) (of:=of) (kind:=kind) (cF:=c.F) (tch:=tch) hI hN hM hn J (by simp only[cp];omega)
 rw[hx]at t;have V:=B9 (F:=Cls.O) D;rw[Q]at V;have Y:(all.map Cls.O).set k (Cls.O ⟨x.kind,x.mem++[(i:Int)]⟩)=(all.set k ⟨x.kind,x.mem++[(i:Int)]⟩).map Cls.O:=by rw[List.map_set]
 rw[<-Y];have d1:decide ((i:Int)>=c.ps)=zt:=decide_eq_true N;have d2:decide ((k:Int)<0)=zf:=decide_eq_false (by omega);have aa:lz (ints of)=i:=by simp[ints,ho]
 have ab:lz (ints x.mem)=lz x.mem:=by simp[ints]
 have G:∀(l:List Int)(z:Int),ints (l++[z])=ints l++[.int .i64 z]:=fun l z=>by simp[ints]
 have ac:lz (all.map Cls.O)=lz all:=by simp
 have ad:∀v,((all.map Cls.O).set k v)[k]?=zs v:=fun v=>zqw (by simpa using D)
 have ae:∀a b,((all.map Cls.O).set k a).set k b=(all.map Cls.O).set k b:=fun a b=>List.set_set ..
 have I:lz (ints x.mem++[AV.int .i64 (i:Int)])=lz x.mem+1:=by simp[ints]
 have af:(lz x.mem+1)*8<=140737488355328:=by omega
 have ag:(i+1)*8<=140737488355328:=by omega
 rw[G];simp only[Cls.O,Cod.F,G]at V t|-;generalize all.map (fun x=>AV.agg [.int .i64 x.kind,di 0 1 (ints x.mem)])=X at *;unfold Bp Tt Yr Yq Yp Yo Yn Ym;simp only[U,hi,hg,hw,t,V,D,d1,d2,aa,ab,af,ag,ac,ad,ae,I,C8,C9,D1,D2,D3,D4,Ms,Fy,Ga,Gb,Gc,XP,seval]
 done
theorem tY{α:Type}{l:List α}{a:α}{n:Nat}(h:lz l=n):(l++[a])[n]?=zs a:=by subst h;simp
theorem tZ{α:Type}{l:List α}{a b:α}{n:Nat}(h:lz l=n):(l++[a]).set n b=l++[b]:=by subst h;simp
theorem ZC(hI:T 43=zn)(hN:T 44=zn)(hM:T 45=zs B8)(hn:lz A=n)(ac:∀x∈all,md A i x)(hs:lz all<=100000)(hi:i<lz c.x0g)(hr:lz c.x0g<=100000)(ho:lz of=i)(hk:c.x0g[i]=kind)(D:(i:Int)<c.ps\/(c.ps<=(i:Int)/\et (kc A i kind) all=-1)):
 evP ⟨A0,T,A2⟩ (.code Bp [(1,.ptr 0 0 0),(4,.ptr 1 0 0),(5,.msl 2 0 (lz all) 2),(6,.msl 3 0 i 1),(13,Vx (ints c.x0g)),(14,.int .i64 (lz c.x0g:Int)),(15,.int .i64 (i:Int))] ⟨[.row 1 [c.F] 5,.row 1 [.msl 4 0 n 1] 1,.row 0 (all.map Cls.O) 2,.row 0 (ints of) 1,.row 0 (tab A) 1],0,[]⟩)=zs (.ok .normal [(1,.ptr 0 0 0),(4,.ptr 1 0 0),(5,.msl 2 0 (lz all+1) 2),(6,.msl 3 0 (i+1) 1),(13,Vx (ints c.x0g)),(14,.int .i64 (lz c.x0g:Int)),(15,.int .i64 ((i+1:Nat):Int))] ⟨[.row 1 [c.F] 5,.row 1 [.msl 4 0 n 1] 1,.row 0 ((all++[Cls.mk kind [(i:Int)]]).map Cls.O) 2,.row 0 (ints (of++[(lz all:Int)])) 1,.row 0 (tab A) 1],0,[]⟩):=by
 have Q:decide ((i:Int)<(lz c.x0g:Int))=zt:=by simp[hi]
 have hw:=A8 (i:=i) (by omega);have hg:=C6 hi;rw[hk]at hg;have G:lz (ints of)=i:=by simp[ints,ho]
 have ad:∀(l:List Int)(z:Int),ints (l++[z])=ints l++[.int .i64 z]:=fun l z=>by simp[ints]
 have I:lz (all.map Cls.O)=lz all:=by simp
 have U:(lz all+1)*16<=140737488355328:=by omega
 have J:(lz all+1)*32<=140737488355328:=by omega
 have V:(i+1)*8<=140737488355328:=by omega
 have ae:(all++[Cls.mk kind [(i:Int)]]).map Cls.O=all.map Cls.O++[Cls.O (Cls.mk kind [(i:Int)])]:=by simp
 have Y:=fun a=>tY (a:=a) I
 have aa:=fun a b=>tZ (a:=a) (b:=b) I
 have N:lz all<lz all+1:=by omega
 have ab:decide ((lz all:Int)<0)=zf:=decide_eq_false (by omega);rw[ae,ad];rcases D with D|⟨D,hx⟩
 . have d1:decide ((i:Int)>=c.ps)=zf:=decide_eq_false (by omega)
   simp only[Cls.O,Cod.F,ints,zqg,zqf]at G|-;generalize all.map Cls.O=X at *;unfold Bp Tt Yr Yq Yp Yo Yn Ym;simp only[Q,hi,hg,hw,d1,G,I,U,J,V,Y,aa,N,ab,show decide ((-1:Int)<0)=zt from rfl,C8,C9,D1,D2,D3,D4,Ms,Fy,Ga,Gb,Gc,XP,seval]
   done
 . have d1:decide ((i:Int)>=c.ps)=zt:=decide_eq_true D
   have t:=fun tch=>Zj (T:=T) (of:=of) (kind:=kind) (cF:=c.F) (tch:=tch) hI hN hM hn ac (by simp only[cp];omega)
   rw[hx]at t;simp only[Cls.O,Cod.F,ints,zqg,zqf]at G t|-;generalize all.map Cls.O=X at *;unfold Bp Tt Yr Yq Yp Yo Yn Ym;simp only[Q,hi,hg,hw,t,d1,G,I,U,J,V,Y,aa,N,ab,show decide ((-1:Int)<0)=zt from rfl,C8,C9,D1,D2,D3,D4,Ms,Fy,Ga,Gb,Gc,XP,seval]
   done
theorem ZD(hI:T 43=zn)(hi:0<c.x0g.length)(hr:c.x0g.length<=100000)(hk:c.x0g[0]=kind):
 evP ⟨A0,T,A2⟩ (.code Bp [(1,.ptr 0 0 0),(4,.ptr 1 0 0),(5,.x0a),(6,.x0a),(13,Vx (ints c.x0g)),(14,.int .i64 (c.x0g.length:Int)),(15,.int .i64 0)] ⟨[.row 1 [c.F] 5,.row 1 [.msl 2 0 n 1] 1,.row 0 (tab A) 1],0,[]⟩)=zs (.ok .normal [(1,.ptr 0 0 0),(4,.ptr 1 0 0),(5,.msl 2 0 1 2),(6,.msl 3 0 1 1),(13,Vx (ints c.x0g)),(14,.int .i64 (c.x0g.length:Int)),(15,.int .i64 ((1:Nat):Int))] ⟨[.row 1 [c.F] 5,.row 1 [.msl 4 0 n 1] 1,.row 0 ([Cls.mk kind [0]].map Cls.O) 2,.row 0 (ints [0]) 1,.row 0 (tab A) 1],0,[]⟩):=by
 have hlt:decide ((0:Int)<(c.x0g.length:Int))=zt:=by simp[hi]
 have hg:=C6 hi;rw[hk]at hg;have h0:=js (te:=eY) (k:=.i64) (i:=0) hg rfl;have h0:Xk eY (Vx (ints c.x0g)) (.int .i64 0)=zs (.fptr (.int .i64 kind) 0):=h0;have t:∀tch (cF:AV),evP ⟨A0,T,A2⟩ (.call 43 [.x0a,.fn (.func 44) [] [.ptr 3 0 0,.ptr 4 0 0,.ptr 1 0 0]] ⟨[.row 1 [cF] 5,.row 1 [.msl 2 0 n 1] 1,.row 0 (tab A) 1,.row 1 [.int .i64 0] 1,.row 1 [.int .i64 kind] 1],0,tch⟩)=zs (.val [.int .i64 (-1)] ⟨[.row 1 [cF] 5,.row 1 [.msl 2 0 n 1] 1,.row 0 (tab A) 1,.row 1 [.int .i64 0] 1,.row 1 [.int .i64 kind] 1],0,tch⟩):=fun tch cF=>by
  obtain ⟨fr',h1⟩:=tX (T:=T) (K:=⟨[.row 1 [.int .i64 0] 1,.row 1 [.int .i64 kind] 1,.row 1 [.msl 3 0 n 1] 1,.row 0 (tab A) 1],4,[]⟩) (cs:=[.ptr 0 0 0,.ptr 1 0 0,.ptr 2 0 0]) trivial;have h1:=B4 h1;have hb:evP ⟨A0,T,A2⟩ (.body 43 [.x0a,.fn (.func 44) [] [.ptr 0 0 0,.ptr 1 0 0,.ptr 2 0 0]] ⟨[.row 1 [.int .i64 0] 1,.row 1 [.int .i64 kind] 1,.row 1 [.msl 3 0 n 1] 1,.row 0 (tab A) 1],4,[]⟩)=zs (.val [.int .i64 (-1)] ⟨[.row 1 [.int .i64 0] 1,.row 1 [.int .i64 kind] 1,.row 1 [.msl 3 0 n 1] 1,.row 0 (tab A) 1],4,[]⟩):=by
   rw[A7 (c:=GX) (nt:=19) (rs:=[.tmp 4]) rfl (by simp)];unfold GX;simp -implicitDefEqProofs only[h1,C8,C9,D1,D2,D3,D4,XP,seval]
  exact Dt (ids:=[3,4,1,2]) hI rfl rfl rfl rfl hb rfl rfl
 have hx:Xk Ic (.msl 6 0 1 2) (.int .i64 0)=zs (.ptr 6 0 0):=rfl;have hx2:Xk Ic (.msl 5 0 1 2) (.int .i64 0)=zs (.ptr 5 0 0):=rfl;by_cases hps:c.ps<=0
 . have d1:decide ((0:Int)>=c.ps)=zt:=decide_eq_true hps
   simp only[Cls.O,Cod.F,ints,zqg,zqf]at h0|-;unfold Bp Tt Yr Yq Yp Yo Yn Ym;simp -implicitDefEqProofs only[hlt,h0,hx,hx2,t,d1,show decide ((-1:Int)<0)=zt from rfl,C8,C9,D1,D2,D3,D4,Ms,Fy,Ga,Gb,Gc,show IntKind.i64.wrap (0+1)=((1:Nat):Int)from rfl,XP,seval]
   rfl
 . have d1:decide ((0:Int)>=c.ps)=zf:=decide_eq_false (by omega)
   simp only[Cls.O,Cod.F,ints,zqg,zqf]at h0|-;unfold Bp Tt Yr Yq Yp Yo Yn Ym;simp -implicitDefEqProofs only[hlt,h0,hx,hx2,d1,show decide ((-1:Int)<0)=zt from rfl,C8,C9,D1,D2,D3,D4,Ms,Fy,Ga,Gb,Gc,show IntKind.i64.wrap (0+1)=((1:Nat):Int)from rfl,XP,seval]
   rfl
theorem KW{x y:AV}{K:PK}(hr:lz c.x0g<=100000):∃fr',evP ⟨A0,T,A2⟩ (.code Bp [(1,.ptr 0 0 0),(4,.ptr 1 0 0),(5,x),(6,y),(13,Vx (ints c.x0g)),(14,.int .i64 (lz c.x0g:Int)),(15,.int .i64 (lz c.x0g:Int))] K)=zs (.ok (.exit 0) fr' K)/\FR fr' 5=x/\FR fr' 6=y:=by
 have D:decide ((lz c.x0g:Int)<(lz c.x0g:Int))=zf:=by simp
 unfold Bp Tt;simp only[D,XP,seval];exact⟨_,rfl,rfl,rfl⟩
end
section
variable {A:List (List Bool)}{c:Cod}{i n:Nat}{s:wm}
structure wn(A:List (List Bool))(c:Cod)(i:Nat)(s:wm):Prop where
 len:lz s.of=i
 le:lz s.all<=i
 pos:∀m,m<i->∃k:Nat,s.of.getD m 0=(k:Int)/\k<=m/\∃x,s.all[k]?=zs x/\x.kind=c.x0g.getD m 0
 mem:∀(k:Nat) x,s.all[k]?=zs x->(∀z,z∈x.mem↔∃m:Nat,z=(m:Int)/\m<i/\s.of.getD m 0=(k:Int))/\lz x.mem<=i
 ne:∀k,k<lz s.all->∃m,m<i/\s.of.getD m 0=((k:Nat):Int)
 par:∀m,m<i->(m:Int)<c.ps->s.of.getD m 0=(m:Int)
 np:(i:Int)<=c.ps->lz s.all=i
 ap:∀m k,m<i->k<m->s.of.getD k 0=s.of.getD m 0->po A k m=zf/\po A m k=zf
 jn:∀m,m<i->c.ps<=(m:Int)->∀a:Nat,(a:Int)<s.of.getD m 0->∃k,k<m/\s.of.getD k 0=(a:Int)/\(c.x0g.getD k 0≠c.x0g.getD m 0\/po A k m=zt\/po A m k=zt)
theorem uA{l:List Int}{k:Int}{m:Nat}(h:lz l=i):(l++[k]).getD m 0=if m<i then l.getD m 0 else if m=i then k else 0:=by
 subst h;rw[zqk,zqk];by_cases D:m<lz l
 . rw[if_pos D,zka D]
 . rw[if_neg D]
   by_cases G:m=lz l
   . subst G;simp
   . rw[if_neg G,zqi (by simp;omega)];rfl
theorem uB{r:Nat}{kind:Int}{x:Cls}(h:kc A r kind x=zt):x.kind=kind/\∀z∈x.mem,Dx A r z=zf:=by
 unfold kc at h;rw[zkp]at h;refine⟨of_decide_eq_true h.1,fun z hz=>?_⟩;have D:=h.2;cases hb:Dx A r z with
 |false=>rfl
 |true=>
  have:x.mem.any (Dx A r)=zt:=zkb.2 ⟨z,hz,hb⟩
  rw[this]at D;cases D
theorem ra{r:Nat}{kind:Int}{x:Cls}(h:kc A r kind x=zf):x.kind≠kind\/∃z∈x.mem,Dx A r z=zt:=by
 unfold kc at h;by_cases D:x.kind=kind
 . rw[decide_eq_true D,Bool.true_and]at h
   right
   have:x.mem.any (Dx A r)=zt:=by simpa using h
   exact zkb.1 this
 . exact .inl D
theorem xQ{X:Type}{p:X->Bool}{l:List X}{k:Nat}(h:et p l=(k:Int)):∃x,l[k]?=zs x/\p x=zt/\∀j y,j<k->l[j]?=zs y->p y=zf:=by
 unfold et at h;split at h
 . rename_i i e
   obtain⟨I,J,N⟩:=List.findIdx?_eq_some_iff_getElem.1 e;obtain rfl:i=k:=by omega
   refine⟨l[i],zqj I,J,fun j y G D=>?_⟩
   have:=N j G
   rw[zqj (by omega)]at D;cases D;simpa using this
 . omega
theorem EO{X:Type}{p:X->Bool}{l:List X}(h:et p l<0):et p l=-1/\∀(j:Nat) y,l[j]?=zs y->p y=zf:=by
 unfold et at h|-;split
 . rename_i i e;rw[e]at h;simp at h;omega
 . rename_i e
   refine⟨rfl,fun j y D=>?_⟩
   have:=List.findIdx?_eq_none_iff.1 e y (zkc D)
   simpa using this
theorem qd(A:List (List Bool))(ps:Int)(all:List Cls)(r:Nat)(kind:Int):
 (∃(k:Nat)(x:Cls),gq A ps all r kind=(k:Int)/\k<lz all/\ps<=(r:Int)/\et (kc A r kind) all=(k:Int)/\all[k]?=zs x/\kc A r kind x=zt/\∀j y,j<k->all[j]?=zs y->kc A r kind y=zf)\/
 (gq A ps all r kind=-1/\((r:Int)<ps\/(ps<=(r:Int)/\et (kc A r kind) all=-1/\∀(j:Nat) y,all[j]?=zs y->kc A r kind y=zf))):=by
 unfold gq;by_cases h:ps<=(r:Int)
 . rw [if_pos h]
   by_cases N:et (kc A r kind) all<0
   . obtain⟨D,G⟩:=EO N
     exact .inr ⟨D,.inr ⟨h,D,G⟩⟩
   . obtain⟨k,I⟩:=zkm (show 0<=et (kc A r kind) all by omega)
     obtain⟨x,D,G,J⟩:=xQ I;refine .inl ⟨k,x,I,?_,h,I,D,G,J⟩;refine Classical.byContradiction fun hn=>?_
     rw[zqi (by omega)]at D;cases D
 . rw[if_neg h]
   exact .inr ⟨rfl,.inl (by omega)⟩
theorem mU{all:List Cls}{k r:Nat}{kind:Int}{x:Cls}(h:all[k]?=zs x):kL all k r kind=all.set k ⟨x.kind,x.mem++[(r:Int)]⟩:=by unfold kL;rw[h]
theorem fS{all:List Cls}{r:Nat}{kind:Int}:kL all (lz all) r kind=all++[Cls.mk kind [(r:Int)]]:=by unfold kL;rw[zqi (zkl _)]
theorem xR(I:wn A c i s){k:Nat}{x:Cls}(Y:s.all[k]?=zs x)(hps:c.ps<=(i:Int))(hm:kc A i (c.x0g.getD i 0) x=zt)(hj:∀j y,j<k->s.all[j]?=zs y->kc A i (c.x0g.getD i 0) y=zf):
 wn A c (i+1) ⟨s.all.set k ⟨x.kind,x.mem++[(i:Int)]⟩,s.of++[(k:Int)]⟩:=by
 have X:k<lz s.all:=by
  refine Classical.byContradiction fun hn=>?_
  rw[zqi (by omega)]at Y;cases Y
 have hg:=fun m=>uA (l:=s.of) (k:=(k:Int)) (m:=m) I.len
 obtain⟨ae,af⟩:=uB hm;have hle:=I.le;refine⟨by simp[I.len],by simp;omega,fun m U=>?_,fun j y Q=>?_,fun j aa=>?_,fun m U hp=>?_,fun hp=>by omega,fun m q U hq e=>?_,fun m U hp a ha=>?_⟩
 . simp only[hg]
   by_cases e:m<i
   . rw [if_pos e]
     obtain⟨q,q1,J,y,N,q4⟩:=I.pos m e;refine⟨q,q1,J,?_⟩;by_cases ac:k=q
     . subst ac
       rw[Y]at N;cases N;exact⟨_,zqw X,q4⟩
     . exact⟨y,by rw[zkd ac];exact N,q4⟩
   . rw[if_neg e,if_pos (by omega)]
     obtain rfl:m=i:=by omega
     exact⟨k,rfl,by omega,_,zqw X,ae⟩
 . simp only[hg]
   by_cases ad:k=j
   . subst ad
     rw[zqw X]at Q;cases Q;obtain⟨g1,g2⟩:=I.mem k x Y;refine⟨fun z=>?_,by simp;omega⟩;rw[List.mem_append,g1 z,zqx]
     constructor
     . rintro(⟨m,G,V,D⟩|h)
       . exact⟨m,G,by omega,by rw[if_pos V];exact D⟩
       . exact⟨i,h,by omega,by rw[if_neg (by omega),if_pos rfl]⟩
     . rintro⟨m,G,V,D⟩
       by_cases e:m<i
       . rw[if_pos e]at D;exact .inl ⟨m,G,e,D⟩
       . exact .inr (by rw[G];omega)
   . rw [zkd ad]at Q
     obtain⟨g1,g2⟩:=I.mem j y Q;refine⟨fun z=>?_,by omega⟩;rw[g1 z]
     constructor
     . rintro⟨m,G,V,D⟩;exact⟨m,G,by omega,by rw[if_pos V];exact D⟩
     . rintro⟨m,G,V,D⟩
       by_cases e:m<i
       . rw[if_pos e]at D;exact⟨m,G,e,D⟩
       . rw[if_neg e,if_pos (by omega)]at D;omega
 . simp only[hg]
   rw[zke]at aa;obtain⟨m,G,V⟩:=I.ne j aa;exact⟨m,by omega,by rw[if_pos G];exact V⟩
 . simp only[hg]
   by_cases e:m<i
   . rw[if_pos e];exact I.par m e hp
   . omega
 . simp only[hg]at e
   rw[if_pos (show q<i by omega)]at e;by_cases e2:m<i
   . rw[if_pos e2]at e;exact I.ap m q e2 hq e
   . rw[if_neg e2,if_pos (by omega)]at e
     obtain rfl:m=i:=by omega
     have:=af (q:Int) (((I.mem k x Y).1 _).2 ⟨q,rfl,hq,e⟩)
     unfold Dx at this;rw[Bool.or_eq_false_iff]at this;exact this
 . simp only[hg]at ha
   by_cases e:m<i
   . rw[if_pos e]at ha
     obtain⟨q,q1,J,N⟩:=I.jn m e hp a ha;exact⟨q,q1,by rw[hg,if_pos (by omega)];exact J,N⟩
   . rw [if_neg e,if_pos (by omega)]at ha
     obtain rfl:m=i:=by omega
     have ab:a<lz s.all:=by omega
     have Q:=zqj ab;obtain⟨g1,g2⟩:=I.mem a _ Q;rcases ra (hj a _ (by omega) Q)with h|⟨z,hz,hb⟩
     . obtain⟨q,J,N⟩:=I.ne a ab
       obtain⟨k2,G,_,y2,D,h4⟩:=I.pos q J;obtain rfl:k2=a:=by omega
       rw[Q]at D;cases D;exact⟨q,J,by rw[hg,if_pos J];exact N,.inl (by rw[<-h4];exact h)⟩
     . obtain⟨q,rfl,J,N⟩:=(g1 z).1 hz
       refine⟨q,J,by rw[hg,if_pos J];exact N,.inr ?_⟩;unfold Dx at hb;rw[zko]at hb;exact hb
theorem uC(I:wn A c i s)(h:(i:Int)<c.ps\/(c.ps<=(i:Int)/\∀(j:Nat) y,s.all[j]?=zs y->kc A i (c.x0g.getD i 0) y=zf)):
 wn A c (i+1) ⟨s.all++[Cls.mk (c.x0g.getD i 0) [(i:Int)]],s.of++[(lz s.all:Int)]⟩:=by
 have hg:=fun m=>uA (l:=s.of) (k:=(lz s.all:Int)) (m:=m) I.len
 have hle:=I.le;have X:∀m,m<i->s.of.getD m 0≠(lz s.all:Int):=fun m hm e=>by
  obtain⟨k,N,_,x,D,_⟩:=I.pos m hm;rw[zqi (by omega)]at D;cases D
 have Y:∀k,k<lz s.all->(s.all++[Cls.mk (c.x0g.getD i 0) [(i:Int)]])[k]?=s.all[k]?:=fun k hk=>zka hk
 have aa:(s.all++[Cls.mk (c.x0g.getD i 0) [(i:Int)]])[lz s.all]?=zs (Cls.mk (c.x0g.getD i 0) [(i:Int)]):=by simp
 refine⟨by simp[I.len],by simp;omega,fun m U=>?_,fun j y G=>?_,fun j ac=>?_,fun m U hp=>?_,fun hp=>?_,fun m q U hq e=>?_,fun m U hp a ha=>?_⟩
 . simp only[hg]
   by_cases e:m<i
   . rw [if_pos e]
     obtain ⟨q,q1,J,y,Q,q4⟩:=I.pos m e;have ad:q<lz s.all:=by
      refine Classical.byContradiction fun hn=>?_
      rw[zqi (by omega)]at Q;cases Q
     exact⟨q,q1,J,y,by rw[Y q ad];exact Q,q4⟩
   . rw[if_neg e,if_pos (by omega)]
     obtain rfl:m=i:=by omega
     exact⟨_,rfl,by omega,_,aa,rfl⟩
 . simp only[hg]
   by_cases hj:j<lz s.all
   . rw [Y j hj]at G
     obtain⟨g1,g2⟩:=I.mem j y G;refine⟨fun z=>?_,by omega⟩;rw[g1 z]
     constructor
     . rintro⟨m,N,V,D⟩;exact⟨m,N,by omega,by rw[if_pos V];exact D⟩
     . rintro⟨m,N,V,D⟩
       by_cases e:m<i
       . rw[if_pos e]at D;exact⟨m,N,e,D⟩
       . rw[if_neg e,if_pos (by omega)]at D;omega
   . have ae:j=lz s.all:=by
      refine Classical.byContradiction fun hn=>?_
      rw[zqi (by simp;omega)]at G;cases G
     subst ae;rw[aa]at G;cases G;refine⟨fun z=>?_,by simp⟩;rw[zqx]
     constructor
     . rintro rfl;exact⟨i,rfl,by omega,by rw[if_neg (by omega),if_pos rfl]⟩
     . rintro⟨m,N,V,D⟩
       by_cases e:m<i
       . rw[if_pos e]at D;exact absurd D (X m e)
       . rw[N];omega
 . simp only[hg]
   by_cases hj:j<lz s.all
   . obtain⟨m,N,V⟩:=I.ne j hj
     exact⟨m,by omega,by rw[if_pos N];exact V⟩
   . obtain rfl:j=lz s.all:=by simp at ac;omega
     exact⟨i,by omega,by rw[if_neg (by omega),if_pos rfl]⟩
 . simp only[hg]
   by_cases e:m<i
   . rw[if_pos e];exact I.par m e hp
   . obtain rfl:m=i:=by omega
     rw[if_neg e,if_pos rfl,I.np (by omega)]
 . rw[zkf,I.np (by omega)];rfl
 . simp only[hg]at e
   rw[if_pos (show q<i by omega)]at e;by_cases e2:m<i
   . rw[if_pos e2]at e;exact I.ap m q e2 hq e
   . rw[if_neg e2,if_pos (by omega)]at e
     exact absurd e (X q (by omega))
 . simp only[hg]at ha
   by_cases e:m<i
   . rw[if_pos e]at ha
     obtain⟨q,q1,J,Q⟩:=I.jn m e hp a ha;exact⟨q,q1,by rw[hg,if_pos (by omega)];exact J,Q⟩
   . rw [if_neg e,if_pos (by omega)]at ha
     obtain rfl:m=i:=by omega
     have ab:a<lz s.all:=by omega
     have G:=zqj ab;obtain⟨g1,g2⟩:=I.mem a _ G;have hj:=(h.resolve_left (by omega)).2;rcases ra (hj a _ G)with h|⟨z,hz,hb⟩
     . obtain⟨q,J,Q⟩:=I.ne a ab
       obtain⟨k2,N,_,y2,D,h4⟩:=I.pos q J;obtain rfl:k2=a:=by omega
       rw[G]at D;cases D;exact⟨q,J,by rw[hg,if_pos J];exact Q,.inl (by rw[<-h4];exact h)⟩
     . obtain⟨q,rfl,J,Q⟩:=(g1 z).1 hz
       refine⟨q,J,by rw[hg,if_pos J];exact Q,.inr ?_⟩;unfold Dx at hb;rw[zko]at hb;exact hb
theorem uD(A:List (List Bool))(c:Cod):∀i,wn A c i (ng A c i)
 |0=>⟨rfl,zkl _,fun m h=>absurd h (zkk _),fun k x h=>by simp[ng]at h,fun k h=>absurd h (zkk _),fun m h=>absurd h (zkk _),fun _=>rfl,fun m k h=>absurd h (zkk _),fun m h=>absurd h (zkk _)⟩
 |i + 1=>by
  have I:=uD A c i;unfold ng;generalize ng A c i=s at *;rcases qd A c.ps s.all i (c.x0g.getD i 0)with⟨k,x,e,h1,G,_,D,J,N⟩|⟨e,h⟩
  . have:Ki s.all (k:Int)=k:=by unfold Ki;rw[if_neg (by omega)];rfl
    simp only[e,this,mU D];exact xR I D G J N
  . have:Ki s.all (-1)=lz s.all:=by unfold Ki;rw[if_pos (by omega)]
    simp only[e,this,fS];exact uC I (h.imp id fun q=>⟨q.1,q.2.2⟩)
end
section
variable {A:List (List Bool)}{c:Cod}{i n:Nat}{s:wm}
theorem BP{A:List (List Bool)}{n:Nat}(h:B3 n n A):SqT A n:=⟨h.1,fun i hi=>h.get hi⟩
theorem EP(I:wn A c i s)(D:SqT A n)(hn:lz c.x0g=n)(hi:i<n)(hb:n<=100000):∀x∈s.all,md A i x:=fun x G=>by
 obtain⟨k,J,rfl⟩:=List.getElem_of_mem G;obtain⟨N,g2⟩:=I.mem k _ (zqj J);refine⟨by rw[D.l];exact D,by rw[D.l];exact hi,by simp only[cp];omega,fun z hz=>?_⟩;obtain⟨m,rfl,h1,_⟩:=(N z).1 hz;rw[D.l];omega
theorem fT{l:List Int}{i:Nat}(h:i<lz l):l[i]=l.getD i 0:=by simp[zqk,h]
theorem ZE(X:T 43=zn)(Y:T 44=zn)(hM:T 45=zs B8)(Q:SqT A n)(hn:lz c.x0g=n)(hi:i<n)(hb:n<=100000)(I:wn A c i s)(h0:0<i):
 ∃ J,J=wm.mk (kL s.all (Ki s.all (gq A c.ps s.all i (c.x0g.getD i 0))) i (c.x0g.getD i 0)) (s.of++[(Ki s.all (gq A c.ps s.all i (c.x0g.getD i 0)):Int)])/\
   evP ⟨A0,T,A2⟩ (.code Bp [(1,.ptr 0 0 0),(4,.ptr 1 0 0),(5,.msl 2 0 (lz s.all) 2),(6,.msl 3 0 i 1),(13,Vx (ints c.x0g)),(14,.int .i64 (lz c.x0g:Int)),(15,.int .i64 (i:Int))] ⟨[.row 1 [c.F] 5,.row 1 [.msl 4 0 n 1] 1,.row 0 (s.all.map Cls.O) 2,.row 0 (ints s.of) 1,.row 0 (tab A) 1],0,[]⟩)=zs (.ok .normal [(1,.ptr 0 0 0),(4,.ptr 1 0 0),(5,.msl 2 0 (lz J.all) 2),(6,.msl 3 0 (i+1) 1),(13,Vx (ints c.x0g)),(14,.int .i64 (lz c.x0g:Int)),(15,.int .i64 ((i+1:Nat):Int))] ⟨[.row 1 [c.F] 5,.row 1 [.msl 4 0 n 1] 1,.row 0 (J.all.map Cls.O) 2,.row 0 (ints J.of) 1,.row 0 (tab A) 1],0,[]⟩):=by
 refine⟨_,rfl,?_⟩;have G:=EP I Q hn hi hb;have hle:=I.le;have D:i<lz c.x0g:=by omega
 rcases qd A c.ps s.all i (c.x0g.getD i 0)with⟨k,x,e,h1,h2,hx,N,h4,h5⟩|⟨e,h⟩
 . have U:Ki s.all (k:Int)=k:=by unfold Ki;rw[if_neg (by omega)];rfl
   simp only[e,U,mU N,zke];have V:s.all[k]=x:=by rw[zqj h1]at N;exact Option.some.inj N
   have:=(I.mem k x N).2
   exact ZB X Y hM Q.l G (by omega) D (by omega) I.len (fT D) h2 hx h1 V (by omega)
 . have U:Ki s.all (-1)=lz s.all:=by unfold Ki;rw[if_pos (by omega)]
   simp only[e,U,fS,zkf,List.length_singleton];exact ZC X Y hM Q.l G (by omega) D (by omega) I.len (fT D) (h.imp id fun q=>⟨q.1,q.2.1⟩)
theorem KX(Q:T 43=zn)(U:T 44=zn)(V:T 45=zs B8)(X:SqT A n)(hn:lz c.x0g=n)(hb:n<=100000):∀(d i:Nat)(s:wm),n=i+d->0<i->s=ng A c i ->
 ∃fr',evP ⟨A0,T,A2⟩ (.code (.loop Bp) [(1,.ptr 0 0 0),(4,.ptr 1 0 0),(5,.msl 2 0 (lz s.all) 2),(6,.msl 3 0 i 1),(13,Vx (ints c.x0g)),(14,.int .i64 (lz c.x0g:Int)),(15,.int .i64 (i:Int))] ⟨[.row 1 [c.F] 5,.row 1 [.msl 4 0 n 1] 1,.row 0 (s.all.map Cls.O) 2,.row 0 (ints s.of) 1,.row 0 (tab A) 1],0,[]⟩)=zs (.ok (.exit 0) fr' ⟨[.row 1 [c.F] 5,.row 1 [.msl 4 0 n 1] 1,.row 0 ((ng A c n).all.map Cls.O) 2,.row 0 (ints (ng A c n).of) 1,.row 0 (tab A) 1],0,[]⟩)/\FR fr' 5=.msl 2 0 (lz (ng A c n).all) 2/\FR fr' 6=.msl 3 0 n 1
 |0,i,s,e,h0,hs=>by
  obtain rfl:i=n:=by omega
  subst hs;subst hn;obtain⟨fr',h,G,J⟩:=KW (T:=T) (c:=c) (x:=.msl 2 0 (ng A c (lz c.x0g)).all.length 2) (y:=.msl 3 0 (lz c.x0g) 1) (K:=⟨[.row 1 [c.F] 5,.row 1 [.msl 4 0 (lz c.x0g) 1] 1,.row 0 ((ng A c (lz c.x0g)).all.map Cls.O) 2,.row 0 (ints (ng A c (lz c.x0g)).of) 1,.row 0 (tab A) 1],0,[]⟩) hb;exact⟨fr',B4 h,G,J⟩
 |d+1,i,s,e,h0,hs=>by
  have I:wn A c i s:=hs▸uD A c i;obtain⟨Y,N,h⟩:=ZE (T:=T) Q U V X hn (by omega) hb I h0;have D:Y=ng A c (i+1):=by rw[N,hs];rfl
  obtain⟨fr',h',G,J⟩:=KX Q U V X hn hb d (i+1) Y (by omega) (by omega) D;exact⟨fr',(B0 h).trans h',G,J⟩
end
structure xz(c:Cod):Prop where
 lv:LOk c
 rs:lz c.x0g*24<=cp
 rn:lz c.x0g<=100000
def ju(c:Cod):wm:=ng (gt c) c (lz c.x0g)
theorem ZF{A:List (List Bool)}{c:Cod}:ng A c 1=⟨[Cls.mk (c.x0g.getD 0 0) [0]],[0]⟩:=by
 have I:Ki ([]:List Cls) (gq A c.ps [] 0 (c.x0g.getD 0 0))=0:=by
  unfold Ki gq;split<;>split<;>first|rfl|(rename_i G D;exact absurd (show et (kc A 0 (c.x0g.getD 0 0)) []<0 by unfold et;decide) D)|(rename_i G D;exact absurd (show(-1:Int)<0 by decide) D)
 show wm.mk (kL [] (Ki [] (gq A c.ps [] 0 (c.x0g.getD 0 0))) 0 (c.x0g.getD 0 0)) ([]++[(Ki ([]:List Cls) (gq A c.ps [] 0 (c.x0g.getD 0 0)):Int)])=_
 rw[I];rfl
theorem pQ(l:List Cls):noFL (l.map Cls.O)=zt:=Mj (fun x=>by
 show(zt&&(noF (di 0 1 (ints x.mem))&&zt))=zt
 show(zt&&((zt&&noFL (ints x.mem))&&zt))=zt
 rw[ky];rfl) l
theorem Gd(N:T 10=zs O3)(D:T 45=zs B8)(J:T 43=zn)(G:T 44=zn){c:Cod}(hk:xz c):AM.eo ⟨A0,T,A2⟩ 24 [c.F] [di 0 2 ((ju c).all.map Cls.O),di 0 1 (ints (ju c).of)]:=by
 obtain⟨X,ad,Q⟩:=hk;have tc:=fun K=>Qe (K:=K) N ⟨X,ad⟩
 have Y:=Df X;have hA:=BP Y;have I:=uD (gt c) c (lz c.x0g);unfold ju;have U:=hA.l;have V:lz (ints c.x0g)=lz c.x0g:=by simp[ints]
 by_cases hz:lz c.x0g=0
 . have e0:gt c=[]:=zqq (by rw[U,hz])
   have e1:ng (gt c) c (lz c.x0g)=⟨[],[]⟩:=by rw[hz];rfl
   have er:c.x0g=[]:=zqq hz;rw[e1];obtain⟨fr',h,k1,k2⟩:=KW (T:=T) (c:=c) (x:=.x0a) (y:=.x0a) (K:=⟨[.row 1 [c.F] 5,.row 1 [.msl 2 0 0 1] 1,.row 0 [] 1],0,[]⟩) Q;have h:=B4 h;rw[hz]at h;have nz:((0:Nat):Int)=0:=rfl;rw[nz]at h;rw[e0]at tc;refine⟨[.x0a,.x0a],⟨[],0,[]⟩,?_,?_⟩
   . rw[A7 (c:=GU) (nt:=55) (rs:=[.tmp 2,.tmp 3]) rfl (by simp)];unfold GU
     unfold K0;unfold jS jR sK sJ sI;simp only[Cod.F]at tc h|-;simp only[tc,h,k1,k2,V,hz,nz,C8,C9,D1,D2,D3,D4,tab,zqf,XP,seval]
     done
   . exact E1 (vs':=[.msl 0 0 0 2,.msl 1 0 0 1]) (os':=[.row 0 [] 2,.row 0 [] 1]) rfl (by simp only[XP,seval]) (us:=[.msl 0 0 0 2,.msl 1 0 0 1]) (ps:=[.row 0 [] 2,.row 0 [] 1]) rfl rfl rfl
 . have h0:=ZD (T:=T) (A:=gt c) (n:=lz c.x0g) (kind:=c.x0g.getD 0 0) J (by omega) Q (fT (by omega))
   obtain⟨fr',h1,k1,k2⟩:=KX (T:=T) (A:=gt c) (c:=c) (n:=lz c.x0g) J G D hA rfl Q (lz c.x0g-1) 1 ⟨[Cls.mk (c.x0g.getD 0 0) [0]],[0]⟩ (by omega) (by decide) ZF.symm;have hL:=(B0 h0).trans h1;have aa:=I.len;generalize ng (gt c) c (lz c.x0g)=s at *;have ab:lz (ints s.of)=lz c.x0g:=by simp[ints,aa]
   have ac:lz (s.all.map Cls.O)=lz s.all:=by simp
   refine⟨[.msl 0 0 (lz s.all) 2,.msl 1 0 (lz c.x0g) 1],⟨[.row 0 (s.all.map Cls.O) 2,.row 0 (ints s.of) 1],0,[]⟩,?_,?_⟩
   . rw[A7 (c:=GU) (nt:=55) (rs:=[.tmp 2,.tmp 3]) rfl (by simp)];unfold GU
     unfold K0;unfold jS jR sK sJ sI;simp only[Cod.F]at tc hL|-;simp only[tc,hL,k1,k2,V,U,C8,C9,D1,D2,D3,D4,zqd,XP,seval]
     done
   . exact E1 (vs':=[.msl 0 0 (lz s.all) 2,.msl 1 0 (lz c.x0g) 1]) (os':=[.row 0 (s.all.map Cls.O) 2,.row 0 (ints s.of) 1]) (by simp only[XP,seval]) (by simp only[XP,seval]) (us:=[.msl 0 0 (lz s.all) 2,.msl 1 0 (lz c.x0g) 1]) (ps:=[.row 0 (s.all.map Cls.O) 2,.row 0 (ints s.of) 1]) (by simp only[ac,ab,XP,seval]) (by simp only[XP,seval]) (by simp only[XP,seval])
def J6:=Ck (fun p:(Cod)=>[p.F]) (fun p=>[di 0 2 ((ju p).all.map Cls.O),di 0 1 (ints (ju p).of)]) (fun p=>xz p)
theorem Dr(D:T 24=zs J6){c:Cod}{K:PK}(G:xz c):evP ⟨A0,T,A2⟩ (.call 24 [c.F] K)=zs (.val (W2 (lz K.os) [di 0 2 ((ju c).all.map Cls.O),di 0 1 (ints (ju c).of)]).1 ⟨K.os++(W2 (lz K.os) [di 0 2 ((ju c).all.map Cls.O),di 0 1 (ints (ju c).of)]).2,K.ext,K.tch⟩):=E6 D (by simp only[VV,XP,seval]) (F2 (a:=fun p:(Cod)=>[p.F]) (r:=fun p=>[di 0 2 ((ju p).all.map Cls.O),di 0 1 (ints (ju p).of)]) (fun x y e=>by simp only[VJ]at e;simp only[e]) (c) G) (by simp only[VN,pQ,XP,seval])
theorem Mt(I:T 10=zs O3)(D:T 45=zs B8)(J:T 43=zn)(G:T 44=zn)(hP:ep ⟨A0,T,A2⟩):TC A0 24 J6:=F9 hP fun p h=>Gd I D J G h
theorem Ge(D:T 24=zs J6){c:Cod}(G:xz c):AM.eo ⟨A0,T,A2⟩ 8 [c.F] [di 0 1 (ints (ju c).of)]:=by
 have t:=fun K=>Dr (K:=K) D G
 refine⟨[.msl 0 0 (lz (ints (ju c).of)) 1],⟨[.row 0 (ints (ju c).of) 1],0,[]⟩,?_,F3 (.inr ⟨rfl,rfl⟩)⟩;rw[A7 (c:=p8) (nt:=11) (rs:=[.tmp 2]) rfl (by simp)];unfold p8;unfold K0;simp only[Cod.F]at t|-;simp only[t,XP,seval]
def L8:=Ck (fun p:(Cod)=>[p.F]) (fun p=>[di 0 1 (ints (ju p).of)]) (fun p=>xz p)
theorem Ra(D:T 8=zs L8){c:Cod}{K:PK}(G:xz c):evP ⟨A0,T,A2⟩ (.call 8 [c.F] K)=zs (.val (W2 (lz K.os) [di 0 1 (ints (ju c).of)]).1 ⟨K.os++(W2 (lz K.os) [di 0 1 (ints (ju c).of)]).2,K.ext,K.tch⟩):=E6 D (by simp only[VV,XP,seval]) (F2 (a:=fun p:(Cod)=>[p.F]) (r:=fun p=>[di 0 1 (ints (ju p).of)]) (fun x y e=>by simp only[VJ]at e;simp only[e]) (c) G) (by simp only[VN,XP,seval])
theorem Mu(D:T 24=zs J6)(hP:ep ⟨A0,T,A2⟩):TC A0 8 L8:=F9 hP fun p h=>Ge D h
theorem Q0(D:T 46=zs A9){l:List Int}(h:lz l*8<=cp){K:PK}:evP ⟨A0,T,A2⟩ (.call 46 [Vx (ints l)] K)=zs (.val (W2 (lz K.os) [di 0 1 (ints l)]).1 ⟨K.os++(W2 (lz K.os) [di 0 1 (ints l)]).2,K.ext,K.tch⟩):=E6 D (by simp only[fm,XP,seval]) (Mi h) rfl
def nmD(of:List Int)(r:Int):Int:=if r<0 then r else of.getD r.toNat 0
def nmI(of:List Int)(x:Ins):Ins:={x with dst:=if x.op=6\/x.op=8\/x.op=11 then x.dst else nmD of x.dst,a:=if x.op=3\/x.op=6\/x.op=2\/x.op=4\/x.op=5\/x.op=8\/x.op=11 then nmD of x.a else x.a,b:=if x.op=3\/x.op=6 then nmD of x.b else x.b,args:=if x.op=9 then x.args.map (nmD of)else x.args}
structure lj(n:Nat)(x:Ins):Prop where
 dst:x.op≠6->x.op≠8->x.op≠11->x.dst<n
 a:x.op=2\/x.op=3\/x.op=4\/x.op=5\/x.op=6\/x.op=8\/x.op=11->x.a<n
 b:x.op=3\/x.op=6->x.b<n
 args:x.op=9->∀y∈x.args,y<n
 ok:lz x.args*8<=cp
section
variable {of l:List Int}{n i:Nat}{r:Int}{x:Ins}{rest:List PO}{ext:Nat}{tch:List Nat}{op ty dst a b nn:Int}{s:List UInt8}{args:List Int}
theorem M9(I:T 25=zn)(ho:lz of=n)(hr:r<n):evP ⟨A0,T,A2⟩ (.call 25 [.int .i64 r,.ptr 0 0 0] ⟨.row 1 [.msl 1 0 n 1] 1::.row 0 (ints of) 1::rest,ext,tch⟩)=zs (.val [.int .i64 (nmD of r)] ⟨.row 1 [.msl 1 0 n 1] 1::.row 0 (ints of) 1::rest,ext,tch⟩):=by
 unfold nmD;rw[g9 I rfl];by_cases h:r<0
 . rw[if_pos h]
   rw[A7 (c:=wM) (nt:=11) (rs:=[.tmp 3]) rfl (by simp)];unfold wM;simp only[decide_eq_true h,XP,seval]
   done
 . rw[if_neg h]
   obtain⟨k,rfl⟩:=zkm (show 0<=r by omega);have G:k<lz of:=by omega
   have hg:=C6 G;rw[fT G]at hg;have D:k<n:=by omega
   have d:decide ((k:Int)<0)=zf:=decide_eq_false (by omega);rw[zkn];rw[A7 (c:=wM) (nt:=11) (rs:=[.tmp 3]) rfl (by simp)];unfold wM;simp only[d,hg,D,XP,seval]
   done
theorem ZG(N:T 25=zn)(ho:lz of=n)(hl:lz l=lz args)(hi:i<lz args)(Q:lz args<=cp)(U:l.getD i 0<n):
 evP ⟨A0,T,A2⟩ (.code Ys [(2,.ptr 2 0 0),(3,.ptr 3 0 0),(4,.ptr 4 0 0),(37,.msl 5 0 (lz args) 1),(38,.int .i64 (lz args:Int)),(39,.int .i64 (i:Int))] ⟨[.row 1 [.msl 1 0 n 1] 1,.row 0 (ints of) 1,.row 1 [.agg [.fn (.func 25) [] [.ptr 0 0 0]]] 1,.row 1 [.agg [.int .i64 op,.int .i64 ty,.int .i64 dst,.int .i64 a,.int .i64 b,.int .i64 nn,.str s,.msl 5 0 (lz args) 1]] 8,.row 1 [.agg [.int .i64 0,.int .i64 0,.int .i64 0,.int .i64 0,.int .i64 0,.int .i64 0,.str [],.x0a]] 8,.row 0 (ints l) 1],2,[]⟩)=zs (.ok .normal [(2,.ptr 2 0 0),(3,.ptr 3 0 0),(4,.ptr 4 0 0),(37,.msl 5 0 (lz args) 1),(38,.int .i64 (lz args:Int)),(39,.int .i64 ((i+1:Nat):Int))] ⟨[.row 1 [.msl 1 0 n 1] 1,.row 0 (ints of) 1,.row 1 [.agg [.fn (.func 25) [] [.ptr 0 0 0]]] 1,.row 1 [.agg [.int .i64 op,.int .i64 ty,.int .i64 dst,.int .i64 a,.int .i64 b,.int .i64 nn,.str s,.msl 5 0 (lz args) 1]] 8,.row 1 [.agg [.int .i64 0,.int .i64 0,.int .i64 0,.int .i64 0,.int .i64 0,.int .i64 0,.str [],.x0a]] 8,.row 0 (ints (l.set i (nmD of (l.getD i 0)))) 1],2,[]⟩):=by
 have G:decide ((i:Int)<(lz args:Int))=zt:=by simp[hi]
 have V:=A8 (i:=i) (by simp only[cp]at Q;omega);have D:i<lz l:=by omega
 have hg:=C6 D;rw[fT D]at hg;have I:(ints l).set i (.int .i64 (nmD of (l.getD i 0)))=ints (l.set i (nmD of (l.getD i 0))):=by rw[ints,ints,List.map_set]
 rw[<-I];have t:=fun rest ext tch=>M9 (T:=T) (rest:=rest) (ext:=ext) (tch:=tch) N ho U
 generalize l.getD i 0=z at *;have J:lz (ints l)=lz args:=by simp[ints,hl]
 unfold Ys jT sL;simp only[G,hi,hg,V,t,J,C8,C9,D1,D2,D3,D4,XP,seval]
 done
theorem ZH(D:True):∃fr',evP ⟨A0,T,A2⟩ (.code Ys [(2,.ptr 2 0 0),(3,.ptr 3 0 0),(4,.ptr 4 0 0),(37,.msl 5 0 (lz args) 1),(38,.int .i64 (lz args:Int)),(39,.int .i64 (lz args:Int))] ⟨[.row 1 [.msl 1 0 n 1] 1,.row 0 (ints of) 1,.row 1 [.agg [.fn (.func 25) [] [.ptr 0 0 0]]] 1,.row 1 [.agg [.int .i64 op,.int .i64 ty,.int .i64 dst,.int .i64 a,.int .i64 b,.int .i64 nn,.str s,.msl 5 0 (lz args) 1]] 8,.row 1 [.agg [.int .i64 0,.int .i64 0,.int .i64 0,.int .i64 0,.int .i64 0,.int .i64 0,.str [],.x0a]] 8,.row 0 (ints l) 1],2,[]⟩)=zs (.ok (.exit 4) fr' ⟨[.row 1 [.msl 1 0 n 1] 1,.row 0 (ints of) 1,.row 1 [.agg [.fn (.func 25) [] [.ptr 0 0 0]]] 1,.row 1 [.agg [.int .i64 op,.int .i64 ty,.int .i64 dst,.int .i64 a,.int .i64 b,.int .i64 nn,.str s,.msl 5 0 (lz args) 1]] 8,.row 1 [.agg [.int .i64 0,.int .i64 0,.int .i64 0,.int .i64 0,.int .i64 0,.int .i64 0,.str [],.x0a]] 8,.row 0 (ints l) 1],2,[]⟩)/\FR fr' 2=.ptr 2 0 0/\FR fr' 3=.ptr 3 0 0/\FR fr' 4=.ptr 4 0 0:=by
 have D:decide ((lz args:Int)<(lz args:Int))=zf:=by simp
 unfold Ys jT;simp only[D,XP,seval];exact⟨_,rfl,rfl,rfl,rfl⟩
def su(of args:List Int)(i:Nat):List Int:=(args.take i).map (nmD of)++args.drop i
theorem uE:lz (su of args i)=lz args:=by unfold su;simp;omega
theorem uF(h:i<lz args):(su of args i).getD i 0=args.getD i 0:=by
 unfold su;rw[zqk,zqk,List.getElem?_append_right (by simp;omega)];simp[Nat.min_eq_left (Nat.le_of_lt h)]
theorem uG(h:i<lz args):(su of args i).set i (nmD of (args.getD i 0))=su of args (i+1):=by
 unfold su;rw[List.set_append_right _ _ (by simp;omega)]
 have:i-lz ((args.take i).map (nmD of))=0:=by simp;omega
 rw[this,zkg h,List.set_cons_zero,zkh h,zki,List.append_assoc];simp[zqk,h]
theorem KY(D:T 25=zn)(ho:lz of=n)(G:lz args<=cp)(I:∀y∈args,y<n):∀(d i:Nat)(l:List Int),lz args=i+d->l=su of args i ->
 ∃fr',evP ⟨A0,T,A2⟩ (.code (.loop Ys) [(2,.ptr 2 0 0),(3,.ptr 3 0 0),(4,.ptr 4 0 0),(37,.msl 5 0 (lz args) 1),(38,.int .i64 (lz args:Int)),(39,.int .i64 (i:Int))] ⟨[.row 1 [.msl 1 0 n 1] 1,.row 0 (ints of) 1,.row 1 [.agg [.fn (.func 25) [] [.ptr 0 0 0]]] 1,.row 1 [.agg [.int .i64 op,.int .i64 ty,.int .i64 dst,.int .i64 a,.int .i64 b,.int .i64 nn,.str s,.msl 5 0 (lz args) 1]] 8,.row 1 [.agg [.int .i64 0,.int .i64 0,.int .i64 0,.int .i64 0,.int .i64 0,.int .i64 0,.str [],.x0a]] 8,.row 0 (ints l) 1],2,[]⟩)=zs (.ok (.exit 4) fr' ⟨[.row 1 [.msl 1 0 n 1] 1,.row 0 (ints of) 1,.row 1 [.agg [.fn (.func 25) [] [.ptr 0 0 0]]] 1,.row 1 [.agg [.int .i64 op,.int .i64 ty,.int .i64 dst,.int .i64 a,.int .i64 b,.int .i64 nn,.str s,.msl 5 0 (lz args) 1]] 8,.row 1 [.agg [.int .i64 0,.int .i64 0,.int .i64 0,.int .i64 0,.int .i64 0,.int .i64 0,.str [],.x0a]] 8,.row 0 (ints (args.map (nmD of))) 1],2,[]⟩)/\FR fr' 2=.ptr 2 0 0/\FR fr' 3=.ptr 3 0 0/\FR fr' 4=.ptr 4 0 0
 |0,i,l,e,hl=>by
  obtain rfl:i=lz args:=by omega
  have:l=args.map (nmD of):=by rw[hl];unfold su;simp
  subst this;obtain⟨fr',h,k⟩:=ZH (T:=T) (of:=of) (l:=args.map (nmD of)) (n:=n) (op:=op) (ty:=ty) (dst:=dst) (a:=a) (b:=b) (nn:=nn) (s:=s) (args:=args) trivial;exact⟨fr',B4 h,k⟩
 |d+1,i,l,e,hl=>by
  have hi:i<lz args:=by omega
  have hg:l.getD i 0=args.getD i 0:=by rw[hl];exact uF hi
  have h:=ZG (T:=T) (of:=of) (l:=l) (n:=n) (i:=i) (op:=op) (ty:=ty) (dst:=dst) (a:=a) (b:=b) (nn:=nn) (s:=s) (args:=args) D ho (by rw[hl];exact uE) hi G (by rw[hg,<-fT hi];exact I _ (zqe hi));obtain⟨fr',h',k⟩:=KY D ho G I d (i+1) (l.set i (nmD of (l.getD i 0))) (by omega) (by rw[hg,hl];exact uG hi);exact⟨fr',(B0 h).trans h',k⟩
end
def o9(q:Nat)(x:Ins):AV:=.agg [.int .i64 x.op,.int .i64 x.ty,.int .i64 x.dst,.int .i64 x.a,.int .i64 x.b,.int .i64 x.n,.str x.s,.msl q 0 (lz x.args) 1]
section
variable {of:List Int}{n:Nat}{x:Ins}
theorem ZI(D:T 25=zn)(Q:T 46=zs A9)(ho:lz of=n)(U:lj n x)(h:x.op=3):evP ⟨A0,T,A2⟩ (.body 26 [.agg [.fn (.func 25) [] [.ptr 0 0 0]],x.F] ⟨[.row 1 [.msl 1 0 n 1] 1,.row 0 (ints of) 1],2,[]⟩)=zs (.val [o9 3 (nmI of x)] ⟨[.row 1 [.msl 1 0 n 1] 1,.row 0 (ints of) 1,.row 1 [o9 3 (nmI of x)] 8,.row 0 (ints (nmI of x).args) 1],2,[]⟩):=by
 obtain⟨op,ty,dst,a,b,nn,s,args⟩:=x;obtain⟨I,J,N,kg,ks⟩:=U;simp only at I J N kg ks h;subst h;have tc:=fun K=>Q0 (K:=K) Q (l:=args) ks
 have G:lz (ints args)=lz args:=by simp[ints]
 have V:=fun rest ext tch=>M9 (T:=T) (rest:=rest) (ext:=ext) (tch:=tch) D ho (I (by decide) (by decide) (by decide))
 have X:=fun rest ext tch=>M9 (T:=T) (rest:=rest) (ext:=ext) (tch:=tch) D ho (J (by decide))
 have Y:=fun rest ext tch=>M9 (T:=T) (rest:=rest) (ext:=ext) (tch:=tch) D ho (N (by decide))
 have e:nmI of ⟨3,ty,dst,a,b,nn,s,args⟩=⟨3,ty,nmD of dst,nmD of a,nmD of b,nn,s,args⟩:=rfl;rw[e];unfold o9;simp only[zqd];generalize nmD of dst=dst' at *;generalize nmD of a=a' at *;generalize nmD of b=b' at *;rw[A7 (c:=Yt) (nt:=66) (rs:=[.cell 4 58]) rfl (by simp)];unfold Yt;unfold Bf Be Bd Bc Bb Ba Az Ay Ax Aw Je Jd Jc Jb Ja Iz Iy Iw Iv Iu Ins.F;simp only[tc,G,V,X,Y,C8,C9,D1,D2,D3,D4,show decide ((3:Int)=3)=zt from rfl,show decide ((3:Int)=6)=zf from rfl,show decide ((3:Int)=2)=zf from rfl,show decide ((3:Int)=4)=zf from rfl,show decide ((3:Int)=5)=zf from rfl,show decide ((3:Int)=8)=zf from rfl,show decide ((3:Int)=11)=zf from rfl,show decide ((3:Int)=9)=zf from rfl,XP,seval]
 done
theorem ZJ(G:T 25=zn)(N:T 46=zs A9)(ho:lz of=n)(Q:lj n x)(h:x.op=6):evP ⟨A0,T,A2⟩ (.body 26 [.agg [.fn (.func 25) [] [.ptr 0 0 0]],x.F] ⟨[.row 1 [.msl 1 0 n 1] 1,.row 0 (ints of) 1],2,[]⟩)=zs (.val [o9 3 (nmI of x)] ⟨[.row 1 [.msl 1 0 n 1] 1,.row 0 (ints of) 1,.row 1 [o9 3 (nmI of x)] 8,.row 0 (ints (nmI of x).args) 1],2,[]⟩):=by
 obtain⟨op,ty,dst,a,b,nn,s,args⟩:=x;obtain⟨X,I,J,Y,ks⟩:=Q;simp only at X I J Y ks h;subst h;have tc:=fun K=>Q0 (K:=K) N (l:=args) ks
 have D:lz (ints args)=lz args:=by simp[ints]
 have U:=fun rest ext tch=>M9 (T:=T) (rest:=rest) (ext:=ext) (tch:=tch) G ho (I (by decide))
 have V:=fun rest ext tch=>M9 (T:=T) (rest:=rest) (ext:=ext) (tch:=tch) G ho (J (by decide))
 have e:nmI of ⟨6,ty,dst,a,b,nn,s,args⟩=⟨6,ty,dst,nmD of a,nmD of b,nn,s,args⟩:=rfl;rw[e];unfold o9;simp only[zqd];generalize nmD of a=a' at *;generalize nmD of b=b' at *;rw[A7 (c:=Yt) (nt:=66) (rs:=[.cell 4 58]) rfl (by simp)];unfold Yt;unfold Bf Be Bd Bc Bb Ba Az Ay Ax Aw Je Jd Jc Jb Ja Iz Iy Iw Iv Iu Ins.F;simp only[tc,D,U,V,C8,C9,D1,D2,D3,D4,show decide ((6:Int)=3)=zf from rfl,show decide ((6:Int)=6)=zt from rfl,show decide ((6:Int)=2)=zf from rfl,show decide ((6:Int)=4)=zf from rfl,show decide ((6:Int)=5)=zf from rfl,show decide ((6:Int)=8)=zf from rfl,show decide ((6:Int)=11)=zf from rfl,show decide ((6:Int)=9)=zf from rfl,XP,seval]
 done
theorem ZK(G:T 25=zn)(N:T 46=zs A9)(ho:lz of=n)(Q:lj n x)(h:x.op=2):evP ⟨A0,T,A2⟩ (.body 26 [.agg [.fn (.func 25) [] [.ptr 0 0 0]],x.F] ⟨[.row 1 [.msl 1 0 n 1] 1,.row 0 (ints of) 1],2,[]⟩)=zs (.val [o9 3 (nmI of x)] ⟨[.row 1 [.msl 1 0 n 1] 1,.row 0 (ints of) 1,.row 1 [o9 3 (nmI of x)] 8,.row 0 (ints (nmI of x).args) 1],2,[]⟩):=by
 obtain⟨op,ty,dst,a,b,nn,s,args⟩:=x;obtain⟨I,J,X,Y,ks⟩:=Q;simp only at I J X Y ks h;subst h;have tc:=fun K=>Q0 (K:=K) N (l:=args) ks
 have D:lz (ints args)=lz args:=by simp[ints]
 have U:=fun rest ext tch=>M9 (T:=T) (rest:=rest) (ext:=ext) (tch:=tch) G ho (I (by decide) (by decide) (by decide))
 have V:=fun rest ext tch=>M9 (T:=T) (rest:=rest) (ext:=ext) (tch:=tch) G ho (J (by decide))
 have e:nmI of ⟨2,ty,dst,a,b,nn,s,args⟩=⟨2,ty,nmD of dst,nmD of a,b,nn,s,args⟩:=rfl;rw[e];unfold o9;simp only[zqd];generalize nmD of dst=dst' at *;generalize nmD of a=a' at *;rw[A7 (c:=Yt) (nt:=66) (rs:=[.cell 4 58]) rfl (by simp)];unfold Yt;unfold Bf Be Bd Bc Bb Ba Az Ay Ax Aw Je Jd Jc Jb Ja Iz Iy Iw Iv Iu Ins.F;simp only[tc,D,U,V,C8,C9,D1,D2,D3,D4,show decide ((2:Int)=3)=zf from rfl,show decide ((2:Int)=6)=zf from rfl,show decide ((2:Int)=2)=zt from rfl,show decide ((2:Int)=4)=zf from rfl,show decide ((2:Int)=5)=zf from rfl,show decide ((2:Int)=8)=zf from rfl,show decide ((2:Int)=11)=zf from rfl,show decide ((2:Int)=9)=zf from rfl,XP,seval]
 done
theorem ZL(G:T 25=zn)(N:T 46=zs A9)(ho:lz of=n)(Q:lj n x)(h:x.op=4):evP ⟨A0,T,A2⟩ (.body 26 [.agg [.fn (.func 25) [] [.ptr 0 0 0]],x.F] ⟨[.row 1 [.msl 1 0 n 1] 1,.row 0 (ints of) 1],2,[]⟩)=zs (.val [o9 3 (nmI of x)] ⟨[.row 1 [.msl 1 0 n 1] 1,.row 0 (ints of) 1,.row 1 [o9 3 (nmI of x)] 8,.row 0 (ints (nmI of x).args) 1],2,[]⟩):=by
 obtain⟨op,ty,dst,a,b,nn,s,args⟩:=x;obtain⟨I,J,X,Y,ks⟩:=Q;simp only at I J X Y ks h;subst h;have tc:=fun K=>Q0 (K:=K) N (l:=args) ks
 have D:lz (ints args)=lz args:=by simp[ints]
 have U:=fun rest ext tch=>M9 (T:=T) (rest:=rest) (ext:=ext) (tch:=tch) G ho (I (by decide) (by decide) (by decide))
 have V:=fun rest ext tch=>M9 (T:=T) (rest:=rest) (ext:=ext) (tch:=tch) G ho (J (by decide))
 have e:nmI of ⟨4,ty,dst,a,b,nn,s,args⟩=⟨4,ty,nmD of dst,nmD of a,b,nn,s,args⟩:=rfl;rw[e];unfold o9;simp only[zqd];generalize nmD of dst=dst' at *;generalize nmD of a=a' at *;rw[A7 (c:=Yt) (nt:=66) (rs:=[.cell 4 58]) rfl (by simp)];unfold Yt;unfold Bf Be Bd Bc Bb Ba Az Ay Ax Aw Je Jd Jc Jb Ja Iz Iy Iw Iv Iu Ins.F;simp only[tc,D,U,V,C8,C9,D1,D2,D3,D4,show decide ((4:Int)=3)=zf from rfl,show decide ((4:Int)=6)=zf from rfl,show decide ((4:Int)=2)=zf from rfl,show decide ((4:Int)=4)=zt from rfl,show decide ((4:Int)=5)=zf from rfl,show decide ((4:Int)=8)=zf from rfl,show decide ((4:Int)=11)=zf from rfl,show decide ((4:Int)=9)=zf from rfl,XP,seval]
 done
theorem ZM(G:T 25=zn)(N:T 46=zs A9)(ho:lz of=n)(Q:lj n x)(h:x.op=5):evP ⟨A0,T,A2⟩ (.body 26 [.agg [.fn (.func 25) [] [.ptr 0 0 0]],x.F] ⟨[.row 1 [.msl 1 0 n 1] 1,.row 0 (ints of) 1],2,[]⟩)=zs (.val [o9 3 (nmI of x)] ⟨[.row 1 [.msl 1 0 n 1] 1,.row 0 (ints of) 1,.row 1 [o9 3 (nmI of x)] 8,.row 0 (ints (nmI of x).args) 1],2,[]⟩):=by
 obtain⟨op,ty,dst,a,b,nn,s,args⟩:=x;obtain⟨I,J,X,Y,ks⟩:=Q;simp only at I J X Y ks h;subst h;have tc:=fun K=>Q0 (K:=K) N (l:=args) ks
 have D:lz (ints args)=lz args:=by simp[ints]
 have U:=fun rest ext tch=>M9 (T:=T) (rest:=rest) (ext:=ext) (tch:=tch) G ho (I (by decide) (by decide) (by decide))
 have V:=fun rest ext tch=>M9 (T:=T) (rest:=rest) (ext:=ext) (tch:=tch) G ho (J (by decide))
 have e:nmI of ⟨5,ty,dst,a,b,nn,s,args⟩=⟨5,ty,nmD of dst,nmD of a,b,nn,s,args⟩:=rfl;rw[e];unfold o9;simp only[zqd];generalize nmD of dst=dst' at *;generalize nmD of a=a' at *;rw[A7 (c:=Yt) (nt:=66) (rs:=[.cell 4 58]) rfl (by simp)];unfold Yt;unfold Bf Be Bd Bc Bb Ba Az Ay Ax Aw Je Jd Jc Jb Ja Iz Iy Iw Iv Iu Ins.F;simp only[tc,D,U,V,C8,C9,D1,D2,D3,D4,show decide ((5:Int)=3)=zf from rfl,show decide ((5:Int)=6)=zf from rfl,show decide ((5:Int)=2)=zf from rfl,show decide ((5:Int)=4)=zf from rfl,show decide ((5:Int)=5)=zt from rfl,show decide ((5:Int)=8)=zf from rfl,show decide ((5:Int)=11)=zf from rfl,show decide ((5:Int)=9)=zf from rfl,XP,seval]
 done
theorem ZN(I:T 25=zn)(J:T 46=zs A9)(ho:lz of=n)(N:lj n x)(h:x.op=8):evP ⟨A0,T,A2⟩ (.body 26 [.agg [.fn (.func 25) [] [.ptr 0 0 0]],x.F] ⟨[.row 1 [.msl 1 0 n 1] 1,.row 0 (ints of) 1],2,[]⟩)=zs (.val [o9 3 (nmI of x)] ⟨[.row 1 [.msl 1 0 n 1] 1,.row 0 (ints of) 1,.row 1 [o9 3 (nmI of x)] 8,.row 0 (ints (nmI of x).args) 1],2,[]⟩):=by
 obtain⟨op,ty,dst,a,b,nn,s,args⟩:=x;obtain⟨U,G,V,X,ks⟩:=N;simp only at U G V X ks h;subst h;have tc:=fun K=>Q0 (K:=K) J (l:=args) ks
 have D:lz (ints args)=lz args:=by simp[ints]
 have Q:=fun rest ext tch=>M9 (T:=T) (rest:=rest) (ext:=ext) (tch:=tch) I ho (G (by decide))
 have e:nmI of ⟨8,ty,dst,a,b,nn,s,args⟩=⟨8,ty,dst,nmD of a,b,nn,s,args⟩:=rfl;rw[e];unfold o9;simp only[zqd];generalize nmD of a=a' at *;rw[A7 (c:=Yt) (nt:=66) (rs:=[.cell 4 58]) rfl (by simp)];unfold Yt;unfold Bf Be Bd Bc Bb Ba Az Ay Ax Aw Je Jd Jc Jb Ja Iz Iy Iw Iv Iu Ins.F;simp only[tc,D,Q,C8,C9,D1,D2,D3,D4,show decide ((8:Int)=3)=zf from rfl,show decide ((8:Int)=6)=zf from rfl,show decide ((8:Int)=2)=zf from rfl,show decide ((8:Int)=4)=zf from rfl,show decide ((8:Int)=5)=zf from rfl,show decide ((8:Int)=8)=zt from rfl,show decide ((8:Int)=11)=zf from rfl,show decide ((8:Int)=9)=zf from rfl,XP,seval]
 done
theorem KZ(I:T 25=zn)(J:T 46=zs A9)(ho:lz of=n)(N:lj n x)(h:x.op=11):evP ⟨A0,T,A2⟩ (.body 26 [.agg [.fn (.func 25) [] [.ptr 0 0 0]],x.F] ⟨[.row 1 [.msl 1 0 n 1] 1,.row 0 (ints of) 1],2,[]⟩)=zs (.val [o9 3 (nmI of x)] ⟨[.row 1 [.msl 1 0 n 1] 1,.row 0 (ints of) 1,.row 1 [o9 3 (nmI of x)] 8,.row 0 (ints (nmI of x).args) 1],2,[]⟩):=by
 obtain⟨op,ty,dst,a,b,nn,s,args⟩:=x;obtain⟨U,G,V,X,ks⟩:=N;simp only at U G V X ks h;subst h;have tc:=fun K=>Q0 (K:=K) J (l:=args) ks
 have D:lz (ints args)=lz args:=by simp[ints]
 have Q:=fun rest ext tch=>M9 (T:=T) (rest:=rest) (ext:=ext) (tch:=tch) I ho (G (by decide))
 have e:nmI of ⟨11,ty,dst,a,b,nn,s,args⟩=⟨11,ty,dst,nmD of a,b,nn,s,args⟩:=rfl;rw[e];unfold o9;simp only[zqd];generalize nmD of a=a' at *;rw[A7 (c:=Yt) (nt:=66) (rs:=[.cell 4 58]) rfl (by simp)];unfold Yt;unfold Bf Be Bd Bc Bb Ba Az Ay Ax Aw Je Jd Jc Jb Ja Iz Iy Iw Iv Iu Ins.F;simp only[tc,D,Q,C8,C9,D1,D2,D3,D4,show decide ((11:Int)=3)=zf from rfl,show decide ((11:Int)=6)=zf from rfl,show decide ((11:Int)=2)=zf from rfl,show decide ((11:Int)=4)=zf from rfl,show decide ((11:Int)=5)=zf from rfl,show decide ((11:Int)=8)=zf from rfl,show decide ((11:Int)=11)=zt from rfl,show decide ((11:Int)=9)=zf from rfl,XP,seval]
 done
theorem ZO(J:T 25=zn)(U:T 46=zs A9)(ho:lz of=n)(V:lj n x)(h:x.op=9):evP ⟨A0,T,A2⟩ (.body 26 [.agg [.fn (.func 25) [] [.ptr 0 0 0]],x.F] ⟨[.row 1 [.msl 1 0 n 1] 1,.row 0 (ints of) 1],2,[]⟩)=zs (.val [o9 3 (nmI of x)] ⟨[.row 1 [.msl 1 0 n 1] 1,.row 0 (ints of) 1,.row 1 [o9 3 (nmI of x)] 8,.row 0 (ints (nmI of x).args) 1],2,[]⟩):=by
 obtain⟨op,ty,dst,a,b,nn,s,args⟩:=x;obtain⟨N,Y,kb,Q,ks⟩:=V;simp only at N Y kb Q ks h;subst h;have tc:=fun K=>Q0 (K:=K) U (l:=args) ks
 have G:lz (ints args)=lz args:=by simp[ints]
 have X:=fun rest ext tch=>M9 (T:=T) (rest:=rest) (ext:=ext) (tch:=tch) J ho (N (by decide) (by decide) (by decide))
 obtain⟨fr1,D,k1,k2,k3⟩:=KY (T:=T) (of:=of) (n:=n) (op:=9) (ty:=ty) (dst:=dst) (a:=a) (b:=b) (nn:=nn) (s:=s) (args:=args) J ho (by simp only[cp]at ks|-;omega) (Q rfl) (lz args) 0 args (by omega) rfl;have D:=D;simp only[show((0:Nat):Int)=0 from rfl]at D;have I:lz (ints (args.map (nmD of)))=lz args:=by simp[ints]
 have e:nmI of ⟨9,ty,dst,a,b,nn,s,args⟩=⟨9,ty,nmD of dst,a,b,nn,s,args.map (nmD of)⟩:=rfl;rw[e];unfold o9;simp only[zqd];generalize nmD of dst=dst' at *;rw[A7 (c:=Yt) (nt:=66) (rs:=[.cell 4 58]) rfl (by simp)];unfold Yt;unfold Bf Be Bd Bc Bb Ba Az Ay Ax Aw Je Jd Jc Jb Ja Iz Iy Iw Iv Iu Ins.F;simp only[tc,G,X,D,k1,k2,k3,I,C8,C9,D1,D2,D3,D4,show decide ((9:Int)=3)=zf from rfl,show decide ((9:Int)=6)=zf from rfl,show decide ((9:Int)=2)=zf from rfl,show decide ((9:Int)=4)=zf from rfl,show decide ((9:Int)=5)=zf from rfl,show decide ((9:Int)=8)=zf from rfl,show decide ((9:Int)=11)=zf from rfl,show decide ((9:Int)=9)=zt from rfl,XP,seval]
 done
theorem ZP(hN:T 25=zn)(hC:T 46=zs A9)(ho:lz of=n)(hk:lj n x)(J:¬x.op=3)(G:¬x.op=6)(N:¬x.op=2)(Q:¬x.op=4)(U:¬x.op=5)(I:¬x.op=8)(D:¬x.op=11)(V:¬x.op=9):evP ⟨A0,T,A2⟩ (.body 26 [.agg [.fn (.func 25) [] [.ptr 0 0 0]],x.F] ⟨[.row 1 [.msl 1 0 n 1] 1,.row 0 (ints of) 1],2,[]⟩)=zs (.val [o9 3 (nmI of x)] ⟨[.row 1 [.msl 1 0 n 1] 1,.row 0 (ints of) 1,.row 1 [o9 3 (nmI of x)] 8,.row 0 (ints (nmI of x).args) 1],2,[]⟩):=by
 obtain⟨op,ty,dst,a,b,nn,s,args⟩:=x;obtain⟨Y,ka,kb,kg,ks⟩:=hk;simp only at Y ka kb kg ks J G N Q U I D V;have tc:=fun K=>Q0 (K:=K) hC (l:=args) ks
 have X:lz (ints args)=lz args:=by simp[ints]
 have td:=fun rest ext tch=>M9 (T:=T) (rest:=rest) (ext:=ext) (tch:=tch) hN ho (Y G I D)
 have e:nmI of ⟨op,ty,dst,a,b,nn,s,args⟩=⟨op,ty,nmD of dst,a,b,nn,s,args⟩:=by
  unfold nmI;simp only[J,G,N,Q,U,I,D,V,or_self,↓reduceIte]
 have J:decide (op=3)=zf:=decide_eq_false J;have G:decide (op=6)=zf:=decide_eq_false G;have N:decide (op=2)=zf:=decide_eq_false N;have Q:decide (op=4)=zf:=decide_eq_false Q;have U:decide (op=5)=zf:=decide_eq_false U;have I:decide (op=8)=zf:=decide_eq_false I;have D:decide (op=11)=zf:=decide_eq_false D;have V:decide (op=9)=zf:=decide_eq_false V;rw[e];unfold o9;simp only[zqd];generalize nmD of dst=dst' at *;rw[A7 (c:=Yt) (nt:=66) (rs:=[.cell 4 58]) rfl (by simp)];unfold Yt;unfold Bf Be Bd Bc Bb Ba Az Ay Ax Aw Je Jd Jc Jb Ja Iz Iy Iw Iv Iu Ins.F;simp only[tc,X,td,C8,C9,D1,D2,D3,D4,J,G,N,Q,U,I,D,V,XP,seval]
 done
end
theorem Ao{of:List Int}{n:Nat}{x:Ins}(D:T 25=zn)(G:T 46=zs A9)(ho:lz of=n)(I:lj n x):evP ⟨A0,T,A2⟩ (.body 26 [.agg [.fn (.func 25) [] [.ptr 0 0 0]],x.F] ⟨[.row 1 [.msl 1 0 n 1] 1,.row 0 (ints of) 1],2,[]⟩)=zs (.val [o9 3 (nmI of x)] ⟨[.row 1 [.msl 1 0 n 1] 1,.row 0 (ints of) 1,.row 1 [o9 3 (nmI of x)] 8,.row 0 (ints (nmI of x).args) 1],2,[]⟩):=by
 by_cases N:x.op=3
 . exact ZI D G ho I N
 by_cases Q:x.op=6
 . exact ZJ D G ho I Q
 by_cases U:x.op=2
 . exact ZK D G ho I U
 by_cases V:x.op=4
 . exact ZL D G ho I V
 by_cases X:x.op=5
 . exact ZM D G ho I X
 by_cases Y:x.op=8
 . exact ZN D G ho I Y
 by_cases J:x.op=11
 . exact KZ D G ho I J
 by_cases h9:x.op=9
 . exact ZO D G ho I h9
 exact ZP D G ho I N Q U V X Y J h9
section
variable {of:List Int}{n nr nb nc k:Nat}{R B C bl:List AV}{bn bi e1 e2 e3 e4:Int}{nm:List UInt8}{ty ps:Int}{code:List Ins}{x:Ins}
theorem EQ(J:T 26=zn)(N:T 25=zn)(Q:T 46=zs A9)(ho:lz of=n)(D:k<lz code)(U:code[k]=x)(V:lj n x)(hs:lz code*88<=140737488355328):evP ⟨A0,T,A2⟩ (.code N4 [(2,.ptr 0 0 0),(5,.ptr 1 0 0),(6,.ptr 2 0 0),(10,.ptr 3 0 0),(11,.x0a),(43,Vx bl),(44,.int .i64 bn),(45,.int .i64 bi),(50,Vx (code.map Ins.F)),(51,.int .i64 (lz code:Int)),(52,.int .i64 (k:Int))] ⟨[.row 1 [.agg [.str [],.int .i64 0,.int .i64 0,.x0a,.x0a]] 5,.row 1 [.agg [.fn (.func 25) [] [.ptr 4 0 0]]] 1,.row 1 [.agg [.str nm,.int .i64 ty,.int .i64 ps,.x0a,.x0a]] 5,.row 1 [.agg [Vx (code.map Ins.F),.int .i64 e1,.int .i64 e2,.int .i64 e3,.int .i64 e4]] 5,.row 1 [.msl 5 0 n 1] 1,.row 0 (ints of) 1],0,[]⟩)=zs (.ok .normal [(2,.ptr 0 0 0),(5,.ptr 1 0 0),(6,.ptr 2 0 0),(10,.ptr 3 0 0),(11,.msl 4 0 1 8),(43,Vx bl),(44,.int .i64 bn),(45,.int .i64 bi),(50,Vx (code.map Ins.F)),(51,.int .i64 (lz code:Int)),(52,.int .i64 ((k+1:Nat):Int))] ⟨[.row 1 [.agg [.str [],.int .i64 0,.int .i64 0,.x0a,.x0a]] 5,.row 1 [.agg [.fn (.func 25) [] [.ptr 5 0 0]]] 1,.row 1 [.agg [.str nm,.int .i64 ty,.int .i64 ps,.x0a,.x0a]] 5,.row 1 [.agg [Vx (code.map Ins.F),.int .i64 e1,.int .i64 e2,.int .i64 e3,.int .i64 e4]] 5,.row 0 ([(nmI of x).O]) 8,.row 1 [.msl 6 0 n 1] 1,.row 0 (ints of) 1],0,[]⟩):=by
 have G:decide ((k:Int)<(lz code:Int))=zt:=by simp[D]
 have X:=A8 (i:=k) (by omega);have hg:=B9 (F:=Ins.F) D;rw[U]at hg;have t:∀tch,evP ⟨A0,T,A2⟩ (.call 26 [.agg [.fn (.func 25) [] [.ptr 4 0 0]],x.F] ⟨[.row 1 [.agg [.str [],.int .i64 0,.int .i64 0,.x0a,.x0a]] 5,.row 1 [.agg [.fn (.func 25) [] [.ptr 4 0 0]]] 1,.row 1 [.agg [.str nm,.int .i64 ty,.int .i64 ps,.x0a,.x0a]] 5,.row 1 [.agg [Vx (code.map Ins.F),.int .i64 e1,.int .i64 e2,.int .i64 e3,.int .i64 e4]] 5,.row 1 [.msl 5 0 n 1] 1,.row 0 (ints of) 1,.row 1 [x.F] 8],0,tch⟩)=zs (.val [o9 8 (nmI of x)] ⟨[.row 1 [.agg [.str [],.int .i64 0,.int .i64 0,.x0a,.x0a]] 5,.row 1 [.agg [.fn (.func 25) [] [.ptr 4 0 0]]] 1,.row 1 [.agg [.str nm,.int .i64 ty,.int .i64 ps,.x0a,.x0a]] 5,.row 1 [.agg [Vx (code.map Ins.F),.int .i64 e1,.int .i64 e2,.int .i64 e3,.int .i64 e4]] 5,.row 1 [.msl 5 0 n 1] 1,.row 0 (ints of) 1,.row 1 [x.F] 8,.row 1 [o9 8 (nmI of x)] 8,.row 0 (ints (nmI of x).args) 1],0,tch⟩):=fun tch=>Dt (ids:=[4,5]) J rfl rfl rfl rfl (Ao N Q ho V) rfl rfl
 have hz:1*88<=140737488355328:=by decide
 have I:lz (ints (nmI of x).args)=lz (nmI of x).args:=by simp[ints]
 have Y:(nmI of x).O=.agg [.int .i64 (nmI of x).op,.int .i64 (nmI of x).ty,.int .i64 (nmI of x).dst,.int .i64 (nmI of x).a,.int .i64 (nmI of x).b,.int .i64 (nmI of x).n,.str (nmI of x).s,di 0 1 (ints (nmI of x).args)]:=rfl;rw[Y];unfold o9 at t;simp only[Ins.F]at t hg;generalize nmI of x=y at *;unfold N4 Fb bP;simp only[G,D,hg,X,t,I,C8,C9,D1,D2,D3,D4,XP,seval]
 done
theorem ER(J:T 26=zn)(N:T 25=zn)(Q:T 46=zs A9)(ho:lz of=n)(D:k<lz code)(U:code[k]=x)(V:lj n x)(hs:lz code*88<=140737488355328)(hc:lz C=nc)(hnc:nc<lz code):evP ⟨A0,T,A2⟩ (.code N4 [(2,.ptr 0 0 0),(5,.ptr 1 0 0),(6,.ptr 2 0 0),(10,.ptr 3 0 0),(11,.msl 4 0 nc 8),(43,Vx bl),(44,.int .i64 bn),(45,.int .i64 bi),(50,Vx (code.map Ins.F)),(51,.int .i64 (lz code:Int)),(52,.int .i64 (k:Int))] ⟨[.row 1 [.agg [.str [],.int .i64 0,.int .i64 0,.x0a,.x0a]] 5,.row 1 [.agg [.fn (.func 25) [] [.ptr 5 0 0]]] 1,.row 1 [.agg [.str nm,.int .i64 ty,.int .i64 ps,.x0a,.x0a]] 5,.row 1 [.agg [Vx (code.map Ins.F),.int .i64 e1,.int .i64 e2,.int .i64 e3,.int .i64 e4]] 5,.row 0 (C) 8,.row 1 [.msl 6 0 n 1] 1,.row 0 (ints of) 1],0,[]⟩)=zs (.ok .normal [(2,.ptr 0 0 0),(5,.ptr 1 0 0),(6,.ptr 2 0 0),(10,.ptr 3 0 0),(11,.msl 4 0 (nc+1) 8),(43,Vx bl),(44,.int .i64 bn),(45,.int .i64 bi),(50,Vx (code.map Ins.F)),(51,.int .i64 (lz code:Int)),(52,.int .i64 ((k+1:Nat):Int))] ⟨[.row 1 [.agg [.str [],.int .i64 0,.int .i64 0,.x0a,.x0a]] 5,.row 1 [.agg [.fn (.func 25) [] [.ptr 5 0 0]]] 1,.row 1 [.agg [.str nm,.int .i64 ty,.int .i64 ps,.x0a,.x0a]] 5,.row 1 [.agg [Vx (code.map Ins.F),.int .i64 e1,.int .i64 e2,.int .i64 e3,.int .i64 e4]] 5,.row 0 (C++[(nmI of x).O]) 8,.row 1 [.msl 6 0 n 1] 1,.row 0 (ints of) 1],0,[]⟩):=by
 have G:decide ((k:Int)<(lz code:Int))=zt:=by simp[D]
 have X:=A8 (i:=k) (by omega);have hg:=B9 (F:=Ins.F) D;rw[U]at hg;have t:∀tch,evP ⟨A0,T,A2⟩ (.call 26 [.agg [.fn (.func 25) [] [.ptr 5 0 0]],x.F] ⟨[.row 1 [.agg [.str [],.int .i64 0,.int .i64 0,.x0a,.x0a]] 5,.row 1 [.agg [.fn (.func 25) [] [.ptr 5 0 0]]] 1,.row 1 [.agg [.str nm,.int .i64 ty,.int .i64 ps,.x0a,.x0a]] 5,.row 1 [.agg [Vx (code.map Ins.F),.int .i64 e1,.int .i64 e2,.int .i64 e3,.int .i64 e4]] 5,.row 0 (C) 8,.row 1 [.msl 6 0 n 1] 1,.row 0 (ints of) 1,.row 1 [x.F] 8],0,tch⟩)=zs (.val [o9 9 (nmI of x)] ⟨[.row 1 [.agg [.str [],.int .i64 0,.int .i64 0,.x0a,.x0a]] 5,.row 1 [.agg [.fn (.func 25) [] [.ptr 5 0 0]]] 1,.row 1 [.agg [.str nm,.int .i64 ty,.int .i64 ps,.x0a,.x0a]] 5,.row 1 [.agg [Vx (code.map Ins.F),.int .i64 e1,.int .i64 e2,.int .i64 e3,.int .i64 e4]] 5,.row 0 (C) 8,.row 1 [.msl 6 0 n 1] 1,.row 0 (ints of) 1,.row 1 [x.F] 8,.row 1 [o9 9 (nmI of x)] 8,.row 0 (ints (nmI of x).args) 1],0,tch⟩):=fun tch=>Dt (ids:=[5,6]) J rfl rfl rfl rfl (Ao N Q ho V) rfl rfl
 have hz:1*88<=140737488355328:=by decide
 have hb:(nc+1)*88<=140737488355328:=by omega
 have I:lz (ints (nmI of x).args)=lz (nmI of x).args:=by simp[ints]
 have Y:(nmI of x).O=.agg [.int .i64 (nmI of x).op,.int .i64 (nmI of x).ty,.int .i64 (nmI of x).dst,.int .i64 (nmI of x).a,.int .i64 (nmI of x).b,.int .i64 (nmI of x).n,.str (nmI of x).s,di 0 1 (ints (nmI of x).args)]:=rfl;rw[Y];unfold o9 at t;simp only[Ins.F]at t hg;generalize nmI of x=y at *;unfold N4 Fb bP;simp only[G,D,hg,X,t,I,hb,hc,C8,C9,D1,D2,D3,D4,XP,seval]
 done
theorem ES(J:T 26=zn)(N:T 25=zn)(Q:T 46=zs A9)(ho:lz of=n)(D:k<lz code)(U:code[k]=x)(V:lj n x)(hs:lz code*88<=140737488355328):evP ⟨A0,T,A2⟩ (.code N4 [(2,.ptr 0 0 0),(5,.ptr 1 0 0),(6,.ptr 2 0 0),(10,.ptr 3 0 0),(11,.x0a),(43,Vx bl),(44,.int .i64 bn),(45,.int .i64 bi),(50,Vx (code.map Ins.F)),(51,.int .i64 (lz code:Int)),(52,.int .i64 (k:Int))] ⟨[.row 1 [.agg [.str [],.int .i64 0,.int .i64 0,.x0a,.x0a]] 5,.row 1 [.agg [.fn (.func 25) [] [.ptr 4 0 0]]] 1,.row 1 [.agg [.str nm,.int .i64 ty,.int .i64 ps,.x0a,.msl 5 0 nb 5]] 5,.row 1 [.agg [Vx (code.map Ins.F),.int .i64 e1,.int .i64 e2,.int .i64 e3,.int .i64 e4]] 5,.row 1 [.msl 6 0 n 1] 1,.row 0 B 5,.row 0 (ints of) 1],0,[]⟩)=zs (.ok .normal [(2,.ptr 0 0 0),(5,.ptr 1 0 0),(6,.ptr 2 0 0),(10,.ptr 3 0 0),(11,.msl 4 0 1 8),(43,Vx bl),(44,.int .i64 bn),(45,.int .i64 bi),(50,Vx (code.map Ins.F)),(51,.int .i64 (lz code:Int)),(52,.int .i64 ((k+1:Nat):Int))] ⟨[.row 1 [.agg [.str [],.int .i64 0,.int .i64 0,.x0a,.x0a]] 5,.row 1 [.agg [.fn (.func 25) [] [.ptr 5 0 0]]] 1,.row 1 [.agg [.str nm,.int .i64 ty,.int .i64 ps,.x0a,.msl 6 0 nb 5]] 5,.row 1 [.agg [Vx (code.map Ins.F),.int .i64 e1,.int .i64 e2,.int .i64 e3,.int .i64 e4]] 5,.row 0 ([(nmI of x).O]) 8,.row 1 [.msl 7 0 n 1] 1,.row 0 B 5,.row 0 (ints of) 1],0,[]⟩):=by
 have G:decide ((k:Int)<(lz code:Int))=zt:=by simp[D]
 have X:=A8 (i:=k) (by omega);have hg:=B9 (F:=Ins.F) D;rw[U]at hg;have t:∀tch,evP ⟨A0,T,A2⟩ (.call 26 [.agg [.fn (.func 25) [] [.ptr 4 0 0]],x.F] ⟨[.row 1 [.agg [.str [],.int .i64 0,.int .i64 0,.x0a,.x0a]] 5,.row 1 [.agg [.fn (.func 25) [] [.ptr 4 0 0]]] 1,.row 1 [.agg [.str nm,.int .i64 ty,.int .i64 ps,.x0a,.msl 5 0 nb 5]] 5,.row 1 [.agg [Vx (code.map Ins.F),.int .i64 e1,.int .i64 e2,.int .i64 e3,.int .i64 e4]] 5,.row 1 [.msl 6 0 n 1] 1,.row 0 B 5,.row 0 (ints of) 1,.row 1 [x.F] 8],0,tch⟩)=zs (.val [o9 9 (nmI of x)] ⟨[.row 1 [.agg [.str [],.int .i64 0,.int .i64 0,.x0a,.x0a]] 5,.row 1 [.agg [.fn (.func 25) [] [.ptr 4 0 0]]] 1,.row 1 [.agg [.str nm,.int .i64 ty,.int .i64 ps,.x0a,.msl 5 0 nb 5]] 5,.row 1 [.agg [Vx (code.map Ins.F),.int .i64 e1,.int .i64 e2,.int .i64 e3,.int .i64 e4]] 5,.row 1 [.msl 6 0 n 1] 1,.row 0 B 5,.row 0 (ints of) 1,.row 1 [x.F] 8,.row 1 [o9 9 (nmI of x)] 8,.row 0 (ints (nmI of x).args) 1],0,tch⟩):=fun tch=>Dt (ids:=[4,6]) J rfl rfl rfl rfl (Ao N Q ho V) rfl rfl
 have hz:1*88<=140737488355328:=by decide
 have I:lz (ints (nmI of x).args)=lz (nmI of x).args:=by simp[ints]
 have Y:(nmI of x).O=.agg [.int .i64 (nmI of x).op,.int .i64 (nmI of x).ty,.int .i64 (nmI of x).dst,.int .i64 (nmI of x).a,.int .i64 (nmI of x).b,.int .i64 (nmI of x).n,.str (nmI of x).s,di 0 1 (ints (nmI of x).args)]:=rfl;rw[Y];unfold o9 at t;simp only[Ins.F]at t hg;generalize nmI of x=y at *;unfold N4 Fb bP;simp only[G,D,hg,X,t,I,C8,C9,D1,D2,D3,D4,XP,seval]
 done
theorem ET(J:T 26=zn)(N:T 25=zn)(Q:T 46=zs A9)(ho:lz of=n)(D:k<lz code)(U:code[k]=x)(V:lj n x)(hs:lz code*88<=140737488355328)(hc:lz C=nc)(hnc:nc<lz code):evP ⟨A0,T,A2⟩ (.code N4 [(2,.ptr 0 0 0),(5,.ptr 1 0 0),(6,.ptr 2 0 0),(10,.ptr 3 0 0),(11,.msl 4 0 nc 8),(43,Vx bl),(44,.int .i64 bn),(45,.int .i64 bi),(50,Vx (code.map Ins.F)),(51,.int .i64 (lz code:Int)),(52,.int .i64 (k:Int))] ⟨[.row 1 [.agg [.str [],.int .i64 0,.int .i64 0,.x0a,.x0a]] 5,.row 1 [.agg [.fn (.func 25) [] [.ptr 5 0 0]]] 1,.row 1 [.agg [.str nm,.int .i64 ty,.int .i64 ps,.x0a,.msl 6 0 nb 5]] 5,.row 1 [.agg [Vx (code.map Ins.F),.int .i64 e1,.int .i64 e2,.int .i64 e3,.int .i64 e4]] 5,.row 0 (C) 8,.row 1 [.msl 7 0 n 1] 1,.row 0 B 5,.row 0 (ints of) 1],0,[]⟩)=zs (.ok .normal [(2,.ptr 0 0 0),(5,.ptr 1 0 0),(6,.ptr 2 0 0),(10,.ptr 3 0 0),(11,.msl 4 0 (nc+1) 8),(43,Vx bl),(44,.int .i64 bn),(45,.int .i64 bi),(50,Vx (code.map Ins.F)),(51,.int .i64 (lz code:Int)),(52,.int .i64 ((k+1:Nat):Int))] ⟨[.row 1 [.agg [.str [],.int .i64 0,.int .i64 0,.x0a,.x0a]] 5,.row 1 [.agg [.fn (.func 25) [] [.ptr 5 0 0]]] 1,.row 1 [.agg [.str nm,.int .i64 ty,.int .i64 ps,.x0a,.msl 6 0 nb 5]] 5,.row 1 [.agg [Vx (code.map Ins.F),.int .i64 e1,.int .i64 e2,.int .i64 e3,.int .i64 e4]] 5,.row 0 (C++[(nmI of x).O]) 8,.row 1 [.msl 7 0 n 1] 1,.row 0 B 5,.row 0 (ints of) 1],0,[]⟩):=by
 have G:decide ((k:Int)<(lz code:Int))=zt:=by simp[D]
 have X:=A8 (i:=k) (by omega);have hg:=B9 (F:=Ins.F) D;rw[U]at hg;have t:∀tch,evP ⟨A0,T,A2⟩ (.call 26 [.agg [.fn (.func 25) [] [.ptr 5 0 0]],x.F] ⟨[.row 1 [.agg [.str [],.int .i64 0,.int .i64 0,.x0a,.x0a]] 5,.row 1 [.agg [.fn (.func 25) [] [.ptr 5 0 0]]] 1,.row 1 [.agg [.str nm,.int .i64 ty,.int .i64 ps,.x0a,.msl 6 0 nb 5]] 5,.row 1 [.agg [Vx (code.map Ins.F),.int .i64 e1,.int .i64 e2,.int .i64 e3,.int .i64 e4]] 5,.row 0 (C) 8,.row 1 [.msl 7 0 n 1] 1,.row 0 B 5,.row 0 (ints of) 1,.row 1 [x.F] 8],0,tch⟩)=zs (.val [o9 10 (nmI of x)] ⟨[.row 1 [.agg [.str [],.int .i64 0,.int .i64 0,.x0a,.x0a]] 5,.row 1 [.agg [.fn (.func 25) [] [.ptr 5 0 0]]] 1,.row 1 [.agg [.str nm,.int .i64 ty,.int .i64 ps,.x0a,.msl 6 0 nb 5]] 5,.row 1 [.agg [Vx (code.map Ins.F),.int .i64 e1,.int .i64 e2,.int .i64 e3,.int .i64 e4]] 5,.row 0 (C) 8,.row 1 [.msl 7 0 n 1] 1,.row 0 B 5,.row 0 (ints of) 1,.row 1 [x.F] 8,.row 1 [o9 10 (nmI of x)] 8,.row 0 (ints (nmI of x).args) 1],0,tch⟩):=fun tch=>Dt (ids:=[5,7]) J rfl rfl rfl rfl (Ao N Q ho V) rfl rfl
 have hz:1*88<=140737488355328:=by decide
 have hb:(nc+1)*88<=140737488355328:=by omega
 have I:lz (ints (nmI of x).args)=lz (nmI of x).args:=by simp[ints]
 have Y:(nmI of x).O=.agg [.int .i64 (nmI of x).op,.int .i64 (nmI of x).ty,.int .i64 (nmI of x).dst,.int .i64 (nmI of x).a,.int .i64 (nmI of x).b,.int .i64 (nmI of x).n,.str (nmI of x).s,di 0 1 (ints (nmI of x).args)]:=rfl;rw[Y];unfold o9 at t;simp only[Ins.F]at t hg;generalize nmI of x=y at *;unfold N4 Fb bP;simp only[G,D,hg,X,t,I,hb,hc,C8,C9,D1,D2,D3,D4,XP,seval]
 done
theorem EU(J:T 26=zn)(N:T 25=zn)(Q:T 46=zs A9)(ho:lz of=n)(D:k<lz code)(U:code[k]=x)(V:lj n x)(hs:lz code*88<=140737488355328):evP ⟨A0,T,A2⟩ (.code N4 [(2,.ptr 0 0 0),(5,.ptr 1 0 0),(6,.ptr 2 0 0),(10,.ptr 3 0 0),(11,.x0a),(43,Vx bl),(44,.int .i64 bn),(45,.int .i64 bi),(50,Vx (code.map Ins.F)),(51,.int .i64 (lz code:Int)),(52,.int .i64 (k:Int))] ⟨[.row 1 [.agg [.str [],.int .i64 0,.int .i64 0,.x0a,.x0a]] 5,.row 1 [.agg [.fn (.func 25) [] [.ptr 4 0 0]]] 1,.row 1 [.agg [.str nm,.int .i64 ty,.int .i64 ps,.msl 5 0 nr 1,.x0a]] 5,.row 1 [.agg [Vx (code.map Ins.F),.int .i64 e1,.int .i64 e2,.int .i64 e3,.int .i64 e4]] 5,.row 1 [.msl 6 0 n 1] 1,.row 0 R 1,.row 0 (ints of) 1],0,[]⟩)=zs (.ok .normal [(2,.ptr 0 0 0),(5,.ptr 1 0 0),(6,.ptr 2 0 0),(10,.ptr 3 0 0),(11,.msl 4 0 1 8),(43,Vx bl),(44,.int .i64 bn),(45,.int .i64 bi),(50,Vx (code.map Ins.F)),(51,.int .i64 (lz code:Int)),(52,.int .i64 ((k+1:Nat):Int))] ⟨[.row 1 [.agg [.str [],.int .i64 0,.int .i64 0,.x0a,.x0a]] 5,.row 1 [.agg [.fn (.func 25) [] [.ptr 5 0 0]]] 1,.row 1 [.agg [.str nm,.int .i64 ty,.int .i64 ps,.msl 6 0 nr 1,.x0a]] 5,.row 1 [.agg [Vx (code.map Ins.F),.int .i64 e1,.int .i64 e2,.int .i64 e3,.int .i64 e4]] 5,.row 0 ([(nmI of x).O]) 8,.row 1 [.msl 7 0 n 1] 1,.row 0 R 1,.row 0 (ints of) 1],0,[]⟩):=by
 have G:decide ((k:Int)<(lz code:Int))=zt:=by simp[D]
 have X:=A8 (i:=k) (by omega);have hg:=B9 (F:=Ins.F) D;rw[U]at hg;have t:∀tch,evP ⟨A0,T,A2⟩ (.call 26 [.agg [.fn (.func 25) [] [.ptr 4 0 0]],x.F] ⟨[.row 1 [.agg [.str [],.int .i64 0,.int .i64 0,.x0a,.x0a]] 5,.row 1 [.agg [.fn (.func 25) [] [.ptr 4 0 0]]] 1,.row 1 [.agg [.str nm,.int .i64 ty,.int .i64 ps,.msl 5 0 nr 1,.x0a]] 5,.row 1 [.agg [Vx (code.map Ins.F),.int .i64 e1,.int .i64 e2,.int .i64 e3,.int .i64 e4]] 5,.row 1 [.msl 6 0 n 1] 1,.row 0 R 1,.row 0 (ints of) 1,.row 1 [x.F] 8],0,tch⟩)=zs (.val [o9 9 (nmI of x)] ⟨[.row 1 [.agg [.str [],.int .i64 0,.int .i64 0,.x0a,.x0a]] 5,.row 1 [.agg [.fn (.func 25) [] [.ptr 4 0 0]]] 1,.row 1 [.agg [.str nm,.int .i64 ty,.int .i64 ps,.msl 5 0 nr 1,.x0a]] 5,.row 1 [.agg [Vx (code.map Ins.F),.int .i64 e1,.int .i64 e2,.int .i64 e3,.int .i64 e4]] 5,.row 1 [.msl 6 0 n 1] 1,.row 0 R 1,.row 0 (ints of) 1,.row 1 [x.F] 8,.row 1 [o9 9 (nmI of x)] 8,.row 0 (ints (nmI of x).args) 1],0,tch⟩):=fun tch=>Dt (ids:=[4,6]) J rfl rfl rfl rfl (Ao N Q ho V) rfl rfl
 have hz:1*88<=140737488355328:=by decide
 have I:lz (ints (nmI of x).args)=lz (nmI of x).args:=by simp[ints]
 have Y:(nmI of x).O=.agg [.int .i64 (nmI of x).op,.int .i64 (nmI of x).ty,.int .i64 (nmI of x).dst,.int .i64 (nmI of x).a,.int .i64 (nmI of x).b,.int .i64 (nmI of x).n,.str (nmI of x).s,di 0 1 (ints (nmI of x).args)]:=rfl;rw[Y];unfold o9 at t;simp only[Ins.F]at t hg;generalize nmI of x=y at *;unfold N4 Fb bP;simp only[G,D,hg,X,t,I,C8,C9,D1,D2,D3,D4,XP,seval]
 done
theorem EV(J:T 26=zn)(N:T 25=zn)(Q:T 46=zs A9)(ho:lz of=n)(D:k<lz code)(U:code[k]=x)(V:lj n x)(hs:lz code*88<=140737488355328)(hc:lz C=nc)(hnc:nc<lz code):evP ⟨A0,T,A2⟩ (.code N4 [(2,.ptr 0 0 0),(5,.ptr 1 0 0),(6,.ptr 2 0 0),(10,.ptr 3 0 0),(11,.msl 4 0 nc 8),(43,Vx bl),(44,.int .i64 bn),(45,.int .i64 bi),(50,Vx (code.map Ins.F)),(51,.int .i64 (lz code:Int)),(52,.int .i64 (k:Int))] ⟨[.row 1 [.agg [.str [],.int .i64 0,.int .i64 0,.x0a,.x0a]] 5,.row 1 [.agg [.fn (.func 25) [] [.ptr 5 0 0]]] 1,.row 1 [.agg [.str nm,.int .i64 ty,.int .i64 ps,.msl 6 0 nr 1,.x0a]] 5,.row 1 [.agg [Vx (code.map Ins.F),.int .i64 e1,.int .i64 e2,.int .i64 e3,.int .i64 e4]] 5,.row 0 (C) 8,.row 1 [.msl 7 0 n 1] 1,.row 0 R 1,.row 0 (ints of) 1],0,[]⟩)=zs (.ok .normal [(2,.ptr 0 0 0),(5,.ptr 1 0 0),(6,.ptr 2 0 0),(10,.ptr 3 0 0),(11,.msl 4 0 (nc+1) 8),(43,Vx bl),(44,.int .i64 bn),(45,.int .i64 bi),(50,Vx (code.map Ins.F)),(51,.int .i64 (lz code:Int)),(52,.int .i64 ((k+1:Nat):Int))] ⟨[.row 1 [.agg [.str [],.int .i64 0,.int .i64 0,.x0a,.x0a]] 5,.row 1 [.agg [.fn (.func 25) [] [.ptr 5 0 0]]] 1,.row 1 [.agg [.str nm,.int .i64 ty,.int .i64 ps,.msl 6 0 nr 1,.x0a]] 5,.row 1 [.agg [Vx (code.map Ins.F),.int .i64 e1,.int .i64 e2,.int .i64 e3,.int .i64 e4]] 5,.row 0 (C++[(nmI of x).O]) 8,.row 1 [.msl 7 0 n 1] 1,.row 0 R 1,.row 0 (ints of) 1],0,[]⟩):=by
 have G:decide ((k:Int)<(lz code:Int))=zt:=by simp[D]
 have X:=A8 (i:=k) (by omega);have hg:=B9 (F:=Ins.F) D;rw[U]at hg;have t:∀tch,evP ⟨A0,T,A2⟩ (.call 26 [.agg [.fn (.func 25) [] [.ptr 5 0 0]],x.F] ⟨[.row 1 [.agg [.str [],.int .i64 0,.int .i64 0,.x0a,.x0a]] 5,.row 1 [.agg [.fn (.func 25) [] [.ptr 5 0 0]]] 1,.row 1 [.agg [.str nm,.int .i64 ty,.int .i64 ps,.msl 6 0 nr 1,.x0a]] 5,.row 1 [.agg [Vx (code.map Ins.F),.int .i64 e1,.int .i64 e2,.int .i64 e3,.int .i64 e4]] 5,.row 0 (C) 8,.row 1 [.msl 7 0 n 1] 1,.row 0 R 1,.row 0 (ints of) 1,.row 1 [x.F] 8],0,tch⟩)=zs (.val [o9 10 (nmI of x)] ⟨[.row 1 [.agg [.str [],.int .i64 0,.int .i64 0,.x0a,.x0a]] 5,.row 1 [.agg [.fn (.func 25) [] [.ptr 5 0 0]]] 1,.row 1 [.agg [.str nm,.int .i64 ty,.int .i64 ps,.msl 6 0 nr 1,.x0a]] 5,.row 1 [.agg [Vx (code.map Ins.F),.int .i64 e1,.int .i64 e2,.int .i64 e3,.int .i64 e4]] 5,.row 0 (C) 8,.row 1 [.msl 7 0 n 1] 1,.row 0 R 1,.row 0 (ints of) 1,.row 1 [x.F] 8,.row 1 [o9 10 (nmI of x)] 8,.row 0 (ints (nmI of x).args) 1],0,tch⟩):=fun tch=>Dt (ids:=[5,7]) J rfl rfl rfl rfl (Ao N Q ho V) rfl rfl
 have hz:1*88<=140737488355328:=by decide
 have hb:(nc+1)*88<=140737488355328:=by omega
 have I:lz (ints (nmI of x).args)=lz (nmI of x).args:=by simp[ints]
 have Y:(nmI of x).O=.agg [.int .i64 (nmI of x).op,.int .i64 (nmI of x).ty,.int .i64 (nmI of x).dst,.int .i64 (nmI of x).a,.int .i64 (nmI of x).b,.int .i64 (nmI of x).n,.str (nmI of x).s,di 0 1 (ints (nmI of x).args)]:=rfl;rw[Y];unfold o9 at t;simp only[Ins.F]at t hg;generalize nmI of x=y at *;unfold N4 Fb bP;simp only[G,D,hg,X,t,I,hb,hc,C8,C9,D1,D2,D3,D4,XP,seval]
 done
theorem EW(J:T 26=zn)(N:T 25=zn)(Q:T 46=zs A9)(ho:lz of=n)(D:k<lz code)(U:code[k]=x)(V:lj n x)(hs:lz code*88<=140737488355328):evP ⟨A0,T,A2⟩ (.code N4 [(2,.ptr 0 0 0),(5,.ptr 1 0 0),(6,.ptr 2 0 0),(10,.ptr 3 0 0),(11,.x0a),(43,Vx bl),(44,.int .i64 bn),(45,.int .i64 bi),(50,Vx (code.map Ins.F)),(51,.int .i64 (lz code:Int)),(52,.int .i64 (k:Int))] ⟨[.row 1 [.agg [.str [],.int .i64 0,.int .i64 0,.x0a,.x0a]] 5,.row 1 [.agg [.fn (.func 25) [] [.ptr 4 0 0]]] 1,.row 1 [.agg [.str nm,.int .i64 ty,.int .i64 ps,.msl 5 0 nr 1,.msl 6 0 nb 5]] 5,.row 1 [.agg [Vx (code.map Ins.F),.int .i64 e1,.int .i64 e2,.int .i64 e3,.int .i64 e4]] 5,.row 1 [.msl 7 0 n 1] 1,.row 0 R 1,.row 0 B 5,.row 0 (ints of) 1],0,[]⟩)=zs (.ok .normal [(2,.ptr 0 0 0),(5,.ptr 1 0 0),(6,.ptr 2 0 0),(10,.ptr 3 0 0),(11,.msl 4 0 1 8),(43,Vx bl),(44,.int .i64 bn),(45,.int .i64 bi),(50,Vx (code.map Ins.F)),(51,.int .i64 (lz code:Int)),(52,.int .i64 ((k+1:Nat):Int))] ⟨[.row 1 [.agg [.str [],.int .i64 0,.int .i64 0,.x0a,.x0a]] 5,.row 1 [.agg [.fn (.func 25) [] [.ptr 5 0 0]]] 1,.row 1 [.agg [.str nm,.int .i64 ty,.int .i64 ps,.msl 6 0 nr 1,.msl 7 0 nb 5]] 5,.row 1 [.agg [Vx (code.map Ins.F),.int .i64 e1,.int .i64 e2,.int .i64 e3,.int .i64 e4]] 5,.row 0 ([(nmI of x).O]) 8,.row 1 [.msl 8 0 n 1] 1,.row 0 R 1,.row 0 B 5,.row 0 (ints of) 1],0,[]⟩):=by
 have G:decide ((k:Int)<(lz code:Int))=zt:=by simp[D]
 have X:=A8 (i:=k) (by omega);have hg:=B9 (F:=Ins.F) D;rw[U]at hg;have t:∀tch,evP ⟨A0,T,A2⟩ (.call 26 [.agg [.fn (.func 25) [] [.ptr 4 0 0]],x.F] ⟨[.row 1 [.agg [.str [],.int .i64 0,.int .i64 0,.x0a,.x0a]] 5,.row 1 [.agg [.fn (.func 25) [] [.ptr 4 0 0]]] 1,.row 1 [.agg [.str nm,.int .i64 ty,.int .i64 ps,.msl 5 0 nr 1,.msl 6 0 nb 5]] 5,.row 1 [.agg [Vx (code.map Ins.F),.int .i64 e1,.int .i64 e2,.int .i64 e3,.int .i64 e4]] 5,.row 1 [.msl 7 0 n 1] 1,.row 0 R 1,.row 0 B 5,.row 0 (ints of) 1,.row 1 [x.F] 8],0,tch⟩)=zs (.val [o9 10 (nmI of x)] ⟨[.row 1 [.agg [.str [],.int .i64 0,.int .i64 0,.x0a,.x0a]] 5,.row 1 [.agg [.fn (.func 25) [] [.ptr 4 0 0]]] 1,.row 1 [.agg [.str nm,.int .i64 ty,.int .i64 ps,.msl 5 0 nr 1,.msl 6 0 nb 5]] 5,.row 1 [.agg [Vx (code.map Ins.F),.int .i64 e1,.int .i64 e2,.int .i64 e3,.int .i64 e4]] 5,.row 1 [.msl 7 0 n 1] 1,.row 0 R 1,.row 0 B 5,.row 0 (ints of) 1,.row 1 [x.F] 8,.row 1 [o9 10 (nmI of x)] 8,.row 0 (ints (nmI of x).args) 1],0,tch⟩):=fun tch=>Dt (ids:=[4,7]) J rfl rfl rfl rfl (Ao N Q ho V) rfl rfl
 have hz:1*88<=140737488355328:=by decide
 have I:lz (ints (nmI of x).args)=lz (nmI of x).args:=by simp[ints]
 have Y:(nmI of x).O=.agg [.int .i64 (nmI of x).op,.int .i64 (nmI of x).ty,.int .i64 (nmI of x).dst,.int .i64 (nmI of x).a,.int .i64 (nmI of x).b,.int .i64 (nmI of x).n,.str (nmI of x).s,di 0 1 (ints (nmI of x).args)]:=rfl;rw[Y];unfold o9 at t;simp only[Ins.F]at t hg;generalize nmI of x=y at *;unfold N4 Fb bP;simp only[G,D,hg,X,t,I,C8,C9,D1,D2,D3,D4,XP,seval]
 done
theorem EX(J:T 26=zn)(N:T 25=zn)(Q:T 46=zs A9)(ho:lz of=n)(D:k<lz code)(U:code[k]=x)(V:lj n x)(hs:lz code*88<=140737488355328)(hc:lz C=nc)(hnc:nc<lz code):evP ⟨A0,T,A2⟩ (.code N4 [(2,.ptr 0 0 0),(5,.ptr 1 0 0),(6,.ptr 2 0 0),(10,.ptr 3 0 0),(11,.msl 4 0 nc 8),(43,Vx bl),(44,.int .i64 bn),(45,.int .i64 bi),(50,Vx (code.map Ins.F)),(51,.int .i64 (lz code:Int)),(52,.int .i64 (k:Int))] ⟨[.row 1 [.agg [.str [],.int .i64 0,.int .i64 0,.x0a,.x0a]] 5,.row 1 [.agg [.fn (.func 25) [] [.ptr 5 0 0]]] 1,.row 1 [.agg [.str nm,.int .i64 ty,.int .i64 ps,.msl 6 0 nr 1,.msl 7 0 nb 5]] 5,.row 1 [.agg [Vx (code.map Ins.F),.int .i64 e1,.int .i64 e2,.int .i64 e3,.int .i64 e4]] 5,.row 0 (C) 8,.row 1 [.msl 8 0 n 1] 1,.row 0 R 1,.row 0 B 5,.row 0 (ints of) 1],0,[]⟩)=zs (.ok .normal [(2,.ptr 0 0 0),(5,.ptr 1 0 0),(6,.ptr 2 0 0),(10,.ptr 3 0 0),(11,.msl 4 0 (nc+1) 8),(43,Vx bl),(44,.int .i64 bn),(45,.int .i64 bi),(50,Vx (code.map Ins.F)),(51,.int .i64 (lz code:Int)),(52,.int .i64 ((k+1:Nat):Int))] ⟨[.row 1 [.agg [.str [],.int .i64 0,.int .i64 0,.x0a,.x0a]] 5,.row 1 [.agg [.fn (.func 25) [] [.ptr 5 0 0]]] 1,.row 1 [.agg [.str nm,.int .i64 ty,.int .i64 ps,.msl 6 0 nr 1,.msl 7 0 nb 5]] 5,.row 1 [.agg [Vx (code.map Ins.F),.int .i64 e1,.int .i64 e2,.int .i64 e3,.int .i64 e4]] 5,.row 0 (C++[(nmI of x).O]) 8,.row 1 [.msl 8 0 n 1] 1,.row 0 R 1,.row 0 B 5,.row 0 (ints of) 1],0,[]⟩):=by
 have G:decide ((k:Int)<(lz code:Int))=zt:=by simp[D]
 have X:=A8 (i:=k) (by omega);have hg:=B9 (F:=Ins.F) D;rw[U]at hg;have t:∀tch,evP ⟨A0,T,A2⟩ (.call 26 [.agg [.fn (.func 25) [] [.ptr 5 0 0]],x.F] ⟨[.row 1 [.agg [.str [],.int .i64 0,.int .i64 0,.x0a,.x0a]] 5,.row 1 [.agg [.fn (.func 25) [] [.ptr 5 0 0]]] 1,.row 1 [.agg [.str nm,.int .i64 ty,.int .i64 ps,.msl 6 0 nr 1,.msl 7 0 nb 5]] 5,.row 1 [.agg [Vx (code.map Ins.F),.int .i64 e1,.int .i64 e2,.int .i64 e3,.int .i64 e4]] 5,.row 0 (C) 8,.row 1 [.msl 8 0 n 1] 1,.row 0 R 1,.row 0 B 5,.row 0 (ints of) 1,.row 1 [x.F] 8],0,tch⟩)=zs (.val [o9 11 (nmI of x)] ⟨[.row 1 [.agg [.str [],.int .i64 0,.int .i64 0,.x0a,.x0a]] 5,.row 1 [.agg [.fn (.func 25) [] [.ptr 5 0 0]]] 1,.row 1 [.agg [.str nm,.int .i64 ty,.int .i64 ps,.msl 6 0 nr 1,.msl 7 0 nb 5]] 5,.row 1 [.agg [Vx (code.map Ins.F),.int .i64 e1,.int .i64 e2,.int .i64 e3,.int .i64 e4]] 5,.row 0 (C) 8,.row 1 [.msl 8 0 n 1] 1,.row 0 R 1,.row 0 B 5,.row 0 (ints of) 1,.row 1 [x.F] 8,.row 1 [o9 11 (nmI of x)] 8,.row 0 (ints (nmI of x).args) 1],0,tch⟩):=fun tch=>Dt (ids:=[5,8]) J rfl rfl rfl rfl (Ao N Q ho V) rfl rfl
 have hz:1*88<=140737488355328:=by decide
 have hb:(nc+1)*88<=140737488355328:=by omega
 have I:lz (ints (nmI of x).args)=lz (nmI of x).args:=by simp[ints]
 have Y:(nmI of x).O=.agg [.int .i64 (nmI of x).op,.int .i64 (nmI of x).ty,.int .i64 (nmI of x).dst,.int .i64 (nmI of x).a,.int .i64 (nmI of x).b,.int .i64 (nmI of x).n,.str (nmI of x).s,di 0 1 (ints (nmI of x).args)]:=rfl;rw[Y];unfold o9 at t;simp only[Ins.F]at t hg;generalize nmI of x=y at *;unfold N4 Fb bP;simp only[G,D,hg,X,t,I,hb,hc,C8,C9,D1,D2,D3,D4,XP,seval]
 done
theorem q0{os:List PO}{b q:Nat}{r:Int}{ext:Nat}{tch:List Nat}(I:T 25=zn)(ho:lz of=n)(hr:r<n)(J:os[b]?=zs (.row 1 [.msl q 0 n 1] 1))(N:os[q]?=zs (.row 0 (ints of) 1)):evP ⟨A0,T,A2⟩ (.call 25 [.int .i64 r,.ptr b 0 0] ⟨os,ext,tch⟩)=zs (.val [.int .i64 (nmD of r)] ⟨os,ext,tch⟩):=by
 unfold nmD;rw[g9 I rfl];by_cases h:r<0
 . rw[if_pos h]
   rw[A7 (c:=wM) (nt:=11) (rs:=[.tmp 3]) rfl (by simp)];unfold wM;simp only[decide_eq_true h,XP,seval]
   done
 . rw[if_neg h]
   obtain⟨k,rfl⟩:=zkm (show 0<=r by omega);have G:k<lz of:=by omega
   have hg:=C6 G;rw[fT G]at hg;have D:k<n:=by omega
   have d:decide ((k:Int)<0)=zf:=decide_eq_false (by omega);rw[zkn];rw[A7 (c:=wM) (nt:=11) (rs:=[.tmp 3]) rfl (by simp)];unfold wM;simp only[d,hg,D,J,N,XP,seval]
   done
theorem U1{α β:Type}{f:α->β}{l:List α}{k:Nat}{x:α}(h:k<lz l)(D:l[k]=x):(l.take k).map f++[f x]=(l.take (k+1)).map f:=by
 rw[zkh h,zki,D];rfl
theorem EY(D:True):∃fr',evP ⟨A0,T,A2⟩ (.code N4 [(2,.ptr 0 0 0),(5,.ptr 1 0 0),(6,.ptr 2 0 0),(10,.ptr 3 0 0),(11,.x0a),(43,Vx bl),(44,.int .i64 bn),(45,.int .i64 bi),(50,Vx (code.map Ins.F)),(51,.int .i64 (lz code:Int)),(52,.int .i64 (lz code:Int))] ⟨[.row 1 [.agg [.str [],.int .i64 0,.int .i64 0,.x0a,.x0a]] 5,.row 1 [.agg [.fn (.func 25) [] [.ptr 4 0 0]]] 1,.row 1 [.agg [.str nm,.int .i64 ty,.int .i64 ps,.x0a,.x0a]] 5,.row 1 [.agg [Vx (code.map Ins.F),.int .i64 e1,.int .i64 e2,.int .i64 e3,.int .i64 e4]] 5,.row 1 [.msl 5 0 n 1] 1,.row 0 (ints of) 1],0,[]⟩)=zs (.ok (.exit 4) fr' ⟨[.row 1 [.agg [.str [],.int .i64 0,.int .i64 0,.x0a,.x0a]] 5,.row 1 [.agg [.fn (.func 25) [] [.ptr 4 0 0]]] 1,.row 1 [.agg [.str nm,.int .i64 ty,.int .i64 ps,.x0a,.x0a]] 5,.row 1 [.agg [Vx (code.map Ins.F),.int .i64 e1,.int .i64 e2,.int .i64 e3,.int .i64 e4]] 5,.row 1 [.msl 5 0 n 1] 1,.row 0 (ints of) 1],0,[]⟩)/\(FR fr' 2=.ptr 0 0 0/\FR fr' 5=.ptr 1 0 0/\FR fr' 6=.ptr 2 0 0/\FR fr' 10=.ptr 3 0 0/\FR fr' 43=Vx bl/\FR fr' 44=.int .i64 bn/\FR fr' 45=.int .i64 bi)/\FR fr' 11=.x0a:=by
 have D:decide ((lz code:Int)<(lz code:Int))=zf:=by simp
 unfold N4 Fb;simp only[D,XP,seval];exact⟨_,rfl,⟨rfl,rfl,rfl,rfl,rfl,rfl,rfl⟩,rfl⟩
theorem EZ(D:True):∃fr',evP ⟨A0,T,A2⟩ (.code N4 [(2,.ptr 0 0 0),(5,.ptr 1 0 0),(6,.ptr 2 0 0),(10,.ptr 3 0 0),(11,.msl 4 0 nc 8),(43,Vx bl),(44,.int .i64 bn),(45,.int .i64 bi),(50,Vx (code.map Ins.F)),(51,.int .i64 (lz code:Int)),(52,.int .i64 (lz code:Int))] ⟨[.row 1 [.agg [.str [],.int .i64 0,.int .i64 0,.x0a,.x0a]] 5,.row 1 [.agg [.fn (.func 25) [] [.ptr 5 0 0]]] 1,.row 1 [.agg [.str nm,.int .i64 ty,.int .i64 ps,.x0a,.x0a]] 5,.row 1 [.agg [Vx (code.map Ins.F),.int .i64 e1,.int .i64 e2,.int .i64 e3,.int .i64 e4]] 5,.row 0 (C) 8,.row 1 [.msl 6 0 n 1] 1,.row 0 (ints of) 1],0,[]⟩)=zs (.ok (.exit 4) fr' ⟨[.row 1 [.agg [.str [],.int .i64 0,.int .i64 0,.x0a,.x0a]] 5,.row 1 [.agg [.fn (.func 25) [] [.ptr 5 0 0]]] 1,.row 1 [.agg [.str nm,.int .i64 ty,.int .i64 ps,.x0a,.x0a]] 5,.row 1 [.agg [Vx (code.map Ins.F),.int .i64 e1,.int .i64 e2,.int .i64 e3,.int .i64 e4]] 5,.row 0 (C) 8,.row 1 [.msl 6 0 n 1] 1,.row 0 (ints of) 1],0,[]⟩)/\(FR fr' 2=.ptr 0 0 0/\FR fr' 5=.ptr 1 0 0/\FR fr' 6=.ptr 2 0 0/\FR fr' 10=.ptr 3 0 0/\FR fr' 43=Vx bl/\FR fr' 44=.int .i64 bn/\FR fr' 45=.int .i64 bi)/\FR fr' 11=.msl 4 0 nc 8:=by
 have D:decide ((lz code:Int)<(lz code:Int))=zf:=by simp
 unfold N4 Fb;simp only[D,XP,seval];exact⟨_,rfl,⟨rfl,rfl,rfl,rfl,rfl,rfl,rfl⟩,rfl⟩
theorem BR(G:T 26=zn)(I:T 25=zn)(J:T 46=zs A9)(ho:lz of=n)(N:∀x∈code,lj n x)(Q:lz code*88<=140737488355328):∀(d k:Nat)(C:List AV),lz code=k+d->lz C=k->C=(code.take k).map (fun x=>(nmI of x).O)->∃fr',evP ⟨A0,T,A2⟩ (.code (.loop N4) [(2,.ptr 0 0 0),(5,.ptr 1 0 0),(6,.ptr 2 0 0),(10,.ptr 3 0 0),(11,.msl 4 0 k 8),(43,Vx bl),(44,.int .i64 bn),(45,.int .i64 bi),(50,Vx (code.map Ins.F)),(51,.int .i64 (lz code:Int)),(52,.int .i64 (k:Int))] ⟨[.row 1 [.agg [.str [],.int .i64 0,.int .i64 0,.x0a,.x0a]] 5,.row 1 [.agg [.fn (.func 25) [] [.ptr 5 0 0]]] 1,.row 1 [.agg [.str nm,.int .i64 ty,.int .i64 ps,.x0a,.x0a]] 5,.row 1 [.agg [Vx (code.map Ins.F),.int .i64 e1,.int .i64 e2,.int .i64 e3,.int .i64 e4]] 5,.row 0 (C) 8,.row 1 [.msl 6 0 n 1] 1,.row 0 (ints of) 1],0,[]⟩)=zs (.ok (.exit 4) fr' ⟨[.row 1 [.agg [.str [],.int .i64 0,.int .i64 0,.x0a,.x0a]] 5,.row 1 [.agg [.fn (.func 25) [] [.ptr 5 0 0]]] 1,.row 1 [.agg [.str nm,.int .i64 ty,.int .i64 ps,.x0a,.x0a]] 5,.row 1 [.agg [Vx (code.map Ins.F),.int .i64 e1,.int .i64 e2,.int .i64 e3,.int .i64 e4]] 5,.row 0 (code.map fun x=>(nmI of x).O) 8,.row 1 [.msl 6 0 n 1] 1,.row 0 (ints of) 1],0,[]⟩)/\(FR fr' 2=.ptr 0 0 0/\FR fr' 5=.ptr 1 0 0/\FR fr' 6=.ptr 2 0 0/\FR fr' 10=.ptr 3 0 0/\FR fr' 43=Vx bl/\FR fr' 44=.int .i64 bn/\FR fr' 45=.int .i64 bi)/\FR fr' 11=.msl 4 0 (lz code) 8
 |0,k,C,e,hc,hC2=>by
  obtain rfl:k=lz code:=by omega
  have:C=code.map fun x=>(nmI of x).O:=by rw[hC2,zqh]
  subst this;obtain⟨fr',h,U,V⟩:=EZ (T:=T) (of:=of) (n:=n) (nc:=lz code) (C:=code.map fun x=>(nmI of x).O) (bl:=bl) (bn:=bn) (bi:=bi) (e1:=e1) (e2:=e2) (e3:=e3) (e4:=e4) (nm:=nm) (ty:=ty) (ps:=ps) (code:=code) trivial;exact⟨fr',B4 h,U,V⟩
 |d+1,k,C,e,hc,hC2=>by
  have D:k<lz code:=by omega
  have h:=ER (T:=T) (of:=of) (n:=n) (nc:=k) (k:=k) (C:=C) (bl:=bl) (bn:=bn) (bi:=bi) (e1:=e1) (e2:=e2) (e3:=e3) (e4:=e4) (nm:=nm) (ty:=ty) (ps:=ps) (code:=code) G I J ho D rfl (N _ (zqe D)) Q hc (by omega);obtain⟨fr',h',k'⟩:=BR G I J ho N Q d (k+1) (C++[(nmI of code[k]).O]) (by omega) (by simp;omega) (by rw[hC2];exact U1 (f:=fun x=>(nmI of x).O) D rfl);exact⟨fr',(B0 h).trans h',k'⟩
theorem LB(D:T 26=zn)(G:T 25=zn)(I:T 46=zs A9)(ho:lz of=n)(J:∀x∈code,lj n x)(N:lz code*88<=140737488355328)(h0:0<lz code):∃fr',evP ⟨A0,T,A2⟩ (.code (.loop N4) [(2,.ptr 0 0 0),(5,.ptr 1 0 0),(6,.ptr 2 0 0),(10,.ptr 3 0 0),(11,.x0a),(43,Vx bl),(44,.int .i64 bn),(45,.int .i64 bi),(50,Vx (code.map Ins.F)),(51,.int .i64 (lz code:Int)),(52,.int .i64 ((0:Nat):Int))] ⟨[.row 1 [.agg [.str [],.int .i64 0,.int .i64 0,.x0a,.x0a]] 5,.row 1 [.agg [.fn (.func 25) [] [.ptr 4 0 0]]] 1,.row 1 [.agg [.str nm,.int .i64 ty,.int .i64 ps,.x0a,.x0a]] 5,.row 1 [.agg [Vx (code.map Ins.F),.int .i64 e1,.int .i64 e2,.int .i64 e3,.int .i64 e4]] 5,.row 1 [.msl 5 0 n 1] 1,.row 0 (ints of) 1],0,[]⟩)=zs (.ok (.exit 4) fr' ⟨[.row 1 [.agg [.str [],.int .i64 0,.int .i64 0,.x0a,.x0a]] 5,.row 1 [.agg [.fn (.func 25) [] [.ptr 5 0 0]]] 1,.row 1 [.agg [.str nm,.int .i64 ty,.int .i64 ps,.x0a,.x0a]] 5,.row 1 [.agg [Vx (code.map Ins.F),.int .i64 e1,.int .i64 e2,.int .i64 e3,.int .i64 e4]] 5,.row 0 (code.map fun x=>(nmI of x).O) 8,.row 1 [.msl 6 0 n 1] 1,.row 0 (ints of) 1],0,[]⟩)/\(FR fr' 2=.ptr 0 0 0/\FR fr' 5=.ptr 1 0 0/\FR fr' 6=.ptr 2 0 0/\FR fr' 10=.ptr 3 0 0/\FR fr' 43=Vx bl/\FR fr' 44=.int .i64 bn/\FR fr' 45=.int .i64 bi)/\FR fr' 11=.msl 4 0 (lz code) 8:=by
 have h:=EQ (T:=T) (of:=of) (n:=n) (k:=0) (bl:=bl) (bn:=bn) (bi:=bi) (e1:=e1) (e2:=e2) (e3:=e3) (e4:=e4) (nm:=nm) (ty:=ty) (ps:=ps) (code:=code) D G I ho h0 rfl (J _ (zqe h0)) N;obtain⟨fr',h',k'⟩:=BR (T:=T) (of:=of) (n:=n) (bl:=bl) (bn:=bn) (bi:=bi) (e1:=e1) (e2:=e2) (e3:=e3) (e4:=e4) (nm:=nm) (ty:=ty) (ps:=ps) (code:=code) D G I ho J N (lz code-1) 1 [(nmI of code[0]).O] (by omega) rfl (by rw[<-U1 (f:=fun x=>(nmI of x).O) h0 rfl];rfl);exact⟨fr',(B0 h).trans h',k'⟩
theorem FA(D:True):∃fr',evP ⟨A0,T,A2⟩ (.code N4 [(2,.ptr 0 0 0),(5,.ptr 1 0 0),(6,.ptr 2 0 0),(10,.ptr 3 0 0),(11,.x0a),(43,Vx bl),(44,.int .i64 bn),(45,.int .i64 bi),(50,Vx (code.map Ins.F)),(51,.int .i64 (lz code:Int)),(52,.int .i64 (lz code:Int))] ⟨[.row 1 [.agg [.str [],.int .i64 0,.int .i64 0,.x0a,.x0a]] 5,.row 1 [.agg [.fn (.func 25) [] [.ptr 4 0 0]]] 1,.row 1 [.agg [.str nm,.int .i64 ty,.int .i64 ps,.x0a,.msl 5 0 nb 5]] 5,.row 1 [.agg [Vx (code.map Ins.F),.int .i64 e1,.int .i64 e2,.int .i64 e3,.int .i64 e4]] 5,.row 1 [.msl 6 0 n 1] 1,.row 0 B 5,.row 0 (ints of) 1],0,[]⟩)=zs (.ok (.exit 4) fr' ⟨[.row 1 [.agg [.str [],.int .i64 0,.int .i64 0,.x0a,.x0a]] 5,.row 1 [.agg [.fn (.func 25) [] [.ptr 4 0 0]]] 1,.row 1 [.agg [.str nm,.int .i64 ty,.int .i64 ps,.x0a,.msl 5 0 nb 5]] 5,.row 1 [.agg [Vx (code.map Ins.F),.int .i64 e1,.int .i64 e2,.int .i64 e3,.int .i64 e4]] 5,.row 1 [.msl 6 0 n 1] 1,.row 0 B 5,.row 0 (ints of) 1],0,[]⟩)/\(FR fr' 2=.ptr 0 0 0/\FR fr' 5=.ptr 1 0 0/\FR fr' 6=.ptr 2 0 0/\FR fr' 10=.ptr 3 0 0/\FR fr' 43=Vx bl/\FR fr' 44=.int .i64 bn/\FR fr' 45=.int .i64 bi)/\FR fr' 11=.x0a:=by
 have D:decide ((lz code:Int)<(lz code:Int))=zf:=by simp
 unfold N4 Fb;simp only[D,XP,seval];exact⟨_,rfl,⟨rfl,rfl,rfl,rfl,rfl,rfl,rfl⟩,rfl⟩
theorem FB(D:True):∃fr',evP ⟨A0,T,A2⟩ (.code N4 [(2,.ptr 0 0 0),(5,.ptr 1 0 0),(6,.ptr 2 0 0),(10,.ptr 3 0 0),(11,.msl 4 0 nc 8),(43,Vx bl),(44,.int .i64 bn),(45,.int .i64 bi),(50,Vx (code.map Ins.F)),(51,.int .i64 (lz code:Int)),(52,.int .i64 (lz code:Int))] ⟨[.row 1 [.agg [.str [],.int .i64 0,.int .i64 0,.x0a,.x0a]] 5,.row 1 [.agg [.fn (.func 25) [] [.ptr 5 0 0]]] 1,.row 1 [.agg [.str nm,.int .i64 ty,.int .i64 ps,.x0a,.msl 6 0 nb 5]] 5,.row 1 [.agg [Vx (code.map Ins.F),.int .i64 e1,.int .i64 e2,.int .i64 e3,.int .i64 e4]] 5,.row 0 (C) 8,.row 1 [.msl 7 0 n 1] 1,.row 0 B 5,.row 0 (ints of) 1],0,[]⟩)=zs (.ok (.exit 4) fr' ⟨[.row 1 [.agg [.str [],.int .i64 0,.int .i64 0,.x0a,.x0a]] 5,.row 1 [.agg [.fn (.func 25) [] [.ptr 5 0 0]]] 1,.row 1 [.agg [.str nm,.int .i64 ty,.int .i64 ps,.x0a,.msl 6 0 nb 5]] 5,.row 1 [.agg [Vx (code.map Ins.F),.int .i64 e1,.int .i64 e2,.int .i64 e3,.int .i64 e4]] 5,.row 0 (C) 8,.row 1 [.msl 7 0 n 1] 1,.row 0 B 5,.row 0 (ints of) 1],0,[]⟩)/\(FR fr' 2=.ptr 0 0 0/\FR fr' 5=.ptr 1 0 0/\FR fr' 6=.ptr 2 0 0/\FR fr' 10=.ptr 3 0 0/\FR fr' 43=Vx bl/\FR fr' 44=.int .i64 bn/\FR fr' 45=.int .i64 bi)/\FR fr' 11=.msl 4 0 nc 8:=by
 have D:decide ((lz code:Int)<(lz code:Int))=zf:=by simp
 unfold N4 Fb;simp only[D,XP,seval];exact⟨_,rfl,⟨rfl,rfl,rfl,rfl,rfl,rfl,rfl⟩,rfl⟩
theorem BS(G:T 26=zn)(I:T 25=zn)(J:T 46=zs A9)(ho:lz of=n)(N:∀x∈code,lj n x)(Q:lz code*88<=140737488355328):∀(d k:Nat)(C:List AV),lz code=k+d->lz C=k->C=(code.take k).map (fun x=>(nmI of x).O)->∃fr',evP ⟨A0,T,A2⟩ (.code (.loop N4) [(2,.ptr 0 0 0),(5,.ptr 1 0 0),(6,.ptr 2 0 0),(10,.ptr 3 0 0),(11,.msl 4 0 k 8),(43,Vx bl),(44,.int .i64 bn),(45,.int .i64 bi),(50,Vx (code.map Ins.F)),(51,.int .i64 (lz code:Int)),(52,.int .i64 (k:Int))] ⟨[.row 1 [.agg [.str [],.int .i64 0,.int .i64 0,.x0a,.x0a]] 5,.row 1 [.agg [.fn (.func 25) [] [.ptr 5 0 0]]] 1,.row 1 [.agg [.str nm,.int .i64 ty,.int .i64 ps,.x0a,.msl 6 0 nb 5]] 5,.row 1 [.agg [Vx (code.map Ins.F),.int .i64 e1,.int .i64 e2,.int .i64 e3,.int .i64 e4]] 5,.row 0 (C) 8,.row 1 [.msl 7 0 n 1] 1,.row 0 B 5,.row 0 (ints of) 1],0,[]⟩)=zs (.ok (.exit 4) fr' ⟨[.row 1 [.agg [.str [],.int .i64 0,.int .i64 0,.x0a,.x0a]] 5,.row 1 [.agg [.fn (.func 25) [] [.ptr 5 0 0]]] 1,.row 1 [.agg [.str nm,.int .i64 ty,.int .i64 ps,.x0a,.msl 6 0 nb 5]] 5,.row 1 [.agg [Vx (code.map Ins.F),.int .i64 e1,.int .i64 e2,.int .i64 e3,.int .i64 e4]] 5,.row 0 (code.map fun x=>(nmI of x).O) 8,.row 1 [.msl 7 0 n 1] 1,.row 0 B 5,.row 0 (ints of) 1],0,[]⟩)/\(FR fr' 2=.ptr 0 0 0/\FR fr' 5=.ptr 1 0 0/\FR fr' 6=.ptr 2 0 0/\FR fr' 10=.ptr 3 0 0/\FR fr' 43=Vx bl/\FR fr' 44=.int .i64 bn/\FR fr' 45=.int .i64 bi)/\FR fr' 11=.msl 4 0 (lz code) 8
 |0,k,C,e,hc,hC2=>by
  obtain rfl:k=lz code:=by omega
  have:C=code.map fun x=>(nmI of x).O:=by rw[hC2,zqh]
  subst this;obtain⟨fr',h,U,V⟩:=FB (T:=T) (of:=of) (n:=n) (nb:=nb) (B:=B) (nc:=lz code) (C:=code.map fun x=>(nmI of x).O) (bl:=bl) (bn:=bn) (bi:=bi) (e1:=e1) (e2:=e2) (e3:=e3) (e4:=e4) (nm:=nm) (ty:=ty) (ps:=ps) (code:=code) trivial;exact⟨fr',B4 h,U,V⟩
 |d+1,k,C,e,hc,hC2=>by
  have D:k<lz code:=by omega
  have h:=ET (T:=T) (of:=of) (n:=n) (nb:=nb) (B:=B) (nc:=k) (k:=k) (C:=C) (bl:=bl) (bn:=bn) (bi:=bi) (e1:=e1) (e2:=e2) (e3:=e3) (e4:=e4) (nm:=nm) (ty:=ty) (ps:=ps) (code:=code) G I J ho D rfl (N _ (zqe D)) Q hc (by omega);obtain⟨fr',h',k'⟩:=BS G I J ho N Q d (k+1) (C++[(nmI of code[k]).O]) (by omega) (by simp;omega) (by rw[hC2];exact U1 (f:=fun x=>(nmI of x).O) D rfl);exact⟨fr',(B0 h).trans h',k'⟩
theorem LC(D:T 26=zn)(G:T 25=zn)(I:T 46=zs A9)(ho:lz of=n)(J:∀x∈code,lj n x)(N:lz code*88<=140737488355328)(h0:0<lz code):∃fr',evP ⟨A0,T,A2⟩ (.code (.loop N4) [(2,.ptr 0 0 0),(5,.ptr 1 0 0),(6,.ptr 2 0 0),(10,.ptr 3 0 0),(11,.x0a),(43,Vx bl),(44,.int .i64 bn),(45,.int .i64 bi),(50,Vx (code.map Ins.F)),(51,.int .i64 (lz code:Int)),(52,.int .i64 ((0:Nat):Int))] ⟨[.row 1 [.agg [.str [],.int .i64 0,.int .i64 0,.x0a,.x0a]] 5,.row 1 [.agg [.fn (.func 25) [] [.ptr 4 0 0]]] 1,.row 1 [.agg [.str nm,.int .i64 ty,.int .i64 ps,.x0a,.msl 5 0 nb 5]] 5,.row 1 [.agg [Vx (code.map Ins.F),.int .i64 e1,.int .i64 e2,.int .i64 e3,.int .i64 e4]] 5,.row 1 [.msl 6 0 n 1] 1,.row 0 B 5,.row 0 (ints of) 1],0,[]⟩)=zs (.ok (.exit 4) fr' ⟨[.row 1 [.agg [.str [],.int .i64 0,.int .i64 0,.x0a,.x0a]] 5,.row 1 [.agg [.fn (.func 25) [] [.ptr 5 0 0]]] 1,.row 1 [.agg [.str nm,.int .i64 ty,.int .i64 ps,.x0a,.msl 6 0 nb 5]] 5,.row 1 [.agg [Vx (code.map Ins.F),.int .i64 e1,.int .i64 e2,.int .i64 e3,.int .i64 e4]] 5,.row 0 (code.map fun x=>(nmI of x).O) 8,.row 1 [.msl 7 0 n 1] 1,.row 0 B 5,.row 0 (ints of) 1],0,[]⟩)/\(FR fr' 2=.ptr 0 0 0/\FR fr' 5=.ptr 1 0 0/\FR fr' 6=.ptr 2 0 0/\FR fr' 10=.ptr 3 0 0/\FR fr' 43=Vx bl/\FR fr' 44=.int .i64 bn/\FR fr' 45=.int .i64 bi)/\FR fr' 11=.msl 4 0 (lz code) 8:=by
 have h:=ES (T:=T) (of:=of) (n:=n) (nb:=nb) (B:=B) (k:=0) (bl:=bl) (bn:=bn) (bi:=bi) (e1:=e1) (e2:=e2) (e3:=e3) (e4:=e4) (nm:=nm) (ty:=ty) (ps:=ps) (code:=code) D G I ho h0 rfl (J _ (zqe h0)) N;obtain⟨fr',h',k'⟩:=BS (T:=T) (of:=of) (n:=n) (nb:=nb) (B:=B) (bl:=bl) (bn:=bn) (bi:=bi) (e1:=e1) (e2:=e2) (e3:=e3) (e4:=e4) (nm:=nm) (ty:=ty) (ps:=ps) (code:=code) D G I ho J N (lz code-1) 1 [(nmI of code[0]).O] (by omega) rfl (by rw[<-U1 (f:=fun x=>(nmI of x).O) h0 rfl];rfl);exact⟨fr',(B0 h).trans h',k'⟩
theorem FC(D:True):∃fr',evP ⟨A0,T,A2⟩ (.code N4 [(2,.ptr 0 0 0),(5,.ptr 1 0 0),(6,.ptr 2 0 0),(10,.ptr 3 0 0),(11,.x0a),(43,Vx bl),(44,.int .i64 bn),(45,.int .i64 bi),(50,Vx (code.map Ins.F)),(51,.int .i64 (lz code:Int)),(52,.int .i64 (lz code:Int))] ⟨[.row 1 [.agg [.str [],.int .i64 0,.int .i64 0,.x0a,.x0a]] 5,.row 1 [.agg [.fn (.func 25) [] [.ptr 4 0 0]]] 1,.row 1 [.agg [.str nm,.int .i64 ty,.int .i64 ps,.msl 5 0 nr 1,.x0a]] 5,.row 1 [.agg [Vx (code.map Ins.F),.int .i64 e1,.int .i64 e2,.int .i64 e3,.int .i64 e4]] 5,.row 1 [.msl 6 0 n 1] 1,.row 0 R 1,.row 0 (ints of) 1],0,[]⟩)=zs (.ok (.exit 4) fr' ⟨[.row 1 [.agg [.str [],.int .i64 0,.int .i64 0,.x0a,.x0a]] 5,.row 1 [.agg [.fn (.func 25) [] [.ptr 4 0 0]]] 1,.row 1 [.agg [.str nm,.int .i64 ty,.int .i64 ps,.msl 5 0 nr 1,.x0a]] 5,.row 1 [.agg [Vx (code.map Ins.F),.int .i64 e1,.int .i64 e2,.int .i64 e3,.int .i64 e4]] 5,.row 1 [.msl 6 0 n 1] 1,.row 0 R 1,.row 0 (ints of) 1],0,[]⟩)/\(FR fr' 2=.ptr 0 0 0/\FR fr' 5=.ptr 1 0 0/\FR fr' 6=.ptr 2 0 0/\FR fr' 10=.ptr 3 0 0/\FR fr' 43=Vx bl/\FR fr' 44=.int .i64 bn/\FR fr' 45=.int .i64 bi)/\FR fr' 11=.x0a:=by
 have D:decide ((lz code:Int)<(lz code:Int))=zf:=by simp
 unfold N4 Fb;simp only[D,XP,seval];exact⟨_,rfl,⟨rfl,rfl,rfl,rfl,rfl,rfl,rfl⟩,rfl⟩
theorem FD(D:True):∃fr',evP ⟨A0,T,A2⟩ (.code N4 [(2,.ptr 0 0 0),(5,.ptr 1 0 0),(6,.ptr 2 0 0),(10,.ptr 3 0 0),(11,.msl 4 0 nc 8),(43,Vx bl),(44,.int .i64 bn),(45,.int .i64 bi),(50,Vx (code.map Ins.F)),(51,.int .i64 (lz code:Int)),(52,.int .i64 (lz code:Int))] ⟨[.row 1 [.agg [.str [],.int .i64 0,.int .i64 0,.x0a,.x0a]] 5,.row 1 [.agg [.fn (.func 25) [] [.ptr 5 0 0]]] 1,.row 1 [.agg [.str nm,.int .i64 ty,.int .i64 ps,.msl 6 0 nr 1,.x0a]] 5,.row 1 [.agg [Vx (code.map Ins.F),.int .i64 e1,.int .i64 e2,.int .i64 e3,.int .i64 e4]] 5,.row 0 (C) 8,.row 1 [.msl 7 0 n 1] 1,.row 0 R 1,.row 0 (ints of) 1],0,[]⟩)=zs (.ok (.exit 4) fr' ⟨[.row 1 [.agg [.str [],.int .i64 0,.int .i64 0,.x0a,.x0a]] 5,.row 1 [.agg [.fn (.func 25) [] [.ptr 5 0 0]]] 1,.row 1 [.agg [.str nm,.int .i64 ty,.int .i64 ps,.msl 6 0 nr 1,.x0a]] 5,.row 1 [.agg [Vx (code.map Ins.F),.int .i64 e1,.int .i64 e2,.int .i64 e3,.int .i64 e4]] 5,.row 0 (C) 8,.row 1 [.msl 7 0 n 1] 1,.row 0 R 1,.row 0 (ints of) 1],0,[]⟩)/\(FR fr' 2=.ptr 0 0 0/\FR fr' 5=.ptr 1 0 0/\FR fr' 6=.ptr 2 0 0/\FR fr' 10=.ptr 3 0 0/\FR fr' 43=Vx bl/\FR fr' 44=.int .i64 bn/\FR fr' 45=.int .i64 bi)/\FR fr' 11=.msl 4 0 nc 8:=by
 have D:decide ((lz code:Int)<(lz code:Int))=zf:=by simp
 unfold N4 Fb;simp only[D,XP,seval];exact⟨_,rfl,⟨rfl,rfl,rfl,rfl,rfl,rfl,rfl⟩,rfl⟩
theorem BT(G:T 26=zn)(I:T 25=zn)(J:T 46=zs A9)(ho:lz of=n)(N:∀x∈code,lj n x)(Q:lz code*88<=140737488355328):∀(d k:Nat)(C:List AV),lz code=k+d->lz C=k->C=(code.take k).map (fun x=>(nmI of x).O)->∃fr',evP ⟨A0,T,A2⟩ (.code (.loop N4) [(2,.ptr 0 0 0),(5,.ptr 1 0 0),(6,.ptr 2 0 0),(10,.ptr 3 0 0),(11,.msl 4 0 k 8),(43,Vx bl),(44,.int .i64 bn),(45,.int .i64 bi),(50,Vx (code.map Ins.F)),(51,.int .i64 (lz code:Int)),(52,.int .i64 (k:Int))] ⟨[.row 1 [.agg [.str [],.int .i64 0,.int .i64 0,.x0a,.x0a]] 5,.row 1 [.agg [.fn (.func 25) [] [.ptr 5 0 0]]] 1,.row 1 [.agg [.str nm,.int .i64 ty,.int .i64 ps,.msl 6 0 nr 1,.x0a]] 5,.row 1 [.agg [Vx (code.map Ins.F),.int .i64 e1,.int .i64 e2,.int .i64 e3,.int .i64 e4]] 5,.row 0 (C) 8,.row 1 [.msl 7 0 n 1] 1,.row 0 R 1,.row 0 (ints of) 1],0,[]⟩)=zs (.ok (.exit 4) fr' ⟨[.row 1 [.agg [.str [],.int .i64 0,.int .i64 0,.x0a,.x0a]] 5,.row 1 [.agg [.fn (.func 25) [] [.ptr 5 0 0]]] 1,.row 1 [.agg [.str nm,.int .i64 ty,.int .i64 ps,.msl 6 0 nr 1,.x0a]] 5,.row 1 [.agg [Vx (code.map Ins.F),.int .i64 e1,.int .i64 e2,.int .i64 e3,.int .i64 e4]] 5,.row 0 (code.map fun x=>(nmI of x).O) 8,.row 1 [.msl 7 0 n 1] 1,.row 0 R 1,.row 0 (ints of) 1],0,[]⟩)/\(FR fr' 2=.ptr 0 0 0/\FR fr' 5=.ptr 1 0 0/\FR fr' 6=.ptr 2 0 0/\FR fr' 10=.ptr 3 0 0/\FR fr' 43=Vx bl/\FR fr' 44=.int .i64 bn/\FR fr' 45=.int .i64 bi)/\FR fr' 11=.msl 4 0 (lz code) 8
 |0,k,C,e,hc,hC2=>by
  obtain rfl:k=lz code:=by omega
  have:C=code.map fun x=>(nmI of x).O:=by rw[hC2,zqh]
  subst this;obtain⟨fr',h,U,V⟩:=FD (T:=T) (of:=of) (n:=n) (nr:=nr) (R:=R) (nc:=lz code) (C:=code.map fun x=>(nmI of x).O) (bl:=bl) (bn:=bn) (bi:=bi) (e1:=e1) (e2:=e2) (e3:=e3) (e4:=e4) (nm:=nm) (ty:=ty) (ps:=ps) (code:=code) trivial;exact⟨fr',B4 h,U,V⟩
 |d+1,k,C,e,hc,hC2=>by
  have D:k<lz code:=by omega
  have h:=EV (T:=T) (of:=of) (n:=n) (nr:=nr) (R:=R) (nc:=k) (k:=k) (C:=C) (bl:=bl) (bn:=bn) (bi:=bi) (e1:=e1) (e2:=e2) (e3:=e3) (e4:=e4) (nm:=nm) (ty:=ty) (ps:=ps) (code:=code) G I J ho D rfl (N _ (zqe D)) Q hc (by omega);obtain⟨fr',h',k'⟩:=BT G I J ho N Q d (k+1) (C++[(nmI of code[k]).O]) (by omega) (by simp;omega) (by rw[hC2];exact U1 (f:=fun x=>(nmI of x).O) D rfl);exact⟨fr',(B0 h).trans h',k'⟩
theorem LD(D:T 26=zn)(G:T 25=zn)(I:T 46=zs A9)(ho:lz of=n)(J:∀x∈code,lj n x)(N:lz code*88<=140737488355328)(h0:0<lz code):∃fr',evP ⟨A0,T,A2⟩ (.code (.loop N4) [(2,.ptr 0 0 0),(5,.ptr 1 0 0),(6,.ptr 2 0 0),(10,.ptr 3 0 0),(11,.x0a),(43,Vx bl),(44,.int .i64 bn),(45,.int .i64 bi),(50,Vx (code.map Ins.F)),(51,.int .i64 (lz code:Int)),(52,.int .i64 ((0:Nat):Int))] ⟨[.row 1 [.agg [.str [],.int .i64 0,.int .i64 0,.x0a,.x0a]] 5,.row 1 [.agg [.fn (.func 25) [] [.ptr 4 0 0]]] 1,.row 1 [.agg [.str nm,.int .i64 ty,.int .i64 ps,.msl 5 0 nr 1,.x0a]] 5,.row 1 [.agg [Vx (code.map Ins.F),.int .i64 e1,.int .i64 e2,.int .i64 e3,.int .i64 e4]] 5,.row 1 [.msl 6 0 n 1] 1,.row 0 R 1,.row 0 (ints of) 1],0,[]⟩)=zs (.ok (.exit 4) fr' ⟨[.row 1 [.agg [.str [],.int .i64 0,.int .i64 0,.x0a,.x0a]] 5,.row 1 [.agg [.fn (.func 25) [] [.ptr 5 0 0]]] 1,.row 1 [.agg [.str nm,.int .i64 ty,.int .i64 ps,.msl 6 0 nr 1,.x0a]] 5,.row 1 [.agg [Vx (code.map Ins.F),.int .i64 e1,.int .i64 e2,.int .i64 e3,.int .i64 e4]] 5,.row 0 (code.map fun x=>(nmI of x).O) 8,.row 1 [.msl 7 0 n 1] 1,.row 0 R 1,.row 0 (ints of) 1],0,[]⟩)/\(FR fr' 2=.ptr 0 0 0/\FR fr' 5=.ptr 1 0 0/\FR fr' 6=.ptr 2 0 0/\FR fr' 10=.ptr 3 0 0/\FR fr' 43=Vx bl/\FR fr' 44=.int .i64 bn/\FR fr' 45=.int .i64 bi)/\FR fr' 11=.msl 4 0 (lz code) 8:=by
 have h:=EU (T:=T) (of:=of) (n:=n) (nr:=nr) (R:=R) (k:=0) (bl:=bl) (bn:=bn) (bi:=bi) (e1:=e1) (e2:=e2) (e3:=e3) (e4:=e4) (nm:=nm) (ty:=ty) (ps:=ps) (code:=code) D G I ho h0 rfl (J _ (zqe h0)) N;obtain⟨fr',h',k'⟩:=BT (T:=T) (of:=of) (n:=n) (nr:=nr) (R:=R) (bl:=bl) (bn:=bn) (bi:=bi) (e1:=e1) (e2:=e2) (e3:=e3) (e4:=e4) (nm:=nm) (ty:=ty) (ps:=ps) (code:=code) D G I ho J N (lz code-1) 1 [(nmI of code[0]).O] (by omega) rfl (by rw[<-U1 (f:=fun x=>(nmI of x).O) h0 rfl];rfl);exact⟨fr',(B0 h).trans h',k'⟩
theorem FE(D:True):∃fr',evP ⟨A0,T,A2⟩ (.code N4 [(2,.ptr 0 0 0),(5,.ptr 1 0 0),(6,.ptr 2 0 0),(10,.ptr 3 0 0),(11,.x0a),(43,Vx bl),(44,.int .i64 bn),(45,.int .i64 bi),(50,Vx (code.map Ins.F)),(51,.int .i64 (lz code:Int)),(52,.int .i64 (lz code:Int))] ⟨[.row 1 [.agg [.str [],.int .i64 0,.int .i64 0,.x0a,.x0a]] 5,.row 1 [.agg [.fn (.func 25) [] [.ptr 4 0 0]]] 1,.row 1 [.agg [.str nm,.int .i64 ty,.int .i64 ps,.msl 5 0 nr 1,.msl 6 0 nb 5]] 5,.row 1 [.agg [Vx (code.map Ins.F),.int .i64 e1,.int .i64 e2,.int .i64 e3,.int .i64 e4]] 5,.row 1 [.msl 7 0 n 1] 1,.row 0 R 1,.row 0 B 5,.row 0 (ints of) 1],0,[]⟩)=zs (.ok (.exit 4) fr' ⟨[.row 1 [.agg [.str [],.int .i64 0,.int .i64 0,.x0a,.x0a]] 5,.row 1 [.agg [.fn (.func 25) [] [.ptr 4 0 0]]] 1,.row 1 [.agg [.str nm,.int .i64 ty,.int .i64 ps,.msl 5 0 nr 1,.msl 6 0 nb 5]] 5,.row 1 [.agg [Vx (code.map Ins.F),.int .i64 e1,.int .i64 e2,.int .i64 e3,.int .i64 e4]] 5,.row 1 [.msl 7 0 n 1] 1,.row 0 R 1,.row 0 B 5,.row 0 (ints of) 1],0,[]⟩)/\(FR fr' 2=.ptr 0 0 0/\FR fr' 5=.ptr 1 0 0/\FR fr' 6=.ptr 2 0 0/\FR fr' 10=.ptr 3 0 0/\FR fr' 43=Vx bl/\FR fr' 44=.int .i64 bn/\FR fr' 45=.int .i64 bi)/\FR fr' 11=.x0a:=by
 have D:decide ((lz code:Int)<(lz code:Int))=zf:=by simp
 unfold N4 Fb;simp only[D,XP,seval];exact⟨_,rfl,⟨rfl,rfl,rfl,rfl,rfl,rfl,rfl⟩,rfl⟩
theorem FF(D:True):∃fr',evP ⟨A0,T,A2⟩ (.code N4 [(2,.ptr 0 0 0),(5,.ptr 1 0 0),(6,.ptr 2 0 0),(10,.ptr 3 0 0),(11,.msl 4 0 nc 8),(43,Vx bl),(44,.int .i64 bn),(45,.int .i64 bi),(50,Vx (code.map Ins.F)),(51,.int .i64 (lz code:Int)),(52,.int .i64 (lz code:Int))] ⟨[.row 1 [.agg [.str [],.int .i64 0,.int .i64 0,.x0a,.x0a]] 5,.row 1 [.agg [.fn (.func 25) [] [.ptr 5 0 0]]] 1,.row 1 [.agg [.str nm,.int .i64 ty,.int .i64 ps,.msl 6 0 nr 1,.msl 7 0 nb 5]] 5,.row 1 [.agg [Vx (code.map Ins.F),.int .i64 e1,.int .i64 e2,.int .i64 e3,.int .i64 e4]] 5,.row 0 (C) 8,.row 1 [.msl 8 0 n 1] 1,.row 0 R 1,.row 0 B 5,.row 0 (ints of) 1],0,[]⟩)=zs (.ok (.exit 4) fr' ⟨[.row 1 [.agg [.str [],.int .i64 0,.int .i64 0,.x0a,.x0a]] 5,.row 1 [.agg [.fn (.func 25) [] [.ptr 5 0 0]]] 1,.row 1 [.agg [.str nm,.int .i64 ty,.int .i64 ps,.msl 6 0 nr 1,.msl 7 0 nb 5]] 5,.row 1 [.agg [Vx (code.map Ins.F),.int .i64 e1,.int .i64 e2,.int .i64 e3,.int .i64 e4]] 5,.row 0 (C) 8,.row 1 [.msl 8 0 n 1] 1,.row 0 R 1,.row 0 B 5,.row 0 (ints of) 1],0,[]⟩)/\(FR fr' 2=.ptr 0 0 0/\FR fr' 5=.ptr 1 0 0/\FR fr' 6=.ptr 2 0 0/\FR fr' 10=.ptr 3 0 0/\FR fr' 43=Vx bl/\FR fr' 44=.int .i64 bn/\FR fr' 45=.int .i64 bi)/\FR fr' 11=.msl 4 0 nc 8:=by
 have D:decide ((lz code:Int)<(lz code:Int))=zf:=by simp
 unfold N4 Fb;simp only[D,XP,seval];exact⟨_,rfl,⟨rfl,rfl,rfl,rfl,rfl,rfl,rfl⟩,rfl⟩
theorem BU(G:T 26=zn)(I:T 25=zn)(J:T 46=zs A9)(ho:lz of=n)(N:∀x∈code,lj n x)(Q:lz code*88<=140737488355328):∀(d k:Nat)(C:List AV),lz code=k+d->lz C=k->C=(code.take k).map (fun x=>(nmI of x).O)->∃fr',evP ⟨A0,T,A2⟩ (.code (.loop N4) [(2,.ptr 0 0 0),(5,.ptr 1 0 0),(6,.ptr 2 0 0),(10,.ptr 3 0 0),(11,.msl 4 0 k 8),(43,Vx bl),(44,.int .i64 bn),(45,.int .i64 bi),(50,Vx (code.map Ins.F)),(51,.int .i64 (lz code:Int)),(52,.int .i64 (k:Int))] ⟨[.row 1 [.agg [.str [],.int .i64 0,.int .i64 0,.x0a,.x0a]] 5,.row 1 [.agg [.fn (.func 25) [] [.ptr 5 0 0]]] 1,.row 1 [.agg [.str nm,.int .i64 ty,.int .i64 ps,.msl 6 0 nr 1,.msl 7 0 nb 5]] 5,.row 1 [.agg [Vx (code.map Ins.F),.int .i64 e1,.int .i64 e2,.int .i64 e3,.int .i64 e4]] 5,.row 0 (C) 8,.row 1 [.msl 8 0 n 1] 1,.row 0 R 1,.row 0 B 5,.row 0 (ints of) 1],0,[]⟩)=zs (.ok (.exit 4) fr' ⟨[.row 1 [.agg [.str [],.int .i64 0,.int .i64 0,.x0a,.x0a]] 5,.row 1 [.agg [.fn (.func 25) [] [.ptr 5 0 0]]] 1,.row 1 [.agg [.str nm,.int .i64 ty,.int .i64 ps,.msl 6 0 nr 1,.msl 7 0 nb 5]] 5,.row 1 [.agg [Vx (code.map Ins.F),.int .i64 e1,.int .i64 e2,.int .i64 e3,.int .i64 e4]] 5,.row 0 (code.map fun x=>(nmI of x).O) 8,.row 1 [.msl 8 0 n 1] 1,.row 0 R 1,.row 0 B 5,.row 0 (ints of) 1],0,[]⟩)/\(FR fr' 2=.ptr 0 0 0/\FR fr' 5=.ptr 1 0 0/\FR fr' 6=.ptr 2 0 0/\FR fr' 10=.ptr 3 0 0/\FR fr' 43=Vx bl/\FR fr' 44=.int .i64 bn/\FR fr' 45=.int .i64 bi)/\FR fr' 11=.msl 4 0 (lz code) 8
 |0,k,C,e,hc,hC2=>by
  obtain rfl:k=lz code:=by omega
  have:C=code.map fun x=>(nmI of x).O:=by rw[hC2,zqh]
  subst this;obtain⟨fr',h,U,V⟩:=FF (T:=T) (of:=of) (n:=n) (nr:=nr) (R:=R) (nb:=nb) (B:=B) (nc:=lz code) (C:=code.map fun x=>(nmI of x).O) (bl:=bl) (bn:=bn) (bi:=bi) (e1:=e1) (e2:=e2) (e3:=e3) (e4:=e4) (nm:=nm) (ty:=ty) (ps:=ps) (code:=code) trivial;exact⟨fr',B4 h,U,V⟩
 |d+1,k,C,e,hc,hC2=>by
  have D:k<lz code:=by omega
  have h:=EX (T:=T) (of:=of) (n:=n) (nr:=nr) (R:=R) (nb:=nb) (B:=B) (nc:=k) (k:=k) (C:=C) (bl:=bl) (bn:=bn) (bi:=bi) (e1:=e1) (e2:=e2) (e3:=e3) (e4:=e4) (nm:=nm) (ty:=ty) (ps:=ps) (code:=code) G I J ho D rfl (N _ (zqe D)) Q hc (by omega);obtain⟨fr',h',k'⟩:=BU G I J ho N Q d (k+1) (C++[(nmI of code[k]).O]) (by omega) (by simp;omega) (by rw[hC2];exact U1 (f:=fun x=>(nmI of x).O) D rfl);exact⟨fr',(B0 h).trans h',k'⟩
theorem LF(D:T 26=zn)(G:T 25=zn)(I:T 46=zs A9)(ho:lz of=n)(J:∀x∈code,lj n x)(N:lz code*88<=140737488355328)(h0:0<lz code):∃fr',evP ⟨A0,T,A2⟩ (.code (.loop N4) [(2,.ptr 0 0 0),(5,.ptr 1 0 0),(6,.ptr 2 0 0),(10,.ptr 3 0 0),(11,.x0a),(43,Vx bl),(44,.int .i64 bn),(45,.int .i64 bi),(50,Vx (code.map Ins.F)),(51,.int .i64 (lz code:Int)),(52,.int .i64 ((0:Nat):Int))] ⟨[.row 1 [.agg [.str [],.int .i64 0,.int .i64 0,.x0a,.x0a]] 5,.row 1 [.agg [.fn (.func 25) [] [.ptr 4 0 0]]] 1,.row 1 [.agg [.str nm,.int .i64 ty,.int .i64 ps,.msl 5 0 nr 1,.msl 6 0 nb 5]] 5,.row 1 [.agg [Vx (code.map Ins.F),.int .i64 e1,.int .i64 e2,.int .i64 e3,.int .i64 e4]] 5,.row 1 [.msl 7 0 n 1] 1,.row 0 R 1,.row 0 B 5,.row 0 (ints of) 1],0,[]⟩)=zs (.ok (.exit 4) fr' ⟨[.row 1 [.agg [.str [],.int .i64 0,.int .i64 0,.x0a,.x0a]] 5,.row 1 [.agg [.fn (.func 25) [] [.ptr 5 0 0]]] 1,.row 1 [.agg [.str nm,.int .i64 ty,.int .i64 ps,.msl 6 0 nr 1,.msl 7 0 nb 5]] 5,.row 1 [.agg [Vx (code.map Ins.F),.int .i64 e1,.int .i64 e2,.int .i64 e3,.int .i64 e4]] 5,.row 0 (code.map fun x=>(nmI of x).O) 8,.row 1 [.msl 8 0 n 1] 1,.row 0 R 1,.row 0 B 5,.row 0 (ints of) 1],0,[]⟩)/\(FR fr' 2=.ptr 0 0 0/\FR fr' 5=.ptr 1 0 0/\FR fr' 6=.ptr 2 0 0/\FR fr' 10=.ptr 3 0 0/\FR fr' 43=Vx bl/\FR fr' 44=.int .i64 bn/\FR fr' 45=.int .i64 bi)/\FR fr' 11=.msl 4 0 (lz code) 8:=by
 have h:=EW (T:=T) (of:=of) (n:=n) (nr:=nr) (R:=R) (nb:=nb) (B:=B) (k:=0) (bl:=bl) (bn:=bn) (bi:=bi) (e1:=e1) (e2:=e2) (e3:=e3) (e4:=e4) (nm:=nm) (ty:=ty) (ps:=ps) (code:=code) D G I ho h0 rfl (J _ (zqe h0)) N;obtain⟨fr',h',k'⟩:=BU (T:=T) (of:=of) (n:=n) (nr:=nr) (R:=R) (nb:=nb) (B:=B) (bl:=bl) (bn:=bn) (bi:=bi) (e1:=e1) (e2:=e2) (e3:=e3) (e4:=e4) (nm:=nm) (ty:=ty) (ps:=ps) (code:=code) D G I ho J N (lz code-1) 1 [(nmI of code[0]).O] (by omega) rfl (by rw[<-U1 (f:=fun x=>(nmI of x).O) h0 rfl];rfl);exact⟨fr',(B0 h).trans h',k'⟩
end
def Hf(of:List Int)(b:Blk):Blk:=⟨b.code.map (nmI of),{b.e with a:=if b.e.kind=1 then b.e.a else nmD of b.e.a}⟩
def R2(b:Blk):AV:=.agg [match b.code with|[]=>.x0a|_::_=>di 0 8 (b.code.map Ins.O),.int .i64 b.e.kind,.int .i64 b.e.a,.int .i64 b.e.to,.int .i64 b.e.x0h]
theorem Rw{of:List Int}{code:List Ins}{kind a to x0h:Int}(h:code≠[]):R2 (Hf of ⟨code,⟨kind,a,to,x0h⟩⟩)=.agg [di 0 8 (code.map fun x=>(nmI of x).O),.int .i64 kind,.int .i64 (if kind=1 then a else nmD of a),.int .i64 to,.int .i64 x0h]:=by
 cases code with
 |nil=>exact absurd rfl h
 |cons x l=>
  show AV.agg [di 0 8 (((x::l).map (nmI of)).map Ins.O),_,_,_,_]=_
  rw[zqy];rfl
theorem Mv{of:List Int}{kind a to x0h:Int}:R2 (Hf of ⟨[],⟨kind,a,to,x0h⟩⟩)=.agg [.x0a,.int .i64 kind,.int .i64 (if kind=1 then a else nmD of a),.int .i64 to,.int .i64 x0h]:=rfl
structure sw(n:Nat)(b:Blk):Prop where
 ins:∀x∈b.code,lj n x
 len:lz b.code*88<=140737488355328
 a:b.e.kind≠1->b.e.a<n
section
variable {of:List Int}{n nr nb i:Nat}{R B bl:List AV}{nm:List UInt8}{ty ps:Int}{b:Blk}
theorem LG(hI:T 26=zn)(hN:T 25=zn)(hC:T 46=zs A9)(ho:lz of=n)(hi:i<lz bl)(hg:bl[i]?=zs b.F)(hb:sw n b)(hs:lz bl<=1000000):evP ⟨A0,T,A2⟩ (.code Z8 [(2,.ptr 0 0 0),(5,.ptr 1 0 0),(6,.ptr 2 0 0),(43,Vx bl),(44,.int .i64 (lz bl:Int)),(45,.int .i64 (i:Int))] ⟨[.row 1 [.agg [.str [],.int .i64 0,.int .i64 0,.x0a,.x0a]] 5,.row 1 [.agg [.fn (.func 25) [] [.ptr 3 0 0]]] 1,.row 1 [.agg [.str nm,.int .i64 ty,.int .i64 ps,.x0a,.x0a]] 5,.row 1 [.msl 4 0 n 1] 1,.row 0 (ints of) 1],0,[]⟩)=zs (.ok .normal [(2,.ptr 0 0 0),(5,.ptr 1 0 0),(6,.ptr 2 0 0),(43,Vx bl),(44,.int .i64 (lz bl:Int)),(45,.int .i64 ((i+1:Nat):Int))] ⟨[.row 1 [.agg [.str [],.int .i64 0,.int .i64 0,.x0a,.x0a]] 5,.row 1 [.agg [.fn (.func 25) [] [.ptr 3 0 0]]] 1,.row 1 [.agg [.str nm,.int .i64 ty,.int .i64 ps,.x0a,.msl 4 0 1 5]] 5,.row 1 [.msl 5 0 n 1] 1,.row 0 ([R2 (Hf of b)]) 5,.row 0 (ints of) 1],0,[]⟩):=by
 have G:decide ((i:Int)<(lz bl:Int))=zt:=by simp[hi]
 have hw:=A8 (i:=i) (by omega);obtain⟨J,N,ha⟩:=hb;obtain⟨code,kind,a,to,x0h⟩:=b;simp only at J N ha;simp only[Blk.F]at hg;by_cases hz:code=[]
 . subst hz
   obtain⟨fr',h,⟨U,V,X,Y,k5,k6,k7⟩,k8⟩:=EY (T:=T) (of:=of) (n:=n) (bl:=bl) (bn:=lz bl) (bi:=i) (e1:=kind) (e2:=a) (e3:=to) (e4:=x0h) (nm:=nm) (ty:=ty) (ps:=ps) (code:=[]) trivial;have h:=B4 h;simp only[zqf,zqs,show((0:Nat):Int)=0 from rfl]at h hg;rw[Mv];by_cases D:kind=1
   . have d1:decide (kind=1)=zt:=decide_eq_true D
     rw[if_pos D];unfold Z8 Z7 o7 Fg Ff Fe Fd Fc;simp only[d1,G,hi,hg,hw,h,U,V,X,Y,k5,k6,k7,k8,show((0:Nat):Int)=0 from rfl,C8,C9,D1,D2,D3,D4,XP,seval]
     done
   . have d1:decide (kind=1)=zf:=decide_eq_false D
     rw[if_neg D];have t:∀tch,evP ⟨A0,T,A2⟩ (.call 25 [.int .i64 a,.ptr 4 0 0] ⟨[.row 1 [.agg [.str [],.int .i64 0,.int .i64 0,.x0a,.x0a]] 5,.row 1 [.agg [.fn (.func 25) [] [.ptr 4 0 0]]] 1,.row 1 [.agg [.str nm,.int .i64 ty,.int .i64 ps,.x0a,.x0a]] 5,.row 1 [.agg [Vx [],.int .i64 kind,.int .i64 a,.int .i64 to,.int .i64 x0h]] 5,.row 1 [.msl 5 0 n 1] 1,.row 0 (ints of) 1],0,tch⟩)=zs (.val [.int .i64 (nmD of a)] ⟨[.row 1 [.agg [.str [],.int .i64 0,.int .i64 0,.x0a,.x0a]] 5,.row 1 [.agg [.fn (.func 25) [] [.ptr 4 0 0]]] 1,.row 1 [.agg [.str nm,.int .i64 ty,.int .i64 ps,.x0a,.x0a]] 5,.row 1 [.agg [Vx [],.int .i64 kind,.int .i64 a,.int .i64 to,.int .i64 x0h]] 5,.row 1 [.msl 5 0 n 1] 1,.row 0 (ints of) 1],0,tch⟩):=fun tch=>q0 (b:=4) (q:=5) hN ho (ha D) rfl rfl
     generalize nmD of a=a' at *;unfold Z8 Z7 o7 Fg Ff Fe Fd Fc;simp only[d1,t,G,hi,hg,hw,h,U,V,X,Y,k5,k6,k7,k8,show((0:Nat):Int)=0 from rfl,C8,C9,D1,D2,D3,D4,XP,seval]
     done
 . have h0:0<lz code:=by cases code with|nil=>exact absurd rfl hz|cons=>simp
   obtain⟨fr',h,⟨U,V,X,Y,k5,k6,k7⟩,k8⟩:=LB (T:=T) (of:=of) (n:=n) (bl:=bl) (bn:=lz bl) (bi:=i) (e1:=kind) (e2:=a) (e3:=to) (e4:=x0h) (nm:=nm) (ty:=ty) (ps:=ps) (code:=code) hI hN hC ho J N h0;simp only[show((0:Nat):Int)=0 from rfl]at h;rw[Rw hz];have Q:lz (code.map fun x=>(nmI of x).O)=lz code:=by simp
   have I:lz (code.map Ins.F)=lz code:=by simp
   generalize code.map (fun x=>(nmI of x).O)=CO at *;by_cases D:kind=1
   . have d1:decide (kind=1)=zt:=decide_eq_true D
     rw[if_pos D];unfold Z8 Z7 o7 Fg Ff Fe Fd Fc;simp only[d1,G,hi,hg,hw,h,U,V,X,Y,k5,k6,k7,k8,show((0:Nat):Int)=0 from rfl,Q,I,C8,C9,D1,D2,D3,D4,XP,seval]
     done
   . have d1:decide (kind=1)=zf:=decide_eq_false D
     rw[if_neg D];have t:∀tch,evP ⟨A0,T,A2⟩ (.call 25 [.int .i64 a,.ptr 5 0 0] ⟨[.row 1 [.agg [.str [],.int .i64 0,.int .i64 0,.x0a,.x0a]] 5,.row 1 [.agg [.fn (.func 25) [] [.ptr 5 0 0]]] 1,.row 1 [.agg [.str nm,.int .i64 ty,.int .i64 ps,.x0a,.x0a]] 5,.row 1 [.agg [Vx (code.map Ins.F),.int .i64 kind,.int .i64 a,.int .i64 to,.int .i64 x0h]] 5,.row 0 (CO) 8,.row 1 [.msl 6 0 n 1] 1,.row 0 (ints of) 1],0,tch⟩)=zs (.val [.int .i64 (nmD of a)] ⟨[.row 1 [.agg [.str [],.int .i64 0,.int .i64 0,.x0a,.x0a]] 5,.row 1 [.agg [.fn (.func 25) [] [.ptr 5 0 0]]] 1,.row 1 [.agg [.str nm,.int .i64 ty,.int .i64 ps,.x0a,.x0a]] 5,.row 1 [.agg [Vx (code.map Ins.F),.int .i64 kind,.int .i64 a,.int .i64 to,.int .i64 x0h]] 5,.row 0 (CO) 8,.row 1 [.msl 6 0 n 1] 1,.row 0 (ints of) 1],0,tch⟩):=fun tch=>q0 (b:=5) (q:=6) hN ho (ha D) rfl rfl
     generalize nmD of a=a' at *;unfold Z8 Z7 o7 Fg Ff Fe Fd Fc;simp only[d1,t,G,hi,hg,hw,h,U,V,X,Y,k5,k6,k7,k8,show((0:Nat):Int)=0 from rfl,Q,I,C8,C9,D1,D2,D3,D4,XP,seval]
     done
theorem LH(hI:T 26=zn)(hN:T 25=zn)(hC:T 46=zs A9)(ho:lz of=n)(hi:i<lz bl)(hg:bl[i]?=zs b.F)(hb:sw n b)(hs:lz bl<=1000000)(hc:lz B=nb)(hnb:nb<=1000000):evP ⟨A0,T,A2⟩ (.code Z8 [(2,.ptr 0 0 0),(5,.ptr 1 0 0),(6,.ptr 2 0 0),(43,Vx bl),(44,.int .i64 (lz bl:Int)),(45,.int .i64 (i:Int))] ⟨[.row 1 [.agg [.str [],.int .i64 0,.int .i64 0,.x0a,.x0a]] 5,.row 1 [.agg [.fn (.func 25) [] [.ptr 3 0 0]]] 1,.row 1 [.agg [.str nm,.int .i64 ty,.int .i64 ps,.x0a,.msl 4 0 nb 5]] 5,.row 1 [.msl 5 0 n 1] 1,.row 0 (B) 5,.row 0 (ints of) 1],0,[]⟩)=zs (.ok .normal [(2,.ptr 0 0 0),(5,.ptr 1 0 0),(6,.ptr 2 0 0),(43,Vx bl),(44,.int .i64 (lz bl:Int)),(45,.int .i64 ((i+1:Nat):Int))] ⟨[.row 1 [.agg [.str [],.int .i64 0,.int .i64 0,.x0a,.x0a]] 5,.row 1 [.agg [.fn (.func 25) [] [.ptr 3 0 0]]] 1,.row 1 [.agg [.str nm,.int .i64 ty,.int .i64 ps,.x0a,.msl 4 0 (nb+1) 5]] 5,.row 1 [.msl 5 0 n 1] 1,.row 0 (B++[R2 (Hf of b)]) 5,.row 0 (ints of) 1],0,[]⟩):=by
 have I:decide ((i:Int)<(lz bl:Int))=zt:=by simp[hi]
 have hw:=A8 (i:=i) (by omega);obtain⟨Q,U,ha⟩:=hb;obtain⟨code,kind,a,to,x0h⟩:=b;simp only at Q U ha;simp only[Blk.F]at hg;have J:(nb+1)*56<=140737488355328:=by omega
 have D:(nb+1)*64<=140737488355328:=by omega
 by_cases hz:code=[]
 . subst hz
   obtain⟨fr',h,⟨X,Y,k3,k4,k5,k6,k7⟩,k8⟩:=FA (T:=T) (of:=of) (n:=n) (nb:=nb) (B:=B) (bl:=bl) (bn:=lz bl) (bi:=i) (e1:=kind) (e2:=a) (e3:=to) (e4:=x0h) (nm:=nm) (ty:=ty) (ps:=ps) (code:=[]) trivial;have h:=B4 h;simp only[zqf,zqs,show((0:Nat):Int)=0 from rfl]at h hg;rw[Mv];by_cases G:kind=1
   . have d1:decide (kind=1)=zt:=decide_eq_true G
     rw[if_pos G];unfold Z8 Z7 o7 Fg Ff Fe Fd Fc;simp only[d1,I,hi,hg,hw,h,X,Y,k3,k4,k5,k6,k7,k8,show((0:Nat):Int)=0 from rfl,J,D,hc,C8,C9,D1,D2,D3,D4,XP,seval]
     done
   . have d1:decide (kind=1)=zf:=decide_eq_false G
     rw[if_neg G];have t:∀tch,evP ⟨A0,T,A2⟩ (.call 25 [.int .i64 a,.ptr 4 0 0] ⟨[.row 1 [.agg [.str [],.int .i64 0,.int .i64 0,.x0a,.x0a]] 5,.row 1 [.agg [.fn (.func 25) [] [.ptr 4 0 0]]] 1,.row 1 [.agg [.str nm,.int .i64 ty,.int .i64 ps,.x0a,.msl 5 0 nb 5]] 5,.row 1 [.agg [Vx [],.int .i64 kind,.int .i64 a,.int .i64 to,.int .i64 x0h]] 5,.row 1 [.msl 6 0 n 1] 1,.row 0 B 5,.row 0 (ints of) 1],0,tch⟩)=zs (.val [.int .i64 (nmD of a)] ⟨[.row 1 [.agg [.str [],.int .i64 0,.int .i64 0,.x0a,.x0a]] 5,.row 1 [.agg [.fn (.func 25) [] [.ptr 4 0 0]]] 1,.row 1 [.agg [.str nm,.int .i64 ty,.int .i64 ps,.x0a,.msl 5 0 nb 5]] 5,.row 1 [.agg [Vx [],.int .i64 kind,.int .i64 a,.int .i64 to,.int .i64 x0h]] 5,.row 1 [.msl 6 0 n 1] 1,.row 0 B 5,.row 0 (ints of) 1],0,tch⟩):=fun tch=>q0 (b:=4) (q:=6) hN ho (ha G) rfl rfl
     generalize nmD of a=a' at *;unfold Z8 Z7 o7 Fg Ff Fe Fd Fc;simp only[d1,t,I,hi,hg,hw,h,X,Y,k3,k4,k5,k6,k7,k8,show((0:Nat):Int)=0 from rfl,J,D,hc,C8,C9,D1,D2,D3,D4,XP,seval]
     done
 . have h0:0<lz code:=by cases code with|nil=>exact absurd rfl hz|cons=>simp
   obtain⟨fr',h,⟨X,Y,k3,k4,k5,k6,k7⟩,k8⟩:=LC (T:=T) (of:=of) (n:=n) (nb:=nb) (B:=B) (bl:=bl) (bn:=lz bl) (bi:=i) (e1:=kind) (e2:=a) (e3:=to) (e4:=x0h) (nm:=nm) (ty:=ty) (ps:=ps) (code:=code) hI hN hC ho Q U h0;simp only[show((0:Nat):Int)=0 from rfl]at h;rw[Rw hz];have V:lz (code.map fun x=>(nmI of x).O)=lz code:=by simp
   have N:lz (code.map Ins.F)=lz code:=by simp
   generalize code.map (fun x=>(nmI of x).O)=CO at *;by_cases G:kind=1
   . have d1:decide (kind=1)=zt:=decide_eq_true G
     rw[if_pos G];unfold Z8 Z7 o7 Fg Ff Fe Fd Fc;simp only[d1,I,hi,hg,hw,h,X,Y,k3,k4,k5,k6,k7,k8,show((0:Nat):Int)=0 from rfl,J,D,hc,V,N,C8,C9,D1,D2,D3,D4,XP,seval]
     done
   . have d1:decide (kind=1)=zf:=decide_eq_false G
     rw[if_neg G];have t:∀tch,evP ⟨A0,T,A2⟩ (.call 25 [.int .i64 a,.ptr 5 0 0] ⟨[.row 1 [.agg [.str [],.int .i64 0,.int .i64 0,.x0a,.x0a]] 5,.row 1 [.agg [.fn (.func 25) [] [.ptr 5 0 0]]] 1,.row 1 [.agg [.str nm,.int .i64 ty,.int .i64 ps,.x0a,.msl 6 0 nb 5]] 5,.row 1 [.agg [Vx (code.map Ins.F),.int .i64 kind,.int .i64 a,.int .i64 to,.int .i64 x0h]] 5,.row 0 (CO) 8,.row 1 [.msl 7 0 n 1] 1,.row 0 B 5,.row 0 (ints of) 1],0,tch⟩)=zs (.val [.int .i64 (nmD of a)] ⟨[.row 1 [.agg [.str [],.int .i64 0,.int .i64 0,.x0a,.x0a]] 5,.row 1 [.agg [.fn (.func 25) [] [.ptr 5 0 0]]] 1,.row 1 [.agg [.str nm,.int .i64 ty,.int .i64 ps,.x0a,.msl 6 0 nb 5]] 5,.row 1 [.agg [Vx (code.map Ins.F),.int .i64 kind,.int .i64 a,.int .i64 to,.int .i64 x0h]] 5,.row 0 (CO) 8,.row 1 [.msl 7 0 n 1] 1,.row 0 B 5,.row 0 (ints of) 1],0,tch⟩):=fun tch=>q0 (b:=5) (q:=7) hN ho (ha G) rfl rfl
     generalize nmD of a=a' at *;unfold Z8 Z7 o7 Fg Ff Fe Fd Fc;simp only[d1,t,I,hi,hg,hw,h,X,Y,k3,k4,k5,k6,k7,k8,show((0:Nat):Int)=0 from rfl,J,D,hc,V,N,C8,C9,D1,D2,D3,D4,XP,seval]
     done
theorem LI(hI:T 26=zn)(hN:T 25=zn)(hC:T 46=zs A9)(ho:lz of=n)(hi:i<lz bl)(hg:bl[i]?=zs b.F)(hb:sw n b)(hs:lz bl<=1000000):evP ⟨A0,T,A2⟩ (.code Z8 [(2,.ptr 0 0 0),(5,.ptr 1 0 0),(6,.ptr 2 0 0),(43,Vx bl),(44,.int .i64 (lz bl:Int)),(45,.int .i64 (i:Int))] ⟨[.row 1 [.agg [.str [],.int .i64 0,.int .i64 0,.x0a,.x0a]] 5,.row 1 [.agg [.fn (.func 25) [] [.ptr 3 0 0]]] 1,.row 1 [.agg [.str nm,.int .i64 ty,.int .i64 ps,.msl 4 0 nr 1,.x0a]] 5,.row 1 [.msl 5 0 n 1] 1,.row 0 R 1,.row 0 (ints of) 1],0,[]⟩)=zs (.ok .normal [(2,.ptr 0 0 0),(5,.ptr 1 0 0),(6,.ptr 2 0 0),(43,Vx bl),(44,.int .i64 (lz bl:Int)),(45,.int .i64 ((i+1:Nat):Int))] ⟨[.row 1 [.agg [.str [],.int .i64 0,.int .i64 0,.x0a,.x0a]] 5,.row 1 [.agg [.fn (.func 25) [] [.ptr 3 0 0]]] 1,.row 1 [.agg [.str nm,.int .i64 ty,.int .i64 ps,.msl 4 0 nr 1,.msl 5 0 1 5]] 5,.row 1 [.msl 6 0 n 1] 1,.row 0 R 1,.row 0 ([R2 (Hf of b)]) 5,.row 0 (ints of) 1],0,[]⟩):=by
 have G:decide ((i:Int)<(lz bl:Int))=zt:=by simp[hi]
 have hw:=A8 (i:=i) (by omega);obtain⟨J,N,ha⟩:=hb;obtain⟨code,kind,a,to,x0h⟩:=b;simp only at J N ha;simp only[Blk.F]at hg;by_cases hz:code=[]
 . subst hz
   obtain⟨fr',h,⟨U,V,X,Y,k5,k6,k7⟩,k8⟩:=FC (T:=T) (of:=of) (n:=n) (nr:=nr) (R:=R) (bl:=bl) (bn:=lz bl) (bi:=i) (e1:=kind) (e2:=a) (e3:=to) (e4:=x0h) (nm:=nm) (ty:=ty) (ps:=ps) (code:=[]) trivial;have h:=B4 h;simp only[zqf,zqs,show((0:Nat):Int)=0 from rfl]at h hg;rw[Mv];by_cases D:kind=1
   . have d1:decide (kind=1)=zt:=decide_eq_true D
     rw[if_pos D];unfold Z8 Z7 o7 Fg Ff Fe Fd Fc;simp only[d1,G,hi,hg,hw,h,U,V,X,Y,k5,k6,k7,k8,show((0:Nat):Int)=0 from rfl,C8,C9,D1,D2,D3,D4,XP,seval]
     done
   . have d1:decide (kind=1)=zf:=decide_eq_false D
     rw[if_neg D];have t:∀tch,evP ⟨A0,T,A2⟩ (.call 25 [.int .i64 a,.ptr 4 0 0] ⟨[.row 1 [.agg [.str [],.int .i64 0,.int .i64 0,.x0a,.x0a]] 5,.row 1 [.agg [.fn (.func 25) [] [.ptr 4 0 0]]] 1,.row 1 [.agg [.str nm,.int .i64 ty,.int .i64 ps,.msl 5 0 nr 1,.x0a]] 5,.row 1 [.agg [Vx [],.int .i64 kind,.int .i64 a,.int .i64 to,.int .i64 x0h]] 5,.row 1 [.msl 6 0 n 1] 1,.row 0 R 1,.row 0 (ints of) 1],0,tch⟩)=zs (.val [.int .i64 (nmD of a)] ⟨[.row 1 [.agg [.str [],.int .i64 0,.int .i64 0,.x0a,.x0a]] 5,.row 1 [.agg [.fn (.func 25) [] [.ptr 4 0 0]]] 1,.row 1 [.agg [.str nm,.int .i64 ty,.int .i64 ps,.msl 5 0 nr 1,.x0a]] 5,.row 1 [.agg [Vx [],.int .i64 kind,.int .i64 a,.int .i64 to,.int .i64 x0h]] 5,.row 1 [.msl 6 0 n 1] 1,.row 0 R 1,.row 0 (ints of) 1],0,tch⟩):=fun tch=>q0 (b:=4) (q:=6) hN ho (ha D) rfl rfl
     generalize nmD of a=a' at *;unfold Z8 Z7 o7 Fg Ff Fe Fd Fc;simp only[d1,t,G,hi,hg,hw,h,U,V,X,Y,k5,k6,k7,k8,show((0:Nat):Int)=0 from rfl,C8,C9,D1,D2,D3,D4,XP,seval]
     done
 . have h0:0<lz code:=by cases code with|nil=>exact absurd rfl hz|cons=>simp
   obtain⟨fr',h,⟨U,V,X,Y,k5,k6,k7⟩,k8⟩:=LD (T:=T) (of:=of) (n:=n) (nr:=nr) (R:=R) (bl:=bl) (bn:=lz bl) (bi:=i) (e1:=kind) (e2:=a) (e3:=to) (e4:=x0h) (nm:=nm) (ty:=ty) (ps:=ps) (code:=code) hI hN hC ho J N h0;simp only[show((0:Nat):Int)=0 from rfl]at h;rw[Rw hz];have Q:lz (code.map fun x=>(nmI of x).O)=lz code:=by simp
   have I:lz (code.map Ins.F)=lz code:=by simp
   generalize code.map (fun x=>(nmI of x).O)=CO at *;by_cases D:kind=1
   . have d1:decide (kind=1)=zt:=decide_eq_true D
     rw[if_pos D];unfold Z8 Z7 o7 Fg Ff Fe Fd Fc;simp only[d1,G,hi,hg,hw,h,U,V,X,Y,k5,k6,k7,k8,show((0:Nat):Int)=0 from rfl,Q,I,C8,C9,D1,D2,D3,D4,XP,seval]
     done
   . have d1:decide (kind=1)=zf:=decide_eq_false D
     rw[if_neg D];have t:∀tch,evP ⟨A0,T,A2⟩ (.call 25 [.int .i64 a,.ptr 5 0 0] ⟨[.row 1 [.agg [.str [],.int .i64 0,.int .i64 0,.x0a,.x0a]] 5,.row 1 [.agg [.fn (.func 25) [] [.ptr 5 0 0]]] 1,.row 1 [.agg [.str nm,.int .i64 ty,.int .i64 ps,.msl 6 0 nr 1,.x0a]] 5,.row 1 [.agg [Vx (code.map Ins.F),.int .i64 kind,.int .i64 a,.int .i64 to,.int .i64 x0h]] 5,.row 0 (CO) 8,.row 1 [.msl 7 0 n 1] 1,.row 0 R 1,.row 0 (ints of) 1],0,tch⟩)=zs (.val [.int .i64 (nmD of a)] ⟨[.row 1 [.agg [.str [],.int .i64 0,.int .i64 0,.x0a,.x0a]] 5,.row 1 [.agg [.fn (.func 25) [] [.ptr 5 0 0]]] 1,.row 1 [.agg [.str nm,.int .i64 ty,.int .i64 ps,.msl 6 0 nr 1,.x0a]] 5,.row 1 [.agg [Vx (code.map Ins.F),.int .i64 kind,.int .i64 a,.int .i64 to,.int .i64 x0h]] 5,.row 0 (CO) 8,.row 1 [.msl 7 0 n 1] 1,.row 0 R 1,.row 0 (ints of) 1],0,tch⟩):=fun tch=>q0 (b:=5) (q:=7) hN ho (ha D) rfl rfl
     generalize nmD of a=a' at *;unfold Z8 Z7 o7 Fg Ff Fe Fd Fc;simp only[d1,t,G,hi,hg,hw,h,U,V,X,Y,k5,k6,k7,k8,show((0:Nat):Int)=0 from rfl,Q,I,C8,C9,D1,D2,D3,D4,XP,seval]
     done
theorem LJ(hI:T 26=zn)(hN:T 25=zn)(hC:T 46=zs A9)(ho:lz of=n)(hi:i<lz bl)(hg:bl[i]?=zs b.F)(hb:sw n b)(hs:lz bl<=1000000)(hc:lz B=nb)(hnb:nb<=1000000):evP ⟨A0,T,A2⟩ (.code Z8 [(2,.ptr 0 0 0),(5,.ptr 1 0 0),(6,.ptr 2 0 0),(43,Vx bl),(44,.int .i64 (lz bl:Int)),(45,.int .i64 (i:Int))] ⟨[.row 1 [.agg [.str [],.int .i64 0,.int .i64 0,.x0a,.x0a]] 5,.row 1 [.agg [.fn (.func 25) [] [.ptr 3 0 0]]] 1,.row 1 [.agg [.str nm,.int .i64 ty,.int .i64 ps,.msl 4 0 nr 1,.msl 5 0 nb 5]] 5,.row 1 [.msl 6 0 n 1] 1,.row 0 R 1,.row 0 (B) 5,.row 0 (ints of) 1],0,[]⟩)=zs (.ok .normal [(2,.ptr 0 0 0),(5,.ptr 1 0 0),(6,.ptr 2 0 0),(43,Vx bl),(44,.int .i64 (lz bl:Int)),(45,.int .i64 ((i+1:Nat):Int))] ⟨[.row 1 [.agg [.str [],.int .i64 0,.int .i64 0,.x0a,.x0a]] 5,.row 1 [.agg [.fn (.func 25) [] [.ptr 3 0 0]]] 1,.row 1 [.agg [.str nm,.int .i64 ty,.int .i64 ps,.msl 4 0 nr 1,.msl 5 0 (nb+1) 5]] 5,.row 1 [.msl 6 0 n 1] 1,.row 0 R 1,.row 0 (B++[R2 (Hf of b)]) 5,.row 0 (ints of) 1],0,[]⟩):=by
 have I:decide ((i:Int)<(lz bl:Int))=zt:=by simp[hi]
 have hw:=A8 (i:=i) (by omega);obtain⟨Q,U,ha⟩:=hb;obtain⟨code,kind,a,to,x0h⟩:=b;simp only at Q U ha;simp only[Blk.F]at hg;have J:(nb+1)*56<=140737488355328:=by omega
 have D:(nb+1)*64<=140737488355328:=by omega
 by_cases hz:code=[]
 . subst hz
   obtain⟨fr',h,⟨X,Y,k3,k4,k5,k6,k7⟩,k8⟩:=FE (T:=T) (of:=of) (n:=n) (nr:=nr) (R:=R) (nb:=nb) (B:=B) (bl:=bl) (bn:=lz bl) (bi:=i) (e1:=kind) (e2:=a) (e3:=to) (e4:=x0h) (nm:=nm) (ty:=ty) (ps:=ps) (code:=[]) trivial;have h:=B4 h;simp only[zqf,zqs,show((0:Nat):Int)=0 from rfl]at h hg;rw[Mv];by_cases G:kind=1
   . have d1:decide (kind=1)=zt:=decide_eq_true G
     rw[if_pos G];unfold Z8 Z7 o7 Fg Ff Fe Fd Fc;simp only[d1,I,hi,hg,hw,h,X,Y,k3,k4,k5,k6,k7,k8,show((0:Nat):Int)=0 from rfl,J,D,hc,C8,C9,D1,D2,D3,D4,XP,seval]
     done
   . have d1:decide (kind=1)=zf:=decide_eq_false G
     rw[if_neg G];have t:∀tch,evP ⟨A0,T,A2⟩ (.call 25 [.int .i64 a,.ptr 4 0 0] ⟨[.row 1 [.agg [.str [],.int .i64 0,.int .i64 0,.x0a,.x0a]] 5,.row 1 [.agg [.fn (.func 25) [] [.ptr 4 0 0]]] 1,.row 1 [.agg [.str nm,.int .i64 ty,.int .i64 ps,.msl 5 0 nr 1,.msl 6 0 nb 5]] 5,.row 1 [.agg [Vx [],.int .i64 kind,.int .i64 a,.int .i64 to,.int .i64 x0h]] 5,.row 1 [.msl 7 0 n 1] 1,.row 0 R 1,.row 0 B 5,.row 0 (ints of) 1],0,tch⟩)=zs (.val [.int .i64 (nmD of a)] ⟨[.row 1 [.agg [.str [],.int .i64 0,.int .i64 0,.x0a,.x0a]] 5,.row 1 [.agg [.fn (.func 25) [] [.ptr 4 0 0]]] 1,.row 1 [.agg [.str nm,.int .i64 ty,.int .i64 ps,.msl 5 0 nr 1,.msl 6 0 nb 5]] 5,.row 1 [.agg [Vx [],.int .i64 kind,.int .i64 a,.int .i64 to,.int .i64 x0h]] 5,.row 1 [.msl 7 0 n 1] 1,.row 0 R 1,.row 0 B 5,.row 0 (ints of) 1],0,tch⟩):=fun tch=>q0 (b:=4) (q:=7) hN ho (ha G) rfl rfl
     generalize nmD of a=a' at *;unfold Z8 Z7 o7 Fg Ff Fe Fd Fc;simp only[d1,t,I,hi,hg,hw,h,X,Y,k3,k4,k5,k6,k7,k8,show((0:Nat):Int)=0 from rfl,J,D,hc,C8,C9,D1,D2,D3,D4,XP,seval]
     done
 . have h0:0<lz code:=by cases code with|nil=>exact absurd rfl hz|cons=>simp
   obtain⟨fr',h,⟨X,Y,k3,k4,k5,k6,k7⟩,k8⟩:=LF (T:=T) (of:=of) (n:=n) (nr:=nr) (R:=R) (nb:=nb) (B:=B) (bl:=bl) (bn:=lz bl) (bi:=i) (e1:=kind) (e2:=a) (e3:=to) (e4:=x0h) (nm:=nm) (ty:=ty) (ps:=ps) (code:=code) hI hN hC ho Q U h0;simp only[show((0:Nat):Int)=0 from rfl]at h;rw[Rw hz];have V:lz (code.map fun x=>(nmI of x).O)=lz code:=by simp
   have N:lz (code.map Ins.F)=lz code:=by simp
   generalize code.map (fun x=>(nmI of x).O)=CO at *;by_cases G:kind=1
   . have d1:decide (kind=1)=zt:=decide_eq_true G
     rw[if_pos G];unfold Z8 Z7 o7 Fg Ff Fe Fd Fc;simp only[d1,I,hi,hg,hw,h,X,Y,k3,k4,k5,k6,k7,k8,show((0:Nat):Int)=0 from rfl,J,D,hc,V,N,C8,C9,D1,D2,D3,D4,XP,seval]
     done
   . have d1:decide (kind=1)=zf:=decide_eq_false G
     rw[if_neg G];have t:∀tch,evP ⟨A0,T,A2⟩ (.call 25 [.int .i64 a,.ptr 5 0 0] ⟨[.row 1 [.agg [.str [],.int .i64 0,.int .i64 0,.x0a,.x0a]] 5,.row 1 [.agg [.fn (.func 25) [] [.ptr 5 0 0]]] 1,.row 1 [.agg [.str nm,.int .i64 ty,.int .i64 ps,.msl 6 0 nr 1,.msl 7 0 nb 5]] 5,.row 1 [.agg [Vx (code.map Ins.F),.int .i64 kind,.int .i64 a,.int .i64 to,.int .i64 x0h]] 5,.row 0 (CO) 8,.row 1 [.msl 8 0 n 1] 1,.row 0 R 1,.row 0 B 5,.row 0 (ints of) 1],0,tch⟩)=zs (.val [.int .i64 (nmD of a)] ⟨[.row 1 [.agg [.str [],.int .i64 0,.int .i64 0,.x0a,.x0a]] 5,.row 1 [.agg [.fn (.func 25) [] [.ptr 5 0 0]]] 1,.row 1 [.agg [.str nm,.int .i64 ty,.int .i64 ps,.msl 6 0 nr 1,.msl 7 0 nb 5]] 5,.row 1 [.agg [Vx (code.map Ins.F),.int .i64 kind,.int .i64 a,.int .i64 to,.int .i64 x0h]] 5,.row 0 (CO) 8,.row 1 [.msl 8 0 n 1] 1,.row 0 R 1,.row 0 B 5,.row 0 (ints of) 1],0,tch⟩):=fun tch=>q0 (b:=5) (q:=8) hN ho (ha G) rfl rfl
     generalize nmD of a=a' at *;unfold Z8 Z7 o7 Fg Ff Fe Fd Fc;simp only[d1,t,I,hi,hg,hw,h,X,Y,k3,k4,k5,k6,k7,k8,show((0:Nat):Int)=0 from rfl,J,D,hc,V,N,C8,C9,D1,D2,D3,D4,XP,seval]
     done
end
section
variable {of:List Int}{n nr nb i k:Nat}{R B bl:List AV}{nm:List UInt8}{ty ps:Int}{bs:List Blk}{all:List Cls}{rg' bk':List AV}{x:Cls}
theorem f0l(D:k<lz all)(J:all[k]=x)(hs:lz all<=1000000):evP ⟨A0,T,A2⟩ (.code Ts [(1,.ptr 0 0 0),(2,.ptr 1 0 0),(5,.ptr 2 0 0),(6,.ptr 3 0 0),(28,.msl 4 0 (lz all) 2),(29,.int .i64 (lz all:Int)),(30,.int .i64 (k:Int))] ⟨[.row 1 [.agg [.str nm,.int .i64 ty,.int .i64 ps,Vx rg',Vx bk']] 5,.row 1 [.agg [.str [],.int .i64 0,.int .i64 0,.x0a,.x0a]] 5,.row 1 [.agg [.fn (.func 25) [] [.ptr 5 0 0]]] 1,.row 1 [.agg [.str nm,.int .i64 ty,.int .i64 ps,.x0a,.x0a]] 5,.row 0 (all.map Cls.O) 2,.row 1 [.msl 6 0 n 1] 1,.row 0 (ints of) 1],0,[]⟩)=zs (.ok .normal [(1,.ptr 0 0 0),(2,.ptr 1 0 0),(5,.ptr 2 0 0),(6,.ptr 3 0 0),(28,.msl 4 0 (lz all) 2),(29,.int .i64 (lz all:Int)),(30,.int .i64 ((k+1:Nat):Int))] ⟨[.row 1 [.agg [.str nm,.int .i64 ty,.int .i64 ps,Vx rg',Vx bk']] 5,.row 1 [.agg [.str [],.int .i64 0,.int .i64 0,.x0a,.x0a]] 5,.row 1 [.agg [.fn (.func 25) [] [.ptr 5 0 0]]] 1,.row 1 [.agg [.str nm,.int .i64 ty,.int .i64 ps,.msl 6 0 1 1,.x0a]] 5,.row 0 (all.map Cls.O) 2,.row 1 [.msl 7 0 n 1] 1,.row 0 ([.int .i64 x.kind]) 1,.row 0 (ints of) 1],0,[]⟩):=by
 have G:decide ((k:Int)<(lz all:Int))=zt:=by simp[D]
 have N:=A8 (i:=k) (by omega);have hg:=B9 (F:=Cls.O) D;rw[J]at hg;simp only[Cls.O]at hg;have I:lz (ints x.mem)=lz x.mem:=by simp[ints]
 unfold Ts rZ DT;simp only[G,D,hg,N,I,zqa,zqb,zqc,C8,C9,D1,D2,D3,D4,XP,seval]
 done
theorem f0m(D:k<lz all)(J:all[k]=x)(hs:lz all<=1000000)(hc:lz R=k)(hk0:k<=1000000):evP ⟨A0,T,A2⟩ (.code Ts [(1,.ptr 0 0 0),(2,.ptr 1 0 0),(5,.ptr 2 0 0),(6,.ptr 3 0 0),(28,.msl 4 0 (lz all) 2),(29,.int .i64 (lz all:Int)),(30,.int .i64 (k:Int))] ⟨[.row 1 [.agg [.str nm,.int .i64 ty,.int .i64 ps,Vx rg',Vx bk']] 5,.row 1 [.agg [.str [],.int .i64 0,.int .i64 0,.x0a,.x0a]] 5,.row 1 [.agg [.fn (.func 25) [] [.ptr 5 0 0]]] 1,.row 1 [.agg [.str nm,.int .i64 ty,.int .i64 ps,.msl 6 0 k 1,.x0a]] 5,.row 0 (all.map Cls.O) 2,.row 1 [.msl 7 0 n 1] 1,.row 0 (R) 1,.row 0 (ints of) 1],0,[]⟩)=zs (.ok .normal [(1,.ptr 0 0 0),(2,.ptr 1 0 0),(5,.ptr 2 0 0),(6,.ptr 3 0 0),(28,.msl 4 0 (lz all) 2),(29,.int .i64 (lz all:Int)),(30,.int .i64 ((k+1:Nat):Int))] ⟨[.row 1 [.agg [.str nm,.int .i64 ty,.int .i64 ps,Vx rg',Vx bk']] 5,.row 1 [.agg [.str [],.int .i64 0,.int .i64 0,.x0a,.x0a]] 5,.row 1 [.agg [.fn (.func 25) [] [.ptr 5 0 0]]] 1,.row 1 [.agg [.str nm,.int .i64 ty,.int .i64 ps,.msl 6 0 (k+1) 1,.x0a]] 5,.row 0 (all.map Cls.O) 2,.row 1 [.msl 7 0 n 1] 1,.row 0 (R++[.int .i64 x.kind]) 1,.row 0 (ints of) 1],0,[]⟩):=by
 have G:decide ((k:Int)<(lz all:Int))=zt:=by simp[D]
 have N:=A8 (i:=k) (by omega);have hg:=B9 (F:=Cls.O) D;rw[J]at hg;simp only[Cls.O]at hg;have I:lz (ints x.mem)=lz x.mem:=by simp[ints]
 have hb:(k+1)*8<=140737488355328:=by omega
 unfold Ts rZ DT;simp only[G,D,hg,N,I,hb,hc,zqa,zqb,zqc,C8,C9,D1,D2,D3,D4,XP,seval]
 done
theorem ZQ(D:True):∃fr',evP ⟨A0,T,A2⟩ (.code Ts [(1,.ptr 0 0 0),(2,.ptr 1 0 0),(5,.ptr 2 0 0),(6,.ptr 3 0 0),(28,.msl 4 0 (lz all) 2),(29,.int .i64 (lz all:Int)),(30,.int .i64 (lz all:Int))] ⟨[.row 1 [.agg [.str nm,.int .i64 ty,.int .i64 ps,Vx rg',Vx bk']] 5,.row 1 [.agg [.str [],.int .i64 0,.int .i64 0,.x0a,.x0a]] 5,.row 1 [.agg [.fn (.func 25) [] [.ptr 5 0 0]]] 1,.row 1 [.agg [.str nm,.int .i64 ty,.int .i64 ps,.x0a,.x0a]] 5,.row 0 (all.map Cls.O) 2,.row 1 [.msl 6 0 n 1] 1,.row 0 (ints of) 1],0,[]⟩)=zs (.ok (.exit 0) fr' ⟨[.row 1 [.agg [.str nm,.int .i64 ty,.int .i64 ps,Vx rg',Vx bk']] 5,.row 1 [.agg [.str [],.int .i64 0,.int .i64 0,.x0a,.x0a]] 5,.row 1 [.agg [.fn (.func 25) [] [.ptr 5 0 0]]] 1,.row 1 [.agg [.str nm,.int .i64 ty,.int .i64 ps,.x0a,.x0a]] 5,.row 0 (all.map Cls.O) 2,.row 1 [.msl 6 0 n 1] 1,.row 0 (ints of) 1],0,[]⟩)/\FR fr' 1=.ptr 0 0 0/\FR fr' 2=.ptr 1 0 0/\FR fr' 5=.ptr 2 0 0/\FR fr' 6=.ptr 3 0 0:=by
 have D:decide ((lz all:Int)<(lz all:Int))=zf:=by simp
 unfold Ts rZ;simp only[D,XP,seval];exact⟨_,rfl,rfl,rfl,rfl,rfl⟩
theorem ZR(D:True):∃fr',evP ⟨A0,T,A2⟩ (.code Ts [(1,.ptr 0 0 0),(2,.ptr 1 0 0),(5,.ptr 2 0 0),(6,.ptr 3 0 0),(28,.msl 4 0 (lz all) 2),(29,.int .i64 (lz all:Int)),(30,.int .i64 (lz all:Int))] ⟨[.row 1 [.agg [.str nm,.int .i64 ty,.int .i64 ps,Vx rg',Vx bk']] 5,.row 1 [.agg [.str [],.int .i64 0,.int .i64 0,.x0a,.x0a]] 5,.row 1 [.agg [.fn (.func 25) [] [.ptr 5 0 0]]] 1,.row 1 [.agg [.str nm,.int .i64 ty,.int .i64 ps,.msl 6 0 nr 1,.x0a]] 5,.row 0 (all.map Cls.O) 2,.row 1 [.msl 7 0 n 1] 1,.row 0 (R) 1,.row 0 (ints of) 1],0,[]⟩)=zs (.ok (.exit 0) fr' ⟨[.row 1 [.agg [.str nm,.int .i64 ty,.int .i64 ps,Vx rg',Vx bk']] 5,.row 1 [.agg [.str [],.int .i64 0,.int .i64 0,.x0a,.x0a]] 5,.row 1 [.agg [.fn (.func 25) [] [.ptr 5 0 0]]] 1,.row 1 [.agg [.str nm,.int .i64 ty,.int .i64 ps,.msl 6 0 nr 1,.x0a]] 5,.row 0 (all.map Cls.O) 2,.row 1 [.msl 7 0 n 1] 1,.row 0 (R) 1,.row 0 (ints of) 1],0,[]⟩)/\FR fr' 1=.ptr 0 0 0/\FR fr' 2=.ptr 1 0 0/\FR fr' 5=.ptr 2 0 0/\FR fr' 6=.ptr 3 0 0:=by
 have D:decide ((lz all:Int)<(lz all:Int))=zf:=by simp
 unfold Ts rZ;simp only[D,XP,seval];exact⟨_,rfl,rfl,rfl,rfl,rfl⟩
theorem rl(D:lz all<=1000000):∀(d k:Nat)(R:List AV),lz all=k+d->lz R=k->R=ints ((all.take k).map Cls.kind)->∃fr',evP ⟨A0,T,A2⟩ (.code (.loop Ts) [(1,.ptr 0 0 0),(2,.ptr 1 0 0),(5,.ptr 2 0 0),(6,.ptr 3 0 0),(28,.msl 4 0 (lz all) 2),(29,.int .i64 (lz all:Int)),(30,.int .i64 (k:Int))] ⟨[.row 1 [.agg [.str nm,.int .i64 ty,.int .i64 ps,Vx rg',Vx bk']] 5,.row 1 [.agg [.str [],.int .i64 0,.int .i64 0,.x0a,.x0a]] 5,.row 1 [.agg [.fn (.func 25) [] [.ptr 5 0 0]]] 1,.row 1 [.agg [.str nm,.int .i64 ty,.int .i64 ps,.msl 6 0 k 1,.x0a]] 5,.row 0 (all.map Cls.O) 2,.row 1 [.msl 7 0 n 1] 1,.row 0 (R) 1,.row 0 (ints of) 1],0,[]⟩)=zs (.ok (.exit 0) fr' ⟨[.row 1 [.agg [.str nm,.int .i64 ty,.int .i64 ps,Vx rg',Vx bk']] 5,.row 1 [.agg [.str [],.int .i64 0,.int .i64 0,.x0a,.x0a]] 5,.row 1 [.agg [.fn (.func 25) [] [.ptr 5 0 0]]] 1,.row 1 [.agg [.str nm,.int .i64 ty,.int .i64 ps,.msl 6 0 (lz all) 1,.x0a]] 5,.row 0 (all.map Cls.O) 2,.row 1 [.msl 7 0 n 1] 1,.row 0 (ints (all.map Cls.kind)) 1,.row 0 (ints of) 1],0,[]⟩)/\FR fr' 1=.ptr 0 0 0/\FR fr' 2=.ptr 1 0 0/\FR fr' 5=.ptr 2 0 0/\FR fr' 6=.ptr 3 0 0
 |0,k,R,e,hc,hR=>by
  obtain rfl:k=lz all:=by omega
  rw[zqh]at hR;subst hR;obtain⟨fr',h,I⟩:=ZR (T:=T) (of:=of) (n:=n) (nr:=lz all) (R:=ints (all.map Cls.kind)) (nm:=nm) (ty:=ty) (ps:=ps) (all:=all) (rg':=rg') (bk':=bk') trivial;exact⟨fr',B4 h,I⟩
 |d+1,k,R,e,hc,hR=>by
  have G:k<lz all:=by omega
  have h:=f0m (T:=T) (of:=of) (n:=n) (R:=R) (nm:=nm) (ty:=ty) (ps:=ps) (all:=all) (rg':=rg') (bk':=bk') G rfl D hc (by omega);obtain⟨fr',h',k'⟩:=rl D d (k+1) (R++[.int .i64 all[k].kind]) (by omega) (by simp;omega) (by rw[hR];unfold ints;rw[zqy,zqy];exact U1 (f:=AV.int .i64∘Cls.kind) G rfl);exact⟨fr',(B0 h).trans h',k'⟩
theorem rm(D:lz all<=1000000)(h0:0<lz all):∃fr',evP ⟨A0,T,A2⟩ (.code (.loop Ts) [(1,.ptr 0 0 0),(2,.ptr 1 0 0),(5,.ptr 2 0 0),(6,.ptr 3 0 0),(28,.msl 4 0 (lz all) 2),(29,.int .i64 (lz all:Int)),(30,.int .i64 ((0:Nat):Int))] ⟨[.row 1 [.agg [.str nm,.int .i64 ty,.int .i64 ps,Vx rg',Vx bk']] 5,.row 1 [.agg [.str [],.int .i64 0,.int .i64 0,.x0a,.x0a]] 5,.row 1 [.agg [.fn (.func 25) [] [.ptr 5 0 0]]] 1,.row 1 [.agg [.str nm,.int .i64 ty,.int .i64 ps,.x0a,.x0a]] 5,.row 0 (all.map Cls.O) 2,.row 1 [.msl 6 0 n 1] 1,.row 0 (ints of) 1],0,[]⟩)=zs (.ok (.exit 0) fr' ⟨[.row 1 [.agg [.str nm,.int .i64 ty,.int .i64 ps,Vx rg',Vx bk']] 5,.row 1 [.agg [.str [],.int .i64 0,.int .i64 0,.x0a,.x0a]] 5,.row 1 [.agg [.fn (.func 25) [] [.ptr 5 0 0]]] 1,.row 1 [.agg [.str nm,.int .i64 ty,.int .i64 ps,.msl 6 0 (lz all) 1,.x0a]] 5,.row 0 (all.map Cls.O) 2,.row 1 [.msl 7 0 n 1] 1,.row 0 (ints (all.map Cls.kind)) 1,.row 0 (ints of) 1],0,[]⟩)/\FR fr' 1=.ptr 0 0 0/\FR fr' 2=.ptr 1 0 0/\FR fr' 5=.ptr 2 0 0/\FR fr' 6=.ptr 3 0 0:=by
 have h:=f0l (T:=T) (of:=of) (n:=n) (nm:=nm) (ty:=ty) (ps:=ps) (all:=all) (rg':=rg') (bk':=bk') h0 rfl D;obtain⟨fr',h',k'⟩:=rl (T:=T) (of:=of) (n:=n) (nm:=nm) (ty:=ty) (ps:=ps) (all:=all) (rg':=rg') (bk':=bk') D (lz all-1) 1 [.int .i64 all[0].kind] (by omega) rfl (by cases all with|nil=>cases h0|cons a l=>rfl);exact⟨fr',(B0 h).trans h',k'⟩
theorem ZS(D:True):∃fr',evP ⟨A0,T,A2⟩ (.code Z8 [(2,.ptr 0 0 0),(5,.ptr 1 0 0),(6,.ptr 2 0 0),(43,Vx (bs.map Blk.F)),(44,.int .i64 (lz (bs.map Blk.F):Int)),(45,.int .i64 (lz (bs.map Blk.F):Int))] ⟨[.row 1 [.agg [.str [],.int .i64 0,.int .i64 0,.x0a,.x0a]] 5,.row 1 [.agg [.fn (.func 25) [] [.ptr 3 0 0]]] 1,.row 1 [.agg [.str nm,.int .i64 ty,.int .i64 ps,.x0a,.msl 4 0 nb 5]] 5,.row 1 [.msl 5 0 n 1] 1,.row 0 (B) 5,.row 0 (ints of) 1],0,[]⟩)=zs (.ok (.exit 2) fr' ⟨[.row 1 [.agg [.str [],.int .i64 0,.int .i64 0,.x0a,.x0a]] 5,.row 1 [.agg [.fn (.func 25) [] [.ptr 3 0 0]]] 1,.row 1 [.agg [.str nm,.int .i64 ty,.int .i64 ps,.x0a,.msl 4 0 nb 5]] 5,.row 1 [.msl 5 0 n 1] 1,.row 0 (B) 5,.row 0 (ints of) 1],0,[]⟩)/\FR fr' 2=.ptr 0 0 0/\FR fr' 6=.ptr 2 0 0:=by
 have D:decide ((lz (bs.map Blk.F):Int)<(lz (bs.map Blk.F):Int))=zf:=by simp
 unfold Z8 Z7;simp only[D,XP,seval];exact⟨_,rfl,rfl,rfl⟩
theorem LK(G:T 26=zn)(I:T 25=zn)(J:T 46=zs A9)(ho:lz of=n)(hb:∀b∈bs,sw n b)(N:lz bs<=1000000):∀(d k:Nat)(B:List AV),lz bs=k+d->lz B=k->B=(bs.take k).map (fun b=>R2 (Hf of b))->∃fr',evP ⟨A0,T,A2⟩ (.code (.loop Z8) [(2,.ptr 0 0 0),(5,.ptr 1 0 0),(6,.ptr 2 0 0),(43,Vx (bs.map Blk.F)),(44,.int .i64 (lz (bs.map Blk.F):Int)),(45,.int .i64 (k:Int))] ⟨[.row 1 [.agg [.str [],.int .i64 0,.int .i64 0,.x0a,.x0a]] 5,.row 1 [.agg [.fn (.func 25) [] [.ptr 3 0 0]]] 1,.row 1 [.agg [.str nm,.int .i64 ty,.int .i64 ps,.x0a,.msl 4 0 k 5]] 5,.row 1 [.msl 5 0 n 1] 1,.row 0 (B) 5,.row 0 (ints of) 1],0,[]⟩)=zs (.ok (.exit 2) fr' ⟨[.row 1 [.agg [.str [],.int .i64 0,.int .i64 0,.x0a,.x0a]] 5,.row 1 [.agg [.fn (.func 25) [] [.ptr 3 0 0]]] 1,.row 1 [.agg [.str nm,.int .i64 ty,.int .i64 ps,.x0a,.msl 4 0 (lz bs) 5]] 5,.row 1 [.msl 5 0 n 1] 1,.row 0 (bs.map fun b=>R2 (Hf of b)) 5,.row 0 (ints of) 1],0,[]⟩)/\FR fr' 2=.ptr 0 0 0/\FR fr' 6=.ptr 2 0 0
 |0,k,B,e,hc,hB=>by
  obtain rfl:k=lz bs:=by omega
  rw[zqh]at hB;subst hB;obtain⟨fr',h,Q⟩:=ZS (T:=T) (of:=of) (n:=n) (nb:=lz bs) (B:=bs.map fun b=>R2 (Hf of b)) (nm:=nm) (ty:=ty) (ps:=ps) (bs:=bs) trivial;rw[zqd]at h|-;exact⟨fr',B4 h,Q⟩
 |d+1,k,B,e,hc,hB=>by
  have D:k<lz bs:=by omega
  have h:=LH (T:=T) (of:=of) (n:=n) (nb:=k) (B:=B) (bl:=bs.map Blk.F) (i:=k) (nm:=nm) (ty:=ty) (ps:=ps) G I J ho (by simpa using D) (B9 (F:=Blk.F) D) (hb _ (zqe D)) (by simpa using N) hc (by omega);obtain⟨fr',h',k'⟩:=LK G I J ho hb N d (k+1) (B++[R2 (Hf of bs[k])]) (by omega) (by simp;omega) (by rw[hB];exact U1 (f:=fun b=>R2 (Hf of b)) D rfl);exact⟨fr',(B0 h).trans h',k'⟩
theorem ZT(D:T 26=zn)(G:T 25=zn)(I:T 46=zs A9)(ho:lz of=n)(hb:∀b∈bs,sw n b)(J:lz bs<=1000000)(h0:0<lz bs):∃fr',evP ⟨A0,T,A2⟩ (.code (.loop Z8) [(2,.ptr 0 0 0),(5,.ptr 1 0 0),(6,.ptr 2 0 0),(43,Vx (bs.map Blk.F)),(44,.int .i64 (lz (bs.map Blk.F):Int)),(45,.int .i64 ((0:Nat):Int))] ⟨[.row 1 [.agg [.str [],.int .i64 0,.int .i64 0,.x0a,.x0a]] 5,.row 1 [.agg [.fn (.func 25) [] [.ptr 3 0 0]]] 1,.row 1 [.agg [.str nm,.int .i64 ty,.int .i64 ps,.x0a,.x0a]] 5,.row 1 [.msl 4 0 n 1] 1,.row 0 (ints of) 1],0,[]⟩)=zs (.ok (.exit 2) fr' ⟨[.row 1 [.agg [.str [],.int .i64 0,.int .i64 0,.x0a,.x0a]] 5,.row 1 [.agg [.fn (.func 25) [] [.ptr 3 0 0]]] 1,.row 1 [.agg [.str nm,.int .i64 ty,.int .i64 ps,.x0a,.msl 4 0 (lz bs) 5]] 5,.row 1 [.msl 5 0 n 1] 1,.row 0 (bs.map fun b=>R2 (Hf of b)) 5,.row 0 (ints of) 1],0,[]⟩)/\FR fr' 2=.ptr 0 0 0/\FR fr' 6=.ptr 2 0 0:=by
 have h:=LG (T:=T) (of:=of) (n:=n) (bl:=bs.map Blk.F) (i:=0) (nm:=nm) (ty:=ty) (ps:=ps) D G I ho (by simpa using h0) (B9 (F:=Blk.F) h0) (hb _ (zqe h0)) (by simpa using J);obtain⟨fr',h',k'⟩:=LK (T:=T) (of:=of) (n:=n) (nm:=nm) (ty:=ty) (ps:=ps) (bs:=bs) D G I ho hb J (lz bs-1) 1 [R2 (Hf of bs[0])] (by omega) rfl (by cases bs with|nil=>cases h0|cons a l=>rfl);exact⟨fr',(B0 h).trans h',k'⟩
theorem ZU(D:True):∃fr',evP ⟨A0,T,A2⟩ (.code Z8 [(2,.ptr 0 0 0),(5,.ptr 1 0 0),(6,.ptr 2 0 0),(43,Vx (bs.map Blk.F)),(44,.int .i64 (lz (bs.map Blk.F):Int)),(45,.int .i64 (lz (bs.map Blk.F):Int))] ⟨[.row 1 [.agg [.str [],.int .i64 0,.int .i64 0,.x0a,.x0a]] 5,.row 1 [.agg [.fn (.func 25) [] [.ptr 3 0 0]]] 1,.row 1 [.agg [.str nm,.int .i64 ty,.int .i64 ps,.msl 4 0 nr 1,.msl 5 0 nb 5]] 5,.row 1 [.msl 6 0 n 1] 1,.row 0 R 1,.row 0 (B) 5,.row 0 (ints of) 1],0,[]⟩)=zs (.ok (.exit 2) fr' ⟨[.row 1 [.agg [.str [],.int .i64 0,.int .i64 0,.x0a,.x0a]] 5,.row 1 [.agg [.fn (.func 25) [] [.ptr 3 0 0]]] 1,.row 1 [.agg [.str nm,.int .i64 ty,.int .i64 ps,.msl 4 0 nr 1,.msl 5 0 nb 5]] 5,.row 1 [.msl 6 0 n 1] 1,.row 0 R 1,.row 0 (B) 5,.row 0 (ints of) 1],0,[]⟩)/\FR fr' 2=.ptr 0 0 0/\FR fr' 6=.ptr 2 0 0:=by
 have D:decide ((lz (bs.map Blk.F):Int)<(lz (bs.map Blk.F):Int))=zf:=by simp
 unfold Z8 Z7;simp only[D,XP,seval];exact⟨_,rfl,rfl,rfl⟩
theorem LL(G:T 26=zn)(I:T 25=zn)(J:T 46=zs A9)(ho:lz of=n)(hb:∀b∈bs,sw n b)(N:lz bs<=1000000):∀(d k:Nat)(B:List AV),lz bs=k+d->lz B=k->B=(bs.take k).map (fun b=>R2 (Hf of b))->∃fr',evP ⟨A0,T,A2⟩ (.code (.loop Z8) [(2,.ptr 0 0 0),(5,.ptr 1 0 0),(6,.ptr 2 0 0),(43,Vx (bs.map Blk.F)),(44,.int .i64 (lz (bs.map Blk.F):Int)),(45,.int .i64 (k:Int))] ⟨[.row 1 [.agg [.str [],.int .i64 0,.int .i64 0,.x0a,.x0a]] 5,.row 1 [.agg [.fn (.func 25) [] [.ptr 3 0 0]]] 1,.row 1 [.agg [.str nm,.int .i64 ty,.int .i64 ps,.msl 4 0 nr 1,.msl 5 0 k 5]] 5,.row 1 [.msl 6 0 n 1] 1,.row 0 R 1,.row 0 (B) 5,.row 0 (ints of) 1],0,[]⟩)=zs (.ok (.exit 2) fr' ⟨[.row 1 [.agg [.str [],.int .i64 0,.int .i64 0,.x0a,.x0a]] 5,.row 1 [.agg [.fn (.func 25) [] [.ptr 3 0 0]]] 1,.row 1 [.agg [.str nm,.int .i64 ty,.int .i64 ps,.msl 4 0 nr 1,.msl 5 0 (lz bs) 5]] 5,.row 1 [.msl 6 0 n 1] 1,.row 0 R 1,.row 0 (bs.map fun b=>R2 (Hf of b)) 5,.row 0 (ints of) 1],0,[]⟩)/\FR fr' 2=.ptr 0 0 0/\FR fr' 6=.ptr 2 0 0
 |0,k,B,e,hc,hB=>by
  obtain rfl:k=lz bs:=by omega
  rw[zqh]at hB;subst hB;obtain⟨fr',h,Q⟩:=ZU (T:=T) (of:=of) (n:=n) (nr:=nr) (R:=R) (nb:=lz bs) (B:=bs.map fun b=>R2 (Hf of b)) (nm:=nm) (ty:=ty) (ps:=ps) (bs:=bs) trivial;rw[zqd]at h|-;exact⟨fr',B4 h,Q⟩
 |d+1,k,B,e,hc,hB=>by
  have D:k<lz bs:=by omega
  have h:=LJ (T:=T) (of:=of) (n:=n) (nr:=nr) (R:=R) (nb:=k) (B:=B) (bl:=bs.map Blk.F) (i:=k) (nm:=nm) (ty:=ty) (ps:=ps) G I J ho (by simpa using D) (B9 (F:=Blk.F) D) (hb _ (zqe D)) (by simpa using N) hc (by omega);obtain⟨fr',h',k'⟩:=LL G I J ho hb N d (k+1) (B++[R2 (Hf of bs[k])]) (by omega) (by simp;omega) (by rw[hB];exact U1 (f:=fun b=>R2 (Hf of b)) D rfl);exact⟨fr',(B0 h).trans h',k'⟩
theorem ZV(D:T 26=zn)(G:T 25=zn)(I:T 46=zs A9)(ho:lz of=n)(hb:∀b∈bs,sw n b)(J:lz bs<=1000000)(h0:0<lz bs):∃fr',evP ⟨A0,T,A2⟩ (.code (.loop Z8) [(2,.ptr 0 0 0),(5,.ptr 1 0 0),(6,.ptr 2 0 0),(43,Vx (bs.map Blk.F)),(44,.int .i64 (lz (bs.map Blk.F):Int)),(45,.int .i64 ((0:Nat):Int))] ⟨[.row 1 [.agg [.str [],.int .i64 0,.int .i64 0,.x0a,.x0a]] 5,.row 1 [.agg [.fn (.func 25) [] [.ptr 3 0 0]]] 1,.row 1 [.agg [.str nm,.int .i64 ty,.int .i64 ps,.msl 4 0 nr 1,.x0a]] 5,.row 1 [.msl 5 0 n 1] 1,.row 0 R 1,.row 0 (ints of) 1],0,[]⟩)=zs (.ok (.exit 2) fr' ⟨[.row 1 [.agg [.str [],.int .i64 0,.int .i64 0,.x0a,.x0a]] 5,.row 1 [.agg [.fn (.func 25) [] [.ptr 3 0 0]]] 1,.row 1 [.agg [.str nm,.int .i64 ty,.int .i64 ps,.msl 4 0 nr 1,.msl 5 0 (lz bs) 5]] 5,.row 1 [.msl 6 0 n 1] 1,.row 0 R 1,.row 0 (bs.map fun b=>R2 (Hf of b)) 5,.row 0 (ints of) 1],0,[]⟩)/\FR fr' 2=.ptr 0 0 0/\FR fr' 6=.ptr 2 0 0:=by
 have h:=LI (T:=T) (of:=of) (n:=n) (nr:=nr) (R:=R) (bl:=bs.map Blk.F) (i:=0) (nm:=nm) (ty:=ty) (ps:=ps) D G I ho (by simpa using h0) (B9 (F:=Blk.F) h0) (hb _ (zqe h0)) (by simpa using J);obtain⟨fr',h',k'⟩:=LL (T:=T) (of:=of) (n:=n) (nr:=nr) (R:=R) (nm:=nm) (ty:=ty) (ps:=ps) (bs:=bs) D G I ho hb J (lz bs-1) 1 [R2 (Hf of bs[0])] (by omega) rfl (by cases bs with|nil=>cases h0|cons a l=>rfl);exact⟨fr',(B0 h).trans h',k'⟩
end
def Xg(c:Cod):AV:=.agg [.str c.name,.int .i64 c.ty,.int .i64 c.ps,di 0 1 (ints ((ju c).all.map Cls.kind)),di 0 5 (c.blocks.map fun b=>R2 (Hf (ju c).of b))]
structure qg(c:Cod):Prop where
 cl:xz c
 bn:∀b∈c.blocks,sw (lz c.x0g) b
theorem uH(b:Blk):noF (R2 b)=zt:=by
 unfold R2;cases hb:b.code with
 |nil=>rfl
 |cons x l=>
  show(noF (di 0 8 ((x::l).map Ins.O))&&zt)=zt
  rw[Bool.and_true];show(zt&&noFL ((x::l).map Ins.O))=zt
  rw[ot];rfl
theorem uI(c:Cod):noF (Xg c)=zt:=by
 unfold Xg;have D:=Mj (O:=fun b=>R2 (Hf (ju c).of b)) (fun b=>uH _) c.blocks;have G:=ky ((ju c).all.map Cls.kind);show(zt&&(zt&&(zt&&((zt&&noFL (ints ((ju c).all.map Cls.kind)))&&((zt&&noFL (c.blocks.map fun b=>R2 (Hf (ju c).of b)))&&zt)))))=zt
 rw[D,G];rfl
theorem xS(c:Cod):((Xg c).cells.all fun c=>(fe c).isSome||clo c)=zt:=rfl
theorem Ij(J:T 24=zs J6)(N:T 46=zs A9)(D:T 26=zn)(G:T 25=zn){c:Cod}(hk:qg c):AM.eo ⟨A0,T,A2⟩ 9 [c.F] [Xg c]:=by
 obtain⟨V,ae⟩:=hk;have tc:=fun K=>Dr (K:=K) J V
 have I:=uD (gt c) c (lz c.x0g);have Q:lz (ju c).of=lz c.x0g:=I.len;have af:lz (ju c).all<=lz c.x0g:=I.le;have hrn:=V.rn;have aa:=V.lv.b0;have hbl:=V.lv.bl;have ag:lz c.x0g≠0->lz (ju c).all≠0:=fun h=>by
  obtain⟨k,_,_,x,h3,_⟩:=I.pos 0 (by omega);intro e;have h3:(ju c).all[k]?=zs x:=h3;rw[zqq e]at h3;simp at h3
 unfold Xg;generalize ju c=s at *;obtain⟨all,of⟩:=s;simp only at Q af ag tc|-;have ab:lz (ints of)=lz c.x0g:=by simp[ints,Q]
 have ac:lz (all.map Cls.O)=lz all:=by simp
 have U:lz (c.blocks.map Blk.F)=lz c.blocks:=by simp
 have ah:lz (ints (all.map Cls.kind))=lz all:=by simp[ints]
 have ad:lz (c.blocks.map fun b=>R2 (Hf of b))=lz c.blocks:=by simp
 by_cases hz:lz all=0
 . have e0:all=[]:=zqq hz
   subst e0;obtain⟨ai,X,k1,k2,k3,k4⟩:=ZQ (T:=T) (of:=of) (n:=lz c.x0g) (nm:=c.name) (ty:=c.ty) (ps:=c.ps) (all:=[]) (rg':=ints c.x0g) (bk':=c.blocks.map Blk.F) trivial;have X:=B4 X;obtain⟨aj,Y,k5,k6⟩:=ZT (T:=T) (of:=of) (n:=lz c.x0g) (nm:=c.name) (ty:=c.ty) (ps:=c.ps) (bs:=c.blocks) D G N Q ae (by omega) aa;refine⟨[.agg [.str c.name,.int .i64 c.ty,.int .i64 c.ps,.x0a,.msl 1 0 (lz c.blocks) 5]],⟨[.row 1 [.agg [.str c.name,.int .i64 c.ty,.int .i64 c.ps,.x0a,.msl 1 0 (lz c.blocks) 5]] 5,.row 0 (c.blocks.map fun b=>R2 (Hf of b)) 5],0,[]⟩,?_,?_⟩
   . rw[A7 (c:=p9) (nt:=86) (rs:=[.cell 2 33]) rfl (by simp)];unfold p9
     unfold K0;unfold sH sG sF sE sD sC DU;rw[U]at Y;simp only[Cod.F,zqf,zqs,show((0:Nat):Int)=0 from rfl]at tc X Y|-;generalize (c.blocks.map fun b=>R2 (Hf of b))=BQ at *;simp only[tc,X,Y,k1,k2,k3,k4,k5,k6,ab,ac,U,zqa,zqb,zqc,show((0:Nat):Int)=0 from rfl,C8,C9,D1,D2,D3,D4,XP,seval]
     done
   . refine E1 (vs':=[.agg [.str c.name,.int .i64 c.ty,.int .i64 c.ps,.msl 2 0 0 1,.msl 1 0 (lz c.blocks) 5]]) (os':=[.row 1 [.agg [.str c.name,.int .i64 c.ty,.int .i64 c.ps,.x0a,.msl 1 0 (lz c.blocks) 5]] 5,.row 0 (c.blocks.map fun b=>R2 (Hf of b)) 5,.row 0 [] 1]) ?_ ?_ (us:=[.agg [.str c.name,.int .i64 c.ty,.int .i64 c.ps,.msl 0 0 0 1,.msl 1 0 (lz c.blocks) 5]]) (ps:=[.row 0 [] 1,.row 0 (c.blocks.map fun b=>R2 (Hf of b)) 5]) ?_ ?_ ?_
     . rfl
     all_goals simp only[ad,zqf,XP,seval]
 . obtain ⟨ai,X,k1,k2,k3,k4⟩:=rm (T:=T) (of:=of) (n:=lz c.x0g) (nm:=c.name) (ty:=c.ty) (ps:=c.ps) (all:=all) (rg':=ints c.x0g) (bk':=c.blocks.map Blk.F) (by omega) (by omega)
   obtain⟨aj,Y,k5,k6⟩:=ZV (T:=T) (of:=of) (n:=lz c.x0g) (nr:=lz all) (R:=ints (all.map Cls.kind)) (nm:=c.name) (ty:=c.ty) (ps:=c.ps) (bs:=c.blocks) D G N Q ae (by omega) aa;refine⟨[.agg [.str c.name,.int .i64 c.ty,.int .i64 c.ps,.msl 1 0 (lz all) 1,.msl 2 0 (lz c.blocks) 5]],⟨[.row 1 [.agg [.str c.name,.int .i64 c.ty,.int .i64 c.ps,.msl 1 0 (lz all) 1,.msl 2 0 (lz c.blocks) 5]] 5,.row 0 (ints (all.map Cls.kind)) 1,.row 0 (c.blocks.map fun b=>R2 (Hf of b)) 5],0,[]⟩,?_,?_⟩
   . rw[A7 (c:=p9) (nt:=86) (rs:=[.cell 2 33]) rfl (by simp)];unfold p9
     unfold K0;unfold sH sG sF sE sD sC DU;rw[U]at Y;simp only[Cod.F,show((0:Nat):Int)=0 from rfl]at tc X Y|-;generalize (c.blocks.map fun b=>R2 (Hf of b))=BQ at *;generalize ints (all.map Cls.kind)=KQ at *;generalize all.map Cls.O=AQ at *;simp only[tc,X,Y,k1,k2,k3,k4,k5,k6,ab,ac,U,zqa,zqb,zqc,C8,C9,D1,D2,D3,D4,XP,seval]
     done
   . refine E1 (vs':=[.agg [.str c.name,.int .i64 c.ty,.int .i64 c.ps,.msl 1 0 (lz all) 1,.msl 2 0 (lz c.blocks) 5]]) (os':=[.row 1 [.agg [.str c.name,.int .i64 c.ty,.int .i64 c.ps,.msl 1 0 (lz all) 1,.msl 2 0 (lz c.blocks) 5]] 5,.row 0 (ints (all.map Cls.kind)) 1,.row 0 (c.blocks.map fun b=>R2 (Hf of b)) 5]) ?_ ?_ (us:=[.agg [.str c.name,.int .i64 c.ty,.int .i64 c.ps,.msl 0 0 (lz all) 1,.msl 1 0 (lz c.blocks) 5]]) (ps:=[.row 0 (ints (all.map Cls.kind)) 1,.row 0 (c.blocks.map fun b=>R2 (Hf of b)) 5]) ?_ ?_ ?_
     all_goals simp only[ad,ah,XP,seval]
def N5:=Ck (fun p:(Cod)=>[p.F]) (fun p=>[Xg p]) (fun p=>qg p)
theorem Ut(D:T 9=zs N5){c:Cod}{K:PK}(G:qg c):evP ⟨A0,T,A2⟩ (.call 9 [c.F] K)=zs (.val (W2 (lz K.os) [Xg c]).1 ⟨K.os++(W2 (lz K.os) [Xg c]).2,K.ext,K.tch⟩):=E6 D (by simp only[VV,XP,seval]) (F2 (a:=fun p:(Cod)=>[p.F]) (r:=fun p=>[Xg p]) (fun x y e=>by simp only[VJ]at e;simp only[e]) (c) G) (by simp only[VN,uI,xS,XP,seval])
theorem Om(I:T 24=zs J6)(J:T 46=zs A9)(D:T 26=zn)(G:T 25=zn)(hP:ep ⟨A0,T,A2⟩):TC A0 9 N5:=F9 hP fun p h=>Ij I J D G h
theorem Uu{l:List Int}(h:L6 l=0):∀e∈l,e=0:=by
 induction l with
 |nil=>intro e D;cases D
 |cons a l G=>
  unfold L6 at h;intro e D;by_cases q:a=0
  . rw[if_pos q]at h
    rcases zql.1 D with rfl|D
    . exact q
    . exact G h e D
  . rw[if_neg q]at h;exact absurd h q
theorem jc{a n:Int}:da a n=zt↔0<=a/\a<n:=by unfold da;simp
theorem uJ{m:de}(h:gz m=0):∀c∈m.fs,o8 m c=0:=by
 unfold gz at h;by_cases q:L6 (m.gs.map cB)=0
 . rw[if_pos q]at h
   by_cases D:L6 (m.fs.map (o8 m))=0
   . exact fun c hc=>Uu D _ (zqz hc)
   . rw[if_neg D]at h;exact absurd h D
 . rw[if_neg q]at h;exact absurd h q
theorem xT{m:de}{c:Cod}(h:o8 m c=0):(1<=lz c.blocks/\lz c.blocks<=400/\lz c.x0g<=4096)/\∀b∈c.blocks,Xd m c b=0:=by
 unfold o8 at h;split at h
 . cases h
 . rename_i h1
   split at h
   . cases h
   . split at h
     . cases h
     . exact⟨by omega,fun b hb=>Uu h _ (zqz hb)⟩
theorem kM{m:de}{c:Cod}{b:Blk}(h:Xd m c b=0):(∀x∈b.code,M7 m c x=0)/\Uj c b.e=0:=by
 unfold Xd at h;split at h
 . rename_i q;exact⟨fun x D=>Uu q _ (zqz D),h⟩
 . rename_i q;exact absurd h q
theorem kN{m:de}{c:Cod}{x:Ins}(h:M7 m c x=0):ch x<lz c.x0g/\∀r∈ci x,0<=r/\r<(lz c.x0g:Int):=by
 unfold M7 at h;split at h
 . split at h
   . rename_i _ G
     unfold F7 at G;obtain⟨Q,D⟩:=zkq.1 G;obtain⟨D,_⟩:=zkq.1 D;refine⟨?_,fun r J=>jc.1 (List.all_eq_true.1 Q r J)⟩;unfold iK at D;by_cases q:0<=ch x
     . have N:¬ch x=-1:=by omega
       by_cases I:da (ch x) (lz c.x0g)=zt
       . exact(jc.1 I).2
       . rw[decide_eq_true q,decide_eq_false N,Bool.eq_false_iff.2 I]at D
         simp at D
     . omega
   . cases h
 . cases h
theorem kO{c:Cod}{e:jy}(h:Uj c e=0):(∀t∈jz e,0<=t/\t<(lz c.blocks:Int))/\(e.kind≠1->e.a<lz c.x0g):=by
 unfold Uj at h;unfold jz;by_cases G:e.kind=1
 . rw[if_pos G]at h|-
   split at h
   . rename_i q;exact⟨fun t D=>by rw[zqx.1 D];exact jc.1 q,fun J=>absurd G J⟩
   . cases h
 . rw [if_neg G]at h|-
   by_cases I:e.kind=2
   . rw [if_pos I]at h|-
     split at h
     . rename_i N
       split at h
       . rename_i Q
         split at h
         . rename_i U
           refine⟨fun t D=>?_,fun _=>(jc.1 U).2⟩;rcases zql.1 D with rfl|D
           . exact jc.1 N
           . rw[zqx.1 D];exact jc.1 Q
         . cases h
       . cases h
     . cases h
   . rw [if_neg I]at h|-
     refine⟨fun t D=>(by cases D),fun _=>?_⟩;split at h
     . split at h
       . omega
       . split at h
         . rename_i q;exact(jc.1 q).2
         . cases h
     . cases h
def y6(m:de):Bool:=if Dd m=zt then zt else m.fs.any fun c=>decide (40<lz c.blocks)
def y7(m:de):Bool:=if y6 m=zt then zt else m.fs.any fun c=>decide (60<lz c.x0g)
section
variable {m:de}{i:Nat}
theorem LM(h:i<lz m.fs)(I:lz m.fs<=cp)(D:decide (40<lz m.fs[i].blocks)=zf):evP ⟨A0,T,A2⟩ (.code Qb [(1,.ptr 0 0 0),(3,.int .i64 (i:Int))] ⟨[.row 1 [m.F] 2],0,[]⟩)=zs (.ok .normal [(1,.ptr 0 0 0),(3,.int .i64 ((i+1:Nat):Int))] ⟨[.row 1 [m.F] 2],0,[]⟩):=by
 unfold Qb;have G:decide ((i:Int)<(lz m.fs:Int))=zt:=by simp[h]
 have J:=A8 (i:=i) (by simp only[cp]at I;omega);have hi:=B9 (F:=Cod.F) h;have D:decide ((lz m.fs[i].blocks:Int)>40)=zf:=by simp at D|-;omega
 simp only[Cod.F,de.F]at hi|-;simp only[G,hi,J,D,zqd,zqa,zqb,zqc,XP,seval]
theorem LN(h:i<lz m.fs)(D:decide (40<lz m.fs[i].blocks)=zt):evP ⟨A0,T,A2⟩ (.code Qb [(1,.ptr 0 0 0),(3,.int .i64 (i:Int))] ⟨[.row 1 [m.F] 2],0,[]⟩)=zs (.ok .ret [(2,.bool zt)] ⟨[],0,[]⟩):=by
 unfold Qb;have G:decide ((i:Int)<(lz m.fs:Int))=zt:=by simp[h]
 have hi:=B9 (F:=Cod.F) h;have D:decide ((lz m.fs[i].blocks:Int)>40)=zt:=by simp at D|-;omega
 simp only[Cod.F,de.F]at hi|-;simp only[G,hi,D,zqd,zqa,zqb,zqc,XP,seval]
theorem LO:∃fr',evP ⟨A0,T,A2⟩ (.code Qb [(1,.ptr 0 0 0),(3,.int .i64 (lz m.fs:Int))] ⟨[.row 1 [m.F] 2],0,[]⟩)=zs (.ok (.exit 0) fr' ⟨[.row 1 [m.F] 2],0,[]⟩):=by
 unfold Qb;have D:decide ((lz m.fs:Int)<(lz m.fs:Int))=zf:=by simp
 simp only[de.F];simp only[D,zqd,zqa,zqb,zqc,XP,seval];exact⟨_,rfl⟩
theorem LP(h:i<lz m.fs)(I:lz m.fs<=cp)(D:decide (60<lz m.fs[i].x0g)=zf):evP ⟨A0,T,A2⟩ (.code eW [(1,.ptr 0 0 0),(3,.int .i64 (i:Int))] ⟨[.row 1 [m.F] 2],0,[]⟩)=zs (.ok .normal [(1,.ptr 0 0 0),(3,.int .i64 ((i+1:Nat):Int))] ⟨[.row 1 [m.F] 2],0,[]⟩):=by
 unfold eW;have G:decide ((i:Int)<(lz m.fs:Int))=zt:=by simp[h]
 have J:=A8 (i:=i) (by simp only[cp]at I;omega);have hi:=B9 (F:=Cod.F) h;have D:decide ((lz m.fs[i].x0g:Int)>60)=zf:=by simp at D|-;omega
 have hl:lz (ints m.fs[i].x0g)=lz m.fs[i].x0g:=by simp[ints]
 simp only[Cod.F,de.F]at hi|-;simp only[G,hi,J,D,hl,zqd,zqa,zqb,zqc,XP,seval]
theorem LQ(h:i<lz m.fs)(D:decide (60<lz m.fs[i].x0g)=zt):evP ⟨A0,T,A2⟩ (.code eW [(1,.ptr 0 0 0),(3,.int .i64 (i:Int))] ⟨[.row 1 [m.F] 2],0,[]⟩)=zs (.ok .ret [(2,.bool zt)] ⟨[],0,[]⟩):=by
 unfold eW;have G:decide ((i:Int)<(lz m.fs:Int))=zt:=by simp[h]
 have hi:=B9 (F:=Cod.F) h;have D:decide ((lz m.fs[i].x0g:Int)>60)=zt:=by simp at D|-;omega
 have hl:lz (ints m.fs[i].x0g)=lz m.fs[i].x0g:=by simp[ints]
 simp only[Cod.F,de.F]at hi|-;simp only[G,hi,D,hl,zqd,zqa,zqb,zqc,XP,seval]
theorem LR:∃fr',evP ⟨A0,T,A2⟩ (.code eW [(1,.ptr 0 0 0),(3,.int .i64 (lz m.fs:Int))] ⟨[.row 1 [m.F] 2],0,[]⟩)=zs (.ok (.exit 0) fr' ⟨[.row 1 [m.F] 2],0,[]⟩):=by
 unfold eW;have D:decide ((lz m.fs:Int)<(lz m.fs:Int))=zf:=by simp
 simp only[de.F];simp only[D,zqd,zqa,zqb,zqc,XP,seval];exact⟨_,rfl⟩
theorem qe{P:PE}{c:PC}{X:Type}{p:X->Bool}{l:List X}{S:Nat->PF}{K K':PK}{D:PF}{x:Nat}
 (h1:∀i (h:i<lz l),p l[i]=zf->evP P (.code c (S i) K)=zs (.ok .normal (S (i+1)) K))
 (h2:∀i (h:i<lz l),p l[i]=zt->evP P (.code c (S i) K)=zs (.ok .ret D K'))
 (hx:∃fr',evP P (.code c (S (lz l)) K)=zs (.ok (.exit x) fr' K)):
 (l.any p=zt/\evP P (.code (.loop c) (S 0) K)=zs (.ok .ret D K'))\/(l.any p=zf/\∃fr',evP P (.code (.loop c) (S 0) K)=zs (.ok (.exit x) fr' K)):=by
 have G:∀(n i:Nat),lz l=i+n->(l.drop i).any p=zt/\evP P (.code (.loop c) (S i) K)=zs (.ok .ret D K')\/(l.drop i).any p=zf/\∃fr',evP P (.code (.loop c) (S i) K)=zs (.ok (.exit x) fr' K):=fun n=>by
  induction n with
  |zero=>
   intro i e;obtain rfl:i=lz l:=by omega
   obtain⟨fr',h⟩:=hx;exact .inr ⟨by simp,fr',B4 h⟩
  |succ n J=>
   intro i e;have hi:i<lz l:=by omega
   rw[zkg hi,List.any_cons];cases I:p l[i]with
   |true=>exact .inl ⟨rfl,Cg (h2 i hi I)⟩
   |false=>
    rw[B0 (h1 i hi I),Bool.false_or];exact J (i+1) (by omega)
 have:=G (lz l) 0 (by omega)
 rwa[zqm]at this
end
theorem Rb(D:T 36=zs y0){m:de}(J:m.ok):AM.eo ⟨A0,T,A2⟩ 16 [m.F] [.bool (y6 m)]:=by
 refine⟨[.bool (y6 m)],⟨[],0,[]⟩,?_,E1 rfl zqr rfl rfl rfl⟩;rw[A7 (c:=NV) (nt:=21) (rs:=[.tmp 2]) rfl (by simp)];unfold NV;unfold K0;have I:lz m.fs<=cp:=by have:=J.2.1;simp only[cp]at this|-;omega
 have t:=fun K=>kE (K:=K) D J
 unfold y6;cases hb:Dd m with
 |true=>
  rw[hb]at t;simp only[de.F]at t|-;simp only[t,zqa,zqb,zqc,XP,seval]
  done
 |false=>
  rw[hb]at t;rcases qe (P:=⟨A0,T,A2⟩) (c:=Qb) (p:=fun c:Cod=>decide (40<lz c.blocks)) (l:=m.fs) (S:=fun i=>[(1,.ptr 0 0 0),(3,.int .i64 (i:Int))]) (K:=⟨[.row 1 [m.F] 2],0,[]⟩) (fun i h G=>LM h I G) (fun i h G=>LN h G) LO with⟨e,h⟩|⟨e,fr',h⟩
  . rw[e]
    simp only[show((0:Nat):Int)=0 from rfl]at h;simp only[de.F]at t h|-;simp only[t,h,zqa,zqb,zqc,XP,seval]
    done
  . rw[e]
    simp only[show((0:Nat):Int)=0 from rfl]at h;simp only[de.F]at t h|-;simp only[t,h,zqa,zqb,zqc,XP,seval]
    done
def y8:=Ck (fun p:(de)=>[p.F]) (fun p=>[.bool (y6 p)]) (fun p=>p.ok)
theorem kP(D:T 16=zs y8){m:de}{K:PK}(G:m.ok):evP ⟨A0,T,A2⟩ (.call 16 [m.F] K)=zs (.val (W2 (lz K.os) [.bool (y6 m)]).1 ⟨K.os++(W2 (lz K.os) [.bool (y6 m)]).2,K.ext,K.tch⟩):=E6 D (by simp only[VV,XP,seval]) (F2 (a:=fun p:(de)=>[p.F]) (r:=fun p=>[.bool (y6 p)]) (fun x y e=>by simp only[VJ]at e;simp only[e]) (m) G) (by simp only[VN,XP,seval])
theorem cJ(D:T 36=zs y0)(hP:ep ⟨A0,T,A2⟩):TC A0 16 y8:=F9 hP fun p h=>Rb D h
theorem Rc(D:T 16=zs y8){m:de}(J:m.ok):AM.eo ⟨A0,T,A2⟩ 5 [m.F] [.bool (y7 m)]:=by
 refine⟨[.bool (y7 m)],⟨[],0,[]⟩,?_,E1 rfl zqr rfl rfl rfl⟩;rw[A7 (c:=p5) (nt:=21) (rs:=[.tmp 2]) rfl (by simp)];unfold p5;unfold K0;have I:lz m.fs<=cp:=by have:=J.2.1;simp only[cp]at this|-;omega
 have t:=fun K=>kP (K:=K) D J
 unfold y7;cases hb:y6 m with
 |true=>
  rw[hb]at t;simp only[de.F]at t|-;simp only[t,zqa,zqb,zqc,XP,seval]
  done
 |false=>
  rw[hb]at t;rcases qe (P:=⟨A0,T,A2⟩) (c:=eW) (p:=fun c:Cod=>decide (60<lz c.x0g)) (l:=m.fs) (S:=fun i=>[(1,.ptr 0 0 0),(3,.int .i64 (i:Int))]) (K:=⟨[.row 1 [m.F] 2],0,[]⟩) (fun i h G=>LP h I G) (fun i h G=>LQ h G) LR with⟨e,h⟩|⟨e,fr',h⟩
  . rw[e]
    simp only[show((0:Nat):Int)=0 from rfl]at h;simp only[de.F]at t h|-;simp only[t,h,zqa,zqb,zqc,XP,seval]
    done
  . rw[e]
    simp only[show((0:Nat):Int)=0 from rfl]at h;simp only[de.F]at t h|-;simp only[t,h,zqa,zqb,zqc,XP,seval]
    done
def Dh:=Ck (fun p:(de)=>[p.F]) (fun p=>[.bool (y7 p)]) (fun p=>p.ok)
theorem kQ(D:T 5=zs Dh){m:de}{K:PK}(G:m.ok):evP ⟨A0,T,A2⟩ (.call 5 [m.F] K)=zs (.val (W2 (lz K.os) [.bool (y7 m)]).1 ⟨K.os++(W2 (lz K.os) [.bool (y7 m)]).2,K.ext,K.tch⟩):=E6 D (by simp only[VV,XP,seval]) (F2 (a:=fun p:(de)=>[p.F]) (r:=fun p=>[.bool (y7 p)]) (fun x y e=>by simp only[VJ]at e;simp only[e]) (m) G) (by simp only[VN,XP,seval])
theorem cK(D:T 16=zs y8)(hP:ep ⟨A0,T,A2⟩):TC A0 5 Dh:=F9 hP fun p h=>Rc D h
def kR(A:List (List Bool))(c:Cod)(l:List Int)(r:Nat)(q:Int)(k:Nat):Bool:=decide (l.getD k 0=q)&&(!decide (c.x0g.getD k 0=c.x0g.getD r 0)||(po A k r||po A r k))
structure x3(A:List (List Bool))(c:Cod)(l:List Int)(r:Nat)(q:Int):Prop where
 sq:SqT A (lz c.x0g)
 ll:lz l=lz c.x0g
 rr:r<lz c.x0g
 nn:lz c.x0g<=100000
 ex:∃k,k<r/\kR A c l r q k=zt
section
variable {A:List (List Bool)}{c:Cod}{l:List Int}{r k:Nat}{q:Int}
theorem ZW(Y:SqT A (lz c.x0g))(hl:lz l=lz c.x0g)(hr:r<lz c.x0g)(hk:k<r)(hn:lz c.x0g<=100000):
 (kR A c l r q k=zf->evP ⟨A0,T,A2⟩ (.code eX [(1,Vx (ints l)),(2,Vx (Q2 A)),(3,.int .i64 (r:Int)),(4,.int .i64 q),(5,.ptr 0 0 0),(11,.int .i64 (k:Int))] ⟨[.row 1 [c.F] 5],0,[]⟩)=zs (.ok .normal [(1,Vx (ints l)),(2,Vx (Q2 A)),(3,.int .i64 (r:Int)),(4,.int .i64 q),(5,.ptr 0 0 0),(11,.int .i64 ((k+1:Nat):Int))] ⟨[.row 1 [c.F] 5],0,[]⟩))/\
 (kR A c l r q k=zt->evP ⟨A0,T,A2⟩ (.code eX [(1,Vx (ints l)),(2,Vx (Q2 A)),(3,.int .i64 (r:Int)),(4,.int .i64 q),(5,.ptr 0 0 0),(11,.int .i64 (k:Int))] ⟨[.row 1 [c.F] 5],0,[]⟩)=zs (.ok .ret [(10,.bool zf)] ⟨[],0,[]⟩)):=by
 have D:decide ((k:Int)<(r:Int))=zt:=by simp[hk]
 have N:=A8 (i:=k) (by omega);have G:=C6 (l:=l) (i:=k) (by omega);rw[fT (by omega)]at G;have I:=C6 (l:=c.x0g) (i:=k) (by omega);rw[fT (by omega)]at I;have J:=C6 hr;rw[fT hr]at J;have Q:=He (A:=A) (i:=k) (by rw[Y.l];omega);have U:=He (A:=A) (i:=r) (by rw[Y.l];omega);have V:=D9 (l:=A.getD k []) (i:=r) (by rw[Y.r k (by omega)];exact hr);have X:=D9 (l:=A.getD r []) (i:=k) (by rw[Y.r r hr];omega);have e:kR A c l r q k=(decide (l.getD k 0=q)&&(!decide (c.x0g.getD k 0=c.x0g.getD r 0)||((A.getD k []).getD r zf||(A.getD r []).getD k zf))):=rfl;rw[e];simp only[Cod.F];unfold eX;generalize (A.getD k []).getD r zf=u at *;generalize (A.getD r []).getD k zf=v at *;generalize l.getD k 0=lk at *;generalize c.x0g.getD k 0=ck at *;generalize c.x0g.getD r 0=cr at *;by_cases h1:lk=q
 . have d1:decide (lk=q)=zt:=decide_eq_true h1
   by_cases h2:ck=cr
   . have d2:decide (ck=cr)=zt:=decide_eq_true h2
     rw[d1,d2];cases u with
     |true=>exact⟨fun h=>(by cases h),fun _=>by simp only[D,N,G,I,J,Q,U,V,X,d1,d2,zqa,zqb,zqc,XP,seval]⟩
     | false=>cases v with
      |true=>exact⟨fun h=>(by cases h),fun _=>by simp only[D,N,G,I,J,Q,U,V,X,d1,d2,zqa,zqb,zqc,XP,seval]⟩
      |false=>exact⟨fun h=>by simp only[D,N,G,I,J,Q,U,V,X,d1,d2,zqa,zqb,zqc,XP,seval],fun h=>(by cases h)⟩
   . have d2:decide (ck=cr)=zf:=decide_eq_false h2
     rw[d1,d2];exact⟨fun h=>(by cases h),fun _=>by simp only[D,N,G,I,J,Q,U,V,X,d1,d2,zqa,zqb,zqc,XP,seval]⟩
 . have d1:decide (lk=q)=zf:=decide_eq_false h1
   rw[d1];exact⟨fun h=>by simp only[D,N,G,I,J,Q,U,V,X,d1,zqa,zqb,zqc,XP,seval],fun h=>(by cases h)⟩
theorem LS(h:x3 A c l r q):∀(d k:Nat),(∃z,z<r/\kR A c l r q z=zt/\k<=z)->r=k+d->evP ⟨A0,T,A2⟩ (.code (.loop eX) [(1,Vx (ints l)),(2,Vx (Q2 A)),(3,.int .i64 (r:Int)),(4,.int .i64 q),(5,.ptr 0 0 0),(11,.int .i64 (k:Int))] ⟨[.row 1 [c.F] 5],0,[]⟩)=zs (.ok .ret [(10,.bool zf)] ⟨[],0,[]⟩)
 |0,k,⟨z,h1,h2,h3⟩,e=>by omega
 |d+1,k,⟨z,h1,h2,h3⟩,e=>by
  obtain⟨D,G⟩:=ZW (T:=T) (A:=A) (c:=c) (l:=l) (r:=r) (k:=k) (q:=q) h.sq h.ll h.rr (by omega) h.nn;cases hb:kR A c l r q k with
  |true=>exact Cg (G hb)
  |false=>
   rw[B0 (D hb)];refine LS h d (k+1) ⟨z,h1,h2,?_⟩ (by omega);by_cases hz:k=z
   . subst hz;rw[h2]at hb;cases hb
   . omega
end
theorem Mw  {A:List (List Bool)} {c:Cod} {l:List Int} {r:Nat} {q:Int} (D:x3 A c l r q):AM.eo ⟨A0,T,A2⟩ 11 [c.F,Vx (ints l),Vx (Q2 A),.int .i64 (r:Int),.int .i64 q] [.bool zf]:=by
 refine⟨[.bool zf],⟨[],0,[]⟩,?_,E1 rfl zqr rfl rfl rfl⟩;rw[A7 (c:=GT) (nt:=54) (rs:=[.tmp 10]) rfl (by simp)];unfold GT;unfold K0;obtain⟨z,G,I⟩:=D.ex;have h:=LS (T:=T) D r 0 ⟨z,G,I,by omega⟩ (by omega);simp only[show((0:Nat):Int)=0 from rfl]at h;simp only[Cod.F]at h|-;simp only[h,zqa,zqb,zqc,XP,seval]
def I2:=Ck (fun p:(List (List Bool))×(Cod)×(List Int)×(Nat)×(Int)=>[p.2.1.F,Vx (ints p.2.2.1),Vx (Q2 p.1),.int .i64 (p.2.2.2.1:Int),.int .i64 p.2.2.2.2]) (fun p=>[.bool zf]) (fun p=>x3 p.1 p.2.1 p.2.2.1 p.2.2.2.1 p.2.2.2.2)
theorem Uv(D:T 11=zs I2){A:List (List Bool)}{c:Cod}{l:List Int}{r:Nat}{q:Int}{K:PK}{args:List AV}(G:gb K.os args=zs [c.F,Vx (ints l),Vx (Q2 A),.int .i64 (r:Int),.int .i64 q])(I:x3 A c l r q):evP ⟨A0,T,A2⟩ (.call 11 args K)=zs (.val (W2 (lz K.os) [.bool zf]).1 ⟨K.os++(W2 (lz K.os) [.bool zf]).2,K.ext,K.tch⟩):=E6 D G (F2 (a:=fun p:(List (List Bool))×(Cod)×(List Int)×(Nat)×(Int)=>[p.2.1.F,Vx (ints p.2.2.1),Vx (Q2 p.1),.int .i64 (p.2.2.2.1:Int),.int .i64 p.2.2.2.2]) (r:=fun p=>[.bool zf]) (fun x y e=>by simp only[VJ,fP]at e;simp only[e]) (A,c,l,r,q) I) (by generalize (refsL args).isEmpty=z;simp only[VN,XP,seval])
theorem Uw  (hP:ep ⟨A0,T,A2⟩):TC A0 11 I2:=F9 hP fun p h=>Mw  h
section
variable {A:List (List Bool)}{c:Cod}{l ks:List Int}{BQ gF fF:List AV}{n nc nb r k q:Nat}{ti:Int}{nm:List UInt8}{ty ps:Int}
theorem ZX(Q:SqT A n)(hl:lz l=n)(U:r<n)(hk:k<r)(hn:n<=100000)(D:l.getD k 0=l.getD r 0->po A k r=zf/\po A r k=zf):
 evP ⟨A0,T,A2⟩ (.code pB [(1,.ptr 0 0 0),(3,.int .i64 ti),(4,.ptr 1 0 0),(5,.msl 2 0 n 1),(6,.ptr 3 0 0),(7,.msl 4 0 n 1),(8,.int .i64 (r:Int)),(9,.int .i64 (k:Int))] ⟨[.row 1 [.agg [Vx gF,Vx fF]] 2,.row 1 [c.F] 5,.row 0 (ints l) 1,.row 1 [.agg [.str nm,.int .i64 ty,.int .i64 ps,.msl 5 0 nc 1,.msl 6 0 nb 5]] 5,.row 0 (tab A) 1,.row 0 (ints ks) 1,.row 0 BQ 5],0,[]⟩)=zs (.ok .normal [(1,.ptr 0 0 0),(3,.int .i64 ti),(4,.ptr 1 0 0),(5,.msl 2 0 n 1),(6,.ptr 3 0 0),(7,.msl 4 0 n 1),(8,.int .i64 (r:Int)),(9,.int .i64 ((k+1:Nat):Int))] ⟨[.row 1 [.agg [Vx gF,Vx fF]] 2,.row 1 [c.F] 5,.row 0 (ints l) 1,.row 1 [.agg [.str nm,.int .i64 ty,.int .i64 ps,.msl 5 0 nc 1,.msl 6 0 nb 5]] 5,.row 0 (tab A) 1,.row 0 (ints ks) 1,.row 0 BQ 5],0,[]⟩):=by
 have G:decide ((k:Int)<(r:Int))=zt:=by simp[hk]
 have hw:=A8 (i:=k) (by omega);have V:=C6 (l:=l) (i:=k) (by omega);rw[fT (by omega)]at V;have X:=C6 (l:=l) (i:=r) (by omega);rw[fT (by omega)]at X;have t1:=K6 (A:=A) (i:=k) (by rw[Q.l];omega);have t2:=K6 (A:=A) (i:=r) (by rw[Q.l];omega);have I:=Q.r k (by omega);have J:=Q.r r U;have b1:=D9 (l:=A.getD k []) (i:=r) (by omega);have b2:=D9 (l:=A.getD r []) (i:=k) (by omega);have Y:lz (bools (A.getD k []))=n:=by rw[zqd];exact I
 have aa:lz (bools (A.getD r []))=n:=by rw[zqd];exact J
 have N:k<n:=by omega
 unfold po at D;simp only[Cod.F];unfold pB HV HU DQ;generalize l.getD k 0=x at *;generalize l.getD r 0=y at *;by_cases h1:x=y
 . have d1:decide (x=y)=zt:=decide_eq_true h1
   obtain⟨e1,e2⟩:=D h1;rw[e1]at b1;rw[e2]at b2;simp only[G,hw,V,X,t1,t2,I,J,Y,aa,b1,b2,d1,U,N,zqa,zqb,zqc,C8,C9,D1,D2,D3,D4,XP,seval]
   done
 . have d1:decide (x=y)=zf:=decide_eq_false h1
   simp only[G,hw,V,X,d1,U,N,zqa,zqb,zqc,C8,C9,D1,D2,D3,D4,XP,seval]
   done
theorem ZY(hn:n<=100000):∃fr',evP ⟨A0,T,A2⟩ (.code pB [(1,.ptr 0 0 0),(3,.int .i64 ti),(4,.ptr 1 0 0),(5,.msl 2 0 n 1),(6,.ptr 3 0 0),(7,.msl 4 0 n 1),(8,.int .i64 (r:Int)),(9,.int .i64 (r:Int))] ⟨[.row 1 [.agg [Vx gF,Vx fF]] 2,.row 1 [c.F] 5,.row 0 (ints l) 1,.row 1 [.agg [.str nm,.int .i64 ty,.int .i64 ps,.msl 5 0 nc 1,.msl 6 0 nb 5]] 5,.row 0 (tab A) 1,.row 0 (ints ks) 1,.row 0 BQ 5],0,[]⟩)=zs (.ok (.exit 4) fr' ⟨[.row 1 [.agg [Vx gF,Vx fF]] 2,.row 1 [c.F] 5,.row 0 (ints l) 1,.row 1 [.agg [.str nm,.int .i64 ty,.int .i64 ps,.msl 5 0 nc 1,.msl 6 0 nb 5]] 5,.row 0 (tab A) 1,.row 0 (ints ks) 1,.row 0 BQ 5],0,[]⟩)/\FR fr' 1=.ptr 0 0 0/\FR fr' 3=.int .i64 ti/\FR fr' 4=.ptr 1 0 0/\FR fr' 5=.msl 2 0 n 1/\FR fr' 6=.ptr 3 0 0/\FR fr' 7=.msl 4 0 n 1/\FR fr' 8=.int .i64 (r:Int):=by
 have D:decide ((r:Int)<(r:Int))=zf:=by simp
 unfold pB DQ;simp only[D,XP,seval];exact⟨_,rfl,rfl,rfl,rfl,rfl,rfl,rfl,rfl⟩
theorem LU(G:SqT A n)(hl:lz l=n)(I:r<n)(hn:n<=100000)(D:∀k,k<r->l.getD k 0=l.getD r 0->po A k r=zf/\po A r k=zf):∀(d k:Nat),r=k+d ->
 ∃fr',evP ⟨A0,T,A2⟩ (.code (.loop pB) [(1,.ptr 0 0 0),(3,.int .i64 ti),(4,.ptr 1 0 0),(5,.msl 2 0 n 1),(6,.ptr 3 0 0),(7,.msl 4 0 n 1),(8,.int .i64 (r:Int)),(9,.int .i64 (k:Int))] ⟨[.row 1 [.agg [Vx gF,Vx fF]] 2,.row 1 [c.F] 5,.row 0 (ints l) 1,.row 1 [.agg [.str nm,.int .i64 ty,.int .i64 ps,.msl 5 0 nc 1,.msl 6 0 nb 5]] 5,.row 0 (tab A) 1,.row 0 (ints ks) 1,.row 0 BQ 5],0,[]⟩)=zs (.ok (.exit 4) fr' ⟨[.row 1 [.agg [Vx gF,Vx fF]] 2,.row 1 [c.F] 5,.row 0 (ints l) 1,.row 1 [.agg [.str nm,.int .i64 ty,.int .i64 ps,.msl 5 0 nc 1,.msl 6 0 nb 5]] 5,.row 0 (tab A) 1,.row 0 (ints ks) 1,.row 0 BQ 5],0,[]⟩)/\FR fr' 1=.ptr 0 0 0/\FR fr' 3=.int .i64 ti/\FR fr' 4=.ptr 1 0 0/\FR fr' 5=.msl 2 0 n 1/\FR fr' 6=.ptr 3 0 0/\FR fr' 7=.msl 4 0 n 1/\FR fr' 8=.int .i64 (r:Int)
 |0,k,e=>by
  obtain rfl:k=r:=by omega
  obtain⟨fr',h,J⟩:=ZY (T:=T) (A:=A) (c:=c) (l:=l) (ks:=ks) (BQ:=BQ) (gF:=gF) (fF:=fF) (n:=n) (nc:=nc) (nb:=nb) (r:=k) (ti:=ti) (nm:=nm) (ty:=ty) (ps:=ps) hn;exact⟨fr',B4 h,J⟩
 |d+1,k,e=>by
  have h:=ZX (T:=T) (c:=c) (ks:=ks) (BQ:=BQ) (gF:=gF) (fF:=fF) (nc:=nc) (nb:=nb) (k:=k) (ti:=ti) (nm:=nm) (ty:=ty) (ps:=ps) G hl I (by omega) hn (D k (by omega));obtain⟨fr',h',k'⟩:=LU G hl I hn D d (k+1) (by omega);exact⟨fr',(B0 h).trans h',k'⟩
theorem ZZ(U:T 11=zs I2)(D:x3 A c l r (k:Int))(hn:lz c.x0g=n)(V:l.getD r 0=(q:Int))(X:k<q)(hqn:q<=100000)(I:c.ps<=(r:Int)):
 evP ⟨A0,T,A2⟩ (.code jQ [(1,.ptr 0 0 0),(3,.int .i64 ti),(4,.ptr 1 0 0),(5,.msl 2 0 n 1),(6,.ptr 3 0 0),(7,.msl 4 0 n 1),(8,.int .i64 (r:Int)),(10,.int .i64 (k:Int))] ⟨[.row 1 [.agg [Vx gF,Vx fF]] 2,.row 1 [c.F] 5,.row 0 (ints l) 1,.row 1 [.agg [.str nm,.int .i64 ty,.int .i64 ps,.msl 5 0 nc 1,.msl 6 0 nb 5]] 5,.row 0 (tab A) 1,.row 0 (ints ks) 1,.row 0 BQ 5],0,[]⟩)=zs (.ok .normal [(1,.ptr 0 0 0),(3,.int .i64 ti),(4,.ptr 1 0 0),(5,.msl 2 0 n 1),(6,.ptr 3 0 0),(7,.msl 4 0 n 1),(8,.int .i64 (r:Int)),(10,.int .i64 ((k+1:Nat):Int))] ⟨[.row 1 [.agg [Vx gF,Vx fF]] 2,.row 1 [c.F] 5,.row 0 (ints l) 1,.row 1 [.agg [.str nm,.int .i64 ty,.int .i64 ps,.msl 5 0 nc 1,.msl 6 0 nb 5]] 5,.row 0 (tab A) 1,.row 0 (ints ks) 1,.row 0 BQ 5],0,[]⟩):=by
 have J:decide ((k:Int)<(q:Int))=zt:=by simp[X]
 have hw:=A8 (i:=k) (by omega);have G:r<lz l:=by have:=D.rr;have:=D.ll;omega
 have Q:=C6 G;rw[fT G,V]at Q;have d1:decide ((r:Int)>=c.ps)=zt:=decide_eq_true I;have hl:=D.ll;have hAl:=D.sq.l;have N:r<n:=by have:=D.rr;omega
 have t:∀K:PK,cd K.os 6 2=zs (0,ints l,1)->cd K.os 6 4=zs (0,tab A,1)->evP ⟨A0,T,A2⟩ (.call 11 [c.F,.msl 2 0 n 1,.msl 4 0 n 1,.int .i64 (r:Int),.int .i64 (k:Int)] K)=zs (.val [.bool zf] ⟨K.os++[],K.ext,K.tch⟩):=fun K Y h2=>by
  refine Uv (A:=A) (c:=c) (l:=l) (r:=r) (q:=(k:Int)) U ?_ D;have v1:gh K.os (.msl 2 0 n 1)=zs (Vx (ints l)):=by
   rw[pg,Y];show(if 0=0/\1=1/\0+n<=lz (ints l) then(match frzL (((ints l).drop 0).take n)with|some es=>zs (Vx es)|none=>zn)else zn)=_
   rw[if_pos ⟨rfl,rfl,by simp[ints];omega⟩,zqm,zqv (by simp[ints];omega),fm]
  have v2:gh K.os (.msl 4 0 n 1)=zs (Vx (Q2 A)):=by
   rw[pg,h2];show(if 0=0/\1=1/\0+n<=lz (tab A) then(match frzL (((tab A).drop 0).take n)with|some es=>zs (Vx es)|none=>zn)else zn)=_
   rw[if_pos ⟨rfl,rfl,by simp[tab];omega⟩,zqm,zqv (by simp[tab];omega),fQ]
  show gu (viewA K.os c.F) (gu (gh K.os (.msl 2 0 n 1)) (gu (gh K.os (.msl 4 0 n 1)) (gu (zs _) (gu (zs _) (zs [])))))=_
  rw[Cod.viewF,v1,v2];rfl
 simp only[Cod.F]at t|-;unfold jQ zR zQ DS;simp only[J,hw,Q,d1,N,t,zqa,zqb,zqc,C8,C9,D1,D2,D3,D4,XP,seval]
 done
theorem LV(G:r<lz l)(hl:lz l=n)(N:l.getD r 0=(q:Int))(h:k=q\/(r:Int)<c.ps)(hkq:k<=q):
 ∃fr',evP ⟨A0,T,A2⟩ (.code jQ [(1,.ptr 0 0 0),(3,.int .i64 ti),(4,.ptr 1 0 0),(5,.msl 2 0 n 1),(6,.ptr 3 0 0),(7,.msl 4 0 n 1),(8,.int .i64 (r:Int)),(10,.int .i64 (k:Int))] ⟨[.row 1 [.agg [Vx gF,Vx fF]] 2,.row 1 [c.F] 5,.row 0 (ints l) 1,.row 1 [.agg [.str nm,.int .i64 ty,.int .i64 ps,.msl 5 0 nc 1,.msl 6 0 nb 5]] 5,.row 0 (tab A) 1,.row 0 (ints ks) 1,.row 0 BQ 5],0,[]⟩)=zs (.ok (.exit 6) fr' ⟨[.row 1 [.agg [Vx gF,Vx fF]] 2,.row 1 [c.F] 5,.row 0 (ints l) 1,.row 1 [.agg [.str nm,.int .i64 ty,.int .i64 ps,.msl 5 0 nc 1,.msl 6 0 nb 5]] 5,.row 0 (tab A) 1,.row 0 (ints ks) 1,.row 0 BQ 5],0,[]⟩)/\FR fr' 1=.ptr 0 0 0/\FR fr' 3=.int .i64 ti/\FR fr' 4=.ptr 1 0 0/\FR fr' 5=.msl 2 0 n 1/\FR fr' 6=.ptr 3 0 0/\FR fr' 7=.msl 4 0 n 1/\FR fr' 8=.int .i64 (r:Int):=by
 have J:=C6 G;rw[fT G,N]at J;have I:r<n:=by omega
 simp only[Cod.F];unfold jQ DS;by_cases e:k=q
 . have D:decide ((k:Int)<(q:Int))=zf:=decide_eq_false (by omega)
   simp only[D,J,I,XP,seval];exact⟨_,rfl,rfl,rfl,rfl,rfl,rfl,rfl,rfl⟩
 . have D:decide ((k:Int)<(q:Int))=zt:=decide_eq_true (by omega)
   have d1:decide ((r:Int)>=c.ps)=zf:=decide_eq_false (by have:=h.resolve_left e;omega);simp only[D,J,I,d1,XP,seval];exact⟨_,rfl,rfl,rfl,rfl,rfl,rfl,rfl,rfl⟩
theorem LW(Q:T 11=zs I2)(hn:lz c.x0g=n)(D:r<lz l)(hl:lz l=n)(N:l.getD r 0=(q:Int))(G:q<=100000)(I:c.ps<=(r:Int))(J:∀k,k<q->x3 A c l r (k:Int)):∀(d k:Nat),q=k+d ->
 ∃fr',evP ⟨A0,T,A2⟩ (.code (.loop jQ) [(1,.ptr 0 0 0),(3,.int .i64 ti),(4,.ptr 1 0 0),(5,.msl 2 0 n 1),(6,.ptr 3 0 0),(7,.msl 4 0 n 1),(8,.int .i64 (r:Int)),(10,.int .i64 (k:Int))] ⟨[.row 1 [.agg [Vx gF,Vx fF]] 2,.row 1 [c.F] 5,.row 0 (ints l) 1,.row 1 [.agg [.str nm,.int .i64 ty,.int .i64 ps,.msl 5 0 nc 1,.msl 6 0 nb 5]] 5,.row 0 (tab A) 1,.row 0 (ints ks) 1,.row 0 BQ 5],0,[]⟩)=zs (.ok (.exit 6) fr' ⟨[.row 1 [.agg [Vx gF,Vx fF]] 2,.row 1 [c.F] 5,.row 0 (ints l) 1,.row 1 [.agg [.str nm,.int .i64 ty,.int .i64 ps,.msl 5 0 nc 1,.msl 6 0 nb 5]] 5,.row 0 (tab A) 1,.row 0 (ints ks) 1,.row 0 BQ 5],0,[]⟩)/\FR fr' 1=.ptr 0 0 0/\FR fr' 3=.int .i64 ti/\FR fr' 4=.ptr 1 0 0/\FR fr' 5=.msl 2 0 n 1/\FR fr' 6=.ptr 3 0 0/\FR fr' 7=.msl 4 0 n 1/\FR fr' 8=.int .i64 (r:Int)
 |0,k,e=>by
  obtain⟨fr',h,U⟩:=LV (T:=T) (A:=A) (c:=c) (ks:=ks) (BQ:=BQ) (gF:=gF) (fF:=fF) (nc:=nc) (nb:=nb) (k:=k) (ti:=ti) (nm:=nm) (ty:=ty) (ps:=ps) D hl N (.inl (by omega)) (by omega);exact⟨fr',B4 h,U⟩
 |d+1,k,e=>by
  have h:=ZZ (T:=T) (A:=A) (ks:=ks) (BQ:=BQ) (gF:=gF) (fF:=fF) (nc:=nc) (nb:=nb) (k:=k) (ti:=ti) (nm:=nm) (ty:=ty) (ps:=ps) Q (J k (by omega)) hn N (by omega) G I;obtain⟨fr',h',k'⟩:=LW Q hn D hl N G I J d (k+1) (by omega);exact⟨fr',(B0 h).trans h',k'⟩
end
structure f0n(A:List (List Bool))(c:Cod)(l ks:List Int):Prop where
 sq:SqT A (lz c.x0g)
 ll:lz l=lz c.x0g
 nn:lz c.x0g<=60
 kl:lz ks<=lz c.x0g
 pos:∀r,r<lz c.x0g->∃q:Nat,l.getD r 0=(q:Int)/\q<=r/\q<lz ks/\ks.getD q 0=c.x0g.getD r 0/\((r:Int)<c.ps->q=r)/\(c.ps<=(r:Int)->∀k,k<q->x3 A c l r ((k:Nat):Int))
 ap:∀r,r<lz c.x0g->∀k,k<r->l.getD k 0=l.getD r 0->po A k r=zf/\po A r k=zf
theorem xU{A:List (List Bool)}{c:Cod}(U:SqT A (lz c.x0g))(hn:lz c.x0g<=60):f0n A c (ng A c (lz c.x0g)).of ((ng A c (lz c.x0g)).all.map Cls.kind):=by
 have I:=uD A c (lz c.x0g);generalize ng A c (lz c.x0g)=s at *;refine⟨U,I.len,hn,by rw[zqd];exact I.le,fun r G=>?_,fun r G k V e=>?_⟩
 . obtain ⟨q,X,Y,x,Q,h4⟩:=I.pos r G
   have N:q<lz s.all:=by
    refine Classical.byContradiction fun hn=>?_
    rw[zqi (by omega)]at Q;cases Q
   refine⟨q,X,Y,by rw[zqd];exact N,?_,fun J=>?_,fun J k V=>⟨U,I.len,G,by omega,?_⟩⟩
   . rw[zqk,List.getElem?_map,Q];exact h4
   . have:=I.par r G J;omega
   . obtain⟨z,z1,z2,D⟩:=I.jn r G J k (by omega)
     refine⟨z,z1,?_⟩;unfold kR;rw[decide_eq_true z2,Bool.true_and,zko,zko];rcases D with D|D|D
     . exact .inl (by rw[decide_eq_false D];rfl)
     . exact .inr (.inl D)
     . exact .inr (.inr D)
 . exact I.ap r k G V e
section
variable {A:List (List Bool)}{c:Cod}{l ks:List Int}{BQ gF fF:List AV}{n nc nb r k q:Nat}{ti:Int}{nm:List UInt8}{ty ps:Int}
theorem A0A(hJ:T 11=zs I2)(h:f0n A c l ks)(hn:lz c.x0g=n)(hc:lz ks=nc)(J:r<n):
 evP ⟨A0,T,A2⟩ (.code pC [(1,.ptr 0 0 0),(3,.int .i64 ti),(4,.ptr 1 0 0),(5,.msl 2 0 n 1),(6,.ptr 3 0 0),(7,.msl 4 0 n 1),(8,.int .i64 (r:Int))] ⟨[.row 1 [.agg [Vx gF,Vx fF]] 2,.row 1 [c.F] 5,.row 0 (ints l) 1,.row 1 [.agg [.str nm,.int .i64 ty,.int .i64 ps,.msl 5 0 nc 1,.msl 6 0 nb 5]] 5,.row 0 (tab A) 1,.row 0 (ints ks) 1,.row 0 BQ 5],0,[]⟩)=zs (.ok .normal [(1,.ptr 0 0 0),(3,.int .i64 ti),(4,.ptr 1 0 0),(5,.msl 2 0 n 1),(6,.ptr 3 0 0),(7,.msl 4 0 n 1),(8,.int .i64 ((r+1:Nat):Int))] ⟨[.row 1 [.agg [Vx gF,Vx fF]] 2,.row 1 [c.F] 5,.row 0 (ints l) 1,.row 1 [.agg [.str nm,.int .i64 ty,.int .i64 ps,.msl 5 0 nc 1,.msl 6 0 nb 5]] 5,.row 0 (tab A) 1,.row 0 (ints ks) 1,.row 0 BQ 5],0,[]⟩):=by
 obtain⟨hA,hl,hnn,aa,I,Y⟩:=h;rw[hn]at hA hl hnn aa I Y;obtain⟨q,h1,h2,h3,h4,h5,h6⟩:=I r J;have N:decide ((r:Int)<(n:Int))=zt:=by simp[J]
 have hw:=A8 (i:=r) (by omega);have G:r<lz l:=by omega
 have g2:=C6 G;rw[fT G,h1]at g2;have Q:r<lz c.x0g:=by omega
 have g3:=C6 Q;rw[fT Q]at g3;have g4:=C6 h3;rw[fT h3,h4]at g4;have U:q<nc:=by omega
 have e1:decide ((q:Int)<0)=zf:=decide_eq_false (by omega);have e2:decide ((q:Int)>(r:Int))=zf:=decide_eq_false (by omega);have e3:decide ((q:Int)>=(nc:Int))=zf:=decide_eq_false (by omega);have e4:decide (c.x0g.getD r 0=c.x0g.getD r 0)=zt:=decide_eq_true rfl;have V:lz (ints l)=n:=by simp[ints,hl]
 have X:lz (ints ks)=nc:=by simp[ints,hc]
 obtain ⟨fr1,w1,k1,k2,k3,k4,k5,k6,k7⟩:=LU (T:=T) (A:=A) (c:=c) (l:=l) (ks:=ks) (BQ:=BQ) (gF:=gF) (fF:=fF) (n:=n) (nc:=nc) (nb:=nb) (r:=r) (ti:=ti) (nm:=nm) (ty:=ty) (ps:=ps) hA hl J (by omega) (Y r J) r 0 (by omega);have hB:∃fr',evP ⟨A0,T,A2⟩ (.code (.loop jQ) [(1,.ptr 0 0 0),(3,.int .i64 ti),(4,.ptr 1 0 0),(5,.msl 2 0 n 1),(6,.ptr 3 0 0),(7,.msl 4 0 n 1),(8,.int .i64 (r:Int)),(10,.int .i64 ((0:Nat):Int))] ⟨[.row 1 [.agg [Vx gF,Vx fF]] 2,.row 1 [c.F] 5,.row 0 (ints l) 1,.row 1 [.agg [.str nm,.int .i64 ty,.int .i64 ps,.msl 5 0 nc 1,.msl 6 0 nb 5]] 5,.row 0 (tab A) 1,.row 0 (ints ks) 1,.row 0 BQ 5],0,[]⟩)=zs (.ok (.exit 6) fr' ⟨[.row 1 [.agg [Vx gF,Vx fF]] 2,.row 1 [c.F] 5,.row 0 (ints l) 1,.row 1 [.agg [.str nm,.int .i64 ty,.int .i64 ps,.msl 5 0 nc 1,.msl 6 0 nb 5]] 5,.row 0 (tab A) 1,.row 0 (ints ks) 1,.row 0 BQ 5],0,[]⟩)/\FR fr' 1=.ptr 0 0 0/\FR fr' 3=.int .i64 ti/\FR fr' 4=.ptr 1 0 0/\FR fr' 5=.msl 2 0 n 1/\FR fr' 6=.ptr 3 0 0/\FR fr' 7=.msl 4 0 n 1/\FR fr' 8=.int .i64 (r:Int):=by
  by_cases D:c.ps<=(r:Int)
  . exact LW (T:=T) (A:=A) (ks:=ks) (BQ:=BQ) (gF:=gF) (fF:=fF) (nc:=nc) (nb:=nb) (ti:=ti) (nm:=nm) (ty:=ty) (ps:=ps) hJ hn G hl h1 (by omega) D (h6 D) q 0 (by omega)
  . obtain⟨fr',w,kk⟩:=LV (T:=T) (A:=A) (c:=c) (ks:=ks) (BQ:=BQ) (gF:=gF) (fF:=fF) (nc:=nc) (nb:=nb) (k:=0) (ti:=ti) (nm:=nm) (ty:=ty) (ps:=ps) G hl h1 (.inr (by omega)) (by omega)
    exact⟨fr',B4 w,kk⟩
 obtain⟨fr2,w2,j1,j2,j3,j4,j5,j6,j7⟩:=hB;simp only[show((0:Nat):Int)=0 from rfl]at w1 w2;simp only[Cod.F]at w1 w2|-;generalize c.x0g.getD r 0=kd at *;unfold pC zV zU zT zS HW HS DO;by_cases D:(r:Int)<c.ps
 . have d1:decide ((r:Int)<c.ps)=zt:=decide_eq_true D
   obtain rfl:=h5 D;have d2:decide ((q:Int)=(q:Int))=zt:=decide_eq_true rfl;simp only[N,hw,g2,g3,g4,U,J,e1,e2,e3,e4,d1,d2,V,X,w1,k1,k2,k3,k4,k5,k6,k7,w2,j1,j2,j3,j4,j5,j6,j7,zqa,zqb,zqc,C8,C9,D1,D2,D3,D4,XP,seval]
   done
 . have d1:decide ((r:Int)<c.ps)=zf:=decide_eq_false D
   simp only[N,hw,g2,g3,g4,U,J,e1,e2,e3,e4,d1,V,X,w1,k1,k2,k3,k4,k5,k6,k7,w2,j1,j2,j3,j4,j5,j6,j7,zqa,zqb,zqc,C8,C9,D1,D2,D3,D4,XP,seval]
   done
theorem A0B(G:r=n)(hn:n<=60):∃fr',evP ⟨A0,T,A2⟩ (.code pC [(1,.ptr 0 0 0),(3,.int .i64 ti),(4,.ptr 1 0 0),(5,.msl 2 0 n 1),(6,.ptr 3 0 0),(7,.msl 4 0 n 1),(8,.int .i64 (r:Int))] ⟨[.row 1 [.agg [Vx gF,Vx fF]] 2,.row 1 [c.F] 5,.row 0 (ints l) 1,.row 1 [.agg [.str nm,.int .i64 ty,.int .i64 ps,.msl 5 0 nc 1,.msl 6 0 nb 5]] 5,.row 0 (tab A) 1,.row 0 (ints ks) 1,.row 0 BQ 5],0,[]⟩)=zs (.ok (.exit 2) fr' ⟨[.row 1 [.agg [Vx gF,Vx fF]] 2,.row 1 [c.F] 5,.row 0 (ints l) 1,.row 1 [.agg [.str nm,.int .i64 ty,.int .i64 ps,.msl 5 0 nc 1,.msl 6 0 nb 5]] 5,.row 0 (tab A) 1,.row 0 (ints ks) 1,.row 0 BQ 5],0,[]⟩)/\FR fr' 1=.ptr 0 0 0/\FR fr' 3=.int .i64 ti:=by
 subst G;have D:decide ((r:Int)<(r:Int))=zf:=by simp
 unfold pC DO;simp only[D,XP,seval];exact⟨_,rfl,rfl,rfl⟩
theorem LX(D:T 11=zs I2)(h:f0n A c l ks)(hn:lz c.x0g=n)(hc:lz ks=nc):∀(d r:Nat),n=r+d ->
 ∃fr',evP ⟨A0,T,A2⟩ (.code (.loop pC) [(1,.ptr 0 0 0),(3,.int .i64 ti),(4,.ptr 1 0 0),(5,.msl 2 0 n 1),(6,.ptr 3 0 0),(7,.msl 4 0 n 1),(8,.int .i64 (r:Int))] ⟨[.row 1 [.agg [Vx gF,Vx fF]] 2,.row 1 [c.F] 5,.row 0 (ints l) 1,.row 1 [.agg [.str nm,.int .i64 ty,.int .i64 ps,.msl 5 0 nc 1,.msl 6 0 nb 5]] 5,.row 0 (tab A) 1,.row 0 (ints ks) 1,.row 0 BQ 5],0,[]⟩)=zs (.ok (.exit 2) fr' ⟨[.row 1 [.agg [Vx gF,Vx fF]] 2,.row 1 [c.F] 5,.row 0 (ints l) 1,.row 1 [.agg [.str nm,.int .i64 ty,.int .i64 ps,.msl 5 0 nc 1,.msl 6 0 nb 5]] 5,.row 0 (tab A) 1,.row 0 (ints ks) 1,.row 0 BQ 5],0,[]⟩)/\FR fr' 1=.ptr 0 0 0/\FR fr' 3=.int .i64 ti
 |0,r,e=>by
  obtain⟨fr',w,G⟩:=A0B (T:=T) (A:=A) (c:=c) (l:=l) (ks:=ks) (BQ:=BQ) (gF:=gF) (fF:=fF) (n:=n) (nc:=nc) (nb:=nb) (r:=r) (ti:=ti) (nm:=nm) (ty:=ty) (ps:=ps) (by omega) (by have:=h.nn;omega);exact⟨fr',B4 w,G⟩
 |d+1,r,e=>by
  have w:=A0A (T:=T) (BQ:=BQ) (gF:=gF) (fF:=fF) (nb:=nb) (r:=r) (ti:=ti) (nm:=nm) (ty:=ty) (ps:=ps) D h hn hc (by omega);obtain⟨fr',w',k'⟩:=LX D h hn hc d (r+1) (by omega);exact⟨fr',(B0 w).trans w',k'⟩
end
def S0(k:Nat):Option (List AV->Option (List AV)):=zn
def S1:=wJ S0 46 (QF ⟨A0,S0,A2⟩ 300 46)
def S2:=wJ S1 51 (QF ⟨A0,S1,A2⟩ 300 51)
def S3:=wJ S2 28 (gG ⟨A0,S2,A2⟩ 1000 28)
def S4:=wJ S3 10 (gG ⟨A0,S3,A2⟩ 1000 10)
def S5:=wJ S4 45 (gG ⟨A0,S4,A2⟩ 300 45)
def S6:=wJ S5 24 (gG ⟨A0,S5,A2⟩ 800 24)
def S7:=wJ S6 8 (gG ⟨A0,S6,A2⟩ 300 8)
def S8:=wJ S7 9 (gG ⟨A0,S7,A2⟩ 1000 9)
def S9:=wJ S8 23 (gG ⟨A0,S8,A2⟩ 300 23)
def S10:=wJ S9 15 (gG ⟨A0,S9,A2⟩ 2000 15)
theorem fU:AM.eo ⟨A0,S10,A2⟩ 7 [] [.bool zt]:=lU (n:=3000) (by kernel_rfl)
def v7:=Ck (fun p:Unit=>[]) (fun p=>[.bool zt]) (fun p=>True)
theorem cL(D:T 7=zs v7){K:PK}:evP ⟨A0,T,A2⟩ (.call 7 [] K)=zs (.val (W2 (lz K.os) [.bool zt]).1 ⟨K.os++(W2 (lz K.os) [.bool zt]).2,K.ext,K.tch⟩):=E6 D rfl (F2 (a:=fun p:Unit=>[]) (r:=fun p=>[.bool zt]) (fun x y e=>rfl) () trivial) rfl
section
variable (hP:ep ⟨A0,S0,A2⟩)
include hP
theorem BV:ep ⟨A0,S1,A2⟩:=Bh hP (wK hP _ _)
theorem BW:ep ⟨A0,S2,A2⟩:=Bh (BV hP) (wK (BV hP) _ _)
theorem BX:ep ⟨A0,S3,A2⟩:=Bh (BW hP) (Ql (BW hP) _ _)
theorem BY:ep ⟨A0,S4,A2⟩:=Bh (BX hP) (Ql (BX hP) _ _)
theorem BZ:ep ⟨A0,S5,A2⟩:=Bh (BY hP) (Ql (BY hP) _ _)
theorem CA:ep ⟨A0,S6,A2⟩:=Bh (BZ hP) (Ql (BZ hP) _ _)
theorem CB:ep ⟨A0,S7,A2⟩:=Bh (CA hP) (Ql (CA hP) _ _)
theorem CC:ep ⟨A0,S8,A2⟩:=Bh (CB hP) (Ql (CB hP) _ _)
theorem CD:ep ⟨A0,S9,A2⟩:=Bh (CC hP) (Ql (CC hP) _ _)
theorem FG:ep ⟨A0,S10,A2⟩:=Bh (CD hP) (Ql (CD hP) _ _)
theorem Ux:TC A0 7 v7:=F9 (FG hP) fun p h=>fU
end
theorem fV{m:de}(h:y7 m=zf):∀c∈m.fs,lz c.blocks<=40/\lz c.x0g<=60:=by
 unfold y7 at h;split at h
 . cases h
 . rename_i D
   have D:y6 m=zf:=by simpa using D
   unfold y6 at D;split at D
   . cases D
   . refine fun c hc=>⟨?_,?_⟩
     . have:=zkj.1 D c hc
       simp at this;omega
     . have:=zkj.1 h c hc
       simp at this;omega
theorem LY{x:Ins}(h:Do x=zt):1<=x.op/\x.op<=11:=by
 unfold Do at h;split at h
 . omega
 . split at h
   . omega
   . rw[zkp]at h
     exact⟨of_decide_eq_true h.1,of_decide_eq_true h.2⟩
theorem xV{m:de}{c:Cod}{x:Ins}(h:M7 m c x=0)(D:x.ok):lj (lz c.x0g) x:=by
 obtain ⟨w,r⟩:=kN h;have hf:Do x=zt:=by
  unfold M7 at h;split at h
  . assumption
  . cases h
 have ho:=LY hf;refine⟨fun h6 h8 h11=>?_,fun ha=>(r x.a ?_).2,fun hb=>(r x.b ?_).2,fun G y I=>(r y ?_).2,D⟩
 . unfold ch at w
   by_cases G:x.op=9
   . simp only[G,Int.reduceEq,↓reduceIte]at w
     split at w<;>omega
   . have:x.op=1\/x.op=2\/x.op=3\/x.op=4\/x.op=5\/x.op=7\/x.op=10:=by omega
     rcases this with e|e|e|e|e|e|e<;>(simp only[e,Int.reduceEq,↓reduceIte]at w;exact w)
 . unfold ci;rcases ha with e|e|e|e|e|e|e<;>simp[e]
 . unfold ci;rcases hb with e|e<;>simp[e]
 . unfold ci;simp only[G,Int.reduceEq,↓reduceIte];exact I
theorem uK{m:de}(Q:m.ok)(hb:y7 m=zf)(h:gz m=0):∀c∈m.fs,qg c/\lz c.x0g<=60:=fun c hc=>by
 obtain⟨b1,U⟩:=fV hb c hc;obtain⟨⟨q1,q2,q3⟩,I⟩:=xT (uJ h c hc);obtain⟨N,G⟩:=Q.1 c hc;refine⟨⟨⟨⟨N.2.2,by omega,N.1,by omega,fun b hb=>?_,fun b hb=>?_⟩,by simp only[cp];omega,by omega⟩,fun b hb=>?_⟩,U⟩
 . obtain⟨i1,J⟩:=kM (I b hb)
   have:=(G b hb).1.2
   exact⟨this,by simp only[cp]at this;omega,fun x D=>((G b hb).2 x D).1,fun x D=>(kN (i1 x D)).1,fun x D=>(kN (i1 x D)).2,(kO J).2⟩
 . exact(kO (kM (I b hb)).2).1
 . obtain⟨i1,J⟩:=kM (I b hb)
   have:=(G b hb).1.2
   exact⟨fun x D=>xV (i1 x D) ((G b hb).2 x D).1,by simp only[cp]at this;exact this,(kO J).2⟩
section
variable {m:de}{i:Nat}
theorem A0C(hL:T 8=zs L8)(hC:T 9=zs N5)(hH:T 10=zs O3)(hJ:T 11=zs I2)(hok:∀c∈m.fs,qg c/\c.x0g.length<=60)(hi:i<m.fs.length)(hs:m.fs.length<=cp):evP ⟨A0,T,A2⟩ (.code pD [(1,.ptr 0 0 0),(3,.int .i64 (i:Int))] ⟨[.row 1 [m.F] 2],0,[]⟩)=zs (.ok .normal [(1,.ptr 0 0 0),(3,.int .i64 ((i+1:Nat):Int))] ⟨[.row 1 [m.F] 2],0,[]⟩):=by
 have hlt:decide ((i:Int)<(m.fs.length:Int))=zt:=by simp[hi]
 have hw:=A8 (i:=i) (by simp only[cp]at hs;omega);have hg:=B9 (F:=Cod.F) hi;obtain⟨hc,hn⟩:=hok _ (zqe hi);generalize m.fs[i]=c at *;have t1:=fun K=>Ra (K:=K) hL hc.cl
 have t2:=fun K=>Ut (K:=K) hC hc
 have t3:=fun K=>Qe (K:=K) hH ⟨hc.cl.lv,hc.cl.rs⟩
 have hA:=BP (Df hc.cl.lv);have hap:=xU hA hn;unfold Xg at t2;have e0:ng (gt c) c c.x0g.length=ju c:=rfl;rw[e0]at hap;have hlB:(c.blocks.map fun b=>R2 (Hf (ju c).of b)).length=c.blocks.length:=by simp
 generalize (c.blocks.map fun b=>R2 (Hf (ju c).of b))=BQ at *;generalize (ju c).all.map Cls.kind=ks at *;generalize (ju c).of=l at *;generalize gt c=A at *;obtain⟨fr',w,k1,k2⟩:=LX (T:=T) (A:=A) (c:=c) (l:=l) (ks:=ks) (BQ:=BQ) (gF:=m.gs.map Glo.F) (fF:=m.fs.map Cod.F) (n:=c.x0g.length) (nc:=ks.length) (nb:=c.blocks.length) (ti:=i) (nm:=c.name) (ty:=c.ty) (ps:=c.ps) hJ hap rfl rfl c.x0g.length 0 (by omega);have hll:=hap.ll;have hkl:=hap.kl;have hAl:=hA.l;have hli:(ints l).length=c.x0g.length:=by simp[ints,hll]
 have hlk:(ints ks).length=ks.length:=by simp[ints]
 have hlr:(ints c.x0g).length=c.x0g.length:=by simp[ints]
 have htl:(tab A).length=c.x0g.length:=by simp[tab,hAl]
 have e1:decide ((ks.length:Int)>(c.x0g.length:Int))=zf:=decide_eq_false (by omega);have e2:decide (c.ps=c.ps)=zt:=decide_eq_true rfl;have e3:decide ((c.x0g.length:Int)=(c.x0g.length:Int))=zt:=decide_eq_true rfl;have e4:decide ((c.blocks.length:Int)=(c.blocks.length:Int))=zt:=decide_eq_true rfl;simp only[show((0:Nat):Int)=0 from rfl]at w;simp only[Cod.F,de.F]at hg t1 t2 t3 w|-;unfold pD AC AB AA zZ zY zX zW HR DN;simp -implicitDefEqProofs only[hlt,hw,hg,t1,t2,t3,w,k1,k2,hli,hlk,hlr,htl,hlB,e1,e2,e3,e4,zqd,zqa,zqb,zqc,C8,C9,D1,D2,D3,D4,XP,seval]
 done
theorem A0D:∃fr',evP ⟨A0,T,A2⟩ (.code pD [(1,.ptr 0 0 0),(3,.int .i64 (lz m.fs:Int))] ⟨[.row 1 [m.F] 2],0,[]⟩)=zs (.ok (.exit 0) fr' ⟨[.row 1 [m.F] 2],0,[]⟩):=by
 have D:decide ((lz m.fs:Int)<(lz m.fs:Int))=zf:=by simp
 unfold pD DN;simp only[de.F];simp only[D,zqd,zqa,zqb,zqc,XP,seval];exact⟨_,rfl⟩
theorem LZ(G:T 8=zs L8)(I:T 9=zs N5)(J:T 10=zs O3)(N:T 11=zs I2)(D:∀c∈m.fs,qg c/\lz c.x0g<=60)(Q:lz m.fs<=cp):∀(d i:Nat),lz m.fs=i+d ->
 ∃fr',evP ⟨A0,T,A2⟩ (.code (.loop pD) [(1,.ptr 0 0 0),(3,.int .i64 (i:Int))] ⟨[.row 1 [m.F] 2],0,[]⟩)=zs (.ok (.exit 0) fr' ⟨[.row 1 [m.F] 2],0,[]⟩)
 |0,i,e=>by
  obtain rfl:i=lz m.fs:=by omega
  obtain⟨fr',h⟩:=A0D (T:=T) (m:=m);exact⟨fr',B4 h⟩
 |d+1,i,e=>by
  have h:=A0C (T:=T) G I J N D (i:=i) (by omega) Q;obtain⟨fr',h'⟩:=LZ G I J N D Q d (i+1) (by omega);exact⟨fr',(B0 h).trans h'⟩
end
theorem Bx(Q:T 5=zs Dh)(U:T 6=zs Hc)(I:T 7=zs v7)(D:T 8=zs L8)(G:T 9=zs N5)(N:T 10=zs O3)(J:T 11=zs I2){m:de}(X:m.ok):AM.eo ⟨A0,T,A2⟩ 3 [m.F] [.bool zt]:=by
 refine⟨[.bool zt],⟨[],0,[]⟩,?_,E1 rfl zqr rfl rfl rfl⟩;rw[A7 (c:=p3) (nt:=187) (rs:=[.tmp 2]) rfl (by simp)];unfold p3;unfold K0;have Y:lz m.fs<=cp:=by have:=X.2.1;simp only[cp]at this|-;omega
 have V:=fun K=>kQ (K:=K) Q X
 have tc:=fun K=>pL (K:=K) U X
 have tw:=fun K=>cL (K:=K) I
 cases hb:y7 m with
 |true=>
  rw[hb]at V;unfold mN xG;simp only[de.F]at V|-;simp only[V,tw,zqa,zqb,zqc,XP,seval]
  done
 |false=>
  rw[hb]at V;by_cases h:gz m=0
  . have d1:decide (gz m=0)=zt:=decide_eq_true h
    obtain⟨fr',w⟩:=LZ (T:=T) D G N J (uK X hb h) Y (lz m.fs) 0 (by omega);simp only[show((0:Nat):Int)=0 from rfl]at w;unfold mN AE AD xG;generalize gz m=e at *;simp only[de.F]at V tc w|-;simp only[V,tc,tw,d1,w,zqa,zqb,zqc,XP,seval]
    done
  . have d1:decide (gz m=0)=zf:=decide_eq_false h
    unfold mN xG;generalize gz m=e at *;simp only[de.F]at V tc|-;simp only[V,tc,tw,d1,zqa,zqb,zqc,XP,seval]
    done
open Go.ChangeShapes Go.WideShapes Go.ChangeAt
section
variable {H:Type}{enc:TypeId×Value->H}{P:Program}{W:World}{base:Nat}{spare:Nat->Bool}{held:Bool}
theorem N6{E:Env}(hE:dn E P){t:Nat}{x:TI}(D:E.ti t=zs x):P.cellsOf t=x.size:=by
 obtain⟨i,z,G,I,_⟩:=(hE.ti t x D).info;unfold Program.cellsOf;rw[G];exact I
theorem Gf{E:Env}(hE:dn E P){t:Nat}{x:TI}(D:E.ti t=zs x):P.bytesOf t=x.bytes:=by
 obtain⟨i,z,G,_,I,_⟩:=(hE.ti t x D).info;unfold Program.bytesOf;rw[G];exact I
variable (hE:dn A0 P)
include hE
theorem uL:P.underlying 3=zs (.int .i64):=(hE.ti 3 eY rfl).desc
theorem CE:P.underlying 9=zs .string:=(hE.ti 9 ID rfl).desc
theorem FH:P.underlying 30=zs (.slice 3):=(hE.ti 30 bS rfl).desc
theorem uM:P.underlying 70=zs (.slice 58):=(hE.ti 70 fC rfl).desc
theorem uN:P.underlying 31=zs (.slice 74):=(hE.ti 31 fA rfl).desc
theorem xW:P.underlying 23=zs (.slice 33):=(hE.ti 23 pG rfl).desc
theorem xX:P.underlying 22=zs (.slice 50):=(hE.ti 22 pF rfl).desc
theorem Gg:P.cellsOf 3=1:=N6 hE ti3
theorem Uy:P.cellsOf 9=1:=N6 hE ti9
theorem Uz:P.cellsOf 30=1:=N6 hE XV
theorem Va:P.cellsOf 70=1:=N6 hE XX
theorem fW:P.cellsOf 31=1:=N6 hE XW
theorem mV:P.cellsOf 23=1:=N6 hE XT
theorem cM:P.cellsOf 22=1:=N6 hE XS
theorem mW:P.cellsOf 58=8:=N6 hE EB
theorem CF:P.cellsOf 72=4:=N6 hE XY
theorem mX:P.cellsOf 74=5:=N6 hE EC
theorem uO:P.cellsOf 33=5:=N6 hE DY
theorem uP:P.cellsOf 50=4:=N6 hE DZ
theorem MA:P.cellsOf 25=2:=N6 hE XU
theorem Hg{m n:Nat}{cs:List Value}{d:DataW H}{ps:List MemPlace}(h:DataW.trod enc P W base spare held n 3 cs=zs (d,ps))(hw:Wt P 3 d):∃s,X2 P (m+1) 3 d=zs s/\lz s=P.cellsOf 3/\∃z,s=[.int .i64 z]:=by
 obtain⟨z,rfl,e,_⟩:=DataW.trod_int (uL hE) h;cases e;refine⟨[.int .i64 z],?_,by rw[Gg hE];rfl,z,rfl⟩;unfold X2;rw[uL hE]
theorem cN{m n:Nat}{cs:List Value}{d:DataW H}{ps:List MemPlace}(h:DataW.trod enc P W base spare held n 9 cs=zs (d,ps))(D:Wt P 9 d):∃s,X2 P (m+1) 9 d=zs s/\lz s=P.cellsOf 9/\∃b,s=[.str b]/\lz b<=140737488355328:=by
 obtain⟨b,rfl,e,_⟩:=DataW.trod_string (CE hE) h;cases e;refine⟨[.str b.data.toList],?_,by rw[Uy hE];rfl,_,rfl,?_⟩
 . unfold X2
   rw[CE hE]
 . have:=D (lz b.data.toList) (by unfold DataW.weights;simp)
   exact Nat.le_trans this (by decide)
omit hE in
def kS(D:List AV)(z:Int):Prop:=D=[.int .i64 z]
theorem fX{m n:Nat}{cs:List Value}{d:DataW H}{ps:List MemPlace}(h:DataW.trod enc P W base spare held n 30 cs=zs (d,ps))(D:Wt P 30 d):∃s,X2 P (m+2) 30 d=zs s/\lz s=P.cellsOf 30/\∃v l,s=[v]/\Xl P 3 kS v l:=by
 obtain ⟨v,l,G,I⟩:=Aa (Q:=kS) (m:=m+1) (FH hE) (by rw[Gg hE];decide) (fun n cs d ps h D=>by
  obtain⟨s,G,I,z,rfl⟩:=Hg hE (m:=m) h D;exact⟨_,z,G,⟨I,.inr rfl⟩,rfl⟩) h D
 exact⟨[v],G,by rw[Uz hE];rfl,v,l,rfl,I⟩
omit hE in
def Kj(P:Program)(D:List AV)(I:Ins):Prop:=∃G,D=[.int .i64 I.op,.int .i64 I.ty,.int .i64 I.dst,.int .i64 I.a,.int .i64 I.b,.int .i64 I.n,.str I.s,G]/\Xl P 3 kS G I.args/\lz I.s<=140737488355328
omit hE in
theorem A0E{D:List (List AV)}(h:lz D=8):∃a b c d e f g i,D=[a,b,c,d,e,f,g,i]:=by
 match D,h with
 |[a,b,c,d,e,f,g,i],_=>exact⟨a,b,c,d,e,f,g,i,rfl⟩
theorem pR{m n:Nat}{cs:List Value}{d:DataW H}{ps:List MemPlace}(h:DataW.trod enc P W base spare held n 58 cs=zs (d,ps))(J:Wt P 58 d):∃D I,X2 P (m+3) 58 d=zs D/\(lz D=P.cellsOf 58/\(Ab P 58=zt\/lz D=1))/\Kj P D I:=by
 obtain ⟨fs,hu,X,_⟩:=(hE.ti 58 Bq rfl).desc;have X:fs.toList.map (fun f=>(f.type,f.offset))=[(3,0),(3,1),(3,2),(3,3),(3,4),(3,5),(9,6),(30,7)]:=X;obtain⟨ss,h1,h2,h3,G⟩:=m4 (m:=m+2) (Qs:=fun i s=>(i<6->∃z,s=[.int .i64 z])/\(i=6->∃b,s=[.str b]/\lz b<=140737488355328)/\(i=7->∃v l,s=[v]/\Xl P 3 kS v l)) hu X
  (by simp only[Np,Gg hE,Uy hE,Uz hE,and_self]) (by simp only[mW hE,zqg,zqf,zqn,zqo,Nat.reduceAdd,Gg hE,Uy hE,Uz hE])
  (fun i ty off V n cs d ps h J=>by
    rcases i with _|_|_|_|_|_|_|_|i
    iterate 6
     . cases V
       obtain⟨s,N,Q,U⟩:=Hg hE (m:=m+1) h J;exact⟨s,N,Q,fun _=>U,fun hh=>by omega,fun hh=>by omega⟩
    . cases V
      obtain⟨s,N,Q,U⟩:=cN hE (m:=m+1) h J;exact⟨s,N,Q,fun hh=>by omega,fun _=>U,fun hh=>by omega⟩
    . cases V
      obtain⟨s,N,Q,U⟩:=fX hE (m:=m) h J;exact⟨s,N,Q,fun hh=>by omega,fun hh=>by omega,fun _=>U⟩
    . simp at V) h J
 obtain⟨a,b,c,e,f,g,s6,s7,rfl⟩:=A0E h3;obtain⟨z0,rfl⟩:=(G 0 _ rfl).1 (by omega);obtain⟨z1,rfl⟩:=(G 1 _ rfl).1 (by omega);obtain⟨z2,rfl⟩:=(G 2 _ rfl).1 (by omega);obtain⟨z3,rfl⟩:=(G 3 _ rfl).1 (by omega);obtain⟨z4,rfl⟩:=(G 4 _ rfl).1 (by omega);obtain⟨z5,rfl⟩:=(G 5 _ rfl).1 (by omega);obtain⟨b6,rfl,Y⟩:=(G 6 _ rfl).2.1 rfl;obtain⟨v,l,rfl,hv⟩:=(G 7 _ rfl).2.2 rfl;exact⟨_,⟨z0,z1,z2,z3,z4,z5,b6,l⟩,h1,⟨h2,.inl (by unfold Ab;rw[hu])⟩,v,rfl,hv,Y⟩
omit hE in
def Kk(P:Program)(D:List AV)(B:Blk):Prop:=∃G,D=[G,.int .i64 B.e.kind,.int .i64 B.e.a,.int .i64 B.e.to,.int .i64 B.e.x0h]/\Xl P 58 (Kj P) G B.code
theorem kT{m n:Nat}{cs:List Value}{d:DataW H}{ps:List MemPlace}(h:DataW.trod enc P W base spare held n 70 cs=zs (d,ps))(D:Wt P 70 d):∃s,X2 P (m+4) 70 d=zs s/\lz s=P.cellsOf 70/\∃v l,s=[v]/\Xl P 58 (Kj P) v l:=by
 obtain⟨v,l,G,I⟩:=Aa (Q:=Kj P) (m:=m+3) (uM hE) (by rw[mW hE];decide) (fun n cs d ps h D=>pR hE h D) h D;exact⟨[v],G,by rw[Va hE];rfl,v,l,rfl,I⟩
theorem xY{m n:Nat}{cs:List Value}{d:DataW H}{ps:List MemPlace}(h:DataW.trod enc P W base spare held n 72 cs=zs (d,ps))(G:Wt P 72 d):∃s,X2 P (m+2) 72 d=zs s/\lz s=P.cellsOf 72/\∃x y z w,s=[.int .i64 x,.int .i64 y,.int .i64 z,.int .i64 w]:=by
 obtain ⟨fs,N,I,_⟩:=(hE.ti 72 Wx rfl).desc;have I:fs.toList.map (fun f=>(f.type,f.offset))=[(3,0),(3,1),(3,2),(3,3)]:=I;obtain⟨Q,U,V,X,D⟩:=m4 (m:=m+1) (Qs:=fun i s=>∃z,s=[.int .i64 z]) N I
  (by simp only[Np,Gg hE,and_self]) (by simp only[CF hE,zqg,zqf,zqn,zqo,Nat.reduceAdd,Gg hE])
  (fun i ty off J n cs d ps h G=>by
    rcases i with _|_|_|_|i
    iterate 4
     . cases J
       exact Hg hE (m:=m) h G
    . simp at J) h G
 match Q,X with
 |[a,b,c,e],_=>
  obtain⟨Y,rfl⟩:=D 0 _ rfl;obtain⟨z1,rfl⟩:=D 1 _ rfl;obtain⟨z2,rfl⟩:=D 2 _ rfl;obtain⟨z3,rfl⟩:=D 3 _ rfl;exact⟨_,U,V,Y,z1,z2,z3,rfl⟩
theorem pS{m n:Nat}{cs:List Value}{d:DataW H}{ps:List MemPlace}(h:DataW.trod enc P W base spare held n 74 cs=zs (d,ps))(G:Wt P 74 d):∃D B,X2 P (m+5) 74 d=zs D/\(lz D=P.cellsOf 74/\(Ab P 74=zt\/lz D=1))/\Kk P D B:=by
 obtain ⟨fs,V,J,_⟩:=(hE.ti 74 Ie rfl).desc;have J:fs.toList.map (fun f=>(f.type,f.offset))=[(70,0),(72,1)]:=J;obtain⟨Y,h1,h2,h3,X⟩:=m4 (m:=m+4) (Qs:=fun i s=>(i=0->∃v l,s=[v]/\Xl P 58 (Kj P) v l)/\(i=1->∃x y z w,s=[.int .i64 x,.int .i64 y,.int .i64 z,.int .i64 w])) V J
  (by simp only[Np,Va hE,and_self]) (by simp only[mX hE,zqg,zqf,zqn,zqo,Nat.reduceAdd,Va hE,CF hE])
  (fun i ty off I n cs d ps h G=>by
    rcases i with _|_|i
    . cases I
      obtain⟨s,N,Q,U⟩:=kT hE (m:=m) h G;exact⟨s,N,Q,fun _=>U,fun hh=>by omega⟩
    . cases I
      obtain⟨s,N,Q,U⟩:=xY hE (m:=m+2) h G;exact⟨s,N,Q,fun hh=>by omega,fun _=>U⟩
    . simp at I) h G
 match Y,h3 with
 |[a,b],_=>
  obtain⟨v,l,rfl,hv⟩:=(X 0 _ rfl).1 rfl;obtain⟨x,y,z,w,rfl⟩:=(X 1 _ rfl).2 rfl;exact⟨_,⟨l,⟨x,y,z,w⟩⟩,h1,⟨h2,.inl (by unfold Ab;rw[V])⟩,v,rfl,hv⟩
theorem kU{m n:Nat}{cs:List Value}{d:DataW H}{ps:List MemPlace}(h:DataW.trod enc P W base spare held n 31 cs=zs (d,ps))(D:Wt P 31 d):∃s,X2 P (m+6) 31 d=zs s/\lz s=P.cellsOf 31/\∃v l,s=[v]/\Xl P 74 (Kk P) v l:=by
 obtain⟨v,l,G,I⟩:=Aa (Q:=Kk P) (m:=m+5) (uN hE) (by rw[mX hE];decide) (fun n cs d ps h D=>pS hE h D) h D;exact⟨[v],G,by rw[fW hE];rfl,v,l,rfl,I⟩
omit hE in
def Zk(P:Program)(D:List AV)(C:Cod):Prop:=∃G I,D=[.str C.name,.int .i64 C.ty,.int .i64 C.ps,G,I]/\Xl P 3 kS G C.x0g/\Xl P 74 (Kk P) I C.blocks
theorem uQ{m n:Nat}{cs:List Value}{d:DataW H}{ps:List MemPlace}(h:DataW.trod enc P W base spare held n 33 cs=zs (d,ps))(N:Wt P 33 d):∃D C,X2 P (m+7) 33 d=zs D/\(lz D=P.cellsOf 33/\(Ab P 33=zt\/lz D=1))/\Zk P D C:=by
 obtain ⟨fs,hu,V,_⟩:=(hE.ti 33 Fj rfl).desc;have V:fs.toList.map (fun f=>(f.type,f.offset))=[(9,0),(3,1),(3,2),(30,3),(31,4)]:=V;obtain⟨ss,h1,h2,h3,U⟩:=m4 (m:=m+6) (Qs:=fun i s=>(i=0->∃b,s=[.str b]/\lz b<=140737488355328)/\((i=1\/i=2)->∃z,s=[.int .i64 z])/\(i=3->∃v l,s=[v]/\Xl P 3 kS v l)/\(i=4->∃v l,s=[v]/\Xl P 74 (Kk P) v l)) hu V
  (by simp only[Np,Gg hE,Uy hE,Uz hE,and_self]) (by simp only[uO hE,zqg,zqf,zqn,zqo,Nat.reduceAdd,Gg hE,Uy hE,Uz hE,fW hE])
  (fun i ty off Q n cs d ps h N=>by
    rcases i with _|_|_|_|_|i
    . cases Q
      obtain⟨s,G,I,J⟩:=cN hE (m:=m+5) h N;exact⟨s,G,I,fun _=>J,fun hh=>by omega,fun hh=>by omega,fun hh=>by omega⟩
    . cases Q
      obtain⟨s,G,I,J⟩:=Hg hE (m:=m+5) h N;exact⟨s,G,I,fun hh=>by omega,fun _=>J,fun hh=>by omega,fun hh=>by omega⟩
    . cases Q
      obtain⟨s,G,I,J⟩:=Hg hE (m:=m+5) h N;exact⟨s,G,I,fun hh=>by omega,fun _=>J,fun hh=>by omega,fun hh=>by omega⟩
    . cases Q
      obtain⟨s,G,I,J⟩:=fX hE (m:=m+4) h N;exact⟨s,G,I,fun hh=>by omega,fun hh=>by omega,fun _=>J,fun hh=>by omega⟩
    . cases Q
      obtain⟨s,G,I,J⟩:=kU hE (m:=m) h N;exact⟨s,G,I,fun hh=>by omega,fun hh=>by omega,fun hh=>by omega,fun _=>J⟩
    . simp at Q) h N
 match ss,h3 with
 |[a,b,c,e,f],_=>
  obtain⟨b0,rfl,_⟩:=(U 0 _ rfl).1 rfl;obtain⟨z1,rfl⟩:=(U 1 _ rfl).2.1 (.inl rfl);obtain⟨z2,rfl⟩:=(U 2 _ rfl).2.1 (.inr rfl);obtain⟨v3,l3,rfl,X⟩:=(U 3 _ rfl).2.2.1 rfl;obtain⟨v4,l4,rfl,Y⟩:=(U 4 _ rfl).2.2.2 rfl;exact⟨_,⟨b0,z1,z2,l3,l4⟩,h1,⟨h2,.inl (by unfold Ab;rw[hu])⟩,v3,v4,rfl,X,Y⟩
omit hE in
def fY(D:List AV)(G:Glo):Prop:=D=[.str G.name,.int .i64 G.ty,.int .i64 G.size,.int .i64 G.at_]
theorem uR{m n:Nat}{cs:List Value}{d:DataW H}{ps:List MemPlace}(h:DataW.trod enc P W base spare held n 50 cs=zs (d,ps))(I:Wt P 50 d):∃D G,X2 P (m+2) 50 d=zs D/\(lz D=P.cellsOf 50/\(Ab P 50=zt\/lz D=1))/\fY D G:=by
 obtain ⟨fs,Y,Q,_⟩:=(hE.ti 50 Tz rfl).desc;have Q:fs.toList.map (fun f=>(f.type,f.offset))=[(9,0),(3,1),(3,2),(3,3)]:=Q;obtain⟨ss,h1,h2,h3,J⟩:=m4 (m:=m+1) (Qs:=fun i s=>(i=0->∃b,s=[.str b]/\lz b<=140737488355328)/\(0<i->∃z,s=[.int .i64 z])) Y Q
  (by simp only[Np,Gg hE,Uy hE,and_self]) (by simp only[uP hE,zqg,zqf,zqn,zqo,Nat.reduceAdd,Gg hE,Uy hE])
  (fun i ty off N n cs d ps h I=>by
    rcases i with _|_|_|_|i
    . cases N
      obtain⟨s,U,V,X⟩:=cN hE (m:=m) h I;exact⟨s,U,V,fun _=>X,fun hh=>by omega⟩
    iterate 3
     . cases N
       obtain⟨s,U,V,X⟩:=Hg hE (m:=m) h I;exact⟨s,U,V,fun hh=>by omega,fun _=>X⟩
    . simp at N) h I
 match ss,h3 with
 |[a,b,c,e],_=>
  obtain⟨b0,rfl,_⟩:=(J 0 _ rfl).1 rfl;obtain⟨z1,rfl⟩:=(J 1 _ rfl).2 (by omega);obtain⟨z2,rfl⟩:=(J 2 _ rfl).2 (by omega);obtain⟨z3,rfl⟩:=(J 3 _ rfl).2 (by omega);exact⟨_,⟨b0,z1,z2,z3⟩,h1,⟨h2,.inl (by unfold Ab;rw[Y])⟩,rfl⟩
theorem xZ{n:Nat}{cs:List Value}{d:DataW H}{ps:List MemPlace}(h:DataW.trod enc P W base spare held n 25 cs=zs (d,ps))(D:Wt P 25 d):∃X Y,∃M:de,X2 P 9 25 d=zs [X,Y]/\Xl P 50 fY X M.gs/\Xl P 33 (Zk P) Y M.fs:=by
 obtain ⟨fs,hu,I,_⟩:=(hE.ti 25 eZ rfl).desc;have I:fs.toList.map (fun f=>(f.type,f.offset))=[(22,0),(23,1)]:=I;obtain⟨ss,h1,h2,h3,h4⟩:=m4 (m:=8) (Qs:=fun i s=>(i=0->∃v l,s=[v]/\Xl P 50 fY v l)/\(i=1->∃v l,s=[v]/\Xl P 33 (Zk P) v l)) hu I
  (by simp only[Np,cM hE,and_self]) (by simp only[MA hE,zqg,zqf,zqn,zqo,Nat.reduceAdd,cM hE,mV hE])
  (fun i ty off G n cs d ps h D=>by
    rcases i with _|_|i
    . cases G
      obtain⟨v,l,J,N⟩:=Aa (Q:=fY) (m:=7) (xX hE) (by rw[uP hE];decide) (fun n cs d ps h D=>uR hE (m:=5) h D) h D;exact⟨[v],J,by rw[cM hE];rfl,fun _=>⟨v,l,rfl,N⟩,fun hh=>by omega⟩
    . cases G
      obtain⟨v,l,J,N⟩:=Aa (Q:=Zk P) (m:=7) (xW hE) (by rw[uO hE];decide) (fun n cs d ps h D=>uQ hE (m:=0) h D) h D;exact⟨[v],J,by rw[mV hE];rfl,fun hh=>by omega,fun _=>⟨v,l,rfl,N⟩⟩
    . simp at G) h D
 match ss,h3 with
 |[a,b],_=>
  obtain⟨v0,l0,rfl,U⟩:=(h4 0 _ rfl).1 rfl;obtain⟨v1,l1,rfl,V⟩:=(h4 1 _ rfl).2 rfl;exact⟨v0,v1,⟨l0,l1⟩,h1,U,V⟩
omit hE in
theorem cO{t:TypeId}{D:List AV}(h:Ab P t=zt):my P t D=.agg D:=by unfold my;rw[h];rfl
theorem CG:P.bytesOf 3=8:=Gf hE ti3
theorem yA:P.bytesOf 58=88:=Gf hE EB
theorem yB:P.bytesOf 74=56:=Gf hE EC
theorem FJ:P.bytesOf 33=80:=Gf hE DY
theorem FK:P.bytesOf 50=40:=Gf hE DZ
theorem yC{t:TypeId}{x:TI}{L:List (Nat×Nat)}{fl:Bool}(D:A0.ti t=zs x)(G:x.desc=.struct L fl):Ab P t=zt:=by
 have h:=(hE.ti t x D).desc;unfold I7 at h;rw[G]at h;obtain⟨fs,I,_⟩:=h;unfold Ab;rw[I]
theorem A0F:Ab P 3=zf:=by unfold Ab;rw[uL hE]
theorem uS{v:AV}{l:List Int}(G:Xl P 3 kS v l){Z:Nat->Prop}{h:Vg}:Fz Z h v (Vx (ints l)):=G.fz fun r X D=>by
 have D:r=[.int .i64 X]:=D;subst D
 have:my P 3 [.int .i64 X]=.int .i64 X:=by unfold my;rw[A0F hE];rfl
 rw[this];exact .int _ _
omit hE in
theorem fZ{Z:Nat->Prop}{h:Vg}{xs ys:List AV}(hl:lz xs=lz ys)(hc:ys.all clo=zt)(hz:∀p∈xs.zip ys,Fz Z h p.1 p.2):Fz Z h (.agg xs) (.agg ys):=by
 refine .agg hl (fun i x y D G=>hz (x,y) ?_) hc;exact zkc (i:=i) (by rw[List.getElem?_zip_eq_some];exact⟨D,G⟩)
theorem yD{D:List AV}{I:Ins}(J:Kj P D I){Z:Nat->Prop}{h:Vg}:Fz Z h (my P 58 D) I.F:=by
 obtain⟨av,rfl,N,_⟩:=J;rw[cO (yC hE EB rfl)];refine fZ rfl rfl fun p G=>?_
 simp only[zqt,zqu,zql,zqp,or_false]at G;rcases G with rfl|rfl|rfl|rfl|rfl|rfl|rfl|rfl
 iterate 6
  . exact .int _ _
 . exact .str _
 . exact uS hE N
theorem yE{D:List AV}{B:Blk}(I:Kk P D B){Z:Nat->Prop}{h:Vg}:Fz Z h (my P 74 D) B.F:=by
 obtain⟨av,rfl,N⟩:=I;rw[cO (yC hE EC rfl)];refine fZ rfl rfl fun p G=>?_
 simp only[zqt,zqu,zql,zqp,or_false]at G;rcases G with rfl|rfl|rfl|rfl|rfl
 . exact N.fz fun r X J=>yD hE J
 iterate 4
  . exact .int _ _
theorem FL{D:List AV}{C:Cod}(I:Zk P D C){Z:Nat->Prop}{h:Vg}:Fz Z h (my P 33 D) C.F:=by
 obtain⟨rv,bv,rfl,N,Q⟩:=I;rw[cO (yC hE DY rfl)];refine fZ rfl rfl fun p G=>?_
 simp only[zqt,zqu,zql,zqp,or_false]at G;rcases G with rfl|rfl|rfl|rfl|rfl
 . exact .str _
 . exact .int _ _
 . exact .int _ _
 . exact uS hE N
 . exact Q.fz fun r X J=>yE hE J
theorem FN{D:List AV}{G:Glo}(I:fY D G){Z:Nat->Prop}{h:Vg}:Fz Z h (my P 50 D) G.F:=by
 have I:D=_:=I;subst I;rw[cO (yC hE DZ rfl)];refine fZ rfl rfl fun p J=>?_
 simp only[zqt,zqu,zql,zqp,or_false]at J;rcases J with rfl|rfl|rfl|rfl
 . exact .str _
 iterate 3
  . exact .int _ _
theorem On{n b k:Nat}(h:n*b<=reachBytes)(hb:b=k):n*k<=cp:=by
 subst hb;exact Nat.le_trans h (by decide)
theorem uT{D:List AV}{I:Ins}(G:Kj P D I):I.sok:=by
 obtain⟨av,_,J,N⟩:=G;exact⟨On hE J.2 (CG hE),N⟩
theorem uU{G:List AV}{B:Blk}(J:Kk P G B):B.sok:=by
 obtain ⟨av,_,I⟩:=J;have D:∀x∈B.code,x.sok:=fun x D=>by
  obtain⟨r,N⟩:=I.mem D;exact uT hE N
 exact⟨⟨fun x h=>(D x h).1,On hE I.2 (yA hE)⟩,D⟩
theorem yF{G:List AV}{C:Cod}(J:Zk P G C):C.sok:=by
 obtain ⟨rv,bv,_,N,I⟩:=J;have D:∀x∈C.blocks,x.sok:=fun x D=>by
  obtain⟨r,Q⟩:=I.mem D;exact uU hE Q
 exact⟨⟨On hE N.2 (CG hE),fun x h=>(D x h).1,On hE I.2 (yB hE)⟩,D⟩
theorem ya{n:Nat}{cs:List Value}{d:DataW H}{ps:List MemPlace}(h:DataW.trod enc P W base spare held n 25 cs=zs (d,ps))(Q:Wt P 25 d):∃D,∃M:de,X2 P 9 25 d=zs D/\lz D=2/\(∀Z h,Fz Z h (.agg D) M.F)/\M.ok:=by
 obtain⟨V,Y,M,h1,N,I⟩:=xZ hE h Q;refine⟨[V,Y],M,h1,rfl,fun Z h=>?_,fun C U=>?_,?_,On hE N.2 (FK hE)⟩
 . refine fZ rfl rfl fun p J=>?_
   simp only[zqt,zqu,zql,zqp,or_false]at J;rcases J with rfl|rfl
   . exact N.fz fun r X G=>FN hE G
   . exact I.fz fun r X G=>FL hE G
 . obtain⟨r,G⟩:=I.mem U
   exact yF hE G
 . have:=On hE I.2 (FJ hE)
   simp only[cp]at this|-;omega
end
end Go.Proofs.AmEnv
namespace Go.AM
theorem uV{E:Env}{f:Nat}{args:List AV}{h:Vg}(hg:E.gc f=zf)(D:E.told f=zt):du E f args h=pi args h:=by
 refine (By (E:=E) f args h).unique ?_;have e:∀m,G8 E (ev E m) f args h=pi args h:=fun m=>by
  unfold G8;rw[hg];show O7 E (ev E m) f args h=_
  unfold O7;rw[D];rfl
 simp only[e];exact .const
end Go.AM
namespace Go.Proofs.AmEnv
open Go Go.AM
theorem gC(hg:A0.gc 73=zf)(I:A0.told 73=zt):TC A0 73 U4:=by
 intro args rs D Z h xs hl hz hb;unfold U4 at D;split at D
 . rename_i s p
   split at D
   . rename_i G
     cases D
     match xs,hl with
     |[x,y],_=>
      have h0:=hz 0 x (.str s) rfl rfl;have J:=hz 1 y (.str p) rfl rfl;cases h0;cases J;refine⟨[.bool (gw p s)],h,Z,fun _=>zn,?_,MV hb,VL.cons (.fz (.bool _)) VL.nil,zkl _,fun id hz=>⟨hz,rfl⟩,fun id hz=>.inl hz,fun id _=>rfl,fun id L e=>(by cases e),[],rfl,fun id hi=>(zqp hi).elim⟩;rw[uV hg I];show(bif Nat.ble (r8 s) 4000000000||sn p then(match gw p s with|true=>Res.ok (.bool zt) h|false=>.ok (.bool zf) h)else .bad)=_
      have G:(Nat.ble (r8 s) 4000000000||sn p)=zt:=G;rw[G];cases gw p s<;>rfl
   . cases D
 . cases D
def U2(T:Nat->Option (List AV->Option (List AV)))(f:Nat)(g:List AV->Option (List AV))(k:Nat):Option (List AV->Option (List AV)):=bif Nat.beq k f then zs g else T k
theorem F1{E:Env}{T:Nat->Option (List AV->Option (List AV))}{F:Nat->Option PFn}{f:Nat}{g:List AV->Option (List AV)}(hP:ep ⟨E,T,F⟩)(h:TC E f g):ep ⟨E,U2 T f g,F⟩:=by
 refine⟨hP.gl,hP.ti,fun k q e=>?_,hP.fn⟩;have e:(bif Nat.beq k f then zs g else T k)=zs q:=e;cases hb:Nat.beq k f with
 |true=>rw[hb]at e;cases e;rw[Nat.eq_of_beq_eq_true hb];exact h
 |false=>rw[hb]at e;exact hP.T k q e
def T0(k:Nat):Option (List AV->Option (List AV)):=zn
section
variable (hP:ep ⟨A0,T0,A2⟩)
include hP
omit hP in
def T1:=U2 T0 46 A9
theorem P1:ep ⟨A0,T1,A2⟩:=F1 hP (tD hP rfl)
omit hP in
def T2:=U2 T1 51 D6
theorem P2:ep ⟨A0,T2,A2⟩:=F1 (P1 hP) (kF (P1 hP) rfl)
omit hP in
def T3:=U2 T2 73 U4
theorem P3:ep ⟨A0,T3,A2⟩:=F1 (P2 hP) (gC rfl rfl)
omit hP in
def T4:=U2 T3 17 O9
theorem P4:ep ⟨A0,T4,A2⟩:=F1 (P3 hP) (bU (P3 hP))
omit hP in
def T5:=U2 T4 64 J2
theorem P5:ep ⟨A0,T5,A2⟩:=F1 (P4 hP) (fE (P4 hP))
omit hP in
def T6:=U2 T5 77 Fk
theorem P6:ep ⟨A0,T6,A2⟩:=F1 (P5 hP) (jW (P5 hP))
omit hP in
def T7:=U2 T6 70 U0
theorem P7:ep ⟨A0,T7,A2⟩:=F1 (P6 hP) (bV (P6 hP))
omit hP in
def T8:=U2 T7 38 E2
theorem P8:ep ⟨A0,T8,A2⟩:=F1 (P7 hP) (Fl rfl (P7 hP))
omit hP in
def T9:=U2 T8 42 M2
theorem P9:ep ⟨A0,T9,A2⟩:=F1 (P8 hP) (Ub (P8 hP))
omit hP in
def T10:=U2 T9 32 B7
theorem P10:ep ⟨A0,T10,A2⟩:=F1 (P9 hP) (bW (P9 hP))
omit hP in
def T11:=U2 T10 53 C7
theorem P11:ep ⟨A0,T11,A2⟩:=F1 (P10 hP) (fG rfl (P10 hP))
omit hP in
def T12:=U2 T11 84 Fm
theorem P12:ep ⟨A0,T12,A2⟩:=F1 (P11 hP) (jY (P11 hP))
omit hP in
def T13:=U2 T12 74 w4
theorem P13:ep ⟨A0,T13,A2⟩:=F1 (P12 hP) (fH rfl (P12 hP))
omit hP in
def T14:=U2 T13 19 x8
theorem P14:ep ⟨A0,T14,A2⟩:=F1 (P13 hP) (bY rfl rfl (P13 hP))
omit hP in
def T15:=U2 T14 61 Fo
theorem P15:ep ⟨A0,T15,A2⟩:=F1 (P14 hP) (kA rfl (P14 hP))
omit hP in
def T16:=U2 T15 75 F0
theorem P16:ep ⟨A0,T16,A2⟩:=F1 (P15 hP) (Fp rfl (P15 hP))
omit hP in
def T17:=U2 T16 62 K9
theorem P17:ep ⟨A0,T17,A2⟩:=F1 (P16 hP) (Fr rfl rfl rfl rfl rfl rfl (P16 hP))
omit hP in
def T18:=U2 T17 63 M3
theorem P18:ep ⟨A0,T18,A2⟩:=F1 (P17 hP) (If rfl rfl rfl rfl (P17 hP))
omit hP in
def T19:=U2 T18 39 E0
theorem P19:ep ⟨A0,T19,A2⟩:=F1 (P18 hP) (Ig rfl rfl rfl (P18 hP))
omit hP in
def T20:=U2 T19 40 J5
theorem P20:ep ⟨A0,T20,A2⟩:=F1 (P19 hP) (Mq rfl (P19 hP))
omit hP in
def T21:=U2 T20 18 I0
theorem P21:ep ⟨A0,T21,A2⟩:=F1 (P20 hP) (Kc rfl rfl rfl rfl rfl (P20 hP))
omit hP in
def T22:=U2 T21 6 Hc
theorem P22:ep ⟨A0,T22,A2⟩:=F1 (P21 hP) (fI rfl rfl rfl (P21 hP))
omit hP in
def T23:=U2 T22 36 y0
theorem P23:ep ⟨A0,T23,A2⟩:=F1 (P22 hP) (cC (P22 hP))
omit hP in
def T24:=U2 T23 48 U5
theorem P24:ep ⟨A0,T24,A2⟩:=F1 (P23 hP) (fN (P23 hP))
omit hP in
def T25:=U2 T24 28 y5
theorem P25:ep ⟨A0,T25,A2⟩:=F1 (P24 hP) (cI rfl rfl rfl rfl rfl rfl rfl rfl rfl (P24 hP))
omit hP in
def T26:=U2 T25 10 O3
theorem P26:ep ⟨A0,T26,A2⟩:=F1 (P25 hP) (Xf rfl rfl rfl rfl rfl rfl rfl rfl rfl (P25 hP))
omit hP in
def T27:=U2 T26 45 B8
theorem P27:ep ⟨A0,T27,A2⟩:=F1 (P26 hP) (Ii rfl rfl rfl (P26 hP))
omit hP in
def T28:=U2 T27 24 J6
theorem P28:ep ⟨A0,T28,A2⟩:=F1 (P27 hP) (Mt rfl rfl rfl rfl (P27 hP))
omit hP in
def T29:=U2 T28 8 L8
theorem P29:ep ⟨A0,T29,A2⟩:=F1 (P28 hP) (Mu rfl (P28 hP))
omit hP in
def T30:=U2 T29 9 N5
theorem P30:ep ⟨A0,T30,A2⟩:=F1 (P29 hP) (Om rfl rfl rfl rfl (P29 hP))
omit hP in
def T31:=U2 T30 16 y8
theorem P31:ep ⟨A0,T31,A2⟩:=F1 (P30 hP) (cJ rfl (P30 hP))
omit hP in
def T32:=U2 T31 5 Dh
theorem P32:ep ⟨A0,T32,A2⟩:=F1 (P31 hP) (cK rfl (P31 hP))
omit hP in
def T33:=U2 T32 11 I2
theorem P33:ep ⟨A0,T33,A2⟩:=F1 (P32 hP) (Uw (P32 hP))
omit hP in
def T34:=U2 T33 7 v7
theorem P34:ep ⟨A0,T34,A2⟩:=F1 (P33 hP) (Ux hP)
end
theorem yG{f:Nat}{T:Nat->Option (List AV->Option (List AV))}(hP:ep ⟨A0,T,A2⟩){a x:AV}(H:AM.eo ⟨A0,T,A2⟩ f [a] [.bool zt])(hz:∀Z h,Fz Z h x a):∃h',du A0 f [x] Vg.empty=.ok (.bool zt) h':=by
 obtain ⟨D,J,N,ow1,e,_,l,_⟩:=Gs hP H (Z:=fun _=>False) (h:=Vg.empty) (xs:=[x]) rfl (fun i u v I G=>by
  cases i with
  |zero=>cases I;cases G;exact hz _ _
  |succ i=>simp at I) (fun id h=>h.elim)
 have l:VL N ow1 J (W2 0 [AV.bool zt]).2 D [.bool zt]:=l
 match D,l.1 with
 |[v],_=>
  have G:=l.2 0 v (.bool zt) rfl rfl
  have:v=.bool zt:=by
   cases G with
   |fz h=>cases h;rfl
  subst this;exact⟨J,e⟩
theorem nh(hP:ep ⟨A0,T0,A2⟩){m:de}(D:m.ok){x:AV}(hz:∀Z h,Fz Z h x m.F):∃h',du A0 3 [x] Vg.empty=.ok (.bool zt) h':=yG (P34 hP) (Bx (T:=T34) rfl rfl rfl rfl rfl rfl rfl D) hz
end Go.Proofs.AmEnv
