/- What this program's functions do, at any data. Conditions: none. -/
import Derived.Test.YtjbdobdlnccgpaaGenB
set_option linter.unusedVariables false
set_option linter.unusedSimpArgs false
set_option linter.unusedSectionVars false
set_option linter.defProp false
set_option maxRecDepth 100000
set_option maxHeartbeats 4000000
open Option renaming some→zs,none→zn
open Bool renaming true→zt,false→zf
open List renaming length_map→zqa,mem_cons→zqb,mem_map→zqc,map_cons→zqd,map_nil→zqe,sum_cons→zqf,sum_nil→zqg,not_mem_nil→zqh,set_set→zqi,getElem?_eq_some_iff→zqj,zip_cons_cons→zqk,zip_nil_left→zql,getElem_mem→zqm,getElem?_map→zqn,getElem?_eq_getElem→zqo,nodup_nil→zqp,mem_map_of_mem→zqq,getElem?_set_ne→zqr,mem_cons_self→zqs,mem_cons_of_mem→zqt,take_of_length_le→zqu
open Bool renaming and_eq_true_iff→zqv
noncomputable section
namespace Go.Proofs.AmEnv
open Go Go.AM
variable {T:Nat->Option (List AV->Option (List AV))}
section
variable {gs Fs bs cells:List AV}{regs:List Int}{nm:List UInt8}{ty ps:Int}{f i k ng nf nr nb:Nat}{b:Blk}{x:Ins}{tch:List Nat}
def oH(gs Fs:List AV)(f ng nf:Nat)(nm:List UInt8)(ty ps:Int)(regs:List Int)(box:PO)(bs:List AV)(i k:Nat)(code:List AV)(tl cs:List AV)(es:List AV):List PO:=
 [.row 0 gs 4,.row 0 (Fs.set f (AV.agg [.str nm,.int .i64 ty,.int .i64 ps,ownd 0 1 (ints regs),ownd 0 5 (bs.set i (.agg (ownd 0 8 (code.set k (.agg (cs++[ownd 0 1 es])))::tl)))])) 5,.row 1 [AV.agg [.msl 0 0 ng 4,.msl 1 0 nf 5]] 2,.sub 1 f 3,.sub 1 f 4,box,.sub 4 i 0,.sub 4 i 0,.sub 7 k 7]
theorem HC{box1:AV}{code tl cs:List AV}(hf:f<Fs.length)(hi:i<bs.length)(A:k<code.length)(hc:cs.length=7):Lens (oH gs Fs f ng nf nm ty ps regs (.row 1 [box1] 5) bs i k code tl cs) 8 1:=by
 obtain ⟨c0,c1,c2,B,C,D,G,rfl⟩:∃c0 c1 c2 B C D G,cs=[c0,c1,c2,B,C,D,G]:=by
  match cs,hc with
  |[a,b,c,d,e,f,g],_=>grind
 refine⟨fun es=>?_,fun es es'=>?_,fun es=>?_⟩
 . simp_all [oH, XP]
 . simp_all [oH, XP]
 . rfl
theorem PN(N:T 61=zs M9)(Q:T 48=zn)(hf:f<Fs.length)(hb:bs[i]?=zs b.O)(I:b.code[k]?=zs x)(U:x.ok)(hn:nb=bs.length)(V:b.code.length<=bigN):
 ∃D A,evP ⟨env,T,A0⟩ (.code Tv [(1,.ptr 5 0 0),(2,.int .i64 (i:Int)),(3,.int .i64 (k:Int))] ⟨[.row 0 gs 4,.row 0 (Fs.set f (AV.agg [.str nm,.int .i64 ty,.int .i64 ps,ownd 0 1 (ints regs),ownd 0 5 (bs)])) 5,.row 1 [AV.agg [.msl 0 0 ng 4,.msl 1 0 nf 5]] 2,.sub 1 f 3,.sub 1 f 4,(PO.row 1 [AV.agg [.str nm,.int .i64 ty,.int .i64 ps,.msl 3 0 nr 1,.msl 4 0 nb 5]] 5)],5,tch⟩)=zs (.ok .normal [(1,.ptr 5 0 0),(2,.int .i64 (i:Int)),(3,.int .i64 ((k+1:Nat):Int))] ⟨[.row 0 gs 4,.row 0 (Fs.set f (AV.agg [.str nm,.int .i64 ty,.int .i64 ps,ownd 0 1 (ints regs),ownd 0 5 (bs.set i (Blk.O {b with code:=b.code.set k {x with args:=D}}))])) 5,.row 1 [AV.agg [.msl 0 0 ng 4,.msl 1 0 nf 5]] 2,.sub 1 f 3,.sub 1 f 4,(PO.row 1 [AV.agg [.str nm,.int .i64 ty,.int .i64 ps,.msl 3 0 nr 1,.msl 4 0 nb 5]] 5)],5,A⟩)/\D.length=x.args.length:=by
 subst hn;have hi:i<bs.length:=(zqj.1 hb).1;have B:k<b.code.length:=(zqj.1 I).1;have C:(b.code.map Ins.O)[k]?=zs x.O:=by grind
 have L:=HC (gs:=gs) (ng:=ng) (nf:=nf) (nm:=nm) (ty:=ty) (ps:=ps) (regs:=regs) (bs:=bs) (i:=i) (k:=k) (box1:=AV.agg [.str nm,.int .i64 ty,.int .i64 ps,.msl 3 0 nr 1,.msl 4 0 bs.length 5]) (code:=b.code.map Ins.O) (tl:=[.int .i64 b.e.kind,.int .i64 b.e.a,.int .i64 b.e.to,.int .i64 b.e.els]) (cs:=[.int .i64 x.op,.int .i64 x.ty,.int .i64 x.dst,.int .i64 x.a,.int .i64 x.b,.int .i64 x.n,.str x.s]) hf hi (by grind) rfl;obtain⟨D,A,hc,hl⟩:=Ey (T:=T) (ext:=5) (tch:=tch) N Q L U;have hg:=fun v:AV=>C4 (v:=v) hf
 refine⟨D,?_,?_,hl⟩
 rotate_left 1
 . unfold Tv
   have e1:bs.set i (.agg (ownd 0 8 ((b.code.map Ins.O).set k (.agg [.int .i64 x.op,.int .i64 x.ty,.int .i64 x.dst,.int .i64 x.a,.int .i64 x.b,.int .i64 x.n,.str x.s,ownd 0 1 (ints x.args)]))::[.int .i64 b.e.kind,.int .i64 b.e.a,.int .i64 b.e.to,.int .i64 b.e.els]))=bs:=by
    grind [Ins.O, Blk.O, Kd]
   have e2:(b.code.map Ins.O).set k (.agg [.int .i64 x.op,.int .i64 x.ty,.int .i64 x.dst,.int .i64 x.a,.int .i64 x.b,.int .i64 x.n,.str x.s,ownd 0 1 (ints D)])=(b.code.set k {x with args:=D}).map Ins.O:=by
    rw[List.map_set];rfl
   unfold oH at hc;simp only[List.cons_append,List.nil_append]at hc;rw[e1,e2]at hc;have G:decide ((k:Int)<(b.code.length:Int))=zt:=by simp[B]
   have X:=A1 (i:=k) (by grind);simp only[Blk.O]at hb;simp only[Ins.O]at C;simp only[hg,hf,hb,C,hc,G,X,hi,B,zqa,Blk.O,D2,F7,F8,F9,G0,XP,seval];rfl
theorem PP(hf:f<Fs.length)(hb:bs[i]?=zs b.O)(hn:nb=bs.length):
 ∃fr',evP ⟨env,T,A0⟩ (.code Tv [(1,.ptr 5 0 0),(2,.int .i64 (i:Int)),(3,.int .i64 (b.code.length:Int))] ⟨[.row 0 gs 4,.row 0 (Fs.set f (AV.agg [.str nm,.int .i64 ty,.int .i64 ps,ownd 0 1 (ints regs),ownd 0 5 (bs)])) 5,.row 1 [AV.agg [.msl 0 0 ng 4,.msl 1 0 nf 5]] 2,.sub 1 f 3,.sub 1 f 4,(PO.row 1 [AV.agg [.str nm,.int .i64 ty,.int .i64 ps,.msl 3 0 nr 1,.msl 4 0 nb 5]] 5)],5,tch⟩)=zs (.ok (.exit 2) fr' ⟨[.row 0 gs 4,.row 0 (Fs.set f (AV.agg [.str nm,.int .i64 ty,.int .i64 ps,ownd 0 1 (ints regs),ownd 0 5 (bs)])) 5,.row 1 [AV.agg [.msl 0 0 ng 4,.msl 1 0 nf 5]] 2,.sub 1 f 3,.sub 1 f 4,(PO.row 1 [AV.agg [.str nm,.int .i64 ty,.int .i64 ps,.msl 3 0 nr 1,.msl 4 0 nb 5]] 5),.sub 4 i 0],5,tch⟩)/\lookP fr' 1=.ptr 5 0 0/\lookP fr' 2=.int .i64 (i:Int):=by
 subst hn;have hi:i<bs.length:=(zqj.1 hb).1;have hg:=fun v:AV=>C4 (v:=v) hf
 unfold Tv;have A:decide ((b.code.length:Int)<(b.code.length:Int))=zf:=by simp
 simp only[Blk.O]at hb;simp only[hg,hb,A,hi,zqa,D2,F7,F8,F9,G0,XP,seval];exact⟨_,rfl,rfl,rfl⟩
theorem EI(I:T 61=zs M9)(J:T 48=zn)(hf:f<Fs.length):∀(n k:Nat)(bs:List AV)(b:Blk)(tch:List Nat),b.code.length=k+n->bs[i]?=zs b.O->nb=bs.length->(∀x∈b.code,x.ok)->b.code.length<=bigN ->
 ∃fr' C A,evP ⟨env,T,A0⟩ (.code (.loop Tv) [(1,.ptr 5 0 0),(2,.int .i64 (i:Int)),(3,.int .i64 (k:Int))] ⟨[.row 0 gs 4,.row 0 (Fs.set f (AV.agg [.str nm,.int .i64 ty,.int .i64 ps,ownd 0 1 (ints regs),ownd 0 5 (bs)])) 5,.row 1 [AV.agg [.msl 0 0 ng 4,.msl 1 0 nf 5]] 2,.sub 1 f 3,.sub 1 f 4,(PO.row 1 [AV.agg [.str nm,.int .i64 ty,.int .i64 ps,.msl 3 0 nr 1,.msl 4 0 nb 5]] 5)],5,tch⟩)=zs (.ok (.exit 2) fr' ⟨[.row 0 gs 4,.row 0 (Fs.set f (AV.agg [.str nm,.int .i64 ty,.int .i64 ps,ownd 0 1 (ints regs),ownd 0 5 (bs.set i (Blk.O C))])) 5,.row 1 [AV.agg [.msl 0 0 ng 4,.msl 1 0 nf 5]] 2,.sub 1 f 3,.sub 1 f 4,(PO.row 1 [AV.agg [.str nm,.int .i64 ty,.int .i64 ps,.msl 3 0 nr 1,.msl 4 0 nb 5]] 5),.sub 4 i 0],5,A⟩)/\lookP fr' 1=.ptr 5 0 0/\lookP fr' 2=.int .i64 (i:Int)/\C.code.length=b.code.length
 |0,k,bs,b,tch,e,hb,hn,hk,hs=>by
  obtain rfl:k=b.code.length:=by omega
  obtain⟨fr',h1,h2,G⟩:=PP (T:=T) (gs:=gs) (ng:=ng) (nf:=nf) (regs:=regs) (nm:=nm) (ty:=ty) (ps:=ps) (nr:=nr) (tch:=tch) hf hb hn;exact⟨fr',b,tch,by rw[Kd hb];exact loop_exit h1,h2,G,rfl⟩
 |n + 1,k,bs,b,tch,e,hb,hn,hk,hs=>by
  have hi:i<bs.length:=(zqj.1 hb).1;have N:b.code[k]?=zs b.code[k]:=zqo (by omega);obtain⟨Q,B,h1,hl⟩:=PN (gs:=gs) (ng:=ng) (nf:=nf) (regs:=regs) (nm:=nm) (ty:=ty) (ps:=ps) (nr:=nr) (tch:=tch) I J hf hb N (hk _ (zqm _)) hn hs;obtain⟨fr',C,A,h2,G,U,V⟩:=EI I J hf n (k+1) _ {b with code:=b.code.set k {b.code[k]with args:=Q}} B (by simp;omega) (C4 hi) (by grind) (fun y D=>by
   rcases List.mem_or_eq_of_mem_set D with D|rfl
   . exact hk y D
   grind [Ins.ok, zqm]) (by grind)
  grind [zqi, loop_more]
def Vq(gs Fs:List AV)(f ng nf:Nat)(nm:List UInt8)(ty ps:Int)(regs:List Int)(box:PO)(bs:List AV)(i:Nat)(tl:List AV)(es:List AV):List PO:=[.row 0 gs 4,.row 0 (Fs.set f (AV.agg [.str nm,.int .i64 ty,.int .i64 ps,ownd 0 1 (ints regs),ownd 0 5 (bs.set i (.agg (ownd 0 8 es::tl)))])) 5,.row 1 [AV.agg [.msl 0 0 ng 4,.msl 1 0 nf 5]] 2,.sub 1 f 3,.sub 1 f 4,box,.sub 4 i 0]
theorem zT{box1:AV}{tl:List AV}(hf:f<Fs.length)(hi:i<bs.length):LensK (Vq gs Fs f ng nf nm ty ps regs (.row 1 [box1] 5) bs i tl) 6 8:=by
 refine⟨⟨fun es=>?_,fun es es'=>?_,fun es=>?_⟩,fun es=>?_⟩
 . simp_all [Vq, XP]
 . simp_all [Vq, XP]
 . rfl
 simp_all [Vq, XP]
theorem PQ(X:T 61=zs M9)(Y:T 48=zn)(D:T 62=zs K8)(G:T 49=zn)(hf:f<Fs.length)(hb:bs[i]?=zs b.O)(hn:nb=bs.length)(V:b.ok)(I:bs.length<=bigN):
 ∃cs B,evP ⟨env,T,A0⟩ (.code Tw [(1,.ptr 5 0 0),(2,.int .i64 (i:Int))] ⟨[.row 0 gs 4,.row 0 (Fs.set f (AV.agg [.str nm,.int .i64 ty,.int .i64 ps,ownd 0 1 (ints regs),ownd 0 5 (bs)])) 5,.row 1 [AV.agg [.msl 0 0 ng 4,.msl 1 0 nf 5]] 2,.sub 1 f 3,.sub 1 f 4,(PO.row 1 [AV.agg [.str nm,.int .i64 ty,.int .i64 ps,.msl 3 0 nr 1,.msl 4 0 nb 5]] 5)],5,tch⟩)=zs (.ok .normal [(1,.ptr 5 0 0),(2,.int .i64 ((i+1:Nat):Int))] ⟨[.row 0 gs 4,.row 0 (Fs.set f (AV.agg [.str nm,.int .i64 ty,.int .i64 ps,ownd 0 1 (ints regs),ownd 0 5 (bs.set i (.agg cs))])) 5,.row 1 [AV.agg [.msl 0 0 ng 4,.msl 1 0 nf 5]] 2,.sub 1 f 3,.sub 1 f 4,(PO.row 1 [AV.agg [.str nm,.int .i64 ty,.int .i64 ps,.msl 3 0 nr 1,.msl 4 0 nb 5]] 5)],5,B⟩)/\cs.length=5:=by
 have hi:i<bs.length:=(zqj.1 hb).1;have hs:b.code.length<=bigN:=by have:=V.2;simp only[bigN]at this|-;omega
 have J:=fun v:AV=>C4 (v:=v) hf
 obtain⟨fr',A,C,h1,h2,h3,h4⟩:=EI (T:=T) (gs:=gs) (ng:=ng) (nf:=nf) (regs:=regs) (nm:=nm) (ty:=ty) (ps:=ps) (nr:=nr) (nb:=nb) (i:=i) X Y hf b.code.length 0 bs b (tch.filter (· < 5)) (by omega) hb hn V.1 hs;have h1:evP ⟨env,T,A0⟩ (.code (.loop Tv) [(1,.ptr 5 0 0),(2,.int .i64 (i:Int)),(3,.int .i64 0)] ⟨[.row 0 gs 4,.row 0 (Fs.set f (AV.agg [.str nm,.int .i64 ty,.int .i64 ps,ownd 0 1 (ints regs),ownd 0 5 (bs)])) 5,.row 1 [AV.agg [.msl 0 0 ng 4,.msl 1 0 nf 5]] 2,.sub 1 f 3,.sub 1 f 4,(PO.row 1 [AV.agg [.str nm,.int .i64 ty,.int .i64 ps,.msl 3 0 nr 1,.msl 4 0 nb 5]] 5)],5,tch.filter (· < 5)⟩)=_:=h1;obtain⟨es',tch2,U,h6⟩:=Nk (T:=T) (ext:=5) (tch:=C.filter (· < 5)) (es:=A.code.map Ins.O) D G (zT (gs:=gs) (ng:=ng) (nf:=nf) (nm:=nm) (ty:=ty) (ps:=ps) (regs:=regs) (bs:=bs) (i:=i) (box1:=AV.agg [.str nm,.int .i64 ty,.int .i64 ps,.msl 3 0 nr 1,.msl 4 0 nb 5]) (tl:=[.int .i64 A.e.kind,.int .i64 A.e.a,.int .i64 A.e.to,.int .i64 A.e.els]) hf hi) (rB _) (by simp;omega);unfold Vq at U;rw[zqa]at U;have N:decide ((i:Int)<(nb:Int))=zt:=by simp[hn,hi]
 have Q:i<nb:=by omega
 have hw:=A1 (i:=i) (by simp only[bigN]at I;omega);simp only[Blk.O]at h1;have hg:=C4 (v:=AV.agg [ownd 0 8 (A.code.map Ins.O),.int .i64 A.e.kind,.int .i64 A.e.a,.int .i64 A.e.to,.int .i64 A.e.els]) hi;refine⟨[ownd 0 8 es',.int .i64 A.e.kind,.int .i64 A.e.a,.int .i64 A.e.to,.int .i64 A.e.els],?_,?_,rfl⟩
 rotate_left 1
 . unfold Tw
   simp only[N,h1,h2,h3,U,Q,hw,hg,J,zqa,D2,F7,F8,F9,G0,XP,seval];rfl
theorem PS(hf:f<Fs.length)(hn:i=nb):∃fr',evP ⟨env,T,A0⟩ (.code Tw [(1,.ptr 5 0 0),(2,.int .i64 (i:Int))] ⟨[.row 0 gs 4,.row 0 (Fs.set f (AV.agg [.str nm,.int .i64 ty,.int .i64 ps,ownd 0 1 (ints regs),ownd 0 5 (bs)])) 5,.row 1 [AV.agg [.msl 0 0 ng 4,.msl 1 0 nf 5]] 2,.sub 1 f 3,.sub 1 f 4,(PO.row 1 [AV.agg [.str nm,.int .i64 ty,.int .i64 ps,.msl 3 0 nr 1,.msl 4 0 nb 5]] 5)],5,tch⟩)=zs (.ok (.exit 0) fr' ⟨[.row 0 gs 4,.row 0 (Fs.set f (AV.agg [.str nm,.int .i64 ty,.int .i64 ps,ownd 0 1 (ints regs),ownd 0 5 (bs)])) 5,.row 1 [AV.agg [.msl 0 0 ng 4,.msl 1 0 nf 5]] 2,.sub 1 f 3,.sub 1 f 4,(PO.row 1 [AV.agg [.str nm,.int .i64 ty,.int .i64 ps,.msl 3 0 nr 1,.msl 4 0 nb 5]] 5)],5,tch⟩)/\lookP fr' 1=.ptr 5 0 0:=by
 unfold Tw;have A:decide ((i:Int)<(nb:Int))=zf:=by simp[hn]
 simp only[A,D2,F7,F8,F9,G0,XP,seval];exact⟨_,rfl,rfl⟩
theorem EJ(G:T 61=zs M9)(I:T 48=zn)(B:T 62=zs K8)(C:T 49=zn)(hf:f<Fs.length)(l:List Blk)(J:∀x∈l,x.ok)(N:l.length<=bigN):∀(n i:Nat)(bs:List AV)(tch:List Nat),nb=i+n->nb=bs.length->nb=l.length->wide 5 bs->(∀j,i<=j->bs[j]?=(l.map Blk.O)[j]?) ->
 ∃fr' bs' A,evP ⟨env,T,A0⟩ (.code (.loop Tw) [(1,.ptr 5 0 0),(2,.int .i64 (i:Int))] ⟨[.row 0 gs 4,.row 0 (Fs.set f (AV.agg [.str nm,.int .i64 ty,.int .i64 ps,ownd 0 1 (ints regs),ownd 0 5 (bs)])) 5,.row 1 [AV.agg [.msl 0 0 ng 4,.msl 1 0 nf 5]] 2,.sub 1 f 3,.sub 1 f 4,(PO.row 1 [AV.agg [.str nm,.int .i64 ty,.int .i64 ps,.msl 3 0 nr 1,.msl 4 0 nb 5]] 5)],5,tch⟩)=zs (.ok (.exit 0) fr' ⟨[.row 0 gs 4,.row 0 (Fs.set f (AV.agg [.str nm,.int .i64 ty,.int .i64 ps,ownd 0 1 (ints regs),ownd 0 5 (bs')])) 5,.row 1 [AV.agg [.msl 0 0 ng 4,.msl 1 0 nf 5]] 2,.sub 1 f 3,.sub 1 f 4,(PO.row 1 [AV.agg [.str nm,.int .i64 ty,.int .i64 ps,.msl 3 0 nr 1,.msl 4 0 nb 5]] 5)],5,A⟩)/\lookP fr' 1=.ptr 5 0 0/\wide 5 bs'/\bs'.length=nb
 |0,i,bs,tch,e,hn,hl,hw,hj=>by
  obtain⟨fr',h1,h2⟩:=PS (T:=T) (gs:=gs) (ng:=ng) (nf:=nf) (regs:=regs) (nm:=nm) (ty:=ty) (ps:=ps) (nr:=nr) (bs:=bs) (tch:=tch) (i:=i) (nb:=nb) hf (by omega);grind [loop_exit]
 |n+1,i,bs,tch,e,hn,hl,hw,hj=>by
  have hi:i<l.length:=by omega
  have hb:bs[i]?=zs l[i].O:=by grind
  obtain⟨cs,D,h1,hc⟩:=PQ (gs:=gs) (ng:=ng) (nf:=nf) (regs:=regs) (nm:=nm) (ty:=ty) (ps:=ps) (nr:=nr) (tch:=tch) G I B C hf hb hn (J _ (zqm hi)) (by omega);obtain⟨fr',bs',A,h2,Q,U,V⟩:=EJ G I B C hf l J N n (i+1) (bs.set i (.agg cs)) D (by omega) (by grind) hl (hw.set i hc) (by grind);grind [loop_more]
theorem zU{box:AV}(hf:f<Fs.length):Lens (fun es=>[.row 0 gs 4,.row 0 (Fs.set f (AV.agg [.str nm,.int .i64 ty,.int .i64 ps,ownd 0 1 es,ownd 0 5 bs])) 5,.row 1 [AV.agg [.msl 0 0 ng 4,.msl 1 0 nf 5]] 2,.sub 1 f 3,.sub 1 f 4,.row 1 [box] 5]) 3 1:=by
 refine⟨fun es=>?_,fun es es'=>?_,fun es=>rfl⟩
 . simp_all [XP]
 simp_all [XP]
theorem zV{box:AV}{rs:List AV}(hf:f<Fs.length):LensK (fun es=>[.row 0 gs 4,.row 0 (Fs.set f (AV.agg [.str nm,.int .i64 ty,.int .i64 ps,ownd 0 1 rs,ownd 0 5 es])) 5,.row 1 [AV.agg [.msl 0 0 ng 4,.msl 1 0 nf 5]] 2,.sub 1 f 3,.sub 1 f 4,.row 1 [box] 5]) 4 5:=by
 refine⟨⟨fun es=>?_,fun es es'=>?_,fun es=>rfl⟩,fun es=>?_⟩
 . simp_all [XP]
 . simp_all [XP]
 simp_all [XP]
theorem zW(V:T 61=zs M9)(X:T 48=zn)(D:T 62=zs K8)(G:T 49=zn)(I:T 63=zs O9)(J:T 50=zn)(N:T 32=zn){c:Cod}{ex:Nat}(hc:c.ok)(hf:f<Fs.length)(hF:Fs[f]?=zs c.O):
 ∃cs A,evP ⟨env,T,A0⟩ (.call 32 [.agg (c.cs (.msl 3 0 c.regs.length 1) (.msl 4 0 c.blocks.length 5))] ⟨[.row 0 gs 4,.row 0 Fs 5,.row 1 [AV.agg [.msl 0 0 ng 4,.msl 1 0 nf 5]] 2,.sub 1 f 3,.sub 1 f 4],ex,tch⟩)=zs (.val [] ⟨[.row 0 gs 4,.row 0 (Fs.set f (.agg cs)) 5,.row 1 [AV.agg [.msl 0 0 ng 4,.msl 1 0 nf 5]] 2,.sub 1 f 3,.sub 1 f 4],ex,A⟩)/\cs.length=5:=by
 have Q:c.blocks.length<=bigN:=by have:=hc.2.2;grind
 obtain⟨fr',bs',B,h1,h2,h3,h4⟩:=EJ (T:=T) (gs:=gs) (Fs:=Fs) (f:=f) (ng:=ng) (nf:=nf) (regs:=c.regs) (nm:=c.name) (ty:=c.ty) (ps:=c.ps) (nr:=c.regs.length) (nb:=c.blocks.length) V X D G hf c.blocks hc.2.1 Q c.blocks.length 0 (c.blocks.map Blk.O) [] (by omega) (by simp) rfl (rC _) (fun _ _=>rfl);have e0:Fs.set f (AV.agg [.str c.name,.int .i64 c.ty,.int .i64 c.ps,ownd 0 1 (ints c.regs),ownd 0 5 (c.blocks.map Blk.O)])=Fs:=Kd hF;rw[e0]at h1;have h1:evP ⟨env,T,A0⟩ (.code (.loop Tw) [(1,.ptr 5 0 0),(2,.int .i64 0)] ⟨[.row 0 gs 4,.row 0 Fs 5,.row 1 [AV.agg [.msl 0 0 ng 4,.msl 1 0 nf 5]] 2,.sub 1 f 3,.sub 1 f 4,.row 1 [.agg [.str c.name,.int .i64 c.ty,.int .i64 c.ps,.msl 3 0 c.regs.length 1,.msl 4 0 c.blocks.length 5]] 5],5,[]⟩)=_:=h1;obtain⟨Y,C,h5,h6⟩:=Ey (T:=T) (ext:=5) (tch:=B.filter (· < 5)) (l:=c.regs) V X (zU (gs:=gs) (ng:=ng) (nf:=nf) (nm:=c.name) (ty:=c.ty) (ps:=c.ps) (bs:=bs') (box:=.agg [.str c.name,.int .i64 c.ty,.int .i64 c.ps,.msl 3 0 c.regs.length 1,.msl 4 0 c.blocks.length 5]) hf) hc.1;obtain⟨r2,tch3,h7,h8⟩:=Nl (T:=T) (ext:=5) (tch:=C) (es:=bs') I J (zV (gs:=gs) (ng:=ng) (nf:=nf) (nm:=c.name) (ty:=c.ty) (ps:=c.ps) (rs:=ints Y) (box:=.agg [.str c.name,.int .i64 c.ty,.int .i64 c.ps,.msl 3 0 c.regs.length 1,.msl 4 0 c.blocks.length 5]) hf) h3 (by omega);rw[h4]at h7;have U:=fun v:AV=>C4 (v:=v) hf
 refine⟨[.str c.name,.int .i64 c.ty,.int .i64 c.ps,ownd 0 1 (ints Y),ownd 0 5 r2],?_,?_,rfl⟩
 rotate_left 1
 . rw[u6 N rfl]
   rw[A3 (c:=SL) (nt:=46) (rs:=[]) rfl (by simp)];unfold SL;unfold Cod.cs;simp only[h1,h2,h5,h7,U,D2,F7,F8,F9,G0,XP,seval];rfl
end
def EK(n:Int):List AV:=[.str [],.int .i64 (IntKind.i64.wrap (-9-n)),.int .i64 0,.nilsl,.nilsl]
def EL(n:Int):List AV:=[.str [],.int .i64 (IntKind.i64.wrap (-9-n)),.int .i64 0,.int .i64 0]
theorem Rb{n:Int}:AM.Comes ⟨env,T,A0⟩ 52 [.int .i64 n] [.agg (EK n)]:=by
 refine⟨[.agg (EK n)],⟨[.row 1 [.agg (EK n)] 5],0,[]⟩,?_,?_⟩
 . rw[A3 (c:=TA) (nt:=6) (rs:=[.cell 2 36]) rfl (by simp)];simp_all [TA, K0, EK, XP]
 . exact A9 rfl zqp rfl rfl rfl
def Z9:=X6 (fun n:Int=>[.int .i64 n]) (fun n=>[.agg (EK n)]) (fun _=>True)
theorem lW(A:T 52=zs Z9)(n:Int){K:PK}:evP ⟨env,T,A0⟩ (.call 52 [.int .i64 n] K)=zs (.val [.agg (EK n)] ⟨K.os++[],K.ext,K.tch⟩):=B4 A rfl (B6 (a:=fun n:Int=>[AV.int .i64 n]) (by grind) n trivial) (by rfl)
section
variable {put:List AV->List PO}{id:Nat}{es:List AV}{fr:PF}{ext i:Nat}{tch:List Nat}
theorem PU(G:T 52=zs Z9)(L:LensK put id 5)(I:wide 5 es)(h0:lookP fr 0=.msl id 0 es.length 5)(h2:lookP fr 2=.int .i64 (i:Int))(hl:i<es.length)(J:es.length<=bigN):
 ∃fr' xs A,evP ⟨env,T,A0⟩ (.code Zo fr ⟨put es,ext,tch⟩)=zs (.ok .normal fr' ⟨put (es.set i (.agg xs)),ext,A⟩)/\xs.length=5/\lookP fr' 0=.msl id 0 es.length 5/\lookP fr' 2=.int .i64 ((i+1:Nat):Int):=by
 unfold Zo;have B:decide ((i:Int)<(es.length:Int))=zt:=by simp[hl]
 have N:=fun n K=>lW (K:=K) G n
 have C:=A1 (i:=i) (by grind);obtain⟨as1,Q,ha⟩:=I.get hl;have D:=fun n=>Sf (t:=l6) (ext:=ext) (tch:=tch) (xs:=EK n) L Q ha rfl rfl (by decide) rfl
 refine⟨?_,EK (IntKind.i64.wrap ((i:Int)+7)),?_,?_,rfl,?_,?_⟩
 rotate_left 2
 . simp only[h0,h2,B,N,hl,C,D,XQ,Nat.zero_add,seval]
   rfl
 . simp_all [XP]
 simp_all [XP]
theorem PV{K:PK}{n:Nat}(h0:lookP fr 0=.msl id 0 n 5)(h2:lookP fr 2=.int .i64 (n:Int)):∃fr',evP ⟨env,T,A0⟩ (.code Zo fr K)=zs (.ok (.exit 0) fr' K):=by
 unfold Zo;have A:decide ((n:Int)<(n:Int))=zf:=by simp
 simp only[h0,h2,A,XP,seval];grind
theorem EM(D:T 52=zs Z9)(L:LensK put id 5):∀(n i:Nat)(es:List AV)(fr:PF)(tch:List Nat),es.length=i+n->es.length<=bigN->wide 5 es->lookP fr 0=.msl id 0 es.length 5->lookP fr 2=.int .i64 (i:Int) ->
 ∃fr' es' A,evP ⟨env,T,A0⟩ (.code (.loop Zo) fr ⟨put es,ext,tch⟩)=zs (.ok (.exit 0) fr' ⟨put es',ext,A⟩)/\es'.length=es.length
 |0,i,es,fr,tch,e,hs,hw,h0,h2=>by
  obtain rfl:i=es.length:=by omega
  obtain⟨fr',h⟩:=PV (T:=T) (K:=⟨put es,ext,tch⟩) h0 h2;exact⟨fr',es,tch,loop_exit h,rfl⟩
 |n+1,i,es,fr,tch,e,hs,hw,h0,h2=>by
  obtain⟨C,xs,B,G,I,J,N⟩:=PU (ext:=ext) (tch:=tch) D L hw h0 h2 (by omega) hs;obtain⟨fr',es',A,Q,U⟩:=EM D L n (i+1) (es.set i (.agg xs)) C B (by simp;omega) (by grind) (hw.set i I) (by grind) N;grind [loop_more]
theorem Rc(B:T 52=zs Z9)(C:T 34=zn)(L:LensK put id 5)(D:wide 5 es)(G:es.length<=bigN):
 ∃es' A,evP ⟨env,T,A0⟩ (.call 34 [.msl id 0 es.length 5] ⟨put es,ext,tch⟩)=zs (.val [] ⟨put es',ext,A⟩)/\es'.length=es.length:=by
 obtain⟨fr',I,A,J,N⟩:=EM (T:=T) (ext:=(put es).length) B L es.length 0 es [(2,.int .i64 0),(0,.msl id 0 es.length 5)] [] (by omega) G D (by simp only[XP,seval]) rfl;refine⟨I,A++tch,?_,N⟩;rw[u6 C rfl];rw[A3 (c:=SN) (nt:=15) (rs:=[]) rfl (by simp)];simp_all [SN, XP]
end
theorem Li{n:Int}:AM.Comes ⟨env,T,A0⟩ 51 [.int .i64 n] [.agg (EL n)]:=by
 refine⟨[.agg (EL n)],⟨[.row 1 [.agg (EL n)] 4],0,[]⟩,?_,?_⟩
 . rw[A3 (c:=SZ) (nt:=6) (rs:=[.cell 2 59]) rfl (by simp)];simp_all [SZ, K0, EL, XP]
 . exact A9 rfl zqp rfl rfl rfl
def R3:=X6 (fun n:Int=>[.int .i64 n]) (fun n=>[.agg (EL n)]) (fun _=>True)
theorem dL(A:T 51=zs R3)(n:Int){K:PK}:evP ⟨env,T,A0⟩ (.call 51 [.int .i64 n] K)=zs (.val [.agg (EL n)] ⟨K.os++[],K.ext,K.tch⟩):=B4 A rfl (B6 (a:=fun n:Int=>[AV.int .i64 n]) (by grind) n trivial) (by rfl)
section
variable {put:List AV->List PO}{id:Nat}{es:List AV}{fr:PF}{ext i:Nat}{tch:List Nat}
theorem PW(G:T 51=zs R3)(L:LensK put id 4)(I:wide 4 es)(h0:lookP fr 0=.msl id 0 es.length 4)(h2:lookP fr 2=.int .i64 (i:Int))(hl:i<es.length)(J:es.length<=bigN):
 ∃fr' xs A,evP ⟨env,T,A0⟩ (.code Zn fr ⟨put es,ext,tch⟩)=zs (.ok .normal fr' ⟨put (es.set i (.agg xs)),ext,A⟩)/\xs.length=4/\lookP fr' 0=.msl id 0 es.length 4/\lookP fr' 2=.int .i64 ((i+1:Nat):Int):=by
 unfold Zn;have B:decide ((i:Int)<(es.length:Int))=zt:=by simp[hl]
 have N:=fun n K=>dL (K:=K) G n
 have C:=A1 (i:=i) (by grind);obtain⟨as1,Q,ha⟩:=I.get hl;have D:=fun n=>Sf (t:=Cb) (ext:=ext) (tch:=tch) (xs:=EL n) L Q ha rfl rfl (by decide) rfl
 refine⟨?_,EL (IntKind.i64.wrap ((i:Int)+7)),?_,?_,rfl,?_,?_⟩
 rotate_left 2
 . simp only[h0,h2,B,N,hl,C,D,XQ,Nat.zero_add,seval]
   rfl
 . simp_all [XP]
 simp_all [XP]
theorem PX{K:PK}{n:Nat}(h0:lookP fr 0=.msl id 0 n 4)(h2:lookP fr 2=.int .i64 (n:Int)):∃fr',evP ⟨env,T,A0⟩ (.code Zn fr K)=zs (.ok (.exit 0) fr' K):=by
 unfold Zn;have A:decide ((n:Int)<(n:Int))=zf:=by simp
 simp only[h0,h2,A,XP,seval];grind
theorem EN(D:T 51=zs R3)(L:LensK put id 4):∀(n i:Nat)(es:List AV)(fr:PF)(tch:List Nat),es.length=i+n->es.length<=bigN->wide 4 es->lookP fr 0=.msl id 0 es.length 4->lookP fr 2=.int .i64 (i:Int) ->
 ∃fr' es' A,evP ⟨env,T,A0⟩ (.code (.loop Zn) fr ⟨put es,ext,tch⟩)=zs (.ok (.exit 0) fr' ⟨put es',ext,A⟩)/\es'.length=es.length
 |0,i,es,fr,tch,e,hs,hw,h0,h2=>by
  obtain rfl:i=es.length:=by omega
  obtain⟨fr',h⟩:=PX (T:=T) (K:=⟨put es,ext,tch⟩) h0 h2;exact⟨fr',es,tch,loop_exit h,rfl⟩
 |n+1,i,es,fr,tch,e,hs,hw,h0,h2=>by
  obtain⟨C,xs,B,G,I,J,N⟩:=PW (ext:=ext) (tch:=tch) D L hw h0 h2 (by omega) hs;obtain⟨fr',es',A,Q,U⟩:=EN D L n (i+1) (es.set i (.agg xs)) C B (by simp;omega) (by grind) (hw.set i I) (by grind) N;grind [loop_more]
theorem Lj(B:T 51=zs R3)(C:T 33=zn)(L:LensK put id 4)(D:wide 4 es)(G:es.length<=bigN):
 ∃es' A,evP ⟨env,T,A0⟩ (.call 33 [.msl id 0 es.length 4] ⟨put es,ext,tch⟩)=zs (.val [] ⟨put es',ext,A⟩)/\es'.length=es.length:=by
 obtain⟨fr',I,A,J,N⟩:=EN (T:=T) (ext:=(put es).length) B L es.length 0 es [(2,.int .i64 0),(0,.msl id 0 es.length 4)] [] (by omega) G D (by simp only[XP,seval]) rfl;refine⟨I,A++tch,?_,N⟩;rw[u6 C rfl];rw[A3 (c:=SM) (nt:=15) (rs:=[]) rfl (by simp)];simp_all [SM, XP]
end
structure SpT(T:Nat->Option (List AV->Option (List AV))):Prop where
 mi:T 61=zs M9
 si:T 48=zn
 mq:T 62=zs K8
 sq:T 49=zn
 mb:T 63=zs O9
 sb:T 50=zn
 sc:T 32=zn
 mg:T 51=zs R3
 sg:T 33=zn
 mc:T 52=zs Z9
 sk:T 34=zn
 sm:T 12=zn
section
variable {gs Fs:List AV}{i ng nf:Nat}{tch:List Nat}{l:List Cod}
theorem rR(l:List Cod):wide 5 (l.map Cod.O):=fun v A=>by
 obtain⟨x,_,rfl⟩:=zqc.1 A;exact⟨_,rfl,rfl⟩
theorem rS(l:List Glo):wide 4 (l.map Glo.F):=fun v A=>by
 obtain⟨x,_,rfl⟩:=zqc.1 A;exact⟨_,rfl,rfl⟩
theorem A2m(S:SpT T)(hi:i<l.length)(hn:nf=l.length)(hl:Fs.length=l.length)(hc:l[i].ok)(B:Fs[i]?=zs l[i].O)(hs:l.length<=10000):∃cs A,evP ⟨env,T,A0⟩ (.code Tp [(1,.ptr 2 0 0),(2,.int .i64 (i:Int))] ⟨[.row 0 gs 4,.row 0 Fs 5,.row 1 [AV.agg [.msl 0 0 ng 4,.msl 1 0 nf 5]] 2],2,tch⟩)=zs (.ok .normal [(1,.ptr 2 0 0),(2,.int .i64 ((i+1:Nat):Int))] ⟨[.row 0 gs 4,.row 0 (Fs.set i (.agg cs)) 5,.row 1 [AV.agg [.msl 0 0 ng 4,.msl 1 0 nf 5]] 2],2,A⟩)/\cs.length=5:=by
 subst hn;have C:decide ((i:Int)<(l.length:Int))=zt:=by simp[hi]
 have G:=A1 (i:=i) (by omega);have hf:i<Fs.length:=by omega
 have D:=S2 l[i].regs;obtain⟨cs,t1,h1,h2⟩:=zW (T:=T) (gs:=gs) (ng:=ng) (nf:=l.length) (ex:=2) (tch:=tch) S.mi S.si S.mq S.sq S.mb S.sb S.sc hc hf B;unfold Cod.cs at h1;simp only[Cod.O]at B;refine⟨cs,?_,?_,h2⟩
 rotate_left 1
 . unfold Tp
   simp only[C,G,hi,B,D,zqa,h1,D2,F7,F8,F9,G0,XP,seval];rfl
theorem A2n(hn:i=nf):∃fr',evP ⟨env,T,A0⟩ (.code Tp [(1,.ptr 2 0 0),(2,.int .i64 (i:Int))] ⟨[.row 0 gs 4,.row 0 Fs 5,.row 1 [AV.agg [.msl 0 0 ng 4,.msl 1 0 nf 5]] 2],2,tch⟩)=zs (.ok (.exit 0) fr' ⟨[.row 0 gs 4,.row 0 Fs 5,.row 1 [AV.agg [.msl 0 0 ng 4,.msl 1 0 nf 5]] 2],2,tch⟩)/\lookP fr' 1=.ptr 2 0 0:=by
 unfold Tp;have A:decide ((i:Int)<(nf:Int))=zf:=by simp[hn]
 simp only[A,D2,F7,F8,F9,G0,XP,seval];exact⟨_,rfl,rfl⟩
theorem PY(S:SpT T)(D:∀c∈l,c.ok)(G:l.length<=10000)(hn:nf=l.length):∀(n i:Nat)(Fs:List AV)(tch:List Nat),l.length=i+n->Fs.length=l.length->wide 5 Fs->(∀j,i<=j->Fs[j]?=(l.map Cod.O)[j]?) ->
 ∃fr' A B,evP ⟨env,T,A0⟩ (.code (.loop Tp) [(1,.ptr 2 0 0),(2,.int .i64 (i:Int))] ⟨[.row 0 gs 4,.row 0 Fs 5,.row 1 [AV.agg [.msl 0 0 ng 4,.msl 1 0 nf 5]] 2],2,tch⟩)=zs (.ok (.exit 0) fr' ⟨[.row 0 gs 4,.row 0 A 5,.row 1 [AV.agg [.msl 0 0 ng 4,.msl 1 0 nf 5]] 2],2,B⟩)/\lookP fr' 1=.ptr 2 0 0/\wide 5 A/\A.length=l.length
 |0,i,Fs,tch,e,hl,hw,hj=>by
  obtain⟨fr',h1,h2⟩:=A2n (T:=T) (gs:=gs) (Fs:=Fs) (ng:=ng) (nf:=nf) (tch:=tch) (i:=i) (by omega);grind [loop_exit]
 |n+1,i,Fs,tch,e,hl,hw,hj=>by
  have hi:i<l.length:=by omega
  have I:Fs[i]?=zs l[i].O:=by grind
  obtain⟨cs,C,h1,hc⟩:=A2m (gs:=gs) (ng:=ng) (tch:=tch) S hi hn hl (D _ (zqm hi)) I G;obtain⟨fr',A,B,h2,J,N,Q⟩:=PY S D G hn n (i+1) (Fs.set i (.agg cs)) C (by omega) (by grind) (hw.set i hc) (by grind);grind [loop_more]
theorem zX{box:AV}{rs:List AV}:LensK (fun es=>[.row 0 es 4,.row 0 rs 5,.row 1 [box] 2]) 0 4:=by
 refine⟨⟨fun es=>rfl,fun es es'=>rfl,fun es=>rfl⟩,fun es=>rfl⟩
theorem zY{box:AV}{rs:List AV}:LensK (fun es=>[.row 0 rs 4,.row 0 es 5,.row 1 [box] 2]) 1 5:=by
 refine⟨⟨fun es=>rfl,fun es es'=>rfl,fun es=>rfl⟩,fun es=>rfl⟩
end
theorem Ny(S:SpT T){m:Modl}(Q:∀c∈m.fs,c.ok)(U:m.fs.length<=10000)(hg:m.gs.length<=10000):
 ∃G I A,evP ⟨env,T,A0⟩ (.body 12 [.agg [.msl 0 0 m.gs.length 4,.msl 1 0 m.fs.length 5]] ⟨[.row 0 (m.gs.map Glo.F) 4,.row 0 (m.fs.map Cod.O) 5],2,[]⟩)=zs (.val [] ⟨[.row 0 G 4,.row 0 I 5],2,A⟩):=by
 obtain⟨fr',B,C,h1,h2,V,X⟩:=PY (T:=T) (gs:=m.gs.map Glo.F) (ng:=m.gs.length) (l:=m.fs) S Q U rfl m.fs.length 0 (m.fs.map Cod.O) [] (by omega) (by simp) (rR _) (fun _ _=>rfl);have h1:evP ⟨env,T,A0⟩ (.code (.loop Tp) [(1,.ptr 2 0 0),(2,.int .i64 0)] ⟨[.row 0 (m.gs.map Glo.F) 4,.row 0 (m.fs.map Cod.O) 5,.row 1 [.agg [.msl 0 0 m.gs.length 4,.msl 1 0 m.fs.length 5]] 2],2,[]⟩)=_:=h1;obtain⟨G,D,J,h6⟩:=Lj (T:=T) (ext:=2) (tch:=C.filter (· < 2)) (es:=m.gs.map Glo.F) S.mg S.sg (zX (rs:=B) (box:=.agg [.msl 0 0 m.gs.length 4,.msl 1 0 m.fs.length 5])) (rS _) (by grind);rw[zqa]at J;obtain⟨I,tch3,N,h8⟩:=Rc (T:=T) (ext:=2) (tch:=D) (es:=B) S.mc S.sk (zY (rs:=G) (box:=.agg [.msl 0 0 m.gs.length 4,.msl 1 0 m.fs.length 5])) V (by grind);rw[X]at N;refine⟨G,I,?_,?_⟩
 rotate_left 1
 . rw[A3 (c:=RW) (nt:=22) (rs:=[]) rfl (by simp)];unfold RW
   simp only[h1,h2,J,N,XP,seval];rfl
theorem Vr{l:List Int}(h:K5 l=0):∀e∈l,e=0:=by
 induction l with
 |nil=>grind
 |cons a l B=>
  unfold K5 at h;grind
theorem vU{a n:Int}:thereD a n=zt↔0<=a/\a<n:=by unfold thereD;simp
theorem vV{m:Modl}(h:j4 m=0):∀c∈m.fs,l7 m c=0:=by
 unfold j4 at h;by_cases q:K5 (m.gs.map Xv)=0
 . rw[if_pos q]at h
   by_cases A:K5 (m.fs.map (l7 m))=0
   . grind [Vr, zqq]
   grind
 grind
theorem oI{m:Modl}{c:Cod}(h:l7 m c=0):(1<=c.blocks.length/\c.blocks.length<=400/\c.regs.length<=4096)/\∀b∈c.blocks,Xu m c b=0:=by
 grind [l7, Vr, zqq]
theorem HE{m:Modl}{c:Cod}{b:Blk}(h:Xu m c b=0):(∀x∈b.code,Q7 m c x=0)/\cL c b.e=0:=by
 grind [Xu, Vr, zqq]
theorem dM{a:Int}{n:Nat}(h0:0<=a)(h:a+n<9223372036854775808):S1 a n=a+n:=by
 grind [S1, IntKind.wrap_i64]
def Dr(l:List Blk):Nat:=(l.map fun b=>b.code.length).sum
theorem oJ{M:Nat}:∀l:List Blk,(∀b∈l,b.code.length<=M)->Dr l<=l.length*M
 |[],_=>by simp[Dr]
 |b::l,h=>by
  have h1:=h b (zqs ..);have h2:=oJ l fun b hb=>h b (zqt _ hb)
  grind [Dr, Nat.add_mul]
theorem hO:∀{l:List Blk}{b:Blk},b∈l->b.code.length<=Dr l
 |a::l,b,h=>by
  show b.code.length<=a.code.length+Dr l
  rcases zqb.1 h with rfl|h
  . omega
  . have:=hO h;omega
theorem EO:∀(l:List Blk)(a:Int),0<=a->a+Dr l<9223372036854775808->l.foldl (fun a b=>S1 a b.code.length) a=a+Dr l
 |[],a,_,_=>by simp[Dr]
 |b::l,a,h0,h=>by
  have h:a+((b.code.length+Dr l:Nat):Int)<9223372036854775808:=h;show l.foldl (fun a b=>S1 a b.code.length) (S1 a b.code.length)=a+((b.code.length+Dr l:Nat):Int)
  rw[dM h0 (by omega),EO l _ (by omega) (by omega)];omega
def Ll(c:Cod):Nat:=c.regs.length+c.blocks.length+Dr c.blocks
theorem PZ{a:Int}{c:Cod}(h0:0<=a)(h:a+Ll c<9223372036854775808):vD a c=a+Ll c:=by
 grind [Ll, vD, dM, EO]
def Yi(l:List Cod):Nat:=(l.map Ll).sum
theorem EP:∀(l:List Cod)(a:Int),0<=a->a+Yi l<9223372036854775808->l.foldl vD a=a+Yi l
 |[],a,_,_=>by simp[Yi]
 |c::l,a,h0,h=>by
  have h:a+((Ll c+Yi l:Nat):Int)<9223372036854775808:=h;show l.foldl vD (vD a c)=a+((Ll c+Yi l:Nat):Int)
  rw[PZ h0 (by omega),EP l _ (by omega) (by omega)];omega
theorem oK{M:Nat}:∀l:List Cod,(∀c∈l,Ll c<=M)->Yi l<=l.length*M
 |[],_=>by simp[Yi]
 |b::l,h=>by
  have h1:=h b (zqs ..);have h2:=oK l fun b hb=>h b (zqt _ hb)
  grind [Yi, Nat.add_mul]
theorem hU:∀{l:List Cod}{b:Cod},b∈l->Ll b<=Yi l
 |a::l,b,h=>by
  show Ll b<=Ll a+Yi l
  rcases zqb.1 h with rfl|h
  . omega
  . have:=hU h;omega
theorem iA{m:Modl}(h:m9 m=zf):¬1000<m.fs.foldl vD 0/\m.fs.length<=12/\j4 m=0:=by
 grind [m9]
theorem zZ{m:Modl}{c:Cod}{x:Ins}(h:Q7 m c x=0)(C:x.op=9):0<=x.n/\x.n<m.fs.length:=by
 unfold Q7 at h;split at h
 . split at h
   . simp_all [F4, rF, vU]
   . cases h
 . cases h
theorem AA{m:Modl}(h:j4 m=0):0<=mainI m/\mainI m<m.fs.length:=by
 have hE:nM m=0:=by
  grind [j4]
 unfold nM at hE;by_cases hn:mainI m<0
 . grind
 grind [mainI, gO]
theorem AB{m:Modl}(J:m.ok)(h:m9 m=zf):DpOk m:=by
 obtain ⟨h1,h2,N⟩:=iA h;have A:=vV N;have C:∀c∈m.fs,Ll c<=640000000000000:=fun c hc=>by
  obtain⟨⟨q1,U,q3⟩,q4⟩:=oI (A c hc);have Q:=(J.1 c hc).1
  have:Dr c.blocks<=c.blocks.length*1599289640416:=oJ c.blocks fun b hb=>by
   have:=(Q.2.1 b hb).2
   grind
  grind [Ll]
 have hmo:=oK m.fs C;have hmo2:m.fs.length*640000000000000<=12*640000000000000:=Nat.mul_le_mul_right _ h2;rw[EP m.fs 0 (by omega) (by omega)]at h1;have D:=AA N;refine⟨by omega,by omega,fun c hc=>?_,D,fun c hc t B=>?_⟩
 . have G:=hU hc
   unfold Ll at G;refine⟨(J.1 c hc).1,fun b hb=>?_,by omega⟩
   have:=hO hb
   omega
 . obtain⟨b,hb,B⟩:=List.mem_flatMap.1 B
   obtain⟨x,I,rfl⟩:=zqc.1 B;obtain⟨I,V⟩:=List.mem_filter.1 I;exact zZ ((HE ((oI (A c hc)).2 b hb)).1 x I) (of_decide_eq_true V)
section
variable {m M p:Modl}{os:List PO}{K:PK}
theorem Gl{p q:Nat}{ng nf:Nat}(hg:M.gs.length=ng)(hf:M.fs.length=nf)(h1:rowOf os 6 p=zs (0,M.gs.map Glo.F,4))(h2:rowOf os 6 q=zs (0,M.fs.map Cod.O,5)):viewA os (.agg [.msl p 0 ng 4,.msl q 0 nf 5])=zs M.F:=by
 have A:viewV os (.msl p 0 ng 4)=zs (fslN (M.gs.map Glo.F)):=by
  rw[wv_msl,h1];show(if 0=0/\4=4/\0+ng<=(M.gs.map Glo.F).length then(match frzL (((M.gs.map Glo.F).drop 0).take ng)with|some es=>zs (fslN es)|none=>zn)else zn)=_
  rw[if_pos ⟨rfl,rfl,by simp;omega⟩,List.drop_zero,zqu (by simp;omega),frzL_gloF]
 have B:viewV os (.msl q 0 nf 5)=zs (fslN (M.fs.map Cod.F)):=by
  rw[wv_msl,h2];show(if 0=0/\5=5/\0+nf<=(M.fs.map Cod.O).length then(match frzL (((M.fs.map Cod.O).drop 0).take nf)with|some es=>zs (fslN es)|none=>zn)else zn)=_
  rw[if_pos ⟨rfl,rfl,by simp;omega⟩,List.drop_zero,zqu (by simp;omega),rD]
 show(match viewL os [.msl p 0 ng 4,.msl q 0 nf 5]with|some cs=>zs (AV.agg cs)|none=>zn)=_
 rw[vl_cons,vl_cons,A,B];rfl
theorem AC{q:List Int}{c:Cod}(h:c.ok):(relC q c).ok:=by
 refine⟨h.1,fun b hb=>?_,by show(c.blocks.map (relB q)).length*56<=bigN;rw[zqa];exact h.2.2⟩;obtain⟨D,A,rfl⟩:=zqc.1 hb;have C:=h.2.1 D A;refine⟨fun x G=>?_,by show(D.code.map (relI q)).length*88<=bigN;rw[zqa];exact C.2⟩;obtain⟨I,B,rfl⟩:=zqc.1 G
 have:=C.1 I B
 unfold relI;split
 . exact this
 . exact this
theorem HF(h:DpOk m):(∀c∈(pruD m).fs,c.ok)/\(pruD m).fs.length<=10000:=by
 refine⟨fun c hc=>?_,?_⟩
 . obtain⟨B,A,rfl⟩:=zqc.1 hc
   exact AC (h.ok B ((keepL_mem _ _ _ _ A).resolve_left (by simp))).ok
 . show((kpM m).1.map (relC (kpM m).2)).length<=10000
   rw[zqa]
   have:=(Gi (nd:=vL m) m.fs 0 [] (List.replicate m.fs.length 0)).1
   have hs:=h.sz;unfold kpM;simp at this;omega
theorem b15(h:m9 m=zf):t8 m=zf/\j4 m=0/\m.fs.length<=12:=by
 grind [m9]
theorem vW(h:t8 m=zf):m.gs.length<=10000:=by
 grind [t8]
theorem vX(S:SpT T)(C:∀c∈p.fs,c.ok)(D:p.fs.length<=10000)(hg:p.gs.length<=10000):
 ∃ A B G,∀tch,evP ⟨env,T,A0⟩ (.call 12 [.agg [.msl 4 0 p.gs.length 4,.msl 5 0 p.fs.length 5]] ⟨[.row 1 [.agg [fslN (m.gs.map Glo.F),fslN (m.fs.map Cod.F)]] 2,.row 0 (m.gs.map Glo.F) 4,.row 0 (m.fs.map Cod.O) 5,.row 1 [.agg [.msl 1 0 m.gs.length 4,.msl 2 0 m.fs.length 5]] 2,.row 0 (p.gs.map Glo.F) 4,.row 0 (p.fs.map Cod.O) 5,.row 1 [.agg [.msl 4 0 p.gs.length 4,.msl 5 0 p.fs.length 5]] 2,.row 0 (p.gs.map Glo.F) 4,.row 0 (p.fs.map Cod.O) 5,.row 1 [.agg [.msl 7 0 p.gs.length 4,.msl 8 0 p.fs.length 5]] 2,.row 0 (p.gs.map Glo.F) 4,.row 0 (p.fs.map Cod.O) 5,.row 1 [.agg [.msl 10 0 p.gs.length 4,.msl 11 0 p.fs.length 5]] 2],0,tch⟩) =
   zs (.val [] ⟨[.row 1 [.agg [fslN (m.gs.map Glo.F),fslN (m.fs.map Cod.F)]] 2,.row 0 (m.gs.map Glo.F) 4,.row 0 (m.fs.map Cod.O) 5,.row 1 [.agg [.msl 1 0 m.gs.length 4,.msl 2 0 m.fs.length 5]] 2,.row 0 A 4,.row 0 B 5,.row 1 [.agg [.msl 4 0 p.gs.length 4,.msl 5 0 p.fs.length 5]] 2,.row 0 (p.gs.map Glo.F) 4,.row 0 (p.fs.map Cod.O) 5,.row 1 [.agg [.msl 7 0 p.gs.length 4,.msl 8 0 p.fs.length 5]] 2,.row 0 (p.gs.map Glo.F) 4,.row 0 (p.fs.map Cod.O) 5,.row 1 [.agg [.msl 10 0 p.gs.length 4,.msl 11 0 p.fs.length 5]] 2],0,G++tch⟩):=by
 obtain⟨A,B,t1,hb⟩:=Ny (T:=T) S C D hg;exact⟨A,B,_,fun tch=>RL (ids:=[4,5]) S.sm rfl rfl rfl rfl hb rfl rfl⟩
end
theorem Dw(ac:T 4=zs Df)(C:T 5=zs w6)(X:T 6=zs Bi)(D:T 7=zs N6)(G:T 8=zs w7)(I:T 9=zs Q8)(J:T 10=zs w8)(A:T 11=zs U7)(N:T 12=zn)(ad:T 32=zn)(ag:T 61=zs M9)(ae:T 48=zn)(Y:T 62=zs K8)(Q:T 49=zn)(aa:T 63=zs O9)(U:T 50=zn)(V:T 51=zs R3)(B:T 33=zn)(af:T 52=zs Z9)(ab:T 34=zn){m:Modl}(hk:m.ok):AM.Comes ⟨env,T,A0⟩ 3 [m.F] [.bool zt]:=by
 refine⟨[.bool zt],⟨[],0,[]⟩,?_,A9 rfl zqp rfl rfl rfl⟩;have tb:=fun K=>lE (K:=K) ac hk
 have tw:=fun K=>dA (K:=K) C
 cases hb:m9 m with
 |true=>
  rw[hb]at tb;rw[A3 (c:=p3) (nt:=65) (rs:=[.tmp 2]) rfl (by simp)];unfold p3;unfold K0;unfold FS FR;simp only[Modl.F]at tb|-;simp only[tb,tw,XP,seval]
 |false=>
  rw[hb]at tb;have hd:=AB hk hb;have ah:=hk.2.2;have hfs:=hd.sz;have al:∀c∈m.fs,c.ok:=fun c hc=>(hk.1 c hc).1
  have hgl:m.gs.length<=10000\/True:=.inr trivial;obtain⟨ak,am⟩:=HF hd;have ai:(pruD m).gs=m.gs:=rfl;have t1:=fun K=>gV (K:=K) X ⟨hk,by simp only[bigN];omega⟩
  have v1:∀(K:PK),rowOf K.os 6 1=zs (0,m.gs.map Glo.F,4)->rowOf K.os 6 2=zs (0,m.fs.map Cod.O,5)->viewAs K.os [.agg [.msl 1 0 m.gs.length 4,.msl 2 0 m.fs.length 5]]=zs [m.F]:=fun K h1 h2=>by
   rw[va_cons,va_nil,Gl rfl rfl h1 h2];rfl
  have t2:=fun K h1 h2=>Ag D (v1 K h1 h2) hd
  have t3:=fun K=>dC (K:=K) G ⟨hd.ok,hd.sz,hd.mn⟩
  have t4:=fun K h1 h2=>Fm I (v1 K h1 h2) ⟨hd,ah⟩
  have t5:=fun K=>dD (K:=K) J ⟨hd,ah⟩
  rw [<-GZ hd]at t3;rw[<-HB hd]at t5;have s1:∀(K:PK)(a b c d:Nat),rowOf K.os 6 a=zs (0,(pruD m).gs.map Glo.F,4)->rowOf K.os 6 b=zs (0,(pruD m).fs.map Cod.O,5)->rowOf K.os 6 c=zs (0,(pruD m).gs.map Glo.F,4)->rowOf K.os 6 d=zs (0,(pruD m).fs.map Cod.O,5)->evP ⟨env,T,A0⟩ (.call 11 [.agg [.msl a 0 (pruD m).gs.length 4,.msl b 0 (pruD m).fs.length 5],.agg [.msl c 0 (pruD m).gs.length 4,.msl d 0 (pruD m).fs.length 5]] K)=zs (.val [.bool zt] ⟨K.os++[],K.ext,K.tch⟩):=fun K a b c d h1 h2 h3 h4=>by
   have:=Bp (a:=pruD m) (b:=pruD m) (K:=K) (args:=[.agg [.msl a 0 (pruD m).gs.length 4,.msl b 0 (pruD m).fs.length 5],.agg [.msl c 0 (pruD m).gs.length 4,.msl d 0 (pruD m).fs.length 5]]) A (by rw[va_cons,va_cons,va_nil,Gl rfl rfl h1 h2,Gl rfl rfl h3 h4];rfl) ⟨by rw[ai];exact ah,ak,by simp only[bigN];omega⟩
   rw[decide_eq_true rfl]at this;exact this
  have s2:∀(K:PK),rowOf K.os 6 1=zs (0,m.gs.map Glo.F,4)->rowOf K.os 6 2=zs (0,m.fs.map Cod.O,5)->evP ⟨env,T,A0⟩ (.call 11 [.agg [.msl 1 0 m.gs.length 4,.msl 2 0 m.fs.length 5],m.F] K)=zs (.val [.bool zt] ⟨K.os++[],K.ext,K.tch⟩):=fun K h1 h2=>by
   have:=Bp (a:=m) (b:=m) (K:=K) (args:=[.agg [.msl 1 0 m.gs.length 4,.msl 2 0 m.fs.length 5],m.F]) A (by rw[va_cons,va_cons,va_nil,Gl rfl rfl h1 h2,Modl.viewF];rfl) ⟨ah,al,by simp only[bigN];omega⟩
   rw[decide_eq_true rfl]at this;exact this
  have aj:m.gs.length<=10000:=vW (b15 hb).1;obtain⟨r1,r2,tt,sp⟩:=vX (T:=T) (m:=m) (p:=pruD m) ⟨ag,ae,Y,Q,aa,U,ad,V,B,af,ab,N⟩ ak am (by rw[ai];exact aj);rw[A3 (c:=p3) (nt:=65) (rs:=[.tmp 2]) rfl (by simp)];unfold p3;unfold K0;unfold FS JX JW JV JU JT JS JR JQ FR;have e0:(pruD m).O=.agg [ownd 0 4 ((pruD m).gs.map Glo.F),ownd 0 5 ((pruD m).fs.map Cod.O)]:=rfl;rw[e0]at t4 t5;generalize depD m=dd at *;generalize pruD m=p at *;simp only[Modl.F]at tb t1 t2 t3 t4 t5 s1 s2|-;simp only[Modl.O]at t1;have nb:∀(x:Bool)(K:PK),V4 env .neq 4 (.bool x) (.bool x) K=.val (.bool zf) K:=fun x K=>by cases x<;>rfl
  simp only[tb,tw,t1,t2,t3,t4,t5,s1,s2,sp,nb,zqa,XP,seval]
  done
open Go.ChangeShapes Go.WideShapes Go.ChangeAt
section
variable {H:Type}{enc:TypeId×Value->H}{P:Program}{W:World}{base:Nat}{spare:Nat->Bool}{held:Bool}
theorem O4{E:Env}(hE:EnvOk E P){t:Nat}{x:TI}(A:E.ti t=zs x):P.cellsOf t=x.size:=by
 obtain⟨i,z,h1,h2,_⟩:=(hE.ti t x A).info;grind [Program.cellsOf]
theorem Fo{E:Env}(hE:EnvOk E P){t:Nat}{x:TI}(A:E.ti t=zs x):P.bytesOf t=x.bytes:=by
 obtain⟨i,z,h1,_,h2,_⟩:=(hE.ti t x A).info;grind [Program.bytesOf]
variable (hE:EnvOk env P)
include hE
theorem vY:P.underlying 3=zs (.int .i64):=(hE.ti 3 gA rfl).desc
theorem EQ:P.underlying 9=zs .string:=(hE.ti 9 KE rfl).desc
theorem HG:P.underlying 33=zs (.slice 3):=(hE.ti 33 Ha rfl).desc
theorem vZ:P.underlying 37=zs (.slice 65):=(hE.ti 37 gD rfl).desc
theorem wA:P.underlying 34=zs (.slice 41):=(hE.ti 34 gC rfl).desc
theorem AD:P.underlying 23=zs (.slice 36):=(hE.ti 23 gB rfl).desc
theorem AE:P.underlying 22=zs (.slice 59):=(hE.ti 22 kN rfl).desc
theorem Fp:P.cellsOf 3=1:=O4 hE ti3
theorem Vs:P.cellsOf 9=1:=O4 hE ti9
theorem Vt:P.cellsOf 33=1:=O4 hE A1E
theorem Vu:P.cellsOf 37=1:=O4 hE A1G
theorem iB:P.cellsOf 34=1:=O4 hE A1F
theorem oL:P.cellsOf 23=1:=O4 hE A1C
theorem dN:P.cellsOf 22=1:=O4 hE A1B
theorem oM:P.cellsOf 65=8:=O4 hE GA
theorem ER:P.cellsOf 39=4:=O4 hE A1H
theorem oN:P.cellsOf 41=5:=O4 hE FX
theorem wB:P.cellsOf 36=5:=O4 hE FW
theorem wC:P.cellsOf 59=4:=O4 hE FZ
theorem QA:P.cellsOf 25=2:=O4 hE A1D
theorem Gm{m n:Nat}{cs:List Value}{d:DataW H}{ps:List MemPlace}(h:DataW.trod enc P W base spare held n 3 cs=zs (d,ps))(hw:Wt P 3 d):∃s,Y8 P (m+1) 3 d=zs s/\s.length=P.cellsOf 3/\∃z,s=[.int .i64 z]:=by
 obtain⟨z,rfl,e,_⟩:=DataW.trod_int (vY hE) h;cases e;refine⟨[.int .i64 z],?_,by rw[Fp hE];rfl,z,rfl⟩;unfold Y8;rw[vY hE]
theorem dO{m n:Nat}{cs:List Value}{d:DataW H}{ps:List MemPlace}(h:DataW.trod enc P W base spare held n 9 cs=zs (d,ps))(A:Wt P 9 d):∃s,Y8 P (m+1) 9 d=zs s/\s.length=P.cellsOf 9/\∃b,s=[.str b]/\b.length<=140737488355328:=by
 obtain⟨b,rfl,e,_⟩:=DataW.trod_string (EQ hE) h;cases e;refine⟨[.str b.data.toList],?_,by rw[Vs hE];rfl,_,rfl,?_⟩
 . grind [Y8, EQ]
 . have:=A b.data.toList.length (by unfold DataW.weights;simp)
   exact Nat.le_trans this (by decide)
omit hE in
def lX(A:List AV)(z:Int):Prop:=A=[.int .i64 z]
theorem iC{m n:Nat}{cs:List Value}{d:DataW H}{ps:List MemPlace}(h:DataW.trod enc P W base spare held n 33 cs=zs (d,ps))(A:Wt P 33 d):∃s,Y8 P (m+2) 33 d=zs s/\s.length=P.cellsOf 33/\∃v l,s=[v]/\Ym P 3 lX v l:=by
 obtain ⟨v,l,h1,h2⟩:=Ao (Q:=lX) (m:=m+1) (HG hE) (by rw[Fp hE];decide) (fun n cs d ps h A=>by
  obtain⟨s,h1,h2,z,rfl⟩:=Gm hE (m:=m) h A;exact⟨_,z,h1,⟨h2,.inr rfl⟩,rfl⟩) h A
 exact⟨[v],h1,by rw[Vt hE];rfl,v,l,rfl,h2⟩
omit hE in
def Iq(P:Program)(A:List AV)(I:Ins):Prop:=∃B,A=[.int .i64 I.op,.int .i64 I.ty,.int .i64 I.dst,.int .i64 I.a,.int .i64 I.b,.int .i64 I.n,.str I.s,B]/\Ym P 3 lX B I.args/\I.s.length<=140737488355328
omit hE in
theorem A2o{A:List (List AV)}(h:A.length=8):∃a b c d e f g i,A=[a,b,c,d,e,f,g,i]:=by
 match A,h with
 |[a,b,c,d,e,f,g,i],_=>grind
theorem rT{m n:Nat}{cs:List Value}{d:DataW H}{ps:List MemPlace}(h:DataW.trod enc P W base spare held n 65 cs=zs (d,ps))(C:Wt P 65 d):∃A I,Y8 P (m+3) 65 d=zs A/\(A.length=P.cellsOf 65/\(Ap P 65=zt\/A.length=1))/\Iq P A I:=by
 obtain ⟨fs,V,Q,_⟩:=(hE.ti 65 t7 rfl).desc;have Q:fs.toList.map (fun f=>(f.type,f.offset))=[(3,0),(3,1),(3,2),(3,3),(3,4),(3,5),(9,6),(33,7)]:=Q;obtain⟨ss,h1,h2,X,B⟩:=n9 (m:=m+2) (Qs:=fun i s=>(i<6->∃z,s=[.int .i64 z])/\(i=6->∃b,s=[.str b]/\b.length<=140737488355328)/\(i=7->∃v l,s=[v]/\Ym P 3 lX v l)) V Q
  (by simp only[Mk,Fp hE,Vs hE,Vt hE,and_self]) (by simp only[oM hE,zqd,zqe,zqf,zqg,Nat.reduceAdd,Fp hE,Vs hE,Vt hE])
  (fun i ty off N n cs d ps h C=>by
    rcases i with _|_|_|_|_|_|_|_|i
    iterate 6
     . cases N
       obtain⟨s,D,G,J⟩:=Gm hE (m:=m+1) h C;exact⟨s,D,G,fun _=>J,fun hh=>by omega,fun hh=>by omega⟩
    . cases N
      obtain⟨s,D,G,J⟩:=dO hE (m:=m+1) h C;exact⟨s,D,G,fun hh=>by omega,fun _=>J,fun hh=>by omega⟩
    . cases N
      obtain⟨s,D,G,J⟩:=iC hE (m:=m) h C;exact⟨s,D,G,fun hh=>by omega,fun hh=>by omega,fun _=>J⟩
    . simp at N) h C
 obtain⟨a,b,c,e,f,g,s6,s7,rfl⟩:=A2o X;obtain⟨Y,rfl⟩:=(B 0 _ rfl).1 (by omega);obtain⟨z1,rfl⟩:=(B 1 _ rfl).1 (by omega);obtain⟨z2,rfl⟩:=(B 2 _ rfl).1 (by omega);obtain⟨z3,rfl⟩:=(B 3 _ rfl).1 (by omega);obtain⟨z4,rfl⟩:=(B 4 _ rfl).1 (by omega);obtain⟨z5,rfl⟩:=(B 5 _ rfl).1 (by omega);obtain⟨b6,rfl,U⟩:=(B 6 _ rfl).2.1 rfl;obtain⟨v,l,rfl,hv⟩:=(B 7 _ rfl).2.2 rfl;exact⟨_,⟨Y,z1,z2,z3,z4,z5,b6,l⟩,h1,⟨h2,.inl (by unfold Ap;rw[V])⟩,v,rfl,hv,U⟩
omit hE in
def Ir(P:Program)(A:List AV)(B:Blk):Prop:=∃C,A=[C,.int .i64 B.e.kind,.int .i64 B.e.a,.int .i64 B.e.to,.int .i64 B.e.els]/\Ym P 65 (Iq P) C B.code
theorem lY{m n:Nat}{cs:List Value}{d:DataW H}{ps:List MemPlace}(h:DataW.trod enc P W base spare held n 37 cs=zs (d,ps))(A:Wt P 37 d):∃s,Y8 P (m+4) 37 d=zs s/\s.length=P.cellsOf 37/\∃v l,s=[v]/\Ym P 65 (Iq P) v l:=by
 obtain⟨v,l,h1,h2⟩:=Ao (Q:=Iq P) (m:=m+3) (vZ hE) (by rw[oM hE];decide) (fun n cs d ps h A=>rT hE h A) h A;exact⟨[v],h1,by rw[Vu hE];rfl,v,l,rfl,h2⟩
theorem AF{m n:Nat}{cs:List Value}{d:DataW H}{ps:List MemPlace}(h:DataW.trod enc P W base spare held n 39 cs=zs (d,ps))(B:Wt P 39 d):∃s,Y8 P (m+2) 39 d=zs s/\s.length=P.cellsOf 39/\∃x y z w,s=[.int .i64 x,.int .i64 y,.int .i64 z,.int .i64 w]:=by
 obtain ⟨fs,G,C,_⟩:=(hE.ti 39 Nc rfl).desc;have C:fs.toList.map (fun f=>(f.type,f.offset))=[(3,0),(3,1),(3,2),(3,3)]:=C;obtain⟨I,h1,h2,J,A⟩:=n9 (m:=m+1) (Qs:=fun i s=>∃z,s=[.int .i64 z]) G C
  (by simp only[Mk,Fp hE,and_self]) (by simp only[ER hE,zqd,zqe,zqf,zqg,Nat.reduceAdd,Fp hE])
  (fun i ty off D n cs d ps h B=>by
    rcases i with _|_|_|_|i
    iterate 4
     . cases D
       exact Gm hE (m:=m) h B
    . simp at D) h B
 match I,J with
 |[a,b,c,e],_=>
  obtain⟨N,rfl⟩:=A 0 _ rfl;obtain⟨Q,rfl⟩:=A 1 _ rfl;obtain⟨U,rfl⟩:=A 2 _ rfl;obtain⟨V,rfl⟩:=A 3 _ rfl;exact⟨_,h1,h2,N,Q,U,V,rfl⟩
theorem rU{m n:Nat}{cs:List Value}{d:DataW H}{ps:List MemPlace}(h:DataW.trod enc P W base spare held n 41 cs=zs (d,ps))(C:Wt P 41 d):∃A B,Y8 P (m+5) 41 d=zs A/\(A.length=P.cellsOf 41/\(Ap P 41=zt\/A.length=1))/\Ir P A B:=by
 obtain ⟨fs,Q,G,_⟩:=(hE.ti 41 Db rfl).desc;have G:fs.toList.map (fun f=>(f.type,f.offset))=[(37,0),(39,1)]:=G;obtain⟨V,h1,h2,X,U⟩:=n9 (m:=m+4) (Qs:=fun i s=>(i=0->∃v l,s=[v]/\Ym P 65 (Iq P) v l)/\(i=1->∃x y z w,s=[.int .i64 x,.int .i64 y,.int .i64 z,.int .i64 w])) Q G
  (by simp only[Mk,Vu hE,and_self]) (by simp only[oN hE,zqd,zqe,zqf,zqg,Nat.reduceAdd,Vu hE,ER hE])
  (fun i ty off D n cs d ps h C=>by
    rcases i with _|_|i
    . cases D
      obtain⟨s,I,J,N⟩:=lY hE (m:=m) h C;exact⟨s,I,J,fun _=>N,fun hh=>by omega⟩
    . cases D
      obtain⟨s,I,J,N⟩:=AF hE (m:=m+2) h C;exact⟨s,I,J,fun hh=>by omega,fun _=>N⟩
    . simp at D) h C
 match V,X with
 |[a,b],_=>
  obtain⟨v,l,rfl,Y⟩:=(U 0 _ rfl).1 rfl;obtain⟨x,y,z,w,rfl⟩:=(U 1 _ rfl).2 rfl;exact⟨_,⟨l,⟨x,y,z,w⟩⟩,h1,⟨h2,.inl (by unfold Ap;rw[Q])⟩,v,rfl,Y⟩
theorem lZ{m n:Nat}{cs:List Value}{d:DataW H}{ps:List MemPlace}(h:DataW.trod enc P W base spare held n 34 cs=zs (d,ps))(A:Wt P 34 d):∃s,Y8 P (m+6) 34 d=zs s/\s.length=P.cellsOf 34/\∃v l,s=[v]/\Ym P 41 (Ir P) v l:=by
 obtain⟨v,l,h1,h2⟩:=Ao (Q:=Ir P) (m:=m+5) (wA hE) (by rw[oN hE];decide) (fun n cs d ps h A=>rU hE h A) h A;exact⟨[v],h1,by rw[iB hE];rfl,v,l,rfl,h2⟩
omit hE in
def aA(P:Program)(A:List AV)(C:Cod):Prop:=∃B D,A=[.str C.name,.int .i64 C.ty,.int .i64 C.ps,B,D]/\Ym P 3 lX B C.regs/\Ym P 41 (Ir P) D C.blocks
theorem wD{m n:Nat}{cs:List Value}{d:DataW H}{ps:List MemPlace}(h:DataW.trod enc P W base spare held n 36 cs=zs (d,ps))(I:Wt P 36 d):∃A C,Y8 P (m+7) 36 d=zs A/\(A.length=P.cellsOf 36/\(Ap P 36=zt\/A.length=1))/\aA P A C:=by
 obtain ⟨fs,X,Q,_⟩:=(hE.ti 36 l6 rfl).desc;have Q:fs.toList.map (fun f=>(f.type,f.offset))=[(9,0),(3,1),(3,2),(33,3),(34,4)]:=Q;obtain⟨Y,h1,h2,h3,N⟩:=n9 (m:=m+6) (Qs:=fun i s=>(i=0->∃b,s=[.str b]/\b.length<=140737488355328)/\((i=1\/i=2)->∃z,s=[.int .i64 z])/\(i=3->∃v l,s=[v]/\Ym P 3 lX v l)/\(i=4->∃v l,s=[v]/\Ym P 41 (Ir P) v l)) X Q
  (by simp only[Mk,Fp hE,Vs hE,Vt hE,and_self]) (by simp only[wB hE,zqd,zqe,zqf,zqg,Nat.reduceAdd,Fp hE,Vs hE,Vt hE,iB hE])
  (fun i ty off J n cs d ps h I=>by
    rcases i with _|_|_|_|_|i
    . cases J
      obtain⟨s,B,D,G⟩:=dO hE (m:=m+5) h I;exact⟨s,B,D,fun _=>G,fun hh=>by omega,fun hh=>by omega,fun hh=>by omega⟩
    . cases J
      obtain⟨s,B,D,G⟩:=Gm hE (m:=m+5) h I;exact⟨s,B,D,fun hh=>by omega,fun _=>G,fun hh=>by omega,fun hh=>by omega⟩
    . cases J
      obtain⟨s,B,D,G⟩:=Gm hE (m:=m+5) h I;exact⟨s,B,D,fun hh=>by omega,fun _=>G,fun hh=>by omega,fun hh=>by omega⟩
    . cases J
      obtain⟨s,B,D,G⟩:=iC hE (m:=m+4) h I;exact⟨s,B,D,fun hh=>by omega,fun hh=>by omega,fun _=>G,fun hh=>by omega⟩
    . cases J
      obtain⟨s,B,D,G⟩:=lZ hE (m:=m) h I;exact⟨s,B,D,fun hh=>by omega,fun hh=>by omega,fun hh=>by omega,fun _=>G⟩
    . simp at J) h I
 match Y,h3 with
 |[a,b,c,e,f],_=>
  obtain⟨b0,rfl,_⟩:=(N 0 _ rfl).1 rfl;obtain⟨z1,rfl⟩:=(N 1 _ rfl).2.1 (.inl rfl);obtain⟨z2,rfl⟩:=(N 2 _ rfl).2.1 (.inr rfl);obtain⟨v3,l3,rfl,U⟩:=(N 3 _ rfl).2.2.1 rfl;obtain⟨v4,l4,rfl,V⟩:=(N 4 _ rfl).2.2.2 rfl;exact⟨_,⟨b0,z1,z2,l3,l4⟩,h1,⟨h2,.inl (by unfold Ap;rw[X])⟩,v3,v4,rfl,U,V⟩
omit hE in
def iD(A:List AV)(G:Glo):Prop:=A=[.str G.name,.int .i64 G.ty,.int .i64 G.size,.int .i64 G.at_]
theorem wE{m n:Nat}{cs:List Value}{d:DataW H}{ps:List MemPlace}(h:DataW.trod enc P W base spare held n 59 cs=zs (d,ps))(B:Wt P 59 d):∃A G,Y8 P (m+2) 59 d=zs A/\(A.length=P.cellsOf 59/\(Ap P 59=zt\/A.length=1))/\iD A G:=by
 obtain ⟨fs,U,I,_⟩:=(hE.ti 59 Cb rfl).desc;have I:fs.toList.map (fun f=>(f.type,f.offset))=[(9,0),(3,1),(3,2),(3,3)]:=I;obtain⟨V,h1,h2,X,C⟩:=n9 (m:=m+1) (Qs:=fun i s=>(i=0->∃b,s=[.str b]/\b.length<=140737488355328)/\(0<i->∃z,s=[.int .i64 z])) U I
  (by simp only[Mk,Fp hE,Vs hE,and_self]) (by simp only[wC hE,zqd,zqe,zqf,zqg,Nat.reduceAdd,Fp hE,Vs hE])
  (fun i ty off D n cs d ps h B=>by
    rcases i with _|_|_|_|i
    . cases D
      obtain⟨s,J,N,Q⟩:=dO hE (m:=m) h B;exact⟨s,J,N,fun _=>Q,fun hh=>by omega⟩
    iterate 3
     . cases D
       obtain⟨s,J,N,Q⟩:=Gm hE (m:=m) h B;exact⟨s,J,N,fun hh=>by omega,fun _=>Q⟩
    . simp at D) h B
 match V,X with
 |[a,b,c,e],_=>
  obtain⟨Y,rfl,_⟩:=(C 0 _ rfl).1 rfl;obtain⟨z1,rfl⟩:=(C 1 _ rfl).2 (by omega);obtain⟨z2,rfl⟩:=(C 2 _ rfl).2 (by omega);obtain⟨z3,rfl⟩:=(C 3 _ rfl).2 (by omega);exact⟨_,⟨Y,z1,z2,z3⟩,h1,⟨h2,.inl (by unfold Ap;rw[U])⟩,rfl⟩
theorem AG{n:Nat}{cs:List Value}{d:DataW H}{ps:List MemPlace}(h:DataW.trod enc P W base spare held n 25 cs=zs (d,ps))(A:Wt P 25 d):∃N U,∃M:Modl,Y8 P 9 25 d=zs [N,U]/\Ym P 59 iD N M.gs/\Ym P 36 (aA P) U M.fs:=by
 obtain ⟨fs,X,C,_⟩:=(hE.ti 25 Ty rfl).desc;have C:fs.toList.map (fun f=>(f.type,f.offset))=[(22,0),(23,1)]:=C;obtain⟨Y,h1,h2,h3,V⟩:=n9 (m:=8) (Qs:=fun i s=>(i=0->∃v l,s=[v]/\Ym P 59 iD v l)/\(i=1->∃v l,s=[v]/\Ym P 36 (aA P) v l)) X C
  (by simp only[Mk,dN hE,and_self]) (by simp only[QA hE,zqd,zqe,zqf,zqg,Nat.reduceAdd,dN hE,oL hE])
  (fun i ty off B n cs d ps h A=>by
    rcases i with _|_|i
    . cases B
      obtain⟨v,l,D,G⟩:=Ao (Q:=iD) (m:=7) (AE hE) (by rw[wC hE];decide) (fun n cs d ps h A=>wE hE (m:=5) h A) h A;exact⟨[v],D,by rw[dN hE];rfl,fun _=>⟨v,l,rfl,G⟩,fun hh=>by omega⟩
    . cases B
      obtain⟨v,l,D,G⟩:=Ao (Q:=aA P) (m:=7) (AD hE) (by rw[wB hE];decide) (fun n cs d ps h A=>wD hE (m:=0) h A) h A;exact⟨[v],D,by rw[oL hE];rfl,fun hh=>by omega,fun _=>⟨v,l,rfl,G⟩⟩
    . simp at B) h A
 match Y,h3 with
 |[a,b],_=>
  obtain⟨v0,l0,rfl,I⟩:=(V 0 _ rfl).1 rfl;obtain⟨v1,l1,rfl,J⟩:=(V 1 _ rfl).2 rfl;exact⟨v0,v1,⟨l0,l1⟩,h1,I,J⟩
omit hE in
theorem dP{t:TypeId}{A:List AV}(h:Ap P t=zt):seeV P t A=.agg A:=by unfold seeV;rw[h];rfl
theorem ES:P.bytesOf 3=8:=Fo hE ti3
theorem AH:P.bytesOf 65=88:=Fo hE GA
theorem AI:P.bytesOf 41=56:=Fo hE FX
theorem HH:P.bytesOf 36=80:=Fo hE FW
theorem HI:P.bytesOf 59=40:=Fo hE FZ
theorem AJ{t:TypeId}{x:TI}{L:List (Nat×Nat)}{A:Bool}(B:env.ti t=zs x)(C:x.desc=.struct L A):Ap P t=zt:=by
 have h:=(hE.ti t x B).desc;unfold J7 at h;rw[C]at h;obtain⟨fs,D,_⟩:=h;unfold Ap;rw[D]
theorem A2p:Ap P 3=zf:=by unfold Ap;rw[vY hE]
theorem wF{v:AV}{l:List Int}(B:Ym P 3 lX v l){Z:Nat->Prop}{h:Heap}:Fz Z h v (fslN (ints l)):=B.fz fun r X A=>by
 have A:r=[.int .i64 X]:=A;subst A
 have:seeV P 3 [.int .i64 X]=.int .i64 X:=by unfold seeV;rw[A2p hE];rfl
 rw[this];exact .int _ _
omit hE in
theorem iE{Z:Nat->Prop}{h:Heap}{xs ys:List AV}(hl:xs.length=ys.length)(hc:ys.all clo=zt)(hz:∀p∈xs.zip ys,Fz Z h p.1 p.2):Fz Z h (.agg xs) (.agg ys):=by
 refine .agg hl (fun i x y A B=>hz (x,y) ?_) hc;exact List.mem_of_getElem? (i:=i) (by rw[List.getElem?_zip_eq_some];exact⟨A,B⟩)
theorem AK{A:List AV}{I:Ins}(C:Iq P A I){Z:Nat->Prop}{h:Heap}:Fz Z h (seeV P 65 A) I.F:=by
 obtain⟨av,rfl,h1,_⟩:=C;rw[dP (AJ hE GA rfl)];refine iE rfl rfl fun p B=>?_
 simp only[zqk,zql,zqb,zqh,or_false]at B;rcases B with rfl|rfl|rfl|rfl|rfl|rfl|rfl|rfl
 iterate 6
  . exact .int _ _
 . exact .str _
 . exact wF hE h1
theorem AL{A:List AV}{B:Blk}(D:Ir P A B){Z:Nat->Prop}{h:Heap}:Fz Z h (seeV P 41 A) B.F:=by
 obtain⟨av,rfl,h1⟩:=D;rw[dP (AJ hE FX rfl)];refine iE rfl rfl fun p C=>?_
 simp only[zqk,zql,zqb,zqh,or_false]at C;rcases C with rfl|rfl|rfl|rfl|rfl
 . exact h1.fz fun r X G=>AK hE G
 iterate 4
  . exact .int _ _
theorem HJ{A:List AV}{C:Cod}(D:aA P A C){Z:Nat->Prop}{h:Heap}:Fz Z h (seeV P 36 A) C.F:=by
 obtain⟨rv,bv,rfl,h1,h2⟩:=D;rw[dP (AJ hE FW rfl)];refine iE rfl rfl fun p B=>?_
 simp only[zqk,zql,zqb,zqh,or_false]at B;rcases B with rfl|rfl|rfl|rfl|rfl
 . exact .str _
 . exact .int _ _
 . exact .int _ _
 . exact wF hE h1
 . exact h2.fz fun r X G=>AL hE G
theorem HK{A:List AV}{G:Glo}(B:iD A G){Z:Nat->Prop}{h:Heap}:Fz Z h (seeV P 59 A) G.F:=by
 have B:A=_:=B;subst B;rw[dP (AJ hE FZ rfl)];refine iE rfl rfl fun p C=>?_
 simp only[zqk,zql,zqb,zqh,or_false]at C;rcases C with rfl|rfl|rfl|rfl
 . exact .str _
 iterate 3
  . exact .int _ _
theorem Nz{n b k:Nat}(h:n*b<=reachBytes)(hb:b=k):n*k<=bigN:=by
 subst hb;exact Nat.le_trans h (by decide)
theorem wG{A:List AV}{I:Ins}(B:Iq P A I):I.sok:=by
 obtain⟨av,_,h1,h2⟩:=B;exact⟨Nz hE h1.2 (ES hE),h2⟩
theorem wH{C:List AV}{B:Blk}(D:Ir P C B):B.sok:=by
 obtain ⟨av,_,h1⟩:=D;have A:∀x∈B.code,x.sok:=fun x A=>by
  obtain⟨r,G⟩:=h1.mem A;exact wG hE G
 exact⟨⟨fun x h=>(A x h).1,Nz hE h1.2 (AH hE)⟩,A⟩
theorem AN{B:List AV}{C:Cod}(D:aA P B C):C.sok:=by
 obtain ⟨rv,bv,_,h1,h2⟩:=D;have A:∀x∈C.blocks,x.sok:=fun x A=>by
  obtain⟨r,G⟩:=h2.mem A;exact wH hE G
 exact⟨⟨Nz hE h1.2 (ES hE),fun x h=>(A x h).1,Nz hE h2.2 (AI hE)⟩,A⟩
theorem mod_see{n:Nat}{cs:List Value}{d:DataW H}{ps:List MemPlace}(h:DataW.trod enc P W base spare held n 25 cs=zs (d,ps))(I:Wt P 25 d):∃A,∃M:Modl,Y8 P 9 25 d=zs A/\A.length=2/\(∀Z h,Fz Z h (.agg A) M.F)/\M.ok:=by
 obtain⟨N,Q,M,h1,h2,D⟩:=AG hE h I;refine⟨[N,Q],M,h1,rfl,fun Z h=>?_,fun C J=>?_,?_,Nz hE h2.2 (HI hE)⟩
 . refine iE rfl rfl fun p G=>?_
   simp only[zqk,zql,zqb,zqh,or_false]at G;rcases G with rfl|rfl
   . exact h2.fz fun r X B=>HK hE B
   . exact D.fz fun r X B=>HJ hE B
 . obtain⟨r,B⟩:=D.mem J
   exact AN hE B
 . have:=Nz hE D.2 (HH hE)
   simp only[bigN]at this|-;omega
end
end Go.Proofs.AmEnv
namespace Go.AM
theorem wI{E:Env}{f:Nat}{args:List AV}{h:Heap}(hg:E.gc f=zf)(A:E.told f=zt):callω E f args h=toldA args h:=by
 refine (Gp (E:=E) f args h).unique ?_;have e:∀m,K7 E (ev E m) f args h=toldA args h:=fun m=>by
  unfold K7;rw[hg];show S6 E (ev E m) f args h=_
  unfold S6;rw[A];rfl
 simp only[e];exact .const
end Go.AM
namespace Go.Proofs.AmEnv
open Go Go.AM
theorem iF(hg:env.gc 71=zf)(C:env.told 71=zt):TC env 71 V2:=by
 intro args rs A Z h xs hl hz hb;unfold V2 at A;split at A
 . rename_i s p
   split at A
   . rename_i B
     cases A
     match xs,hl with
     |[x,y],_=>
      have h0:=hz 0 x (.str s) rfl rfl;have h1:=hz 1 y (.str p) rfl rfl;cases h0;cases h1;refine⟨[.bool (contS p s)],h,Z,fun _=>zn,?_,QX hb,VL.cons (.fz (.bool _)) VL.nil,Nat.le_refl _,fun id hz=>⟨hz,rfl⟩,fun id hz=>.inl hz,fun id _=>rfl,fun id L e=>(by cases e),[],rfl,fun id hi=>(zqh hi).elim⟩;rw[wI hg C];show(bif Nat.ble (s5 s) 4000000000||oneB p then(match contS p s with|true=>Res.ok (.bool zt) h|false=>.ok (.bool zf) h)else .bad)=_
      have B:(Nat.ble (s5 s) 4000000000||oneB p)=zt:=B;rw[B];cases contS p s<;>rfl
   . cases A
 . cases A
def G2(T:Nat->Option (List AV->Option (List AV)))(f:Nat)(g:List AV->Option (List AV))(k:Nat):Option (List AV->Option (List AV)):=bif Nat.beq k f then zs g else T k
theorem B5{E:Env}{T:Nat->Option (List AV->Option (List AV))}{F:Nat->Option PFn}{f:Nat}{g:List AV->Option (List AV)}(hP:PEok ⟨E,T,F⟩)(h:TC E f g):PEok ⟨E,G2 T f g,F⟩:=by
 refine⟨hP.gl,hP.ti,fun k q e=>?_,hP.fn⟩;have e:(bif Nat.beq k f then zs g else T k)=zs q:=e;cases hb:Nat.beq k f with
 |true=>rw[hb]at e;cases e;rw[Nat.eq_of_beq_eq_true hb];exact h
 |false=>rw[hb]at e;exact hP.T k q e
def T0(k:Nat):Option (List AV->Option (List AV)):=zn
section
variable (hP:PEok ⟨env,T0,A0⟩)
include hP
omit hP in
def T1:=G2 T0 45 F6
theorem P1:PEok ⟨env,T1,A0⟩:=B5 hP (B7 hP fun l h=>Tz h)
omit hP in
def T2:=G2 T1 59 Cc
theorem P2:PEok ⟨env,T2,A0⟩:=B5 (P1 hP) (B7 (P1 hP) fun p h=>Ua (by simp only[bigN]at h|-;omega))
omit hP in
def T3:=G2 T2 69 m6
theorem P3:PEok ⟨env,T3,A0⟩:=B5 (P2 hP) (B7 (P2 hP) fun x h=>Qo rfl h)
omit hP in
def T4:=G2 T3 80 m7
theorem P4:PEok ⟨env,T4,A0⟩:=B5 (P3 hP) (B7 (P3 hP) fun p h=>Qp rfl h)
omit hP in
def T5:=G2 T4 58 d9
theorem P5:PEok ⟨env,T5,A0⟩:=B5 (P4 hP) (B7 (P4 hP) fun l h=>Nd rfl h.1 h.2)
omit hP in
def T6:=G2 T5 70 f7
theorem P6:PEok ⟨env,T6,A0⟩:=B5 (P5 hP) (B7 (P5 hP) fun p h=>Nf rfl h.1 h.2)
omit hP in
def T7:=G2 T6 46 Be
theorem P7:PEok ⟨env,T7,A0⟩:=B5 (P6 hP) (B7 (P6 hP) fun l h=>Ng rfl h.1 h.2)
omit hP in
def T8:=G2 T7 60 Bf
theorem P8:PEok ⟨env,T8,A0⟩:=B5 (P7 hP) (B7 (P7 hP) fun p h=>Nh rfl h.1 h.2)
omit hP in
def T9:=G2 T8 29 N0
theorem P9:PEok ⟨env,T9,A0⟩:=B5 (P8 hP) (B7 (P8 hP) fun x h=>Uh rfl rfl h)
omit hP in
def T10:=G2 T9 47 f8
theorem P10:PEok ⟨env,T10,A0⟩:=B5 (P9 hP) (B7 (P9 hP) fun p h=>Ui rfl rfl h)
omit hP in
def T11:=G2 T10 61 M9
theorem P11:PEok ⟨env,T11,A0⟩:=B5 (P10 hP) (B7 (P10 hP) fun n h=>Uj)
omit hP in
def T12:=G2 T11 62 K8
theorem P12:PEok ⟨env,T12,A0⟩:=B5 (P11 hP) (B7 (P11 hP) fun n h=>Ni)
omit hP in
def T13:=G2 T12 63 O9
theorem P13:PEok ⟨env,T13,A0⟩:=B5 (P12 hP) (B7 (P12 hP) fun n h=>Nj)
omit hP in
def T14:=G2 T13 41 F6
theorem P14:PEok ⟨env,T14,A0⟩:=B5 (P13 hP) (uW (P13 hP) rfl)
omit hP in
def T15:=G2 T14 43 w4
theorem P15:PEok ⟨env,T15,A0⟩:=B5 (P14 hP) (qZ (P14 hP) rfl)
omit hP in
def T16:=G2 T15 42 Dc
theorem P16:PEok ⟨env,T16,A0⟩:=B5 (P15 hP) (rA (P15 hP) rfl)
omit hP in
def T17:=G2 T16 25 Dg
theorem P17:PEok ⟨env,T17,A0⟩:=B5 (P16 hP) (rJ (P16 hP) rfl)
omit hP in
def T18:=G2 T17 51 R3
theorem P18:PEok ⟨env,T18,A0⟩:=B5 (P17 hP) (B7 (P17 hP) fun n h=>Li)
omit hP in
def T19:=G2 T18 52 Z9
theorem P19:PEok ⟨env,T19,A0⟩:=B5 (P18 hP) (B7 (P18 hP) fun n h=>Rb)
omit hP in
def T20:=G2 T19 16 N1
theorem P20:PEok ⟨env,T20,A0⟩:=B5 (P19 hP) (gW hP)
omit hP in
def T21:=G2 T20 71 V2
theorem P21:PEok ⟨env,T21,A0⟩:=B5 (P20 hP) (iF rfl rfl)
omit hP in
def T22:=G2 T21 35 Q6
theorem P22:PEok ⟨env,T22,A0⟩:=B5 (P21 hP) (cF (P21 hP))
omit hP in
def T23:=G2 T22 68 J6
theorem P23:PEok ⟨env,T23,A0⟩:=B5 (P22 hP) (gL (P22 hP))
omit hP in
def T24:=G2 T23 78 Ez
theorem P24:PEok ⟨env,T24,A0⟩:=B5 (P23 hP) (kT (P23 hP))
omit hP in
def T25:=G2 T24 75 U6
theorem P25:PEok ⟨env,T25,A0⟩:=B5 (P24 hP) (cG (P24 hP))
omit hP in
def T26:=G2 T25 54 D3
theorem P26:PEok ⟨env,T26,A0⟩:=B5 (P25 hP) (Fa rfl (P25 hP))
omit hP in
def T27:=G2 T26 57 N4
theorem P27:PEok ⟨env,T27,A0⟩:=B5 (P26 hP) (Ul (P26 hP))
omit hP in
def T28:=G2 T27 73 m8
theorem P28:PEok ⟨env,T28,A0⟩:=B5 (P27 hP) (cH (P27 hP))
omit hP in
def T29:=G2 T28 72 Ce
theorem P29:PEok ⟨env,T29,A0⟩:=B5 (P28 hP) (gM rfl (P28 hP))
omit hP in
def T30:=G2 T29 82 Fb
theorem P30:PEok ⟨env,T30,A0⟩:=B5 (P29 hP) (kW (P29 hP))
omit hP in
def T31:=G2 T30 74 x7
theorem P31:PEok ⟨env,T31,A0⟩:=B5 (P30 hP) (gN rfl (P30 hP))
omit hP in
def T32:=G2 T31 37 Ab
theorem P32:PEok ⟨env,T32,A0⟩:=B5 (P31 hP) (cI rfl rfl (P31 hP))
omit hP in
def T33:=G2 T32 65 Fc
theorem P33:PEok ⟨env,T33,A0⟩:=B5 (P32 hP) (kY rfl (P32 hP))
omit hP in
def T34:=G2 T33 76 E1
theorem P34:PEok ⟨env,T34,A0⟩:=B5 (P33 hP) (Fd rfl (P33 hP))
omit hP in
def T35:=G2 T34 66 L9
theorem P35:PEok ⟨env,T35,A0⟩:=B5 (P34 hP) (Ff rfl rfl rfl rfl rfl rfl (P34 hP))
omit hP in
def T36:=G2 T35 67 N5
theorem P36:PEok ⟨env,T36,A0⟩:=B5 (P35 hP) (Hb rfl rfl rfl rfl (P35 hP))
omit hP in
def T37:=G2 T36 55 C9
theorem P37:PEok ⟨env,T37,A0⟩:=B5 (P36 hP) (Hc rfl rfl rfl (P36 hP))
omit hP in
def T38:=G2 T37 56 J8
theorem P38:PEok ⟨env,T38,A0⟩:=B5 (P37 hP) (Km rfl (P37 hP))
omit hP in
def T39:=G2 T38 36 I4
theorem P39:PEok ⟨env,T39,A0⟩:=B5 (P38 hP) (Ik rfl rfl rfl rfl rfl (P38 hP))
omit hP in
def T40:=G2 T39 14 Ci
theorem P40:PEok ⟨env,T40,A0⟩:=B5 (P39 hP) (gP rfl rfl rfl (P39 hP))
omit hP in
def T41:=G2 T40 13 Ad
theorem P41:PEok ⟨env,T41,A0⟩:=B5 (P40 hP) (cM (P40 hP))
omit hP in
def T42:=G2 T41 4 Df
theorem P42:PEok ⟨env,T42,A0⟩:=B5 (P41 hP) (cN rfl rfl (P41 hP))
omit hP in
def T43:=G2 T42 17 Q9
theorem P43:PEok ⟨env,T43,A0⟩:=B5 (P42 hP) (Vd (P42 hP))
omit hP in
def T44:=G2 T43 18 Ai
theorem P44:PEok ⟨env,T44,A0⟩:=B5 (P43 hP) (cV rfl (P43 hP))
omit hP in
def T45:=G2 T44 6 Bi
theorem P45:PEok ⟨env,T45,A0⟩:=B5 (P44 hP) (Xx rfl rfl (P44 hP))
omit hP in
def T46:=G2 T45 30 j6
theorem P46:PEok ⟨env,T46,A0⟩:=B5 (P45 hP) (Ve (P45 hP))
omit hP in
def T47:=G2 T46 31 Aj
theorem P47:PEok ⟨env,T47,A0⟩:=B5 (P46 hP) (cX rfl (P46 hP))
omit hP in
def T48:=G2 T47 11 U7
theorem P48:PEok ⟨env,T48,A0⟩:=B5 (P47 hP) (Xy rfl rfl (P47 hP))
omit hP in
def T49:=G2 T48 26 K6
theorem P49:PEok ⟨env,T49,A0⟩:=B5 (P48 hP) (Va rfl rfl rfl (P48 hP))
omit hP in
def T50:=G2 T49 39 P0
theorem P50:PEok ⟨env,T50,A0⟩:=B5 (P49 hP) (Xw (P49 hP))
omit hP in
def T51:=G2 T50 19 n7
theorem P51:PEok ⟨env,T51,A0⟩:=B5 (P50 hP) (gR rfl rfl rfl (P50 hP))
omit hP in
def T52:=G2 T51 7 N6
theorem P52:PEok ⟨env,T52,A0⟩:=B5 (P51 hP) (Ux rfl rfl (P51 hP))
omit hP in
def T53:=G2 T52 9 Q8
theorem P53:PEok ⟨env,T53,A0⟩:=B5 (P52 hP) (Vb rfl rfl rfl rfl rfl (P52 hP))
omit hP in
def T54:=G2 T53 40 R0
theorem P54:PEok ⟨env,T54,A0⟩:=B5 (P53 hP) (Vj (P53 hP))
omit hP in
def T55:=G2 T54 21 U8
theorem P55:PEok ⟨env,T55,A0⟩:=B5 (P54 hP) (Yb (P54 hP))
omit hP in
def T56:=G2 T55 22 U9
theorem P56:PEok ⟨env,T56,A0⟩:=B5 (P55 hP) (Ye (P55 hP))
omit hP in
def T57:=G2 T56 23 K9
theorem P57:PEok ⟨env,T57,A0⟩:=B5 (P56 hP) (Yg rfl (P56 hP))
omit hP in
def T58:=G2 T57 8 w7
theorem P58:PEok ⟨env,T58,A0⟩:=B5 (P57 hP) (Vn rfl rfl rfl (P57 hP))
omit hP in
def T59:=G2 T58 28 Y1
theorem P59:PEok ⟨env,T59,A0⟩:=B5 (P58 hP) (Ra rfl rfl (P58 hP))
omit hP in
def T60:=G2 T59 10 w8
theorem P60:PEok ⟨env,T60,A0⟩:=B5 (P59 hP) (Vo rfl rfl rfl (P59 hP))
omit hP in
def T61:=G2 T60 5 w6
theorem P61:PEok ⟨env,T61,A0⟩:=B5 (P60 hP) (Vf rfl rfl rfl rfl rfl (P60 hP))
end
theorem AO{f:Nat}{T:Nat->Option (List AV->Option (List AV))}(hP:PEok ⟨env,T,A0⟩){a x:AV}(H:AM.Comes ⟨env,T,A0⟩ f [a] [.bool zt])(hz:∀Z h,Fz Z h x a):∃h',callω env f [x] Heap.empty=.ok (.bool zt) h':=by
 obtain ⟨A,h1,D,ow1,e,_,l,_⟩:=Fy hP H (Z:=fun _=>False) (h:=Heap.empty) (xs:=[x]) rfl (fun i u v C B=>by
  cases i with
  |zero=>cases C;cases B;exact hz _ _
  |succ i=>simp at C) (fun id h=>h.elim)
 have l:VL D ow1 h1 (openTs 0 [AV.bool zt]).2 A [.bool zt]:=l
 match A,l.1 with
 |[v],_=>
  have B:=l.2 0 v (.bool zt) rfl rfl
  have:v=.bool zt:=by
   cases B with
   |fz h=>cases h;rfl
  subst this;exact⟨h1,e⟩
theorem DepthSays_ok(hP:PEok ⟨env,T0,A0⟩){m:Modl}(A:m.ok){x:AV}(hz:∀Z h,Fz Z h x m.F):∃h',callω env 3 [x] Heap.empty=.ok (.bool zt) h':=AO (P61 hP) (Dw (T:=T61) rfl rfl rfl rfl rfl rfl rfl rfl rfl rfl rfl rfl rfl rfl rfl rfl rfl rfl rfl rfl A) hz
end Go.Proofs.AmEnv
