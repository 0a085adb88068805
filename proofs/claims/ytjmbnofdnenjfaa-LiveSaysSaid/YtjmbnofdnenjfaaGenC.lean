/- What this program's functions do, at any data. Conditions: none. -/
import Derived.Test.YtjmbnofdnenjfaaGenB
set_option linter.unusedVariables false
set_option linter.unusedSimpArgs false
set_option linter.unusedSectionVars false
set_option linter.defProp false
set_option maxHeartbeats 4000000
open List renaming map_cons→zqa,map_nil→zqb,sum_cons→zqc,sum_nil→zqd,not_mem_nil→zqe,zip_cons_cons→zqf,zip_nil_left→zqg,mem_cons→zqh
noncomputable section
namespace Go.Proofs.AmEnv
open Go Go.AM
open Go.ChangeShapes Go.WideShapes Go.ChangeAt
section
variable {H:Type}{enc:TypeId×Value->H}{P:Program}{W:World}{base:Nat}{spare:Nat->Bool}{held:Bool}
theorem O1{E:Env}(hE:EnvOk E P){t:Nat}{x:TI}(ht:E.ti t=some x):P.cellsOf t=x.size:=by
 obtain⟨i,z,h1,h2,_⟩:=(hE.ti t x ht).info;unfold Program.cellsOf;rw[h1];exact h2
theorem Gh{E:Env}(hE:EnvOk E P){t:Nat}{x:TI}(ht:E.ti t=some x):P.bytesOf t=x.bytes:=by
 obtain⟨i,z,h1,_,h2,_⟩:=(hE.ti t x ht).info;unfold Program.bytesOf;rw[h1];exact h2
variable (hE:EnvOk A0 P)
include hE
theorem vM:P.underlying 3=some (.int .i64):=(hE.ti 3 Yu rfl).desc
theorem CN:P.underlying 9=some .string:=(hE.ti 9 HB rfl).desc
theorem FA:P.underlying 28=some (.slice 3):=(hE.ti 28 fL rfl).desc
theorem vN:P.underlying 41=some (.slice 50):=(hE.ti 41 fN rfl).desc
theorem vO:P.underlying 29=some (.slice 45):=(hE.ti 29 fM rfl).desc
theorem yV:P.underlying 23=some (.slice 31):=(hE.ti 23 pZ rfl).desc
theorem yW:P.underlying 22=some (.slice 67):=(hE.ti 22 pY rfl).desc
theorem Gi:P.cellsOf 3=1:=O1 hE ZK
theorem Vn:P.cellsOf 9=1:=O1 hE ti9
theorem Vo:P.cellsOf 28=1:=O1 hE WH
theorem Vp:P.cellsOf 41=1:=O1 hE WJ
theorem gU:P.cellsOf 29=1:=O1 hE WI
theorem nJ:P.cellsOf 23=1:=O1 hE WE
theorem cS:P.cellsOf 22=1:=O1 hE WD
theorem nK:P.cellsOf 50=8:=O1 hE ED
theorem CO:P.cellsOf 43=4:=O1 hE WK
theorem nL:P.cellsOf 45=5:=O1 hE EB
theorem vP:P.cellsOf 31=5:=O1 hE DZ
theorem vQ:P.cellsOf 67=4:=O1 hE EE
theorem LG:P.cellsOf 25=2:=O1 hE WG
theorem Hj{m n:Nat}{cs:List Value}{d:DataW H}{ps:List MemPlace}(h:DataW.trod enc P W base spare held n 3 cs=some (d,ps))(hw:Wt P 3 d):∃s,X4 P (m+1) 3 d=some s/\s.length=P.cellsOf 3/\∃z,s=[.int .i64 z]:=by
 obtain⟨z,rfl,e,_⟩:=DataW.trod_int (vM hE) h;cases e;refine⟨[.int .i64 z],?_,by rw[Gi hE];rfl,z,rfl⟩;unfold X4;rw[vM hE]
theorem cT{m n:Nat}{cs:List Value}{d:DataW H}{ps:List MemPlace}(h:DataW.trod enc P W base spare held n 9 cs=some (d,ps))(hw:Wt P 9 d):∃s,X4 P (m+1) 9 d=some s/\s.length=P.cellsOf 9/\∃b,s=[.str b]/\b.length<=140737488355328:=by
 obtain⟨b,rfl,e,_⟩:=DataW.trod_string (CN hE) h;cases e;refine⟨[.str b.data.toList],?_,by rw[Vn hE];rfl,_,rfl,?_⟩
 . unfold X4
   rw[CN hE]
 . have:=hw b.data.toList.length (by unfold DataW.weights;simp)
   exact Nat.le_trans this (by decide)
omit hE in
def lH(acs:List AV)(z:Int):Prop:=acs=[.int .i64 z]
theorem gV{m n:Nat}{cs:List Value}{d:DataW H}{ps:List MemPlace}(h:DataW.trod enc P W base spare held n 28 cs=some (d,ps))(hw:Wt P 28 d):∃s,X4 P (m+2) 28 d=some s/\s.length=P.cellsOf 28/\∃v l,s=[v]/\Xv P 3 lH v l:=by
 obtain ⟨v,l,h1,h2⟩:=An (Q:=lH) (m:=m+1) (FA hE) (by rw[Gi hE];decide) (fun n cs d ps h hw=>by
  obtain⟨s,h1,h2,z,rfl⟩:=Hj hE (m:=m) h hw;exact⟨_,z,h1,⟨h2,.inr rfl⟩,rfl⟩) h hw
 exact⟨[v],h1,by rw[Vo hE];rfl,v,l,rfl,h2⟩
omit hE in
def Jz(P:Program)(acs:List AV)(I:Ins):Prop:=∃av,acs=[.int .i64 I.op,.int .i64 I.ty,.int .i64 I.dst,.int .i64 I.a,.int .i64 I.b,.int .i64 I.n,.str I.s,av]/\Xv P 3 lH av I.args/\I.s.length<=140737488355328
omit hE in
theorem YZ{ss:List (List AV)}(h:ss.length=8):∃a b c d e f g i,ss=[a,b,c,d,e,f,g,i]:=by
 match ss,h with
 |[a,b,c,d,e,f,g,i],_=>exact⟨a,b,c,d,e,f,g,i,rfl⟩
theorem qS{m n:Nat}{cs:List Value}{d:DataW H}{ps:List MemPlace}(h:DataW.trod enc P W base spare held n 50 cs=some (d,ps))(hw:Wt P 50 d):∃acs I,X4 P (m+3) 50 d=some acs/\(acs.length=P.cellsOf 50/\(Ao P 50=true\/acs.length=1))/\Jz P acs I:=by
 obtain ⟨fs,hu,hm,_⟩:=(hE.ti 50 u5 rfl).desc;have hm:fs.toList.map (fun f=>(f.type,f.offset))=[(3,0),(3,1),(3,2),(3,3),(3,4),(3,5),(9,6),(28,7)]:=hm;obtain⟨ss,h1,h2,h3,h4⟩:=l9 (m:=m+2) (Qs:=fun i s=>(i<6->∃z,s=[.int .i64 z])/\(i=6->∃b,s=[.str b]/\b.length<=140737488355328)/\(i=7->∃v l,s=[v]/\Xv P 3 lH v l)) hu hm
  (by simp only[Mw,Gi hE,Vn hE,Vo hE,and_self]) (by simp only[nK hE,zqa,zqb,zqc,zqd,Nat.reduceAdd,Gi hE,Vn hE,Vo hE])
  (fun i ty off hL n cs d ps h hw=>by
    rcases i with _|_|_|_|_|_|_|_|i
    iterate 6
     . cases hL
       obtain⟨s,k1,k2,k3⟩:=Hj hE (m:=m+1) h hw;exact⟨s,k1,k2,fun _=>k3,fun hh=>by omega,fun hh=>by omega⟩
    . cases hL
      obtain⟨s,k1,k2,k3⟩:=cT hE (m:=m+1) h hw;exact⟨s,k1,k2,fun hh=>by omega,fun _=>k3,fun hh=>by omega⟩
    . cases hL
      obtain⟨s,k1,k2,k3⟩:=gV hE (m:=m) h hw;exact⟨s,k1,k2,fun hh=>by omega,fun hh=>by omega,fun _=>k3⟩
    . simp at hL) h hw
 obtain⟨a,b,c,e,f,g,s6,s7,rfl⟩:=YZ h3;obtain⟨z0,rfl⟩:=(h4 0 _ rfl).1 (by omega);obtain⟨z1,rfl⟩:=(h4 1 _ rfl).1 (by omega);obtain⟨z2,rfl⟩:=(h4 2 _ rfl).1 (by omega);obtain⟨z3,rfl⟩:=(h4 3 _ rfl).1 (by omega);obtain⟨z4,rfl⟩:=(h4 4 _ rfl).1 (by omega);obtain⟨z5,rfl⟩:=(h4 5 _ rfl).1 (by omega);obtain⟨b6,rfl,hb6⟩:=(h4 6 _ rfl).2.1 rfl;obtain⟨v,l,rfl,hv⟩:=(h4 7 _ rfl).2.2 rfl;exact⟨_,⟨z0,z1,z2,z3,z4,z5,b6,l⟩,h1,⟨h2,.inl (by unfold Ao;rw[hu])⟩,v,rfl,hv,hb6⟩
omit hE in
def Ka(P:Program)(acs:List AV)(B:Blk):Prop:=∃cv,acs=[cv,.int .i64 B.e.kind,.int .i64 B.e.a,.int .i64 B.e.to,.int .i64 B.e.els]/\Xv P 50 (Jz P) cv B.code
theorem lI{m n:Nat}{cs:List Value}{d:DataW H}{ps:List MemPlace}(h:DataW.trod enc P W base spare held n 41 cs=some (d,ps))(hw:Wt P 41 d):∃s,X4 P (m+4) 41 d=some s/\s.length=P.cellsOf 41/\∃v l,s=[v]/\Xv P 50 (Jz P) v l:=by
 obtain⟨v,l,h1,h2⟩:=An (Q:=Jz P) (m:=m+3) (vN hE) (by rw[nK hE];decide) (fun n cs d ps h hw=>qS hE h hw) h hw;exact⟨[v],h1,by rw[Vp hE];rfl,v,l,rfl,h2⟩
theorem yX{m n:Nat}{cs:List Value}{d:DataW H}{ps:List MemPlace}(h:DataW.trod enc P W base spare held n 43 cs=some (d,ps))(hw:Wt P 43 d):∃s,X4 P (m+2) 43 d=some s/\s.length=P.cellsOf 43/\∃x y z w,s=[.int .i64 x,.int .i64 y,.int .i64 z,.int .i64 w]:=by
 obtain ⟨fs,hu,hm,_⟩:=(hE.ti 43 No rfl).desc;have hm:fs.toList.map (fun f=>(f.type,f.offset))=[(3,0),(3,1),(3,2),(3,3)]:=hm;obtain⟨ss,h1,h2,h3,h4⟩:=l9 (m:=m+1) (Qs:=fun i s=>∃z,s=[.int .i64 z]) hu hm
  (by simp only[Mw,Gi hE,and_self]) (by simp only[CO hE,zqa,zqb,zqc,zqd,Nat.reduceAdd,Gi hE])
  (fun i ty off hL n cs d ps h hw=>by
    rcases i with _|_|_|_|i
    iterate 4
     . cases hL
       exact Hj hE (m:=m) h hw
    . simp at hL) h hw
 match ss,h3 with
 | [a,b,c,e],_ =>
  obtain⟨z0,rfl⟩:=h4 0 _ rfl;obtain⟨z1,rfl⟩:=h4 1 _ rfl;obtain⟨z2,rfl⟩:=h4 2 _ rfl;obtain⟨z3,rfl⟩:=h4 3 _ rfl;exact⟨_,h1,h2,z0,z1,z2,z3,rfl⟩
theorem qT{m n:Nat}{cs:List Value}{d:DataW H}{ps:List MemPlace}(h:DataW.trod enc P W base spare held n 45 cs=some (d,ps))(hw:Wt P 45 d):∃acs B,X4 P (m+5) 45 d=some acs/\(acs.length=P.cellsOf 45/\(Ao P 45=true\/acs.length=1))/\Ka P acs B:=by
 obtain ⟨fs,hu,hm,_⟩:=(hE.ti 45 Ed rfl).desc;have hm:fs.toList.map (fun f=>(f.type,f.offset))=[(41,0),(43,1)]:=hm;obtain⟨ss,h1,h2,h3,h4⟩:=l9 (m:=m+4) (Qs:=fun i s=>(i=0->∃v l,s=[v]/\Xv P 50 (Jz P) v l)/\(i=1->∃x y z w,s=[.int .i64 x,.int .i64 y,.int .i64 z,.int .i64 w])) hu hm
  (by simp only[Mw,Vp hE,and_self]) (by simp only[nL hE,zqa,zqb,zqc,zqd,Nat.reduceAdd,Vp hE,CO hE])
  (fun i ty off hL n cs d ps h hw=>by
    rcases i with _|_|i
    . cases hL
      obtain⟨s,k1,k2,k3⟩:=lI hE (m:=m) h hw;exact⟨s,k1,k2,fun _=>k3,fun hh=>by omega⟩
    . cases hL
      obtain⟨s,k1,k2,k3⟩:=yX hE (m:=m+2) h hw;exact⟨s,k1,k2,fun hh=>by omega,fun _=>k3⟩
    . simp at hL) h hw
 match ss,h3 with
 | [a,b],_ =>
  obtain⟨v,l,rfl,hv⟩:=(h4 0 _ rfl).1 rfl;obtain⟨x,y,z,w,rfl⟩:=(h4 1 _ rfl).2 rfl;exact⟨_,⟨l,⟨x,y,z,w⟩⟩,h1,⟨h2,.inl (by unfold Ao;rw[hu])⟩,v,rfl,hv⟩
theorem lJ{m n:Nat}{cs:List Value}{d:DataW H}{ps:List MemPlace}(h:DataW.trod enc P W base spare held n 29 cs=some (d,ps))(hw:Wt P 29 d):∃s,X4 P (m+6) 29 d=some s/\s.length=P.cellsOf 29/\∃v l,s=[v]/\Xv P 45 (Ka P) v l:=by
 obtain⟨v,l,h1,h2⟩:=An (Q:=Ka P) (m:=m+5) (vO hE) (by rw[nL hE];decide) (fun n cs d ps h hw=>qT hE h hw) h hw;exact⟨[v],h1,by rw[gU hE];rfl,v,l,rfl,h2⟩
omit hE in
def Zd(P:Program)(acs:List AV)(C:Cod):Prop:=∃rv bv,acs=[.str C.name,.int .i64 C.ty,.int .i64 C.ps,rv,bv]/\Xv P 3 lH rv C.regs/\Xv P 45 (Ka P) bv C.blocks
theorem vR{m n:Nat}{cs:List Value}{d:DataW H}{ps:List MemPlace}(h:DataW.trod enc P W base spare held n 31 cs=some (d,ps))(hw:Wt P 31 d):∃acs C,X4 P (m+7) 31 d=some acs/\(acs.length=P.cellsOf 31/\(Ao P 31=true\/acs.length=1))/\Zd P acs C:=by
 obtain ⟨fs,hu,hm,_⟩:=(hE.ti 31 Fp rfl).desc;have hm:fs.toList.map (fun f=>(f.type,f.offset))=[(9,0),(3,1),(3,2),(28,3),(29,4)]:=hm;obtain⟨ss,h1,h2,h3,h4⟩:=l9 (m:=m+6) (Qs:=fun i s=>(i=0->∃b,s=[.str b]/\b.length<=140737488355328)/\((i=1\/i=2)->∃z,s=[.int .i64 z])/\(i=3->∃v l,s=[v]/\Xv P 3 lH v l)/\(i=4->∃v l,s=[v]/\Xv P 45 (Ka P) v l)) hu hm
  (by simp only[Mw,Gi hE,Vn hE,Vo hE,and_self]) (by simp only[vP hE,zqa,zqb,zqc,zqd,Nat.reduceAdd,Gi hE,Vn hE,Vo hE,gU hE])
  (fun i ty off hL n cs d ps h hw=>by
    rcases i with _|_|_|_|_|i
    . cases hL
      obtain⟨s,k1,k2,k3⟩:=cT hE (m:=m+5) h hw;exact⟨s,k1,k2,fun _=>k3,fun hh=>by omega,fun hh=>by omega,fun hh=>by omega⟩
    . cases hL
      obtain⟨s,k1,k2,k3⟩:=Hj hE (m:=m+5) h hw;exact⟨s,k1,k2,fun hh=>by omega,fun _=>k3,fun hh=>by omega,fun hh=>by omega⟩
    . cases hL
      obtain⟨s,k1,k2,k3⟩:=Hj hE (m:=m+5) h hw;exact⟨s,k1,k2,fun hh=>by omega,fun _=>k3,fun hh=>by omega,fun hh=>by omega⟩
    . cases hL
      obtain⟨s,k1,k2,k3⟩:=gV hE (m:=m+4) h hw;exact⟨s,k1,k2,fun hh=>by omega,fun hh=>by omega,fun _=>k3,fun hh=>by omega⟩
    . cases hL
      obtain⟨s,k1,k2,k3⟩:=lJ hE (m:=m) h hw;exact⟨s,k1,k2,fun hh=>by omega,fun hh=>by omega,fun hh=>by omega,fun _=>k3⟩
    . simp at hL) h hw
 match ss,h3 with
 | [a,b,c,e,f],_ =>
  obtain⟨b0,rfl,_⟩:=(h4 0 _ rfl).1 rfl;obtain⟨z1,rfl⟩:=(h4 1 _ rfl).2.1 (.inl rfl);obtain⟨z2,rfl⟩:=(h4 2 _ rfl).2.1 (.inr rfl);obtain⟨v3,l3,rfl,hv3⟩:=(h4 3 _ rfl).2.2.1 rfl;obtain⟨v4,l4,rfl,hv4⟩:=(h4 4 _ rfl).2.2.2 rfl;exact⟨_,⟨b0,z1,z2,l3,l4⟩,h1,⟨h2,.inl (by unfold Ao;rw[hu])⟩,v3,v4,rfl,hv3,hv4⟩
omit hE in
def gW(acs:List AV)(G:Glo):Prop:=acs=[.str G.name,.int .i64 G.ty,.int .i64 G.size,.int .i64 G.at_]
theorem vS{m n:Nat}{cs:List Value}{d:DataW H}{ps:List MemPlace}(h:DataW.trod enc P W base spare held n 67 cs=some (d,ps))(hw:Wt P 67 d):∃acs G,X4 P (m+2) 67 d=some acs/\(acs.length=P.cellsOf 67/\(Ao P 67=true\/acs.length=1))/\gW acs G:=by
 obtain ⟨fs,hu,hm,_⟩:=(hE.ti 67 Ty rfl).desc;have hm:fs.toList.map (fun f=>(f.type,f.offset))=[(9,0),(3,1),(3,2),(3,3)]:=hm;obtain⟨ss,h1,h2,h3,h4⟩:=l9 (m:=m+1) (Qs:=fun i s=>(i=0->∃b,s=[.str b]/\b.length<=140737488355328)/\(0<i->∃z,s=[.int .i64 z])) hu hm
  (by simp only[Mw,Gi hE,Vn hE,and_self]) (by simp only[vQ hE,zqa,zqb,zqc,zqd,Nat.reduceAdd,Gi hE,Vn hE])
  (fun i ty off hL n cs d ps h hw=>by
    rcases i with _|_|_|_|i
    . cases hL
      obtain⟨s,k1,k2,k3⟩:=cT hE (m:=m) h hw;exact⟨s,k1,k2,fun _=>k3,fun hh=>by omega⟩
    iterate 3
     . cases hL
       obtain⟨s,k1,k2,k3⟩:=Hj hE (m:=m) h hw;exact⟨s,k1,k2,fun hh=>by omega,fun _=>k3⟩
    . simp at hL) h hw
 match ss,h3 with
 | [a,b,c,e],_ =>
  obtain⟨b0,rfl,_⟩:=(h4 0 _ rfl).1 rfl;obtain⟨z1,rfl⟩:=(h4 1 _ rfl).2 (by omega);obtain⟨z2,rfl⟩:=(h4 2 _ rfl).2 (by omega);obtain⟨z3,rfl⟩:=(h4 3 _ rfl).2 (by omega);exact⟨_,⟨b0,z1,z2,z3⟩,h1,⟨h2,.inl (by unfold Ao;rw[hu])⟩,rfl⟩
theorem yY{n:Nat}{cs:List Value}{d:DataW H}{ps:List MemPlace}(h:DataW.trod enc P W base spare held n 25 cs=some (d,ps))(hw:Wt P 25 d):∃gv fv,∃M:Modl,X4 P 9 25 d=some [gv,fv]/\Xv P 67 gW gv M.gs/\Xv P 31 (Zd P) fv M.fs:=by
 obtain ⟨fs,hu,hm,_⟩:=(hE.ti 25 fK rfl).desc;have hm:fs.toList.map (fun f=>(f.type,f.offset))=[(22,0),(23,1)]:=hm;obtain⟨ss,h1,h2,h3,h4⟩:=l9 (m:=8) (Qs:=fun i s=>(i=0->∃v l,s=[v]/\Xv P 67 gW v l)/\(i=1->∃v l,s=[v]/\Xv P 31 (Zd P) v l)) hu hm
  (by simp only[Mw,cS hE,and_self]) (by simp only[LG hE,zqa,zqb,zqc,zqd,Nat.reduceAdd,cS hE,nJ hE])
  (fun i ty off hL n cs d ps h hw=>by
    rcases i with _|_|i
    . cases hL
      obtain⟨v,l,k1,k2⟩:=An (Q:=gW) (m:=7) (yW hE) (by rw[vQ hE];decide) (fun n cs d ps h hw=>vS hE (m:=5) h hw) h hw;exact⟨[v],k1,by rw[cS hE];rfl,fun _=>⟨v,l,rfl,k2⟩,fun hh=>by omega⟩
    . cases hL
      obtain⟨v,l,k1,k2⟩:=An (Q:=Zd P) (m:=7) (yV hE) (by rw[vP hE];decide) (fun n cs d ps h hw=>vR hE (m:=0) h hw) h hw;exact⟨[v],k1,by rw[nJ hE];rfl,fun hh=>by omega,fun _=>⟨v,l,rfl,k2⟩⟩
    . simp at hL) h hw
 match ss,h3 with
 | [a,b],_ =>
  obtain⟨v0,l0,rfl,hv0⟩:=(h4 0 _ rfl).1 rfl;obtain⟨v1,l1,rfl,hv1⟩:=(h4 1 _ rfl).2 rfl;exact⟨v0,v1,⟨l0,l1⟩,h1,hv0,hv1⟩
omit hE in
theorem cU{t:TypeId}{acs:List AV}(h:Ao P t=true):seeV P t acs=.agg acs:=by unfold seeV;rw[h];rfl
theorem CP:P.bytesOf 3=8:=Gh hE ZK
theorem yZ:P.bytesOf 50=88:=Gh hE ED
theorem zA:P.bytesOf 45=56:=Gh hE EB
theorem FB:P.bytesOf 31=80:=Gh hE DZ
theorem FC:P.bytesOf 67=40:=Gh hE EE
theorem zB{t:TypeId}{x:TI}{L:List (Nat×Nat)}{fl:Bool}(ht:A0.ti t=some x)(hd:x.desc=.struct L fl):Ao P t=true:=by
 have h:=(hE.ti t x ht).desc;unfold J1 at h;rw[hd]at h;obtain⟨fs,hu,_⟩:=h;unfold Ao;rw[hu]
theorem ZA:Ao P 3=false:=by unfold Ao;rw[vM hE]
theorem vT{v:AV}{l:List Int}(hq:Xv P 3 lH v l){Z:Nat->Prop}{h:Heap}:Fz Z h v (fslN (ints l)):=hq.fz fun r X hr=>by
 have hr:r=[.int .i64 X]:=hr;subst hr
 have:seeV P 3 [.int .i64 X]=.int .i64 X:=by unfold seeV;rw[ZA hE];rfl
 rw[this];exact .int _ _
omit hE in
theorem gX{Z:Nat->Prop}{h:Heap}{xs ys:List AV}(hl:xs.length=ys.length)(hc:ys.all clo=true)(hz:∀p∈xs.zip ys,Fz Z h p.1 p.2):Fz Z h (.agg xs) (.agg ys):=by
 refine .agg hl (fun i x y hx hy=>hz (x,y) ?_) hc;exact List.mem_of_getElem? (i:=i) (by rw[List.getElem?_zip_eq_some];exact⟨hx,hy⟩)
theorem zC{acs:List AV}{I:Ins}(hq:Jz P acs I){Z:Nat->Prop}{h:Heap}:Fz Z h (seeV P 50 acs) I.F:=by
 obtain⟨av,rfl,h1,_⟩:=hq;rw[cU (zB hE ED rfl)];refine gX rfl rfl fun p hp=>?_
 simp only[zqf,zqg,zqh,zqe,or_false]at hp;rcases hp with rfl|rfl|rfl|rfl|rfl|rfl|rfl|rfl
 iterate 6
  . exact .int _ _
 . exact .str _
 . exact vT hE h1
theorem zD{acs:List AV}{B:Blk}(hq:Ka P acs B){Z:Nat->Prop}{h:Heap}:Fz Z h (seeV P 45 acs) B.F:=by
 obtain⟨av,rfl,h1⟩:=hq;rw[cU (zB hE EB rfl)];refine gX rfl rfl fun p hp=>?_
 simp only[zqf,zqg,zqh,zqe,or_false]at hp;rcases hp with rfl|rfl|rfl|rfl|rfl
 . exact h1.fz fun r X hr=>zC hE hr
 iterate 4
  . exact .int _ _
theorem FD{acs:List AV}{C:Cod}(hq:Zd P acs C){Z:Nat->Prop}{h:Heap}:Fz Z h (seeV P 31 acs) C.F:=by
 obtain⟨rv,bv,rfl,h1,h2⟩:=hq;rw[cU (zB hE DZ rfl)];refine gX rfl rfl fun p hp=>?_
 simp only[zqf,zqg,zqh,zqe,or_false]at hp;rcases hp with rfl|rfl|rfl|rfl|rfl
 . exact .str _
 . exact .int _ _
 . exact .int _ _
 . exact vT hE h1
 . exact h2.fz fun r X hr=>zD hE hr
theorem FE{acs:List AV}{G:Glo}(hq:gW acs G){Z:Nat->Prop}{h:Heap}:Fz Z h (seeV P 67 acs) G.F:=by
 have hq:acs=_:=hq;subst hq;rw[cU (zB hE EE rfl)];refine gX rfl rfl fun p hp=>?_
 simp only[zqf,zqg,zqh,zqe,or_false]at hp;rcases hp with rfl|rfl|rfl|rfl
 . exact .str _
 iterate 3
  . exact .int _ _
theorem Og{n b k:Nat}(h:n*b<=reachBytes)(hb:b=k):n*k<=bigN:=by
 subst hb;exact Nat.le_trans h (by decide)
theorem vU{acs:List AV}{I:Ins}(hq:Jz P acs I):I.sok:=by
 obtain⟨av,_,h1,h2⟩:=hq;exact⟨Og hE h1.2 (CP hE),h2⟩
theorem vV{acs:List AV}{B:Blk}(hq:Ka P acs B):B.sok:=by
 obtain ⟨av,_,h1⟩:=hq;have hx:∀x∈B.code,x.sok:=fun x hx=>by
  obtain⟨r,hr⟩:=h1.mem hx;exact vU hE hr
 exact⟨⟨fun x h=>(hx x h).1,Og hE h1.2 (yZ hE)⟩,hx⟩
theorem zE{acs:List AV}{C:Cod}(hq:Zd P acs C):C.sok:=by
 obtain ⟨rv,bv,_,h1,h2⟩:=hq;have hx:∀x∈C.blocks,x.sok:=fun x hx=>by
  obtain⟨r,hr⟩:=h2.mem hx;exact vV hE hr
 exact⟨⟨Og hE h1.2 (CP hE),fun x h=>(hx x h).1,Og hE h2.2 (zA hE)⟩,hx⟩
theorem mod_see{n:Nat}{cs:List Value}{d:DataW H}{ps:List MemPlace}(h:DataW.trod enc P W base spare held n 25 cs=some (d,ps))(hw:Wt P 25 d):∃acs,∃M:Modl,X4 P 9 25 d=some acs/\acs.length=2/\(∀Z h,Fz Z h (.agg acs) M.F)/\M.ok:=by
 obtain⟨gv,fv,M,h1,h2,h3⟩:=yY hE h hw;refine⟨[gv,fv],M,h1,rfl,fun Z h=>?_,fun C hC=>?_,?_,Og hE h2.2 (FC hE)⟩
 . refine gX rfl rfl fun p hp=>?_
   simp only[zqf,zqg,zqh,zqe,or_false]at hp;rcases hp with rfl|rfl
   . exact h2.fz fun r X hr=>FE hE hr
   . exact h3.fz fun r X hr=>FD hE hr
 . obtain⟨r,hr⟩:=h3.mem hC
   exact zE hE hr
 . have:=Og hE h3.2 (FB hE)
   simp only[bigN]at this|-;omega
end
end Go.Proofs.AmEnv
namespace Go.AM
theorem vW{E:Env}{f:Nat}{args:List AV}{h:Heap}(hg:E.gc f=false)(ht:E.told f=true):callω E f args h=toldA args h:=by
 refine (Hk (E:=E) f args h).unique ?_;have e:∀m,J8 E (ev E m) f args h=toldA args h:=fun m=>by
  unfold J8;rw[hg];show R5 E (ev E m) f args h=_
  unfold R5;rw[ht];rfl
 simp only[e];exact .const
end Go.AM
namespace Go.Proofs.AmEnv
open Go Go.AM
theorem gY(hg:A0.gc 65=false)(ht:A0.told 65=true):TC A0 65 U7:=by
 intro args rs hgc Z h xs hl hz hb;unfold U7 at hgc;split at hgc
 . rename_i s p
   split at hgc
   . rename_i hs
     cases hgc
     match xs,hl with
     | [x,y],_ =>
      have h0:=hz 0 x (.str s) rfl rfl;have h1:=hz 1 y (.str p) rfl rfl;cases h0;cases h1;refine⟨[.bool (contS p s)],h,Z,fun _=>none,?_,MD hb,VL.cons (.fz (.bool _)) VL.nil,Nat.le_refl _,fun id hz=>⟨hz,rfl⟩,fun id hz=>.inl hz,fun id _=>rfl,fun id L e=>(by cases e),[],rfl,fun id hi=>(zqe hi).elim⟩;rw[vW hg ht];show(bif Nat.ble (o8 s) 4000000000||oneB p then(match contS p s with|true=>Res.ok (.bool true) h|false=>.ok (.bool false) h)else .bad)=_
      have hs:(Nat.ble (o8 s) 4000000000||oneB p)=true:=hs;rw[hs];cases contS p s<;>rfl
   . cases hgc
 . cases hgc
def I3(T:Nat->Option (List AV->Option (List AV)))(f:Nat)(g:List AV->Option (List AV))(k:Nat):Option (List AV->Option (List AV)):=bif Nat.beq k f then some g else T k
theorem C3{E:Env}{T:Nat->Option (List AV->Option (List AV))}{F:Nat->Option PFn}{f:Nat}{g:List AV->Option (List AV)}(hP:PEok ⟨E,T,F⟩)(h:TC E f g):PEok ⟨E,I3 T f g,F⟩:=by
 refine⟨hP.gl,hP.ti,fun k q e=>?_,hP.fn⟩;have e:(bif Nat.beq k f then some g else T k)=some q:=e;cases hb:Nat.beq k f with
 |true=>rw[hb]at e;cases e;rw[Nat.eq_of_beq_eq_true hb];exact h
 |false=>rw[hb]at e;exact hP.T k q e
def T0(k:Nat):Option (List AV->Option (List AV)):=none
section
variable (hP:PEok ⟨A0,T0,A2⟩)
include hP
omit hP in
def T1:=I3 T0 18 G2
theorem P1:PEok ⟨A0,T1,A2⟩:=C3 hP (C8 hP fun l h=>Tz h)
omit hP in
def T2:=I3 T1 33 Ca
theorem P2:PEok ⟨A0,T2,A2⟩:=C3 (P1 hP) (C8 (P1 hP) fun p h=>Ua (by simp only[bigN]at h|-;omega))
omit hP in
def T3:=I3 T2 53 j7
theorem P3:PEok ⟨A0,T3,A2⟩:=C3 (P2 hP) (C8 (P2 hP) fun x h=>Qw rfl h)
omit hP in
def T4:=I3 T3 57 j8
theorem P4:PEok ⟨A0,T4,A2⟩:=C3 (P3 hP) (C8 (P3 hP) fun p h=>Qx rfl h)
omit hP in
def T5:=I3 T4 38 Y6
theorem P5:PEok ⟨A0,T5,A2⟩:=C3 (P4 hP) (C8 (P4 hP) fun l h=>Np rfl h.1 h.2)
omit hP in
def T6:=I3 T5 46 Y7
theorem P6:PEok ⟨A0,T6,A2⟩:=C3 (P5 hP) (C8 (P5 hP) fun p h=>Nq rfl h.1 h.2)
omit hP in
def T7:=I3 T6 19 Bf
theorem P7:PEok ⟨A0,T7,A2⟩:=C3 (P6 hP) (C8 (P6 hP) fun l h=>Nr rfl h.1 h.2)
omit hP in
def T8:=I3 T7 34 Bg
theorem P8:PEok ⟨A0,T8,A2⟩:=C3 (P7 hP) (C8 (P7 hP) fun p h=>Ns rfl h.1 h.2)
omit hP in
def T9:=I3 T8 6 Hi
theorem P9:PEok ⟨A0,T9,A2⟩:=C3 (P8 hP) (C8 (P8 hP) fun x h=>Ui rfl rfl h)
omit hP in
def ZL:=I3 T9 13 Cl
theorem ZM:PEok ⟨A0,ZL,A2⟩:=C3 (P9 hP) (C8 (P9 hP) fun p h=>Uj rfl rfl h)
omit hP in
def ZN:=I3 ZL 55 G2
theorem ZO:PEok ⟨A0,ZN,A2⟩:=C3 (ZM hP) (uE (ZM hP) rfl)
omit hP in
def ZP:=I3 ZN 40 D5
theorem P12:PEok ⟨A0,ZP,A2⟩:=C3 (ZO hP) (kT (ZO hP) rfl)
omit hP in
def ZQ:=I3 ZP 65 U7
theorem ZR:PEok ⟨A0,ZQ,A2⟩:=C3 (P12 hP) (gY rfl rfl)
omit hP in
def ZS:=I3 ZQ 35 Q3
theorem ZT:PEok ⟨A0,ZS,A2⟩:=C3 (ZR hP) (bP (ZR hP))
omit hP in
def ZU:=I3 ZS 62 J0
theorem ZV:PEok ⟨A0,ZU,A2⟩:=C3 (ZT hP) (fR (ZT hP))
omit hP in
def ZW:=I3 ZU 70 Fq
theorem ZX:PEok ⟨A0,ZW,A2⟩:=C3 (ZV hP) (kK (ZV hP))
omit hP in
def ZY:=I3 ZW 67 U0
theorem ZZ:PEok ⟨A0,ZY,A2⟩:=C3 (ZX hP) (bQ (ZX hP))
omit hP in
def T18:=I3 ZY 48 E6
theorem P18:PEok ⟨A0,T18,A2⟩:=C3 (ZZ hP) (Fr rfl (ZZ hP))
omit hP in
def T19:=I3 T18 52 M4
theorem P19:PEok ⟨A0,T19,A2⟩:=C3 (P18 hP) (Ul (P18 hP))
omit hP in
def T20:=I3 T19 30 B9
theorem P20:PEok ⟨A0,T20,A2⟩:=C3 (P19 hP) (bR (P19 hP))
omit hP in
def T21:=I3 T20 42 D3
theorem P21:PEok ⟨A0,T21,A2⟩:=C3 (P20 hP) (fS rfl (P20 hP))
omit hP in
def T22:=I3 T21 73 Fs
theorem P22:PEok ⟨A0,T22,A2⟩:=C3 (P21 hP) (kM (P21 hP))
omit hP in
def T23:=I3 T22 66 w4
theorem P23:PEok ⟨A0,T23,A2⟩:=C3 (P22 hP) (fT rfl (P22 hP))
omit hP in
def T24:=I3 T23 37 z7
theorem P24:PEok ⟨A0,T24,A2⟩:=C3 (P23 hP) (bS rfl rfl (P23 hP))
omit hP in
def T25:=I3 T24 59 Ft
theorem P25:PEok ⟨A0,T25,A2⟩:=C3 (P24 hP) (kO rfl (P24 hP))
omit hP in
def T26:=I3 T25 68 F5
theorem P26:PEok ⟨A0,T26,A2⟩:=C3 (P25 hP) (Fu rfl (P25 hP))
omit hP in
def T27:=I3 T26 60 K9
theorem P27:PEok ⟨A0,T27,A2⟩:=C3 (P26 hP) (Fw rfl rfl rfl rfl rfl rfl (P26 hP))
omit hP in
def T28:=I3 T27 61 M5
theorem P28:PEok ⟨A0,T28,A2⟩:=C3 (P27 hP) (Ie rfl rfl rfl rfl (P27 hP))
omit hP in
def T29:=I3 T28 49 E4
theorem P29:PEok ⟨A0,T29,A2⟩:=C3 (P28 hP) (If rfl rfl rfl (P28 hP))
omit hP in
def T30:=I3 T29 50 J2
theorem P30:PEok ⟨A0,T30,A2⟩:=C3 (P29 hP) (Ma rfl (P29 hP))
omit hP in
def T31:=I3 T30 36 I0
theorem P31:PEok ⟨A0,T31,A2⟩:=C3 (P30 hP) (Jw rfl rfl rfl rfl rfl (P30 hP))
omit hP in
def T32:=I3 T31 15 Cf
theorem P32:PEok ⟨A0,T32,A2⟩:=C3 (P31 hP) (fU rfl rfl rfl (P31 hP))
omit hP in
def T33:=I3 T32 14 Ac
theorem P33:PEok ⟨A0,T33,A2⟩:=C3 (P32 hP) (bW (P32 hP))
omit hP in
def T34:=I3 T33 4 Df
theorem P34:PEok ⟨A0,T34,A2⟩:=C3 (P33 hP) (bX rfl rfl (P33 hP))
omit hP in
def T35:=I3 T34 17 I1
theorem P35:PEok ⟨A0,T35,A2⟩:=C3 (P34 hP) (bZ (P34 hP))
omit hP in
def T36:=I3 T35 21 U8
theorem P36:PEok ⟨A0,T36,A2⟩:=C3 (P35 hP) (fY (P35 hP))
omit hP in
def T37:=I3 T36 7 N2
theorem P37:PEok ⟨A0,T37,A2⟩:=C3 (P36 hP) (cF rfl rfl rfl rfl rfl rfl rfl rfl rfl (P36 hP))
omit hP in
def T38:=I3 T37 9 U2
theorem P38:PEok ⟨A0,T38,A2⟩:=C3 (P37 hP) (Xn rfl rfl rfl rfl rfl rfl rfl rfl rfl (P37 hP))
omit hP in
def T39:=I3 T38 16 Dr
theorem P39:PEok ⟨A0,T39,A2⟩:=C3 (P38 hP) (cQ (P38 hP))
omit hP in
def T40:=I3 T39 5 u9
theorem P40:PEok ⟨A0,T40,A2⟩:=C3 (P39 hP) (Vm rfl rfl rfl rfl (P39 hP))
omit hP in
def T41:=I3 T40 45 B4
theorem P41:PEok ⟨A0,T41,A2⟩:=C3 (P40 hP) (Dm (P40 hP))
omit hP in
def T42:=I3 T41 64 E0
theorem P42:PEok ⟨A0,T42,A2⟩:=C3 (P41 hP) (Ef rfl (P41 hP))
omit hP in
def T43:=I3 T42 63 F0
theorem P43:PEok ⟨A0,T43,A2⟩:=C3 (P42 hP) (Ig (P42 hP))
omit hP in
def T44:=I3 T43 44 F1
theorem P44:PEok ⟨A0,T44,A2⟩:=C3 (P43 hP) (Ih (P43 hP))
omit hP in
def T45:=I3 T44 56 E1
theorem P45:PEok ⟨A0,T45,A2⟩:=C3 (P44 hP) (Eg rfl rfl rfl (P44 hP))
omit hP in
def T46:=I3 T45 43 B7
theorem P46:PEok ⟨A0,T46,A2⟩:=C3 (P45 hP) (Dp rfl rfl rfl (P45 hP))
omit hP in
def T47:=I3 T46 25 A3
theorem P47:PEok ⟨A0,T47,A2⟩:=C3 (P46 hP) (Eh rfl (P46 hP))
omit hP in
def T48:=I3 T47 26 C0
theorem P48:PEok ⟨A0,T48,A2⟩:=C3 (P47 hP) (Dq rfl rfl (P47 hP))
omit hP in
def T49:=I3 T48 31 C6
theorem P49:PEok ⟨A0,T49,A2⟩:=C3 (P48 hP) (Ge rfl rfl (P48 hP))
omit hP in
def T50:=I3 T49 8 L3
theorem P50:PEok ⟨A0,T50,A2⟩:=C3 (P49 hP) (Gf rfl rfl (P49 hP))
omit hP in
def T51:=I3 T50 11 J6
theorem P51:PEok ⟨A0,T51,A2⟩:=C3 (P50 hP) (Ei rfl rfl (P50 hP))
omit hP in
def T52:=I3 T51 10 o7
theorem P52:PEok ⟨A0,T52,A2⟩:=C3 (P51 hP) (Xq rfl (P51 hP))
omit hP in
def T53:=I3 T52 32 J3
theorem P53:PEok ⟨A0,T53,A2⟩:=C3 (P52 hP) (cL (P52 hP))
end
theorem zF{f:Nat}{T:Nat->Option (List AV->Option (List AV))}(hP:PEok ⟨A0,T,A2⟩){a x:AV}(H:AM.Comes ⟨A0,T,A2⟩ f [a] [.bool true])(hz:∀Z h,Fz Z h x a):∃h',callω A0 f [x] Heap.empty=.ok (.bool true) h':=by
 obtain ⟨vcs,h1,Z1,ow1,e,_,l,_⟩:=Gs hP H (Z:=fun _=>False) (h:=Heap.empty) (xs:=[x]) rfl (fun i u v hu hv=>by
  cases i with
  |zero=>cases hu;cases hv;exact hz _ _
  |succ i=>simp at hu) (fun id h=>h.elim)
 have l:VL Z1 ow1 h1 (openTs 0 [AV.bool true]).2 vcs [.bool true]:=l
 match vcs,l.1 with
 | [v],_ =>
  have hv:=l.2 0 v (.bool true) rfl rfl
  have:v=.bool true:=by
   cases hv with
   |fz h=>cases h;rfl
  subst this;exact⟨h1,e⟩
theorem LiveSays_ok(hP:PEok ⟨A0,T0,A2⟩){m:Modl}(hm:m.ok){x:AV}(hz:∀Z h,Fz Z h x m.F):∃h',callω A0 3 [x] Heap.empty=.ok (.bool true) h':=zF (P53 hP) (Gg (T:=T53) rfl rfl rfl rfl rfl rfl rfl rfl rfl rfl rfl hm) hz
end Go.Proofs.AmEnv
