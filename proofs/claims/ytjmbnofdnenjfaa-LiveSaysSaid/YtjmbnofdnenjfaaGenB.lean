/- What this program's functions do, at any data. Conditions: none. -/
import Derived.Test.YtjmbnofdnenjfaaGenA
set_option linter.unusedVariables false
set_option linter.unusedSimpArgs false
set_option linter.unusedSectionVars false
set_option linter.defProp false
set_option maxRecDepth 100000
set_option maxHeartbeats 4000000
open List renaming length_map→zqa,getElem_mem→zqb,getElem?_eq_getElem→zqc,range→zqd,getD_eq_getElem?_getD→zqe,length_set→zqf,mem_cons→zqg,drop_zero→zqh,map_set→zqi,nil_append→zqj,cons_append→zqk,take_of_length_le→zql,nodup_nil→zqm,mem_cons_of_mem→zqn,mem_cons_self→zqo,getElem?_eq_some_iff→zqp,replicate→zqq,drop_eq_getElem_cons→zqr,mem_singleton→zqs,drop_length→zqt,length_cons→zqu,length_replicate→zqv,map_cons→zqw,map_nil→zqx,mem_of_getElem?→zqy,mem_map_of_mem→zqz,length_append→zka,getElem?_eq_none→zkb,getElem?_replicate→zkc,mem_append→zkd,length_nil→zke,range_succ→zkf,map_append→zkg,set_set→zkh,eq_nil_of_length_eq_zero→zki,getElem?_set→zkj,append_nil→zkk,foldl_cons→zkl,mem_append_right→zkm,mem_append_left→zkn,getElem?_of_mem→zko,ext_getElem→zkp
open Nat renaming le_refl→zkq,zero_add→zkr,zero_le→zks,succ_pos→zkt,mul_le_mul_right→zku,lt_succ_self→zkv
open Bool renaming and_eq_true_iff→zkw,or_eq_true→zkx,false_or→zky,true_and→zkz,and_eq_true→zja
open Int renaming eq_ofNat_of_zero_le→zjb,toNat_natCast→zjc
noncomputable section
namespace Go.Proofs.AmEnv
open Go Go.AM
variable {T:Nat->Option (List AV->Option (List AV))}
section
variable {b:Blk}{B O:List (List Bool)}{at_ n r:Nat}{w:List Bool}{x:Ins}{tch:List Nat}{fr:PF}
theorem BZ(hP:T 27=none)(hw:w.length=n)(hs:n<=bigN)(hwr:writesD x<n):∀(k r:Nat)(O:List (List Bool))(tch:List Nat),n=r+k->A5 n n O ->
 ∃fr' tch',evP ⟨A0,T,A2⟩ (.code (.loop Lo) [(2,.ptr 1 0 0),(3,.ptr 12 0 0),(5,.int .i64 (writesD x)),(10,.msl 8 0 n 1),(11,.int .i64 (n:Int)),(12,.int .i64 (r:Int))] ⟨N3 B O b at_ n [.row 1 [x.F] 8,.row 1 [x.F] 8] (bools (w)),12,tch⟩)=some (.ok (.exit 0) fr' ⟨N3 B (Vf x w k r O) b at_ n [.row 1 [x.F] 8,.row 1 [x.F] 8] (bools (w)),12,tch'⟩)
 | 0,r,O,tch,e,hO=>by
  obtain rfl:r=n:=by omega
  obtain⟨fr',h⟩:=JZ (T:=T) (b:=b) (B:=B) (O:=O) (at_:=at_) (x:=x) (tch:=tch) hw;exact⟨fr',tch,B3 h⟩
 | k+1,r,O,tch,e,hO=>by
  obtain⟨tch1,h⟩:=KA (T:=T) (b:=b) (B:=B) (at_:=at_) (r:=r) (tch:=tch) hP hw (by omega) hs hwr hO;obtain⟨fr',tch',h'⟩:=BZ hP hw hs hwr k (r+1) (Mc x w r O) tch1 (by omega) (hO.see hwr (by omega));exact⟨fr',tch',(loop_more h).trans h'⟩
theorem KB(hN:T 29=none)(hW:T 30=some B9)(hw:w.length=n)(hP:T 27=none)(hs:n<=bigN)(hwr:writesD x<n)(hO:A5 n n O){ex:Nat}:
 ∃tch',evP ⟨A0,T,A2⟩ (.call 29 [x.F,.msl 8 0 n 1,.ptr 1 0 0] ⟨N3 B O b at_ n [.row 1 [x.F] 8] (bools (w)),ex,tch⟩)=some (.val [] ⟨N3 B (Md x w O) b at_ n [.row 1 [x.F] 8] (bools (w)),ex,tch'⟩):=by
 obtain⟨fr',tch1,h⟩:=BZ (T:=T) (b:=b) (B:=B) (at_:=at_) (w:=w) (x:=x) hP hw hs hwr n 0 O [] (by omega) hO;rw[Am hN rfl,A6 (c:=GK) (nt:=39) (rs:=[]) rfl (by simp)];unfold GK;have t2:=fun K=>j9 (K:=K) (x:=x) hW
 have hn0:Vf x w n 0 O=Md x w O:=by unfold Md;rw[hw]
 rw[hn0]at h;rw[show((0:Nat):Int)=0 from rfl]at h;unfold N3 at h|-;simp only[Blk.F,Ins.F,zqk,zqj]at t2 h|-;simp -implicitDefEqProofs only[t2,h,zqa,R6,R7,R8,R9,S0,S1,S2,H2,H3,H4,H5,H6,H7,XP,seval];exact⟨_,rfl⟩
theorem XF(hN:T 29=none)(hW:T 30=some B9)(hR:T 42=some D3)(hP:T 27=none)(hO:A5 n n O){kk:Nat}(hk:x.ok)(hw:w.length=n)(hs:n<=bigN)(hwr:writesD x<n)(hrd:∀r∈readsD x,0<=r/\r<(n:Int))(h5:lookP fr 5=.ptr 7 0 0)(h7:lookP fr 7=.ptr 9 0 0):
 ∃fr1 tch',evP ⟨A0,T,A2⟩ (.round ⟨[33,34],s8,s5,fr⟩ [.int .i64 (kk:Int),x.F] ⟨N3 B O b at_ n [] (bools w),11,[]⟩)=some (.ok .normal fr1 ⟨N3 B (Md x w O) b at_ n [] (bools (R2 w x)),11,tch'⟩):=by
 rw[Sg rfl];unfold s8 s5;obtain⟨tch1,t1⟩:=KB (T:=T) (b:=b) (B:=B) (O:=O) (at_:=at_) (w:=w) (x:=x) (tch:=[11]) (ex:=11) hN hW hw hP hs hwr hO;have t2:=fun K=>j9 (K:=K) (x:=x) hW
 have t3:=fun K=>Hb (K:=K) (x:=x) hR hk
 have hrl:(readsD x).length<=bigN:=by
  have:=Nw x
  have h2:x.args.length*8<=bigN:=hk;simp only[bigN]at h2|-;omega
 have go:∀w':List Bool,w'.length=n->∃(FR:PF->List Nat->PF)(TC:PF->List Nat->List Nat),∀(fr:PF)(tch:List Nat),lookP fr 7=.ptr 9 0 0->lookP fr 47=.msl 12 0 (readsD x).length 1->lookP fr 48=.int .i64 ((readsD x).length:Int)->lookP fr 49=.int .i64 0 ->
  evP ⟨A0,T,A2⟩ (.code (.loop Fl) fr ⟨N3 B (Md x w O) b at_ n [.row 1 [x.F] 8,.row 0 (ints (readsD x)) 1] (bools w'),11,tch⟩)=some (.ok (.exit 2) (FR fr tch) ⟨N3 B (Md x w O) b at_ n [.row 1 [x.F] 8,.row 0 (ints (readsD x)) 1] (bools ((readsD x).foldl Dh w')),11,TC fr tch⟩)/\∀y∈TC fr tch,y∈tch\/y=8:=fun w' hw'=>EL ES (fun _=>rfl) (fun _=>rfl) (fun _=>rfl) hrl hrd hw'
 by_cases h0:0<=writesD x
 . obtain⟨d,hd⟩:=zjb h0
   have hdn:d<n:=by omega
   obtain⟨FR,TC,hl⟩:=go (w.set d false) (by simpa using hw);have es:R2 w x=(readsD x).foldl Dh (w.set d false):=by unfold R2;rw[if_pos h0,hd];rfl
   have hg:=C5 (l:=w) (i:=d) (by omega);have hdec:decide (0<=(d:Int))=true:=by simp
   simp only[hd]at t2;have hl1:=fun fr tch a b c d=>(hl fr tch a b c d).1
   rw[es];unfold N3 at t1 hl1|-;simp only[Blk.F,Ins.F,zqk,zqj]at t1 t2 t3 hl1|-;simp -implicitDefEqProofs only[Y2,l8,Kl,h5,h7,t1,t2,t3,hdec,hdn,hg,Q6,hl1,R6,R7,R8,R9,S0,S1,S2,H2,H3,H4,H5,H6,H7,zqa,XP,seval];exact⟨_,_,rfl⟩
 . obtain⟨FR,TC,hl⟩:=go w hw
   have es:R2 w x=(readsD x).foldl Dh w:=by unfold R2;rw[if_neg h0]
   have hdec:decide (0<=writesD x)=false:=by simp[h0]
   have hl1:=fun fr tch a b c d=>(hl fr tch a b c d).1
   rw[es];unfold N3 at t1 hl1|-;simp only[Blk.F,Ins.F,zqk,zqj]at t1 t2 t3 hl1|-;simp -implicitDefEqProofs only[Y2,l8,Kl,h5,h7,t1,t2,t3,hdec,hl1,R6,R7,R8,R9,S0,S1,S2,H2,H3,H4,H5,H6,H7,zqa,XP,seval];exact⟨_,_,rfl⟩
theorem KC(hz:n=0):∃fr',evP ⟨A0,T,A2⟩ (.code Lo [(2,.ptr 1 0 0),(3,.ptr 11 0 0),(5,.int .i64 (writesD x)),(10,.msl 7 0 n 1),(11,.int .i64 (n:Int)),(12,.int .i64 0)] ⟨Y9 B O b at_ n [.row 1 [x.F] 8,.row 1 [x.F] 8] (bools (w)),11,tch⟩)=some (.ok (.exit 0) fr' ⟨Y9 B O b at_ n [.row 1 [x.F] 8,.row 1 [x.F] 8] (bools (w)),11,tch⟩):=by
 unfold Lo;have hlt:decide ((0:Int)<(n:Int))=false:=by simp;omega
 simp -implicitDefEqProofs only[hlt,XP,seval];exact⟨_,rfl⟩
theorem KD(hN:T 29=none)(hW:T 30=some B9)(hw:w.length=n)(hz:n=0){ex:Nat}:
 ∃tch',evP ⟨A0,T,A2⟩ (.call 29 [x.F,.msl 7 0 n 1,.ptr 1 0 0] ⟨Y9 B O b at_ n [.row 1 [x.F] 8] (bools (w)),ex,tch⟩)=some (.val [] ⟨Y9 B O b at_ n [.row 1 [x.F] 8] (bools (w)),ex,tch'⟩):=by
 obtain⟨fr',h⟩:=KC (T:=T) (b:=b) (B:=B) (O:=O) (at_:=at_) (n:=n) (w:=w) (x:=x) (tch:=[]) hz;rw[Am hN rfl,A6 (c:=GK) (nt:=39) (rs:=[]) rfl (by simp)];unfold GK;have t2:=fun K=>j9 (K:=K) (x:=x) hW
 have h:=B3 (c:=Lo) h;unfold Y9 at h|-;simp only[Blk.F,Ins.F,zqk,zqj]at t2 h|-;simp -implicitDefEqProofs only[t2,h,zqa,R6,R7,R8,R9,S0,S1,S2,H2,H3,H4,H5,H6,H7,XP,seval];exact⟨_,rfl⟩
theorem XG(hN:T 29=none)(hW:T 30=some B9)(hR:T 42=some D3)(hz:n=0){kk:Nat}(hk:x.ok)(hw:w.length=n)(hs:n<=bigN)(hwr:writesD x<n)(hrd:∀r∈readsD x,0<=r/\r<(n:Int))(h5:lookP fr 5=.ptr 6 0 0)(h7:lookP fr 7=.ptr 8 0 0):
 ∃fr1 tch',evP ⟨A0,T,A2⟩ (.round ⟨[33,34],s8,s5,fr⟩ [.int .i64 (kk:Int),x.F] ⟨Y9 B O b at_ n [] (bools w),10,[]⟩)=some (.ok .normal fr1 ⟨Y9 B O b at_ n [] (bools (R2 w x)),10,tch'⟩):=by
 rw[Sg rfl];unfold s8 s5;obtain⟨tch1,t1⟩:=KD (T:=T) (b:=b) (B:=B) (O:=O) (at_:=at_) (w:=w) (x:=x) (tch:=[10]) (ex:=10) hN hW hw hz;have t2:=fun K=>j9 (K:=K) (x:=x) hW
 have t3:=fun K=>Hb (K:=K) (x:=x) hR hk
 have hrl:(readsD x).length<=bigN:=by
  have:=Nw x
  have h2:x.args.length*8<=bigN:=hk;simp only[bigN]at h2|-;omega
 have go:∀w':List Bool,w'.length=n->∃(FR:PF->List Nat->PF)(TC:PF->List Nat->List Nat),∀(fr:PF)(tch:List Nat),lookP fr 7=.ptr 8 0 0->lookP fr 47=.msl 11 0 (readsD x).length 1->lookP fr 48=.int .i64 ((readsD x).length:Int)->lookP fr 49=.int .i64 0 ->
  evP ⟨A0,T,A2⟩ (.code (.loop Fl) fr ⟨Y9 B O b at_ n [.row 1 [x.F] 8,.row 0 (ints (readsD x)) 1] (bools w'),10,tch⟩)=some (.ok (.exit 2) (FR fr tch) ⟨Y9 B O b at_ n [.row 1 [x.F] 8,.row 0 (ints (readsD x)) 1] (bools ((readsD x).foldl Dh w')),10,TC fr tch⟩)/\∀y∈TC fr tch,y∈tch\/y=7:=fun w' hw'=>EL ET (fun _=>rfl) (fun _=>rfl) (fun _=>rfl) hrl hrd hw'
 have h0:¬0<=writesD x:=by omega
 obtain⟨FR,TC,hl⟩:=go w hw;have es:R2 w x=(readsD x).foldl Dh w:=by unfold R2;rw[if_neg h0]
 have hdec:decide (0<=writesD x)=false:=by simp[h0]
 have hl1:=fun fr tch a b c d=>(hl fr tch a b c d).1
 rw[es];unfold Y9 at t1 hl1|-;simp only[Blk.F,Ins.F,zqk,zqj]at t1 t2 t3 hl1|-;simp -implicitDefEqProofs only[Y2,l8,Kl,h5,h7,t1,t2,t3,hdec,hl1,R6,R7,R8,R9,S0,S1,S2,H2,H3,H4,H5,H6,H7,zqa,XP,seval];exact⟨_,_,rfl⟩
end
def Vh(l:List Ins):Nat->List Bool×List (List Bool)->List Bool×List (List Bool)
 |0,s=>s
 |k+1,s=>Vh l k (match l[k]? with|some x=>(R2 s.1 x,Md x s.1 s.2)|none=>s)
def rN(b:Blk)(w:List Bool)(O:List (List Bool)):List Bool×List (List Bool):=Vh b.code b.code.length (endW b w,O)
section
variable {c:Cod}{b:Blk}{B O:List (List Bool)}{at_ n r:Nat}{w:List Bool}{x:Ins}{tch:List Nat}{fr:PF}
theorem XH(hN:T 29=none)(hW:T 30=some B9)(hR:T 42=some D3)(hP:T 27=none)(hb:WOk n b)(hs:n<=bigN)(hO:A5 n n O){w0:List Bool}(hw0:w0.length=n){ex:Nat}:
 ∃ TC:PF->List Nat->List Nat,∀(fr:PF)(tch:List Nat),lookP fr 5=.ptr 7 0 0->lookP fr 7=.ptr 9 0 0->lookP fr 32=.fn (.func 54) [] [.ptr 10 0 0] ->
   evP ⟨A0,T,A2⟩ (.code (.rfn (.tmp 32) [33,34] s8 s5) fr ⟨N3 B O b at_ n [] (bools w0),ex,tch⟩)=some (.ok .normal fr ⟨N3 B (Vh b.code b.code.length (w0,O)).2 b at_ n [] (bools (Vh b.code b.code.length (w0,O)).1),ex,TC fr tch⟩):=by
 have key:∀x:PF×List Nat,∃y:List Nat,lookP x.1 5=.ptr 7 0 0->lookP x.1 7=.ptr 9 0 0->lookP x.1 32=.fn (.func 54) [] [.ptr 10 0 0] ->
  evP ⟨A0,T,A2⟩ (.code (.rfn (.tmp 32) [33,34] s8 s5) x.1 ⟨N3 B O b at_ n [] (bools w0),ex,x.2⟩)=some (.ok .normal x.1 ⟨N3 B (Vh b.code b.code.length (w0,O)).2 b at_ n [] (bools (Vh b.code b.code.length (w0,O)).1),ex,y⟩):=fun x=>by
  by_cases h:lookP x.1 5=.ptr 7 0 0/\lookP x.1 7=.ptr 9 0 0/\lookP x.1 32=.fn (.func 54) [] [.ptr 10 0 0]
  . obtain ⟨K',h1,w',O',tch',rfl,h3,h3b,h4⟩:=uN (T:=T) (l:=b.code) (f:=(b.code.map Ins.F).isEmpty) (fr:=x.1) (g:=.tmp 32) (ps:=[33,34]) (ca:=s8) (cb:=s5) (b:=10) (K:=⟨N3 B O b at_ n [] (bools w0),ex,x.2⟩)
     (Inv:=fun i K=>∃w O' tch,K=⟨N3 B O' b at_ n [] (bools w),11,tch⟩/\w.length=n/\A5 n n O'/\Vh b.code i (w,O')=Vh b.code b.code.length (w0,O)) hb.sz hb.ln h.2.2
     (fun i K _ hI=>by obtain⟨w,O',tch,rfl,_⟩:=hI;rfl)
     (fun i hi K hI=>by
       obtain⟨w,O',tch,rfl,h3,h3b,h4⟩:=hI;have hm:=zqb hi;obtain⟨fr1,tch',h6⟩:=XF (T:=T) (b:=b) (B:=B) (O:=O') (at_:=at_) (n:=n) (kk:=i) (w:=w) (x:=b.code[i]) (fr:=x.1) hN hW hR hP h3b (hb.ok _ hm) h3 hs (hb.wr _ hm) (hb.rd _ hm) h.1 h.2.1;refine⟨fr1,_,h6,R2 w b.code[i],Md b.code[i] w O',tch'++tch,rfl,(l5 _ _).trans h3,A5.sees (hb.wr _ hm) _ _ (by omega) h3b,?_⟩;rw[Vh,zqc hi]at h4;exact h4)
     ⟨w0,O,[],rfl,hw0,hO,rfl⟩
    exact⟨_,fun _ _ _=>by rw[h1];rw[Vh]at h4;rw[<-h4]⟩
  . exact⟨[],fun a b c=>absurd ⟨a,b,c⟩ h⟩
 exact⟨fun fr tch=>(key (fr,tch)).choose,fun fr tch=>(key (fr,tch)).choose_spec⟩
theorem kW(hWk:T 23=none)(hNB:T 41=none)(hCl:T 40=some D5)(hN:T 29=none)(hW:T 30=some B9)(hR:T 42=some D3)(hP:T 27=none)(hb:WOk n b)(hs:n<=bigN)(hO:A5 n n O)(hB:at_<B.length)(hl:(B.getD at_ []).length=n):
 ∃tch',evP ⟨A0,T,A2⟩ (.call 23 [b.F,.msl 5 0 n 1,.fn (.func 29) [] [.ptr 1 0 0]] ⟨[.row 1 [.msl 3 0 n 1] 1,.row 1 [.fn (.func 27) [] [.ptr 0 0 0]] 1,.row 0 (tab B) 1,.row 0 (tab O) 1,.row 1 [b.F] 5,.sub 2 at_ 0],0,tch⟩)=some (.val [.msl 8 0 n 1] ⟨N3 B (rN b (B.getD at_ []) O).2 b at_ n [] (bools (rN b (B.getD at_ []) O).1),0,tch'⟩):=by
 have h3:=M6 hB;have hv:∀os,rowOf os 6 5=some (0,bools (B.getD at_ []),1)->viewAs os [.msl 5 0 n 1]=some [fslN (bools (B.getD at_ []))]:=fun os h=>by
  have e:viewV os (.msl 5 0 n 1)=some (fslN (bools (B.getD at_ []))):=by
   show(match rowOf os 6 5 with|some (k,es,z)=>(if k=0/\1=z/\0+n<=es.length then(match frzL ((es.drop 0).take n)with|some es=>some (fslN es)|none=>none)else none)|none=>none)=_
   rw[h];dsimp only;rw[if_pos ⟨rfl,rfl,by rw[zqa];omega⟩,zqh,zql (by rw[zqa];omega),frzL_bools]
  show J7 (viewV os (.msl 5 0 n 1)) (some [])=_
  rw[e];rfl
 have tc:=fun K (h:viewAs K.os [.msl 5 0 n 1]=some [fslN (bools (B.getD at_ []))])=>B8 (E:=A0) (F:=A2) (K:=K) hCl h (Ad (by rw[hl];omega)) (by simp -implicitDefEqProofs only[noFL_bools,XP,seval])
 have tb:=fun K=>Vb (K:=K) (l:=b.code) hNB
 obtain⟨TC,hw⟩:=XH (T:=T) (ex:=6) (b:=b) (B:=B) (O:=O) (at_:=at_) (n:=n) (w0:=endW b (B.getD at_ [])) hN hW hR hP hb hs hO ((Ae _ _).trans hl);rw[Am hWk rfl,A6 (c:=AY) (nt:=58) (rs:=[.tmp 6]) rfl (by simp)];unfold AY rN;by_cases e1:b.e.kind=1
 . rw[show endW b (B.getD at_ [])=B.getD at_ [] by unfold endW;rw[if_neg (fun h=>h.1 e1)]]at hw|-
   unfold N3 at hw|-;simp only[Blk.F,zqk,zqj]at hw|-;simp -implicitDefEqProofs only[h3,tb,tc,hv,eq_true e1,hw,hl,zqa,R6,R7,R8,R9,S0,S1,S2,H2,H3,H4,H5,H6,H7,XP,seval];exact⟨_,rfl⟩
 by_cases e2:0<=b.e.a
 . obtain⟨d,hd⟩:=zjb e2
   have hdn:d<n:=by have:=hb.ea e1;omega
   have hg:=C5 (l:=B.getD at_ []) (i:=d) (by omega);rw[show endW b (B.getD at_ [])=(B.getD at_ []).set d true by unfold endW;rw[if_pos ⟨e1,e2⟩,hd];rfl]at hw|-;have hdec:decide (0<=(d:Int))=true:=by simp
   unfold N3 at hw|-;simp only[Blk.F,zqk,zqj,hd]at hw|-;simp -implicitDefEqProofs only[h3,tb,tc,hv,e1,hdec,hdn,hg,Q6,hw,hl,zqa,R6,R7,R8,R9,S0,S1,S2,H2,H3,H4,H5,H6,H7,XP,seval];exact⟨_,rfl⟩
 . rw[show endW b (B.getD at_ [])=B.getD at_ [] by unfold endW;rw[if_neg (fun h=>e2 h.2)]]at hw|-
   have hdec:decide (0<=b.e.a)=false:=by simp[e2]
   unfold N3 at hw|-;simp only[Blk.F,zqk,zqj]at hw|-;simp -implicitDefEqProofs only[h3,tb,tc,hv,e1,hdec,hw,hl,zqa,R6,R7,R8,R9,S0,S1,S2,H2,H3,H4,H5,H6,H7,XP,seval];exact⟨_,rfl⟩
theorem XI(hWk:T 23=none)(hNB:T 41=none)(hCl:T 40=some D5)(hN:T 29=none)(hW:T 30=some B9)(hR:T 42=some D3)(hP:T 27=none)(hat:at_<c.blocks.length)(hb:WOk n c.blocks[at_])(hbl:c.blocks.length<=60000)(hs:n<=bigN)(hO:A5 n n O)(hB:A5 c.blocks.length n B):
 evP ⟨A0,T,A2⟩ (.code bK [(3,.ptr 0 0 0),(4,.ptr 1 0 0),(6,.msl 2 0 c.blocks.length 1),(57,fslN (c.blocks.map Blk.F)),(58,.int .i64 (c.blocks.length:Int)),(59,.int .i64 (at_:Int))] ⟨[.row 1 [.msl 3 0 n 1] 1,.row 1 [.fn (.func 27) [] [.ptr 0 0 0]] 1,.row 0 (tab B) 1,.row 0 (tab O) 1],0,[]⟩)=some (.ok .normal [(3,.ptr 0 0 0),(4,.ptr 1 0 0),(6,.msl 2 0 c.blocks.length 1),(57,fslN (c.blocks.map Blk.F)),(58,.int .i64 (c.blocks.length:Int)),(59,.int .i64 ((at_+1:Nat):Int))] ⟨[.row 1 [.msl 3 0 n 1] 1,.row 1 [.fn (.func 27) [] [.ptr 0 0 0]] 1,.row 0 (tab B) 1,.row 0 (tab (rN c.blocks[at_] (B.getD at_ []) O).2) 1],0,[]⟩):=by
 obtain⟨tch',h⟩:=kW (T:=T) (b:=c.blocks[at_]) (B:=B) (O:=O) (at_:=at_) (n:=n) (tch:=[4]) hWk hNB hCl hN hW hR hP hb hs hO (by rw[hB.1];exact hat) (hB.get hat);unfold bK;have hlt:decide ((at_:Int)<(c.blocks.length:Int))=true:=by simp[hat]
 have hws:=A8 (i:=at_) (by omega);have h1:=B5 (F:=Blk.F) hat;have h3:=M6 (A:=B) (i:=at_) (by rw[hB.1];exact hat);have hl:=hB.get hat;generalize c.blocks[at_]=b at h h1|-;unfold N3 at h;simp only[Blk.F,zqk,zqj]at h h1|-;simp -implicitDefEqProofs only[hlt,hws,h1,h3,hl,hat,h,zqa,R6,R7,R8,R9,S0,S1,S2,H2,H3,H4,H5,H6,H7,XP,seval]
theorem XJ(hN:T 29=none)(hW:T 30=some B9)(hR:T 42=some D3)(hz:n=0)(hb:WOk n b)(hs:n<=bigN)(hO:A5 n n O){w0:List Bool}(hw0:w0.length=n){ex:Nat}:
 ∃ TC:PF->List Nat->List Nat,∀(fr:PF)(tch:List Nat),lookP fr 5=.ptr 6 0 0->lookP fr 7=.ptr 8 0 0->lookP fr 32=.fn (.func 54) [] [.ptr 9 0 0] ->
   evP ⟨A0,T,A2⟩ (.code (.rfn (.tmp 32) [33,34] s8 s5) fr ⟨Y9 B O b at_ n [] (bools w0),ex,tch⟩)=some (.ok .normal fr ⟨Y9 B (Vh b.code b.code.length (w0,O)).2 b at_ n [] (bools (Vh b.code b.code.length (w0,O)).1),ex,TC fr tch⟩):=by
 have key:∀x:PF×List Nat,∃y:List Nat,lookP x.1 5=.ptr 6 0 0->lookP x.1 7=.ptr 8 0 0->lookP x.1 32=.fn (.func 54) [] [.ptr 9 0 0] ->
  evP ⟨A0,T,A2⟩ (.code (.rfn (.tmp 32) [33,34] s8 s5) x.1 ⟨Y9 B O b at_ n [] (bools w0),ex,x.2⟩)=some (.ok .normal x.1 ⟨Y9 B (Vh b.code b.code.length (w0,O)).2 b at_ n [] (bools (Vh b.code b.code.length (w0,O)).1),ex,y⟩):=fun x=>by
  by_cases h:lookP x.1 5=.ptr 6 0 0/\lookP x.1 7=.ptr 8 0 0/\lookP x.1 32=.fn (.func 54) [] [.ptr 9 0 0]
  . obtain ⟨K',h1,w',O',tch',rfl,h3,h3b,h4⟩:=uN (T:=T) (l:=b.code) (f:=(b.code.map Ins.F).isEmpty) (fr:=x.1) (g:=.tmp 32) (ps:=[33,34]) (ca:=s8) (cb:=s5) (b:=9) (K:=⟨Y9 B O b at_ n [] (bools w0),ex,x.2⟩)
     (Inv:=fun i K=>∃w O' tch,K=⟨Y9 B O' b at_ n [] (bools w),10,tch⟩/\w.length=n/\A5 n n O'/\Vh b.code i (w,O')=Vh b.code b.code.length (w0,O)) hb.sz hb.ln h.2.2
     (fun i K _ hI=>by obtain⟨w,O',tch,rfl,_⟩:=hI;rfl)
     (fun i hi K hI=>by
       obtain⟨w,O',tch,rfl,h3,h3b,h4⟩:=hI;have hm:=zqb hi;obtain⟨fr1,tch',h6⟩:=XG (T:=T) (b:=b) (B:=B) (O:=O') (at_:=at_) (n:=n) (kk:=i) (w:=w) (x:=b.code[i]) (fr:=x.1) hN hW hR hz (hb.ok _ hm) h3 hs (hb.wr _ hm) (hb.rd _ hm) h.1 h.2.1;refine⟨fr1,_,h6,R2 w b.code[i],Md b.code[i] w O',tch'++tch,rfl,(l5 _ _).trans h3,A5.sees (hb.wr _ hm) _ _ (by omega) h3b,?_⟩;rw[Vh,zqc hi]at h4;exact h4)
     ⟨w0,O,[],rfl,hw0,hO,rfl⟩
    exact⟨_,fun _ _ _=>by rw[h1];rw[Vh]at h4;rw[<-h4]⟩
  . exact⟨[],fun a b c=>absurd ⟨a,b,c⟩ h⟩
 exact⟨fun fr tch=>(key (fr,tch)).choose,fun fr tch=>(key (fr,tch)).choose_spec⟩
theorem kX(hWk:T 23=none)(hNB:T 41=none)(hCl:T 40=some D5)(hN:T 29=none)(hW:T 30=some B9)(hR:T 42=some D3)(hz:n=0)(hb:WOk n b)(hs:n<=bigN)(hO:A5 n n O)(hB:at_<B.length)(hl:(B.getD at_ []).length=n):
 ∃tch',evP ⟨A0,T,A2⟩ (.call 23 [b.F,.msl 4 0 n 1,.fn (.func 29) [] [.ptr 1 0 0]] ⟨[.row 1 [.nilsl] 1,.row 1 [.fn (.func 27) [] [.ptr 0 0 0]] 1,.row 0 (tab B) 1,.row 1 [b.F] 5,.sub 2 at_ 0],0,tch⟩)=some (.val [.msl 7 0 n 1] ⟨Y9 B (rN b (B.getD at_ []) O).2 b at_ n [] (bools (rN b (B.getD at_ []) O).1),0,tch'⟩):=by
 have h3:=M6 hB;have hv:∀os,rowOf os 6 4=some (0,bools (B.getD at_ []),1)->viewAs os [.msl 4 0 n 1]=some [fslN (bools (B.getD at_ []))]:=fun os h=>by
  have e:viewV os (.msl 4 0 n 1)=some (fslN (bools (B.getD at_ []))):=by
   show(match rowOf os 6 4 with|some (k,es,z)=>(if k=0/\1=z/\0+n<=es.length then(match frzL ((es.drop 0).take n)with|some es=>some (fslN es)|none=>none)else none)|none=>none)=_
   rw[h];dsimp only;rw[if_pos ⟨rfl,rfl,by rw[zqa];omega⟩,zqh,zql (by rw[zqa];omega),frzL_bools]
  show J7 (viewV os (.msl 4 0 n 1)) (some [])=_
  rw[e];rfl
 have tc:=fun K (h:viewAs K.os [.msl 4 0 n 1]=some [fslN (bools (B.getD at_ []))])=>B8 (E:=A0) (F:=A2) (K:=K) hCl h (Ad (by rw[hl];omega)) (by simp -implicitDefEqProofs only[noFL_bools,XP,seval])
 have tb:=fun K=>Vb (K:=K) (l:=b.code) hNB
 obtain ⟨TC,hw⟩:=XJ (T:=T) (ex:=5) (b:=b) (B:=B) (O:=O) (at_:=at_) (n:=n) (w0:=endW b (B.getD at_ [])) hN hW hR hz hb hs hO ((Ae _ _).trans hl);rw[Am hWk rfl,A6 (c:=AY) (nt:=58) (rs:=[.tmp 6]) rfl (by simp)];unfold AY rN;have hnn:∀i:Nat,(endW b (B.getD at_ []))=B.getD at_ []:=fun _=>by
  unfold endW;split
  . rename_i h;have:=hb.ea h.1;omega
  . rfl
 rw[hnn 0]at hw|-;unfold Y9 at hw|-;simp only[Blk.F,zqk,zqj]at hw|-;by_cases e1:b.e.kind=1
 . simp -implicitDefEqProofs only[h3,tb,tc,hv,eq_true e1,hw,hl,zqa,R6,R7,R8,R9,S0,S1,S2,H2,H3,H4,H5,H6,H7,XP,seval]
   exact⟨_,rfl⟩
 . have e2:¬0<=b.e.a:=by have:=hb.ea e1;omega
   have hdec:decide (0<=b.e.a)=false:=by simp[e2]
   simp -implicitDefEqProofs only[h3,tb,tc,hv,e1,hdec,hw,hl,zqa,R6,R7,R8,R9,S0,S1,S2,H2,H3,H4,H5,H6,H7,XP,seval];exact⟨_,rfl⟩
theorem XK(hWk:T 23=none)(hNB:T 41=none)(hCl:T 40=some D5)(hN:T 29=none)(hW:T 30=some B9)(hR:T 42=some D3)(hz:n=0)(hat:at_<c.blocks.length)(hb:WOk n c.blocks[at_])(hbl:c.blocks.length<=60000)(hs:n<=bigN)(hO:A5 n n O)(hB:A5 c.blocks.length n B):
 evP ⟨A0,T,A2⟩ (.code bK [(3,.ptr 0 0 0),(4,.ptr 1 0 0),(6,.msl 2 0 c.blocks.length 1),(57,fslN (c.blocks.map Blk.F)),(58,.int .i64 (c.blocks.length:Int)),(59,.int .i64 (at_:Int))] ⟨[.row 1 [.nilsl] 1,.row 1 [.fn (.func 27) [] [.ptr 0 0 0]] 1,.row 0 (tab B) 1],0,[]⟩)=some (.ok .normal [(3,.ptr 0 0 0),(4,.ptr 1 0 0),(6,.msl 2 0 c.blocks.length 1),(57,fslN (c.blocks.map Blk.F)),(58,.int .i64 (c.blocks.length:Int)),(59,.int .i64 ((at_+1:Nat):Int))] ⟨[.row 1 [.nilsl] 1,.row 1 [.fn (.func 27) [] [.ptr 0 0 0]] 1,.row 0 (tab B) 1],0,[]⟩):=by
 obtain⟨tch',h⟩:=kX (T:=T) (b:=c.blocks[at_]) (B:=B) (O:=O) (at_:=at_) (n:=n) (tch:=[3]) hWk hNB hCl hN hW hR hz hb hs hO (by rw[hB.1];exact hat) (hB.get hat);unfold bK;have hlt:decide ((at_:Int)<(c.blocks.length:Int))=true:=by simp[hat]
 have hws:=A8 (i:=at_) (by omega);have h1:=B5 (F:=Blk.F) hat;have h3:=M6 (A:=B) (i:=at_) (by rw[hB.1];exact hat);have hl:=hB.get hat;generalize c.blocks[at_]=b at h h1|-;unfold Y9 at h;simp only[Blk.F,zqk,zqj]at h h1|-;simp -implicitDefEqProofs only[hlt,hws,h1,h3,hl,hat,h,zqa,R6,R7,R8,R9,S0,S1,S2,H2,H3,H4,H5,H6,H7,XP,seval]
end
def Xm(c:Cod)(A:List (List Bool))(a:Nat):Nat->Nat->List (List Bool)->List (List Bool)
 |0,_,O=>O
 |k+1,b,O=>Xm c A a k (b+1) (if Q5 c A a&&Q5 c A b then pairD a b O else O)
def cabA(c:Cod)(A:List (List Bool)):Nat->Nat->List (List Bool)->List (List Bool)
 |0,_,O=>O
 |k+1,a,O=>cabA c A k (a+1) (Xm c A a a 0 O)
def ckGo(l:List Blk)(B:List (List Bool)):Nat->Nat->List (List Bool)->List (List Bool)
 |0,_,O=>O
 |k+1,i,O=>ckGo l B k (i+1) (match l[i]? with|some b=>(rN b (B.getD i []) O).2|none=>O)
def clashD(c:Cod):List (List Bool):=ckGo c.blocks (liveD c).2.1 c.blocks.length 0 (cabA c (liveD c).1 c.regs.length 0 (noneT c.regs.length c.regs.length))
theorem Di{c:Cod}{A:List (List Bool)}{n a:Nat}(ha:a<n):∀(k b:Nat){O:List (List Bool)},b+k<=n->A5 n n O->A5 n n (Xm c A a k b O)
 |0,b,O,_,h=>h
 | k+1,b,O,e,h=>by
  unfold Xm;refine Di ha k (b+1) (by omega) ?_;split
  . exact h.pair ha (by omega)
  . exact h
theorem Dj{c:Cod}{A:List (List Bool)}{n:Nat}:∀(k a:Nat){O:List (List Bool)},a+k<=n->A5 n n O->A5 n n (cabA c A k a O)
 |0,a,O,_,h=>h
 |k+1,a,O,e,h=>Dj k (a+1) (by omega) (Di (by omega) a 0 (by omega) h)
theorem Ny{n:Nat}{b:Blk}(hb:WOk n b):∀(k:Nat){s:List Bool×List (List Bool)},s.1.length=n->A5 n n s.2->A5 n n (Vh b.code k s).2
 |0,s,_,h=>h
 | k+1,s,hl,h=>by
  unfold Vh;cases hq:b.code[k]? with
  |none=>exact Ny hb k hl h
  | some x =>
   have hx:=zqy hq;exact Ny hb k (s:=(R2 s.1 x,Md x s.1 s.2)) ((l5 _ _).trans hl) (A5.sees (hb.wr _ hx) _ _ (by omega) h)
theorem Za{n:Nat}{b:Blk}(hb:WOk n b){w:List Bool}{O:List (List Bool)}(hw:w.length=n)(h:A5 n n O):A5 n n (rN b w O).2:=Ny hb _ ((Ae _ _).trans hw) h
section
variable {c:Cod}{A B O:List (List Bool)}{a b i n:Nat}{tch:List Nat}
theorem KE{K:PK}:∃fr',evP ⟨A0,T,A2⟩ (.code pV [(1,.ptr 0 0 0),(3,.ptr 1 0 0),(4,.ptr 2 0 0),(6,.msl 3 0 c.blocks.length 1),(7,.fn (.func 28) [] [.ptr 0 0 0,.ptr 4 0 0]),(8,.int .i64 (a:Int)),(34,.int .i64 (c.regs.length:Int)),(35,.int .i64 (a:Int)),(38,.int .i64 (a:Int)),(39,.int .i64 (a:Int))] K)=some (.ok (.exit 4) fr' K)/\(lookP fr' 1=.ptr 0 0 0/\lookP fr' 3=.ptr 1 0 0/\lookP fr' 4=.ptr 2 0 0/\lookP fr' 6=.msl 3 0 c.blocks.length 1/\lookP fr' 7=.fn (.func 28) [] [.ptr 0 0 0,.ptr 4 0 0]/\lookP fr' 34=.int .i64 (c.regs.length:Int)/\lookP fr' 35=.int .i64 (a:Int)):=by
 unfold pV;have hlt:decide ((a:Int)<(a:Int))=false:=by simp
 simp -implicitDefEqProofs only[hlt,XP,seval];exact⟨_,rfl,rfl,rfl,rfl,rfl,rfl,rfl,rfl⟩
theorem CA(hP:T 27=none)(hF:T 28=none)(ha:a<c.regs.length)(hr:c.regs.length*24<=bigN)(h0:0<c.blocks.length)(hA:A5 c.blocks.length c.regs.length A):∀(k b:Nat)(O:List (List Bool)),a=b+k->A5 c.regs.length c.regs.length O ->
 ∃fr',evP ⟨A0,T,A2⟩ (.code (.loop pV) [(1,.ptr 0 0 0),(3,.ptr 1 0 0),(4,.ptr 2 0 0),(6,.msl 3 0 c.blocks.length 1),(7,.fn (.func 28) [] [.ptr 0 0 0,.ptr 4 0 0]),(8,.int .i64 (a:Int)),(34,.int .i64 (c.regs.length:Int)),(35,.int .i64 (a:Int)),(38,.int .i64 (a:Int)),(39,.int .i64 (b:Int))] ⟨[.row 1 [c.F] 5,.row 1 [.msl 5 0 c.regs.length 1] 1,.row 1 [.fn (.func 27) [] [.ptr 1 0 0]] 1,.row 0 (tab B) 1,.row 1 [.msl 6 0 c.blocks.length 1] 1,.row 0 (tab O) 1,.row 0 (tab A) 1],0,[]⟩)=some (.ok (.exit 4) fr' ⟨[.row 1 [c.F] 5,.row 1 [.msl 5 0 c.regs.length 1] 1,.row 1 [.fn (.func 27) [] [.ptr 1 0 0]] 1,.row 0 (tab B) 1,.row 1 [.msl 6 0 c.blocks.length 1] 1,.row 0 (tab (Xm c A a k b O)) 1,.row 0 (tab A) 1],0,[]⟩)/\(lookP fr' 1=.ptr 0 0 0/\lookP fr' 3=.ptr 1 0 0/\lookP fr' 4=.ptr 2 0 0/\lookP fr' 6=.msl 3 0 c.blocks.length 1/\lookP fr' 7=.fn (.func 28) [] [.ptr 0 0 0,.ptr 4 0 0]/\lookP fr' 34=.int .i64 (c.regs.length:Int)/\lookP fr' 35=.int .i64 (a:Int))
 | 0,b,O,e,hO=>by
  obtain rfl:b=a:=by omega
  obtain⟨fr',h,hq⟩:=KE (T:=T) (c:=c) (a:=b) (K:=⟨[.row 1 [c.F] 5,.row 1 [.msl 5 0 c.regs.length 1] 1,.row 1 [.fn (.func 27) [] [.ptr 1 0 0]] 1,.row 0 (tab B) 1,.row 1 [.msl 6 0 c.blocks.length 1] 1,.row 0 (tab O) 1,.row 0 (tab A) 1],0,[]⟩);exact⟨fr',B3 h,hq⟩
 | k+1,b,O,e,hO=>by
  have h:=JY (T:=T) (c:=c) (A:=A) (B:=B) (a:=a) (b:=b) hP hF (by omega) ha hr h0 hA hO;obtain⟨fr',h',hq⟩:=CA hP hF ha hr h0 hA k (b+1) (if Q5 c A a&&Q5 c A b then pairD a b O else O) (by omega) (by
   split
   . exact hO.pair ha (by omega)
   . exact hO)
  exact⟨fr',(loop_more h).trans h',hq⟩
theorem KF(hP:T 27=none)(hF:T 28=none)(ha:a<c.regs.length)(hr:c.regs.length*24<=bigN)(h0:0<c.blocks.length)(hA:A5 c.blocks.length c.regs.length A)(hO:A5 c.regs.length c.regs.length O):
 evP ⟨A0,T,A2⟩ (.code pW [(1,.ptr 0 0 0),(3,.ptr 1 0 0),(4,.ptr 2 0 0),(6,.msl 3 0 c.blocks.length 1),(7,.fn (.func 28) [] [.ptr 0 0 0,.ptr 4 0 0]),(34,.int .i64 (c.regs.length:Int)),(35,.int .i64 (a:Int))] ⟨[.row 1 [c.F] 5,.row 1 [.msl 5 0 c.regs.length 1] 1,.row 1 [.fn (.func 27) [] [.ptr 1 0 0]] 1,.row 0 (tab B) 1,.row 1 [.msl 6 0 c.blocks.length 1] 1,.row 0 (tab O) 1,.row 0 (tab A) 1],0,[]⟩)=some (.ok .normal [(1,.ptr 0 0 0),(3,.ptr 1 0 0),(4,.ptr 2 0 0),(6,.msl 3 0 c.blocks.length 1),(7,.fn (.func 28) [] [.ptr 0 0 0,.ptr 4 0 0]),(34,.int .i64 (c.regs.length:Int)),(35,.int .i64 ((a+1:Nat):Int))] ⟨[.row 1 [c.F] 5,.row 1 [.msl 5 0 c.regs.length 1] 1,.row 1 [.fn (.func 27) [] [.ptr 1 0 0]] 1,.row 0 (tab B) 1,.row 1 [.msl 6 0 c.blocks.length 1] 1,.row 0 (tab (Xm c A a a 0 O)) 1,.row 0 (tab A) 1],0,[]⟩):=by
 obtain⟨fr',h,k1,k2,k3,k4,k5,k6,k7⟩:=CA (T:=T) (c:=c) (A:=A) (B:=B) (a:=a) hP hF ha hr h0 hA a 0 O (by omega) hO;unfold pW;have hlt:decide ((a:Int)<(c.regs.length:Int))=true:=by simp[ha]
 have hws:=A8 (i:=a) (by simp only[bigN]at hr;omega);rw[show((0:Nat):Int)=0 from rfl]at h;simp only[Cod.F]at h|-;simp -implicitDefEqProofs only[hlt,hws,h,k1,k2,k3,k4,k5,k6,k7,R6,R7,R8,R9,S0,S1,S2,H2,H3,H4,H5,H6,H7,XP,seval]
theorem CB{K:PK}:∃fr',evP ⟨A0,T,A2⟩ (.code pW [(1,.ptr 0 0 0),(3,.ptr 1 0 0),(4,.ptr 2 0 0),(6,.msl 3 0 c.blocks.length 1),(7,.fn (.func 28) [] [.ptr 0 0 0,.ptr 4 0 0]),(34,.int .i64 (c.regs.length:Int)),(35,.int .i64 (c.regs.length:Int))] K)=some (.ok (.exit 2) fr' K)/\(lookP fr' 1=.ptr 0 0 0/\lookP fr' 3=.ptr 1 0 0/\lookP fr' 4=.ptr 2 0 0/\lookP fr' 6=.msl 3 0 c.blocks.length 1):=by
 unfold pW;have hlt:decide ((c.regs.length:Int)<(c.regs.length:Int))=false:=by simp
 simp -implicitDefEqProofs only[hlt,XP,seval];exact⟨_,rfl,rfl,rfl,rfl,rfl⟩
theorem CC(hP:T 27=none)(hF:T 28=none)(hr:c.regs.length*24<=bigN)(h0:0<c.blocks.length)(hA:A5 c.blocks.length c.regs.length A):∀(k a:Nat)(O:List (List Bool)),c.regs.length=a+k->A5 c.regs.length c.regs.length O ->
 ∃fr',evP ⟨A0,T,A2⟩ (.code (.loop pW) [(1,.ptr 0 0 0),(3,.ptr 1 0 0),(4,.ptr 2 0 0),(6,.msl 3 0 c.blocks.length 1),(7,.fn (.func 28) [] [.ptr 0 0 0,.ptr 4 0 0]),(34,.int .i64 (c.regs.length:Int)),(35,.int .i64 (a:Int))] ⟨[.row 1 [c.F] 5,.row 1 [.msl 5 0 c.regs.length 1] 1,.row 1 [.fn (.func 27) [] [.ptr 1 0 0]] 1,.row 0 (tab B) 1,.row 1 [.msl 6 0 c.blocks.length 1] 1,.row 0 (tab O) 1,.row 0 (tab A) 1],0,[]⟩)=some (.ok (.exit 2) fr' ⟨[.row 1 [c.F] 5,.row 1 [.msl 5 0 c.regs.length 1] 1,.row 1 [.fn (.func 27) [] [.ptr 1 0 0]] 1,.row 0 (tab B) 1,.row 1 [.msl 6 0 c.blocks.length 1] 1,.row 0 (tab (cabA c A k a O)) 1,.row 0 (tab A) 1],0,[]⟩)/\(lookP fr' 1=.ptr 0 0 0/\lookP fr' 3=.ptr 1 0 0/\lookP fr' 4=.ptr 2 0 0/\lookP fr' 6=.msl 3 0 c.blocks.length 1)
 | 0,a,O,e,hO=>by
  obtain rfl:a=c.regs.length:=by omega
  obtain⟨fr',h,hq⟩:=CB (T:=T) (c:=c) (K:=⟨[.row 1 [c.F] 5,.row 1 [.msl 5 0 c.regs.length 1] 1,.row 1 [.fn (.func 27) [] [.ptr 1 0 0]] 1,.row 0 (tab B) 1,.row 1 [.msl 6 0 c.blocks.length 1] 1,.row 0 (tab O) 1,.row 0 (tab A) 1],0,[]⟩);exact⟨fr',B3 h,hq⟩
 | k+1,a,O,e,hO=>by
  have h:=KF (T:=T) (c:=c) (A:=A) (B:=B) (a:=a) hP hF (by omega) hr h0 hA hO;obtain⟨fr',h',hq⟩:=CC hP hF hr h0 hA k (a+1) (Xm c A a a 0 O) (by omega) (Di (by omega) a 0 (by omega) hO);exact⟨fr',(loop_more h).trans h',hq⟩
theorem CD{K:PK}:∃fr',evP ⟨A0,T,A2⟩ (.code bK [(3,.ptr 0 0 0),(4,.ptr 1 0 0),(6,.msl 2 0 c.blocks.length 1),(57,fslN (c.blocks.map Blk.F)),(58,.int .i64 (c.blocks.length:Int)),(59,.int .i64 (c.blocks.length:Int))] K)=some (.ok (.exit 6) fr' K)/\lookP fr' 3=.ptr 0 0 0:=by
 unfold bK;have hlt:decide ((c.blocks.length:Int)<(c.blocks.length:Int))=false:=by simp
 simp -implicitDefEqProofs only[hlt,XP,seval];exact⟨_,rfl,rfl⟩
theorem uT(hWk:T 23=none)(hNB:T 41=none)(hCl:T 40=some D5)(hN:T 29=none)(hW:T 30=some B9)(hR:T 42=some D3)(hP:T 27=none)(hc:LOk c)(hs:c.regs.length<=bigN)(hB:A5 c.blocks.length c.regs.length B):∀(k i:Nat)(O:List (List Bool)),c.blocks.length=i+k->A5 c.regs.length c.regs.length O ->
 ∃fr',evP ⟨A0,T,A2⟩ (.code (.loop bK) [(3,.ptr 0 0 0),(4,.ptr 1 0 0),(6,.msl 2 0 c.blocks.length 1),(57,fslN (c.blocks.map Blk.F)),(58,.int .i64 (c.blocks.length:Int)),(59,.int .i64 (i:Int))] ⟨[.row 1 [.msl 3 0 c.regs.length 1] 1,.row 1 [.fn (.func 27) [] [.ptr 0 0 0]] 1,.row 0 (tab B) 1,.row 0 (tab O) 1],0,[]⟩)=some (.ok (.exit 6) fr' ⟨[.row 1 [.msl 3 0 c.regs.length 1] 1,.row 1 [.fn (.func 27) [] [.ptr 0 0 0]] 1,.row 0 (tab B) 1,.row 0 (tab (ckGo c.blocks B k i O)) 1],0,[]⟩)/\lookP fr' 3=.ptr 0 0 0
 | 0,i,O,e,hO=>by
  obtain rfl:i=c.blocks.length:=by omega
  obtain⟨fr',h,hq⟩:=CD (T:=T) (c:=c) (K:=⟨[.row 1 [.msl 3 0 c.regs.length 1] 1,.row 1 [.fn (.func 27) [] [.ptr 0 0 0]] 1,.row 0 (tab B) 1,.row 0 (tab O) 1],0,[]⟩);exact⟨fr',B3 h,hq⟩
 | k+1,i,O,e,hO=>by
  have hi:i<c.blocks.length:=by omega
  have hb:=hc.wk _ (zqb hi);have h:=XI (T:=T) (c:=c) (B:=B) (at_:=i) (n:=c.regs.length) hWk hNB hCl hN hW hR hP hi hb hc.bl hs hO hB;have h2:=Za hb (hB.get hi) hO;obtain⟨fr',h',hq⟩:=uT hWk hNB hCl hN hW hR hP hc hs hB k (i+1) (rN c.blocks[i] (B.getD i []) O).2 (by omega) h2;refine⟨fr',(loop_more h).trans ?_,hq⟩;rw[ckGo,zqc hi];exact h'
theorem uU(hWk:T 23=none)(hNB:T 41=none)(hCl:T 40=some D5)(hN:T 29=none)(hW:T 30=some B9)(hR:T 42=some D3)(hz:c.regs.length=0)(hc:LOk c)(hs:c.regs.length<=bigN)(hB:A5 c.blocks.length c.regs.length B):∀(k i:Nat),c.blocks.length=i+k ->
 ∃fr',evP ⟨A0,T,A2⟩ (.code (.loop bK) [(3,.ptr 0 0 0),(4,.ptr 1 0 0),(6,.msl 2 0 c.blocks.length 1),(57,fslN (c.blocks.map Blk.F)),(58,.int .i64 (c.blocks.length:Int)),(59,.int .i64 (i:Int))] ⟨[.row 1 [.nilsl] 1,.row 1 [.fn (.func 27) [] [.ptr 0 0 0]] 1,.row 0 (tab B) 1],0,[]⟩)=some (.ok (.exit 6) fr' ⟨[.row 1 [.nilsl] 1,.row 1 [.fn (.func 27) [] [.ptr 0 0 0]] 1,.row 0 (tab B) 1],0,[]⟩)/\lookP fr' 3=.ptr 0 0 0
 | 0,i,e=>by
  obtain rfl:i=c.blocks.length:=by omega
  obtain⟨fr',h,hq⟩:=CD (T:=T) (c:=c) (K:=⟨[.row 1 [.nilsl] 1,.row 1 [.fn (.func 27) [] [.ptr 0 0 0]] 1,.row 0 (tab B) 1],0,[]⟩);exact⟨fr',B3 h,hq⟩
 | k+1,i,e=>by
  have hi:i<c.blocks.length:=by omega
  have hb:=hc.wk _ (zqb hi);have h:=XK (T:=T) (c:=c) (B:=B) (O:=noneT c.regs.length c.regs.length) (at_:=i) (n:=c.regs.length) hWk hNB hCl hN hW hR hz hi hb hc.bl hs (H1 _ _) hB;obtain⟨fr',h',hq⟩:=uU hWk hNB hCl hN hW hR hz hc hs hB k (i+1) (by omega);exact⟨fr',(loop_more h).trans h',hq⟩
end
theorem uV{c:AV}:AV.withCells .nilfn 0 [c]=c:=rfl
theorem Dk{c:Cod}(hc:LOk c):A5 c.regs.length c.regs.length (clashD c):=by
 have key:∀(k i:Nat)(O:List (List Bool)),c.blocks.length=i+k->A5 c.regs.length c.regs.length O->A5 c.regs.length c.regs.length (ckGo c.blocks (liveD c).2.1 k i O):=fun k=>by
  induction k with
  |zero=>intro i O _ h;exact h
  | succ k ih =>
   intro i O e h;have hi:i<c.blocks.length:=by omega
   rw[ckGo,zqc hi];exact ih (i+1) _ (by omega) (Za (hc.wk _ (zqb hi)) ((U1 c).2.get hi) h)
 exact key _ 0 _ (by omega) (Dj _ 0 (by omega) (H1 _ _))
theorem Nz(hlive_Live:T 7=some N2)(nlive_walk:T 23=none)(nBackI:T 41=none)(hCloneBools:T 40=some D5)(nlive_Clash_1:T 27=none)(nlive_Clash_2:T 28=none)(nlive_Clash_3:T 29=none)(hir_Writes:T 30=some B9)(hir_Reads:T 42=some D3){c:Cod}(hk:LOk c/\c.regs.length*24<=bigN):AM.Comes ⟨A0,T,A2⟩ 9 [c.F] [ownd 0 1 (tab (clashD c))]:=by
 obtain⟨hc,hr⟩:=hk;have hs:c.regs.length<=bigN:=by simp only[bigN]at hr|-;omega
 obtain⟨sA,sB⟩:=U1 c;have tl:=fun K=>kV (K:=K) hlive_Live hc
 obtain⟨fr1,h1,k1,k2⟩:=BY (T:=T) (c:=c) hr c.regs.length 0 (by omega);have hcs:=Dk hc;unfold clashD at hcs|-;generalize (liveD c).1=A at sA tl hcs|-;generalize (liveD c).2.1=B at sB tl hcs|-;by_cases hz:c.regs.length=0
 . obtain⟨fr3,h3,k3⟩:=uU (T:=T) (c:=c) (B:=B) nlive_walk nBackI hCloneBools nlive_Clash_3 hir_Writes hir_Reads hz hc hs sB c.blocks.length 0 (by omega)
   have e0:ckGo c.blocks B c.blocks.length 0 (cabA c A c.regs.length 0 (noneT c.regs.length c.regs.length))=[]:=zki (by rw[hcs.1,hz]);rw[e0];obtain⟨fr2,h2,k4,k5,k6,k7⟩:=CB (T:=T) (c:=c) (K:=⟨[.row 1 [c.F] 5,.row 1 [.nilsl] 1,.row 1 [.fn (.func 27) [] [.ptr 1 0 0]] 1,.row 0 (tab B) 1,.row 1 [.msl 5 0 c.blocks.length 1] 1,.row 0 (tab A) 1],0,[]⟩);have h2:=B3 h2;rw[hz]at h1 h2;have nz:((0:Nat):Int)=0:=rfl;refine⟨[.nilsl],⟨[],0,[]⟩,?_,D6 (.inl ⟨rfl,rfl,rfl⟩)⟩;rw[A6 (c:=p9) (nt:=73) (rs:=[.tmp 2]) rfl (by simp)];unfold p9;unfold K0;unfold ER at h1;rw[nz]at h1 h2 h3;simp only[Cod.F]at tl h1 h2 h3|-;simp -implicitDefEqProofs only[uV,sA.1,sB.1,hz,nz,h1,k1,k2,tl,h2,k4,k5,k6,k7,h3,k3,R6,R7,R8,R9,S0,S1,S2,H2,H3,H4,H5,H6,H7,zqa,XP,seval]
 . obtain ⟨m,hm⟩:∃m,c.regs.length=m+1:=⟨c.regs.length-1,by omega⟩
   obtain ⟨fr2,h2,k4,k5,k6,k7⟩:=CC (T:=T) (c:=c) (A:=A) (B:=B) nlive_Clash_1 nlive_Clash_2 hr hc.b0 sA c.regs.length 0 (noneT c.regs.length c.regs.length) (by omega) (H1 _ _);have s2:=Dj (c:=c) (A:=A) c.regs.length 0 (by omega) (H1 c.regs.length c.regs.length);obtain⟨fr3,h3,k3⟩:=uT (T:=T) (c:=c) (B:=B) nlive_walk nBackI hCloneBools nlive_Clash_3 hir_Writes hir_Reads nlive_Clash_1 hc hs sB c.blocks.length 0 (cabA c A c.regs.length 0 (noneT c.regs.length c.regs.length)) (by omega) s2;have h1:evP ⟨A0,T,A2⟩ (.code (.loop bJ) [(1,.ptr 0 0 0),(3,.ptr 1 0 0),(14,.int .i64 (c.regs.length:Int)),(15,.int .i64 ((0:Nat):Int))] (ER c 0))=some (.ok (.exit 0) fr1 ⟨[.row 1 [c.F] 5,.row 1 [.msl 2 0 c.regs.length 1] 1,.row 0 (tab (noneT c.regs.length c.regs.length)) 1],0,[]⟩):=by
    rw[h1];unfold ER;rw[hm]
   have nz:((0:Nat):Int)=0:=rfl;generalize ckGo c.blocks B c.blocks.length 0 (cabA c A c.regs.length 0 (noneT c.regs.length c.regs.length))=O at h3 hcs|-;refine⟨[.msl 0 0 c.regs.length 1],⟨[.row 0 (tab O) 1],0,[]⟩,?_,D6 (.inr ⟨by rw[zqa,hcs.1],rfl⟩)⟩;rw[A6 (c:=p9) (nt:=73) (rs:=[.tmp 2]) rfl (by simp)];unfold p9;unfold K0;unfold ER at h1;rw[nz]at h1 h2 h3;simp only[Cod.F]at tl h1 h2 h3|-;simp -implicitDefEqProofs only[uV,h1,k1,k2,tl,h2,k4,k5,k6,k7,h3,k3,sA.1,sB.1,R6,R7,R8,R9,S0,S1,S2,H2,H3,H4,H5,H6,H7,zqa,XP,seval]
def U2:=g0 (fun p:(Cod)=>[p.F]) (fun p=>[ownd 0 1 (tab (clashD p))]) (fun p=>LOk p/\p.regs.length*24<=bigN)
theorem Je(hlive_Clash:T 9=some U2){c:Cod}{K:PK}{args:List AV}(hv:viewAs K.os args=some [c.F])(hk:LOk c/\c.regs.length*24<=bigN):evP ⟨A0,T,A2⟩ (.call 9 args K)=some (.val (openTs K.os.length [ownd 0 1 (tab (clashD c))]).1 ⟨K.os++(openTs K.os.length [ownd 0 1 (tab (clashD c))]).2,K.ext,K.tch⟩):=B8 hlive_Clash hv (C2 (a:=fun p:(Cod)=>[p.F]) (r:=fun p=>[ownd 0 1 (tab (clashD p))]) (fun x y e=>by simp only[VJ]at e;simp only[e]) (c) hk) (by generalize (refsL args).isEmpty=z;simp -implicitDefEqProofs only[VN,Cg,XP,seval])
theorem Xn(hlive_Live:T 7=some N2)(nlive_walk:T 23=none)(nBackI:T 41=none)(hCloneBools:T 40=some D5)(nlive_Clash_1:T 27=none)(nlive_Clash_2:T 28=none)(nlive_Clash_3:T 29=none)(hir_Writes:T 30=some B9)(hir_Reads:T 42=some D3)(hP:PEok ⟨A0,T,A2⟩):TC A0 9 U2:=C8 hP fun p h=>Nz hlive_Live nlive_walk nBackI hCloneBools nlive_Clash_1 nlive_Clash_2 nlive_Clash_3 hir_Writes hir_Reads h
def at2(O:List (List Bool))(i j:Nat):Bool:=(O.getD i []).getD j false
theorem Z5{l:List Bool}{i j:Nat}{v:Bool}(h:i<l.length):(l.set i v).getD j false=if i=j then v else l.getD j false:=by
 rw[zqe,zkj];by_cases e:i=j
 . rw[if_pos e,if_pos e,if_pos h];rfl
 . rw[if_neg e,if_neg e,zqe]
theorem Hg{O:List (List Bool)}{i j:Nat}{r:List Bool}(h:i<O.length):(O.set i r).getD j []=if i=j then r else O.getD j []:=by
 rw[zqe,zkj];by_cases e:i=j
 . rw[if_pos e,if_pos e,if_pos h];rfl
 . rw[if_neg e,if_neg e,zqe]
theorem uW{n:Nat}{O:List (List Bool)}(h:A5 n n O){a b:Nat}(ha:a<n)(hb:b<n)(i j:Nat):at2 (pairD a b O) i j=(at2 O i j||(decide (a≠b)&&(decide (i=a/\j=b)||decide (i=b/\j=a)))):=by
 unfold pairD;by_cases hab:a=b
 . rw[if_pos hab];simp[hab]
 . rw [if_neg hab]
   have h1:A5 n n (O.set a ((O.getD a []).set b true)):=h.set (by rw[zqf];exact h.get ha);have ga:(O.getD a []).length=n:=h.get ha;have e1:(O.set a ((O.getD a []).set b true)).getD b []=O.getD b []:=by rw[Hg (by rw[h.1];exact ha),if_neg hab]
   unfold at2;rw[e1,Hg (by rw[h1.1];exact hb)];have gb:(O.getD b []).length=n:=h.get hb;by_cases q1:b=i
   . subst q1
     rw[if_pos rfl,Z5 (by rw[gb];exact ha)];by_cases q2:a=j
     . subst q2;simp[hab]
     . rw[if_neg q2]
       have:¬(b=a):=fun h=>hab h.symm
       simp[this,q2,hab];intro hh;exact absurd hh.symm q2
   . rw [if_neg q1,Hg (by rw[h.1];exact ha)]
     by_cases q2:a=i
     . subst q2
       rw[if_pos rfl,Z5 (by rw[ga];exact hb)];by_cases q3:b=j
       . subst q3;simp[hab]
       . rw[if_neg q3]
         have:¬(j=b):=fun h=>q3 h.symm
         simp[this,hab]
     . rw[if_neg q2]
       have q1':¬(i=b):=fun h=>q1 h.symm
       have q2':¬(i=a):=fun h=>q2 h.symm
       simp[q1',q2']
theorem Vi{l:List Int}(h:L9 l=0):∀e∈l,e=0:=by
 induction l with
 |nil=>intro e he;cases he
 | cons a l ih =>
  unfold L9 at h;intro e he;by_cases q:a=0
  . rw[if_pos q]at h
    rcases zqg.1 he with rfl|he
    . exact q
    . exact ih h e he
  . rw[if_neg q]at h;exact absurd h q
theorem lz_there{a n:Int}:thereD a n=true↔0<=a/\a<n:=by unfold thereD;simp
theorem uX{m:Modl}(h:Aa m=0):∀c∈m.fs,o5 m c=0:=by
 unfold Aa at h;by_cases q:L9 (m.gs.map bV)=0
 . rw[if_pos q]at h
   by_cases q2:L9 (m.fs.map (o5 m))=0
   . exact fun c hc=>Vi q2 _ (zqz hc)
   . rw[if_neg q2]at h;exact absurd h q2
 . rw[if_neg q]at h;exact absurd h q
theorem mX{m:Modl}{c:Cod}(h:o5 m c=0):(1<=c.blocks.length/\c.blocks.length<=400/\c.regs.length<=4096)/\∀b∈c.blocks,Xl m c b=0:=by
 unfold o5 at h;split at h
 . cases h
 . rename_i h1
   split at h
   . cases h
   . split at h
     . cases h
     . exact⟨by omega,fun b hb=>Vi h _ (zqz hb)⟩
theorem uY{m:Modl}{c:Cod}{b:Blk}(h:Xl m c b=0):(∀x∈b.code,Q4 m c x=0)/\Uu c b.e=0:=by
 unfold Xl at h;split at h
 . rename_i q;exact⟨fun x hx=>Vi q _ (zqz hx),h⟩
 . rename_i q;exact absurd h q
theorem uZ{m:Modl}{c:Cod}{x:Ins}(h:Q4 m c x=0):writesD x<c.regs.length/\∀r∈readsD x,0<=r/\r<(c.regs.length:Int):=by
 unfold Q4 at h;split at h
 . split at h
   . rename_i _ hp
     unfold G0 at hp;obtain⟨h1,h2⟩:=zkw.1 hp;obtain⟨h2,_⟩:=zkw.1 h2;refine⟨?_,fun r hr=>lz_there.1 (List.all_eq_true.1 h1 r hr)⟩;unfold jD at h2;by_cases q:0<=writesD x
     . have q1:¬writesD x=-1:=by omega
       by_cases q2:thereD (writesD x) c.regs.length=true
       . exact(lz_there.1 q2).2
       . rw[decide_eq_true q,decide_eq_false q1,Bool.eq_false_iff.2 q2]at h2
         simp at h2
     . omega
   . cases h
 . cases h
theorem vA{c:Cod}{e:Endd}(h:Uu c e=0):(∀t∈tosD e,0<=t/\t<(c.blocks.length:Int))/\(e.kind≠1->e.a<c.regs.length):=by
 unfold Uu at h;unfold tosD;by_cases k1:e.kind=1
 . rw[if_pos k1]at h|-
   split at h
   . rename_i q;exact⟨fun t ht=>by rw[zqs.1 ht];exact lz_there.1 q,fun hk=>absurd k1 hk⟩
   . cases h
 . rw [if_neg k1]at h|-
   by_cases k2:e.kind=2
   . rw [if_pos k2]at h|-
     split at h
     . rename_i q1
       split at h
       . rename_i q2
         split at h
         . rename_i q3
           refine⟨fun t ht=>?_,fun _=>(lz_there.1 q3).2⟩;rcases zqg.1 ht with rfl|ht
           . exact lz_there.1 q1
           . rw[zqs.1 ht];exact lz_there.1 q2
         . cases h
       . cases h
     . cases h
   . rw [if_neg k2]at h|-
     refine⟨fun t ht=>(by cases ht),fun _=>?_⟩;split at h
     . split at h
       . omega
       . split at h
         . rename_i q;exact(lz_there.1 q).2
         . cases h
     . cases h
theorem cG{a:Int}{n:Nat}(h0:0<=a)(h:a+n<9223372036854775808):R1 a n=a+n:=by
 unfold R1;rw[IntKind.wrap_i64];omega
def Eb(l:List Blk):Nat:=(l.map fun b=>b.code.length).sum
theorem mY{M:Nat}:∀l:List Blk,(∀b∈l,b.code.length<=M)->Eb l<=l.length*M
 |[],_=>by simp[Eb]
 | b::l,h=>by
  have h1:=h b (zqo ..);have h2:=mY l fun b hb=>h b (zqn _ hb)
  show b.code.length+Eb l<=(l.length+1)*M
  rw[Nat.add_mul];omega
theorem fZ:∀{l:List Blk}{b:Blk},b∈l->b.code.length<=Eb l
 | a::l,b,h=>by
  show b.code.length<=a.code.length+Eb l
  rcases zqg.1 h with rfl|h
  . omega
  . have:=fZ h;omega
theorem CE:∀(l:List Blk)(a:Int),0<=a->a+Eb l<9223372036854775808->l.foldl (fun a b=>R1 a b.code.length) a=a+Eb l
 |[],a,_,_=>by simp[Eb]
 | b::l,a,h0,h=>by
  have h:a+((b.code.length+Eb l:Nat):Int)<9223372036854775808:=h;show l.foldl (fun a b=>R1 a b.code.length) (R1 a b.code.length)=a+((b.code.length+Eb l:Nat):Int)
  rw[cG h0 (by omega),CE l _ (by omega) (by omega)];omega
def Me(c:Cod):Nat:=c.regs.length+c.blocks.length+Eb c.blocks
theorem KG{a:Int}{c:Cod}(h0:0<=a)(h:a+Me c<9223372036854775808):uM a c=a+Me c:=by
 unfold Me at h|-;unfold uM;rw[cG h0 (by omega),cG (by omega) (by omega),CE _ _ (by omega) (by omega)];omega
def Xo(l:List Cod):Nat:=(l.map Me).sum
theorem CF:∀(l:List Cod)(a:Int),0<=a->a+Xo l<9223372036854775808->l.foldl uM a=a+Xo l
 |[],a,_,_=>by simp[Xo]
 | c::l,a,h0,h=>by
  have h:a+((Me c+Xo l:Nat):Int)<9223372036854775808:=h;show l.foldl uM (uM a c)=a+((Me c+Xo l:Nat):Int)
  rw[KG h0 (by omega),CF l _ (by omega) (by omega)];omega
theorem mZ{M:Nat}:∀l:List Cod,(∀c∈l,Me c<=M)->Xo l<=l.length*M
 |[],_=>by simp[Xo]
 | b::l,h=>by
  have h1:=h b (zqo ..);have h2:=mZ l fun b hb=>h b (zqn _ hb)
  show Me b+Xo l<=(l.length+1)*M
  rw[Nat.add_mul];omega
theorem gC:∀{l:List Cod}{b:Cod},b∈l->Me b<=Xo l
 | a::l,b,h=>by
  show Me b<=Me a+Xo l
  rcases zqg.1 h with rfl|h
  . omega
  . have:=gC h;omega
theorem gD{m:Modl}(h:Ab m=false):¬1000<m.fs.foldl uM 0/\m.fs.length<=12/\Aa m=0:=by
 unfold Ab at h;split at h
 . cases h
 . rename_i h1
   split at h
   . cases h
   . rename_i h2
     split at h
     . cases h
     . exact⟨h1,by omega,by simpa using h⟩
theorem qN{m:Modl}(hm:m.ok)(h:Ab m=false):∀c∈m.fs,LOk c/\c.regs.length*24<=bigN:=by
 obtain ⟨h1,h2,h3⟩:=gD h;have hcs:=uX h3;have hco:∀c∈m.fs,Me c<=640000000000000:=fun c hc=>by
  obtain⟨⟨q1,q2,q3⟩,q4⟩:=mX (hcs c hc);have hs:=(hm.1 c hc).1
  have:Eb c.blocks<=c.blocks.length*1599289640416:=mY c.blocks fun b hb=>by
   have:=(hs.2.1 b hb).2
   simp only[bigN]at this;omega
  unfold Me;have h5:c.blocks.length*1599289640416<=400*1599289640416:=zku _ q2;omega
 have hmo:=mZ m.fs hco;have hmo2:m.fs.length*640000000000000<=12*640000000000000:=zku _ h2;rw[CF m.fs 0 (by omega) (by omega)]at h1;intro c hc;obtain⟨⟨q1,q2,q3⟩,q4⟩:=mX (hcs c hc);have hcm:=gC hc;have hs:=(hm.1 c hc).1;have hsb:=(hm.1 c hc).2;refine⟨⟨by simp only[bigN];omega,by omega,by simp only[bigN];omega,by omega,fun b hb=>?_,fun b hb=>(vA (uY (q4 b hb)).2).1⟩,by simp only[bigN];omega⟩;have hbl:=fZ hb;obtain⟨k1,k2⟩:=uY (q4 b hb);have hbs:=hs.2.1 b hb;exact⟨hbs.2,by unfold Me at hcm;omega,hbs.1,fun x hx=>(uZ (k1 x hx)).1,fun x hx=>(uZ (k1 x hx)).2,(vA k2).2⟩
theorem O0(x:Ins):writesD x=if(1<=x.op/\x.op<=5)\/x.op=7\/x.op=10\/(x.op=9/\0<=x.dst)then x.dst else -1:=by
 unfold writesD
 repeat' split
 all_goals omega
theorem Ar  {x:Ins}:AM.Comes ⟨A0,T,A2⟩ 45 [x.F] [.int .i64 (writesD x)]:=by
 refine⟨[.int .i64 (writesD x)],⟨[],0,[]⟩,?_,C1 rfl zqm rfl rfl rfl⟩;rw[A6 (c:=NX) (nt:=35) (rs:=[.tmp 2]) rfl (by simp)];unfold NX;unfold K0;unfold Ins.F;by_cases a1:x.op>=1
 . by_cases a2:x.op<=5
   . rw[O0,if_pos (.inl ⟨a1,a2⟩)]
     simp -implicitDefEqProofs only[eq_true a1,eq_true a2,XP,seval]
   . have hb:=a2
     by_cases a3:x.op=7
     . rw[O0,if_pos (.inr (.inl a3))]
       simp -implicitDefEqProofs only[eq_true a1,eq_false a2,eq_true a3,XP,seval]
     by_cases a4:x.op=10
     . rw[O0,if_pos (.inr (.inr (.inl a4)))]
       simp -implicitDefEqProofs only[eq_true a1,eq_false a2,eq_false a3,eq_true a4,XP,seval]
     by_cases a5:x.op=9
     . by_cases a6:x.dst>=0
       . rw[O0,if_pos (.inr (.inr (.inr ⟨a5,a6⟩)))]
         simp -implicitDefEqProofs only[eq_true a1,eq_false a2,eq_false a3,eq_false a4,eq_true a5,eq_true a6,XP,seval]
       . rw[O0,if_neg (by omega)]
         simp -implicitDefEqProofs only[eq_true a1,eq_false a2,eq_false a3,eq_false a4,eq_true a5,eq_false a6,XP,seval]
     . rw[O0,if_neg (by omega)]
       simp -implicitDefEqProofs only[eq_true a1,eq_false a2,eq_false a3,eq_false a4,eq_false a5,XP,seval]
 . have hb:=a1
   by_cases a3:x.op=7
   . rw[O0,if_pos (.inr (.inl a3))]
     simp -implicitDefEqProofs only[eq_false a1,eq_true a3,XP,seval]
   by_cases a4:x.op=10
   . rw[O0,if_pos (.inr (.inr (.inl a4)))]
     simp -implicitDefEqProofs only[eq_false a1,eq_false a3,eq_true a4,XP,seval]
   by_cases a5:x.op=9
   . by_cases a6:x.dst>=0
     . rw[O0,if_pos (.inr (.inr (.inr ⟨a5,a6⟩)))]
       simp -implicitDefEqProofs only[eq_false a1,eq_false a3,eq_false a4,eq_true a5,eq_true a6,XP,seval]
     . rw[O0,if_neg (by omega)]
       simp -implicitDefEqProofs only[eq_false a1,eq_false a3,eq_false a4,eq_true a5,eq_false a6,XP,seval]
   . rw[O0,if_neg (by omega)]
     simp -implicitDefEqProofs only[eq_false a1,eq_false a3,eq_false a4,eq_false a5,XP,seval]
def B4:=g0 (fun p:(Ins)=>[p.F]) (fun p=>[.int .i64 (writesD p)]) (fun p=>True)
theorem M9(hmortiseref06_Writes:T 45=some B4){x:Ins}{K:PK}:evP ⟨A0,T,A2⟩ (.call 45 [x.F] K)=some (.val (openTs K.os.length [.int .i64 (writesD x)]).1 ⟨K.os++(openTs K.os.length [.int .i64 (writesD x)]).2,K.ext,K.tch⟩):=B8 hmortiseref06_Writes (by simp -implicitDefEqProofs only[VV,XP,seval]) (C2 (a:=fun p:(Ins)=>[p.F]) (r:=fun p=>[.int .i64 (writesD p)]) (fun x y e=>by simp only[VJ]at e;simp only[e]) (x) trivial) (by simp -implicitDefEqProofs only[VN,XP,seval])
theorem Dm  (hP:PEok ⟨A0,T,A2⟩):TC A0 45 B4:=C8 hP fun p h=>Ar
theorem Bp(hCopyInts:T 18=some G2){x:Ins}(hk:x.ok):AM.Comes ⟨A0,T,A2⟩ 64 [x.F] [ownd 0 1 (ints (readsD x))]:=by
 have tc:=fun K=>Yx (K:=K) hCopyInts hk
 have one:∀L:List Int,readsD x=L->(∃y os,evP ⟨A0,T,A2⟩ (.body 64 [x.F] K0)=some (.val [y] ⟨os,0,[]⟩)/\iY y os 1 (ints L))->AM.Comes ⟨A0,T,A2⟩ 64 [x.F] [ownd 0 1 (ints (readsD x))]:=fun L e ⟨y,os,h1,h2⟩=>by
  rw[e];exact⟨[y],⟨os,0,[]⟩,h1,D6 h2⟩
 by_cases e2:x.op=2
 . refine one [x.a] (by simp[readsD,e2]) ⟨.msl 0 0 1 1,[.row 0 [.int .i64 x.a] 1],?_,.inr ⟨rfl,rfl⟩⟩
   rw[A6 (c:=Yt) (nt:=27) (rs:=[.tmp 2]) rfl (by simp)];unfold Yt;unfold K0 Ins.F;simp -implicitDefEqProofs only[eq_true e2,XP,seval]
 by_cases e4:x.op=4
 . refine one [x.a] (by simp[readsD,e4]) ⟨.msl 0 0 1 1,[.row 0 [.int .i64 x.a] 1],?_,.inr ⟨rfl,rfl⟩⟩
   rw[A6 (c:=Yt) (nt:=27) (rs:=[.tmp 2]) rfl (by simp)];unfold Yt;unfold K0 Ins.F;simp -implicitDefEqProofs only[e2,eq_true e4,XP,seval]
 by_cases e5:x.op=5
 . refine one [x.a] (by simp[readsD,e5]) ⟨.msl 0 0 1 1,[.row 0 [.int .i64 x.a] 1],?_,.inr ⟨rfl,rfl⟩⟩
   rw[A6 (c:=Yt) (nt:=27) (rs:=[.tmp 2]) rfl (by simp)];unfold Yt;unfold K0 Ins.F;simp -implicitDefEqProofs only[e2,e4,eq_true e5,XP,seval]
 by_cases e8:x.op=8
 . refine one [x.a] (by simp[readsD,e8]) ⟨.msl 0 0 1 1,[.row 0 [.int .i64 x.a] 1],?_,.inr ⟨rfl,rfl⟩⟩
   rw[A6 (c:=Yt) (nt:=27) (rs:=[.tmp 2]) rfl (by simp)];unfold Yt;unfold K0 Ins.F;simp -implicitDefEqProofs only[e2,e4,e5,eq_true e8,XP,seval]
 by_cases e11:x.op=11
 . refine one [x.a] (by simp[readsD,e11]) ⟨.msl 0 0 1 1,[.row 0 [.int .i64 x.a] 1],?_,.inr ⟨rfl,rfl⟩⟩
   rw[A6 (c:=Yt) (nt:=27) (rs:=[.tmp 2]) rfl (by simp)];unfold Yt;unfold K0 Ins.F;simp -implicitDefEqProofs only[e2,e4,e5,e8,eq_true e11,XP,seval]
 by_cases e3:x.op=3
 . refine one [x.a,x.b] (by simp[readsD,e3]) ⟨.msl 0 0 2 1,[.row 0 [.int .i64 x.a,.int .i64 x.b] 1],?_,.inr ⟨rfl,rfl⟩⟩
   rw[A6 (c:=Yt) (nt:=27) (rs:=[.tmp 2]) rfl (by simp)];unfold Yt;unfold K0 Ins.F;simp -implicitDefEqProofs only[e2,e4,e5,e8,e11,eq_true e3,XP,seval]
 by_cases e6:x.op=6
 . refine one [x.a,x.b] (by simp[readsD,e6]) ⟨.msl 0 0 2 1,[.row 0 [.int .i64 x.a,.int .i64 x.b] 1],?_,.inr ⟨rfl,rfl⟩⟩
   rw[A6 (c:=Yt) (nt:=27) (rs:=[.tmp 2]) rfl (by simp)];unfold Yt;unfold K0 Ins.F;simp -implicitDefEqProofs only[e2,e4,e5,e8,e11,e3,eq_true e6,XP,seval]
 by_cases e9:x.op=9
 . refine one x.args (by simp[readsD,e9]) ⟨.msl 0 0 (ints x.args).length 1,[.row 0 (ints x.args) 1],?_,.inr ⟨rfl,rfl⟩⟩
   rw[A6 (c:=Yt) (nt:=27) (rs:=[.tmp 2]) rfl (by simp)];unfold Yt;unfold K0 Ins.F;simp -implicitDefEqProofs only[e2,e4,e5,e8,e11,e3,e6,eq_true e9,tc,XP,seval]
 . refine one [] (by simp[*,readsD]) ⟨.nilsl,[],?_,.inl ⟨rfl,rfl,rfl⟩⟩
   rw[A6 (c:=Yt) (nt:=27) (rs:=[.tmp 2]) rfl (by simp)];unfold Yt;unfold K0 Ins.F;simp -implicitDefEqProofs only[e2,e4,e5,e8,e11,e3,e6,e9,XP,seval]
def E0:=g0 (fun p:(Ins)=>[p.F]) (fun p=>[ownd 0 1 (ints (readsD p))]) (fun p=>p.ok)
theorem V8(hmortiseref06_Reads:T 64=some E0){x:Ins}{K:PK}(hk:x.ok):evP ⟨A0,T,A2⟩ (.call 64 [x.F] K)=some (.val (openTs K.os.length [ownd 0 1 (ints (readsD x))]).1 ⟨K.os++(openTs K.os.length [ownd 0 1 (ints (readsD x))]).2,K.ext,K.tch⟩):=B8 hmortiseref06_Reads (by simp -implicitDefEqProofs only[VV,XP,seval]) (C2 (a:=fun p:(Ins)=>[p.F]) (r:=fun p=>[ownd 0 1 (ints (readsD p))]) (fun x y e=>by simp only[VJ]at e;simp only[e]) (x) hk) (by simp -implicitDefEqProofs only[VN,XP,seval])
theorem Ef(hCopyInts:T 18=some G2)(hP:PEok ⟨A0,T,A2⟩):TC A0 64 E0:=C8 hP fun p h=>Bp hCopyInts h
section
variable {l:List Int}{n:Int}{i:Nat}{K:PK}
theorem KH(h:i<l.length)(hs:l.length<=bigN)(he:¬l[i]=n):evP ⟨A0,T,A2⟩ (.code Qf [(0,fslN (ints l)),(1,.int .i64 n),(5,.int .i64 (i:Int))] ⟨[],0,[]⟩)=some (.ok .normal [(0,fslN (ints l)),(1,.int .i64 n),(5,.int .i64 ((i+1:Nat):Int))] ⟨[],0,[]⟩):=by
 unfold Qf;have hlt:decide ((i:Int)<((ints l).length:Int))=true:=by simp[ints,h]
 have hi:(ints l)[i]?=some (.int .i64 l[i]):=by simp[ints,h]
 have hw:=A8 (i:=i) (by simp only[bigN]at hs;omega);simp -implicitDefEqProofs only[hlt,hi,hw,he,XP,seval]
theorem KI(h:i<l.length)(he:l[i]=n):∃fr',evP ⟨A0,T,A2⟩ (.code Qf [(0,fslN (ints l)),(1,.int .i64 n),(5,.int .i64 (i:Int))] ⟨[],0,[]⟩)=some (.ok .ret fr' ⟨[],0,[]⟩)/\lookP fr' 4=.bool true:=by
 unfold Qf;have hlt:decide ((i:Int)<((ints l).length:Int))=true:=by simp[ints,h]
 have hi:(ints l)[i]?=some (.int .i64 l[i]):=by simp[ints,h]
 simp -implicitDefEqProofs only[hlt,hi,eq_true he,XP,seval];exact⟨_,rfl,rfl⟩
theorem KJ:∃fr',evP ⟨A0,T,A2⟩ (.code Qf [(0,fslN (ints l)),(1,.int .i64 n),(5,.int .i64 (l.length:Int))] ⟨[],0,[]⟩)=some (.ok (.exit 0) fr' ⟨[],0,[]⟩):=by
 unfold Qf;have hlt:decide ((l.length:Int)<((ints l).length:Int))=false:=by simp[ints]
 simp -implicitDefEqProofs only[hlt,XP,seval];exact⟨_,rfl⟩
theorem CG(hs:l.length<=bigN):∀(k i:Nat),l.length=i+k->∃e fr',evP ⟨A0,T,A2⟩ (.code (.loop Qf) [(0,fslN (ints l)),(1,.int .i64 n),(5,.int .i64 (i:Int))] ⟨[],0,[]⟩)=some (.ok e fr' ⟨[],0,[]⟩)/\((e=.ret/\lookP fr' 4=.bool true/\n∈l.drop i)\/(e=.exit 0/\¬n∈l.drop i))
 | 0,i,h=>by
  obtain rfl:i=l.length:=by omega
  obtain⟨fr',e⟩:=KJ (T:=T) (l:=l) (n:=n);exact⟨_,fr',B3 e,.inr ⟨rfl,by simp⟩⟩
 | k + 1,i,h=>by
  have hi:i<l.length:=by omega
  rw[zqr hi];by_cases he:l[i]=n
  . obtain⟨fr',e,p⟩:=KI (T:=T) hi he
    exact⟨_,fr',L6 e,.inl ⟨rfl,p,by simp[he]⟩⟩
  . obtain ⟨e,fr',h1,h2⟩:=CG hs k (i+1) (by omega)
    refine⟨e,fr',(loop_more (KH hi hs he)).trans h1,?_⟩
    have:n∈l[i]::l.drop (i+1)↔n∈l.drop (i+1):=by
     rw[zqg];exact⟨fun h=>h.resolve_left fun e=>he e.symm,.inr⟩
    rw[this];exact h2
end
theorem Dn  {l:List Int} {n:Int} (hk:l.length<=bigN):AM.Comes ⟨A0,T,A2⟩ 63 [fslN (ints l),.int .i64 n] [.bool (decide (n∈l))]:=by
 refine⟨[.bool (decide (n∈l))],⟨[],0,[]⟩,?_,C1 rfl zqm rfl rfl rfl⟩;rw[A6 (c:=OO) (nt:=18) (rs:=[.tmp 4]) rfl (by simp)];unfold OO;unfold K0;obtain⟨e,fr',h1,h2⟩:=CG (T:=T) (n:=n) hk l.length 0 (by omega);simp only[show((0:Nat):Int)=0 from rfl,zqh]at h1 h2;rcases h2 with⟨rfl,h3,h4⟩|⟨rfl,h4⟩
 . simp -implicitDefEqProofs only[h1,h3,decide_eq_true h4,XP,seval]
 . simp -implicitDefEqProofs only[h1,decide_eq_false h4,XP,seval]
def F0:=g0 (fun p:(List Int)×(Int)=>[fslN (ints p.1),.int .i64 p.2]) (fun p=>[.bool (decide (p.2∈p.1))]) (fun p=>p.1.length<=bigN)
theorem V9(hmortiseref08_has:T 63=some F0){l:List Int}{n:Int}{K:PK}{args:List AV}(hv:viewAs K.os args=some [fslN (ints l),.int .i64 n])(hk:l.length<=bigN):evP ⟨A0,T,A2⟩ (.call 63 args K)=some (.val (openTs K.os.length [.bool (decide (n∈l))]).1 ⟨K.os++(openTs K.os.length [.bool (decide (n∈l))]).2,K.ext,K.tch⟩):=B8 hmortiseref08_has hv (C2 (a:=fun p:(List Int)×(Int)=>[fslN (ints p.1),.int .i64 p.2]) (r:=fun p=>[.bool (decide (p.2∈p.1))]) (fun x y e=>by simp only[VJ]at e;simp only[e]) (l,n) hk) (by generalize (refsL args).isEmpty=z;simp -implicitDefEqProofs only[VN,XP,seval])
theorem Ig  (hP:PEok ⟨A0,T,A2⟩):TC A0 63 F0:=C8 hP fun p h=>Dn  h
theorem Do  {e:Endd}:AM.Comes ⟨A0,T,A2⟩ 44 [e.F] [ownd 0 1 (ints (tosD e))]:=by
 have one:∀L:List Int,tosD e=L->(∃y os,evP ⟨A0,T,A2⟩ (.body 44 [e.F] K0)=some (.val [y] ⟨os,0,[]⟩)/\iY y os 1 (ints L))->AM.Comes ⟨A0,T,A2⟩ 44 [e.F] [ownd 0 1 (ints (tosD e))]:=fun L e' ⟨y,os,h1,h2⟩=>by
  rw[e'];exact⟨[y],⟨os,0,[]⟩,h1,D6 h2⟩
 by_cases e1:e.kind=1
 . refine one [e.to] (by simp[tosD,e1]) ⟨.msl 0 0 1 1,[.row 0 [.int .i64 e.to] 1],?_,.inr ⟨rfl,rfl⟩⟩
   rw[A6 (c:=BB) (nt:=17) (rs:=[.tmp 2]) rfl (by simp)];unfold BB;unfold K0 Endd.F;simp -implicitDefEqProofs only[eq_true e1,XP,seval]
 by_cases e2:e.kind=2
 . refine one [e.to,e.els] (by simp[tosD,e2]) ⟨.msl 0 0 2 1,[.row 0 [.int .i64 e.to,.int .i64 e.els] 1],?_,.inr ⟨rfl,rfl⟩⟩
   rw[A6 (c:=BB) (nt:=17) (rs:=[.tmp 2]) rfl (by simp)];unfold BB;unfold K0 Endd.F;simp -implicitDefEqProofs only[e1,eq_true e2,XP,seval]
 . refine one [] (by simp[tosD,e1,e2]) ⟨.nilsl,[],?_,.inl ⟨rfl,rfl,rfl⟩⟩
   rw[A6 (c:=BB) (nt:=17) (rs:=[.tmp 2]) rfl (by simp)];unfold BB;unfold K0 Endd.F;simp -implicitDefEqProofs only[e1,e2,XP,seval]
def F1:=g0 (fun p:(Endd)=>[p.F]) (fun p=>[ownd 0 1 (ints (tosD p))]) (fun p=>True)
theorem d9(hmortiseref08_Tos:T 44=some F1){e:Endd}{K:PK}:evP ⟨A0,T,A2⟩ (.call 44 [e.F] K)=some (.val (openTs K.os.length [ownd 0 1 (ints (tosD e))]).1 ⟨K.os++(openTs K.os.length [ownd 0 1 (ints (tosD e))]).2,K.ext,K.tch⟩):=B8 hmortiseref08_Tos (by simp -implicitDefEqProofs only[VV,XP,seval]) (C2 (a:=fun p:(Endd)=>[p.F]) (r:=fun p=>[ownd 0 1 (ints (tosD p))]) (fun x y e=>by simp only[VJ]at e;simp only[e]) (e) trivial) (by simp -implicitDefEqProofs only[VN,XP,seval])
theorem Ih  (hP:PEok ⟨A0,T,A2⟩):TC A0 44 F1:=C8 hP fun p h=>Do
def C7(e:Endd)(r:Nat):List Ins->Nat
 |[]=>if e.kind≠1/\e.a=(r:Int)then 1 else 0
 |x::l=>if(r:Int)∈readsD x then 1 else if writesD x=(r:Int)then 2 else C7 e r l
theorem cH{os:List PO}{L:List Int}{p:Nat}{n:Int}(h:rowOf os 6 p=some (0,ints L,1)):viewAs os [.msl p 0 L.length 1,.int .i64 n]=some [fslN (ints L),.int .i64 n]:=by
 have v:viewV os (.msl p 0 L.length 1)=some (fslN (ints L)):=by
  rw[wv_msl,h];show(if 0=0/\1=1/\0+L.length<=(ints L).length then(match frzL (((ints L).drop 0).take L.length)with|some es=>some (fslN es)|none=>none)else none)=_
  rw[if_pos ⟨rfl,rfl,by simp⟩,zqh,zql (by simp),frzL_ints]
 rw[va_cons,va_cons,va_nil];show J7 (viewV os (.msl p 0 L.length 1)) (J7 (some (.int .i64 n)) (some []))=_
 rw[v];rfl
section
variable {b:Blk}{r i:Nat}
theorem XL(hR:T 64=some E0)(hH:T 63=some F0)(hW:T 45=some B4)(h:i<b.code.length)(hb:b.ok)(h1:¬(r:Int)∈readsD b.code[i])(h2:¬writesD b.code[i]=(r:Int))(hl:(readsD b.code[i]).length<=bigN):evP ⟨A0,T,A2⟩ (.code Iy [(2,.int .i64 (r:Int)),(3,.ptr 0 0 0),(7,.int .i64 (i:Int))] ⟨[.row 1 [.agg [fslN (b.code.map Ins.F),.int .i64 b.e.kind,.int .i64 b.e.a,.int .i64 b.e.to,.int .i64 b.e.els]] 5],0,[]⟩)=some (.ok .normal [(2,.int .i64 (r:Int)),(3,.ptr 0 0 0),(7,.int .i64 ((i+1:Nat):Int))] ⟨[.row 1 [.agg [fslN (b.code.map Ins.F),.int .i64 b.e.kind,.int .i64 b.e.a,.int .i64 b.e.to,.int .i64 b.e.els]] 5],0,[]⟩):=by
 have hx:=hb.1 _ (zqb h);have hlt:decide ((i:Int)<(b.code.length:Int))=true:=by simp[h]
 have hi:=B5 (F:=Ins.F) h;have hw:=A8 (i:=i) (by have:=hb.2;simp only[bigN]at this;omega);have tr:=fun K=>V8 (K:=K) hR hx
 have tw:=fun K=>M9 (K:=K) (x:=b.code[i]) hW
 have th:=fun(K:PK)(p:Nat)(q:rowOf K.os 6 p=some (0,ints (readsD b.code[i]),1))=>V9 (K:=K) (l:=readsD b.code[i]) (n:=(r:Int)) hH (cH q) hl
 rw[decide_eq_false h1]at th;unfold Iy;simp only[Ins.F]at hi tr tw;simp -implicitDefEqProofs only[hlt,hi,hw,tr,tw,th,h2,zqa,XP,seval]
theorem XM(hR:T 64=some E0)(hH:T 63=some F0)(h:i<b.code.length)(hb:b.ok)(h1:(r:Int)∈readsD b.code[i])(hl:(readsD b.code[i]).length<=bigN):∃fr',evP ⟨A0,T,A2⟩ (.code Iy [(2,.int .i64 (r:Int)),(3,.ptr 0 0 0),(7,.int .i64 (i:Int))] ⟨[.row 1 [.agg [fslN (b.code.map Ins.F),.int .i64 b.e.kind,.int .i64 b.e.a,.int .i64 b.e.to,.int .i64 b.e.els]] 5],0,[]⟩)=some (.ok .ret fr' ⟨[],0,[]⟩)/\lookP fr' 6=.int .i64 1:=by
 have hx:=hb.1 _ (zqb h);have hlt:decide ((i:Int)<(b.code.length:Int))=true:=by simp[h]
 have hi:=B5 (F:=Ins.F) h;have tr:=fun K=>V8 (K:=K) hR hx
 have th:=fun(K:PK)(p:Nat)(q:rowOf K.os 6 p=some (0,ints (readsD b.code[i]),1))=>V9 (K:=K) (l:=readsD b.code[i]) (n:=(r:Int)) hH (cH q) hl
 rw[decide_eq_true h1]at th;unfold Iy;simp only[Ins.F]at hi tr;simp -implicitDefEqProofs only[hlt,hi,tr,th,zqa,XP,seval];exact⟨_,rfl,rfl⟩
theorem XN(hR:T 64=some E0)(hH:T 63=some F0)(hW:T 45=some B4)(h:i<b.code.length)(hb:b.ok)(h1:¬(r:Int)∈readsD b.code[i])(h2:writesD b.code[i]=(r:Int))(hl:(readsD b.code[i]).length<=bigN):∃fr',evP ⟨A0,T,A2⟩ (.code Iy [(2,.int .i64 (r:Int)),(3,.ptr 0 0 0),(7,.int .i64 (i:Int))] ⟨[.row 1 [.agg [fslN (b.code.map Ins.F),.int .i64 b.e.kind,.int .i64 b.e.a,.int .i64 b.e.to,.int .i64 b.e.els]] 5],0,[]⟩)=some (.ok .ret fr' ⟨[],0,[]⟩)/\lookP fr' 6=.int .i64 2:=by
 have hx:=hb.1 _ (zqb h);have hlt:decide ((i:Int)<(b.code.length:Int))=true:=by simp[h]
 have hi:=B5 (F:=Ins.F) h;have tr:=fun K=>V8 (K:=K) hR hx
 have tw:=fun K=>M9 (K:=K) (x:=b.code[i]) hW
 have th:=fun(K:PK)(p:Nat)(q:rowOf K.os 6 p=some (0,ints (readsD b.code[i]),1))=>V9 (K:=K) (l:=readsD b.code[i]) (n:=(r:Int)) hH (cH q) hl
 rw[decide_eq_false h1]at th;rw[h2]at tw;unfold Iy;simp only[Ins.F]at hi tr tw;simp -implicitDefEqProofs only[hlt,hi,tr,tw,th,show decide ((r:Int)=(r:Int))=true from decide_eq_true rfl,zqa,XP,seval];exact⟨_,rfl,rfl⟩
theorem XO:∃fr',evP ⟨A0,T,A2⟩ (.code Iy [(2,.int .i64 (r:Int)),(3,.ptr 0 0 0),(7,.int .i64 (b.code.length:Int))] ⟨[.row 1 [.agg [fslN (b.code.map Ins.F),.int .i64 b.e.kind,.int .i64 b.e.a,.int .i64 b.e.to,.int .i64 b.e.els]] 5],0,[]⟩)=some (.ok (.exit 0) fr' ⟨[.row 1 [.agg [fslN (b.code.map Ins.F),.int .i64 b.e.kind,.int .i64 b.e.a,.int .i64 b.e.to,.int .i64 b.e.els]] 5],0,[]⟩)/\lookP fr' 2=.int .i64 (r:Int)/\lookP fr' 3=.ptr 0 0 0:=by
 unfold Iy;have hlt:decide ((b.code.length:Int)<(b.code.length:Int))=false:=by simp
 simp -implicitDefEqProofs only[hlt,zqa,XP,seval];exact⟨_,rfl,rfl,rfl⟩
theorem KK(hR:T 64=some E0)(hH:T 63=some F0)(hW:T 45=some B4)(hb:b.ok)(hl:∀x∈b.code,(readsD x).length<=bigN):∀(k i:Nat),b.code.length=i+k->∃e fr' K',evP ⟨A0,T,A2⟩ (.code (.loop Iy) [(2,.int .i64 (r:Int)),(3,.ptr 0 0 0),(7,.int .i64 (i:Int))] ⟨[.row 1 [.agg [fslN (b.code.map Ins.F),.int .i64 b.e.kind,.int .i64 b.e.a,.int .i64 b.e.to,.int .i64 b.e.els]] 5],0,[]⟩)=some (.ok e fr' K')/\((e=.ret/\K'=⟨[],0,[]⟩/\∃v:Nat,lookP fr' 6=.int .i64 (v:Int)/\C7 b.e r (b.code.drop i)=v)\/(e=.exit 0/\K'=⟨[.row 1 [.agg [fslN (b.code.map Ins.F),.int .i64 b.e.kind,.int .i64 b.e.a,.int .i64 b.e.to,.int .i64 b.e.els]] 5],0,[]⟩/\lookP fr' 2=.int .i64 (r:Int)/\lookP fr' 3=.ptr 0 0 0/\C7 b.e r (b.code.drop i)=C7 b.e r []))
 | 0,i,h=>by
  obtain rfl:i=b.code.length:=by omega
  obtain⟨fr',e,p1,p2⟩:=XO (T:=T) (b:=b) (r:=r);exact⟨_,fr',_,B3 e,.inr ⟨rfl,rfl,p1,p2,by rw[zqt]⟩⟩
 | k + 1,i,h=>by
  have hi:i<b.code.length:=by omega
  have hx:=hl _ (zqb hi);rw[zqr hi];by_cases h1:(r:Int)∈readsD b.code[i]
  . obtain⟨fr',e,p⟩:=XM hR hH hi hb h1 hx
    exact⟨_,fr',_,L6 e,.inl ⟨rfl,rfl,1,p,by rw[C7,if_pos h1]⟩⟩
  . by_cases h2:writesD b.code[i]=(r:Int)
    . obtain⟨fr',e,p⟩:=XN hR hH hW hi hb h1 h2 hx
      exact⟨_,fr',_,L6 e,.inl ⟨rfl,rfl,2,p,by rw[C7,if_neg h1,if_pos h2]⟩⟩
    . obtain⟨e,fr',K',h3,h4⟩:=KK hR hH hW hb hl k (i+1) (by omega)
      refine⟨e,fr',K',(loop_more (XL hR hH hW hi hb h1 h2 hx)).trans h3,?_⟩;rw[show C7 b.e r (b.code[i]::b.code.drop (i+1))=C7 b.e r (b.code.drop (i+1)) by rw[C7,if_neg h1,if_neg h2]];exact h4
end
theorem Bq(hmortiseref06_Reads:T 64=some E0)(hmortiseref08_has:T 63=some F0)(hmortiseref06_Writes:T 45=some B4){b:Blk}{f:Nat}{r:Nat}(hk:b.ok/\(∀x∈b.code,(readsD x).length<=bigN)/\f<=b.code.length):AM.Comes ⟨A0,T,A2⟩ 56 [b.F,.int .i64 (f:Int),.int .i64 (r:Int)] [.int .i64 ((C7 b.e r (b.code.drop f):Nat):Int)]:=by
 refine⟨[.int .i64 ((C7 b.e r (b.code.drop f):Nat):Int)],⟨[],0,[]⟩,?_,C1 rfl zqm rfl rfl rfl⟩;rw[A6 (c:=OG) (nt:=43) (rs:=[.tmp 6]) rfl (by simp)];unfold OG;unfold K0;obtain⟨e,fr',K',h1,h2⟩:=KK (T:=T) (b:=b) (r:=r) hmortiseref06_Reads hmortiseref08_has hmortiseref06_Writes hk.1 hk.2.1 (b.code.length-f) f (by omega);unfold Blk.F;rcases h2 with⟨rfl,rfl,v,h3,h4⟩|⟨rfl,rfl,h3,h4,h5⟩
 . rw[h4]
   simp -implicitDefEqProofs only[h1,h3,XP,seval]
 . rw [h5,C7]
   by_cases e1:b.e.kind=1
   . rw[if_neg (fun q=>q.1 e1)]
     simp -implicitDefEqProofs only[h1,h3,h4,eq_true e1,show((0:Nat):Int)=0 from rfl,XP,seval]
   . by_cases e2:b.e.a=(r:Int)
     . rw[if_pos ⟨e1,e2⟩]
       simp -implicitDefEqProofs only[h1,h3,h4,e1,eq_true e2,show((1:Nat):Int)=1 from rfl,XP,seval]
     . rw[if_neg (fun q=>e2 q.2)]
       simp -implicitDefEqProofs only[h1,h3,h4,e1,e2,show((0:Nat):Int)=0 from rfl,XP,seval]
def E1:=g0 (fun p:(Blk)×(Nat)×(Nat)=>[p.1.F,.int .i64 (p.2.1:Int),.int .i64 (p.2.2:Int)]) (fun p=>[.int .i64 ((C7 p.1.e p.2.2 (p.1.code.drop p.2.1):Nat):Int)]) (fun p=>p.1.ok/\(∀x∈p.1.code,(readsD x).length<=bigN)/\p.2.1<=p.1.code.length)
theorem N5(hmortiseref08_meets:T 56=some E1){b:Blk}{f:Nat}{r:Nat}{K:PK}(hk:b.ok/\(∀x∈b.code,(readsD x).length<=bigN)/\f<=b.code.length):evP ⟨A0,T,A2⟩ (.call 56 [b.F,.int .i64 (f:Int),.int .i64 (r:Int)] K)=some (.val (openTs K.os.length [.int .i64 ((C7 b.e r (b.code.drop f):Nat):Int)]).1 ⟨K.os++(openTs K.os.length [.int .i64 ((C7 b.e r (b.code.drop f):Nat):Int)]).2,K.ext,K.tch⟩):=B8 hmortiseref08_meets (by simp -implicitDefEqProofs only[VV,XP,seval]) (C2 (a:=fun p:(Blk)×(Nat)×(Nat)=>[p.1.F,.int .i64 (p.2.1:Int),.int .i64 (p.2.2:Int)]) (r:=fun p=>[.int .i64 ((C7 p.1.e p.2.2 (p.1.code.drop p.2.1):Nat):Int)]) (fun x y e=>by simp only[VJ]at e;simp only[e]) (b,f,r) hk) (by simp -implicitDefEqProofs only[VN,XP,seval])
theorem Eg(hmortiseref06_Reads:T 64=some E0)(hmortiseref08_has:T 63=some F0)(hmortiseref06_Writes:T 45=some B4)(hP:PEok ⟨A0,T,A2⟩):TC A0 56 E1:=C8 hP fun p h=>Bq hmortiseref06_Reads hmortiseref08_has hmortiseref06_Writes h
theorem vB{os:List PO}{P L:List Int}{t:Int}{p:Nat}(h:rowOf os 6 p=some (0,ints (P++t::L),1)):viewAs os [.msl p (P.length+1) L.length 1]=some [fslN (ints L)]:=by
 have v:viewV os (.msl p (P.length+1) L.length 1)=some (fslN (ints L)):=by
  rw[wv_msl,h];show(if 0=0/\1=1/\(P.length+1)+L.length<=(ints (P++t::L)).length then(match frzL (((ints (P++t::L)).drop (P.length+1)).take L.length)with|some es=>some (fslN es)|none=>none)else none)=_
  have e:((ints (P++t::L)).drop (P.length+1)).take L.length=ints L:=by
   have:(P++t::L).drop (P.length+1)=L:=by rw[List.drop_append,List.drop_eq_nil_of_le (by omega)];simp
   unfold ints;rw[<-List.map_drop,this,zql (by simp)]
  rw[if_pos ⟨rfl,rfl,by simp[ints];omega⟩,e,frzL_ints]
 rw[va_cons,va_nil];show J7 (viewV os (.msl p (P.length+1) L.length 1)) (some [])=_
 rw[v];rfl
theorem gE(hT:T 18=some G2){L:List Int}(h:L.length*8<=bigN){K:PK}{args:List AV}(hv:viewAs K.os args=some [fslN (ints L)]):evP ⟨A0,T,A2⟩ (.call 18 args K)=some (.val (openTs K.os.length [ownd 0 1 (ints L)]).1 ⟨K.os++(openTs K.os.length [ownd 0 1 (ints L)]).2,K.ext,K.tch⟩):=B8 hT hv (u6 h) (by generalize (refsL args).isEmpty=z;simp -implicitDefEqProofs only[noFL_ints,XP,seval])
section
variable {c:Cod}{r t n:Nat}{seen:List Bool}{P L:List Int}
theorem nA{K:PK}{id p N:Nat}:Hn (Vt A0 (.slice 3) (some (.int .i64 1)) none none (.msl id p (N+1) 1)) K=.val (.msl id (p+1) N 1) K:=by
 have e:Vt A0 (.slice 3) (some (.int .i64 1)) none none (.msl id p (N+1) 1)=Ji 1 id p (N+1) 1 (some (.int .i64 1)) none none:=rfl;rw[e,Om (l:=1) (r:=N+1) (m:=N+1) rfl rfl rfl (by omega) (zkq _) (zkq _)];simp;rfl
theorem cI{te:TI}{k:IntKind}{id p m sz:Nat}(h:0<m)(hs:sz=te.size):Qp te (.msl id p m sz) (.int k 0)=some (.ptr id p 0):=ix_msl (i:=0) (off:=p) h hs
def wM(c:Cod)(seen:List Bool)(P L:List Int):PK:=⟨[.row 1 [.agg [.str c.name,.int .i64 c.ty,.int .i64 c.ps,fslN (ints c.regs),fslN (c.blocks.map Blk.F)]] 5,.row 0 (bools seen) 1,.row 0 (ints (P++L)) 1],0,[]⟩
def wF(r:Nat)(n:Nat)(p l:Nat):PF:=[(3,.int .i64 (r:Int)),(4,.ptr 0 0 0),(10,.msl 1 0 n 1),(11,.msl 2 p l 1)]
theorem XR(hn:seen.length=n)(ht:t<n)(hs:seen.getD t false=true):evP ⟨A0,T,A2⟩ (.code Dx (wF r n P.length (L.length+1)) (wM c seen P ((t:Int)::L)))=some (.ok .normal (wF r n (P.length+1) L.length) (wM c seen P ((t:Int)::L))):=by
 have hlt:decide (((L.length+1:Nat):Int)>0)=true:=by simp
 have hi:(ints (P++(t:Int)::L))[P.length]?=some (.int .i64 (t:Int)):=by simp[ints]
 have hb:(bools seen)[t]?=some (.bool true):=by rw[C5 (by omega),hs]
 have hx:Qp Yu (.msl 2 P.length (L.length+1) 1) (.int .i64 0)=some (.ptr 2 P.length 0):=cI (zkt _) rfl;have hsl:=fun K=>nA (K:=K) (id:=2) (p:=P.length) (N:=L.length)
 unfold Dx wF wM;simp -implicitDefEqProofs only[hlt,hi,hb,hx,hsl,ht,XP,seval]
theorem XS(hM:T 56=some E1)(hn:seen.length=n)(ht:t<n)(hc:c.blocks.length=n)(hs:seen.getD t false=false)(hk:(c.blocks[t]).ok/\(∀x∈(c.blocks[t]).code,(readsD x).length<=bigN))(hm:C7 (c.blocks[t]).e r (c.blocks[t]).code=1):∃fr',evP ⟨A0,T,A2⟩ (.code Dx (wF r n P.length (L.length+1)) (wM c seen P ((t:Int)::L)))=some (.ok .ret fr' ⟨[],0,[]⟩)/\lookP fr' 8=.bool true:=by
 have hlt:decide (((L.length+1:Nat):Int)>0)=true:=by simp
 have hi:(ints (P++(t:Int)::L))[P.length]?=some (.int .i64 (t:Int)):=by simp[ints]
 have hb:(bools seen)[t]?=some (.bool false):=by rw[C5 (by omega),hs]
 have hx:Qp Yu (.msl 2 P.length (L.length+1) 1) (.int .i64 0)=some (.ptr 2 P.length 0):=cI (zkt _) rfl;have hsl:=fun K=>nA (K:=K) (id:=2) (p:=P.length) (N:=L.length)
 have hg:=B5 (F:=Blk.F) (l:=c.blocks) (i:=t) (by omega);have hset:(bools seen).set t (.bool true)=bools (seen.set t true):=by unfold bools;rw[zqi]
 have tm:=fun K=>N5 (K:=K) (b:=c.blocks[t]) (f:=0) (r:=r) hM ⟨hk.1,hk.2,zks _⟩
 rw[zqh]at tm;rw[hm]at tm;simp only[Blk.F,show((0:Nat):Int)=0 from rfl]at hg tm;unfold Dx wF wM;simp -implicitDefEqProofs only[hlt,hi,hb,hx,hsl,ht,hg,tm,hn,show((1:Nat):Int)=1 from rfl,XP,seval];exact⟨_,rfl,rfl⟩
theorem XT(hM:T 56=some E1)(hn:seen.length=n)(ht:t<n)(hc:c.blocks.length=n)(hs:seen.getD t false=false)(hk:(c.blocks[t]).ok/\(∀x∈(c.blocks[t]).code,(readsD x).length<=bigN))(hm:C7 (c.blocks[t]).e r (c.blocks[t]).code=2):evP ⟨A0,T,A2⟩ (.code Dx (wF r n P.length (L.length+1)) (wM c seen P ((t:Int)::L)))=some (.ok .normal (wF r n (P.length+1) L.length) (wM c (seen.set t true) P ((t:Int)::L))):=by
 have hlt:decide (((L.length+1:Nat):Int)>0)=true:=by simp
 have hi:(ints (P++(t:Int)::L))[P.length]?=some (.int .i64 (t:Int)):=by simp[ints]
 have hb:(bools seen)[t]?=some (.bool false):=by rw[C5 (by omega),hs]
 have hx:Qp Yu (.msl 2 P.length (L.length+1) 1) (.int .i64 0)=some (.ptr 2 P.length 0):=cI (zkt _) rfl;have hsl:=fun K=>nA (K:=K) (id:=2) (p:=P.length) (N:=L.length)
 have hg:=B5 (F:=Blk.F) (l:=c.blocks) (i:=t) (by omega);have hset:(bools seen).set t (.bool true)=bools (seen.set t true):=by unfold bools;rw[zqi]
 have tm:=fun K=>N5 (K:=K) (b:=c.blocks[t]) (f:=0) (r:=r) hM ⟨hk.1,hk.2,zks _⟩
 rw[zqh]at tm;rw[hm]at tm;simp only[Blk.F,show((0:Nat):Int)=0 from rfl]at hg tm;unfold Dx wF wM;rw[<-hset];simp -implicitDefEqProofs only[hlt,hi,hb,hx,hsl,ht,hg,tm,hn,show((2:Nat):Int)=2 from rfl,show decide ((2:Int)=1)=false from rfl,show decide ((2:Int)=0)=false from rfl,XP,seval]
theorem XU(hC:T 18=some G2)(hT:T 44=some F1)(hL:(L.length+2)*8<=bigN)(hM:T 56=some E1)(hn:seen.length=n)(ht:t<n)(hc:c.blocks.length=n)(hs:seen.getD t false=false)(hk:(c.blocks[t]).ok/\(∀x∈(c.blocks[t]).code,(readsD x).length<=bigN))(hm:C7 (c.blocks[t]).e r (c.blocks[t]).code=0):evP ⟨A0,T,A2⟩ (.code Dx (wF r n P.length (L.length+1)) (wM c seen P ((t:Int)::L)))=some (.ok .normal (wF r n 0 (L++tosD (c.blocks[t]).e).length) (wM c (seen.set t true) [] (L++tosD (c.blocks[t]).e))):=by
 have hlt:decide (((L.length+1:Nat):Int)>0)=true:=by simp
 have hi:(ints (P++(t:Int)::L))[P.length]?=some (.int .i64 (t:Int)):=by simp[ints]
 have hb:(bools seen)[t]?=some (.bool false):=by rw[C5 (by omega),hs]
 have hx:Qp Yu (.msl 2 P.length (L.length+1) 1) (.int .i64 0)=some (.ptr 2 P.length 0):=cI (zkt _) rfl;have hsl:=fun K=>nA (K:=K) (id:=2) (p:=P.length) (N:=L.length)
 have hg:=B5 (F:=Blk.F) (l:=c.blocks) (i:=t) (by omega);have hset:(bools seen).set t (.bool true)=bools (seen.set t true):=by unfold bools;rw[zqi]
 have tm:=fun K=>N5 (K:=K) (b:=c.blocks[t]) (f:=0) (r:=r) hM ⟨hk.1,hk.2,zks _⟩
 rw[zqh]at tm;rw[hm]at tm;simp only[Blk.F,show((0:Nat):Int)=0 from rfl]at hg tm;have tt:=fun K=>d9 (K:=K) (e:=(c.blocks[t]).e) hT
 have tc:=fun(K:PK)(id:Nat)(q:rowOf K.os 6 id=some (0,ints (P++(t:Int)::L),1))=>gE (K:=K) (L:=L) hC (by simp only[bigN]at hL|-;omega) (vB q)
 simp only[Endd.F]at tt;have hl1:(ints L).length=L.length:=by simp[ints]
 have hl2:(ints (tosD (c.blocks[t]).e)).length=(tosD (c.blocks[t]).e).length:=by simp[ints]
 have hap:ints L++ints (tosD (c.blocks[t]).e)=ints (L++tosD (c.blocks[t]).e):=by simp[ints]
 have h2:=Gc (c.blocks[t]).e;have hz:(L.length+(tosD (c.blocks[t]).e).length)*8<=140737488355328:=by simp only[bigN]at hL;omega
 have hf:=yI (tosD (c.blocks[t]).e);unfold Dx wF wM;rw[<-hset];rcases Nat.eq_zero_or_pos (tosD (c.blocks[t]).e).length with h0|h0
 . have h0:=zki h0
   rw[h0]at tt hap hz|-;rw[zkk]at hap|-;have hz:L.length*8<=140737488355328:=hz;simp -implicitDefEqProofs only[hlt,hi,hb,hx,hsl,ht,hg,tm,hn,show((0:Nat):Int)=0 from rfl,show decide ((0:Int)=1)=false from rfl,show decide ((0:Int)=0)=true from rfl,tc,tt,hl1,hz,teE_flat,show Qk (ints [])=true from rfl,show ints []=[]from rfl,XP,seval]
 . have h0:(ints (tosD (c.blocks[t]).e)).isEmpty=false:=by
    cases q:tosD (c.blocks[t]).e with
    |nil=>rw[q]at h0;cases h0
    |cons a b=>rfl
   simp -implicitDefEqProofs only[hlt,hi,hb,hx,hsl,ht,hg,tm,hn,show((0:Nat):Int)=0 from rfl,show decide ((0:Int)=1)=false from rfl,show decide ((0:Int)=0)=true from rfl,tc,tt,hl1,hl2,hz,hap,hf,h0,teE_flat,zka,XP,seval]
theorem XV{P:List Int}:∃fr',evP ⟨A0,T,A2⟩ (.code Dx (wF r n P.length 0) (wM c seen P []))=some (.ok (.exit 0) fr' (wM c seen P [])):=by
 unfold Dx wF wM;simp -implicitDefEqProofs only[show((0:Nat):Int)=0 from rfl,show decide ((0:Int)>0)=false from rfl,XP,seval];exact⟨_,rfl⟩
end
theorem gF(r:Nat):∀(rs:List Int)(w:List Bool),(∀q∈rs,0<=q/\q<(w.length:Int))->((rs.foldl Dh w).getD r false=true↔(r:Int)∈rs\/w.getD r false=true)
 |[],w,_=>by simp
 | q :: rs,w,h=>by
  have hq:=h q (zqo ..);rw[zkl,gF r rs (Dh w q) (fun p hp=>by unfold Dh;rw[zqf];exact h p (zqn _ hp))];unfold Dh;rw[Z5 (by omega)];by_cases e:q.toNat=r
  . rw[if_pos e];have:(r:Int)=q:=by omega
    simp[this]
  . rw[if_neg e];have:¬(r:Int)=q:=by omega
    simp[this]
theorem gG{x:Ins}{w:List Bool}{r:Nat}(hr:r<w.length)(hw:writesD x<w.length)(hrd:∀q∈readsD x,0<=q/\q<(w.length:Int)):((R2 w x).getD r false=true↔(r:Int)∈readsD x\/(¬writesD x=(r:Int)/\w.getD r false=true)):=by
 unfold R2;rw[gF r _ _ (fun q hq=>by
  split
  . rw[zqf];exact hrd q hq
  . exact hrd q hq)]
 by_cases h0:0<=writesD x
 . rw [if_pos h0,Z5 (by omega)]
   by_cases e:(writesD x).toNat=r
   . rw[if_pos e];have:writesD x=(r:Int):=by omega
     simp[this]
   . rw[if_neg e];have:¬writesD x=(r:Int):=by omega
     simp[this]
 . rw[if_neg h0];have:¬writesD x=(r:Int):=by omega
   simp[this]
structure WOk'(n:Nat)(b:Blk):Prop where
 wr:∀x∈b.code,writesD x<n
 rd:∀x∈b.code,∀q∈readsD x,0<=q/\q<(n:Int)
 en:b.e.kind≠1->b.e.a<(n:Int)
theorem nB{b:Blk}{w:List Bool}{r:Nat}(hr:r<w.length)(he:b.e.kind≠1->b.e.a<(w.length:Int)):((endW b w).getD r false=true↔(b.e.kind≠1/\b.e.a=(r:Int))\/w.getD r false=true):=by
 unfold endW;by_cases h:b.e.kind≠1/\0<=b.e.a
 . have:=he h.1
   rw[if_pos h,Z5 (by omega)];by_cases e:b.e.a.toNat=r
   . rw[if_pos e];have:b.e.a=(r:Int):=by omega
     simp[this,h.1]
   . rw[if_neg e];have:¬b.e.a=(r:Int):=by omega
     simp[this]
 . rw [if_neg h]
   constructor
   . exact .inr
   . rintro(⟨h1,h2⟩|h1)
     . exact absurd ⟨h1,by omega⟩ h
     . exact h1
theorem gH{e:Endd}{r n:Nat}{p:Prop}(hr:r<n){l:List Ins}(hwr:∀x∈l,writesD x<n)(hrd:∀x∈l,∀q∈readsD x,0<=q/\q<(n:Int)):∀(k:Nat)(w:List Bool),k<=l.length->w.length=n->(w.getD r false=true↔C7 e r (l.drop k)=1\/(C7 e r (l.drop k)=0/\p))->((uO l k w).getD r false=true↔C7 e r l=1\/(C7 e r l=0/\p))
 |0,w,_,_,h=>h
 | k + 1,w,hk,hw,h=>by
  have hk':k<l.length:=hk;have hx:=zqb hk';rw[uO,zqc hk'];refine gH hr hwr hrd k _ (by omega) ((l5 _ _).trans hw) ?_;show(R2 w l[k]).getD r false=true↔_
  rw[gG (by omega) (by rw[hw];exact hwr _ hx) (by rw[hw];exact hrd _ hx),h,zqr hk',C7];by_cases h1:(r:Int)∈readsD l[k]
  . simp[h1]
  . by_cases h2:writesD l[k]=(r:Int)
    . simp[h1,h2]
    . simp[h1,h2]
theorem yM{b:Blk}{w:List Bool}{r n:Nat}(hb:WOk' n b)(hr:r<n)(hw:w.length=n):((walkD b w).getD r false=true↔C7 b.e r b.code=1\/(C7 b.e r b.code=0/\w.getD r false=true)):=by
 unfold walkD;refine gH hr hb.wr hb.rd _ _ (zkq _) ((Ae _ _).trans hw) ?_;rw[nB (by omega) (by rw[hw];exact hb.en),zqt,C7];by_cases h:b.e.kind≠1/\b.e.a=(r:Int)
 . simp[h]
 . rw[if_neg h];simp[h]
inductive Wan(l:List Blk)(r:Nat):Nat->Prop
 |here {i:Nat} {b:Blk}:l[i]?=some b->C7 b.e r b.code=1->Wan l r i
 |step {i:Nat} {b:Blk} {t:Int}:l[i]?=some b->C7 b.e r b.code=0->t∈tosD b.e->Wan l r t.toNat->Wan l r i
theorem gI(m:List Bool)(j:Nat):∀(n i:Nat)(s:List Bool×Bool),i+n<=s.1.length->((Ea m n i s).1.getD j false=true↔s.1.getD j false=true\/(i<=j/\j<i+n/\m.getD j false=true))
 | 0,i,s,_=>by
  show s.1.getD j false=true↔_
  constructor
  . exact .inl
  . rintro(h|h)
    . exact h
    . omega
 | n + 1,i,s,h=>by
  have hl:=Sa m i s;rw[Ea,gI m j n (i+1) (uSt m i s) (by omega)];have hu:(uSt m i s).1.getD j false=true↔s.1.getD j false=true\/(i=j/\m.getD j false=true):=by
   unfold uSt;split
   . rename_i h1
     show(s.1.set i true).getD j false=true↔_
     rw[Z5 (by omega)];by_cases e:i=j
     . rw[if_pos e]
       exact⟨fun _=>.inr ⟨e,e▸h1.1⟩,fun _=>rfl⟩
     . rw[if_neg e];simp[e]
   . rename_i h1
     constructor
     . exact .inl
     . rintro (h2|⟨rfl,h2⟩)
       . exact h2
       . cases h3:s.1.getD i false with
         |true=>rfl
         |false=>exact absurd ⟨h2,h3⟩ h1
  rw[hu]
  constructor
  . rintro((h1|⟨h1,h2⟩)|⟨h1,h2,h3⟩)
    . exact .inl h1
    . exact .inr ⟨by omega,by omega,h2⟩
    . exact .inr ⟨by omega,by omega,h3⟩
  . rintro (h1|⟨h1,h2,h3⟩)
    . exact .inl (.inl h1)
    . by_cases e:i=j
      . exact .inl (.inr ⟨e,h3⟩)
      . exact .inr ⟨by omega,by omega,h3⟩
theorem gJ{a m:List Bool}(h:a.length=m.length)(j:Nat):((unionD a m).1.getD j false=true↔a.getD j false=true\/m.getD j false=true):=by
 unfold unionD;rw[gI m j _ _ _ (by simp;omega)]
 constructor
 . rintro(h1|⟨_,_,h1⟩)
   . exact .inl h1
   . exact .inr h1
 . rintro (h1|h1)
   . exact .inl h1
   . refine .inr ⟨zks _,?_,h1⟩
     by_cases hj:j<m.length
     . omega
     . rw[zqe,zkb (by omega)]at h1;cases h1
structure Snd(l:List Blk)(s:List (List Bool)×List (List Bool)):Prop where
 a:∀i r,at2 s.1 i r=true->Wan l r i
 b:∀i r,at2 s.2 i r=true->∃b t,l[i]?=some b/\t∈tosD b.e/\Wan l r t.toNat
theorem EU{N n:Nat}{A:List (List Bool)}(h:A5 N n A){i r:Nat}(e:at2 A i r=true):i<N/\r<n:=by
 unfold at2 at e;have hi:i<N:=by
  by_cases hi:i<N
  . exact hi
  . rw[zqe,zqe,zkb (l:=A) (by have:=h.1;omega)]at e;simp at e
 refine⟨hi,?_⟩;by_cases hr:r<n
 . exact hr
 . rw[zqe,zkb (by have:=h.get hi;omega)]at e;cases e
theorem nC{N n:Nat}{A:List (List Bool)}(h:A5 N n A){i j r:Nat}{q:List Bool}(hi:i<N):at2 (A.set i q) j r=if i=j then q.getD r false else at2 A j r:=by
 unfold at2;rw[Hg (by rw[h.1];exact hi)];split<;>rfl
theorem gK{N n:Nat}{A:List (List Bool)}(hA:A5 N n A){i:Nat}(hi:i<N):∀(L:List Int){B:List (List Bool)},(∀t∈L,0<=t/\t<(N:Int))->A5 N n B->∀j r,(at2 (L.foldl (joinB A i) B) j r=true↔at2 B j r=true\/(j=i/\∃t∈L,at2 A t.toNat r=true))
 |[],B,_,hB,j,r=>by simp
 | t :: L,B,hL,hB,j,r=>by
  have ht:=hL t (zqo ..);rw[zkl,gK hA hi L (fun q hq=>hL q (zqn _ hq)) (hB.join hi)]
  have:at2 (joinB A i B t) j r=true↔at2 B j r=true\/(j=i/\at2 A t.toNat r=true):=by
   unfold joinB;rw[nC hB hi];by_cases e:i=j
   . rw[if_pos e,gJ (by rw[hB.get hi,hA.get (by omega)])]
     subst e;unfold at2;simp
   . rw [if_neg e]
     constructor
     . exact .inl
     . rintro(h|⟨h,_⟩)
       . exact h
       . exact absurd h.symm e
  rw[this]
  constructor
  . rintro((h|⟨h,h2⟩)|⟨h,q,hq,h2⟩)
    . exact .inl h
    . exact .inr ⟨h,t,zqo ..,h2⟩
    . exact .inr ⟨h,q,zqn _ hq,h2⟩
  . rintro (h|⟨h,q,hq,h2⟩)
    . exact .inl (.inl h)
    . rcases zqg.1 hq with rfl|hq
      . exact .inl (.inr ⟨h,h2⟩)
      . exact .inr ⟨h,q,hq,h2⟩
structure BOk(l:List Blk)(n:Nat):Prop where
 w:∀b∈l,WOk' n b
 t:∀b∈l,∀t∈tosD b.e,0<=t/\t<(l.length:Int)
section
variable {l:List Blk}{n i:Nat}{b:Blk}{s:Jx}
theorem gL(ok:BOk l n)(hb:l[i]?=some b)(hA:A5 l.length n s.1)(hB:A5 l.length n s.2.1):
 (∀j r,at2 (M7 b i s).2.1 j r=true↔at2 s.2.1 j r=true\/(j=i/\∃t∈tosD b.e,at2 s.1 t.toNat r=true))/\
 (∀j r,r<n->(at2 (M7 b i s).1 j r=true↔at2 s.1 j r=true\/(j=i/\(C7 b.e r b.code=1\/(C7 b.e r b.code=0/\at2 (M7 b i s).2.1 i r=true))))):=by
 have hi:=(zqp.1 hb).1;have hm:=zqy hb;have hB1:A5 l.length n ((tosD b.e).foldl (joinB s.1 i) s.2.1):=hB.joins hi _;refine⟨fun j r=>gK hA hi _ (ok.t b hm) hB j r,fun j r hr=>?_⟩;show at2 (s.1.set i (unionD (s.1.getD i []) (walkD b (((tosD b.e).foldl (joinB s.1 i) s.2.1).getD i []))).1) j r=true↔_
 rw[nC hA hi];by_cases e:i=j
 . subst e
   rw[if_pos rfl,gJ (by rw[hA.get hi,Nx,hB1.get hi]),yM (ok.w b hm) hr (hB1.get hi)];unfold at2;simp only[true_and];rfl
 . rw [if_neg e]
   constructor
   . exact .inl
   . rintro(h|⟨h,_⟩)
     . exact h
     . exact absurd h.symm e
theorem qO(ok:BOk l n)(hb:l[i]?=some b)(hA:A5 l.length n s.1)(hB:A5 l.length n s.2.1)(h:Snd l (s.1,s.2.1)):Snd l ((M7 b i s).1,(M7 b i s).2.1):=by
 obtain ⟨h1,h2⟩:=gL ok hb hA hB;obtain⟨q1,q2⟩:=Y8 (b:=b) (i:=i) (zqp.1 hb).1 hA hB;have hBs:∀j r,at2 (M7 b i s).2.1 j r=true->∃b t,l[j]?=some b/\t∈tosD b.e/\Wan l r t.toNat:=fun j r e=>by
  rcases(h1 j r).1 e with e|⟨rfl,t,ht,e⟩
  . exact h.b j r e
  . exact⟨b,t,hb,ht,h.a _ _ e⟩
 refine⟨fun j r e=>?_,hBs⟩;have hr:=(EU q1 e).2;rcases(h2 j r hr).1 e with e|⟨rfl,e|⟨e,e2⟩⟩
 . exact h.a j r e
 . exact .here hb e
 . obtain⟨b',t,hb',ht,hw⟩:=hBs _ _ e2
   rw[hb]at hb';cases hb';exact .step hb e ht hw
theorem gM(ok:BOk l n):∀(k:Nat){s:Jx},k<=l.length->A5 l.length n s.1->A5 l.length n s.2.1->Snd l (s.1,s.2.1)->Snd l ((passGo l k s).1,(passGo l k s).2.1)
 |0,s,_,_,_,h=>h
 | k+1,s,hk,hA,hB,h=>by
  have hb:=zqc (l:=l) (i:=k) hk;rw[passGo,hb];obtain⟨q1,q2⟩:=Y8 (b:=l[k]) (i:=k) hk hA hB;exact gM ok k (by omega) q1 q2 (qO ok hb hA hB h)
def XW(l:List Blk)(n:Nat)(A B:List (List Bool))(i:Nat):Prop:=∀b,l[i]?=some b->(∀r t,t∈tosD b.e->at2 A t.toNat r=true->at2 B i r=true)/\∀r,r<n->(C7 b.e r b.code=1\/(C7 b.e r b.code=0/\at2 B i r=true))->at2 A i r=true
theorem kY(hi:i<l.length)(hA:A5 l.length n s.1)(hB:A5 l.length n s.2.1)(hg:(M7 b i s).2.2=false):(M7 b i s).1=s.1/\s.2.2=false:=by
 rcases stepL_ct (b:=b) hi hA hB with⟨h1,h2⟩|⟨h1,_⟩
 . exact⟨h1,h2▸hg⟩
 . rw[h1]at hg;cases hg
theorem gN(ok:BOk l n):∀(k:Nat){s:Jx},k<=l.length->A5 l.length n s.1->A5 l.length n s.2.1->(passGo l k s).2.2=false->(∀j,k<=j->j<l.length->XW l n s.1 s.2.1 j)->(passGo l k s).1=s.1/\∀j,j<l.length->XW l n (passGo l k s).1 (passGo l k s).2.1 j
 |0,s,_,_,_,_,h=>⟨rfl,fun j hj=>h j (zks _) hj⟩
 | k + 1,s,hk,hA,hB,hg,h=>by
  have hb:=zqc (l:=l) (i:=k) hk;rw[passGo,hb]at hg|-;dsimp only at hg|-;obtain⟨q1,q2⟩:=Y8 (b:=l[k]) (i:=k) hk hA hB;have hs:(M7 l[k] k s).2.2=false:=by
   rcases passGo_ct (l:=l) k (s:=M7 l[k] k s) (by omega) q1 q2 with⟨_,e⟩|⟨e,_⟩
   . rw[<-e];exact hg
   . rw[hg]at e;cases e
  obtain⟨e1,e2⟩:=kY (b:=l[k]) hk hA hB hs;obtain⟨h1,h2⟩:=gL ok hb hA hB
  have:=gN ok k (s:=M7 l[k] k s) (by omega) q1 q2 hg fun j hj hj2 b hb'=>by
   rw[e1]at h2|-;by_cases e:j=k
   . subst e
     rw[hb]at hb';cases hb';refine⟨fun r t ht ha=>(h1 _ r).2 (.inr ⟨rfl,t,ht,ha⟩),fun r hr hm=>?_⟩;exact(h2 _ r hr).2 (.inr ⟨rfl,hm⟩)
   . obtain ⟨c1,c2⟩:=h j (by omega) hj2 b hb'
     refine⟨fun r t ht ha=>(h1 j r).2 (.inl (c1 r t ht ha)),fun r hr hm=>c2 r hr ?_⟩;rcases hm with hm|⟨hm,hm2⟩
     . exact .inl hm
     . rcases(h1 j r).1 hm2 with e'|⟨e',_⟩
       . exact .inr ⟨hm,e'⟩
       . exact absurd e' e
  exact⟨this.1.trans e1,this.2⟩
theorem gO(ok:BOk l n):∀(k:Nat)(A B:List (List Bool)),fl A<k->A5 l.length n A->A5 l.length n B->Snd l (A,B)->Snd l ((M8 l k (A,B)).1,(M8 l k (A,B)).2.1)/\∀j,j<l.length->XW l n (M8 l k (A,B)).1 (M8 l k (A,B)).2.1 j
 |0,A,B,h,_,_,_=>by omega
 | k + 1,A,B,h,hA,hB,hs=>by
  obtain⟨q1,q2⟩:=d8 (l:=l) l.length (s:=(A,B,false)) (zkq _) hA hB;have q3:=gM ok l.length (s:=(A,B,false)) (zkq _) hA hB hs;rw[M8];split
  . rename_i hg
    rcases passGo_ct (l:=l) l.length (s:=(A,B,false)) (zkq _) hA hB with⟨_,e⟩|⟨_,e⟩
    . rw[hg]at e;cases e
    . exact gO ok k _ _ (Nat.lt_of_lt_of_le e (Nat.le_of_lt_succ h)) q1 q2 q3
  . rename_i hg
    have hg:(passGo l l.length (A,B,false)).2.2=false:=by simpa using hg
    exact⟨q3,(gN ok l.length (s:=(A,B,false)) (zkq _) hA hB hg fun j hj hj2=>by omega).2⟩
end
theorem Vj(N n i j:Nat):at2 (noneT N n) i j=false:=by
 unfold at2 noneT noneL;rw[zqe,zqe,zkc];split<;>simp[zkc]
 split<;>rfl
theorem cJ{c:Cod}(ok:BOk c.blocks c.regs.length):(∀i r,r<c.regs.length->(at2 (liveD c).1 i r=true↔Wan c.blocks r i))/\(∀i r b,r<c.regs.length->c.blocks[i]?=some b->(at2 (liveD c).2.1 i r=true↔∃t∈tosD b.e,Wan c.blocks r t.toNat)):=by
 obtain ⟨h1,h2⟩:=gO ok (fl (noneT c.blocks.length c.regs.length)+1) (noneT c.blocks.length c.regs.length) (noneT c.blocks.length c.regs.length) (zkv _) (H1 _ _) (H1 _ _) ⟨fun i r e=>(by rw[Vj]at e;cases e),fun i r e=>(by rw[Vj]at e;cases e)⟩;have hw:∀i r,r<c.regs.length->Wan c.blocks r i->at2 (liveD c).1 i r=true:=fun i r hr h=>by
  induction h with
  |here hb hm=>exact((h2 _ (zqp.1 hb).1) _ hb).2 r hr (.inl hm)
  |step hb hm ht hw ih=>exact((h2 _ (zqp.1 hb).1) _ hb).2 r hr (.inr ⟨hm,((h2 _ (zqp.1 hb).1) _ hb).1 r _ ht ih⟩)
 refine⟨fun i r hr=>⟨h1.a i r,hw i r hr⟩,fun i r b hr hb=>⟨fun e=>?_,fun⟨t,ht,hwt⟩=>?_⟩⟩
 . obtain⟨b',t,hb',ht,hwt⟩:=h1.b i r e
   rw[hb]at hb';cases hb';exact⟨t,ht,hwt⟩
 . exact((h2 _ (zqp.1 hb).1) _ hb).1 r t ht (hw _ r hr hwt)
def bfsD(l:List Blk)(r:Nat):Nat->List Bool->List Int->Bool
 |0,_,_=>false
 |_+1,_,[]=>false
 | f + 1,seen,t::todo=>if seen.getD t.toNat false=true then bfsD l r f seen todo else
     match l[t.toNat]? with
     |none=>false
     |some b=>if C7 b.e r b.code=1 then true else if C7 b.e r b.code=0 then bfsD l r f (seen.set t.toNat true) (todo++tosD b.e)else bfsD l r f (seen.set t.toNat true) todo
theorem Wan.inv{l:List Blk}{r i:Nat}{b:Blk}(hb:l[i]?=some b)(h:Wan l r i):C7 b.e r b.code=1\/(C7 b.e r b.code=0/\∃t∈tosD b.e,Wan l r t.toNat):=by
 cases h with
 |here hb' hm=>rw[hb]at hb';cases hb';exact .inl hm
 |step hb' hm ht hw=>rw[hb]at hb';cases hb';exact .inr ⟨hm,_,ht,hw⟩
theorem Wan.iff{l:List Blk}{r i:Nat}{b:Blk}(hb:l[i]?=some b):Wan l r i↔C7 b.e r b.code=1\/(C7 b.e r b.code=0/\∃t∈tosD b.e,Wan l r t.toNat):=
 ⟨fun h=>h.inv hb,fun h=>by
   rcases h with h|⟨h,t,ht,hw⟩
   . exact .here hb h
   . exact .step hb h ht hw⟩
def qP(l:List Blk)(r:Nat)(seen:List Bool)(todo:List Int):Prop:=∀i b,l[i]?=some b->seen.getD i false=true->C7 b.e r b.code≠1/\(C7 b.e r b.code=0->∀t∈tosD b.e,seen.getD t.toNat false=true\/t∈todo)
theorem qP.out{l:List Blk}{r:Nat}{seen:List Bool}{todo:List Int}(h:qP l r seen todo){i:Nat}(hw:Wan l r i):seen.getD i false=true->∃q∈todo,Wan l r q.toNat:=by
 induction hw with
 |here hb hm=>exact fun hs=>absurd hm (h _ _ hb hs).1
 | step hb hm ht hw ih =>
  intro hs;rcases(h _ _ hb hs).2 hm _ ht with h1|h1
  . exact ih h1
  . exact⟨_,h1,hw⟩
theorem Zb(e:Endd):(tosD e).length<=2:=by
 unfold tosD;split
 . simp
 . split<;>simp
theorem cK{l:List Blk}{r:Nat}(hT:∀b∈l,∀t∈tosD b.e,0<=t/\t<(l.length:Int)):∀(f:Nat)(seen:List Bool)(todo:List Int),seen.length=l.length->3*ctF seen+todo.length<f->(∀t∈todo,0<=t/\t<(l.length:Int))->qP l r seen todo->(bfsD l r f seen todo=true↔∃t∈todo,Wan l r t.toNat)
 |0,_,_,_,h,_,_=>by omega
 |f+1,seen,[],_,_,_,_=>by simp[bfsD]
 | f + 1,seen,t::todo,hl,hf,ht,hs=>by
  have ht0:=ht t (zqo ..);have htr:=fun q hq=>ht q (zqn _ hq)
  rw[bfsD];by_cases h1:seen.getD t.toNat false=true
  . rw [if_pos h1]
    have hs':qP l r seen todo:=fun i b hb hi=>⟨(hs i b hb hi).1,fun hm q hq=>by
     rcases(hs i b hb hi).2 hm q hq with h|h
     . exact .inl h
     . rcases zqg.1 h with rfl|h
       . exact .inl h1
       . exact .inr h⟩
    rw[cK hT f seen todo hl (by simp only[zqu]at hf;omega) htr hs']
    constructor
    . rintro⟨q,hq,hw⟩;exact⟨q,zqn _ hq,hw⟩
    . rintro⟨q,hq,hw⟩
      rcases zqg.1 hq with rfl|hq
      . exact hs'.out hw h1
      . exact⟨q,hq,hw⟩
  . rw [if_neg h1]
    have hi:t.toNat<l.length:=by omega
    have hb:=zqc hi;rw[hb];dsimp only;have hb0:=Wan.iff (r:=r) hb;have hc:ctF (seen.set t.toNat true)+1=ctF seen:=cE (by omega) (by simpa using h1);have hset:∀j,(seen.set t.toNat true).getD j false=true↔t.toNat=j\/seen.getD j false=true:=fun j=>by
     rw[Z5 (by omega)];by_cases e:t.toNat=j
     . simp[e]
     . simp[e]
    by_cases m1:C7 l[t.toNat].e r l[t.toNat].code=1
    . rw[if_pos m1]
      exact⟨fun _=>⟨t,zqo ..,hb0.2 (.inl m1)⟩,fun _=>rfl⟩
    . rw [if_neg m1]
      by_cases m0:C7 l[t.toNat].e r l[t.toNat].code=0
      . rw [if_pos m0]
        have hm:=hT _ (zqb hi);have hs':qP l r (seen.set t.toNat true) (todo++tosD l[t.toNat].e):=fun i b hb' hi'=>by
         rcases(hset i).1 hi' with e|e
         . subst e
           rw[hb]at hb';cases hb';exact⟨m1,fun _ q hq=>.inr (zkm _ hq)⟩
         . refine ⟨(hs i b hb' e).1,fun hm q hq=>?_⟩
           rcases(hs i b hb' e).2 hm q hq with h|h
           . exact .inl ((hset _).2 (.inr h))
           . rcases zqg.1 h with rfl|h
             . exact .inl ((hset _).2 (.inl rfl))
             . exact .inr (zkn _ h)
        have h2:=Zb l[t.toNat].e;rw[cK hT f _ _ (by rw[zqf];exact hl) (by simp only[zka,zqu]at hf|-;omega) (fun q hq=>by
         rcases zkd.1 hq with hq|hq
         . exact htr q hq
         . exact hm q hq) hs']
        constructor
        . rintro⟨q,hq,hw⟩
          rcases zkd.1 hq with hq|hq
          . exact⟨q,zqn _ hq,hw⟩
          . exact⟨t,zqo ..,hb0.2 (.inr ⟨m0,q,hq,hw⟩)⟩
        . rintro ⟨q,hq,hw⟩
          rcases zqg.1 hq with rfl|hq
          . rcases hb0.1 hw with h|⟨_,q',hq',hw'⟩
            . exact absurd h m1
            . exact⟨q',zkm _ hq',hw'⟩
          . exact⟨q,zkn _ hq,hw⟩
      . rw [if_neg m0]
        have hs':qP l r (seen.set t.toNat true) todo:=fun i b hb' hi'=>by
         rcases(hset i).1 hi' with e|e
         . subst e
           rw[hb]at hb';cases hb';exact⟨m1,fun h=>absurd h m0⟩
         . refine ⟨(hs i b hb' e).1,fun hm q hq=>?_⟩
           rcases(hs i b hb' e).2 hm q hq with h|h
           . exact .inl ((hset _).2 (.inr h))
           . rcases zqg.1 h with rfl|h
             . exact .inl ((hset _).2 (.inl rfl))
             . exact .inr h
        rw[cK hT f _ _ (by rw[zqf];exact hl) (by simp only[zqu]at hf;omega) htr hs']
        constructor
        . rintro⟨q,hq,hw⟩;exact⟨q,zqn _ hq,hw⟩
        . rintro ⟨q,hq,hw⟩
          rcases zqg.1 hq with rfl|hq
          . rcases hb0.1 hw with h|⟨h,_⟩
            . exact absurd h m1
            . exact absurd h m0
          . exact⟨q,hq,hw⟩
def yN(l:List Blk)(r:Nat)(b:Blk)(done:Nat):Prop:=C7 b.e r (b.code.drop done)=1\/(C7 b.e r (b.code.drop done)=0/\∃t∈tosD b.e,Wan l r t.toNat)
def E2(l:List Blk)(b:Blk)(done r:Nat):Bool:=if C7 b.e r (b.code.drop done)=1 then true else if C7 b.e r (b.code.drop done)=0 then bfsD l r (3*l.length+3) (zqq l.length false) (tosD b.e)else false
theorem gP(n:Nat):ctF (zqq n false)=n:=by unfold ctF;simp
theorem Oa{l:List Blk}{r:Nat}{b:Blk}{done:Nat}(hT:∀b∈l,∀t∈tosD b.e,0<=t/\t<(l.length:Int))(hb:b∈l):E2 l b done r=true↔yN l r b done:=by
 unfold E2 yN;have h2:=Zb b.e;have hb':=cK (r:=r) hT (3*l.length+3) (zqq l.length false) (tosD b.e) (by simp) (by rw[gP];omega) (hT b hb) (fun i b' _ hi=>by
  rw[zqe,zkc]at hi;split at hi<;>simp at hi)
 by_cases m1:C7 b.e r (b.code.drop done)=1
 . simp[m1]
 . rw[if_neg m1]
   by_cases m0:C7 b.e r (b.code.drop done)=0
   . rw[if_pos m0,hb'];simp[m0]
   . rw[if_neg m0];simp[m0,m1]
def Pr(d r i j:Nat):Prop:=d≠r/\((i=d/\j=r)\/(i=r/\j=d))
theorem nD{n:Nat}{O:List (List Bool)}(h:A5 n n O){a b:Nat}(ha:a<n)(hb:b<n)(i j:Nat):at2 (pairD a b O) i j=true↔at2 O i j=true\/Pr a b i j:=by
 rw[uW h ha hb];unfold Pr;simp
def yO(x:Ins)(w:List Bool)(r i j:Nat):Prop:=(w.getD r false=true/\0<=writesD x/\¬(x.op=2/\x.a=(r:Int)))/\Pr (writesD x).toNat r i j
theorem vC{n:Nat}{O:List (List Bool)}(h:A5 n n O){x:Ins}{w:List Bool}{r:Nat}(hw:writesD x<n)(hr:r<n)(i j:Nat):at2 (Mc x w r O) i j=true↔at2 O i j=true\/yO x w r i j:=by
 have hs:Yz x w r=true↔(w.getD r false=true/\0<=writesD x/\¬(x.op=2/\x.a=(r:Int))):=by
  unfold Yz;by_cases h1:x.op=2<;>simp[h1,and_assoc]
 unfold Mc yO;by_cases e:Yz x w r=true
 . have h0:=(hs.1 e).2.1
   rw[if_pos e,nD h (by omega) hr]
   constructor
   . rintro(h1|h1)
     . exact .inl h1
     . exact .inr ⟨hs.1 e,h1⟩
   . rintro(h1|⟨_,h1⟩)
     . exact .inl h1
     . exact .inr h1
 . rw [if_neg e]
   constructor
   . exact .inl
   . rintro(h1|⟨h1,_⟩)
     . exact h1
     . exact absurd (hs.2 h1) e
theorem gQ{n:Nat}{x:Ins}{w:List Bool}(hw:writesD x<n)(i j:Nat):∀(k r:Nat){O:List (List Bool)},r+k<=n->A5 n n O->(at2 (Vf x w k r O) i j=true↔at2 O i j=true\/∃q,r<=q/\q<r+k/\yO x w q i j)
 | 0,r,O,_,h=>by
  show at2 O i j=true↔_
  constructor
  . exact .inl
  . rintro(h|⟨q,h1,h2,_⟩)
    . exact h
    . omega
 | k + 1,r,O,e,h=>by
  show at2 (Vf x w k (r+1) (Mc x w r O)) i j=true↔_
  rw[gQ hw i j k (r+1) (by omega) (h.see hw (by omega)),vC h hw (by omega)]
  constructor
  . rintro((h1|h1)|⟨q,h1,h2,h3⟩)
    . exact .inl h1
    . exact .inr ⟨r,zkq _,by omega,h1⟩
    . exact .inr ⟨q,by omega,by omega,h3⟩
  . rintro (h1|⟨q,h1,h2,h3⟩)
    . exact .inl (.inl h1)
    . by_cases e:q=r
      . subst e;exact .inl (.inr h3)
      . exact .inr ⟨q,by omega,by omega,h3⟩
theorem yP{n:Nat}{x:Ins}{w:List Bool}(hw:writesD x<n)(hl:w.length=n){O:List (List Bool)}(h:A5 n n O)(i j:Nat):at2 (Md x w O) i j=true↔at2 O i j=true\/∃q,q<n/\yO x w q i j:=by
 unfold Md;rw[gQ hw i j _ _ (by omega) h]
 constructor
 . rintro(h1|⟨q,_,h2,h3⟩)
   . exact .inl h1
   . exact .inr ⟨q,by omega,h3⟩
 . rintro(h1|⟨q,h2,h3⟩)
   . exact .inl h1
   . exact .inr ⟨q,by omega,by omega,h3⟩
theorem kZ{n:Nat}{x:Ins}{w:List Bool}(hw:writesD x<n)(hl:w.length=n){O:List (List Bool)}(h:A5 n n O):A5 n n (Md x w O):=h.sees hw _ _ (by omega)
def EV(e:Endd)(p:Nat->Prop)(l:List Ins)(n k i j:Nat):Prop:=∃x q,l[k]?=some x/\q<n/\(C7 e q (l.drop (k+1))=1\/(C7 e q (l.drop (k+1))=0/\p q))/\0<=writesD x/\¬(x.op=2/\x.a=(q:Int))/\Pr (writesD x).toNat q i j
theorem vD{e:Endd}{n:Nat}{p:Nat->Prop}{l:List Ins}(hwr:∀x∈l,writesD x<n)(hrd:∀x∈l,∀q∈readsD x,0<=q/\q<(n:Int))(i j:Nat):∀(k:Nat)(w:List Bool){O:List (List Bool)},k<=l.length->w.length=n->A5 n n O->(∀r,r<n->(w.getD r false=true↔C7 e r (l.drop k)=1\/(C7 e r (l.drop k)=0/\p r)))->A5 n n (Vh l k (w,O)).2/\(at2 (Vh l k (w,O)).2 i j=true↔at2 O i j=true\/∃k',k'<k/\EV e p l n k' i j)
 | 0,w,O,_,_,hO,h=>⟨hO,by
  show at2 O i j=true↔_
  constructor
  . exact .inl
  . rintro(h|⟨k',h1,_⟩)
    . exact h
    . omega⟩
 | k + 1,w,O,hk,hw,hO,h=>by
  have hk':k<l.length:=hk;have hx:=zqb hk';have hb:=zqc hk';rw[Vh,hb];dsimp only;obtain⟨h1,h2⟩:=vD (e:=e) (p:=p) hwr hrd i j k (R2 w l[k]) (O:=Md l[k] w O) (by omega) ((l5 _ _).trans hw) (kZ (hwr _ hx) hw hO) (fun r hr=>by
   rw[gG (by omega) (by rw[hw];exact hwr _ hx) (by rw[hw];exact hrd _ hx),h r hr,zqr hk',C7];by_cases h1:(r:Int)∈readsD l[k]
   . simp[h1]
   . by_cases h2:writesD l[k]=(r:Int)
     . simp[h1,h2]
     . simp[h1,h2])
  refine⟨h1,?_⟩;rw[h2,yP (hwr _ hx) hw hO]
  constructor
  . rintro((h3|⟨q,hq,⟨a1,a2,a3⟩,a4⟩)|⟨k',h3,h4⟩)
    . exact .inl h3
    . exact .inr ⟨k,zkv _,l[k],q,hb,hq,(h q hq).1 a1,a2,a3,a4⟩
    . exact .inr ⟨k',by omega,h4⟩
  . rintro (h3|⟨k',h3,h4⟩)
    . exact .inl (.inl h3)
    . by_cases e:k'=k
      . subst e
        obtain⟨x,q,b1,b2,b3,b4,b5,b6⟩:=h4;rw[hb]at b1;cases b1;exact .inl (.inr ⟨q,b2,⟨(h q b2).2 b3,b4,b5⟩,b6⟩)
      . exact .inr ⟨k',by omega,h4⟩
theorem EW{n:Nat}{b:Blk}{w:List Bool}{O:List (List Bool)}(hb:WOk' n b)(hw:w.length=n)(hO:A5 n n O)(i j:Nat):A5 n n (rN b w O).2/\(at2 (rN b w O).2 i j=true↔at2 O i j=true\/∃k,EV b.e (fun r=>w.getD r false=true) b.code n k i j):=by
 obtain ⟨h1,h2⟩:=vD (e:=b.e) (p:=fun r=>w.getD r false=true) hb.wr hb.rd i j b.code.length (endW b w) (O:=O) (zkq _) ((Ae _ _).trans hw) hO (fun r hr=>by
  rw[nB (by omega) (by rw[hw];exact hb.en),zqt,C7];by_cases h:b.e.kind≠1/\b.e.a=(r:Int)
  . simp[h]
  . rw[if_neg h];simp[h])
 refine⟨h1,h2.trans ?_⟩
 constructor
 . rintro(h|⟨k,_,h⟩)
   . exact .inl h
   . exact .inr ⟨k,h⟩
 . rintro (h|⟨k,h⟩)
   . exact .inl h
   . obtain⟨x,q,b1,b2⟩:=h
     exact .inr ⟨k,(zqp.1 b1).1,x,q,b1,b2⟩
theorem nE{l:List Blk}{n:Nat}{B:List (List Bool)}(ok:BOk l n)(hB:A5 l.length n B)(i j:Nat):∀(k at_:Nat){O:List (List Bool)},at_+k<=l.length->A5 n n O->(at2 (ckGo l B k at_ O) i j=true↔at2 O i j=true\/∃m b q,at_<=m/\m<at_+k/\l[m]?=some b/\EV b.e (fun r=>at2 B m r=true) b.code n q i j)
 | 0,at_,O,_,h=>by
  show at2 O i j=true↔_
  constructor
  . exact .inl
  . rintro(h|⟨m,b,q,h1,h2,_⟩)
    . exact h
    . omega
 | k + 1,at_,O,e,h=>by
  have hi:at_<l.length:=by omega
  have hb:=zqc hi;obtain⟨h1,h2⟩:=EW (w:=B.getD at_ []) (ok.w _ (zqb hi)) (hB.get hi) h i j;rw[ckGo,hb];dsimp only;rw[nE ok hB i j k (at_+1) (by omega) h1,h2]
  constructor
  . rintro((h3|⟨q,h3⟩)|⟨m,b,q,h3,h4,h5⟩)
    . exact .inl h3
    . exact .inr ⟨at_,l[at_],q,zkq _,by omega,hb,h3⟩
    . exact .inr ⟨m,b,q,by omega,by omega,h5⟩
  . rintro (h3|⟨m,b,q,h3,h4,h5,h6⟩)
    . exact .inl (.inl h3)
    . by_cases e:m=at_
      . subst e
        rw[hb]at h5;cases h5;exact .inl (.inr ⟨q,h6⟩)
      . exact .inr ⟨m,b,q,by omega,by omega,h5,h6⟩
theorem nF{c:Cod}{A:List (List Bool)}{n a:Nat}(ha:a<n)(i j:Nat):∀(k b:Nat){O:List (List Bool)},b+k<=n->A5 n n O->(at2 (Xm c A a k b O) i j=true↔at2 O i j=true\/∃q,b<=q/\q<b+k/\Q5 c A a=true/\Q5 c A q=true/\Pr a q i j)
 | 0,b,O,_,h=>by
  show at2 O i j=true↔_
  constructor
  . exact .inl
  . rintro(h|⟨q,h1,h2,_⟩)
    . exact h
    . omega
 | k + 1,b,O,e,h=>by
  have hO:A5 n n (if Q5 c A a&&Q5 c A b then pairD a b O else O):=by
   split
   . exact h.pair ha (by omega)
   . exact h
  have hp:at2 (if Q5 c A a&&Q5 c A b then pairD a b O else O) i j=true↔at2 O i j=true\/(Q5 c A a=true/\Q5 c A b=true/\Pr a b i j):=by
   split
   . rename_i hf
     obtain⟨f1,f2⟩:=zkw.1 hf;rw[nD h ha (by omega)];simp[f1,f2]
   . rename_i hf
     constructor
     . exact .inl
     . rintro(h|⟨f1,f2,_⟩)
       . exact h
       . exact absurd (by rw[f1,f2];rfl) hf
  show at2 (Xm c A a k (b+1) _) i j=true↔_
  rw[nF ha i j k (b+1) (by omega) hO,hp]
  constructor
  . rintro((h1|h1)|⟨q,h1,h2,h3⟩)
    . exact .inl h1
    . exact .inr ⟨b,zkq _,by omega,h1⟩
    . exact .inr ⟨q,by omega,by omega,h3⟩
  . rintro (h1|⟨q,h1,h2,h3⟩)
    . exact .inl (.inl h1)
    . by_cases e:q=b
      . subst e;exact .inl (.inr h3)
      . exact .inr ⟨q,by omega,by omega,h3⟩
theorem nG{c:Cod}{A:List (List Bool)}{n:Nat}(i j:Nat):∀(k a:Nat){O:List (List Bool)},a+k<=n->A5 n n O->(at2 (cabA c A k a O) i j=true↔at2 O i j=true\/∃p q,a<=p/\p<a+k/\q<p/\Q5 c A p=true/\Q5 c A q=true/\Pr p q i j)
 | 0,a,O,_,h=>by
  show at2 O i j=true↔_
  constructor
  . exact .inl
  . rintro(h|⟨p,q,h1,h2,_⟩)
    . exact h
    . omega
 | k + 1,a,O,e,h=>by
  show at2 (cabA c A k (a+1) (Xm c A a a 0 O)) i j=true↔_
  rw[nG i j k (a+1) (by omega) (Di (by omega) _ _ (by omega) h),nF (by omega) i j a 0 (by omega) h]
  constructor
  . rintro((h1|⟨q,h1,h2,h3⟩)|⟨p,q,h1,h2,h3⟩)
    . exact .inl h1
    . exact .inr ⟨a,q,zkq _,by omega,by omega,h3⟩
    . exact .inr ⟨p,q,by omega,by omega,h3⟩
  . rintro (h1|⟨p,q,h1,h2,h3,h4⟩)
    . exact .inl (.inl h1)
    . by_cases e:p=a
      . subst e;exact .inl (.inr ⟨q,zks _,by omega,h4⟩)
      . exact .inr ⟨p,q,by omega,by omega,h3,h4⟩
def vE(c:Cod)(i j:Nat):Prop:=∃b∈c.blocks,∃k x,b.code[k]?=some x/\writesD x=(i:Int)/\¬(x.op=2/\x.a=(j:Int))/\yN c.blocks j b (k+1)
def Zc(c:Cod)(r:Nat):Prop:=(r:Int)<c.ps\/Wan c.blocks r 0
theorem vF{c:Cod}(ok:BOk c.blocks c.regs.length)(h0:0<c.blocks.length){i j:Nat}(hi:i<c.regs.length)(hj:j<c.regs.length):at2 (clashD c) i j=true↔i≠j/\((Zc c i/\Zc c j)\/vE c i j\/vE c j i):=by
 obtain ⟨lA,lB⟩:=cJ ok;obtain⟨sA,sB⟩:=U1 c;have hF:∀r,r<c.regs.length->(Q5 c (liveD c).1 r=true↔Zc c r):=fun r hr=>by
  unfold Q5 Zc
  have:=lA 0 r hr
  unfold at2 at this;rw[zkx,this];simp
 have hP:∀m b,c.blocks[m]?=some b->∀q,q<c.regs.length->(at2 (liveD c).2.1 m q=true↔∃t∈tosD b.e,Wan c.blocks q t.toNat):=fun m b hb q hq=>lB m q b hq hb
 unfold clashD;rw[nE ok sB i j _ _ (by omega) (Dj _ _ (by omega) (H1 _ _)),nG i j _ _ (by omega) (H1 _ _),Vj];have hO:∀i j,i<c.regs.length->j<c.regs.length->i≠j->vE c i j->∃m b q,0<=m/\m<0+c.blocks.length/\c.blocks[m]?=some b/\∃x r,b.code[q]?=some x/\r<c.regs.length/\(C7 b.e r (b.code.drop (q+1))=1\/(C7 b.e r (b.code.drop (q+1))=0/\at2 (liveD c).2.1 m r=true))/\0<=writesD x/\¬(x.op=2/\x.a=(r:Int))/\(writesD x).toNat=i/\r=j:=fun i j hi hj hij ⟨b,hb,k,x,hx,hw,hn,hm⟩=>by
  obtain⟨m,hm'⟩:=zko hb;refine⟨m,b,k,zks _,by have:=(zqp.1 hm').1;omega,hm',x,j,hx,hj,?_,by omega,hn,by omega,rfl⟩;rcases hm with h|⟨h,h2⟩
  . exact .inl h
  . exact .inr ⟨h,(hP m b hm' j hj).2 h2⟩
 constructor
 . rintro ((h|⟨p,q,_,h1,h2,h3,h4,h5,h6⟩)|⟨m,b,q,_,h1,h2,x,r,b1,b2,b3,b4,b5,b6,b7⟩)
   . cases h
   . have f1:=(hF p (by omega)).1 h3
     have f2:=(hF q (by omega)).1 h4;rcases h6 with⟨rfl,rfl⟩|⟨rfl,rfl⟩
     . exact⟨h5,.inl ⟨f1,f2⟩⟩
     . exact⟨fun e=>h5 e.symm,.inl ⟨f2,f1⟩⟩
   . have hb:=zqy h2
     have hov:vE c (writesD x).toNat r:=⟨b,hb,q,x,b1,by omega,b5,by
      rcases b3 with h|⟨h,h'⟩
      . exact .inl h
      . exact .inr ⟨h,(hP m b h2 r b2).1 h'⟩⟩
     rcases b7 with⟨rfl,rfl⟩|⟨rfl,rfl⟩
     . exact⟨b6,.inr (.inl hov)⟩
     . exact⟨fun e=>b6 e.symm,.inr (.inr hov)⟩
 . rintro ⟨hij,⟨f1,f2⟩|h|h⟩
   . refine .inl (.inr ?_)
     rcases Nat.lt_or_gt_of_ne hij with e|e
     . exact⟨j,i,zks _,by omega,e,(hF j hj).2 f2,(hF i hi).2 f1,fun e=>hij e.symm,.inr ⟨rfl,rfl⟩⟩
     . exact⟨i,j,zks _,by omega,e,(hF i hi).2 f1,(hF j hj).2 f2,hij,.inl ⟨rfl,rfl⟩⟩
   . obtain⟨m,b,q,a1,a2,a3,x,r,b1,b2,b3,b4,b5,rfl,rfl⟩:=hO i j hi hj hij h
     exact .inr ⟨m,b,q,a1,a2,a3,x,r,b1,b2,b3,b4,b5,hij,.inl ⟨rfl,rfl⟩⟩
   . obtain⟨m,b,q,a1,a2,a3,x,r,b1,b2,b3,b4,b5,rfl,rfl⟩:=hO j i hj hi (fun e=>hij e.symm) h
     exact .inr ⟨m,b,q,a1,a2,a3,x,r,b1,b2,b3,b4,b5,fun e=>hij e.symm,.inr ⟨rfl,rfl⟩⟩
theorem meetC_3(e:Endd)(r:Nat):∀l:List Ins,C7 e r l=0\/C7 e r l=1\/C7 e r l=2
 |[]=>by rw[C7];split<;>simp
 | x :: l=>by
  rw[C7];by_cases h1:(r:Int)∈readsD x
  . rw[if_pos h1];simp
  . rw[if_neg h1]
    by_cases h2:writesD x=(r:Int)
    . rw[if_pos h2];simp
    . rw[if_neg h2];exact meetC_3 e r l
structure SOk(c:Cod):Prop where
 bl:c.blocks.length<=60000
 ok:∀b∈c.blocks,b.ok/\∀x∈b.code,(readsD x).length<=bigN
 to:∀b∈c.blocks,∀t∈tosD b.e,0<=t/\t<(c.blocks.length:Int)
section
variable {c:Cod}{r:Nat}
theorem yQ(hC:T 18=some G2)(hT:T 44=some F1)(hM:T 56=some E1)(hc:SOk c):∀(f:Nat)(seen:List Bool)(P L:List Int),f<=1000000000->seen.length=c.blocks.length->3*ctF seen+L.length<f->(∀t∈L,0<=t/\t<(c.blocks.length:Int))->∃e fr' K',evP ⟨A0,T,A2⟩ (.code (.loop Dx) (wF r c.blocks.length P.length L.length) (wM c seen P L))=some (.ok e fr' K')/\((e=.ret/\K'=⟨[],0,[]⟩/\lookP fr' 8=.bool true/\bfsD c.blocks r f seen L=true)\/(e=.exit 0/\(∃s' P',K'=wM c s' P' [])/\bfsD c.blocks r f seen L=false))
 |0,_,_,_,_,_,h,_=>by omega
 | f+1,seen,P,[],hf,hl,hm,ht=>by
  obtain⟨fr',e⟩:=XV (T:=T) (c:=c) (r:=r) (n:=c.blocks.length) (seen:=seen) (P:=P);exact⟨_,fr',_,B3 e,.inr ⟨rfl,⟨_,_,rfl⟩,rfl⟩⟩
 | f + 1,seen,P,t::L,hf,hl,hm,ht=>by
  obtain⟨h0,h1⟩:=ht t (zqo ..);have htr:=fun q hq=>ht q (zqn _ hq)
  obtain⟨k,rfl⟩:=zjb h0;have hk:k<c.blocks.length:=by omega
  have hb:=zqc hk;have hmem:=zqb hk;have hlen:P.length+1=(P++[(k:Int)]).length:=by simp
  have hwM:∀s,wM c s P ((k:Int)::L)=wM c s (P++[(k:Int)]) L:=fun s=>by unfold wM;rw[List.append_assoc];rfl
  simp only[zqu]at hm;rw[bfsD,zjc];by_cases hs:seen.getD k false=true
  . rw[if_pos hs]
    have e1:=XR (T:=T) (c:=c) (r:=r) (P:=P) (L:=L) hl hk hs;rw[hlen,hwM]at e1;obtain⟨e,fr',K',e2,e3⟩:=yQ hC hT hM hc f seen (P++[(k:Int)]) L (by omega) hl (by omega) htr;refine⟨e,fr',K',?_,e3⟩;rw[hwM];exact(loop_more e1).trans e2
  . rw [if_neg hs,hb]
    dsimp only;have hs':seen.getD k false=false:=by simpa using hs
    have hct:ctF (seen.set k true)+1=ctF seen:=cE (by omega) hs';have hok:=hc.ok _ hmem;have h2:=Gc (c.blocks[k]).e;by_cases m1:C7 (c.blocks[k]).e r (c.blocks[k]).code=1
    . rw[if_pos m1]
      obtain⟨fr',e1,e2⟩:=XS (T:=T) (c:=c) (r:=r) (P:=P) (L:=L) hM hl hk rfl hs' hok m1;exact⟨_,fr',_,L6 e1,.inl ⟨rfl,rfl,e2,rfl⟩⟩
    . rw [if_neg m1]
      by_cases m0:C7 (c.blocks[k]).e r (c.blocks[k]).code=0
      . rw [if_pos m0]
        have e1:=XU (T:=T) (c:=c) (r:=r) (P:=P) (L:=L) hC hT (by simp only[bigN];omega) hM hl hk rfl hs' hok m0;obtain⟨e,fr',K',e2,e3⟩:=yQ hC hT hM hc f (seen.set k true) [] (L++tosD (c.blocks[k]).e) (by omega) (by rw[zqf];exact hl) (by rw[zka];omega) (fun q hq=>by
         rcases zkd.1 hq with hq|hq
         . exact htr q hq
         . exact hc.to _ hmem q hq)
        exact⟨e,fr',K',(loop_more e1).trans e2,e3⟩
      . rw [if_neg m0]
        have m2:C7 (c.blocks[k]).e r (c.blocks[k]).code=2:=by
         rcases meetC_3 (c.blocks[k]).e r (c.blocks[k]).code with h|h|h
         . exact absurd h m0
         . exact absurd h m1
         . exact h
        have e1:=XT (T:=T) (c:=c) (r:=r) (P:=P) (L:=L) hM hl hk rfl hs' hok m2;rw[hlen,hwM,hwM]at e1;obtain⟨e,fr',K',e2,e3⟩:=yQ hC hT hM hc f (seen.set k true) (P++[(k:Int)]) L (by omega) (by rw[zqf];exact hl) (by omega) htr;exact⟨e,fr',K',by rw[hwM];exact(loop_more e1).trans e2,e3⟩
end
def blkN(c:Cod)(i:Nat):Blk:=c.blocks.getD i ⟨[],⟨0,0,0,0⟩⟩
theorem R3{c:Cod}{i:Nat}(h:i<c.blocks.length):blkN c i=c.blocks[i]:=by unfold blkN;simp[h]
theorem As(hCopyInts:T 18=some G2)(hmortiseref08_Tos:T 44=some F1)(hmortiseref08_meets:T 56=some E1){c:Cod}{i:Nat}{d:Nat}{r:Nat}(hk:SOk c/\i<c.blocks.length/\d<=(blkN c i).code.length):AM.Comes ⟨A0,T,A2⟩ 43 [c.F,.int .i64 (i:Int),.int .i64 (d:Int),.int .i64 (r:Int)] [.bool (E2 c.blocks (blkN c i) d r)]:=by
 refine⟨[.bool (E2 c.blocks (blkN c i) d r)],⟨[],0,[]⟩,?_,C1 rfl zqm rfl rfl rfl⟩;rw[A6 (c:=NW) (nt:=73) (rs:=[.tmp 8]) rfl (by simp)];unfold NW;unfold K0;obtain⟨hc,hi,hd⟩:=hk;rw[R3 hi]at hd|-;have hmem:=zqb hi;have tm:=fun K=>N5 (K:=K) (b:=c.blocks[i]) (f:=d) (r:=r) hmortiseref08_meets ⟨(hc.ok _ hmem).1,(hc.ok _ hmem).2,hd⟩
 have tt:=fun K=>d9 (K:=K) (e:=(c.blocks[i]).e) hmortiseref08_Tos
 have hg:=B5 (F:=Blk.F) (l:=c.blocks) hi;have hmk:=fun K=>cC (k:=.i64) (k':=.i64) (n:=c.blocks.length) (K:=K) (by have:=hc.bl;omega)
 obtain⟨e,fr',K',h1,h2⟩:=yQ (T:=T) (r:=r) hCopyInts hmortiseref08_Tos hmortiseref08_meets hc (3*c.blocks.length+3) (noneL c.blocks.length) [] (tosD (c.blocks[i]).e) (by have:=hc.bl;omega) (by simp[noneL]) (by have:=Gc (c.blocks[i]).e;have:=gP c.blocks.length;simp only[noneL];omega) (hc.to _ hmem);unfold E2;have hl2:(ints (tosD (c.blocks[i]).e)).length=(tosD (c.blocks[i]).e).length:=by simp[ints]
 unfold wF wM at h1;rw[zqj,zke]at h1;by_cases m1:C7 (c.blocks[i]).e r ((c.blocks[i]).code.drop d)=1
 . rw[if_pos m1]
   rw[m1]at tm;simp only[Blk.F,Endd.F]at tm tt hg;unfold Cod.F;simp -implicitDefEqProofs only[tm,tt,hg,hi,X1,hmk,show((1:Nat):Int)=1 from rfl,show decide ((1:Int)>0)=true from rfl,show decide ((1:Int)=1)=true from rfl,XP,seval]
 . rw [if_neg m1]
   by_cases m0:C7 (c.blocks[i]).e r ((c.blocks[i]).code.drop d)=0
   . rw [if_pos m0]
     rw[m0]at tm;simp only[Blk.F,Endd.F]at tm tt hg;rcases h2 with⟨rfl,rfl,h3,h4⟩|⟨rfl,⟨s',P',rfl⟩,h4⟩
     . rw[show bfsD c.blocks r (3*c.blocks.length+3) (zqq c.blocks.length false) (tosD (c.blocks[i]).e)=true from h4]
       unfold Cod.F;simp -implicitDefEqProofs only[tm,tt,hg,hi,X1,hmk,hl2,h1,h3,zqa,zke,show((0:Nat):Int)=0 from rfl,show decide ((0:Int)>0)=false from rfl,XP,seval]
     . rw[show bfsD c.blocks r (3*c.blocks.length+3) (zqq c.blocks.length false) (tosD (c.blocks[i]).e)=false from h4]
       unfold wM at h1;unfold Cod.F;simp -implicitDefEqProofs only[tm,tt,hg,hi,X1,hmk,hl2,h1,zqa,zke,show((0:Nat):Int)=0 from rfl,show decide ((0:Int)>0)=false from rfl,XP,seval]
   . have m2:C7 (c.blocks[i]).e r ((c.blocks[i]).code.drop d)=2:=by
      rcases meetC_3 (c.blocks[i]).e r ((c.blocks[i]).code.drop d)with h|h|h
      . exact absurd h m0
      . exact absurd h m1
      . exact h
     rw[if_neg m0];rw[m2]at tm;simp only[Blk.F,Endd.F]at tm tt hg;unfold Cod.F;simp -implicitDefEqProofs only[tm,tt,hg,hi,X1,hmk,show((2:Nat):Int)=2 from rfl,show decide ((2:Int)>0)=true from rfl,show decide ((2:Int)=1)=false from rfl,XP,seval]
def B7:=g0 (fun p:(Cod)×(Nat)×(Nat)×(Nat)=>[p.1.F,.int .i64 (p.2.1:Int),.int .i64 (p.2.2.1:Int),.int .i64 (p.2.2.2:Int)]) (fun p=>[.bool (E2 p.1.blocks (blkN p.1 p.2.1) p.2.2.1 p.2.2.2)]) (fun p=>SOk p.1/\p.2.1<p.1.blocks.length/\p.2.2.1<=(blkN p.1 p.2.1).code.length)
theorem U3(hmortiseref08_Wanted:T 43=some B7){c:Cod}{i:Nat}{d:Nat}{r:Nat}{K:PK}(hk:SOk c/\i<c.blocks.length/\d<=(blkN c i).code.length):evP ⟨A0,T,A2⟩ (.call 43 [c.F,.int .i64 (i:Int),.int .i64 (d:Int),.int .i64 (r:Int)] K)=some (.val (openTs K.os.length [.bool (E2 c.blocks (blkN c i) d r)]).1 ⟨K.os++(openTs K.os.length [.bool (E2 c.blocks (blkN c i) d r)]).2,K.ext,K.tch⟩):=B8 hmortiseref08_Wanted (by simp -implicitDefEqProofs only[VV,XP,seval]) (C2 (a:=fun p:(Cod)×(Nat)×(Nat)×(Nat)=>[p.1.F,.int .i64 (p.2.1:Int),.int .i64 (p.2.2.1:Int),.int .i64 (p.2.2.2:Int)]) (r:=fun p=>[.bool (E2 p.1.blocks (blkN p.1 p.2.1) p.2.2.1 p.2.2.2)]) (fun x y e=>by simp only[VJ]at e;simp only[e]) (c,i,d,r) hk) (by simp -implicitDefEqProofs only[VN,XP,seval])
theorem Dp(hCopyInts:T 18=some G2)(hmortiseref08_Tos:T 44=some F1)(hmortiseref08_meets:T 56=some E1)(hP:PEok ⟨A0,T,A2⟩):TC A0 43 B7:=C8 hP fun p h=>As hCopyInts hmortiseref08_Tos hmortiseref08_meets h
theorem Br(hmortiseref08_Wanted:T 43=some B7){c:Cod}{i:Nat}{r:Nat}(hk:SOk c/\i<c.blocks.length):AM.Comes ⟨A0,T,A2⟩ 25 [c.F,.int .i64 (i:Int),.int .i64 (r:Int)] [.bool (E2 c.blocks (blkN c i) 0 r)]:=by
 refine⟨[.bool (E2 c.blocks (blkN c i) 0 r)],⟨[],0,[]⟩,?_,C1 rfl zqm rfl rfl rfl⟩;rw[A6 (c:=NK) (nt:=11) (rs:=[.tmp 6]) rfl (by simp)];unfold NK;unfold K0;have tw:=fun K=>U3 (K:=K) (c:=c) (i:=i) (d:=0) (r:=r) hmortiseref08_Wanted ⟨hk.1,hk.2,zks _⟩
 simp only[Cod.F,show((0:Nat):Int)=0 from rfl]at tw;unfold Cod.F;simp -implicitDefEqProofs only[tw,XP,seval]
def A3:=g0 (fun p:(Cod)×(Nat)×(Nat)=>[p.1.F,.int .i64 (p.2.1:Int),.int .i64 (p.2.2:Int)]) (fun p=>[.bool (E2 p.1.blocks (blkN p.1 p.2.1) 0 p.2.2)]) (fun p=>SOk p.1/\p.2.1<p.1.blocks.length)
theorem E9(hmortiseref15_Ahead:T 25=some A3){c:Cod}{i:Nat}{r:Nat}{K:PK}(hk:SOk c/\i<c.blocks.length):evP ⟨A0,T,A2⟩ (.call 25 [c.F,.int .i64 (i:Int),.int .i64 (r:Int)] K)=some (.val (openTs K.os.length [.bool (E2 c.blocks (blkN c i) 0 r)]).1 ⟨K.os++(openTs K.os.length [.bool (E2 c.blocks (blkN c i) 0 r)]).2,K.ext,K.tch⟩):=B8 hmortiseref15_Ahead (by simp -implicitDefEqProofs only[VV,XP,seval]) (C2 (a:=fun p:(Cod)×(Nat)×(Nat)=>[p.1.F,.int .i64 (p.2.1:Int),.int .i64 (p.2.2:Int)]) (r:=fun p=>[.bool (E2 p.1.blocks (blkN p.1 p.2.1) 0 p.2.2)]) (fun x y e=>by simp only[VJ]at e;simp only[e]) (c,i,r) hk) (by simp -implicitDefEqProofs only[VN,XP,seval])
theorem Eh(hmortiseref08_Wanted:T 43=some B7)(hP:PEok ⟨A0,T,A2⟩):TC A0 25 A3:=C8 hP fun p h=>Br hmortiseref08_Wanted h
section
variable {c:Cod}{r j:Nat}{L:List Int}
theorem XX(hA:T 25=some A3)(hc:SOk c)(h:j<L.length)(hs:L.length<=2)(ht:0<=L[j]/\L[j]<(c.blocks.length:Int))(hw:E2 c.blocks (blkN c L[j].toNat) 0 r=false):evP ⟨A0,T,A2⟩ (.code Pz [(2,.int .i64 (r:Int)),(3,.ptr 0 0 0),(7,.msl 1 0 L.length 1),(8,.int .i64 (j:Int))] ⟨[.row 1 [.agg [.str c.name,.int .i64 c.ty,.int .i64 c.ps,fslN (ints c.regs),fslN (c.blocks.map Blk.F)]] 5,.row 0 (ints L) 1],0,[]⟩)=some (.ok .normal [(2,.int .i64 (r:Int)),(3,.ptr 0 0 0),(7,.msl 1 0 L.length 1),(8,.int .i64 ((j+1:Nat):Int))] ⟨[.row 1 [.agg [.str c.name,.int .i64 c.ty,.int .i64 c.ps,fslN (ints c.regs),fslN (c.blocks.map Blk.F)]] 5,.row 0 (ints L) 1],0,[]⟩):=by
 have hlt:decide ((j:Int)<(L.length:Int))=true:=by simp[h]
 have hi:(ints L)[j]?=some (.int .i64 L[j]):=by simp[ints,h]
 have hwr:=A8 (i:=j) (by omega);obtain⟨t,hte⟩:=zjb ht.1;rw[hte]at hi hw;rw[zjc]at hw;have ta:=fun K=>E9 (K:=K) (c:=c) (i:=t) (r:=r) hA ⟨hc,by omega⟩
 rw[hw]at ta;simp only[Cod.F]at ta;unfold Pz;simp -implicitDefEqProofs only[hlt,hi,hwr,ta,h,XP,seval]
theorem XY(hA:T 25=some A3)(hc:SOk c)(h:j<L.length)(ht:0<=L[j]/\L[j]<(c.blocks.length:Int))(hw:E2 c.blocks (blkN c L[j].toNat) 0 r=true):∃fr',evP ⟨A0,T,A2⟩ (.code Pz [(2,.int .i64 (r:Int)),(3,.ptr 0 0 0),(7,.msl 1 0 L.length 1),(8,.int .i64 (j:Int))] ⟨[.row 1 [.agg [.str c.name,.int .i64 c.ty,.int .i64 c.ps,fslN (ints c.regs),fslN (c.blocks.map Blk.F)]] 5,.row 0 (ints L) 1],0,[]⟩)=some (.ok .ret fr' ⟨[],0,[]⟩)/\lookP fr' 6=.bool true:=by
 have hlt:decide ((j:Int)<(L.length:Int))=true:=by simp[h]
 have hi:(ints L)[j]?=some (.int .i64 L[j]):=by simp[ints,h]
 obtain⟨t,hte⟩:=zjb ht.1;rw[hte]at hi hw;rw[zjc]at hw;have ta:=fun K=>E9 (K:=K) (c:=c) (i:=t) (r:=r) hA ⟨hc,by omega⟩
 rw[hw]at ta;simp only[Cod.F]at ta;unfold Pz;simp -implicitDefEqProofs only[hlt,hi,ta,h,XP,seval];exact⟨_,rfl,rfl⟩
theorem XZ:∃fr',evP ⟨A0,T,A2⟩ (.code Pz [(2,.int .i64 (r:Int)),(3,.ptr 0 0 0),(7,.msl 1 0 L.length 1),(8,.int .i64 (L.length:Int))] ⟨[.row 1 [.agg [.str c.name,.int .i64 c.ty,.int .i64 c.ps,fslN (ints c.regs),fslN (c.blocks.map Blk.F)]] 5,.row 0 (ints L) 1],0,[]⟩)=some (.ok (.exit 0) fr' ⟨[.row 1 [.agg [.str c.name,.int .i64 c.ty,.int .i64 c.ps,fslN (ints c.regs),fslN (c.blocks.map Blk.F)]] 5,.row 0 (ints L) 1],0,[]⟩):=by
 have hlt:decide ((L.length:Int)<(L.length:Int))=false:=by simp
 unfold Pz;simp -implicitDefEqProofs only[hlt,XP,seval];exact⟨_,rfl⟩
def behB(c:Cod)(r:Nat)(L:List Int):Bool:=L.any fun t=>E2 c.blocks (blkN c t.toNat) 0 r
theorem KL(hA:T 25=some A3)(hc:SOk c)(hs:L.length<=2)(ht:∀t∈L,0<=t/\t<(c.blocks.length:Int)):∀(k j:Nat),L.length=j+k->∃e fr' K',evP ⟨A0,T,A2⟩ (.code (.loop Pz) [(2,.int .i64 (r:Int)),(3,.ptr 0 0 0),(7,.msl 1 0 L.length 1),(8,.int .i64 (j:Int))] ⟨[.row 1 [.agg [.str c.name,.int .i64 c.ty,.int .i64 c.ps,fslN (ints c.regs),fslN (c.blocks.map Blk.F)]] 5,.row 0 (ints L) 1],0,[]⟩)=some (.ok e fr' K')/\((e=.ret/\K'=⟨[],0,[]⟩/\lookP fr' 6=.bool true/\behB c r (L.drop j)=true)\/(e=.exit 0/\K'=⟨[.row 1 [.agg [.str c.name,.int .i64 c.ty,.int .i64 c.ps,fslN (ints c.regs),fslN (c.blocks.map Blk.F)]] 5,.row 0 (ints L) 1],0,[]⟩/\behB c r (L.drop j)=false))
 | 0,j,h=>by
  obtain rfl:j=L.length:=by omega
  obtain⟨fr',e⟩:=XZ (T:=T) (c:=c) (r:=r) (L:=L);exact⟨_,fr',_,B3 e,.inr ⟨rfl,rfl,by rw[zqt];rfl⟩⟩
 | k+1,j,h=>by
  have hj:j<L.length:=by omega
  have hd:behB c r (L.drop j)=(E2 c.blocks (blkN c L[j].toNat) 0 r||behB c r (L.drop (j+1))):=by rw[zqr hj];rfl
  rw[hd];cases hw:E2 c.blocks (blkN c L[j].toNat) 0 r with
  | true =>
   obtain⟨fr',e,p⟩:=XY (T:=T) hA hc hj (ht _ (zqb hj)) hw;exact⟨_,fr',_,L6 e,.inl ⟨rfl,rfl,p,rfl⟩⟩
  | false =>
   obtain⟨e,fr',K',h1,h2⟩:=KL hA hc hs ht k (j+1) (by omega);exact⟨e,fr',K',(loop_more (XX hA hc hj hs (ht _ (zqb hj)) hw)).trans h1,by rw[zky];exact h2⟩
end
theorem At(hmortiseref08_Tos:T 44=some F1)(hmortiseref15_Ahead:T 25=some A3){c:Cod}{i:Nat}{r:Nat}(hk:SOk c/\i<c.blocks.length):AM.Comes ⟨A0,T,A2⟩ 26 [c.F,.int .i64 (i:Int),.int .i64 (r:Int)] [.bool (behB c r (tosD (blkN c i).e))]:=by
 refine⟨[.bool (behB c r (tosD (blkN c i).e))],⟨[],0,[]⟩,?_,C1 rfl zqm rfl rfl rfl⟩;rw[A6 (c:=NL) (nt:=29) (rs:=[.tmp 6]) rfl (by simp)];unfold NL;unfold K0;obtain⟨hc,hi⟩:=hk;rw[R3 hi];have tt:=fun K=>d9 (K:=K) (e:=(c.blocks[i]).e) hmortiseref08_Tos
 have hg:=B5 (F:=Blk.F) (l:=c.blocks) hi;have hl2:(ints (tosD (c.blocks[i]).e)).length=(tosD (c.blocks[i]).e).length:=by simp[ints]
 obtain⟨e,fr',K',h1,h2⟩:=KL (T:=T) (r:=r) (L:=tosD (c.blocks[i]).e) hmortiseref15_Ahead hc (Gc _) (hc.to _ (zqb hi)) _ 0 (zkr _).symm;rw[zqh]at h2;simp only[Blk.F,Endd.F]at hg tt;simp only[show((0:Nat):Int)=0 from rfl]at h1;unfold Cod.F;rcases h2 with⟨rfl,rfl,h3,h4⟩|⟨rfl,rfl,h4⟩
 . rw[h4]
   simp -implicitDefEqProofs only[tt,hg,hi,hl2,h1,h3,zqa,XP,seval]
 . rw[h4]
   simp -implicitDefEqProofs only[tt,hg,hi,hl2,h1,zqa,XP,seval]
def C0:=g0 (fun p:(Cod)×(Nat)×(Nat)=>[p.1.F,.int .i64 (p.2.1:Int),.int .i64 (p.2.2:Int)]) (fun p=>[.bool (behB p.1 p.2.2 (tosD (blkN p.1 p.2.1).e))]) (fun p=>SOk p.1/\p.2.1<p.1.blocks.length)
theorem o6(hmortiseref15_Behind:T 26=some C0){c:Cod}{i:Nat}{r:Nat}{K:PK}(hk:SOk c/\i<c.blocks.length):evP ⟨A0,T,A2⟩ (.call 26 [c.F,.int .i64 (i:Int),.int .i64 (r:Int)] K)=some (.val (openTs K.os.length [.bool (behB c r (tosD (blkN c i).e))]).1 ⟨K.os++(openTs K.os.length [.bool (behB c r (tosD (blkN c i).e))]).2,K.ext,K.tch⟩):=B8 hmortiseref15_Behind (by simp -implicitDefEqProofs only[VV,XP,seval]) (C2 (a:=fun p:(Cod)×(Nat)×(Nat)=>[p.1.F,.int .i64 (p.2.1:Int),.int .i64 (p.2.2:Int)]) (r:=fun p=>[.bool (behB p.1 p.2.2 (tosD (blkN p.1 p.2.1).e))]) (fun x y e=>by simp only[VJ]at e;simp only[e]) (c,i,r) hk) (by simp -implicitDefEqProofs only[VN,XP,seval])
theorem Dq(hmortiseref08_Tos:T 44=some F1)(hmortiseref15_Ahead:T 25=some A3)(hP:PEok ⟨A0,T,A2⟩):TC A0 26 C0:=C8 hP fun p h=>At hmortiseref08_Tos hmortiseref15_Ahead h
def CH(x:Ins)(p q:Nat):Bool:=decide (writesD x=(p:Int)) && !(decide (x.op=2)&&decide (x.a=(q:Int)))
def ovL(l:List Blk)(b:Blk)(p q:Nat):List Ins->Nat->Bool
 |[],_=>false
 |x::t,k=>(CH x p q&&E2 l b (k+1) q)||ovL l b p q t (k+1)
section
variable {c:Cod}{p q i k:Nat}{b:Blk}
theorem YA(hW:T 45=some B4)(hA:T 43=some B7)(hc:SOk c)(hi:i<c.blocks.length)(hk:k<(blkN c i).code.length)(hn:(CH (blkN c i).code[k] p q&&E2 c.blocks (blkN c i) (k+1) q)=false):evP ⟨A0,T,A2⟩ (.code Qa [(1,.int .i64 (p:Int)),(2,.int .i64 (q:Int)),(3,.ptr 0 0 0),(7,.int .i64 (i:Int)),(8,fslN ((blkN c i).code.map Ins.F)),(9,.int .i64 (k:Int))] ⟨[.row 1 [.agg [.str c.name,.int .i64 c.ty,.int .i64 c.ps,fslN (ints c.regs),fslN (c.blocks.map Blk.F)]] 5],0,[]⟩)=some (.ok .normal [(1,.int .i64 (p:Int)),(2,.int .i64 (q:Int)),(3,.ptr 0 0 0),(7,.int .i64 (i:Int)),(8,fslN ((blkN c i).code.map Ins.F)),(9,.int .i64 ((k+1:Nat):Int))] ⟨[.row 1 [.agg [.str c.name,.int .i64 c.ty,.int .i64 c.ps,fslN (ints c.regs),fslN (c.blocks.map Blk.F)]] 5],0,[]⟩):=by
 have hb:(blkN c i).ok:=by rw[R3 hi];exact(hc.ok _ (zqb hi)).1
 have hlt:decide ((k:Int)<((blkN c i).code.length:Int))=true:=by simp[hk]
 have hg:=B5 (F:=Ins.F) hk;have hw:=A8 (i:=k) (by have:=hb.2;simp only[bigN]at this;omega);have tw:=fun K=>M9 (K:=K) (x:=(blkN c i).code[k]) hW
 have ta:=fun K=>U3 (K:=K) (c:=c) (i:=i) (d:=k+1) (r:=q) hA ⟨hc,hi,hk⟩
 simp only[Cod.F]at ta;simp only[Ins.F]at hg tw;unfold Qa;unfold CH at hn;by_cases e1:writesD (blkN c i).code[k]=(p:Int)
 . by_cases e2:(blkN c i).code[k].op=2
   . by_cases e3:(blkN c i).code[k].a=(q:Int)
     . rw[e1]at tw
       simp -implicitDefEqProofs only[hlt,hg,hw,tw,eq_true e2,eq_true e3,zqa,decide_true,XP,seval]
     . simp only[e1,e2,e3,decide_true,decide_false,Bool.and_false,Bool.not_false,zkz]at hn
       rw[hn]at ta;rw[e1]at tw;simp -implicitDefEqProofs only[hlt,hg,hw,tw,ta,eq_true e2,e3,zqa,decide_true,XP,seval]
   . simp only[e1,e2,decide_true,decide_false,Bool.false_and,Bool.not_false,zkz]at hn
     rw[hn]at ta;rw[e1]at tw;simp -implicitDefEqProofs only[hlt,hg,hw,tw,ta,e2,zqa,decide_true,XP,seval]
 . simp -implicitDefEqProofs only[hlt,hg,hw,tw,e1,zqa,XP,seval]
theorem YB(hW:T 45=some B4)(hA:T 43=some B7)(hc:SOk c)(hi:i<c.blocks.length)(hk:k<(blkN c i).code.length)(hn:(CH (blkN c i).code[k] p q&&E2 c.blocks (blkN c i) (k+1) q)=true):∃fr',evP ⟨A0,T,A2⟩ (.code Qa [(1,.int .i64 (p:Int)),(2,.int .i64 (q:Int)),(3,.ptr 0 0 0),(7,.int .i64 (i:Int)),(8,fslN ((blkN c i).code.map Ins.F)),(9,.int .i64 (k:Int))] ⟨[.row 1 [.agg [.str c.name,.int .i64 c.ty,.int .i64 c.ps,fslN (ints c.regs),fslN (c.blocks.map Blk.F)]] 5],0,[]⟩)=some (.ok .ret fr' ⟨[],0,[]⟩)/\lookP fr' 6=.bool true:=by
 have hb:(blkN c i).ok:=by rw[R3 hi];exact(hc.ok _ (zqb hi)).1
 have hlt:decide ((k:Int)<((blkN c i).code.length:Int))=true:=by simp[hk]
 have hg:=B5 (F:=Ins.F) hk;have hw:=A8 (i:=k) (by have:=hb.2;simp only[bigN]at this;omega);have tw:=fun K=>M9 (K:=K) (x:=(blkN c i).code[k]) hW
 have ta:=fun K=>U3 (K:=K) (c:=c) (i:=i) (d:=k+1) (r:=q) hA ⟨hc,hi,hk⟩
 obtain⟨h1,h2⟩:=zkw.1 hn;rw[h2]at ta;obtain⟨h3,h4⟩:=zkw.1 h1;rw[of_decide_eq_true h3]at tw;simp only[Cod.F]at ta;simp only[Ins.F]at hg tw;unfold Qa;by_cases e2:(blkN c i).code[k].op=2
 . have e3:¬(blkN c i).code[k].a=(q:Int):=fun e=>by simp[e2,e]at h4
   simp -implicitDefEqProofs only[hlt,hg,hw,tw,ta,eq_true e2,e3,zqa,decide_true,XP,seval];exact⟨_,rfl,rfl⟩
 . simp -implicitDefEqProofs only[hlt,hg,hw,tw,ta,e2,zqa,decide_true,XP,seval]
   exact⟨_,rfl,rfl⟩
theorem YC:∃fr',evP ⟨A0,T,A2⟩ (.code Qa [(1,.int .i64 (p:Int)),(2,.int .i64 (q:Int)),(3,.ptr 0 0 0),(7,.int .i64 (i:Int)),(8,fslN ((blkN c i).code.map Ins.F)),(9,.int .i64 ((blkN c i).code.length:Int))] ⟨[.row 1 [.agg [.str c.name,.int .i64 c.ty,.int .i64 c.ps,fslN (ints c.regs),fslN (c.blocks.map Blk.F)]] 5],0,[]⟩)=some (.ok (.exit 2) fr' ⟨[.row 1 [.agg [.str c.name,.int .i64 c.ty,.int .i64 c.ps,fslN (ints c.regs),fslN (c.blocks.map Blk.F)]] 5],0,[]⟩)/\lookP fr' 1=.int .i64 (p:Int)/\lookP fr' 2=.int .i64 (q:Int)/\lookP fr' 3=.ptr 0 0 0/\lookP fr' 7=.int .i64 (i:Int):=by
 have hlt:decide (((blkN c i).code.length:Int)<((blkN c i).code.length:Int))=false:=by simp
 unfold Qa;simp -implicitDefEqProofs only[hlt,zqa,XP,seval];exact⟨_,rfl,rfl,rfl,rfl,rfl⟩
theorem EX(hW:T 45=some B4)(hA:T 43=some B7)(hc:SOk c)(hi:i<c.blocks.length):∀(n k:Nat),(blkN c i).code.length=k+n->∃e fr' K',evP ⟨A0,T,A2⟩ (.code (.loop Qa) [(1,.int .i64 (p:Int)),(2,.int .i64 (q:Int)),(3,.ptr 0 0 0),(7,.int .i64 (i:Int)),(8,fslN ((blkN c i).code.map Ins.F)),(9,.int .i64 (k:Int))] ⟨[.row 1 [.agg [.str c.name,.int .i64 c.ty,.int .i64 c.ps,fslN (ints c.regs),fslN (c.blocks.map Blk.F)]] 5],0,[]⟩)=some (.ok e fr' K')/\((e=.ret/\K'=⟨[],0,[]⟩/\lookP fr' 6=.bool true/\ovL c.blocks (blkN c i) p q ((blkN c i).code.drop k) k=true)\/(e=.exit 2/\K'=⟨[.row 1 [.agg [.str c.name,.int .i64 c.ty,.int .i64 c.ps,fslN (ints c.regs),fslN (c.blocks.map Blk.F)]] 5],0,[]⟩/\(lookP fr' 1=.int .i64 (p:Int)/\lookP fr' 2=.int .i64 (q:Int)/\lookP fr' 3=.ptr 0 0 0/\lookP fr' 7=.int .i64 (i:Int))/\ovL c.blocks (blkN c i) p q ((blkN c i).code.drop k) k=false))
 | 0,k,h=>by
  obtain rfl:k=(blkN c i).code.length:=by omega
  obtain⟨fr',e,h⟩:=YC (T:=T) (c:=c) (p:=p) (q:=q) (i:=i);exact⟨_,fr',_,B3 e,.inr ⟨rfl,rfl,h,by rw[zqt];rfl⟩⟩
 | n+1,k,h=>by
  have hk:k<(blkN c i).code.length:=by omega
  have hd:ovL c.blocks (blkN c i) p q ((blkN c i).code.drop k) k=((CH (blkN c i).code[k] p q&&E2 c.blocks (blkN c i) (k+1) q)||ovL c.blocks (blkN c i) p q ((blkN c i).code.drop (k+1)) (k+1)):=by rw[zqr hk];rfl
  rw[hd];cases hw:(CH (blkN c i).code[k] p q&&E2 c.blocks (blkN c i) (k+1) q)with
  | true =>
   obtain⟨fr',e,p⟩:=YB (T:=T) hW hA hc hi hk hw;exact⟨_,fr',_,L6 e,.inl ⟨rfl,rfl,p,rfl⟩⟩
  | false =>
   obtain⟨e,fr',K',h1,h2⟩:=EX hW hA hc hi n (k+1) (by omega);exact⟨e,fr',K',(loop_more (YA hW hA hc hi hk hw)).trans h1,by rw[zky];exact h2⟩
def ovT(c:Cod)(p q:Nat):Nat->Nat->Bool
 |0,_=>false
 |n+1,i=>ovL c.blocks (blkN c i) p q (blkN c i).code 0||ovT c p q n (i+1)
def overB(c:Cod)(p q:Nat):Bool:=ovT c p q c.blocks.length 0
theorem YD(hW:T 45=some B4)(hA:T 43=some B7)(hc:SOk c)(hi:i<c.blocks.length)(hn:ovL c.blocks (blkN c i) p q (blkN c i).code 0=false):evP ⟨A0,T,A2⟩ (.code Qb [(1,.int .i64 (p:Int)),(2,.int .i64 (q:Int)),(3,.ptr 0 0 0),(7,.int .i64 (i:Int))] ⟨[.row 1 [.agg [.str c.name,.int .i64 c.ty,.int .i64 c.ps,fslN (ints c.regs),fslN (c.blocks.map Blk.F)]] 5],0,[]⟩)=some (.ok .normal [(1,.int .i64 (p:Int)),(2,.int .i64 (q:Int)),(3,.ptr 0 0 0),(7,.int .i64 ((i+1:Nat):Int))] ⟨[.row 1 [.agg [.str c.name,.int .i64 c.ty,.int .i64 c.ps,fslN (ints c.regs),fslN (c.blocks.map Blk.F)]] 5],0,[]⟩):=by
 have hlt:decide ((i:Int)<(c.blocks.length:Int))=true:=by simp[hi]
 have hg:=B5 (F:=Blk.F) (l:=c.blocks) hi;have hw:=A8 (i:=i) (by have:=hc.bl;omega);rw[<-R3 hi]at hg;obtain⟨e,fr',K',h1,h2⟩:=EX (T:=T) (p:=p) (q:=q) hW hA hc hi (blkN c i).code.length 0 (zkr _).symm;rw[zqh]at h2;simp only[show((0:Nat):Int)=0 from rfl]at h1;simp only[Blk.F]at hg;rcases h2 with⟨_,_,_,h4⟩|⟨rfl,rfl,⟨a1,a2,a3,a4⟩,h4⟩
 . rw[hn]at h4;cases h4
 . unfold Qb
   simp -implicitDefEqProofs only[hlt,hg,hw,h1,a1,a2,a3,a4,hi,zqa,XP,seval]
theorem YE(hW:T 45=some B4)(hA:T 43=some B7)(hc:SOk c)(hi:i<c.blocks.length)(hn:ovL c.blocks (blkN c i) p q (blkN c i).code 0=true):∃fr',evP ⟨A0,T,A2⟩ (.code Qb [(1,.int .i64 (p:Int)),(2,.int .i64 (q:Int)),(3,.ptr 0 0 0),(7,.int .i64 (i:Int))] ⟨[.row 1 [.agg [.str c.name,.int .i64 c.ty,.int .i64 c.ps,fslN (ints c.regs),fslN (c.blocks.map Blk.F)]] 5],0,[]⟩)=some (.ok .ret fr' ⟨[],0,[]⟩)/\lookP fr' 6=.bool true:=by
 have hlt:decide ((i:Int)<(c.blocks.length:Int))=true:=by simp[hi]
 have hg:=B5 (F:=Blk.F) (l:=c.blocks) hi;rw[<-R3 hi]at hg;obtain⟨e,fr',K',h1,h2⟩:=EX (T:=T) (p:=p) (q:=q) hW hA hc hi (blkN c i).code.length 0 (zkr _).symm;rw[zqh]at h2;simp only[show((0:Nat):Int)=0 from rfl]at h1;simp only[Blk.F]at hg;rcases h2 with⟨rfl,rfl,h3,h4⟩|⟨_,_,_,h4⟩
 . unfold Qb
   simp -implicitDefEqProofs only[hlt,hg,h1,h3,hi,zqa,XP,seval];exact⟨_,rfl,h3⟩
 . rw[hn]at h4;cases h4
theorem YF:∃fr',evP ⟨A0,T,A2⟩ (.code Qb [(1,.int .i64 (p:Int)),(2,.int .i64 (q:Int)),(3,.ptr 0 0 0),(7,.int .i64 (c.blocks.length:Int))] ⟨[.row 1 [.agg [.str c.name,.int .i64 c.ty,.int .i64 c.ps,fslN (ints c.regs),fslN (c.blocks.map Blk.F)]] 5],0,[]⟩)=some (.ok (.exit 0) fr' ⟨[.row 1 [.agg [.str c.name,.int .i64 c.ty,.int .i64 c.ps,fslN (ints c.regs),fslN (c.blocks.map Blk.F)]] 5],0,[]⟩):=by
 have hlt:decide ((c.blocks.length:Int)<(c.blocks.length:Int))=false:=by simp
 unfold Qb;simp -implicitDefEqProofs only[hlt,zqa,XP,seval];exact⟨_,rfl⟩
theorem KM(hW:T 45=some B4)(hA:T 43=some B7)(hc:SOk c):∀(n i:Nat),c.blocks.length=i+n->∃e fr' K',evP ⟨A0,T,A2⟩ (.code (.loop Qb) [(1,.int .i64 (p:Int)),(2,.int .i64 (q:Int)),(3,.ptr 0 0 0),(7,.int .i64 (i:Int))] ⟨[.row 1 [.agg [.str c.name,.int .i64 c.ty,.int .i64 c.ps,fslN (ints c.regs),fslN (c.blocks.map Blk.F)]] 5],0,[]⟩)=some (.ok e fr' K')/\((e=.ret/\K'=⟨[],0,[]⟩/\lookP fr' 6=.bool true/\ovT c p q n i=true)\/(e=.exit 0/\K'=⟨[.row 1 [.agg [.str c.name,.int .i64 c.ty,.int .i64 c.ps,fslN (ints c.regs),fslN (c.blocks.map Blk.F)]] 5],0,[]⟩/\ovT c p q n i=false))
 | 0,i,h=>by
  obtain rfl:i=c.blocks.length:=by omega
  obtain⟨fr',e⟩:=YF (T:=T) (c:=c) (p:=p) (q:=q);exact⟨_,fr',_,B3 e,.inr ⟨rfl,rfl,rfl⟩⟩
 | n+1,i,h=>by
  have hi:i<c.blocks.length:=by omega
  rw[ovT];cases hw:ovL c.blocks (blkN c i) p q (blkN c i).code 0 with
  | true =>
   obtain⟨fr',e,p⟩:=YE (T:=T) hW hA hc hi hw;exact⟨_,fr',_,L6 e,.inl ⟨rfl,rfl,p,rfl⟩⟩
  | false =>
   obtain⟨e,fr',K',h1,h2⟩:=KM hW hA hc n (i+1) (by omega);exact⟨e,fr',K',(loop_more (YD hW hA hc hi hw)).trans h1,by rw[zky];exact h2⟩
end
theorem Ci(hmortiseref06_Writes:T 45=some B4)(hmortiseref08_Wanted:T 43=some B7){c:Cod}{p:Nat}{q:Nat}(hk:SOk c):AM.Comes ⟨A0,T,A2⟩ 31 [c.F,.int .i64 (p:Int),.int .i64 (q:Int)] [.bool (overB c p q)]:=by
 refine⟨[.bool (overB c p q)],⟨[],0,[]⟩,?_,C1 rfl zqm rfl rfl rfl⟩;rw[A6 (c:=NN) (nt:=59) (rs:=[.tmp 6]) rfl (by simp)];unfold NN;unfold K0;obtain⟨e,fr',K',h1,h2⟩:=KM (T:=T) (p:=p) (q:=q) hmortiseref06_Writes hmortiseref08_Wanted hk c.blocks.length 0 (zkr _).symm;simp only[show((0:Nat):Int)=0 from rfl]at h1;unfold Cod.F overB;rcases h2 with⟨rfl,rfl,h3,h4⟩|⟨rfl,rfl,h4⟩
 . rw[h4]
   simp -implicitDefEqProofs only[h1,h3,XP,seval]
 . rw[h4]
   simp -implicitDefEqProofs only[h1,XP,seval]
def C6:=g0 (fun p:(Cod)×(Nat)×(Nat)=>[p.1.F,.int .i64 (p.2.1:Int),.int .i64 (p.2.2:Int)]) (fun p=>[.bool (overB p.1 p.2.1 p.2.2)]) (fun p=>SOk p.1)
theorem Q7(hmortiseref15_over:T 31=some C6){c:Cod}{p:Nat}{q:Nat}{K:PK}(hk:SOk c):evP ⟨A0,T,A2⟩ (.call 31 [c.F,.int .i64 (p:Int),.int .i64 (q:Int)] K)=some (.val (openTs K.os.length [.bool (overB c p q)]).1 ⟨K.os++(openTs K.os.length [.bool (overB c p q)]).2,K.ext,K.tch⟩):=B8 hmortiseref15_over (by simp -implicitDefEqProofs only[VV,XP,seval]) (C2 (a:=fun p:(Cod)×(Nat)×(Nat)=>[p.1.F,.int .i64 (p.2.1:Int),.int .i64 (p.2.2:Int)]) (r:=fun p=>[.bool (overB p.1 p.2.1 p.2.2)]) (fun x y e=>by simp only[VJ]at e;simp only[e]) (c,p,q) hk) (by simp -implicitDefEqProofs only[VN,XP,seval])
theorem Ge(hmortiseref06_Writes:T 45=some B4)(hmortiseref08_Wanted:T 43=some B7)(hP:PEok ⟨A0,T,A2⟩):TC A0 31 C6:=C8 hP fun p h=>Ci hmortiseref06_Writes hmortiseref08_Wanted h
theorem lC{l:List Blk}{b:Blk}{p q:Nat}:∀(t:List Ins)(k:Nat),ovL l b p q t k=true↔∃j x,t[j]?=some x/\writesD x=(p:Int)/\¬(x.op=2/\x.a=(q:Int))/\E2 l b (k+j+1) q=true
 | [],k=>by
  rw[ovL]
  constructor
  . intro h;cases h
  . rintro⟨j,x,h,_⟩;simp at h
 | y :: t,k=>by
  rw[ovL,zkx,lC t (k+1),zja]
  constructor
  . rintro (⟨h1,h2⟩|⟨j,x,h1,h2,h3,h4⟩)
    . unfold CH at h1
      obtain⟨h3,h4⟩:=zkw.1 h1;exact⟨0,y,rfl,of_decide_eq_true h3,fun⟨e1,e2⟩=>by simp[e1,e2]at h4,h2⟩
    . exact⟨j+1,x,h1,h2,h3,by rw[show k+(j+1)+1=k+1+j+1 by omega];exact h4⟩
  . rintro ⟨j,x,h1,h2,h3,h4⟩
    cases j with
    | zero =>
     cases h1;refine .inl ⟨?_,h4⟩;unfold CH;rw[decide_eq_true h2,zkz];by_cases e1:y.op=2
     . have e2:¬y.a=(q:Int):=fun e=>h3 ⟨e1,e⟩
       rw[decide_eq_false e2,Bool.and_false];rfl
     . rw[decide_eq_false e1];rfl
    |succ j=>exact .inr ⟨j,x,h1,h2,h3,by rw[show k+1+j+1=k+(j+1)+1 by omega];exact h4⟩
theorem vG{c:Cod}{p q:Nat}:∀(n i:Nat),ovT c p q n i=true↔∃j,i<=j/\j<i+n/\ovL c.blocks (blkN c j) p q (blkN c j).code 0=true
 | 0,i=>by
  rw[ovT]
  constructor
  . intro h;cases h
  . rintro⟨j,h1,h2,_⟩;omega
 | n + 1,i=>by
  rw[ovT,zkx,vG n (i+1)]
  constructor
  . rintro(h|⟨j,h1,h2,h3⟩)
    . exact⟨i,zkq _,by omega,h⟩
    . exact⟨j,by omega,by omega,h3⟩
  . rintro⟨j,h1,h2,h3⟩
    by_cases e:j=i
    . subst e;exact .inl h3
    . exact .inr ⟨j,by omega,by omega,h3⟩
def t6(w:Nat->Bool):Nat->Nat->List Bool->List Bool
 |0,_,a=>a
 |n+1,i,a=>t6 w n (i+1) (a.set i (w i))
theorem Hh(w:Nat->Bool):∀(n i:Nat)(a:List Bool),(t6 w n i a).length=a.length
 |0,_,_=>rfl
 |n+1,i,a=>by rw[t6,Hh w n,zqf]
def ahB(c:Cod)(i r:Nat):Bool:=E2 c.blocks (blkN c i) 0 r
def bhB(c:Cod)(i r:Nat):Bool:=behB c r (tosD (blkN c i).e)
def Af(c:Cod)(i:Nat):List Bool:=t6 (ahB c i) c.regs.length 0 (noneL c.regs.length)
def Ag(c:Cod)(i:Nat):List Bool:=t6 (bhB c i) c.regs.length 0 (noneL c.regs.length)
theorem Ob(c:Cod)(i:Nat):(Af c i).length=c.regs.length:=by unfold Af;rw[Hh];simp[noneL]
theorem Oc(c:Cod)(i:Nat):(Ag c i).length=c.regs.length:=by unfold Ag;rw[Hh];simp[noneL]
section
variable {c:Cod}{i r:Nat}{a b:List Bool}{A B:List (List Bool)}
theorem rl_1(hA:T 25=some A3)(hB:T 26=some C0)(hc:SOk c)(hi:i<c.blocks.length)(ha:a.length=c.regs.length)(hb:b.length=c.regs.length)(hr:r<c.regs.length)(hs:c.regs.length*8<=bigN):evP ⟨A0,T,A2⟩ (.code bI [(1,.ptr 0 0 0),(4,.msl 1 0 i 1),(5,.msl 2 0 i 1),(6,.int .i64 (i:Int)),(7,.msl 3 0 c.regs.length 1),(8,.msl 4 0 c.regs.length 1),(9,.int .i64 (r:Int))] ⟨[.row 1 [.agg [.str c.name,.int .i64 c.ty,.int .i64 c.ps,fslN (ints c.regs),fslN (c.blocks.map Blk.F)]] 5,.row 0 (tab A) 1,.row 0 (tab B) 1,.row 0 (bools a) 1,.row 0 (bools b) 1],0,[]⟩)=some (.ok .normal [(1,.ptr 0 0 0),(4,.msl 1 0 i 1),(5,.msl 2 0 i 1),(6,.int .i64 (i:Int)),(7,.msl 3 0 c.regs.length 1),(8,.msl 4 0 c.regs.length 1),(9,.int .i64 ((r+1:Nat):Int))] ⟨[.row 1 [.agg [.str c.name,.int .i64 c.ty,.int .i64 c.ps,fslN (ints c.regs),fslN (c.blocks.map Blk.F)]] 5,.row 0 (tab A) 1,.row 0 (tab B) 1,.row 0 (bools (a.set r (ahB c i r))) 1,.row 0 (bools (b.set r (bhB c i r))) 1],0,[]⟩):=by
 have hlt:decide ((r:Int)<(c.regs.length:Int))=true:=by simp[hr]
 have hw:=A8 (i:=r) (by simp only[bigN]at hs;omega);have ta:=fun K=>E9 (K:=K) (c:=c) (i:=i) (r:=r) hA ⟨hc,hi⟩
 have tb:=fun K=>o6 (K:=K) (c:=c) (i:=i) (r:=r) hB ⟨hc,hi⟩
 have sa:(bools a).set r (.bool (ahB c i r))=bools (a.set r (ahB c i r)):=by unfold bools;rw[zqi]
 have sb:(bools b).set r (.bool (bhB c i r))=bools (b.set r (bhB c i r)):=by unfold bools;rw[zqi]
 have li:(ints c.regs).length=c.regs.length:=by simp[ints]
 simp only[Cod.F,show E2 c.blocks (blkN c i) 0 r=ahB c i r from rfl]at ta;simp only[Cod.F,show behB c r (tosD (blkN c i).e)=bhB c i r from rfl]at tb;have ra:r<a.length:=by omega
 have rb:r<b.length:=by omega
 have ga:=C5 ra;have gb:=C5 rb;unfold bI;simp -implicitDefEqProofs only[hlt,hw,ta,tb,sa,sb,ga,gb,li,hr,ra,rb,XP,seval]
theorem YG(hA:T 25=some A3)(hB:T 26=some C0)(hc:SOk c)(hi:0<c.blocks.length)(ha:a.length=c.regs.length)(hb:b.length=c.regs.length)(hr:r<c.regs.length)(hs:c.regs.length*8<=bigN):evP ⟨A0,T,A2⟩ (.code bI [(1,.ptr 0 0 0),(4,.nilsl),(5,.nilsl),(6,.int .i64 ((0:Nat):Int)),(7,.msl 1 0 c.regs.length 1),(8,.msl 2 0 c.regs.length 1),(9,.int .i64 (r:Int))] ⟨[.row 1 [.agg [.str c.name,.int .i64 c.ty,.int .i64 c.ps,fslN (ints c.regs),fslN (c.blocks.map Blk.F)]] 5,.row 0 (bools a) 1,.row 0 (bools b) 1],0,[]⟩)=some (.ok .normal [(1,.ptr 0 0 0),(4,.nilsl),(5,.nilsl),(6,.int .i64 ((0:Nat):Int)),(7,.msl 1 0 c.regs.length 1),(8,.msl 2 0 c.regs.length 1),(9,.int .i64 ((r+1:Nat):Int))] ⟨[.row 1 [.agg [.str c.name,.int .i64 c.ty,.int .i64 c.ps,fslN (ints c.regs),fslN (c.blocks.map Blk.F)]] 5,.row 0 (bools (a.set r (ahB c 0 r))) 1,.row 0 (bools (b.set r (bhB c 0 r))) 1],0,[]⟩):=by
 have hlt:decide ((r:Int)<(c.regs.length:Int))=true:=by simp[hr]
 have hw:=A8 (i:=r) (by simp only[bigN]at hs;omega);have ta:=fun K=>E9 (K:=K) (c:=c) (i:=0) (r:=r) hA ⟨hc,hi⟩
 have tb:=fun K=>o6 (K:=K) (c:=c) (i:=0) (r:=r) hB ⟨hc,hi⟩
 have sa:(bools a).set r (.bool (ahB c 0 r))=bools (a.set r (ahB c 0 r)):=by unfold bools;rw[zqi]
 have sb:(bools b).set r (.bool (bhB c 0 r))=bools (b.set r (bhB c 0 r)):=by unfold bools;rw[zqi]
 have li:(ints c.regs).length=c.regs.length:=by simp[ints]
 simp only[Cod.F,show E2 c.blocks (blkN c 0) 0 r=ahB c 0 r from rfl]at ta;simp only[Cod.F,show behB c r (tosD (blkN c 0).e)=bhB c 0 r from rfl]at tb;have ra:r<a.length:=by omega
 have rb:r<b.length:=by omega
 have ga:=C5 ra;have gb:=C5 rb;unfold bI;simp -implicitDefEqProofs only[hlt,hw,ta,tb,sa,sb,ga,gb,li,hr,ra,rb,XP,Nat.reduceAdd,Nat.reduceSub,Nat.reduceLT,Nat.reduceLeDiff,Nat.reduceEqDiff,Nat.reduceMul,↓reduceIte]
theorem KN{K:PK}{y4 y5 y6 y7 y8:AV}:∃fr',evP ⟨A0,T,A2⟩ (.code bI [(1,.ptr 0 0 0),(4,y4),(5,y5),(6,y6),(7,y7),(8,y8),(9,.int .i64 (c.regs.length:Int))] ⟨.row 1 [.agg [.str c.name,.int .i64 c.ty,.int .i64 c.ps,fslN (ints c.regs),fslN (c.blocks.map Blk.F)]] 5::K.os,0,[]⟩)=some (.ok (.exit 2) fr' ⟨.row 1 [.agg [.str c.name,.int .i64 c.ty,.int .i64 c.ps,fslN (ints c.regs),fslN (c.blocks.map Blk.F)]] 5::K.os,0,[]⟩)/\lookP fr' 1=.ptr 0 0 0/\lookP fr' 4=y4/\lookP fr' 5=y5/\lookP fr' 6=y6/\lookP fr' 7=y7/\lookP fr' 8=y8:=by
 have hlt:decide ((c.regs.length:Int)<(c.regs.length:Int))=false:=by simp
 unfold bI;simp -implicitDefEqProofs only[hlt,zqa,XP,seval];exact⟨_,rfl,rfl,rfl,rfl,rfl,rfl,rfl⟩
theorem KO(hA:T 25=some A3)(hB:T 26=some C0)(hc:SOk c)(hi:i<c.blocks.length)(hs:c.regs.length*8<=bigN):∀(n r:Nat)(a b:List Bool),c.regs.length=r+n->a.length=c.regs.length->b.length=c.regs.length->∃fr',evP ⟨A0,T,A2⟩ (.code (.loop bI) [(1,.ptr 0 0 0),(4,.msl 1 0 i 1),(5,.msl 2 0 i 1),(6,.int .i64 (i:Int)),(7,.msl 3 0 c.regs.length 1),(8,.msl 4 0 c.regs.length 1),(9,.int .i64 (r:Int))] ⟨[.row 1 [.agg [.str c.name,.int .i64 c.ty,.int .i64 c.ps,fslN (ints c.regs),fslN (c.blocks.map Blk.F)]] 5,.row 0 (tab A) 1,.row 0 (tab B) 1,.row 0 (bools a) 1,.row 0 (bools b) 1],0,[]⟩)=some (.ok (.exit 2) fr' ⟨[.row 1 [.agg [.str c.name,.int .i64 c.ty,.int .i64 c.ps,fslN (ints c.regs),fslN (c.blocks.map Blk.F)]] 5,.row 0 (tab A) 1,.row 0 (tab B) 1,.row 0 (bools (t6 (ahB c i) n r a)) 1,.row 0 (bools (t6 (bhB c i) n r b)) 1],0,[]⟩)/\lookP fr' 1=.ptr 0 0 0/\lookP fr' 4=.msl 1 0 i 1/\lookP fr' 5=.msl 2 0 i 1/\lookP fr' 6=.int .i64 (i:Int)/\lookP fr' 7=.msl 3 0 c.regs.length 1/\lookP fr' 8=.msl 4 0 c.regs.length 1
 | 0,r,a,b,h,ha,hb=>by
  obtain rfl:r=c.regs.length:=by omega
  obtain⟨fr',e,h⟩:=KN (T:=T) (c:=c) (K:=⟨[.row 0 (tab A) 1,.row 0 (tab B) 1,.row 0 (bools a) 1,.row 0 (bools b) 1],0,[]⟩);exact⟨fr',B3 e,h⟩
 | n+1,r,a,b,h,ha,hb=>by
  obtain⟨fr',e,p⟩:=KO hA hB hc hi hs n (r+1) (a.set r (ahB c i r)) (b.set r (bhB c i r)) (by omega) (by rw[zqf];exact ha) (by rw[zqf];exact hb);exact⟨fr',(loop_more (rl_1 hA hB hc hi ha hb (by omega) hs)).trans e,p⟩
theorem KP(hA:T 25=some A3)(hB:T 26=some C0)(hc:SOk c)(hi:0<c.blocks.length)(hs:c.regs.length*8<=bigN):∀(n r:Nat)(a b:List Bool),c.regs.length=r+n->a.length=c.regs.length->b.length=c.regs.length->∃fr',evP ⟨A0,T,A2⟩ (.code (.loop bI) [(1,.ptr 0 0 0),(4,.nilsl),(5,.nilsl),(6,.int .i64 ((0:Nat):Int)),(7,.msl 1 0 c.regs.length 1),(8,.msl 2 0 c.regs.length 1),(9,.int .i64 (r:Int))] ⟨[.row 1 [.agg [.str c.name,.int .i64 c.ty,.int .i64 c.ps,fslN (ints c.regs),fslN (c.blocks.map Blk.F)]] 5,.row 0 (bools a) 1,.row 0 (bools b) 1],0,[]⟩)=some (.ok (.exit 2) fr' ⟨[.row 1 [.agg [.str c.name,.int .i64 c.ty,.int .i64 c.ps,fslN (ints c.regs),fslN (c.blocks.map Blk.F)]] 5,.row 0 (bools (t6 (ahB c 0) n r a)) 1,.row 0 (bools (t6 (bhB c 0) n r b)) 1],0,[]⟩)/\lookP fr' 1=.ptr 0 0 0/\lookP fr' 4=.nilsl/\lookP fr' 5=.nilsl/\lookP fr' 6=.int .i64 ((0:Nat):Int)/\lookP fr' 7=.msl 1 0 c.regs.length 1/\lookP fr' 8=.msl 2 0 c.regs.length 1
 | 0,r,a,b,h,ha,hb=>by
  obtain rfl:r=c.regs.length:=by omega
  obtain⟨fr',e,h⟩:=KN (T:=T) (c:=c) (K:=⟨[.row 0 (bools a) 1,.row 0 (bools b) 1],0,[]⟩);exact⟨fr',B3 e,h⟩
 | n+1,r,a,b,h,ha,hb=>by
  obtain⟨fr',e,p⟩:=KP hA hB hc hi hs n (r+1) (a.set r (ahB c 0 r)) (b.set r (bhB c 0 r)) (by omega) (by rw[zqf];exact ha) (by rw[zqf];exact hb);exact⟨fr',(loop_more (YG hA hB hc hi ha hb (by omega) hs)).trans e,p⟩
theorem YH(hA:T 25=some A3)(hB:T 26=some C0)(hc:SOk c)(hi:i<c.blocks.length)(hs:c.regs.length*8<=bigN)(hbs:c.blocks.length*56<=bigN)(hAl:A.length=i)(hBl:B.length=i):evP ⟨A0,T,A2⟩ (.code fJ [(1,.ptr 0 0 0),(4,.msl 1 0 i 1),(5,.msl 2 0 i 1),(6,.int .i64 (i:Int))] ⟨[.row 1 [.agg [.str c.name,.int .i64 c.ty,.int .i64 c.ps,fslN (ints c.regs),fslN (c.blocks.map Blk.F)]] 5,.row 0 (tab A) 1,.row 0 (tab B) 1],0,[]⟩)=some (.ok .normal [(1,.ptr 0 0 0),(4,.msl 1 0 (i+1) 1),(5,.msl 2 0 (i+1) 1),(6,.int .i64 ((i+1:Nat):Int))] ⟨[.row 1 [.agg [.str c.name,.int .i64 c.ty,.int .i64 c.ps,fslN (ints c.regs),fslN (c.blocks.map Blk.F)]] 5,.row 0 (tab (A++[Af c i])) 1,.row 0 (tab (B++[Ag c i])) 1],0,[]⟩):=by
 have hlt:decide ((i:Int)<(c.blocks.length:Int))=true:=by simp[hi]
 have hw:=A8 (i:=i) (by have:=hc.bl;omega);have hm:c.regs.length*1<=140737488355328:=by simp only[bigN]at hs;omega
 have hz:(i+1)*24<=140737488355328:=by simp only[bigN]at hbs;omega
 obtain⟨fr',e,p1,p2,p3,p4,p5,p6⟩:=KO (T:=T) (A:=A) (B:=B) hA hB hc hi hs c.regs.length 0 (noneL c.regs.length) (noneL c.regs.length) (zkr _).symm (by simp[noneL]) (by simp[noneL])
 change evP _ _=some (.ok (.exit 2) fr' ⟨[.row 1 [.agg [.str c.name,.int .i64 c.ty,.int .i64 c.ps,fslN (ints c.regs),fslN (c.blocks.map Blk.F)]] 5,.row 0 (tab A) 1,.row 0 (tab B) 1,.row 0 (bools (Af c i)) 1,.row 0 (bools (Ag c i)) 1],0,[]⟩)at e
 simp only[show((0:Nat):Int)=0 from rfl]at e;have tA:(tab A).take i=tab A:=zql (by simp[hAl]);have tB:(tab B).take i=tab B:=zql (by simp[hBl]);have lA:(bools (Af c i)).length=c.regs.length:=by simp[bools,Ob]
 have lB:(bools (Ag c i)).length=c.regs.length:=by simp[bools,Oc]
 unfold fJ;simp -implicitDefEqProofs only[hlt,hw,hm,hz,e,p1,p2,p3,p4,p5,p6,tA,tB,hAl,hBl,lA,lB,zqa,X1,cC,Bj,Bk,Ga,zqv,show zqq 1 AV.nilsl=[AV.nilsl]from rfl,XP,seval];simp[tab]
theorem YI(hA:T 25=some A3)(hB:T 26=some C0)(hc:SOk c)(hi:0<c.blocks.length)(hs:c.regs.length*8<=bigN):evP ⟨A0,T,A2⟩ (.code fJ [(1,.ptr 0 0 0),(4,.nilsl),(5,.nilsl),(6,.int .i64 ((0:Nat):Int))] ⟨[.row 1 [.agg [.str c.name,.int .i64 c.ty,.int .i64 c.ps,fslN (ints c.regs),fslN (c.blocks.map Blk.F)]] 5],0,[]⟩)=some (.ok .normal [(1,.ptr 0 0 0),(4,.msl 1 0 1 1),(5,.msl 2 0 1 1),(6,.int .i64 ((1:Nat):Int))] ⟨[.row 1 [.agg [.str c.name,.int .i64 c.ty,.int .i64 c.ps,fslN (ints c.regs),fslN (c.blocks.map Blk.F)]] 5,.row 0 (tab [Af c 0]) 1,.row 0 (tab [Ag c 0]) 1],0,[]⟩):=by
 have hlt:decide (((0:Nat):Int)<(c.blocks.length:Int))=true:=by simp[hi]
 have hw:IntKind.i64.wrap (((0:Nat):Int)+1)=((1:Nat):Int):=by decide
 have hm:c.regs.length*1<=140737488355328:=by simp only[bigN]at hs;omega
 obtain⟨fr',e,p1,p2,p3,p4,p5,p6⟩:=KP (T:=T) hA hB hc hi hs c.regs.length 0 (noneL c.regs.length) (noneL c.regs.length) (zkr _).symm (by simp[noneL]) (by simp[noneL])
 change evP _ _=some (.ok (.exit 2) fr' ⟨[.row 1 [.agg [.str c.name,.int .i64 c.ty,.int .i64 c.ps,fslN (ints c.regs),fslN (c.blocks.map Blk.F)]] 5,.row 0 (bools (Af c 0)) 1,.row 0 (bools (Ag c 0)) 1],0,[]⟩)at e
 simp only[show((0:Nat):Int)=0 from rfl,show((1:Nat):Int)=1 from rfl]at e p4 hlt hw|-;have lA:(bools (Af c 0)).length=c.regs.length:=by simp[bools,Ob]
 have lB:(bools (Ag c 0)).length=c.regs.length:=by simp[bools,Oc]
 unfold fJ;simp -implicitDefEqProofs only[hlt,hw,hm,e,p1,p2,p3,p4,p5,p6,lA,lB,zqa,X1,cC,Bj,Bk,Ga,zqv,show zqq 1 AV.nilsl=[AV.nilsl]from rfl,XP,seval]
 try rfl
def refA(c:Cod):List (List Bool):=(zqd c.blocks.length).map (Af c)
def refB(c:Cod):List (List Bool):=(zqd c.blocks.length).map (Ag c)
theorem YJ{K:PK}{y4 y5:AV}:∃fr',evP ⟨A0,T,A2⟩ (.code fJ [(1,.ptr 0 0 0),(4,y4),(5,y5),(6,.int .i64 (c.blocks.length:Int))] ⟨.row 1 [.agg [.str c.name,.int .i64 c.ty,.int .i64 c.ps,fslN (ints c.regs),fslN (c.blocks.map Blk.F)]] 5::K.os,0,[]⟩)=some (.ok (.exit 0) fr' ⟨.row 1 [.agg [.str c.name,.int .i64 c.ty,.int .i64 c.ps,fslN (ints c.regs),fslN (c.blocks.map Blk.F)]] 5::K.os,0,[]⟩)/\lookP fr' 4=y4/\lookP fr' 5=y5:=by
 have hlt:decide ((c.blocks.length:Int)<(c.blocks.length:Int))=false:=by simp
 unfold fJ;simp -implicitDefEqProofs only[hlt,zqa,XP,seval];exact⟨_,rfl,rfl,rfl⟩
theorem KQ(hA:T 25=some A3)(hB:T 26=some C0)(hc:SOk c)(hs:c.regs.length*8<=bigN)(hbs:c.blocks.length*56<=bigN):∀(n i:Nat),c.blocks.length=i+n->∃fr',evP ⟨A0,T,A2⟩ (.code (.loop fJ) [(1,.ptr 0 0 0),(4,.msl 1 0 i 1),(5,.msl 2 0 i 1),(6,.int .i64 (i:Int))] ⟨[.row 1 [.agg [.str c.name,.int .i64 c.ty,.int .i64 c.ps,fslN (ints c.regs),fslN (c.blocks.map Blk.F)]] 5,.row 0 (tab ((zqd i).map (Af c))) 1,.row 0 (tab ((zqd i).map (Ag c))) 1],0,[]⟩)=some (.ok (.exit 0) fr' ⟨[.row 1 [.agg [.str c.name,.int .i64 c.ty,.int .i64 c.ps,fslN (ints c.regs),fslN (c.blocks.map Blk.F)]] 5,.row 0 (tab (refA c)) 1,.row 0 (tab (refB c)) 1],0,[]⟩)/\lookP fr' 4=.msl 1 0 c.blocks.length 1/\lookP fr' 5=.msl 2 0 c.blocks.length 1
 | 0,i,h=>by
  obtain rfl:i=c.blocks.length:=by omega
  obtain⟨fr',e,h⟩:=YJ (T:=T) (c:=c) (K:=⟨[.row 0 (tab (refA c)) 1,.row 0 (tab (refB c)) 1],0,[]⟩);exact⟨fr',B3 e,h⟩
 | n+1,i,h=>by
  obtain⟨fr',e,p⟩:=KQ hA hB hc hs hbs n (i+1) (by omega);have e1:=YH (T:=T) (i:=i) (A:=(zqd i).map (Af c)) (B:=(zqd i).map (Ag c)) hA hB hc (by omega) hs hbs (by simp) (by simp);rw[show(zqd i).map (Af c)++[Af c i]=(zqd (i+1)).map (Af c) by rw[zkf,zkg];rfl,show(zqd i).map (Ag c)++[Ag c i]=(zqd (i+1)).map (Ag c) by rw[zkf,zkg];rfl]at e1;exact⟨fr',(loop_more e1).trans e,p⟩
end
theorem Cj(hmortiseref15_Ahead:T 25=some A3)(hmortiseref15_Behind:T 26=some C0){c:Cod}(hk:SOk c/\c.regs.length*8<=bigN/\c.blocks.length*56<=bigN/\0<c.blocks.length):AM.Comes ⟨A0,T,A2⟩ 8 [c.F] [ownd 0 1 (tab (refA c)),ownd 0 1 (tab (refB c))]:=by
 obtain⟨hc,hs,hbs,h0⟩:=hk;obtain⟨N,hN⟩:∃N,c.blocks.length=1+N:=⟨c.blocks.length-1,by omega⟩
 have e0:=YI (T:=T) hmortiseref15_Ahead hmortiseref15_Behind hc h0 hs;obtain⟨fr',e1,k1,k2⟩:=KQ (T:=T) hmortiseref15_Ahead hmortiseref15_Behind hc hs hbs N 1 hN;have hL:=(loop_more e0).trans e1;have lA:(refA c).length=c.blocks.length:=by simp[refA]
 have lB:(refB c).length=c.blocks.length:=by simp[refB]
 simp only[show((0:Nat):Int)=0 from rfl]at hL;generalize refA c=A at hL lA|-;generalize refB c=B at hL lB|-;refine⟨[.msl 0 0 c.blocks.length 1,.msl 1 0 c.blocks.length 1],⟨[.row 0 (tab A) 1,.row 0 (tab B) 1],0,[]⟩,?_,?_⟩
 . rw[A6 (c:=p8) (nt:=56) (rs:=[.tmp 2,.tmp 3]) rfl (by simp)];unfold p8
   unfold K0 Cod.F;simp -implicitDefEqProofs only[hL,k1,k2,zqa,lA,lB,XP,seval]
 . exact C1 (vs':=[.msl 0 0 c.blocks.length 1,.msl 1 0 c.blocks.length 1]) (os':=[.row 0 (tab A) 1,.row 0 (tab B) 1]) (by simp -implicitDefEqProofs only[XP,seval]) (by simp -implicitDefEqProofs only[XP,seval]) (us:=[.msl 0 0 c.blocks.length 1,.msl 1 0 c.blocks.length 1]) (ps:=[.row 0 (tab A) 1,.row 0 (tab B) 1]) (by simp -implicitDefEqProofs only[zqa,lA,lB,XP,seval]) (by simp -implicitDefEqProofs only[XP,seval]) (by simp -implicitDefEqProofs only[XP,seval])
def L3:=g0 (fun p:(Cod)=>[p.F]) (fun p=>[ownd 0 1 (tab (refA p)),ownd 0 1 (tab (refB p))]) (fun p=>SOk p/\p.regs.length*8<=bigN/\p.blocks.length*56<=bigN/\0<p.blocks.length)
theorem Jy(hmortiseref15_Live:T 8=some L3){c:Cod}{K:PK}(hk:SOk c/\c.regs.length*8<=bigN/\c.blocks.length*56<=bigN/\0<c.blocks.length):evP ⟨A0,T,A2⟩ (.call 8 [c.F] K)=some (.val (openTs K.os.length [ownd 0 1 (tab (refA c)),ownd 0 1 (tab (refB c))]).1 ⟨K.os++(openTs K.os.length [ownd 0 1 (tab (refA c)),ownd 0 1 (tab (refB c))]).2,K.ext,K.tch⟩):=B8 hmortiseref15_Live (by simp -implicitDefEqProofs only[VV,XP,seval]) (C2 (a:=fun p:(Cod)=>[p.F]) (r:=fun p=>[ownd 0 1 (tab (refA p)),ownd 0 1 (tab (refB p))]) (fun x y e=>by simp only[VJ]at e;simp only[e]) (c) hk) (by simp -implicitDefEqProofs only[VN,Cg,XP,seval])
theorem Gf(hmortiseref15_Ahead:T 25=some A3)(hmortiseref15_Behind:T 26=some C0)(hP:PEok ⟨A0,T,A2⟩):TC A0 8 L3:=C8 hP fun p h=>Cj hmortiseref15_Ahead hmortiseref15_Behind h
def O3(c:Cod)(r:Nat):Bool:=decide ((r:Int)<c.ps)||ahB c 0 r
def clB(c:Cod)(a b:Nat):Bool:=!decide ((a:Int)=(b:Int))&&((O3 c a&&O3 c b)||overB c a b||overB c b a)
def Ah(c:Cod)(a:Nat):List Bool:=t6 (clB c a) c.regs.length 0 (noneL c.regs.length)
theorem Od(c:Cod)(i:Nat):(Ah c i).length=c.regs.length:=by unfold Ah;rw[Hh];simp[noneL]
section
variable {c:Cod}{a b:Nat}{l:List Bool}{A:List (List Bool)}
theorem YK(hA:T 25=some A3)(hO:T 31=some C6)(hc:SOk c)(h0:0<c.blocks.length)(ha:l.length=c.regs.length)(hb:b<c.regs.length)(hs:c.regs.length*24<=bigN):evP ⟨A0,T,A2⟩ (.code Ll [(1,.ptr 0 0 0),(3,.msl 1 0 a 1),(4,.int .i64 (a:Int)),(5,.msl 2 0 c.regs.length 1),(6,.int .i64 (b:Int))] ⟨[.row 1 [.agg [.str c.name,.int .i64 c.ty,.int .i64 c.ps,fslN (ints c.regs),fslN (c.blocks.map Blk.F)]] 5,.row 0 (tab A) 1,.row 0 (bools (l)) 1],0,[]⟩)=some (.ok .normal [(1,.ptr 0 0 0),(3,.msl 1 0 a 1),(4,.int .i64 (a:Int)),(5,.msl 2 0 c.regs.length 1),(6,.int .i64 ((b+1:Nat):Int))] ⟨[.row 1 [.agg [.str c.name,.int .i64 c.ty,.int .i64 c.ps,fslN (ints c.regs),fslN (c.blocks.map Blk.F)]] 5,.row 0 (tab A) 1,.row 0 (bools (l.set b (clB c a b))) 1],0,[]⟩):=by
 have hlt:decide ((b:Int)<(c.regs.length:Int))=true:=by simp[hb]
 have hw:=A8 (i:=b) (by simp only[bigN]at hs;omega);have ta:=fun K=>E9 (K:=K) (c:=c) (i:=0) (r:=a) hA ⟨hc,h0⟩
 have tb:=fun K=>E9 (K:=K) (c:=c) (i:=0) (r:=b) hA ⟨hc,h0⟩
 have oa:=fun K=>Q7 (K:=K) (c:=c) (p:=a) (q:=b) hO hc
 have ob:=fun K=>Q7 (K:=K) (c:=c) (p:=b) (q:=a) hO hc
 have sa:∀v,(bools l).set b (.bool v)=bools (l.set b v):=fun v=>by unfold bools;rw[zqi]
 simp only[Cod.F,show E2 c.blocks (blkN c 0) 0 a=ahB c 0 a from rfl,show((0:Nat):Int)=0 from rfl]at ta;simp only[Cod.F,show E2 c.blocks (blkN c 0) 0 b=ahB c 0 b from rfl,show((0:Nat):Int)=0 from rfl]at tb;simp only[Cod.F]at oa ob;have ra:b<l.length:=by omega
 have ga:=C5 ra;unfold Ll;by_cases e:(a:Int)=(b:Int)
 . cases p1:decide ((a:Int)<c.ps)with
   | true =>
    cases p2:decide ((b:Int)<c.ps)with
    | true =>
     rw[show clB c a b=false by simp[clB,O3,e]];simp -implicitDefEqProofs only[hlt,hw,ta,tb,sa,ga,hb,ra,zqa,p1,p2,eq_true e,XP,seval]
    | false =>
     rw[show clB c a b=false by simp[clB,O3,e]];simp -implicitDefEqProofs only[hlt,hw,ta,tb,sa,ga,hb,ra,zqa,p1,p2,eq_true e,XP,seval]
   | false =>
    cases p2:decide ((b:Int)<c.ps)with
    | true =>
     rw[show clB c a b=false by simp[clB,O3,e]];simp -implicitDefEqProofs only[hlt,hw,ta,tb,sa,ga,hb,ra,zqa,p1,p2,eq_true e,XP,seval]
    | false =>
     rw[show clB c a b=false by simp[clB,O3,e]];simp -implicitDefEqProofs only[hlt,hw,ta,tb,sa,ga,hb,ra,zqa,p1,p2,eq_true e,XP,seval]
 . cases p1:decide ((a:Int)<c.ps)with
   | true =>
    cases p2:decide ((b:Int)<c.ps)with
    | true =>
     rw[show clB c a b=true by simp[clB,O3,e,of_decide_eq_true p1,of_decide_eq_true p2]];simp -implicitDefEqProofs only[hlt,hw,ta,tb,sa,ga,hb,ra,zqa,p1,e,p2,XP,seval]
    | false =>
     cases a2:ahB c 0 b with
     | true =>
      rw[a2]at tb;rw[show clB c a b=true by simp[clB,O3,e,of_decide_eq_true p1,of_decide_eq_false p2,a2]];simp -implicitDefEqProofs only[hlt,hw,ta,tb,sa,ga,hb,ra,zqa,p1,e,p2,XP,seval]
     | false =>
      rw[a2]at tb;cases o1:overB c a b with
      | true =>
       rw[o1]at oa;rw[show clB c a b=true by simp[clB,O3,e,of_decide_eq_true p1,of_decide_eq_false p2,a2,o1]];simp -implicitDefEqProofs only[hlt,hw,ta,tb,sa,ga,hb,ra,zqa,p1,e,p2,oa,XP,seval]
      | false =>
       rw[o1]at oa;rw[show clB c a b=overB c b a by simp[clB,O3,e,of_decide_eq_true p1,of_decide_eq_false p2,a2,o1]];simp -implicitDefEqProofs only[hlt,hw,ta,tb,sa,ga,hb,ra,zqa,p1,e,p2,oa,ob,XP,seval]
   | false =>
    cases a1:ahB c 0 a with
    | true =>
     rw[a1]at ta;cases p2:decide ((b:Int)<c.ps)with
     | true =>
      rw[show clB c a b=true by simp[clB,O3,e,of_decide_eq_false p1,a1,of_decide_eq_true p2]];simp -implicitDefEqProofs only[hlt,hw,ta,tb,sa,ga,hb,ra,zqa,p1,e,p2,XP,seval]
     | false =>
      cases a2:ahB c 0 b with
      | true =>
       rw[a2]at tb;rw[show clB c a b=true by simp[clB,O3,e,of_decide_eq_false p1,a1,of_decide_eq_false p2,a2]];simp -implicitDefEqProofs only[hlt,hw,ta,tb,sa,ga,hb,ra,zqa,p1,e,p2,XP,seval]
      | false =>
       rw[a2]at tb;cases o1:overB c a b with
       | true =>
        rw[o1]at oa;rw[show clB c a b=true by simp[clB,O3,e,of_decide_eq_false p1,a1,of_decide_eq_false p2,a2,o1]];simp -implicitDefEqProofs only[hlt,hw,ta,tb,sa,ga,hb,ra,zqa,p1,e,p2,oa,XP,seval]
       | false =>
        rw[o1]at oa;rw[show clB c a b=overB c b a by simp[clB,O3,e,of_decide_eq_false p1,a1,of_decide_eq_false p2,a2,o1]];simp -implicitDefEqProofs only[hlt,hw,ta,tb,sa,ga,hb,ra,zqa,p1,e,p2,oa,ob,XP,seval]
    | false =>
     rw[a1]at ta;cases p2:decide ((b:Int)<c.ps)with
     | true =>
      cases o1:overB c a b with
      | true =>
       rw[o1]at oa;rw[show clB c a b=true by simp[clB,O3,e,of_decide_eq_false p1,a1,of_decide_eq_true p2,o1]];simp -implicitDefEqProofs only[hlt,hw,ta,tb,sa,ga,hb,ra,zqa,p1,e,p2,oa,XP,seval]
      | false =>
       rw[o1]at oa;rw[show clB c a b=overB c b a by simp[clB,O3,e,of_decide_eq_false p1,a1,of_decide_eq_true p2,o1]];simp -implicitDefEqProofs only[hlt,hw,ta,tb,sa,ga,hb,ra,zqa,p1,e,p2,oa,ob,XP,seval]
     | false =>
      cases a2:ahB c 0 b with
      | true =>
       rw[a2]at tb;cases o1:overB c a b with
       | true =>
        rw[o1]at oa;rw[show clB c a b=true by simp[clB,O3,e,of_decide_eq_false p1,a1,of_decide_eq_false p2,a2,o1]];simp -implicitDefEqProofs only[hlt,hw,ta,tb,sa,ga,hb,ra,zqa,p1,e,p2,oa,XP,seval]
       | false =>
        rw[o1]at oa;rw[show clB c a b=overB c b a by simp[clB,O3,e,of_decide_eq_false p1,a1,of_decide_eq_false p2,a2,o1]];simp -implicitDefEqProofs only[hlt,hw,ta,tb,sa,ga,hb,ra,zqa,p1,e,p2,oa,ob,XP,seval]
      | false =>
       rw[a2]at tb;cases o1:overB c a b with
       | true =>
        rw[o1]at oa;rw[show clB c a b=true by simp[clB,O3,e,of_decide_eq_false p1,a1,of_decide_eq_false p2,a2,o1]];simp -implicitDefEqProofs only[hlt,hw,ta,tb,sa,ga,hb,ra,zqa,p1,e,p2,oa,XP,seval]
       | false =>
        rw[o1]at oa;rw[show clB c a b=overB c b a by simp[clB,O3,e,of_decide_eq_false p1,a1,of_decide_eq_false p2,a2,o1]];simp -implicitDefEqProofs only[hlt,hw,ta,tb,sa,ga,hb,ra,zqa,p1,e,p2,oa,ob,XP,seval]
theorem YL(hA:T 25=some A3)(hO:T 31=some C6)(hc:SOk c)(h0:0<c.blocks.length)(ha:l.length=c.regs.length)(hb:b<c.regs.length)(hs:c.regs.length*24<=bigN):evP ⟨A0,T,A2⟩ (.code Ll [(1,.ptr 0 0 0),(3,.nilsl),(4,.int .i64 (a:Int)),(5,.msl 1 0 c.regs.length 1),(6,.int .i64 (b:Int))] ⟨[.row 1 [.agg [.str c.name,.int .i64 c.ty,.int .i64 c.ps,fslN (ints c.regs),fslN (c.blocks.map Blk.F)]] 5,.row 0 (bools (l)) 1],0,[]⟩)=some (.ok .normal [(1,.ptr 0 0 0),(3,.nilsl),(4,.int .i64 (a:Int)),(5,.msl 1 0 c.regs.length 1),(6,.int .i64 ((b+1:Nat):Int))] ⟨[.row 1 [.agg [.str c.name,.int .i64 c.ty,.int .i64 c.ps,fslN (ints c.regs),fslN (c.blocks.map Blk.F)]] 5,.row 0 (bools (l.set b (clB c a b))) 1],0,[]⟩):=by
 have hlt:decide ((b:Int)<(c.regs.length:Int))=true:=by simp[hb]
 have hw:=A8 (i:=b) (by simp only[bigN]at hs;omega);have ta:=fun K=>E9 (K:=K) (c:=c) (i:=0) (r:=a) hA ⟨hc,h0⟩
 have tb:=fun K=>E9 (K:=K) (c:=c) (i:=0) (r:=b) hA ⟨hc,h0⟩
 have oa:=fun K=>Q7 (K:=K) (c:=c) (p:=a) (q:=b) hO hc
 have ob:=fun K=>Q7 (K:=K) (c:=c) (p:=b) (q:=a) hO hc
 have sa:∀v,(bools l).set b (.bool v)=bools (l.set b v):=fun v=>by unfold bools;rw[zqi]
 simp only[Cod.F,show E2 c.blocks (blkN c 0) 0 a=ahB c 0 a from rfl,show((0:Nat):Int)=0 from rfl]at ta;simp only[Cod.F,show E2 c.blocks (blkN c 0) 0 b=ahB c 0 b from rfl,show((0:Nat):Int)=0 from rfl]at tb;simp only[Cod.F]at oa ob;have ra:b<l.length:=by omega
 have ga:=C5 ra;unfold Ll;by_cases e:(a:Int)=(b:Int)
 . cases p1:decide ((a:Int)<c.ps)with
   | true =>
    cases p2:decide ((b:Int)<c.ps)with
    | true =>
     rw[show clB c a b=false by simp[clB,O3,e]];simp -implicitDefEqProofs only[hlt,hw,ta,tb,sa,ga,hb,ra,zqa,p1,p2,eq_true e,XP,seval]
    | false =>
     rw[show clB c a b=false by simp[clB,O3,e]];simp -implicitDefEqProofs only[hlt,hw,ta,tb,sa,ga,hb,ra,zqa,p1,p2,eq_true e,XP,seval]
   | false =>
    cases p2:decide ((b:Int)<c.ps)with
    | true =>
     rw[show clB c a b=false by simp[clB,O3,e]];simp -implicitDefEqProofs only[hlt,hw,ta,tb,sa,ga,hb,ra,zqa,p1,p2,eq_true e,XP,seval]
    | false =>
     rw[show clB c a b=false by simp[clB,O3,e]];simp -implicitDefEqProofs only[hlt,hw,ta,tb,sa,ga,hb,ra,zqa,p1,p2,eq_true e,XP,seval]
 . cases p1:decide ((a:Int)<c.ps)with
   | true =>
    cases p2:decide ((b:Int)<c.ps)with
    | true =>
     rw[show clB c a b=true by simp[clB,O3,e,of_decide_eq_true p1,of_decide_eq_true p2]];simp -implicitDefEqProofs only[hlt,hw,ta,tb,sa,ga,hb,ra,zqa,p1,e,p2,XP,seval]
    | false =>
     cases a2:ahB c 0 b with
     | true =>
      rw[a2]at tb;rw[show clB c a b=true by simp[clB,O3,e,of_decide_eq_true p1,of_decide_eq_false p2,a2]];simp -implicitDefEqProofs only[hlt,hw,ta,tb,sa,ga,hb,ra,zqa,p1,e,p2,XP,seval]
     | false =>
      rw[a2]at tb;cases o1:overB c a b with
      | true =>
       rw[o1]at oa;rw[show clB c a b=true by simp[clB,O3,e,of_decide_eq_true p1,of_decide_eq_false p2,a2,o1]];simp -implicitDefEqProofs only[hlt,hw,ta,tb,sa,ga,hb,ra,zqa,p1,e,p2,oa,XP,seval]
      | false =>
       rw[o1]at oa;rw[show clB c a b=overB c b a by simp[clB,O3,e,of_decide_eq_true p1,of_decide_eq_false p2,a2,o1]];simp -implicitDefEqProofs only[hlt,hw,ta,tb,sa,ga,hb,ra,zqa,p1,e,p2,oa,ob,XP,seval]
   | false =>
    cases a1:ahB c 0 a with
    | true =>
     rw[a1]at ta;cases p2:decide ((b:Int)<c.ps)with
     | true =>
      rw[show clB c a b=true by simp[clB,O3,e,of_decide_eq_false p1,a1,of_decide_eq_true p2]];simp -implicitDefEqProofs only[hlt,hw,ta,tb,sa,ga,hb,ra,zqa,p1,e,p2,XP,seval]
     | false =>
      cases a2:ahB c 0 b with
      | true =>
       rw[a2]at tb;rw[show clB c a b=true by simp[clB,O3,e,of_decide_eq_false p1,a1,of_decide_eq_false p2,a2]];simp -implicitDefEqProofs only[hlt,hw,ta,tb,sa,ga,hb,ra,zqa,p1,e,p2,XP,seval]
      | false =>
       rw[a2]at tb;cases o1:overB c a b with
       | true =>
        rw[o1]at oa;rw[show clB c a b=true by simp[clB,O3,e,of_decide_eq_false p1,a1,of_decide_eq_false p2,a2,o1]];simp -implicitDefEqProofs only[hlt,hw,ta,tb,sa,ga,hb,ra,zqa,p1,e,p2,oa,XP,seval]
       | false =>
        rw[o1]at oa;rw[show clB c a b=overB c b a by simp[clB,O3,e,of_decide_eq_false p1,a1,of_decide_eq_false p2,a2,o1]];simp -implicitDefEqProofs only[hlt,hw,ta,tb,sa,ga,hb,ra,zqa,p1,e,p2,oa,ob,XP,seval]
    | false =>
     rw[a1]at ta;cases p2:decide ((b:Int)<c.ps)with
     | true =>
      cases o1:overB c a b with
      | true =>
       rw[o1]at oa;rw[show clB c a b=true by simp[clB,O3,e,of_decide_eq_false p1,a1,of_decide_eq_true p2,o1]];simp -implicitDefEqProofs only[hlt,hw,ta,tb,sa,ga,hb,ra,zqa,p1,e,p2,oa,XP,seval]
      | false =>
       rw[o1]at oa;rw[show clB c a b=overB c b a by simp[clB,O3,e,of_decide_eq_false p1,a1,of_decide_eq_true p2,o1]];simp -implicitDefEqProofs only[hlt,hw,ta,tb,sa,ga,hb,ra,zqa,p1,e,p2,oa,ob,XP,seval]
     | false =>
      cases a2:ahB c 0 b with
      | true =>
       rw[a2]at tb;cases o1:overB c a b with
       | true =>
        rw[o1]at oa;rw[show clB c a b=true by simp[clB,O3,e,of_decide_eq_false p1,a1,of_decide_eq_false p2,a2,o1]];simp -implicitDefEqProofs only[hlt,hw,ta,tb,sa,ga,hb,ra,zqa,p1,e,p2,oa,XP,seval]
       | false =>
        rw[o1]at oa;rw[show clB c a b=overB c b a by simp[clB,O3,e,of_decide_eq_false p1,a1,of_decide_eq_false p2,a2,o1]];simp -implicitDefEqProofs only[hlt,hw,ta,tb,sa,ga,hb,ra,zqa,p1,e,p2,oa,ob,XP,seval]
      | false =>
       rw[a2]at tb;cases o1:overB c a b with
       | true =>
        rw[o1]at oa;rw[show clB c a b=true by simp[clB,O3,e,of_decide_eq_false p1,a1,of_decide_eq_false p2,a2,o1]];simp -implicitDefEqProofs only[hlt,hw,ta,tb,sa,ga,hb,ra,zqa,p1,e,p2,oa,XP,seval]
       | false =>
        rw[o1]at oa;rw[show clB c a b=overB c b a by simp[clB,O3,e,of_decide_eq_false p1,a1,of_decide_eq_false p2,a2,o1]];simp -implicitDefEqProofs only[hlt,hw,ta,tb,sa,ga,hb,ra,zqa,p1,e,p2,oa,ob,XP,seval]
end
section
variable {c:Cod}{a b:Nat}{l:List Bool}{A:List (List Bool)}
theorem KR{K:PK}{y3 y4 y5:AV}:∃fr',evP ⟨A0,T,A2⟩ (.code Ll [(1,.ptr 0 0 0),(3,y3),(4,y4),(5,y5),(6,.int .i64 (c.regs.length:Int))] ⟨.row 1 [.agg [.str c.name,.int .i64 c.ty,.int .i64 c.ps,fslN (ints c.regs),fslN (c.blocks.map Blk.F)]] 5::K.os,0,[]⟩)=some (.ok (.exit 2) fr' ⟨.row 1 [.agg [.str c.name,.int .i64 c.ty,.int .i64 c.ps,fslN (ints c.regs),fslN (c.blocks.map Blk.F)]] 5::K.os,0,[]⟩)/\lookP fr' 1=.ptr 0 0 0/\lookP fr' 3=y3/\lookP fr' 4=y4/\lookP fr' 5=y5:=by
 have hlt:decide ((c.regs.length:Int)<(c.regs.length:Int))=false:=by simp
 unfold Ll;simp -implicitDefEqProofs only[hlt,zqa,XP,seval];exact⟨_,rfl,rfl,rfl,rfl,rfl⟩
theorem CI(hA:T 25=some A3)(hO:T 31=some C6)(hc:SOk c)(h0:0<c.blocks.length)(hs:c.regs.length*24<=bigN):∀(n b:Nat)(l:List Bool),c.regs.length=b+n->l.length=c.regs.length->∃fr',evP ⟨A0,T,A2⟩ (.code (.loop Ll) [(1,.ptr 0 0 0),(3,.msl 1 0 a 1),(4,.int .i64 (a:Int)),(5,.msl 2 0 c.regs.length 1),(6,.int .i64 (b:Int))] ⟨[.row 1 [.agg [.str c.name,.int .i64 c.ty,.int .i64 c.ps,fslN (ints c.regs),fslN (c.blocks.map Blk.F)]] 5,.row 0 (tab A) 1,.row 0 (bools l) 1],0,[]⟩)=some (.ok (.exit 2) fr' ⟨[.row 1 [.agg [.str c.name,.int .i64 c.ty,.int .i64 c.ps,fslN (ints c.regs),fslN (c.blocks.map Blk.F)]] 5,.row 0 (tab A) 1,.row 0 (bools (t6 (clB c a) n b l)) 1],0,[]⟩)/\lookP fr' 1=.ptr 0 0 0/\lookP fr' 3=.msl 1 0 a 1/\lookP fr' 4=.int .i64 (a:Int)/\lookP fr' 5=.msl 2 0 c.regs.length 1
 | 0,b,l,h,hl=>by
  obtain rfl:b=c.regs.length:=by omega
  obtain⟨fr',e,h⟩:=KR (T:=T) (c:=c) (K:=⟨[.row 0 (tab A) 1,.row 0 (bools l) 1],0,[]⟩);exact⟨fr',B3 e,h⟩
 | n+1,b,l,h,hl=>by
  obtain⟨fr',e,p⟩:=CI hA hO hc h0 hs n (b+1) (l.set b (clB c a b)) (by omega) (by rw[zqf];exact hl);exact⟨fr',(loop_more (YK hA hO hc h0 hl (by omega) hs)).trans e,p⟩
theorem CJ(hA:T 25=some A3)(hO:T 31=some C6)(hc:SOk c)(h0:0<c.blocks.length)(hs:c.regs.length*24<=bigN):∀(n b:Nat)(l:List Bool),c.regs.length=b+n->l.length=c.regs.length->∃fr',evP ⟨A0,T,A2⟩ (.code (.loop Ll) [(1,.ptr 0 0 0),(3,.nilsl),(4,.int .i64 (a:Int)),(5,.msl 1 0 c.regs.length 1),(6,.int .i64 (b:Int))] ⟨[.row 1 [.agg [.str c.name,.int .i64 c.ty,.int .i64 c.ps,fslN (ints c.regs),fslN (c.blocks.map Blk.F)]] 5,.row 0 (bools l) 1],0,[]⟩)=some (.ok (.exit 2) fr' ⟨[.row 1 [.agg [.str c.name,.int .i64 c.ty,.int .i64 c.ps,fslN (ints c.regs),fslN (c.blocks.map Blk.F)]] 5,.row 0 (bools (t6 (clB c a) n b l)) 1],0,[]⟩)/\lookP fr' 1=.ptr 0 0 0/\lookP fr' 3=.nilsl/\lookP fr' 4=.int .i64 (a:Int)/\lookP fr' 5=.msl 1 0 c.regs.length 1
 | 0,b,l,h,hl=>by
  obtain rfl:b=c.regs.length:=by omega
  obtain⟨fr',e,h⟩:=KR (T:=T) (c:=c) (K:=⟨[.row 0 (bools l) 1],0,[]⟩);exact⟨fr',B3 e,h⟩
 | n+1,b,l,h,hl=>by
  obtain⟨fr',e,p⟩:=CJ hA hO hc h0 hs n (b+1) (l.set b (clB c a b)) (by omega) (by rw[zqf];exact hl);exact⟨fr',(loop_more (YL hA hO hc h0 hl (by omega) hs)).trans e,p⟩
theorem YM(hA:T 25=some A3)(hO:T 31=some C6)(hc:SOk c)(h0:0<c.blocks.length)(hs:c.regs.length*24<=bigN)(ha:a<c.regs.length)(hAl:A.length=a):evP ⟨A0,T,A2⟩ (.code Px [(1,.ptr 0 0 0),(3,.msl 1 0 a 1),(4,.int .i64 (a:Int))] ⟨[.row 1 [.agg [.str c.name,.int .i64 c.ty,.int .i64 c.ps,fslN (ints c.regs),fslN (c.blocks.map Blk.F)]] 5,.row 0 (tab A) 1],0,[]⟩)=some (.ok .normal [(1,.ptr 0 0 0),(3,.msl 1 0 (a+1) 1),(4,.int .i64 ((a+1:Nat):Int))] ⟨[.row 1 [.agg [.str c.name,.int .i64 c.ty,.int .i64 c.ps,fslN (ints c.regs),fslN (c.blocks.map Blk.F)]] 5,.row 0 (tab (A++[Ah c a])) 1],0,[]⟩):=by
 have hlt:decide ((a:Int)<(c.regs.length:Int))=true:=by simp[ha]
 have hw:=A8 (i:=a) (by simp only[bigN]at hs;omega);have hm:c.regs.length*1<=140737488355328:=by simp only[bigN]at hs;omega
 have hz:(a+1)*24<=140737488355328:=by simp only[bigN]at hs;omega
 obtain⟨fr',e,p1,p2,p3,p4⟩:=CI (T:=T) (a:=a) (A:=A) hA hO hc h0 hs c.regs.length 0 (noneL c.regs.length) (zkr _).symm (by simp[noneL])
 change evP _ _=some (.ok (.exit 2) fr' ⟨[.row 1 [.agg [.str c.name,.int .i64 c.ty,.int .i64 c.ps,fslN (ints c.regs),fslN (c.blocks.map Blk.F)]] 5,.row 0 (tab A) 1,.row 0 (bools (Ah c a)) 1],0,[]⟩)at e
 simp only[show((0:Nat):Int)=0 from rfl]at e;have tA:(tab A).take a=tab A:=zql (by simp[hAl]);have lA:(bools (Ah c a)).length=c.regs.length:=by simp[bools,Od]
 unfold Px;simp -implicitDefEqProofs only[hlt,hw,hm,hz,e,p1,p2,p3,p4,tA,hAl,lA,zqa,X1,cC,Bj,Bk,Ga,zqv,show zqq 1 AV.nilsl=[AV.nilsl]from rfl,XP,seval];simp[tab]
theorem YN(hA:T 25=some A3)(hO:T 31=some C6)(hc:SOk c)(h0:0<c.blocks.length)(hs:c.regs.length*24<=bigN)(ha:0<c.regs.length):evP ⟨A0,T,A2⟩ (.code Px [(1,.ptr 0 0 0),(3,.nilsl),(4,.int .i64 ((0:Nat):Int))] ⟨[.row 1 [.agg [.str c.name,.int .i64 c.ty,.int .i64 c.ps,fslN (ints c.regs),fslN (c.blocks.map Blk.F)]] 5],0,[]⟩)=some (.ok .normal [(1,.ptr 0 0 0),(3,.msl 1 0 1 1),(4,.int .i64 ((1:Nat):Int))] ⟨[.row 1 [.agg [.str c.name,.int .i64 c.ty,.int .i64 c.ps,fslN (ints c.regs),fslN (c.blocks.map Blk.F)]] 5,.row 0 (tab [Ah c 0]) 1],0,[]⟩):=by
 have hlt:decide (((0:Nat):Int)<(c.regs.length:Int))=true:=by simp[ha]
 have hw:IntKind.i64.wrap (((0:Nat):Int)+1)=((1:Nat):Int):=by decide
 have hm:c.regs.length*1<=140737488355328:=by simp only[bigN]at hs;omega
 obtain⟨fr',e,p1,p2,p3,p4⟩:=CJ (T:=T) (a:=0) hA hO hc h0 hs c.regs.length 0 (noneL c.regs.length) (zkr _).symm (by simp[noneL])
 change evP _ _=some (.ok (.exit 2) fr' ⟨[.row 1 [.agg [.str c.name,.int .i64 c.ty,.int .i64 c.ps,fslN (ints c.regs),fslN (c.blocks.map Blk.F)]] 5,.row 0 (bools (Ah c 0)) 1],0,[]⟩)at e
 simp only[show((0:Nat):Int)=0 from rfl,show((1:Nat):Int)=1 from rfl]at e p3 hlt hw|-;have lA:(bools (Ah c 0)).length=c.regs.length:=by simp[bools,Od]
 unfold Px;simp -implicitDefEqProofs only[hlt,hw,hm,e,p1,p2,p3,p4,lA,zqa,X1,cC,Bj,Bk,Ga,zqv,show zqq 1 AV.nilsl=[AV.nilsl]from rfl,XP,seval]
 try rfl
def refC(c:Cod):List (List Bool):=(zqd c.regs.length).map (Ah c)
theorem KS{K:PK}{y3:AV}:∃fr',evP ⟨A0,T,A2⟩ (.code Px [(1,.ptr 0 0 0),(3,y3),(4,.int .i64 (c.regs.length:Int))] ⟨.row 1 [.agg [.str c.name,.int .i64 c.ty,.int .i64 c.ps,fslN (ints c.regs),fslN (c.blocks.map Blk.F)]] 5::K.os,0,[]⟩)=some (.ok (.exit 0) fr' ⟨.row 1 [.agg [.str c.name,.int .i64 c.ty,.int .i64 c.ps,fslN (ints c.regs),fslN (c.blocks.map Blk.F)]] 5::K.os,0,[]⟩)/\lookP fr' 3=y3:=by
 have hlt:decide ((c.regs.length:Int)<(c.regs.length:Int))=false:=by simp
 unfold Px;simp -implicitDefEqProofs only[hlt,zqa,XP,seval];exact⟨_,rfl,rfl⟩
theorem KT(hA:T 25=some A3)(hO:T 31=some C6)(hc:SOk c)(h0:0<c.blocks.length)(hs:c.regs.length*24<=bigN):∀(n a:Nat),c.regs.length=a+n->∃fr',evP ⟨A0,T,A2⟩ (.code (.loop Px) [(1,.ptr 0 0 0),(3,.msl 1 0 a 1),(4,.int .i64 (a:Int))] ⟨[.row 1 [.agg [.str c.name,.int .i64 c.ty,.int .i64 c.ps,fslN (ints c.regs),fslN (c.blocks.map Blk.F)]] 5,.row 0 (tab ((zqd a).map (Ah c))) 1],0,[]⟩)=some (.ok (.exit 0) fr' ⟨[.row 1 [.agg [.str c.name,.int .i64 c.ty,.int .i64 c.ps,fslN (ints c.regs),fslN (c.blocks.map Blk.F)]] 5,.row 0 (tab (refC c)) 1],0,[]⟩)/\lookP fr' 3=.msl 1 0 c.regs.length 1
 | 0,a,h=>by
  obtain rfl:a=c.regs.length:=by omega
  obtain⟨fr',e,h⟩:=KS (T:=T) (c:=c) (K:=⟨[.row 0 (tab (refC c)) 1],0,[]⟩);exact⟨fr',B3 e,h⟩
 | n+1,a,h=>by
  obtain⟨fr',e,p⟩:=KT hA hO hc h0 hs n (a+1) (by omega);have e1:=YM (T:=T) (a:=a) (A:=(zqd a).map (Ah c)) hA hO hc h0 hs (by omega) (by simp);rw[show(zqd a).map (Ah c)++[Ah c a]=(zqd (a+1)).map (Ah c) by rw[zkf,zkg];rfl]at e1;exact⟨fr',(loop_more e1).trans e,p⟩
end
theorem Bs(hmortiseref15_Ahead:T 25=some A3)(hmortiseref15_over:T 31=some C6){c:Cod}(hk:SOk c/\c.regs.length*24<=bigN/\0<c.blocks.length):AM.Comes ⟨A0,T,A2⟩ 11 [c.F] [ownd 0 1 (tab (refC c))]:=by
 obtain⟨hc,hs,h0⟩:=hk;by_cases hr:c.regs.length=0
 . obtain⟨fr',e,k⟩:=KS (T:=T) (c:=c) (K:=⟨[],0,[]⟩) (y3:=.nilsl)
   have hL:=B3 e;rw[hr]at hL;simp only[show((0:Nat):Int)=0 from rfl]at hL;have e0:refC c=[]:=by unfold refC;rw[hr];rfl
   rw[e0];refine⟨[.nilsl],⟨[],0,[]⟩,?_,D6 (.inl ⟨rfl,rfl,rfl⟩)⟩;rw[A6 (c:=AW) (nt:=74) (rs:=[.tmp 2]) rfl (by simp)];unfold AW;unfold K0 Cod.F;simp -implicitDefEqProofs only[hL,k,zqa,XP,seval]
 . obtain⟨N,hN⟩:∃N,c.regs.length=1+N:=⟨c.regs.length-1,by omega⟩
   have e0:=YN (T:=T) hmortiseref15_Ahead hmortiseref15_over hc h0 hs (by omega);obtain⟨fr',e1,k⟩:=KT (T:=T) hmortiseref15_Ahead hmortiseref15_over hc h0 hs N 1 hN;have hL:=(loop_more e0).trans e1;have lA:(refC c).length=c.regs.length:=by simp[refC]
   simp only[show((0:Nat):Int)=0 from rfl]at hL;generalize refC c=A at hL lA|-;refine⟨[.msl 0 0 c.regs.length 1],⟨[.row 0 (tab A) 1],0,[]⟩,?_,D6 (.inr ⟨by rw[zqa,lA],rfl⟩)⟩;rw[A6 (c:=AW) (nt:=74) (rs:=[.tmp 2]) rfl (by simp)];unfold AW;unfold K0 Cod.F;simp -implicitDefEqProofs only[hL,k,zqa,lA,XP,seval]
def J6:=g0 (fun p:(Cod)=>[p.F]) (fun p=>[ownd 0 1 (tab (refC p))]) (fun p=>SOk p/\p.regs.length*24<=bigN/\0<p.blocks.length)
theorem Ii(hmortiseref15_Clash:T 11=some J6){c:Cod}{K:PK}(hk:SOk c/\c.regs.length*24<=bigN/\0<c.blocks.length):evP ⟨A0,T,A2⟩ (.call 11 [c.F] K)=some (.val (openTs K.os.length [ownd 0 1 (tab (refC c))]).1 ⟨K.os++(openTs K.os.length [ownd 0 1 (tab (refC c))]).2,K.ext,K.tch⟩):=B8 hmortiseref15_Clash (by simp -implicitDefEqProofs only[VV,XP,seval]) (C2 (a:=fun p:(Cod)=>[p.F]) (r:=fun p=>[ownd 0 1 (tab (refC p))]) (fun x y e=>by simp only[VJ]at e;simp only[e]) (c) hk) (by simp -implicitDefEqProofs only[VN,Cg,XP,seval])
theorem Ei(hmortiseref15_Ahead:T 25=some A3)(hmortiseref15_over:T 31=some C6)(hP:PEok ⟨A0,T,A2⟩):TC A0 11 J6:=C8 hP fun p h=>Bs hmortiseref15_Ahead hmortiseref15_over h
abbrev Ai(A:List (List Bool)):List AV:=A.map fun r=>fslN (bools r)
theorem vH{A B:List (List Bool)}:Ai A=Ai B↔A=B:=⟨map_inj fun _ _ h=>bools_iff.1 (fslN_inj h),fun h=>h▸rfl⟩
theorem vI:∀A:List (List Bool),frzL (tab A)=some (Ai A):=fun A=>m9 (f:=fun r=>ownd 0 1 (bools r)) (g:=fun r=>fslN (bools r)) (fun r=>by
 simp -implicitDefEqProofs only[frzL_bools,XP,seval]) A
section
variable {A B:List (List Bool)}{i:Nat}
theorem YO(hS:T 17=some I1)(ha:i<A.length)(hb:i<B.length)(hs:A.length<=bigN)(hr:A[i].length<=140737488355328)(he:A[i]=B[i]):evP ⟨A0,T,A2⟩ (.code Pw [(0,fslN (Ai A)),(1,fslN (Ai B)),(5,.int .i64 (i:Int))] ⟨[],0,[]⟩)=some (.ok .normal [(0,fslN (Ai A)),(1,fslN (Ai B)),(5,.int .i64 ((i+1:Nat):Int))] ⟨[],0,[]⟩):=by
 have hlt:decide ((i:Int)<(A.length:Int))=true:=by simp[ha]
 have hw:=A8 (i:=i) (by simp only[bigN]at hs;omega);have ga:=B5 (F:=fun r=>fslN (bools r)) ha;have gb:=B5 (F:=fun r=>fslN (bools r)) hb;have ts:=fun K=>Ux (K:=K) (l:=A[i]) (m:=B[i]) hS hr
 rw[decide_eq_true he]at ts;unfold Pw;simp -implicitDefEqProofs only[hlt,hw,ga,gb,ts,zqa,XP,seval]
theorem YQ(hS:T 17=some I1)(ha:i<A.length)(hb:i<B.length)(hr:A[i].length<=140737488355328)(he:¬A[i]=B[i]):∃fr',evP ⟨A0,T,A2⟩ (.code Pw [(0,fslN (Ai A)),(1,fslN (Ai B)),(5,.int .i64 (i:Int))] ⟨[],0,[]⟩)=some (.ok .ret fr' ⟨[],0,[]⟩)/\lookP fr' 4=.bool false:=by
 have hlt:decide ((i:Int)<(A.length:Int))=true:=by simp[ha]
 have ga:=B5 (F:=fun r=>fslN (bools r)) ha;have gb:=B5 (F:=fun r=>fslN (bools r)) hb;have ts:=fun K=>Ux (K:=K) (l:=A[i]) (m:=B[i]) hS hr
 rw[decide_eq_false he]at ts;unfold Pw;simp -implicitDefEqProofs only[hlt,ga,gb,ts,zqa,XP,seval];exact⟨_,rfl,rfl⟩
theorem YR:∃fr',evP ⟨A0,T,A2⟩ (.code Pw [(0,fslN (Ai A)),(1,fslN (Ai B)),(5,.int .i64 (A.length:Int))] ⟨[],0,[]⟩)=some (.ok (.exit 0) fr' ⟨[],0,[]⟩):=by
 have hlt:decide ((A.length:Int)<(A.length:Int))=false:=by simp
 unfold Pw;simp -implicitDefEqProofs only[hlt,zqa,XP,seval];exact⟨_,rfl⟩
theorem KU(hS:T 17=some I1)(hl:A.length=B.length)(hs:A.length<=bigN)(hr:∀r∈A,r.length<=140737488355328):∀(n i:Nat),A.length=i+n->∃e fr',evP ⟨A0,T,A2⟩ (.code (.loop Pw) [(0,fslN (Ai A)),(1,fslN (Ai B)),(5,.int .i64 (i:Int))] ⟨[],0,[]⟩)=some (.ok e fr' ⟨[],0,[]⟩)/\((e=.ret/\lookP fr' 4=.bool false/\¬A.drop i=B.drop i)\/(e=.exit 0/\A.drop i=B.drop i))
 | 0,i,h=>by
  obtain rfl:i=A.length:=by omega
  obtain⟨fr',e⟩:=YR (T:=T) (A:=A) (B:=B);exact⟨_,fr',B3 e,.inr ⟨rfl,by rw[zqt,hl,zqt]⟩⟩
 | n + 1,i,h=>by
  have ha:i<A.length:=by omega
  have hb:i<B.length:=by omega
  rw[zqr ha,zqr hb];by_cases he:A[i]=B[i]
  . obtain⟨e,fr',h1,h2⟩:=KU hS hl hs hr n (i+1) (by omega)
    refine⟨e,fr',(loop_more (YO hS ha hb hs (hr _ (zqb ha)) he)).trans h1,?_⟩;rw[he];rcases h2 with⟨h2,h3,h4⟩|⟨h2,h3⟩
    . exact .inl ⟨h2,h3,fun q=>h4 (List.cons.inj q).2⟩
    . exact .inr ⟨h2,by rw[h3]⟩
  . obtain⟨fr',h1,h2⟩:=YQ (T:=T) hS ha hb (hr _ (zqb ha)) he
    exact⟨_,fr',L6 h1,.inl ⟨rfl,h2,fun q=>he (List.cons.inj q).1⟩⟩
end
theorem Oe(hSameBools:T 17=some I1){A:List (List Bool)}{B:List (List Bool)}(hk:A.length<=bigN/\∀r∈A,r.length<=140737488355328):AM.Comes ⟨A0,T,A2⟩ 10 [fslN (Ai A),fslN (Ai B)] [.bool (decide (A=B))]:=by
 refine⟨[.bool (decide (A=B))],⟨[],0,[]⟩,?_,C1 rfl zqm rfl rfl rfl⟩;rw[A6 (c:=GI) (nt:=27) (rs:=[.tmp 4]) rfl (by simp)];unfold GI;unfold K0;obtain⟨hs,hr⟩:=hk;by_cases hl:A.length=B.length
 . obtain ⟨e,fr',h1,h2⟩:=KU (T:=T) hSameBools hl hs hr A.length 0 (zkr _).symm
   rw[zqh,zqh]at h2;simp only[show((0:Nat):Int)=0 from rfl]at h1;have hn:(!decide ((A.length:Int)=(B.length:Int)))=false:=by simp[hl]
   rcases h2 with⟨rfl,h3,h4⟩|⟨rfl,h4⟩
   . rw[decide_eq_false h4]
     simp -implicitDefEqProofs only[hn,h1,h3,zqa,XP,seval]
   . rw[decide_eq_true h4]
     simp -implicitDefEqProofs only[hn,h1,zqa,XP,seval]
 . have hn:(!decide ((A.length:Int)=(B.length:Int)))=true:=by simp;omega
   have hd:decide (A=B)=false:=decide_eq_false fun h=>hl (by rw[h])
   rw[hd];simp -implicitDefEqProofs only[hn,zqa,XP,seval]
def o7:=g0 (fun p:(List (List Bool))×(List (List Bool))=>[fslN (Ai p.1),fslN (Ai p.2)]) (fun p=>[.bool (decide (p.1=p.2))]) (fun p=>p.1.length<=bigN/\∀r∈p.1,r.length<=140737488355328)
theorem Xp(hlaw15_same:T 10=some o7){A:List (List Bool)}{B:List (List Bool)}{K:PK}{args:List AV}(hv:viewAs K.os args=some [fslN (Ai A),fslN (Ai B)])(hk:A.length<=bigN/\∀r∈A,r.length<=140737488355328):evP ⟨A0,T,A2⟩ (.call 10 args K)=some (.val (openTs K.os.length [.bool (decide (A=B))]).1 ⟨K.os++(openTs K.os.length [.bool (decide (A=B))]).2,K.ext,K.tch⟩):=B8 hlaw15_same hv (C2 (a:=fun p:(List (List Bool))×(List (List Bool))=>[fslN (Ai p.1),fslN (Ai p.2)]) (r:=fun p=>[.bool (decide (p.1=p.2))]) (fun x y e=>by simp only[VJ,vH]at e;simp only[e]) (A,B) hk) (by generalize (refsL args).isEmpty=z;simp -implicitDefEqProofs only[VN,XP,seval])
theorem Xq(hSameBools:T 17=some I1)(hP:PEok ⟨A0,T,A2⟩):TC A0 10 o7:=C8 hP fun p h=>Oe hSameBools h
def Vk(n:Int):Bool:=decide (n.tmod 2=0)
theorem yR{t:Nat}{k:IntKind}{a:Int}{K:PK}:a8 A0 .rem t (.int k a) (.int k 2) K=.val (.int k (a.tmod 2)) K:=by rw[bp _ _ rfl rfl,LN _ _ _ _ (by decide)];rfl
theorem Rh  {n:Int}:AM.Comes ⟨A0,T,A2⟩ 32 [.int .i64 n] [.bool (Vk n)]:=by
 refine⟨[.bool (Vk n)],⟨[],0,[]⟩,?_,C1 rfl zqm rfl rfl rfl⟩;rw[A6 (c:=NO) (nt:=6) (rs:=[.tmp 2]) rfl (by simp)];unfold NO;unfold K0;unfold Vk;simp -implicitDefEqProofs only[yR,XP,seval]
def J3:=g0 (fun p:(Int)=>[.int .i64 p]) (fun p=>[.bool (Vk p)]) (fun p=>True)
theorem lE(hmarkBools:T 32=some J3){n:Int}{K:PK}:evP ⟨A0,T,A2⟩ (.call 32 [.int .i64 n] K)=some (.val (openTs K.os.length [.bool (Vk n)]).1 ⟨K.os++(openTs K.os.length [.bool (Vk n)]).2,K.ext,K.tch⟩):=B8 hmarkBools (by simp -implicitDefEqProofs only[VV,XP,seval]) (C2 (a:=fun p:(Int)=>[.int .i64 p]) (r:=fun p=>[.bool (Vk p)]) (fun x y e=>by simp only[VJ]at e;simp only[e]) (n) trivial) (by simp -implicitDefEqProofs only[VN,XP,seval])
theorem cL  (hP:PEok ⟨A0,T,A2⟩):TC A0 32 J3:=C8 hP fun p h=>Rh
section
variable {put:List AV->List PO}{id:Nat}{es:List AV}{fr:PF}{ext i:Nat}{tch:List Nat}
theorem KV(hT:T 32=some J3)(L:Lens put id 1){l:List Bool}(h0:lookP fr 0=.msl id 0 l.length 1)(h2:lookP fr 2=.int .i64 (i:Int))(hl:i<l.length)(hs:l.length*8<=bigN):
 ∃fr' x tch',evP ⟨A0,T,A2⟩ (.code Yq fr ⟨put (bools l),ext,tch⟩)=some (.ok .normal fr' ⟨put (bools (l.set i x)),ext,tch'⟩)/\lookP fr' 0=.msl id 0 l.length 1/\lookP fr' 2=.int .i64 ((i+1:Nat):Int):=by
 unfold Yq;have hlt:decide ((i:Int)<(l.length:Int))=true:=by simp[hl]
 have ht:=fun n K=>lE (K:=K) (n:=n) hT
 have hi:=C5 hl;have hw:=A8 (i:=i) (by simp only[bigN]at hs;omega);have hst:∀x,(bools l).set i (.bool x)=bools (l.set i x):=fun x=>by unfold bools;rw[zqi]
 simp -implicitDefEqProofs only[h0,h2,hlt,ht,hl,hi,hw,hst,L.row,L.set,L.raw,XP,seval];refine⟨_,_,_,rfl,?_,?_⟩
 . simp -implicitDefEqProofs only[h0,XP,seval]
 . simp -implicitDefEqProofs only[XP,seval]
theorem KW{l:List Bool}{K:PK}(h0:lookP fr 0=.msl id 0 l.length 1)(h2:lookP fr 2=.int .i64 (l.length:Int)):
 ∃fr',evP ⟨A0,T,A2⟩ (.code Yq fr K)=some (.ok (.exit 0) fr' K):=by
 unfold Yq;have hlt:decide ((l.length:Int)<(l.length:Int))=false:=by simp
 simp -implicitDefEqProofs only[h0,h2,hlt,XP,seval];exact⟨_,rfl⟩
theorem CK(hT:T 32=some J3)(L:Lens put id 1):∀(n i:Nat)(l:List Bool)(fr:PF)(tch:List Nat),l.length=i+n->l.length*8<=bigN->lookP fr 0=.msl id 0 l.length 1->lookP fr 2=.int .i64 (i:Int) ->
 ∃fr' l' tch',evP ⟨A0,T,A2⟩ (.code (.loop Yq) fr ⟨put (bools l),ext,tch⟩)=some (.ok (.exit 0) fr' ⟨put (bools l'),ext,tch'⟩)/\l'.length=l.length
 | 0,i,l,fr,tch,e,hs,h0,h2=>by
  obtain rfl:i=l.length:=by omega
  obtain⟨fr',h⟩:=KW (T:=T) (K:=⟨put (bools l),ext,tch⟩) h0 h2;exact⟨fr',l,tch,B3 h,rfl⟩
 | n+1,i,l,fr,tch,e,hs,h0,h2=>by
  obtain⟨fr1,x,tch1,h3,h4,h5⟩:=KV (ext:=ext) (tch:=tch) hT L h0 h2 (by omega) hs;obtain⟨fr',l',tch',h6,h7⟩:=CK hT L n (i+1) (l.set i x) fr1 tch1 (by simp;omega) (by simpa using hs) (by simpa using h4) h5;exact⟨fr',l',tch',(loop_more h3).trans h6,by simpa using h7⟩
theorem r9(hT:T 32=some J3)(hN:T 12=none)(L:Lens put id 1){l:List Bool}(hs:l.length*8<=bigN):
 ∃l' tch',evP ⟨A0,T,A2⟩ (.call 12 [.msl id 0 l.length 1] ⟨put (bools l),ext,tch⟩)=some (.val [] ⟨put (bools l'),ext,tch'⟩)/\l'.length=l.length:=by
 obtain⟨fr',l',tch',h6,h7⟩:=CK (T:=T) (ext:=(put (bools l)).length) hT L l.length 0 l [(2,.int .i64 0),(0,.msl id 0 l.length 1)] [] (by omega) hs (by simp -implicitDefEqProofs only[XP,Nat.reduceAdd,Nat.reduceSub,Nat.reduceLT,Nat.reduceLeDiff,Nat.reduceEqDiff,Nat.reduceMul,↓reduceIte]) (by simp -implicitDefEqProofs only[XP,Nat.reduceAdd,Nat.reduceSub,Nat.reduceLT,Nat.reduceLeDiff,Nat.reduceEqDiff,Nat.reduceMul,↓reduceIte];rfl);refine⟨l',tch'++tch,?_,h7⟩;rw[Am hN rfl,A6 (c:=NA) (nt:=15) (rs:=[]) rfl (by simp)];unfold NA;simp -implicitDefEqProofs only[h6,XP,Nat.reduceAdd,Nat.reduceSub,Nat.reduceLT,Nat.reduceLeDiff,Nat.reduceEqDiff,Nat.reduceMul,↓reduceIte]
end
theorem cM{N n:Nat}{A B:List (List Bool)}(hA:A5 N n A)(hB:A5 N n B)(h:∀i r,i<N->r<n->(at2 A i r=true↔at2 B i r=true)):A=B:=by
 refine zkp (by rw[hA.1,hB.1]) fun i h1 h2=>?_
 have hi:i<N:=by have:=hA.1;omega
 have a1:=hA.2 _ (zqb h1);have b1:=hB.2 _ (zqb h2);refine zkp (by rw[a1,b1]) fun r h3 h4=>?_
 have hr:r<n:=by omega
 have e:=h i r hi hr;unfold at2 at e;rw[zqe,zqe,zqc h1,zqe,zqe,zqc h2]at e;simp only[Option.getD_some]at e;rw[zqc h3,zqc h4]at e;simp only[Option.getD_some]at e;exact Bool.eq_iff_iff.2 e
theorem gR(w:Nat->Bool)(j:Nat):∀(n i:Nat)(a:List Bool),i+n<=a.length->(t6 w n i a).getD j false=if i<=j/\j<i+n then w j else a.getD j false
 |0,i,a,_=>by rw[t6,if_neg (by omega)]
 | n + 1,i,a,h=>by
  rw[t6,gR w j n (i+1) _ (by rw[zqf];omega),Z5 (by omega)];by_cases e:i=j
  . subst e
    rw[if_neg (by omega),if_pos rfl,if_pos (by omega)]
  . by_cases h2:i+1<=j/\j<i+1+n
    . rw[if_pos h2,if_pos (by omega)]
    . rw[if_neg h2,if_neg e,if_neg (by omega)]
theorem Of{N n:Nat}{f:Nat->List Bool}(h:∀i,(f i).length=n):A5 N n ((zqd N).map f):=⟨by simp,fun r hr=>by
 obtain⟨i,_,rfl⟩:=List.mem_map.1 hr;exact h i⟩
theorem lF{N i r:Nat}{f:Nat->List Bool}(hi:i<N):at2 ((zqd N).map f) i r=(f i).getD r false:=by
 unfold at2;simp[zqe,List.getElem?_map,List.getElem?_range hi]
section
variable {c:Cod}
theorem lG{w:Nat->Bool}{r:Nat}(hr:r<c.regs.length):(t6 w c.regs.length 0 (noneL c.regs.length)).getD r false=w r:=by
 rw[gR _ _ _ _ _ (by simp[noneL]),if_pos (by omega)]
theorem cN(ok:BOk c.blocks c.regs.length){i r:Nat}(hi:i<c.blocks.length):ahB c i r=true↔Wan c.blocks r i:=by
 have hb:=zqc hi;unfold ahB;rw[Oa ok.t (by rw[R3 hi];exact zqb hi),R3 hi];unfold yN;rw[zqh]
 constructor
 . rintro(h|⟨h,t,h1,h2⟩)
   . exact .here hb h
   . exact .step hb h h1 h2
 . intro h
   cases h with
   | here h1 h2 =>
    rw[hb]at h1;cases h1;exact .inl h2
   | step h1 h2 h3 h4 =>
    rw[hb]at h1;cases h1;exact .inr ⟨h2,_,h3,h4⟩
theorem EY(ok:BOk c.blocks c.regs.length){i r:Nat}(hi:i<c.blocks.length):bhB c i r=true↔∃t∈tosD (blkN c i).e,Wan c.blocks r t.toNat:=by
 have hm:blkN c i∈c.blocks:=by rw[R3 hi];exact zqb hi
 have ht:=ok.t _ hm;unfold bhB behB;rw[List.any_eq_true]
 constructor
 . rintro⟨t,h1,h2⟩
   exact⟨t,h1,(cN ok (by have:=ht t h1;omega)).1 h2⟩
 . rintro⟨t,h1,h2⟩
   exact⟨t,h1,(cN ok (by have:=ht t h1;omega)).2 h2⟩
theorem yS(ok:BOk c.blocks c.regs.length):refA c=(liveD c).1:=by
 obtain⟨lA,lB⟩:=cJ ok;obtain⟨sA,sB⟩:=U1 c;refine cM (Of (Ob c)) sA fun i r hi hr=>?_
 unfold refA;rw[lF hi,lA i r hr];unfold Af;rw[lG hr,cN ok hi]
theorem yT(ok:BOk c.blocks c.regs.length):refB c=(liveD c).2.1:=by
 obtain⟨lA,lB⟩:=cJ ok;obtain⟨sA,sB⟩:=U1 c;refine cM (Of (Oc c)) sB fun i r hi hr=>?_
 unfold refB;rw[lF hi,lB i r _ hr (zqc hi)];unfold Ag;rw[lG hr,EY ok hi,R3 hi]
theorem nH(ok:BOk c.blocks c.regs.length){p q:Nat}:overB c p q=true↔vE c p q:=by
 unfold overB;rw[vG]
 constructor
 . rintro⟨j,_,h1,h2⟩
   rw[lC]at h2;obtain⟨k,x,h3,h4,h5,h6⟩:=h2;have hj:j<c.blocks.length:=by omega
   have hm:blkN c j∈c.blocks:=by rw[R3 hj];exact zqb hj
   exact⟨blkN c j,hm,k,x,h3,h4,h5,(Oa ok.t hm).1 (by rw[zkr]at h6;exact h6)⟩
 . rintro⟨b,hb,k,x,h3,h4,h5,h6⟩
   obtain⟨j,hj⟩:=zko hb;obtain⟨hj1,hj2⟩:=zqp.1 hj;have e:blkN c j=b:=(R3 hj1).trans hj2;refine⟨j,zks _,by omega,?_⟩;rw[lC,e];exact⟨k,x,h3,h4,h5,by rw[zkr];exact(Oa ok.t hb).2 h6⟩
theorem vJ(ok:BOk c.blocks c.regs.length)(h0:0<c.blocks.length){r:Nat}:O3 c r=true↔Zc c r:=by
 unfold O3 Zc;rw[zkx,decide_eq_true_eq,cN ok h0]
theorem yU(ok:BOk c.blocks c.regs.length)(hc:LOk c):refC c=clashD c:=by
 refine cM (Of (Od c)) (Dk hc) fun i r hi hr=>?_
 rw[vF ok hc.b0 hi hr];unfold refC;rw[lF hi];unfold Ah;rw[lG hr];unfold clB;rw[zja,zkx,zkx,zja,vJ ok hc.b0,vJ ok hc.b0,nH ok,nH ok];simp only[Bool.not_eq_true',decide_eq_false_iff_not,Int.ofNat_inj,or_assoc,ne_eq]
end
theorem cO{c:Cod}(h:LOk c):BOk c.blocks c.regs.length:=⟨fun b hb=>⟨(h.wk b hb).wr,(h.wk b hb).rd,(h.wk b hb).ea⟩,h.to⟩
theorem nI{c:Cod}(h:LOk c):SOk c:=⟨h.bl,fun b hb=>⟨⟨(h.wk b hb).ok,(h.wk b hb).sz⟩,fun x hx=>Us ((h.wk b hb).ok x hx)⟩,h.to⟩
theorem Ck{α:Type}{l:List α}{i:Nat}{v:α}(h:i<l.length):(l.set i v)[i]?=some v:=List.getElem?_set_self h
section
variable {m:Modl}{c:Cod}{A B X Y D:List (List Bool)}{i k:Nat}{tch:List Nat}
theorem KX{r0 r1 r3 r4 r5 r6 r7 r8:PO}(hk:k<A.length):Lens (fun es=>[r0,r1,.row 0 ((tab A).set k (ownd 0 1 es)) 1,r3,r4,r5,r6,r7,r8,.sub 2 k 0]) 9 1:=by
 have hk':k<(tab A).length:=by simpa using hk
 refine⟨fun es=>?_,fun es es'=>?_,fun es=>?_⟩
 . simp -implicitDefEqProofs only[Ck hk',XP,seval]
 . simp -implicitDefEqProofs only[Ck hk',zkh,XP,seval]
   rfl
 . rfl
theorem KY{r0 r1 r2 r4 r5 r6 r7 r8:PO}(hk:k<B.length):Lens (fun es=>[r0,r1,r2,.row 0 ((tab B).set k (ownd 0 1 es)) 1,r4,r5,r6,r7,r8,.sub 2 k 0,.sub 3 k 0]) 10 1:=by
 have hk':k<(tab B).length:=by simpa using hk
 refine⟨fun es=>?_,fun es es'=>?_,fun es=>?_⟩
 . simp -implicitDefEqProofs only[Ck hk',XP,seval]
 . simp -implicitDefEqProofs only[Ck hk',zkh,XP,seval]
   rfl
 . rfl
theorem KZ(hT:T 32=some J3)(hN:T 12=none)(hA:A5 c.blocks.length c.regs.length A)(hB:A5 c.blocks.length c.regs.length B)(hk:k<c.blocks.length)(hs:c.regs.length*8<=bigN)(hb:c.blocks.length*56<=bigN):
 ∃a' b' tch',a'.length=c.regs.length/\b'.length=c.regs.length/\evP ⟨A0,T,A2⟩ (.code pO [(1,.ptr 0 0 0),(3,.int .i64 (i:Int)),(4,.ptr 1 0 0),(5,.msl 2 0 c.blocks.length 1),(6,.msl 3 0 c.blocks.length 1),(7,.msl 4 0 c.blocks.length 1),(8,.msl 5 0 c.blocks.length 1),(9,.msl 6 0 c.regs.length 1),(10,.int .i64 (k:Int))] ⟨[.row 1 [.agg [fslN (m.gs.map Glo.F),fslN (m.fs.map Cod.F)]] 2,.row 1 [.agg [.str c.name,.int .i64 c.ty,.int .i64 c.ps,.msl 7 0 c.regs.length 1,.msl 8 0 c.blocks.length 5]] 5,.row 0 (tab A) 1,.row 0 (tab B) 1,.row 0 (tab X) 1,.row 0 (tab Y) 1,.row 0 (tab D) 1,.row 0 (ints c.regs) 1,.row 0 (c.blocks.map Blk.O) 5],0,tch⟩)=some (.ok .normal [(1,.ptr 0 0 0),(3,.int .i64 (i:Int)),(4,.ptr 1 0 0),(5,.msl 2 0 c.blocks.length 1),(6,.msl 3 0 c.blocks.length 1),(7,.msl 4 0 c.blocks.length 1),(8,.msl 5 0 c.blocks.length 1),(9,.msl 6 0 c.regs.length 1),(10,.int .i64 ((k+1:Nat):Int))] ⟨[.row 1 [.agg [fslN (m.gs.map Glo.F),fslN (m.fs.map Cod.F)]] 2,.row 1 [.agg [.str c.name,.int .i64 c.ty,.int .i64 c.ps,.msl 7 0 c.regs.length 1,.msl 8 0 c.blocks.length 5]] 5,.row 0 (tab (A.set k a')) 1,.row 0 (tab (B.set k b')) 1,.row 0 (tab X) 1,.row 0 (tab Y) 1,.row 0 (tab D) 1,.row 0 (ints c.regs) 1,.row 0 (c.blocks.map Blk.O) 5],0,tch'⟩):=by
 have hkA:k<A.length:=by rw[hA.1];exact hk
 have hkB:k<B.length:=by rw[hB.1];exact hk
 have lA:A[k].length=c.regs.length:=hA.2 _ (zqb hkA);have lB:B[k].length=c.regs.length:=hB.2 _ (zqb hkB);obtain⟨a',t1,h1,l1⟩:=r9 (T:=T) (ext:=0) (tch:=tch) hT hN (KX (r0:=.row 1 [.agg [fslN (m.gs.map Glo.F),fslN (m.fs.map Cod.F)]] 2) (r1:=.row 1 [.agg [.str c.name,.int .i64 c.ty,.int .i64 c.ps,.msl 7 0 c.regs.length 1,.msl 8 0 c.blocks.length 5]] 5) (r3:=.row 0 (tab B) 1) (r4:=.row 0 (tab X) 1) (r5:=.row 0 (tab Y) 1) (r6:=.row 0 (tab D) 1) (r7:=.row 0 (ints c.regs) 1) (r8:=.row 0 (c.blocks.map Blk.O) 5) hkA) (l:=A[k]) (by rw[lA];exact hs);obtain⟨b',t2,h2,l2⟩:=r9 (T:=T) (ext:=0) (tch:=t1) hT hN (KY (r0:=.row 1 [.agg [fslN (m.gs.map Glo.F),fslN (m.fs.map Cod.F)]] 2) (r1:=.row 1 [.agg [.str c.name,.int .i64 c.ty,.int .i64 c.ps,.msl 7 0 c.regs.length 1,.msl 8 0 c.blocks.length 5]] 5) (r2:=.row 0 (tab (A.set k a')) 1) (r4:=.row 0 (tab X) 1) (r5:=.row 0 (tab Y) 1) (r6:=.row 0 (tab D) 1) (r7:=.row 0 (ints c.regs) 1) (r8:=.row 0 (c.blocks.map Blk.O) 5) hkB) (l:=B[k]) (by rw[lB];exact hs);have eA:(tab A)[k]?=some (ownd 0 1 (bools A[k])):=by simp[hkA]
 have eB:(tab B)[k]?=some (ownd 0 1 (bools B[k])):=by simp[hkB]
 have sA:(tab A).set k (ownd 0 1 (bools a'))=tab (A.set k a'):=by unfold tab;rw[zqi]
 have sB:(tab B).set k (ownd 0 1 (bools b'))=tab (B.set k b'):=by unfold tab;rw[zqi]
 simp only[Gb eA,Gb eB,sA,sB,lA,lB]at h1 h2;have hlt:decide ((k:Int)<(c.blocks.length:Int))=true:=by simp[hk]
 have hw:=A8 (i:=k) (by simp only[bigN]at hb;omega);refine⟨a',b',?_,l1.trans lA,l2.trans lB,?_⟩
 rotate_left 1
 . unfold pO DU DV
   simp -implicitDefEqProofs only[hlt,hw,eA,eB,h1,h2,hk,hkA,hkB,lA,lB,zqa,XP,seval];rfl
end
section
variable {m:Modl}{c:Cod}{A B X Y D:List (List Bool)}{i k:Nat}{tch:List Nat}
theorem LB{K:PK}{y9:AV}:∃fr',evP ⟨A0,T,A2⟩ (.code pO [(1,.ptr 0 0 0),(3,.int .i64 (i:Int)),(4,.ptr 1 0 0),(5,.msl 2 0 c.blocks.length 1),(6,.msl 3 0 c.blocks.length 1),(7,.msl 4 0 c.blocks.length 1),(8,.msl 5 0 c.blocks.length 1),(9,y9),(10,.int .i64 (c.blocks.length:Int))] K)=some (.ok (.exit 2) fr' K)/\lookP fr' 1=.ptr 0 0 0/\lookP fr' 3=.int .i64 (i:Int)/\lookP fr' 4=.ptr 1 0 0/\lookP fr' 7=.msl 4 0 c.blocks.length 1/\lookP fr' 8=.msl 5 0 c.blocks.length 1/\lookP fr' 9=y9:=by
 have hlt:decide ((c.blocks.length:Int)<(c.blocks.length:Int))=false:=by simp
 unfold pO DU DV;simp -implicitDefEqProofs only[hlt,zqa,XP,seval];exact⟨_,rfl,rfl,rfl,rfl,rfl,rfl,rfl⟩
theorem CL(hT:T 32=some J3)(hN:T 12=none)(hs:c.regs.length*8<=bigN)(hb:c.blocks.length*56<=bigN):∀(n k:Nat)(A B:List (List Bool))(tch:List Nat),c.blocks.length=k+n->A5 c.blocks.length c.regs.length A->A5 c.blocks.length c.regs.length B->∃A' B' tch' fr',evP ⟨A0,T,A2⟩ (.code (.loop pO) [(1,.ptr 0 0 0),(3,.int .i64 (i:Int)),(4,.ptr 1 0 0),(5,.msl 2 0 c.blocks.length 1),(6,.msl 3 0 c.blocks.length 1),(7,.msl 4 0 c.blocks.length 1),(8,.msl 5 0 c.blocks.length 1),(9,.msl 6 0 c.regs.length 1),(10,.int .i64 (k:Int))] ⟨[.row 1 [.agg [fslN (m.gs.map Glo.F),fslN (m.fs.map Cod.F)]] 2,.row 1 [.agg [.str c.name,.int .i64 c.ty,.int .i64 c.ps,.msl 7 0 c.regs.length 1,.msl 8 0 c.blocks.length 5]] 5,.row 0 (tab A) 1,.row 0 (tab B) 1,.row 0 (tab X) 1,.row 0 (tab Y) 1,.row 0 (tab D) 1,.row 0 (ints c.regs) 1,.row 0 (c.blocks.map Blk.O) 5],0,tch⟩)=some (.ok (.exit 2) fr' ⟨[.row 1 [.agg [fslN (m.gs.map Glo.F),fslN (m.fs.map Cod.F)]] 2,.row 1 [.agg [.str c.name,.int .i64 c.ty,.int .i64 c.ps,.msl 7 0 c.regs.length 1,.msl 8 0 c.blocks.length 5]] 5,.row 0 (tab A') 1,.row 0 (tab B') 1,.row 0 (tab X) 1,.row 0 (tab Y) 1,.row 0 (tab D) 1,.row 0 (ints c.regs) 1,.row 0 (c.blocks.map Blk.O) 5],0,tch'⟩)/\lookP fr' 1=.ptr 0 0 0/\lookP fr' 3=.int .i64 (i:Int)/\lookP fr' 4=.ptr 1 0 0/\lookP fr' 7=.msl 4 0 c.blocks.length 1/\lookP fr' 8=.msl 5 0 c.blocks.length 1/\lookP fr' 9=.msl 6 0 c.regs.length 1
 | 0,k,A,B,tch,h,hA,hB=>by
  obtain rfl:k=c.blocks.length:=by omega
  obtain⟨fr',e,p⟩:=LB (T:=T) (c:=c) (i:=i) (y9:=.msl 6 0 c.regs.length 1) (K:=⟨[.row 1 [.agg [fslN (m.gs.map Glo.F),fslN (m.fs.map Cod.F)]] 2,.row 1 [.agg [.str c.name,.int .i64 c.ty,.int .i64 c.ps,.msl 7 0 c.regs.length 1,.msl 8 0 c.blocks.length 5]] 5,.row 0 (tab A) 1,.row 0 (tab B) 1,.row 0 (tab X) 1,.row 0 (tab Y) 1,.row 0 (tab D) 1,.row 0 (ints c.regs) 1,.row 0 (c.blocks.map Blk.O) 5],0,tch⟩);exact⟨A,B,tch,fr',B3 e,p⟩
 | n+1,k,A,B,tch,h,hA,hB=>by
  obtain⟨a',b',t1,l1,l2,e⟩:=KZ (T:=T) (m:=m) (c:=c) (X:=X) (Y:=Y) (D:=D) (i:=i) (k:=k) (tch:=tch) hT hN hA hB (by omega) hs hb;obtain⟨A',B',t2,fr',e2,p⟩:=CL hT hN hs hb n (k+1) (A.set k a') (B.set k b') t1 (by omega) (hA.set l1) (hB.set l2);exact⟨A',B',t2,fr',(loop_more e).trans e2,p⟩
end
section
variable {m:Modl}{c:Cod}{X Y D:List (List Bool)}{i k:Nat}{tch:List Nat}
theorem LC{r0 r1 r2 r3 r5 r6:PO}(hk:k<D.length):Lens (fun es=>[r0,r1,r2,r3,.row 0 ((tab D).set k (ownd 0 1 es)) 1,r5,r6,.sub 4 k 0]) 7 1:=by
 have hk':k<(tab D).length:=by simpa using hk
 refine⟨fun es=>?_,fun es es'=>?_,fun es=>?_⟩
 . simp -implicitDefEqProofs only[Ck hk',XP,seval]
 . simp -implicitDefEqProofs only[Ck hk',zkh,XP,seval]
   rfl
 . rfl
theorem LD(hT:T 32=some J3)(hN:T 12=none)(hD:A5 c.regs.length c.regs.length D)(hk:k<c.regs.length)(hs:c.regs.length*8<=bigN):
 ∃d' tch',d'.length=c.regs.length/\evP ⟨A0,T,A2⟩ (.code pP [(1,.ptr 0 0 0),(3,.int .i64 (i:Int)),(4,.ptr 1 0 0),(7,.msl 2 0 c.blocks.length 1),(8,.msl 3 0 c.blocks.length 1),(9,.msl 4 0 c.regs.length 1),(11,.int .i64 (k:Int))] ⟨[.row 1 [.agg [fslN (m.gs.map Glo.F),fslN (m.fs.map Cod.F)]] 2,.row 1 [.agg [.str c.name,.int .i64 c.ty,.int .i64 c.ps,.msl 5 0 c.regs.length 1,.msl 6 0 c.blocks.length 5]] 5,.row 0 (tab X) 1,.row 0 (tab Y) 1,.row 0 (tab D) 1,.row 0 (ints c.regs) 1,.row 0 (c.blocks.map Blk.O) 5],0,tch⟩)=some (.ok .normal [(1,.ptr 0 0 0),(3,.int .i64 (i:Int)),(4,.ptr 1 0 0),(7,.msl 2 0 c.blocks.length 1),(8,.msl 3 0 c.blocks.length 1),(9,.msl 4 0 c.regs.length 1),(11,.int .i64 ((k+1:Nat):Int))] ⟨[.row 1 [.agg [fslN (m.gs.map Glo.F),fslN (m.fs.map Cod.F)]] 2,.row 1 [.agg [.str c.name,.int .i64 c.ty,.int .i64 c.ps,.msl 5 0 c.regs.length 1,.msl 6 0 c.blocks.length 5]] 5,.row 0 (tab X) 1,.row 0 (tab Y) 1,.row 0 (tab (D.set k d')) 1,.row 0 (ints c.regs) 1,.row 0 (c.blocks.map Blk.O) 5],0,tch'⟩):=by
 have hkD:k<D.length:=by rw[hD.1];exact hk
 have lD:D[k].length=c.regs.length:=hD.2 _ (zqb hkD);obtain⟨d',t1,h1,l1⟩:=r9 (T:=T) (ext:=0) (tch:=tch) hT hN (LC (r0:=.row 1 [.agg [fslN (m.gs.map Glo.F),fslN (m.fs.map Cod.F)]] 2) (r1:=.row 1 [.agg [.str c.name,.int .i64 c.ty,.int .i64 c.ps,.msl 5 0 c.regs.length 1,.msl 6 0 c.blocks.length 5]] 5) (r2:=.row 0 (tab X) 1) (r3:=.row 0 (tab Y) 1) (r5:=.row 0 (ints c.regs) 1) (r6:=.row 0 (c.blocks.map Blk.O) 5) hkD) (l:=D[k]) (by rw[lD];exact hs);have eD:(tab D)[k]?=some (ownd 0 1 (bools D[k])):=by simp[hkD]
 have sD:(tab D).set k (ownd 0 1 (bools d'))=tab (D.set k d'):=by unfold tab;rw[zqi]
 simp only[Gb eD,sD,lD]at h1;have hlt:decide ((k:Int)<(c.regs.length:Int))=true:=by simp[hk]
 have hw:=A8 (i:=k) (by simp only[bigN]at hs;omega);refine⟨d',?_,l1.trans lD,?_⟩
 rotate_left 1
 . unfold pP DW DX
   simp -implicitDefEqProofs only[hlt,hw,eD,h1,hk,hkD,lD,zqa,XP,seval];rfl
theorem LF{K:PK}{n:Nat}{y9:AV}(h9:y9=.nilsl/\n=0\/y9=.msl 4 0 n 1):∃fr',evP ⟨A0,T,A2⟩ (.code pP [(1,.ptr 0 0 0),(3,.int .i64 (i:Int)),(4,.ptr 1 0 0),(7,.msl 2 0 c.blocks.length 1),(8,.msl 3 0 c.blocks.length 1),(9,y9),(11,.int .i64 (n:Int))] K)=some (.ok (.exit 4) fr' K)/\lookP fr' 1=.ptr 0 0 0/\lookP fr' 3=.int .i64 (i:Int)/\lookP fr' 4=.ptr 1 0 0/\lookP fr' 7=.msl 2 0 c.blocks.length 1/\lookP fr' 8=.msl 3 0 c.blocks.length 1:=by
 unfold pP DW DX;rcases h9 with⟨rfl,rfl⟩|rfl
 . have hlt:decide ((0:Int)<(0:Int))=false:=by decide
   simp only[show((0:Nat):Int)=0 from rfl];simp -implicitDefEqProofs only[hlt,zqa,XP,seval];exact⟨_,rfl,rfl,rfl,rfl,rfl,rfl⟩
 . have hlt:decide ((n:Int)<(n:Int))=false:=by simp
   simp -implicitDefEqProofs only[hlt,zqa,XP,seval];exact⟨_,rfl,rfl,rfl,rfl,rfl,rfl⟩
theorem CM(hT:T 32=some J3)(hN:T 12=none)(hs:c.regs.length*8<=bigN):∀(n k:Nat)(D:List (List Bool))(tch:List Nat),c.regs.length=k+n->A5 c.regs.length c.regs.length D->∃D' tch' fr',evP ⟨A0,T,A2⟩ (.code (.loop pP) [(1,.ptr 0 0 0),(3,.int .i64 (i:Int)),(4,.ptr 1 0 0),(7,.msl 2 0 c.blocks.length 1),(8,.msl 3 0 c.blocks.length 1),(9,.msl 4 0 c.regs.length 1),(11,.int .i64 (k:Int))] ⟨[.row 1 [.agg [fslN (m.gs.map Glo.F),fslN (m.fs.map Cod.F)]] 2,.row 1 [.agg [.str c.name,.int .i64 c.ty,.int .i64 c.ps,.msl 5 0 c.regs.length 1,.msl 6 0 c.blocks.length 5]] 5,.row 0 (tab X) 1,.row 0 (tab Y) 1,.row 0 (tab D) 1,.row 0 (ints c.regs) 1,.row 0 (c.blocks.map Blk.O) 5],0,tch⟩)=some (.ok (.exit 4) fr' ⟨[.row 1 [.agg [fslN (m.gs.map Glo.F),fslN (m.fs.map Cod.F)]] 2,.row 1 [.agg [.str c.name,.int .i64 c.ty,.int .i64 c.ps,.msl 5 0 c.regs.length 1,.msl 6 0 c.blocks.length 5]] 5,.row 0 (tab X) 1,.row 0 (tab Y) 1,.row 0 (tab D') 1,.row 0 (ints c.regs) 1,.row 0 (c.blocks.map Blk.O) 5],0,tch'⟩)/\lookP fr' 1=.ptr 0 0 0/\lookP fr' 3=.int .i64 (i:Int)/\lookP fr' 4=.ptr 1 0 0/\lookP fr' 7=.msl 2 0 c.blocks.length 1/\lookP fr' 8=.msl 3 0 c.blocks.length 1
 | 0,k,D,tch,h,hD=>by
  obtain rfl:k=c.regs.length:=by omega
  obtain⟨fr',e,p⟩:=LF (T:=T) (c:=c) (i:=i) (n:=c.regs.length) (K:=⟨[.row 1 [.agg [fslN (m.gs.map Glo.F),fslN (m.fs.map Cod.F)]] 2,.row 1 [.agg [.str c.name,.int .i64 c.ty,.int .i64 c.ps,.msl 5 0 c.regs.length 1,.msl 6 0 c.blocks.length 5]] 5,.row 0 (tab X) 1,.row 0 (tab Y) 1,.row 0 (tab D) 1,.row 0 (ints c.regs) 1,.row 0 (c.blocks.map Blk.O) 5],0,tch⟩) (.inr rfl);exact⟨D,tch,fr',B3 e,p⟩
 | n+1,k,D,tch,h,hD=>by
  obtain⟨d',t1,l1,e⟩:=LD (T:=T) (m:=m) (c:=c) (X:=X) (Y:=Y) (i:=i) (k:=k) (tch:=tch) hT hN hD (by omega) hs;obtain⟨D',t2,fr',e2,p⟩:=CM hT hN hs n (k+1) (D.set k d') t1 (by omega) (hD.set l1);exact⟨D',t2,fr',(loop_more e).trans e2,p⟩
end
theorem Vl{c:Cod}{os:List PO}{i j:Nat}(h1:os[i]?=some (.row 0 (ints c.regs) 1))(h2:os[j]?=some (.row 0 (c.blocks.map Blk.O) 5)):viewAs os [.agg [.str c.name,.int .i64 c.ty,.int .i64 c.ps,.msl i 0 c.regs.length 1,.msl j 0 c.blocks.length 5]]=some [c.F]:=by
 have l1:(ints c.regs).length=c.regs.length:=by simp[ints]
 have t1:(ints c.regs).take c.regs.length=ints c.regs:=zql (by simp);have t2:(c.blocks.map Blk.O).take c.blocks.length=c.blocks.map Blk.O:=zql (by simp);unfold Cod.F;simp -implicitDefEqProofs only[h1,h2,frzL_ints,qE,zqa,t1,t2,l1,XP,seval]
section
variable {m:Modl}{i:Nat}{K:PK}
theorem YS{os:List PO}:∃fr',evP ⟨A0,T,A2⟩ (.code pQ [(1,.ptr 0 0 0),(3,.int .i64 (m.fs.length:Int))] ⟨.row 1 [.agg [fslN (m.gs.map Glo.F),fslN (m.fs.map Cod.F)]] 2::os,0,[]⟩)=some (.ok (.exit 0) fr' ⟨.row 1 [.agg [fslN (m.gs.map Glo.F),fslN (m.fs.map Cod.F)]] 2::os,0,[]⟩):=by
 have hlt:decide ((m.fs.length:Int)<(m.fs.length:Int))=false:=by simp
 unfold pQ DT;simp -implicitDefEqProofs only[hlt,zqa,XP,seval];exact⟨_,rfl⟩
end
section
variable {c d:Cod}{K:PK}
def Hi:=g0 (fun x:Cod=>[x.F]) (fun x=>[x.O]) Cod.ok
def Cl:=g0 (fun p:Cod×Cod=>[p.1.F,p.2.F]) (fun p=>[.bool (decide (p.1=p.2))]) (fun p=>p.1.ok)
theorem qQ(hT:T 6=some Hi){x:Cod}(h:x.ok){K:PK}:evP ⟨A0,T,A2⟩ (.call 6 [x.F] K)=some (.val (openTs K.os.length [x.O]).1 ⟨K.os++(openTs K.os.length [x.O]).2,K.ext,K.tch⟩):=B8 hT (by simp -implicitDefEqProofs only[Cod.viewF,XP,seval]) (C2 (a:=fun x:Cod=>[x.F]) (r:=fun x=>[x.O]) (fun x y e=>by simp only[List.cons.injEq,Cod.F_iff,and_true]at e;simp only[e]) x h) (by
 simp -implicitDefEqProofs only[Cod.okO,Cod.noF,XP,seval])
theorem cP(h:c.ok):Cl [c.F,d.F]=some [.bool (decide (c=d))]:=C2 (a:=fun p:Cod×Cod=>[p.1.F,p.2.F]) (r:=fun p=>[.bool (decide (p.1=p.2))]) (fun x y e=>by simp only[List.cons.injEq,Cod.F_iff,and_true]at e;simp only[e]) (c,d) h
theorem gS(hT:T 13=some Cl)(h:c.ok){args:List AV}(hv:viewAs K.os args=some [c.F,d.F]):evP ⟨A0,T,A2⟩ (.call 13 args K)=some (.val [.bool (decide (c=d))] ⟨K.os++[],K.ext,K.tch⟩):=B8 hT hv (cP h) (by show(true&&(_||true))=true;simp)
end
theorem qR{os:List PO}{i j:Nat}{A B:List (List Bool)}(h1:os[i]?=some (.row 0 (tab A) 1))(h2:os[j]?=some (.row 0 (tab B) 1)):viewAs os [.msl i 0 A.length 1,.msl j 0 B.length 1]=some [fslN (Ai A),fslN (Ai B)]:=by
 have t1:(tab A).take A.length=tab A:=zql (by simp);have t2:(tab B).take B.length=tab B:=zql (by simp);simp -implicitDefEqProofs only[h1,h2,vI,zqa,t1,t2,XP,seval]
section
variable {m:Modl}{i:Nat}{K:PK}
theorem YT(hC:T 6=some Hi)(hL:T 7=some N2)(hR:T 8=some L3)(hCl:T 9=some U2)(hRc:T 11=some J6)(hS:T 10=some o7)(hSC:T 13=some Cl)(hT:T 32=some J3)(hN:T 12=none)(hi:i<m.fs.length)(hm:m.fs.length*64<=bigN)(hk:m.fs[i].ok)(hc:LOk m.fs[i])(hr:m.fs[i].regs.length*24<=bigN):evP ⟨A0,T,A2⟩ (.code pQ [(1,.ptr 0 0 0),(3,.int .i64 (i:Int))] ⟨[.row 1 [.agg [fslN (m.gs.map Glo.F),fslN (m.fs.map Cod.F)]] 2],0,[]⟩)=some (.ok .normal [(1,.ptr 0 0 0),(3,.int .i64 ((i+1:Nat):Int))] ⟨[.row 1 [.agg [fslN (m.gs.map Glo.F),fslN (m.fs.map Cod.F)]] 2],0,[]⟩):=by
 have hlt:decide ((i:Int)<(m.fs.length:Int))=true:=by simp[hi]
 have hws:=A8 (i:=i) (by simp only[bigN]at hm;omega);have hg:=B5 (F:=Cod.F) hi;generalize m.fs[i]=c at hc hk hg hr;have tc:=fun K=>qQ (K:=K) (x:=c) hC hk
 have tl:∀(K:PK)(i j:Nat),K.os[i]?=some (.row 0 (ints c.regs) 1)->K.os[j]?=some (.row 0 (c.blocks.map Blk.O) 5)->evP ⟨A0,T,A2⟩ (.call 7 [.agg [.str c.name,.int .i64 c.ty,.int .i64 c.ps,.msl i 0 c.regs.length 1,.msl j 0 c.blocks.length 5]] K)=_:=fun K i j h1 h2=>Mb (K:=K) hL (Vl h1 h2) hc
 have tcl:∀(K:PK)(i j:Nat),K.os[i]?=some (.row 0 (ints c.regs) 1)->K.os[j]?=some (.row 0 (c.blocks.map Blk.O) 5)->evP ⟨A0,T,A2⟩ (.call 9 [.agg [.str c.name,.int .i64 c.ty,.int .i64 c.ps,.msl i 0 c.regs.length 1,.msl j 0 c.blocks.length 5]] K)=_:=fun K i j h1 h2=>Je (K:=K) hCl (Vl h1 h2) ⟨hc,hr⟩
 have tr:=fun K=>Jy (K:=K) hR ⟨nI hc,hc.rs,hc.bs,hc.b0⟩
 have trc:=fun K=>Ii (K:=K) hRc ⟨nI hc,hr,hc.b0⟩
 rw [yS (cO hc),yT (cO hc)]at tr;rw[yU (cO hc) hc]at trc;obtain⟨sA,sB⟩:=U1 c;have sD:=Dk hc;generalize (liveD c).1=A at tl tr sA;generalize (liveD c).2.1=B at tl tr sB;generalize clashD c=D at tcl trc sD;have same:∀(A:List (List Bool))(K:PK)(i j:Nat),A.length<=bigN->(∀r∈A,r.length<=140737488355328)->K.os[i]?=some (.row 0 (tab A) 1)->K.os[j]?=some (.row 0 (tab A) 1)->evP ⟨A0,T,A2⟩ (.call 10 [.msl i 0 A.length 1,.msl j 0 A.length 1] K)=some (.val [.bool true] ⟨K.os++[],K.ext,K.tch⟩):=fun A K i j h1 h2 h3 h4=>by
  have:=Xp (K:=K) hS (qR h3 h4) ⟨h1,h2⟩
  rw[decide_eq_true rfl]at this;exact this
 have b1:c.blocks.length<=bigN:=by have:=hc.bs;omega
 have b2:c.regs.length<=140737488355328:=by simp only[bigN]at hr;omega
 have qA:=fun K i j=>same A K i j (by rw[sA.1];exact b1) (fun r hr=>by rw[sA.2 r hr];exact b2)
 have qB:=fun K i j=>same B K i j (by rw[sB.1];exact b1) (fun r hr=>by rw[sB.2 r hr];exact b2)
 have qD:=fun K i j=>same D K i j (by rw[sD.1];simp only[bigN];omega) (fun r hr=>by rw[sD.2 r hr];exact b2)
 rw [sA.1]at qA;rw[sB.1]at qB;rw[sD.1]at qD;have ss:∀(K:PK)(i j:Nat),K.os[i]?=some (.row 0 (ints c.regs) 1)->K.os[j]?=some (.row 0 (c.blocks.map Blk.O) 5)->evP ⟨A0,T,A2⟩ (.call 13 [.agg [.str c.name,.int .i64 c.ty,.int .i64 c.ps,.msl i 0 c.regs.length 1,.msl j 0 c.blocks.length 5],c.F] K)=some (.val [.bool true] ⟨K.os++[],K.ext,K.tch⟩):=fun K i j h1 h2=>by
  have e1:=Vl (c:=c) h1 h2;have hv:viewAs K.os [.agg [.str c.name,.int .i64 c.ty,.int .i64 c.ps,.msl i 0 c.regs.length 1,.msl j 0 c.blocks.length 5],c.F]=some [c.F,c.F]:=by
   rw[va_cons,va_nil]at e1;rw[va_cons,va_cons,va_nil,Cod.viewF];cases h:viewA K.os (.agg [.str c.name,.int .i64 c.ty,.int .i64 c.ps,.msl i 0 c.regs.length 1,.msl j 0 c.blocks.length 5])with
   |none=>rw[h]at e1;cases e1
   | some v =>
    rw[h]at e1;have e1:some [v]=some [c.F]:=e1;injection e1 with e1
    injection e1 with e1
    rw[e1];rfl
  have:=gS (c:=c) (d:=c) hSC hk hv
  rw[F4 rfl]at this;exact this
 obtain⟨A',B',t1,f1,e1,p1,p2,p3,p4,p5,p6⟩:=CL (T:=T) (m:=m) (c:=c) (X:=A) (Y:=B) (D:=D) (i:=i) hT hN hc.rs hc.bs c.blocks.length 0 A B [] (zkr _).symm sA sB;obtain⟨D',t2,f2,e2,q1,q2,q3,q4,q5⟩:=CM (T:=T) (m:=m) (c:=c) (X:=A) (Y:=B) (i:=i) hT hN hc.rs c.regs.length 0 D [] (zkr _).symm sD;simp only[show((0:Nat):Int)=0 from rfl]at e1 e2;unfold pQ DT AU AT AS AR AQ GX AP GY AO GZ AN AL HA;simp only[Cod.F,Cod.O]at hg tc tl tcl tr trc ss;simp -implicitDefEqProofs only[hlt,hws,hg,tc,tl,tcl,tr,trc,ss,qA,qB,qD,e1,p1,p2,p3,p4,p5,p6,e2,q1,q2,q3,q4,q5,hi,zqa,sA.1,sB.1,sD.1,XP,seval]
end
def i7:Ins:=⟨1,0,0,0,0,7,[],[]⟩
def I7:AV:=.agg [.int .i64 1,.int .i64 0,.int .i64 0,.int .i64 0,.int .i64 0,.int .i64 7,.str [],.nilsl]
def Ej(x:Ins):Cod:=⟨D2,1,0,[1,1],[⟨[i7,x],⟨3,1,0,0⟩⟩]⟩
def twoB(x:Ins):AV:=.agg [ownd 0 8 [I7,x.F],.int .i64 3,.int .i64 1,.int .i64 0,.int .i64 0]
def Xr(x:Ins):AV:=.agg [.str D2,.int .i64 1,.int .i64 0,ownd 0 1 (ints [1,1]),ownd 0 5 [twoB x]]
theorem Ri  {x:Ins}:AM.Comes ⟨A0,T,A2⟩ 16 [x.F] [Xr x]:=by
 refine⟨[.agg [.str D2,.int .i64 1,.int .i64 0,.msl 1 0 2 1,.msl 2 0 1 5]],⟨[.row 1 [.agg [.str D2,.int .i64 1,.int .i64 0,.msl 1 0 2 1,.msl 2 0 1 5]] 5,.row 0 (ints [1,1]) 1,.row 0 [twoB x] 5],0,[]⟩,?_,?_⟩
 . rw[A6 (c:=NE) (nt:=11) (rs:=[.cell 2 31]) rfl (by simp)];unfold NE
   unfold K0;simp only[Ins.F,twoB,I7,D2,ints,zqw,zqx];simp -implicitDefEqProofs only[XP,seval]
 . refine C1 (vs':=[.agg [.str D2,.int .i64 1,.int .i64 0,.msl 1 0 2 1,.msl 2 0 1 5]]) (os':=[.row 1 [.agg [.str D2,.int .i64 1,.int .i64 0,.msl 1 0 2 1,.msl 2 0 1 5]] 5,.row 0 (ints [1,1]) 1,.row 0 [twoB x] 5]) ?_ ?_ (us:=[.agg [.str D2,.int .i64 1,.int .i64 0,.msl 0 0 2 1,.msl 1 0 1 5]]) (ps:=[.row 0 (ints [1,1]) 1,.row 0 [twoB x] 5]) ?_ ?_ ?_
   all_goals simp -implicitDefEqProofs only[Xr,XP,seval]
   all_goals rfl
def Dr:=g0 (fun p:(Ins)=>[p.F]) (fun p=>[Xr p]) (fun p=>True)
theorem cQ  (hP:PEok ⟨A0,T,A2⟩):TC A0 16 Dr:=C8 hP fun p h=>Ri
theorem gT{x:Ins}{os:List PO}{i j:Nat}(h1:os[i]?=some (.row 0 (ints [1,1]) 1))(h2:os[j]?=some (.row 0 [twoB x] 5)):viewAs os [.agg [.str D2,.int .i64 1,.int .i64 0,.msl i 0 2 1,.msl j 0 1 5]]=some [(Ej x).F]:=by
 unfold Cod.F Ej;simp only[ints,zqw,zqx,twoB,I7,Blk.F,Ins.F,i7]at h1 h2|-;simp -implicitDefEqProofs only[h1,h2,frzL_ints,XP,seval]
def iCp:Ins:=⟨2,0,1,0,0,0,[],[]⟩
def iBn:Ins:=⟨3,1,1,1,0,0,[43],[]⟩
theorem YU:(liveD (Ej iCp)).1=[[false,false]]:=by decide +kernel
theorem YV:(liveD (Ej iCp)).2.1=[[false,false]]:=by decide +kernel
theorem YW:(liveD (Ej iBn)).1=[[false,true]]:=by decide +kernel
theorem YX:(liveD (Ej iBn)).2.1=[[false,false]]:=by decide +kernel
theorem clA:clashD (Ej iCp)=[[false,false],[false,false]]:=by decide +kernel
theorem YY:clashD (Ej iBn)=[[false,true],[true,false]]:=by decide +kernel
theorem vK{x:Ins}(hx:x.ok)(hw:writesD x<2)(hr:∀r∈readsD x,0<=r/\r<2):LOk (Ej x)/\(Ej x).regs.length*24<=bigN:=by
 refine⟨⟨by show 1*56<=bigN;decide,by show 1<=60000;decide,by show 2*8<=bigN;decide,by show 0<1;decide,fun b hb=>?_,fun b hb t ht=>?_⟩,by show 2*24<=bigN;decide⟩
 . obtain rfl:=zqs.1 hb
   refine⟨by show 2*88<=bigN;decide,by show 2<=60000;decide,fun y hy=>?_,fun y hy=>?_,fun y hy=>?_,fun _=>by show(1:Int)<2;decide⟩
   . rcases zqg.1 hy with rfl|hy
     . show 0*8<=bigN;decide
     . obtain rfl:=zqs.1 hy;exact hx
   . rcases zqg.1 hy with rfl|hy
     . show writesD i7<2;decide
     . obtain rfl:=zqs.1 hy;exact hw
   . rcases zqg.1 hy with rfl|hy
     . intro r hr;cases hr
     . obtain rfl:=zqs.1 hy;exact hr
 . obtain rfl:=zqs.1 hb
   cases ht
def tK(g:List AV->Option (List AV))(args:List AV)(K:PK)(v:Option (List AV)):Option PR:=match v with
 | some as1=>(match g as1 with
  |some rs=>if(okRs rs&&((refsL args).isEmpty||noFL rs))=true then some (.val (openTs K.os.length rs).1 ⟨K.os++(openTs K.os.length rs).2,K.ext,K.tch⟩)else none
  |none=>none)
 |none=>none
theorem vL{f:Nat}{args:List AV}{g:List AV->Option (List AV)}{K:PK}{v:Option (List AV)}(ht:T f=some g)(hv:viewAs K.os args=v)(hs:v.isSome=true):evP ⟨A0,T,A2⟩ (.call f args K)=tK g args K v:=by
 cases v with
 |none=>cases hs
 | some as1 =>
  rw[evP];show(match T f with|some g=>_|none=>_)=_
  rw[ht];dsimp only;unfold tcall tK viewX;rw[hv];dsimp only;cases g as1 with
  |none=>rfl
  | some rs =>
   dsimp only;by_cases h:(okRs rs&&((refsL args).isEmpty||noFL rs))=true
   . rw[if_pos h,if_pos h]
   . rw[if_neg h,if_neg h]
theorem EZ{args:List AV}{K:PK}{a b c d:Bool}:tK I1 args K (some [fslN [.bool a,.bool b],fslN [.bool c,.bool d]])=some (.val [.bool (decide ([a,b]=[c,d]))] ⟨K.os,K.ext,K.tch⟩):=by
 have h:I1 [fslN (bools [a,b]),fslN (bools [c,d])]=some [.bool (decide ([a,b]=[c,d]))]:=C2 (a:=fun p:List Bool×List Bool=>[fslN (bools p.1),fslN (bools p.2)]) (r:=fun p=>[.bool (decide (p.1=p.2))]) (fun x y e=>by simp only[List.cons.injEq,fslN_iff,bools_iff,and_true]at e;simp only[e]) ([a,b],[c,d]) (by show 2<=140737488355328;decide);unfold tK;have h:I1 [fslN [.bool a,.bool b],fslN [.bool c,.bool d]]=some [.bool (decide ([a,b]=[c,d]))]:=h;dsimp only;rw[h];dsimp only;rw[if_pos (by show(true&&(_||true))=true;simp)];show some (PR.val [.bool (decide ([a,b]=[c,d]))] ⟨K.os++[],K.ext,K.tch⟩)=_
 rw[zkk]
theorem Mf(hlaw15_two:T 16=some Dr)(hlive_Live:T 7=some N2)(hlive_Clash:T 9=some U2)(hSameBools:T 17=some I1):AM.Comes ⟨A0,T,A2⟩ 5 [] [.bool true]:=by
 refine⟨[.bool true],⟨[],0,[]⟩,?_,C1 rfl zqm rfl rfl rfl⟩;rw[A6 (c:=p5) (nt:=99) (rs:=[.tmp 0]) rfl (by simp)];unfold p5;unfold K0;have oA:=vK (x:=iCp) (by show 0*8<=bigN;decide) (by decide) (by decide);have oB:=vK (x:=iBn) (by show 0*8<=bigN;decide) (by decide) (by decide);have tA:∀K:PK,evP ⟨A0,T,A2⟩ (.call 16 [.agg [.int .i64 2,.int .i64 0,.int .i64 1,.int .i64 0,.int .i64 0,.int .i64 0,.str [],.nilsl]] K)=some (.val (openTs K.os.length [Xr iCp]).1 ⟨K.os++(openTs K.os.length [Xr iCp]).2,K.ext,K.tch⟩):=fun K=>B8 hlaw15_two (as1:=[iCp.F]) rfl (C2 (a:=fun p:Ins=>[p.F]) (r:=fun p=>[Xr p]) (fun x y e=>by injection e with e _;rw[Ins.F_inj e]) iCp trivial) rfl
 have tB:∀K:PK,evP ⟨A0,T,A2⟩ (.call 16 [.agg [.int .i64 3,.int .i64 1,.int .i64 1,.int .i64 1,.int .i64 0,.int .i64 0,.str [43],.nilsl]] K)=some (.val (openTs K.os.length [Xr iBn]).1 ⟨K.os++(openTs K.os.length [Xr iBn]).2,K.ext,K.tch⟩):=fun K=>B8 hlaw15_two (as1:=[iBn.F]) rfl (C2 (a:=fun p:Ins=>[p.F]) (r:=fun p=>[Xr p]) (fun x y e=>by injection e with e _;rw[Ins.F_inj e]) iBn trivial) rfl
 simp only[Xr,D2,ints,zqw,zqx]at tA tB;have key:∀(x:Ins)(h:LOk (Ej x)/\(Ej x).regs.length*24<=bigN)(K:PK)(i j:Nat),K.os[i]?=some (.row 0 (ints [1,1]) 1)->K.os[j]?=some (.row 0 [twoB x] 5) ->
  evP ⟨A0,T,A2⟩ (.call 7 [.agg [.str D2,.int .i64 1,.int .i64 0,.msl i 0 2 1,.msl j 0 1 5]] K)=some (.val (openTs K.os.length [ownd 0 1 (tab (liveD (Ej x)).1),ownd 0 1 (tab (liveD (Ej x)).2.1)]).1 ⟨K.os++(openTs K.os.length [ownd 0 1 (tab (liveD (Ej x)).1),ownd 0 1 (tab (liveD (Ej x)).2.1)]).2,K.ext,K.tch⟩)/\
  evP ⟨A0,T,A2⟩ (.call 9 [.agg [.str D2,.int .i64 1,.int .i64 0,.msl i 0 2 1,.msl j 0 1 5]] K)=some (.val (openTs K.os.length [ownd 0 1 (tab (clashD (Ej x)))]).1 ⟨K.os++(openTs K.os.length [ownd 0 1 (tab (clashD (Ej x)))]).2,K.ext,K.tch⟩):=fun x h K i j h1 h2 =>
  ⟨Mb hlive_Live (gT h1 h2) h.1,Je hlive_Clash (gT h1 h2) h⟩
 have lA:=fun K i j h1 h2=>(key iCp oA K i j h1 h2).1
 have lB:=fun K i j h1 h2=>(key iBn oB K i j h1 h2).1
 have cA:=fun K i j h1 h2=>(key iCp oA K i j h1 h2).2
 have cB:=fun K i j h1 h2=>(key iBn oB K i j h1 h2).2
 clear key;rw[YU,YV]at lA;rw[YW,YX]at lB;rw[clA]at cA;rw[YY]at cB;have nAB:([twoB iCp]=[twoB iBn])=False:=eq_false (by intro h;simp[twoB,iCp,iBn,Ins.F,ownd]at h);have nBA:([twoB iBn]=[twoB iCp])=False:=eq_false (by intro h;simp[twoB,iCp,iBn,Ins.F,ownd]at h);simp only[D2,ints,tab,bools,zqw,zqx]at lA lB cA cB;have ts:=fun args K v (hv:viewAs K.os args=v) (hs:v.isSome=true)=>vL (args:=args) (K:=K) hSameBools hv hs
 have d1:decide ([false,false]=[false,false])=true:=rfl;have d2:decide ([false,true]=[false,true])=true:=rfl;have d3:decide ([true,false]=[true,false])=true:=rfl;have ix_msl1:∀(id:Nat),Qp Js (.msl id 0 2 1) (.int .i64 1)=some (.ptr id 1 0):=fun id=>ix_msl (i:=1) (off:=0) (by decide) rfl
 have n1:((1:Nat):Int)=1:=rfl;have n2:((2:Nat):Int)=2:=rfl;simp -implicitDefEqProofs only[tA,tB,lA,lB,cA,cB,PO.row.injEq,nAB,nBA,n1,n2,Hf,ix_msl1,ts,EZ,d1,d2,d3,Option.isSome_some,XP,seval]
def u9:=g0 (fun p:Unit=>[]) (fun p=>[.bool true]) (fun p=>True)
theorem cR(hlaw15_works:T 5=some u9)  {K:PK}:evP ⟨A0,T,A2⟩ (.call 5 [] K)=some (.val (openTs K.os.length [.bool true]).1 ⟨K.os++(openTs K.os.length [.bool true]).2,K.ext,K.tch⟩):=B8 hlaw15_works (by simp -implicitDefEqProofs only[VV,XP,seval]) (C2 (a:=fun p:Unit=>[]) (r:=fun p=>[.bool true]) (fun x y e=>by simp only[VJ]at e;simp only[e]) () trivial) (by simp -implicitDefEqProofs only[VN,XP,seval])
theorem Vm(hlaw15_two:T 16=some Dr)(hlive_Live:T 7=some N2)(hlive_Clash:T 9=some U2)(hSameBools:T 17=some I1)(hP:PEok ⟨A0,T,A2⟩):TC A0 5 u9:=C8 hP fun p h=>Mf hlaw15_two hlive_Live hlive_Clash hSameBools
theorem Gg(hlaw15_Big:T 4=some Df)(hlaw15_works:T 5=some u9)(hlive_Live:T 7=some N2)(hlive_Clash:T 9=some U2)(hCopyCode:T 6=some Hi)(hSameCode:T 13=some Cl)(hmortiseref15_Live:T 8=some L3)(hmortiseref15_Clash:T 11=some J6)(hlaw15_same:T 10=some o7)(hmarkBools:T 32=some J3)(nSpoilBools:T 12=none){m:Modl}(hk:m.ok):AM.Comes ⟨A0,T,A2⟩ 3 [m.F] [.bool true]:=by
 refine⟨[.bool true],⟨[],0,[]⟩,?_,C1 rfl zqm rfl rfl rfl⟩;rw[A6 (c:=p3) (nt:=120) (rs:=[.tmp 2]) rfl (by simp)];unfold p3;unfold K0;have tb:=fun K=>kS (K:=K) hlaw15_Big hk
 have tw:=fun K=>cR (K:=K) hlaw15_works
 cases hbg:Ab m with
 | true =>
  rw[hbg]at tb;unfold tL tJ tI DS;simp only[Modl.F]at tb|-;simp -implicitDefEqProofs only[tb,tw,XP,seval]
 | false =>
  rw [hbg]at tb;have hcs:=qN hk hbg;have key:∀(k i:Nat),m.fs.length=i+k->∃fr',evP ⟨A0,T,A2⟩ (.code (.loop pQ) [(1,.ptr 0 0 0),(3,.int .i64 (i:Int))] ⟨[.row 1 [.agg [fslN (m.gs.map Glo.F),fslN (m.fs.map Cod.F)]] 2],0,[]⟩)=some (.ok (.exit 0) fr' ⟨[.row 1 [.agg [fslN (m.gs.map Glo.F),fslN (m.fs.map Cod.F)]] 2],0,[]⟩):=fun k=>by
   induction k with
   | zero =>
    intro i e;obtain rfl:i=m.fs.length:=by omega
    obtain⟨fr',h⟩:=YS (T:=T) (m:=m) (os:=[]);exact⟨fr',B3 h⟩
   | succ k ih =>
    intro i e;have hi:i<m.fs.length:=by omega
    obtain⟨fr',h⟩:=ih (i+1) (by omega);obtain⟨q1,q2⟩:=hcs _ (zqb hi);exact⟨fr',(loop_more (YT hCopyCode hlive_Live hmortiseref15_Live hlive_Clash hmortiseref15_Clash hlaw15_same hSameCode hmarkBools nSpoilBools hi hk.2.1 (hk.1 _ (zqb hi)).1 q1 q2)).trans h⟩
  obtain⟨fr',h⟩:=key m.fs.length 0 (by omega);rw[show((0:Nat):Int)=0 from rfl]at h;unfold tL tJ tI DS;simp only[Modl.F]at tb h|-;simp -implicitDefEqProofs only[tb,tw,h,XP,seval]
end Go.Proofs.AmEnv
