/- The abstract machine, part eight: a datum of a row, seen as an abstract value. Conditions: none. -/
import Derived.Test.YtdjkjmdggoejcaaAmSix
import Derived.OpenShut
set_option linter.unusedVariables false
set_option linter.unusedSectionVars false
set_option linter.unusedSimpArgs false
/-
 The abstract machine: what a datum of a row is,as an abstract value: ints,bools,strings,slices,structs and arrays of such.
set_option maxHeartbeats 4000000
-/
open List renaming length→lz
open Option renaming some→zs,none→zn
open Bool renaming true→zt,false→zf
open List renaming getElem?_eq_getElem→zqa,take_append_drop→zqb,length_map→zqc,mem_of_getElem?→zqd
namespace Go.AM
open Go.ChangeShapes Go.WideShapes Go.ChangeAt
noncomputable section
variable {H:Type}
def Ab(P:Program)(t:TypeId):Bool:=match P.underlying t with|some (.struct _)=>zt|some (.array _ _)=>zt|_=>zf
def my(P:Program)(t:TypeId)(cs:List AV):AV:=bif Ab P t then .agg cs else(match cs with|[]=>.und|x::_=>x)
def iL(see:DataW H->Option (List AV)):List (DataW H)->Option (List (List AV))
 |[]=>zs []
 |d::ds=>A5 (see d) fun a=>A5 (iL see ds) fun r=>zs (a::r)
def dF(P:Program)(see:TypeId->DataW H->Option (List AV)):Nat->List Field->List (DataW H)->Option (List AV)
 |_,[],ds=>match ds with|[]=>zs []|_::_=>zn
 | o,f::fs,ds=>match ds with
  |[]=>zn
  |d::ds=>bif Nat.beq f.offset o then A5 (see f.type d) fun a=>bif Nat.beq (dw a) (P.cellsOf f.type)then A5 (dF P see (Nat.add o (P.cellsOf f.type)) fs ds) fun r=>zs (ma a r)else zn else zn
def iM(l:List (List AV)):List AV:=match l with|[]=>[]|a::r=>ma a (iM r)
def X2(P:Program):Nat->TypeId->DataW H->Option (List AV)
 |0,_,_=>zn
 | n+1,t,d=>match P.underlying t with
  |some .bool=>(match d with | .lit l=>(match l with | .bool b=>zs [.bool b]|_=>zn)|_=>zn)
  |some (.int _)=>(match d with | .lit l=>(match l with | .int k m=>zs [.int k m]|_=>zn)|_=>zn)
  |some .string=>(match d with | .lit l=>(match l with | .string s=>zs [.str s]|_=>zn)|_=>zn)
  | some (.slice e)=>(match d with
   |.nil=>zs [.x0a]
   |.slice es _=>bif Nat.blt 0 (P.cellsOf e)then A5 (iL (X2 P n e) es) fun rs=>bif rs.all (fun r=>Nat.beq (dw r) (P.cellsOf e)&&(Ab P e||Nat.beq (dw r) 1))then zs [.fsl (rs.map (my P e)) zf]else zn else zn
   |_=>zn)
  |some (.struct fs)=>(match d with | .agg ps=>A5 (dF P (X2 P n) 0 fs.toList ps) fun r=>bif Nat.beq (dw r) (P.cellsOf t)then zs r else zn|_=>zn)
  |some (.array m e)=>(match d with | .agg ps=>A5 (iL (X2 P n e) ps) fun rs=>bif rs.all (fun r=>Nat.beq (dw r) (P.cellsOf e))&&Nat.beq (Nat.mul m (P.cellsOf e)) (P.cellsOf t)then zs (iM rs)else zn|_=>zn)
  |_=>zn
theorem Sd{see:DataW H->Option (List AV)}:∀{ds:List (DataW H)}{rs:List (List AV)},iL see ds=zs rs->lz rs=lz ds/\∀(i:Nat) d,ds[i]?=zs d->∃r,see d=zs r/\rs[i]?=zs r
 |[],rs,h=>by
  have h:zs []=zs rs:=h;grind
 |d::ds,rs,h=>by
  have h:A5 (see d) (fun a=>A5 (iL see ds) fun r=>zs (a::r))=zs rs:=h;obtain⟨a,ha,h⟩:=A1 h;obtain⟨r,B,h⟩:=A1 h;cases h;obtain⟨h1,h2⟩:=Sd B;grind
variable {enc:TypeId×Value->H}{P:Program}{W:World}{cx:Cx}{base:Nat}{spare:Nat->Bool}{held:Bool}
theorem dG{α β:Type}{f:α->Option β}:∀{l:List α}{r:List β},l.mapM f=zs r->lz r=lz l/\∀(i:Nat) a,l[i]?=zs a->∃b,f a=zs b/\r[i]?=zs b
 |[],r,h=>by
  grind
 |x :: l,r,h=>by
  rw[List.mapM_cons]at h;cases B:f x with
  |none=>grind
  |some y=>
   rw[B]at h;cases hl:l.mapM f with
   |none=>grind
   |some ys=>
    rw[hl]at h;cases h;obtain⟨h1,h2⟩:=dG hl;grind
theorem nU{a:Addr}{n:Nat}{cs:List Value}(h:W.cells? base a n=zs cs):lz cs=n/\∀i,i<n->W.cell? (a.add i)=cs[i]?:=by
 unfold World.cells? at h;by_cases hb:base<=a.block
 . rw[if_pos hb]at h
   obtain⟨h1,B⟩:=dG h;refine⟨by grind,fun i hi=>?_⟩;obtain⟨b,C,D⟩:=B i i (by grind);rw[C,D]
 grind
theorem lV{a:Addr}{v:Value}(h:W.cell? a=zs v):a.block<W.heap.size/\a.spot=zn:=by
 unfold World.cell? at h;cases hb:W.heap[a.block]? with
 |none=>grind
 |some o=>
  refine⟨(by grind),?_⟩;rw[hb]at h;cases o with
  |cells c t f=>
   simp_all
  |_=>cases h
theorem dH{sz:Nat}:∀(rs:List (List AV))(cs:List Value),lz cs=lz rs*sz->(∀r∈rs,lz r=sz)->(∀(i:Nat) r,rs[i]?=zs r->fc W cx ((cs.drop (i*sz)).take sz) r)->fc W cx cs (iM rs)
 |[],cs,hl,_,_=>by
  have:cs=[]:=(by simp_all)
  subst this;exact fc.nil
 |r::rs,cs,hl,hsz,h=>by
  have h0:=h 0 r rfl;have e:cs=cs.take sz++cs.drop sz:=(zqb sz cs).symm;have B:fc W cx (cs.drop sz) (iM rs):=dH rs (cs.drop sz) (by rw[List.length_drop,hl,List.length_cons,Nat.succ_mul];omega) (fun r B=>hsz r (List.mem_cons_of_mem _ B)) fun i r hi=>by
   have:=h (i+1) r (by grind)
   grind[Nat.succ_mul,List.drop_drop]
  grind[iM,M0,fc.append]
theorem dI:∀(rs:List (List AV))(c:AV),c∈iM rs->∃r∈rs,c∈r
 |[],c,h=>by cases h
 |r :: rs,c,h=>by
  have h:c∈ma r (iM rs):=h;rw[M0,List.mem_append]at h;rcases h with h|h
  . grind
  . obtain⟨r',h1,h2⟩:=dI rs c h
    grind
theorem dJ{see:TypeId->DataW H->Option (List AV)}{tr:TypeId->List Value->Option (DataW H×List MemPlace)}(D:∀t cs d ps B,tr t cs=zs (d,ps)->see t d=zs B->fc W cx cs B/\∀c∈B,ff c=zt):
 ∀ (fs:List Field) (cs:List Value) (o:Nat) (xs:List (DataW H×List MemPlace)) (B:List AV),lz xs=lz fs->(∀(i:Nat) f,fs[i]?=zs f->tr f.type ((cs.drop f.offset).take (P.cellsOf f.type))=xs[i]?)->dF P see o fs (xs.map (·.1))=zs B->lz cs<=o+lz B ->
   fc W cx (cs.drop o) B/\∀c∈B,ff c=zt
 |[],cs,o,xs,B,h0,h1,C,h3=>by
  have:xs=[]:=List.eq_nil_of_length_eq_zero h0
  subst this;have C:zs []=zs B:=C;grind[List.drop_eq_nil_of_le,fc.nil]
 |f :: fs,cs,o,xs,B,h0,h1,C,h3=>by
  cases xs with
  |nil=>cases h0
  |cons y ys=>
   have G:=h1 0 f rfl;have C:(bif Nat.beq f.offset o then A5 (see f.type y.1) fun a=>bif Nat.beq (dw a) (P.cellsOf f.type)then A5 (dF P see (Nat.add o (P.cellsOf f.type)) fs (ys.map (·.1))) fun r=>zs (ma a r)else zn else zn)=zs B:=C;cases ho:Nat.beq f.offset o with
   |false=>grind
   |true=>
    rw[ho]at C;obtain⟨a,ha,C⟩:=A1 C;cases hn:Nat.beq (dw a) (P.cellsOf f.type)with
    |false=>grind
    |true=>
     rw[hn]at C;obtain⟨r,I,C⟩:=A1 C;cases C;have ho:=D8 ho;have hn:=D8 hn;rw[A4]at hn;rw[M0]at h3|-;rw[List.length_append,hn]at h3;obtain⟨k1,k2⟩:=D _ _ _ _ _ G ha;obtain⟨k3,k4⟩:=dJ D fs cs _ ys r (by grind) (fun i f hi=>by have:=h1 (i+1) f (by grind);grind) I (by grind);grind[zqb,fc.append,List.drop_drop]
theorem lW(ad:∀b,¬cx.own b):∀(m n:Nat)(t:TypeId)(cs:List Value)(d:DataW H)(ps:List MemPlace)(D:List AV),DataW.trod enc P W base spare held n t cs=zs (d,ps)->X2 P m t d=zs D->fc W cx cs D/\∀c∈D,ff c=zt
 |0,_,_,_,_,_,_,_,h=>by cases h
 |m + 1,n,t,cs,d,ps,D,G,B=>by
  have ih:=lW ad m;have one:∀{v:Value}{a:AV},Rep W cx v a->ff a=zt->fc W cx [v] [a]/\∀c∈[a],ff c=zt:=(by grind[Go.AM.fc.cons,Go.AM.fc.nil])
  unfold X2 at B;cases U:P.underlying t with
  |none=>rw[U]at B;cases B
  |some u=>
   rw[U]at B;cases u with
   |bool=>
    obtain⟨b,rfl,e⟩:=DataW.trod_bool U G;cases e;cases B;exact one (.bool _) rfl
   |int k=>
    obtain⟨z,rfl,e,_⟩:=DataW.trod_int U G;cases e;cases B;exact one (.int _ _) rfl
   |string=>
    obtain⟨s,rfl,e,_⟩:=DataW.trod_string U G;cases e;cases B;exact one (.str _) rfl
   |slice e=>
    rcases DataW.trod_slice U G with⟨rfl,e1⟩|⟨a,len,cap,elems,rest,n',rfl,rfl,e1,_,an,_,hlen,ao,_,_⟩
    . cases e1;cases B;exact one .x0a rfl
    . cases e1
      dsimp only at B;cases hp:Nat.blt 0 (P.cellsOf e)with
      |false=>grind
      |true=>
       rw[hp]at B;obtain⟨rs,ab,B⟩:=A1 B;cases C:(rs.all fun r=>Nat.beq (dw r) (P.cellsOf e)&&(Ab P e||Nat.beq (dw r) 1))with
       |false=>grind
       |true=>
        rw [C]at B;cases B;have hp:=K5 hp;obtain⟨hl,J⟩:=Sd ab;rw[zqc]at hl;have X:∀(i:Nat) r,rs[i]?=zs r->∃N,W.cells? base (a.add (i*P.cellsOf e)) (P.cellsOf e)=zs N/\fc W cx N r/\∀c∈r,ff c=zt:=fun i r hi=>by
         have Y:i<len:=by grind
         have h3:=ao i Y;have aa:i<lz elems:=by grind
         have af:elems[i]?=zs elems[i]:=zqa aa;obtain⟨r',ak,ac⟩:=J i elems[i].1 (by grind);rw[hi]at ac;cases ac;rw[af]at h3;cases hcs:W.cells? base (a.add (i*P.cellsOf e)) (P.cellsOf e)with
         |none=>grind
         |some N=>
          grind
        have hsz:∀(i:Nat) r,rs[i]?=zs r->lz r=P.cellsOf e/\(my P e r).cells=r:=fun i r hi=>by
         have:=(List.all_eq_true.1 C) r (zqd hi)
         rw[Bool.and_eq_true]at this;have G:=D8 this.1;rw[A4]at G;refine⟨G,?_⟩;unfold my;cases aq:Ab P e with
         |true=>rfl
         |false=>
          have B:=this.2;rw[aq]at B;have B:=D8 B;rw[A4]at B;have aj:=(X i r hi).choose_spec.2.2
          match r,B,aj with
          |[x],_,hx=>show x.cells=[x];have:=hx x (by simp);cases x<;>first|rfl|cases this
        have ag:∀(i:Nat) x,(rs.map (my P e))[i]?=zs x->∃r,rs[i]?=zs r/\x.cells=r/\lz r=P.cellsOf e:=(by grind)
        have hcell:∀(i:Nat) x (j:Nat) c,(rs.map (my P e))[i]?=zs x->x.cells[j]?=zs c->∃v,W.cell? ((a.add (i*P.cellsOf e)).add j)=zs v/\Rep W cx v c/\v.oneC=zt:=fun i x j c hi Q=>by
         obtain⟨r,hr,al,hrl⟩:=ag i x hi;rw[al]at Q;obtain⟨N,h3,h4,h5⟩:=X i r hr;obtain⟨h6,h7⟩:=nU h3;obtain⟨v,hv,hrep⟩:=h4.get Q;refine⟨v,by grind,hrep,hrep.oneC (h5 c (zqd Q))⟩
        have I:rs≠[]->a.spot=zn/\a.block<W.heap.size:=fun V=>by
         obtain⟨r,hr⟩:∃r,rs[0]?=zs r:=by grind
         have hx:(rs.map (my P e))[0]?=zs (my P e r):=by grind
         obtain⟨G,B⟩:=hsz 0 r hr;have Q:0<lz (my P e r).cells:=by grind
         obtain⟨v,hv,_⟩:=hcell 0 _ 0 _ hx (zqa Q)
         have:(a.add (0*P.cellsOf e)).add 0=a:=by simp[Addr.add]
         rw[this]at hv;exact⟨(lV hv).2,(lV hv).1⟩
        have hadd:∀(i j:Nat),rs≠[]->(a.add (i*P.cellsOf e)).add j=⟨a.block,a.off+i*P.cellsOf e+j,zn⟩:=fun i j V=>by
         obtain⟨hs,_⟩:=I V;obtain⟨b0,o0,s0⟩:=a;grind[fy]
        have V:∀(i:Nat) x,(rs.map (my P e))[i]?=zs x->rs≠[]:=(by grind)
        refine one (.fsl (zs a) a.block a.off len cap (rs.map (my P e)) zf (P.cellsOf e) (fun i j=>(W.cell? ⟨a.block,a.off+i*P.cellsOf e+j,zn⟩).getD undef)
         (by grind) an (fun e=>by cases e) (fun ae=>?_) (by grind) (fun i x j c hi Q=>?_) (fun i x j c hi Q=>?_) (fun i x j c hi Q=>?_) (fun _ _ e=>by cases e)) rfl
        . have ah:rs≠[]:=fun h=>ae (by rw[h];rfl)
          obtain⟨G,B⟩:=I ah;obtain⟨b0,o0,s0⟩:=a;grind
        . grind
        . grind
        grind
   |struct fs=>
    obtain⟨xs,n',rfl,e1,am,ai,hx⟩:=DataW.trod_struct U G;cases e1;obtain⟨r,hr,B⟩:=A1 B;cases hn:Nat.beq (dw r) (P.cellsOf t)with
    |false=>grind
    |true=>
     rw[hn]at B;cases B;have hn:=D8 hn;rw[A4]at hn
     have:=dJ (W:=W) (cx:=cx) (P:=P) (see:=X2 P m) (tr:=fun t cs=>DataW.trod enc P W base spare held n' t cs) (by grind) fs.toList cs 0 xs D (by grind) (by grind) hr (by omega)
     grind
   |array k e=>
    obtain⟨xs,n',rfl,e1,am,ai,hx⟩:=DataW.trod_array U G;cases e1;obtain⟨rs,ab,B⟩:=A1 B;cases C:((rs.all fun r=>Nat.beq (dw r) (P.cellsOf e))&&Nat.beq (Nat.mul k (P.cellsOf e)) (P.cellsOf t))with
    |false=>grind
    |true=>
     rw [C]at B;cases B;rw[Bool.and_eq_true]at C;have hmul:=D8 C.2;obtain⟨hl,J⟩:=Sd ab;rw[zqc,ai]at hl;have X:∀(i:Nat) r,rs[i]?=zs r->fc W cx ((cs.drop (i*P.cellsOf e)).take (P.cellsOf e)) r/\∀c∈r,ff c=zt:=fun i r hi=>by
      have Y:i<k:=by grind
      have h3:=hx i Y;have aa:i<lz xs:=by grind
      have af:xs[i]?=zs xs[i]:=zqa aa;obtain⟨r',ak,ac⟩:=J i xs[i].1 (by grind);grind
     grind[dH,D8,A4,dI,List.getElem?_of_mem]
   |_=>cases B
end
end Go.AM
