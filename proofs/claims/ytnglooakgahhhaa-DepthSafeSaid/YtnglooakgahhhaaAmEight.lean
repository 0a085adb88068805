/- The abstract machine, part eight: a datum of a row, seen as an abstract value. Conditions: none. -/
import Derived.Test.YtnglooakgahhhaaAmSix
import Derived.OpenShut
set_option linter.unusedVariables false
set_option linter.unusedSectionVars false
set_option linter.unusedSimpArgs false
/-
 The abstract machine: what a datum of a row is,as an abstract value: ints,KA,strings,slices,structs and arrays of such.
set_option maxHeartbeats 4000000
-/
open Option renaming some→zs,none→zn
open Bool renaming true→zt,false→zf
open List renaming getElem?_eq_getElem→zqa,take_append_drop→zqb,length_map→zqc,mem_of_getElem?→zqd
namespace Go.AM
open Go.ChangeShapes Go.WideShapes Go.ChangeAt
noncomputable section
variable {H:Type}
def Au(P:Program)(t:TypeId):Bool:=match P.underlying t with|some (.struct _)=>zt|some (.array _ _)=>zt|_=>zf
def seeV(P:Program)(t:TypeId)(cs:List AV):AV:=bif Au P t then .agg cs else(match cs with|[]=>.und|x::_=>x)
def gY(see:DataW H->Option (List AV)):List (DataW H)->Option (List (List AV))
 |[]=>zs []
 |d::ds=>A4 (see d) fun a=>A4 (gY see ds) fun r=>zs (a::r)
def cG(P:Program)(see:TypeId->DataW H->Option (List AV)):Nat->List Field->List (DataW H)->Option (List AV)
 |_,[],ds=>match ds with|[]=>zs []|_::_=>zn
 | o,f::fs,ds=>match ds with
  |[]=>zn
  |d::ds=>bif Nat.beq f.offset o then A4 (see f.type d) fun a=>bif Nat.beq (lenL a) (P.cellsOf f.type)then A4 (cG P see (Nat.add o (P.cellsOf f.type)) fs ds) fun r=>zs (appL a r)else zn else zn
def gZ(l:List (List AV)):List AV:=match l with|[]=>[]|a::r=>appL a (gZ r)
def V2(P:Program):Nat->TypeId->DataW H->Option (List AV)
 |0,_,_=>zn
 | n+1,t,d=>match P.underlying t with
  |some .bool=>(match d with | .lit l=>(match l with | .bool b=>zs [.bool b]|_=>zn)|_=>zn)
  |some (.int _)=>(match d with | .lit l=>(match l with | .int k m=>zs [.int k m]|_=>zn)|_=>zn)
  |some .string=>(match d with | .lit l=>(match l with | .string s=>zs [.str s]|_=>zn)|_=>zn)
  | some (.slice e)=>(match d with
   |.nil=>zs [.nilsl]
   |.slice es _=>bif Nat.blt 0 (P.cellsOf e)then A4 (gY (V2 P n e) es) fun rs=>bif rs.all (fun r=>Nat.beq (lenL r) (P.cellsOf e)&&(Au P e||Nat.beq (lenL r) 1))then zs [.fsl (rs.map (seeV P e)) zf]else zn else zn
   |_=>zn)
  |some (.struct fs)=>(match d with | .agg ps=>A4 (cG P (V2 P n) 0 fs.toList ps) fun r=>bif Nat.beq (lenL r) (P.cellsOf t)then zs r else zn|_=>zn)
  |some (.array m e)=>(match d with | .agg ps=>A4 (gY (V2 P n e) ps) fun rs=>bif rs.all (fun r=>Nat.beq (lenL r) (P.cellsOf e))&&Nat.beq (Nat.mul m (P.cellsOf e)) (P.cellsOf t)then zs (gZ rs)else zn|_=>zn)
  |_=>zn
theorem Qu{see:DataW H->Option (List AV)}:∀{ds:List (DataW H)}{rs:List (List AV)},gY see ds=zs rs->rs.length=ds.length/\∀(i:Nat) d,ds[i]?=zs d->∃r,see d=zs r/\rs[i]?=zs r
 |[],rs,h=>by
  have h:zs []=zs rs:=h;grind
 |d::ds,rs,h=>by
  have h:A4 (see d) (fun a=>A4 (gY see ds) fun r=>zs (a::r))=zs rs:=h;obtain⟨a,ha,h⟩:=A0 h;obtain⟨r,A,h⟩:=A0 h;cases h;obtain⟨h1,h2⟩:=Qu A;grind
variable {enc:TypeId×Value->H}{P:Program}{W:World}{cx:Cx}{base:Nat}{spare:Nat->Bool}{held:Bool}
theorem cH{α β:Type}{f:α->Option β}:∀{l:List α}{r:List β},l.mapM f=zs r->r.length=l.length/\∀(i:Nat) a,l[i]?=zs a->∃b,f a=zs b/\r[i]?=zs b
 |[],r,h=>by
  grind
 |x :: l,r,h=>by
  rw[List.mapM_cons]at h;cases A:f x with
  |none=>grind
  |some y=>
   rw[A]at h;cases hl:l.mapM f with
   |none=>grind
   |some ys=>
    rw[hl]at h;cases h;obtain⟨h1,h2⟩:=cH hl;grind
theorem nT{a:Addr}{n:Nat}{cs:List Value}(h:W.cells? base a n=zs cs):cs.length=n/\∀i,i<n->W.cell? (a.add i)=cs[i]?:=by
 unfold World.cells? at h;by_cases hb:base<=a.block
 . rw[if_pos hb]at h
   obtain⟨h1,h2⟩:=cH h;refine⟨by grind,fun i hi=>?_⟩;obtain⟨b,A,B⟩:=h2 i i (by grind);rw[A,B]
 grind
theorem kY{a:Addr}{v:Value}(h:W.cell? a=zs v):a.block<W.heap.size/\a.spot=zn:=by
 unfold World.cell? at h;cases hb:W.heap[a.block]? with
 |none=>grind
 |some o=>
  refine⟨(by grind),?_⟩;rw[hb]at h;cases o with
  |cells c t f=>
   simp_all
  |_=>cases h
theorem cI{sz:Nat}:∀(rs:List (List AV))(cs:List Value),cs.length=rs.length*sz->(∀r∈rs,r.length=sz)->(∀(i:Nat) r,rs[i]?=zs r->RepL W cx ((cs.drop (i*sz)).take sz) r)->RepL W cx cs (gZ rs)
 |[],cs,hl,_,_=>by
  have:cs=[]:=(by simp_all)
  subst this;exact RepL.nil
 |r::rs,cs,hl,hsz,h=>by
  have h0:=h 0 r rfl;have e:cs=cs.take sz++cs.drop sz:=(zqb sz cs).symm;have A:RepL W cx (cs.drop sz) (gZ rs):=cI rs (cs.drop sz) (by rw[List.length_drop,hl,List.length_cons,Nat.succ_mul];omega) (fun r A=>hsz r (List.mem_cons_of_mem _ A)) fun i r hi=>by
   have:=h (i+1) r (by grind)
   grind[Nat.succ_mul,List.drop_drop]
  grind[gZ,L7,RepL.append]
theorem cJ:∀(rs:List (List AV))(c:AV),c∈gZ rs->∃r∈rs,c∈r
 |[],c,h=>by cases h
 |r :: rs,c,h=>by
  have h:c∈appL r (gZ rs):=h;rw[L7,List.mem_append]at h;rcases h with h|h
  . grind
  . obtain⟨r',h1,h2⟩:=cJ rs c h
    grind
theorem cK{see:TypeId->DataW H->Option (List AV)}{tr:TypeId->List Value->Option (DataW H×List MemPlace)}(B:∀t cs d ps A,tr t cs=zs (d,ps)->see t d=zs A->RepL W cx cs A/\∀c∈A,okCell c=zt):
 ∀ (fs:List Field) (cs:List Value) (o:Nat) (xs:List (DataW H×List MemPlace)) (A:List AV),xs.length=fs.length->(∀(i:Nat) f,fs[i]?=zs f->tr f.type ((cs.drop f.offset).take (P.cellsOf f.type))=xs[i]?)->cG P see o fs (xs.map (·.1))=zs A->cs.length<=o+A.length ->
   RepL W cx (cs.drop o) A/\∀c∈A,okCell c=zt
 |[],cs,o,xs,A,h0,h1,h2,h3=>by
  have:xs=[]:=List.eq_nil_of_length_eq_zero h0
  subst this;have h2:zs []=zs A:=h2;grind[List.drop_eq_nil_of_le,RepL.nil]
 |f :: fs,cs,o,xs,A,h0,h1,h2,h3=>by
  cases xs with
  |nil=>cases h0
  |cons y ys=>
   have C:=h1 0 f rfl;have h2:(bif Nat.beq f.offset o then A4 (see f.type y.1) fun a=>bif Nat.beq (lenL a) (P.cellsOf f.type)then A4 (cG P see (Nat.add o (P.cellsOf f.type)) fs (ys.map (·.1))) fun r=>zs (appL a r)else zn else zn)=zs A:=h2;cases ho:Nat.beq f.offset o with
   |false=>grind
   |true=>
    rw[ho]at h2;obtain⟨a,ha,h2⟩:=A0 h2;cases hn:Nat.beq (lenL a) (P.cellsOf f.type)with
    |false=>grind
    |true=>
     rw[hn]at h2;obtain⟨r,D,h2⟩:=A0 h2;cases h2;have ho:=C4 ho;have hn:=C4 hn;rw[A3]at hn;rw[L7]at h3|-;rw[List.length_append,hn]at h3;obtain⟨k1,k2⟩:=B _ _ _ _ _ C ha;obtain⟨k3,k4⟩:=cK B fs cs _ ys r (by grind) (fun i f hi=>by have:=h1 (i+1) f (by grind);grind) D (by grind);grind[zqb,RepL.append,List.drop_drop]
theorem Pv(aa:∀b,¬cx.own b):∀(m n:Nat)(t:TypeId)(cs:List Value)(d:DataW H)(ps:List MemPlace)(B:List AV),DataW.trod enc P W base spare held n t cs=zs (d,ps)->V2 P m t d=zs B->RepL W cx cs B/\∀c∈B,okCell c=zt
 |0,_,_,_,_,_,_,_,h=>by cases h
 |m + 1,n,t,cs,d,ps,B,h1,h2=>by
  have ih:=Pv aa m;have one:∀{v:Value}{a:AV},Rep W cx v a->okCell a=zt->RepL W cx [v] [a]/\∀c∈[a],okCell c=zt:=(by grind[Go.AM.RepL.cons,Go.AM.RepL.nil])
  unfold V2 at h2;cases J:P.underlying t with
  |none=>rw[J]at h2;cases h2
  |some u=>
   rw[J]at h2;cases u with
   |bool=>
    obtain⟨b,rfl,e⟩:=DataW.trod_bool J h1;cases e;cases h2;exact one (.bool _) rfl
   |int k=>
    obtain⟨z,rfl,e,_⟩:=DataW.trod_int J h1;cases e;cases h2;exact one (.int _ _) rfl
   |string=>
    obtain⟨s,rfl,e,_⟩:=DataW.trod_string J h1;cases e;cases h2;exact one (.str _) rfl
   |slice e=>
    rcases DataW.trod_slice J h1 with⟨rfl,e1⟩|⟨a,len,cap,elems,rest,n',rfl,rfl,e1,_,ak,_,hlen,al,_,_⟩
    . cases e1;cases h2;exact one .nilsl rfl
    . cases e1
      dsimp only at h2;cases hp:Nat.blt 0 (P.cellsOf e)with
      |false=>grind
      |true=>
       rw[hp]at h2;obtain⟨rs,V,h2⟩:=A0 h2;cases A:(rs.all fun r=>Nat.beq (lenL r) (P.cellsOf e)&&(Au P e||Nat.beq (lenL r) 1))with
       |false=>grind
       |true=>
        rw [A]at h2;cases h2;have hp:=I5 hp;obtain⟨hl,D⟩:=Qu V;rw[zqc]at hl;have O:∀(i:Nat) r,rs[i]?=zs r->∃G,W.cells? base (a.add (i*P.cellsOf e)) (P.cellsOf e)=zs G/\RepL W cx G r/\∀c∈r,okCell c=zt:=fun i r hi=>by
         have Q:i<len:=by grind
         have h3:=al i Q;have U:i<elems.length:=by grind
         have ac:elems[i]?=zs elems[i]:=zqa U;obtain⟨r',ah,X⟩:=D i elems[i].1 (by grind);rw[hi]at X;cases X;rw[ac]at h3;cases hcs:W.cells? base (a.add (i*P.cellsOf e)) (P.cellsOf e)with
         |none=>grind
         |some G=>
          grind
        have hsz:∀(i:Nat) r,rs[i]?=zs r->r.length=P.cellsOf e/\(seeV P e r).cells=r:=fun i r hi=>by
         have:=(List.all_eq_true.1 A) r (zqd hi)
         rw[Bool.and_eq_true]at this;have h1:=C4 this.1;rw[A3]at h1;refine⟨h1,?_⟩;unfold seeV;cases am:Au P e with
         |true=>rfl
         |false=>
          have h2:=this.2;rw[am]at h2;have h2:=C4 h2;rw[A3]at h2;have ag:=(O i r hi).choose_spec.2.2
          match r,h2,ag with
          |[x],_,Y=>show x.cells=[x];have:=Y x (by simp);cases x<;>first|rfl|cases this
        have ad:∀(i:Nat) x,(rs.map (seeV P e))[i]?=zs x->∃r,rs[i]?=zs r/\x.cells=r/\r.length=P.cellsOf e:=(by grind)
        have hcell:∀(i:Nat) x (j:Nat) c,(rs.map (seeV P e))[i]?=zs x->x.cells[j]?=zs c->∃v,W.cell? ((a.add (i*P.cellsOf e)).add j)=zs v/\Rep W cx v c/\v.oneC=zt:=fun i x j c hi I=>by
         obtain⟨r,hr,ai,hrl⟩:=ad i x hi;rw[ai]at I;obtain⟨G,h3,h4,h5⟩:=O i r hr;obtain⟨h6,h7⟩:=nT h3;obtain⟨v,hv,hrep⟩:=h4.get I;refine⟨v,by grind,hrep,hrep.oneC (h5 c (zqd I))⟩
        have C:rs≠[]->a.spot=zn/\a.block<W.heap.size:=fun N=>by
         obtain⟨r,hr⟩:∃r,rs[0]?=zs r:=by grind
         have Y:(rs.map (seeV P e))[0]?=zs (seeV P e r):=by grind
         obtain⟨h1,h2⟩:=hsz 0 r hr;have I:0<(seeV P e r).cells.length:=by grind
         obtain⟨v,hv,_⟩:=hcell 0 _ 0 _ Y (zqa I)
         have:(a.add (0*P.cellsOf e)).add 0=a:=by simp[Addr.add]
         rw[this]at hv;exact⟨(kY hv).2,(kY hv).1⟩
        have hadd:∀(i j:Nat),rs≠[]->(a.add (i*P.cellsOf e)).add j=⟨a.block,a.off+i*P.cellsOf e+j,zn⟩:=fun i j N=>by
         obtain⟨hs,_⟩:=C N;obtain⟨b0,o0,s0⟩:=a;grind[add_addr]
        have N:∀(i:Nat) x,(rs.map (seeV P e))[i]?=zs x->rs≠[]:=(by grind)
        refine one (.fsl (zs a) a.block a.off len cap (rs.map (seeV P e)) zf (P.cellsOf e) (fun i j=>(W.cell? ⟨a.block,a.off+i*P.cellsOf e+j,zn⟩).getD undef)
         (by grind) ak (fun e=>by cases e) (fun ab=>?_) (by grind) (fun i x j c hi I=>?_) (fun i x j c hi I=>?_) (fun i x j c hi I=>?_) (fun _ _ e=>by cases e)) rfl
        . have ae:rs≠[]:=fun h=>ab (by rw[h];rfl)
          obtain⟨h1,h2⟩:=C ae;obtain⟨b0,o0,s0⟩:=a;grind
        . grind
        . grind
        grind
   |struct fs=>
    obtain⟨xs,n',rfl,e1,aj,af,Y⟩:=DataW.trod_struct J h1;cases e1;obtain⟨r,hr,h2⟩:=A0 h2;cases hn:Nat.beq (lenL r) (P.cellsOf t)with
    |false=>grind
    |true=>
     rw[hn]at h2;cases h2;have hn:=C4 hn;rw[A3]at hn
     have:=cK (W:=W) (cx:=cx) (P:=P) (see:=V2 P m) (tr:=fun t cs=>DataW.trod enc P W base spare held n' t cs) (by grind) fs.toList cs 0 xs B (by grind) (by grind) hr (by omega)
     grind
   |array k e=>
    obtain⟨xs,n',rfl,e1,aj,af,Y⟩:=DataW.trod_array J h1;cases e1;obtain⟨rs,V,h2⟩:=A0 h2;cases A:((rs.all fun r=>Nat.beq (lenL r) (P.cellsOf e))&&Nat.beq (Nat.mul k (P.cellsOf e)) (P.cellsOf t))with
    |false=>grind
    |true=>
     rw [A]at h2;cases h2;rw[Bool.and_eq_true]at A;have hmul:=C4 A.2;obtain⟨hl,D⟩:=Qu V;rw[zqc,af]at hl;have O:∀(i:Nat) r,rs[i]?=zs r->RepL W cx ((cs.drop (i*P.cellsOf e)).take (P.cellsOf e)) r/\∀c∈r,okCell c=zt:=fun i r hi=>by
      have Q:i<k:=by grind
      have h3:=Y i Q;have U:i<xs.length:=by grind
      have ac:xs[i]?=zs xs[i]:=zqa U;obtain⟨r',ah,X⟩:=D i xs[i].1 (by grind);grind
     grind[cI,C4,A3,cJ,List.getElem?_of_mem]
   |_=>cases h2
end
end Go.AM
