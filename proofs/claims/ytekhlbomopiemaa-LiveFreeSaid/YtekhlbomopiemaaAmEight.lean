/- The abstract machine, part eight: a datum of a row, seen as an abstract value. Conditions: none. -/
import Derived.Test.YtekhlbomopiemaaAmSix
import Derived.OpenShut
set_option linter.unusedVariables false
set_option linter.unusedSectionVars false
set_option linter.unusedSimpArgs false
/-
 The abstract machine: what a datum of a row is,as an abstract value: ints,bools,strings,slices,structs and arrays of such.
set_option maxHeartbeats 4000000
-/
open Option renaming some→zs,none→zn
open Bool renaming true→zt,false→zf
open List renaming getElem?_eq_getElem→zqa,take_append_drop→zqb,length_map→zqc,mem_of_getElem?→zqd
namespace Go.AM
open Go.ChangeShapes Go.WideShapes Go.ChangeAt
noncomputable section
variable {H:Type}
def Ak(P:Program)(t:TypeId):Bool:=match P.underlying t with|some (.struct _)=>zt|some (.array _ _)=>zt|_=>zf
def seeV(P:Program)(t:TypeId)(cs:List AV):AV:=bif Ak P t then .agg cs else(match cs with|[]=>.und|x::_=>x)
def kU(see:DataW H->Option (List AV)):List (DataW H)->Option (List (List AV))
 |[]=>zs []
 |d::ds=>A6 (see d) fun a=>A6 (kU see ds) fun r=>zs (a::r)
def eT(P:Program)(see:TypeId->DataW H->Option (List AV)):Nat->List Field->List (DataW H)->Option (List AV)
 |_,[],ds=>match ds with|[]=>zs []|_::_=>zn
 | o,f::fs,ds=>match ds with
  |[]=>zn
  |d::ds=>bif Nat.beq f.offset o then A6 (see f.type d) fun a=>bif Nat.beq (lenL a) (P.cellsOf f.type)then A6 (eT P see (Nat.add o (P.cellsOf f.type)) fs ds) fun r=>zs (appL a r)else zn else zn
def kV(l:List (List AV)):List AV:=match l with|[]=>[]|a::r=>appL a (kV r)
def V5(P:Program):Nat->TypeId->DataW H->Option (List AV)
 |0,_,_=>zn
 | n+1,t,d=>match P.underlying t with
  |some .bool=>(match d with | .lit l=>(match l with | .bool b=>zs [.bool b]|_=>zn)|_=>zn)
  |some (.int _)=>(match d with | .lit l=>(match l with | .int k m=>zs [.int k m]|_=>zn)|_=>zn)
  |some .string=>(match d with | .lit l=>(match l with | .string s=>zs [.str s]|_=>zn)|_=>zn)
  | some (.slice e)=>(match d with
   |.nil=>zs [.nilsl]
   |.slice es _=>bif Nat.blt 0 (P.cellsOf e)then A6 (kU (V5 P n e) es) fun rs=>bif rs.all (fun r=>Nat.beq (lenL r) (P.cellsOf e)&&(Ak P e||Nat.beq (lenL r) 1))then zs [.fsl (rs.map (seeV P e)) zf]else zn else zn
   |_=>zn)
  |some (.struct fs)=>(match d with | .agg ps=>A6 (eT P (V5 P n) 0 fs.toList ps) fun r=>bif Nat.beq (lenL r) (P.cellsOf t)then zs r else zn|_=>zn)
  |some (.array m e)=>(match d with | .agg ps=>A6 (kU (V5 P n e) ps) fun rs=>bif rs.all (fun r=>Nat.beq (lenL r) (P.cellsOf e))&&Nat.beq (Nat.mul m (P.cellsOf e)) (P.cellsOf t)then zs (kV rs)else zn|_=>zn)
  |_=>zn
theorem Rz{see:DataW H->Option (List AV)}:∀{ds:List (DataW H)}{rs:List (List AV)},kU see ds=zs rs->rs.length=ds.length/\∀(i:Nat) d,ds[i]?=zs d->∃r,see d=zs r/\rs[i]?=zs r
 |[],rs,h=>by
  have h:zs []=zs rs:=h;grind
 |d::ds,rs,h=>by
  have h:A6 (see d) (fun a=>A6 (kU see ds) fun r=>zs (a::r))=zs rs:=h;obtain⟨a,ha,h⟩:=A1 h;obtain⟨r,A,h⟩:=A1 h;cases h;obtain⟨h1,h2⟩:=Rz A;grind
variable {enc:TypeId×Value->H}{P:Program}{W:World}{cx:Cx}{base:Nat}{spare:Nat->Bool}{held:Bool}
theorem eU{α β:Type}{f:α->Option β}:∀{l:List α}{r:List β},l.mapM f=zs r->r.length=l.length/\∀(i:Nat) a,l[i]?=zs a->∃b,f a=zs b/\r[i]?=zs b
 |[],r,h=>by
  grind
 |x :: l,r,h=>by
  rw[List.mapM_cons]at h;cases A:f x with
  |none=>grind
  |some y=>
   rw[A]at h;cases hl:l.mapM f with
   |none=>grind
   |some ys=>
    rw[hl]at h;cases h;obtain⟨h1,h2⟩:=eU hl;grind
theorem rI{a:Addr}{n:Nat}{cs:List Value}(h:W.cells? base a n=zs cs):cs.length=n/\∀i,i<n->W.cell? (a.add i)=cs[i]?:=by
 unfold World.cells? at h;by_cases hb:base<=a.block
 . rw[if_pos hb]at h
   obtain⟨h1,A⟩:=eU h;refine⟨by grind,fun i hi=>?_⟩;obtain⟨b,B,C⟩:=A i i (by grind);rw[B,C]
 grind
theorem oC{a:Addr}{v:Value}(h:W.cell? a=zs v):a.block<W.heap.size/\a.spot=zn:=by
 unfold World.cell? at h;cases hb:W.heap[a.block]? with
 |none=>grind
 |some o=>
  refine⟨(by grind),?_⟩;rw[hb]at h;cases o with
  |cells c t f=>
   simp_all
  |_=>cases h
theorem eV{sz:Nat}:∀(rs:List (List AV))(cs:List Value),cs.length=rs.length*sz->(∀r∈rs,r.length=sz)->(∀(i:Nat) r,rs[i]?=zs r->RepL W cx ((cs.drop (i*sz)).take sz) r)->RepL W cx cs (kV rs)
 |[],cs,hl,_,_=>by
  have:cs=[]:=(by simp_all)
  subst this;exact RepL.nil
 |r::rs,cs,hl,hsz,h=>by
  have h0:=h 0 r rfl;have e:cs=cs.take sz++cs.drop sz:=(zqb sz cs).symm;have A:RepL W cx (cs.drop sz) (kV rs):=eV rs (cs.drop sz) (by rw[List.length_drop,hl,List.length_cons,Nat.succ_mul];omega) (fun r A=>hsz r (List.mem_cons_of_mem _ A)) fun i r hi=>by
   have:=h (i+1) r (by grind)
   grind[Nat.succ_mul,List.drop_drop]
  grind[kV,L7,RepL.append]
theorem eW:∀(rs:List (List AV))(c:AV),c∈kV rs->∃r∈rs,c∈r
 |[],c,h=>by cases h
 |r :: rs,c,h=>by
  have h:c∈appL r (kV rs):=h;rw[L7,List.mem_append]at h;rcases h with h|h
  . grind
  . obtain⟨r',h1,h2⟩:=eW rs c h
    grind
theorem eX{see:TypeId->DataW H->Option (List AV)}{tr:TypeId->List Value->Option (DataW H×List MemPlace)}(C:∀t cs d ps A,tr t cs=zs (d,ps)->see t d=zs A->RepL W cx cs A/\∀c∈A,okCell c=zt):
 ∀ (fs:List Field) (cs:List Value) (o:Nat) (xs:List (DataW H×List MemPlace)) (A:List AV),xs.length=fs.length->(∀(i:Nat) f,fs[i]?=zs f->tr f.type ((cs.drop f.offset).take (P.cellsOf f.type))=xs[i]?)->eT P see o fs (xs.map (·.1))=zs A->cs.length<=o+A.length ->
   RepL W cx (cs.drop o) A/\∀c∈A,okCell c=zt
 |[],cs,o,xs,A,h0,h1,B,h3=>by
  have:xs=[]:=List.eq_nil_of_length_eq_zero h0
  subst this;have B:zs []=zs A:=B;grind[List.drop_eq_nil_of_le,RepL.nil]
 |f :: fs,cs,o,xs,A,h0,h1,B,h3=>by
  cases xs with
  |nil=>cases h0
  |cons y ys=>
   have D:=h1 0 f rfl;have B:(bif Nat.beq f.offset o then A6 (see f.type y.1) fun a=>bif Nat.beq (lenL a) (P.cellsOf f.type)then A6 (eT P see (Nat.add o (P.cellsOf f.type)) fs (ys.map (·.1))) fun r=>zs (appL a r)else zn else zn)=zs A:=B;cases ho:Nat.beq f.offset o with
   |false=>grind
   |true=>
    rw[ho]at B;obtain⟨a,ha,B⟩:=A1 B;cases hn:Nat.beq (lenL a) (P.cellsOf f.type)with
    |false=>grind
    |true=>
     rw[hn]at B;obtain⟨r,G,B⟩:=A1 B;cases B;have ho:=C9 ho;have hn:=C9 hn;rw[A5]at hn;rw[L7]at h3|-;rw[List.length_append,hn]at h3;obtain⟨k1,k2⟩:=C _ _ _ _ _ D ha;obtain⟨k3,k4⟩:=eX C fs cs _ ys r (by grind) (fun i f hi=>by have:=h1 (i+1) f (by grind);grind) G (by grind);grind[zqb,RepL.append,List.drop_drop]
theorem bH(ac:∀b,¬cx.own b):∀(m n:Nat)(t:TypeId)(cs:List Value)(d:DataW H)(ps:List MemPlace)(C:List AV),DataW.trod enc P W base spare held n t cs=zs (d,ps)->V5 P m t d=zs C->RepL W cx cs C/\∀c∈C,okCell c=zt
 |0,_,_,_,_,_,_,_,h=>by cases h
 |m + 1,n,t,cs,d,ps,C,D,A=>by
  have ih:=bH ac m;have one:∀{v:Value}{a:AV},Rep W cx v a->okCell a=zt->RepL W cx [v] [a]/\∀c∈[a],okCell c=zt:=(by grind[Go.AM.RepL.cons,Go.AM.RepL.nil])
  unfold V5 at A;cases Q:P.underlying t with
  |none=>rw[Q]at A;cases A
  |some u=>
   rw[Q]at A;cases u with
   |bool=>
    obtain⟨b,rfl,e⟩:=DataW.trod_bool Q D;cases e;cases A;exact one (.bool _) rfl
   |int k=>
    obtain⟨z,rfl,e,_⟩:=DataW.trod_int Q D;cases e;cases A;exact one (.int _ _) rfl
   |string=>
    obtain⟨s,rfl,e,_⟩:=DataW.trod_string Q D;cases e;cases A;exact one (.str _) rfl
   |slice e=>
    rcases DataW.trod_slice Q D with⟨rfl,e1⟩|⟨a,len,cap,elems,rest,n',rfl,rfl,e1,_,am,_,hlen,an,_,_⟩
    . cases e1;cases A;exact one .nilsl rfl
    . cases e1
      dsimp only at A;cases hp:Nat.blt 0 (P.cellsOf e)with
      |false=>grind
      |true=>
       rw[hp]at A;obtain⟨rs,aa,A⟩:=A1 A;cases B:(rs.all fun r=>Nat.beq (lenL r) (P.cellsOf e)&&(Ak P e||Nat.beq (lenL r) 1))with
       |false=>grind
       |true=>
        rw [B]at A;cases A;have hp:=I9 hp;obtain⟨hl,I⟩:=Rz aa;rw[zqc]at hl;have V:∀(i:Nat) r,rs[i]?=zs r->∃J,W.cells? base (a.add (i*P.cellsOf e)) (P.cellsOf e)=zs J/\RepL W cx J r/\∀c∈r,okCell c=zt:=fun i r hi=>by
         have X:i<len:=by grind
         have h3:=an i X;have Y:i<elems.length:=by grind
         have ae:elems[i]?=zs elems[i]:=zqa Y;obtain⟨r',aj,ab⟩:=I i elems[i].1 (by grind);rw[hi]at ab;cases ab;rw[ae]at h3;cases hcs:W.cells? base (a.add (i*P.cellsOf e)) (P.cellsOf e)with
         |none=>grind
         |some J=>
          grind
        have hsz:∀(i:Nat) r,rs[i]?=zs r->r.length=P.cellsOf e/\(seeV P e r).cells=r:=fun i r hi=>by
         have:=(List.all_eq_true.1 B) r (zqd hi)
         rw[Bool.and_eq_true]at this;have D:=C9 this.1;rw[A5]at D;refine⟨D,?_⟩;unfold seeV;cases ao:Ak P e with
         |true=>rfl
         |false=>
          have A:=this.2;rw[ao]at A;have A:=C9 A;rw[A5]at A;have ai:=(V i r hi).choose_spec.2.2
          match r,A,ai with
          |[x],_,hx=>show x.cells=[x];have:=hx x (by simp);cases x<;>first|rfl|cases this
        have af:∀(i:Nat) x,(rs.map (seeV P e))[i]?=zs x->∃r,rs[i]?=zs r/\x.cells=r/\r.length=P.cellsOf e:=(by grind)
        have hcell:∀(i:Nat) x (j:Nat) c,(rs.map (seeV P e))[i]?=zs x->x.cells[j]?=zs c->∃v,W.cell? ((a.add (i*P.cellsOf e)).add j)=zs v/\Rep W cx v c/\v.oneC=zt:=fun i x j c hi N=>by
         obtain⟨r,hr,ak,hrl⟩:=af i x hi;rw[ak]at N;obtain⟨J,h3,h4,h5⟩:=V i r hr;obtain⟨h6,h7⟩:=rI h3;obtain⟨v,hv,hrep⟩:=h4.get N;refine⟨v,by grind,hrep,hrep.oneC (h5 c (zqd N))⟩
        have G:rs≠[]->a.spot=zn/\a.block<W.heap.size:=fun U=>by
         obtain⟨r,hr⟩:∃r,rs[0]?=zs r:=by grind
         have hx:(rs.map (seeV P e))[0]?=zs (seeV P e r):=by grind
         obtain⟨D,A⟩:=hsz 0 r hr;have N:0<(seeV P e r).cells.length:=by grind
         obtain⟨v,hv,_⟩:=hcell 0 _ 0 _ hx (zqa N)
         have:(a.add (0*P.cellsOf e)).add 0=a:=by simp[Addr.add]
         rw[this]at hv;exact⟨(oC hv).2,(oC hv).1⟩
        have hadd:∀(i j:Nat),rs≠[]->(a.add (i*P.cellsOf e)).add j=⟨a.block,a.off+i*P.cellsOf e+j,zn⟩:=fun i j U=>by
         obtain⟨hs,_⟩:=G U;obtain⟨b0,o0,s0⟩:=a;grind[add_addr]
        have U:∀(i:Nat) x,(rs.map (seeV P e))[i]?=zs x->rs≠[]:=(by grind)
        refine one (.fsl (zs a) a.block a.off len cap (rs.map (seeV P e)) zf (P.cellsOf e) (fun i j=>(W.cell? ⟨a.block,a.off+i*P.cellsOf e+j,zn⟩).getD undef)
         (by grind) am (fun e=>by cases e) (fun ad=>?_) (by grind) (fun i x j c hi N=>?_) (fun i x j c hi N=>?_) (fun i x j c hi N=>?_) (fun _ _ e=>by cases e)) rfl
        . have ag:rs≠[]:=fun h=>ad (by rw[h];rfl)
          obtain⟨D,A⟩:=G ag;obtain⟨b0,o0,s0⟩:=a;grind
        . grind
        . grind
        grind
   |struct fs=>
    obtain⟨xs,n',rfl,e1,al,ah,hx⟩:=DataW.trod_struct Q D;cases e1;obtain⟨r,hr,A⟩:=A1 A;cases hn:Nat.beq (lenL r) (P.cellsOf t)with
    |false=>grind
    |true=>
     rw[hn]at A;cases A;have hn:=C9 hn;rw[A5]at hn
     have:=eX (W:=W) (cx:=cx) (P:=P) (see:=V5 P m) (tr:=fun t cs=>DataW.trod enc P W base spare held n' t cs) (by grind) fs.toList cs 0 xs C (by grind) (by grind) hr (by omega)
     grind
   |array k e=>
    obtain⟨xs,n',rfl,e1,al,ah,hx⟩:=DataW.trod_array Q D;cases e1;obtain⟨rs,aa,A⟩:=A1 A;cases B:((rs.all fun r=>Nat.beq (lenL r) (P.cellsOf e))&&Nat.beq (Nat.mul k (P.cellsOf e)) (P.cellsOf t))with
    |false=>grind
    |true=>
     rw [B]at A;cases A;rw[Bool.and_eq_true]at B;have hmul:=C9 B.2;obtain⟨hl,I⟩:=Rz aa;rw[zqc,ah]at hl;have V:∀(i:Nat) r,rs[i]?=zs r->RepL W cx ((cs.drop (i*P.cellsOf e)).take (P.cellsOf e)) r/\∀c∈r,okCell c=zt:=fun i r hi=>by
      have X:i<k:=by grind
      have h3:=hx i X;have Y:i<xs.length:=by grind
      have ae:xs[i]?=zs xs[i]:=zqa Y;obtain⟨r',aj,ab⟩:=I i xs[i].1 (by grind);grind
     grind[eV,C9,A5,eW,List.getElem?_of_mem]
   |_=>cases A
end
end Go.AM
