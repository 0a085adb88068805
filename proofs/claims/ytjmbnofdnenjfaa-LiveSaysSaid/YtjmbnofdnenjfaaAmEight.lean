/- The abstract machine, part eight: a datum of a row, seen as an abstract value. Conditions: none. -/
import Derived.Test.YtjmbnofdnenjfaaAmSix
import Derived.OpenShut
set_option linter.unusedVariables false
set_option linter.unusedSectionVars false
set_option linter.unusedSimpArgs false
/-
 The abstract machine: what a datum of a row is,as an abstract value: ints,bools,strings,slices,structs and arrays of such.
set_option maxHeartbeats 4000000
-/
open List renaming getElem?_eq_getElem→zqa,take_append_drop→zqb,length_map→zqc,mem_of_getElem?→zqd
namespace Go.AM
open Go.ChangeShapes Go.WideShapes Go.ChangeAt
noncomputable section
variable {H:Type}
def Ao(P:Program)(t:TypeId):Bool:=match P.underlying t with|some (.struct _)=>true|some (.array _ _)=>true|_=>false
def seeV(P:Program)(t:TypeId)(cs:List AV):AV:=bif Ao P t then .agg cs else(match cs with|[]=>.und|x::_=>x)
def jF(see:DataW H->Option (List AV)):List (DataW H)->Option (List (List AV))
 |[]=>some []
 |d::ds=>A7 (see d) fun a=>A7 (jF see ds) fun r=>some (a::r)
def dO(P:Program)(see:TypeId->DataW H->Option (List AV)):Nat->List Field->List (DataW H)->Option (List AV)
 |_,[],ds=>match ds with|[]=>some []|_::_=>none
 | o,f::fs,ds=>match ds with
  |[]=>none
  |d::ds=>bif Nat.beq f.offset o then A7 (see f.type d) fun a=>bif Nat.beq (lenL a) (P.cellsOf f.type)then A7 (dO P see (Nat.add o (P.cellsOf f.type)) fs ds) fun r=>some (appL a r)else none else none
def jG(l:List (List AV)):List AV:=match l with|[]=>[]|a::r=>appL a (jG r)
def X4(P:Program):Nat->TypeId->DataW H->Option (List AV)
 |0,_,_=>none
 | n+1,t,d=>match P.underlying t with
  |some .bool=>(match d with | .lit l=>(match l with | .bool b=>some [.bool b]|_=>none)|_=>none)
  |some (.int _)=>(match d with | .lit l=>(match l with | .int k m=>some [.int k m]|_=>none)|_=>none)
  |some .string=>(match d with | .lit l=>(match l with | .string s=>some [.str s]|_=>none)|_=>none)
  | some (.slice e)=>(match d with
   | .nil=>some [.nilsl]
   | .slice es _=>bif Nat.blt 0 (P.cellsOf e)then A7 (jF (X4 P n e) es) fun rs=>bif rs.all (fun r=>Nat.beq (lenL r) (P.cellsOf e)&&(Ao P e||Nat.beq (lenL r) 1))then some [.fsl (rs.map (seeV P e)) false]else none else none
   |_=>none)
  |some (.struct fs)=>(match d with | .agg ps=>A7 (dO P (X4 P n) 0 fs.toList ps) fun r=>bif Nat.beq (lenL r) (P.cellsOf t)then some r else none|_=>none)
  |some (.array m e)=>(match d with | .agg ps=>A7 (jF (X4 P n e) ps) fun rs=>bif rs.all (fun r=>Nat.beq (lenL r) (P.cellsOf e))&&Nat.beq (Nat.mul m (P.cellsOf e)) (P.cellsOf t)then some (jG rs)else none|_=>none)
  |_=>none
theorem Sh{see:DataW H->Option (List AV)}:∀{ds:List (DataW H)}{rs:List (List AV)},jF see ds=some rs->rs.length=ds.length/\∀(i:Nat) d,ds[i]?=some d->∃r,see d=some r/\rs[i]?=some r
 | [],rs,h=>by
  have h:some []=some rs:=h;grind
 | d::ds,rs,h=>by
  have h:A7 (see d) (fun a=>A7 (jF see ds) fun r=>some (a::r))=some rs:=h;obtain⟨a,ha,h⟩:=A1 h;obtain⟨r,hr,h⟩:=A1 h;cases h;obtain⟨h1,h2⟩:=Sh hr;grind
variable {enc:TypeId×Value->H}{P:Program}{W:World}{cx:Cx}{base:Nat}{spare:Nat->Bool}{held:Bool}
theorem dP{α β:Type}{f:α->Option β}:∀{l:List α}{r:List β},l.mapM f=some r->r.length=l.length/\∀(i:Nat) a,l[i]?=some a->∃b,f a=some b/\r[i]?=some b
 | [],r,h=>by
  grind
 | x :: l,r,h=>by
  rw[List.mapM_cons]at h;cases hx:f x with
  |none=>grind
  | some y =>
   rw[hx]at h;cases hl:l.mapM f with
   |none=>grind
   | some ys =>
    rw[hl]at h;cases h;obtain⟨h1,h2⟩:=dP hl;grind
theorem oI{a:Addr}{n:Nat}{cs:List Value}(h:W.cells? base a n=some cs):cs.length=n/\∀i,i<n->W.cell? (a.add i)=cs[i]?:=by
 unfold World.cells? at h;by_cases hb:base<=a.block
 . rw[if_pos hb]at h
   obtain⟨h1,h2⟩:=dP h;refine⟨by grind,fun i hi=>?_⟩;obtain⟨b,h3,h4⟩:=h2 i i (by grind);rw[h3,h4]
 grind
theorem mD{a:Addr}{v:Value}(h:W.cell? a=some v):a.block<W.heap.size/\a.spot=none:=by
 unfold World.cell? at h;cases hb:W.heap[a.block]? with
 |none=>grind
 | some o =>
  refine⟨(by grind),?_⟩;rw[hb]at h;cases o with
  | cells c t f =>
   simp_all
  |_=>cases h
theorem dQ{sz:Nat}:∀(rs:List (List AV))(cs:List Value),cs.length=rs.length*sz->(∀r∈rs,r.length=sz)->(∀(i:Nat) r,rs[i]?=some r->RepL W cx ((cs.drop (i*sz)).take sz) r)->RepL W cx cs (jG rs)
 | [],cs,hl,_,_=>by
  have:cs=[]:=(by simp_all)
  subst this;exact RepL.nil
 | r::rs,cs,hl,hsz,h=>by
  have h0:=h 0 r rfl;have e:cs=cs.take sz++cs.drop sz:=(zqb sz cs).symm;have hr:RepL W cx (cs.drop sz) (jG rs):=dQ rs (cs.drop sz) (by rw[List.length_drop,hl,List.length_cons,Nat.succ_mul];omega) (fun r hr=>hsz r (List.mem_cons_of_mem _ hr)) fun i r hi=>by
   have:=h (i+1) r (by grind)
   grind[Nat.succ_mul,List.drop_drop]
  grind[jG,Q0,RepL.append]
theorem dR:∀(rs:List (List AV))(c:AV),c∈jG rs->∃r∈rs,c∈r
 |[],c,h=>by cases h
 | r :: rs,c,h=>by
  have h:c∈appL r (jG rs):=h;rw[Q0,List.mem_append]at h;rcases h with h|h
  . grind
  . obtain⟨r',h1,h2⟩:=dR rs c h
    grind
theorem dS{see:TypeId->DataW H->Option (List AV)}{tr:TypeId->List Value->Option (DataW H×List MemPlace)}(hsee:∀t cs d ps acs,tr t cs=some (d,ps)->see t d=some acs->RepL W cx cs acs/\∀c∈acs,okCell c=true):
 ∀ (fs:List Field) (cs:List Value) (o:Nat) (xs:List (DataW H×List MemPlace)) (acs:List AV),xs.length=fs.length->(∀(i:Nat) f,fs[i]?=some f->tr f.type ((cs.drop f.offset).take (P.cellsOf f.type))=xs[i]?)->dO P see o fs (xs.map (·.1))=some acs->cs.length<=o+acs.length ->
   RepL W cx (cs.drop o) acs/\∀c∈acs,okCell c=true
 | [],cs,o,xs,acs,h0,h1,h2,h3=>by
  have:xs=[]:=List.eq_nil_of_length_eq_zero h0
  subst this;have h2:some []=some acs:=h2;grind[List.drop_eq_nil_of_le,RepL.nil]
 | f :: fs,cs,o,xs,acs,h0,h1,h2,h3=>by
  cases xs with
  |nil=>cases h0
  | cons y ys =>
   have hx:=h1 0 f rfl;have h2:(bif Nat.beq f.offset o then A7 (see f.type y.1) fun a=>bif Nat.beq (lenL a) (P.cellsOf f.type)then A7 (dO P see (Nat.add o (P.cellsOf f.type)) fs (ys.map (·.1))) fun r=>some (appL a r)else none else none)=some acs:=h2;cases ho:Nat.beq f.offset o with
   |false=>grind
   | true =>
    rw[ho]at h2;obtain⟨a,ha,h2⟩:=A1 h2;cases hn:Nat.beq (lenL a) (P.cellsOf f.type)with
    |false=>grind
    | true =>
     rw[hn]at h2;obtain⟨r,hr,h2⟩:=A1 h2;cases h2;have ho:=E5 ho;have hn:=E5 hn;rw[A9]at hn;rw[Q0]at h3|-;rw[List.length_append,hn]at h3;obtain⟨k1,k2⟩:=hsee _ _ _ _ _ hx ha;obtain⟨k3,k4⟩:=dS hsee fs cs _ ys r (by grind) (fun i f hi=>by have:=h1 (i+1) f (by grind);grind) hr (by grind);grind[zqb,RepL.append,List.drop_drop]
theorem mE(hown:∀b,¬cx.own b):∀(m n:Nat)(t:TypeId)(cs:List Value)(d:DataW H)(ps:List MemPlace)(acs:List AV),DataW.trod enc P W base spare held n t cs=some (d,ps)->X4 P m t d=some acs->RepL W cx cs acs/\∀c∈acs,okCell c=true
 |0,_,_,_,_,_,_,_,h=>by cases h
 | m + 1,n,t,cs,d,ps,acs,h1,h2=>by
  have ih:=mE hown m;have one:∀{v:Value}{a:AV},Rep W cx v a->okCell a=true->RepL W cx [v] [a]/\∀c∈[a],okCell c=true:=(by grind[Go.AM.RepL.cons,Go.AM.RepL.nil])
  unfold X4 at h2;cases hu:P.underlying t with
  |none=>rw[hu]at h2;cases h2
  | some u =>
   rw[hu]at h2;cases u with
   | bool =>
    obtain⟨b,rfl,e⟩:=DataW.trod_bool hu h1;cases e;cases h2;exact one (.bool _) rfl
   | int k =>
    obtain⟨z,rfl,e,_⟩:=DataW.trod_int hu h1;cases e;cases h2;exact one (.int _ _) rfl
   | string =>
    obtain⟨s,rfl,e,_⟩:=DataW.trod_string hu h1;cases e;cases h2;exact one (.str _) rfl
   | slice e =>
    rcases DataW.trod_slice hu h1 with⟨rfl,e1⟩|⟨a,len,cap,elems,rest,n',rfl,rfl,e1,_,hlc,_,hlen,hel,_,_⟩
    . cases e1;cases h2;exact one .nilsl rfl
    . cases e1
      dsimp only at h2;cases hp:Nat.blt 0 (P.cellsOf e)with
      |false=>grind
      | true =>
       rw[hp]at h2;obtain⟨rs,hrs,h2⟩:=A1 h2;cases hall:(rs.all fun r=>Nat.beq (lenL r) (P.cellsOf e)&&(Ao P e||Nat.beq (lenL r) 1))with
       |false=>grind
       | true =>
        rw [hall]at h2;cases h2;have hp:=M3 hp;obtain⟨hl,hget⟩:=Sh hrs;rw[zqc]at hl;have key:∀(i:Nat) r,rs[i]?=some r->∃csi,W.cells? base (a.add (i*P.cellsOf e)) (P.cellsOf e)=some csi/\RepL W cx csi r/\∀c∈r,okCell c=true:=fun i r hi=>by
         have hik:i<len:=by grind
         have h3:=hel i hik;have hix:i<elems.length:=by grind
         have hxi:elems[i]?=some elems[i]:=zqa hix;obtain⟨r',hr',hri⟩:=hget i elems[i].1 (by grind);rw[hi]at hri;cases hri;rw[hxi]at h3;cases hcs:W.cells? base (a.add (i*P.cellsOf e)) (P.cellsOf e)with
         |none=>grind
         | some csi =>
          grind
        have hsz:∀(i:Nat) r,rs[i]?=some r->r.length=P.cellsOf e/\(seeV P e r).cells=r:=fun i r hi=>by
         have:=(List.all_eq_true.1 hall) r (zqd hi)
         rw[Bool.and_eq_true]at this;have h1:=E5 this.1;rw[A9]at h1;refine⟨h1,?_⟩;unfold seeV;cases hag:Ao P e with
         |true=>rfl
         | false =>
          have h2:=this.2;rw[hag]at h2;have h2:=E5 h2;rw[A9]at h2;have hok:=(key i r hi).choose_spec.2.2
          match r,h2,hok with
          |[x],_,hx=>show x.cells=[x];have:=hx x (by simp);cases x<;>first|rfl|cases this
        have hmap:∀(i:Nat) x,(rs.map (seeV P e))[i]?=some x->∃r,rs[i]?=some r/\x.cells=r/\r.length=P.cellsOf e:=(by grind)
        have hcell:∀(i:Nat) x (j:Nat) c,(rs.map (seeV P e))[i]?=some x->x.cells[j]?=some c->∃v,W.cell? ((a.add (i*P.cellsOf e)).add j)=some v/\Rep W cx v c/\v.oneC=true:=fun i x j c hi hj=>by
         obtain⟨r,hr,hxr,hrl⟩:=hmap i x hi;rw[hxr]at hj;obtain⟨csi,h3,h4,h5⟩:=key i r hr;obtain⟨h6,h7⟩:=oI h3;obtain⟨v,hv,hrep⟩:=h4.get hj;refine⟨v,by grind,hrep,hrep.oneC (h5 c (zqd hj))⟩
        have hspot:rs≠[]->a.spot=none/\a.block<W.heap.size:=fun hne=>by
         obtain⟨r,hr⟩:∃r,rs[0]?=some r:=by grind
         have hx:(rs.map (seeV P e))[0]?=some (seeV P e r):=by grind
         obtain⟨h1,h2⟩:=hsz 0 r hr;have hj:0<(seeV P e r).cells.length:=by grind
         obtain⟨v,hv,_⟩:=hcell 0 _ 0 _ hx (zqa hj)
         have:(a.add (0*P.cellsOf e)).add 0=a:=by simp[Addr.add]
         rw[this]at hv;exact⟨(mD hv).2,(mD hv).1⟩
        have hadd:∀(i j:Nat),rs≠[]->(a.add (i*P.cellsOf e)).add j=⟨a.block,a.off+i*P.cellsOf e+j,none⟩:=fun i j hne=>by
         obtain⟨hs,_⟩:=hspot hne;obtain⟨b0,o0,s0⟩:=a;grind[add_addr]
        have hne:∀(i:Nat) x,(rs.map (seeV P e))[i]?=some x->rs≠[]:=(by grind)
        refine one (.fsl (some a) a.block a.off len cap (rs.map (seeV P e)) false (P.cellsOf e) (fun i j=>(W.cell? ⟨a.block,a.off+i*P.cellsOf e+j,none⟩).getD undef)
         (by grind) hlc (fun e=>by cases e) (fun hne'=>?_) (by grind) (fun i x j c hi hj=>?_) (fun i x j c hi hj=>?_) (fun i x j c hi hj=>?_) (fun _ _ e=>by cases e)) rfl
        . have hrs':rs≠[]:=fun h=>hne' (by rw[h];rfl)
          obtain⟨h1,h2⟩:=hspot hrs';obtain⟨b0,o0,s0⟩:=a;grind
        . grind
        . grind
        grind
   | struct fs =>
    obtain⟨xs,n',rfl,e1,hcl,hxl,hx⟩:=DataW.trod_struct hu h1;cases e1;obtain⟨r,hr,h2⟩:=A1 h2;cases hn:Nat.beq (lenL r) (P.cellsOf t)with
    |false=>grind
    | true =>
     rw[hn]at h2;cases h2;have hn:=E5 hn;rw[A9]at hn
     have:=dS (W:=W) (cx:=cx) (P:=P) (see:=X4 P m) (tr:=fun t cs=>DataW.trod enc P W base spare held n' t cs) (by grind) fs.toList cs 0 xs acs (by grind) (by grind) hr (by omega)
     grind
   | array k e =>
    obtain⟨xs,n',rfl,e1,hcl,hxl,hx⟩:=DataW.trod_array hu h1;cases e1;obtain⟨rs,hrs,h2⟩:=A1 h2;cases hall:((rs.all fun r=>Nat.beq (lenL r) (P.cellsOf e))&&Nat.beq (Nat.mul k (P.cellsOf e)) (P.cellsOf t))with
    |false=>grind
    | true =>
     rw [hall]at h2;cases h2;rw[Bool.and_eq_true]at hall;have hmul:=E5 hall.2;obtain⟨hl,hget⟩:=Sh hrs;rw[zqc,hxl]at hl;have key:∀(i:Nat) r,rs[i]?=some r->RepL W cx ((cs.drop (i*P.cellsOf e)).take (P.cellsOf e)) r/\∀c∈r,okCell c=true:=fun i r hi=>by
      have hik:i<k:=by grind
      have h3:=hx i hik;have hix:i<xs.length:=by grind
      have hxi:xs[i]?=some xs[i]:=zqa hix;obtain⟨r',hr',hri⟩:=hget i xs[i].1 (by grind);grind
     grind[dQ,E5,A9,dR,List.getElem?_of_mem]
   |_=>cases h2
end
end Go.AM
