/- The tree machine: code as trees, memory by kept numbers, and that it says what the machine does. Conditions: none. -/
import Derived.Test.YtionlfkdpjgpjaaPmB
set_option linter.unusedVariables false
set_option linter.unusedSimpArgs false
set_option linter.unusedSectionVars false
set_option linter.defProp false
namespace Go.AM
noncomputable section
variable {E:Env} {fr:PF} {K K':PK} {v w x y c:AV} {vs es cs new:List AV} {te t:TI} {os l:List PO} {ids:List Nat}
theorem ok_int (k:IntKind) (n:Int):Cl (.int k n)=true:=rfl
theorem ok_bool (b:Bool):Cl (.bool b)=true:=rfl
theorem ok_str (b:List UInt8):Cl (.str b)=true:=rfl
theorem ok_msl (a b d e:Nat):Cl (.msl a b d e)=true:=rfl
theorem ok_nsl:Cl .nilsl=true:=rfl
theorem nr_eq (k sz:Nat):newRow k es sz K=⟨K.os ++ [.row k es sz],K.ext,K.tch⟩:=rfl
theorem bx_eq (h1:v.cells.length=t.size) (h2:v.cells.all Cl=true):kJ t v K=.val (.ptr K.os.length 0 0) ⟨K.os ++ [.row 1 [v] t.size],K.ext,K.tch⟩:=if_pos ⟨h1,h2⟩
theorem wc_agg (off:Nat):AV.withCells (.agg cs) off new=.agg (cs.take off ++ (new ++ cs.drop (off + new.length))):=by
 show AV.agg (J9 cs off new)=_
 unfold J9
 rw [G6,G5,H7,H7,A5]; rfl
theorem wc_int (k:IntKind) (n:Int):AV.withCells (.int k n) 0 [c]=c:=rfl
theorem wc_bool (b:Bool):AV.withCells (.bool b) 0 [c]=c:=rfl
theorem wc_nsl:AV.withCells .nilsl 0 [c]=c:=rfl
def AT (e:Option PO):Bool:=match e with | some (.row 0 _ _)=>false | some (.row _ _ _)=>true | _=>false
theorem ra_eq (id:Nat):rawAt os id=AT os[id]?:=by
 unfold rawAt AT
 cases os[id]? with
 | none=>rfl
 | some e=>cases e with
  | row k es sz=>cases k <;> rfl
  | _=>rfl
theorem raE_0 (sz:Nat):AT (some (.row 0 es sz))=false:=rfl
theorem raE_1 (sz:Nat):AT (some (.row 1 es sz))=true:=rfl
theorem raE_sub (p i o:Nat):AT (some (.sub p i o))=false:=rfl
def AU (os:List PO) (n p i o:Nat) (es:List AV) (v:AV) (es':List AV) (c:Option (Nat × List AV × Nat)):Option (List PO):=match c with | some (k,_,sz)=>setRow os n p (es.set i (putCl v o (ownd k sz es'))) | none=>none
def DN (os:List PO) (n p i o:Nat) (es:List AV) (es':List AV) (v:Option AV):Option (List PO):=match v with | some v=>AU os n p i o es v es' (tY v.cells[o]?) | none=>none
def DO (os:List PO) (n p i o:Nat) (es':List AV) (r:Option (Nat × List AV × Nat)):Option (List PO):=match r with | some (_,es,_)=>DN os n p i o es es' es[i]? | none=>none
def srE (os:List PO) (n id:Nat) (es':List AV) (e:Option PO):Option (List PO):=match e with | some (.row k _ sz)=>some (os.set id (.row k es' sz)) | some (.sub p i o)=>DO os n p i o es' (rowOf os n p) | _=>none
theorem sr_eq (n id:Nat) (es':List AV):setRow os (n + 1) id es'=srE os n id es' os[id]?:=by
 conv=>lhs; unfold setRow
 cases os[id]? with
 | none=>rfl
 | some e=>cases e with
  | sub p i o =>
   show (match rowOf os n p with | some (_,es,_)=>_ | none=>none)=DO os n p i o es' (rowOf os n p)
   cases rowOf os n p with
   | none=>rfl
   | some q =>
    obtain ⟨k,es,z⟩:=q
    show (match es[i]? with | some v=>_ | none=>none)=DN os n p i o es es' es[i]?
    cases es[i]? with
    | none=>rfl
    | some v =>
     show (match v.cells[o]? with | some c=>(match ownOf c with | some (k,_,sz)=>_ | none=>none) | none=>none)=AU os n p i o es v es' (tY v.cells[o]?)
     cases v.cells[o]? with
     | none=>rfl
     | some c =>
      show (match ownOf c with | some (k,_,sz)=>_ | none=>none)=AU os n p i o es v es' (ownOf c)
      cases ownOf c <;> rfl
  | _=>rfl
theorem srE_row (n id k sz:Nat) (es':List AV):srE os n id es' (some (.row k es sz))=some (os.set id (.row k es' sz)):=rfl
theorem srE_sub (n id p i o:Nat) (es':List AV):srE os n id es' (some (.sub p i o))=DO os n p i o es' (rowOf os n p):=rfl
theorem srS_some (n p i o k z:Nat) (es':List AV):DO os n p i o es' (some (k,es,z))=DN os n p i o es es' es[i]?:=rfl
theorem srC_some (n p i o:Nat) (es':List AV):DN os n p i o es es' (some v)=AU os n p i o es v es' (tY v.cells[o]?):=rfl
theorem srD_some (n p i o k sz:Nat) (es0 es':List AV):AU os n p i o es v es' (some (k,es0,sz))=setRow os n p (es.set i (putCl v o (ownd k sz es'))):=rfl
theorem pc_agg (o:Nat):putCl (.agg cs) o c=.agg (cs.set o c):=rfl
def uA (id:Nat) (K:PK) (os2:Option (List PO)):Option PK:=match os2 with | some os2=>some ⟨os2,K.ext,rootOf K.os 6 id :: K.tch⟩ | none=>none
def DQ (t:TI) (id i off:Nat) (K:PK) (es:List AV) (v:AV) (r:Option (List AV × List PO)):Option PK:=match r with | some (cs,os1)=>uA id K (setRow os1 6 id (es.set i (v.withCells off cs))) | none=>none
def DR (t:TI) (id i off:Nat) (x:AV) (K:PK) (es:List AV) (v:AV) (r:Option (List PO)):Option PK:=match r with | some os0=>DQ t id i off K es v (sealC K.ext (rootOf K.os 6 id) id i off os0 x.cells) | none=>none
def AW (t:TI) (id i off:Nat) (x:AV) (K:PK) (es:List AV) (v:AV) (b:Bool):Option PK :=
 match b with
 | true=>uA id K (setRow K.os 6 id (es.set i (v.withCells off x.cells)))
 | false=>DR t id i off x K es v (setRow (killP K.os (rootOf K.os 6 id) (chainOf K.os 6 id)) 6 id (es.set i (v.withCells off (List.replicate t.size .und))))
def DS (t:TI) (id i off:Nat) (x:AV) (K:PK) (k sz:Nat) (es:List AV) (v:AV) (b:Bool):Option PK :=
 match b with
 | true=>if x.cells.all Cl=true then some ⟨K.os.set id (.row k (es.set i (v.withCells off x.cells)) sz),K.ext,id :: K.tch⟩ else none
 | false=>AW t id i off x K es v (x.cells.all clo && ((v.cells.drop off).take t.size).all clo)
def DT (t:TI) (id i off:Nat) (x:AV) (K:PK) (k sz:Nat) (es:List AV) (v:Option AV):Option PK:=match v with
 | some v=>if x.cells.length=t.size∧0 < t.size∧off + t.size≤sz then DS t id i off x K k sz es v (rawAt K.os id) else none
 | none=>none
def LK (t:TI) (id i off:Nat) (x:AV) (K:PK) (r:Option (Nat × List AV × Nat)):Option PK:=match r with | some (k,es,sz)=>DT t id i off x K k sz es es[i]? | none=>none
theorem sp_eq (id i off:Nat):storeP t (.ptr id i off) x K=LK t id i off x K (rowOf K.os 6 id):=by
 unfold storeP
 show (match rowOf K.os 6 id with | some (k,es,sz)=>_ | none=>none)=_
 cases rowOf K.os 6 id with
 | none=>rfl
 | some q =>
  obtain ⟨k,es,sz⟩:=q
  show (match es[i]? with | some v=>_ | none=>none)=DT t id i off x K k sz es es[i]?
  cases es[i]? with
  | none=>rfl
  | some v =>
   show (if _ then _ else none)=(if _ then _ else none)
   split
   . cases rawAt K.os id with
     | true=>rfl
     | false =>
      show (if (x.cells.all clo && ((v.cells.drop off).take t.size).all clo)=true then _ else _)=AW t id i off x K es v (x.cells.all clo && ((v.cells.drop off).take t.size).all clo)
      cases (x.cells.all clo && ((v.cells.drop off).take t.size).all clo) with
      | true =>
       show (match setRow K.os 6 id _ with | some os2=>_ | none=>none)=uA id K (setRow K.os 6 id _)
       cases setRow K.os 6 id (es.set i (v.withCells off x.cells)) <;> rfl
      | false =>
       show (match setRow (killP K.os (rootOf K.os 6 id) (chainOf K.os 6 id)) 6 id _ with | some os0=>_ | none=>none)=DR t id i off x K es v (setRow (killP K.os (rootOf K.os 6 id) (chainOf K.os 6 id)) 6 id _)
       cases setRow (killP K.os (rootOf K.os 6 id) (chainOf K.os 6 id)) 6 id (es.set i (v.withCells off (List.replicate t.size .und))) with
       | none=>rfl
       | some os0 =>
        show (match sealC K.ext (rootOf K.os 6 id) id i off os0 x.cells with | some (cs,os1)=>_ | none=>none)=DQ t id i off K es v (sealC K.ext (rootOf K.os 6 id) id i off os0 x.cells)
        cases sealC K.ext (rootOf K.os 6 id) id i off os0 x.cells with
        | none=>rfl
        | some q =>
         obtain ⟨cs,os1⟩:=q
         show (match setRow os1 6 id _ with | some os2=>_ | none=>none)=uA id K (setRow os1 6 id _)
         cases setRow os1 6 id (es.set i (v.withCells off cs)) <;> rfl
   . rfl
theorem spR_some (id i off k sz:Nat):LK t id i off x K (some (k,es,sz))=DT t id i off x K k sz es es[i]?:=rfl
theorem spE_some {id i off k sz:Nat} (h1:x.cells.length=t.size) (h2:0 < t.size) (h3:off + t.size≤sz):DT t id i off x K k sz es (some v)=DS t id i off x K k sz es v (rawAt K.os id):=if_pos ⟨h1,h2,h3⟩
theorem spB_true {id i off k sz:Nat} (h:x.cells.all Cl=true):DS t id i off x K k sz es v true=some ⟨K.os.set id (.row k (es.set i (v.withCells off x.cells)) sz),K.ext,id :: K.tch⟩:=if_pos h
theorem spB_false (id i off k sz:Nat):DS t id i off x K k sz es v false=AW t id i off x K es v (x.cells.all clo && ((v.cells.drop off).take t.size).all clo):=rfl
theorem spC_true (id i off:Nat):AW t id i off x K es v true=uA id K (setRow K.os 6 id (es.set i (v.withCells off x.cells))):=rfl
theorem spC_false (id i off:Nat):AW t id i off x K es v false=DR t id i off x K es v (setRow (killP K.os (rootOf K.os 6 id) (chainOf K.os 6 id)) 6 id (es.set i (v.withCells off (List.replicate t.size .und)))):=rfl
theorem spO_some (id i off:Nat):DR t id i off x K es v (some os)=DQ t id i off K es v (sealC K.ext (rootOf K.os 6 id) id i off os x.cells):=rfl
theorem spQ_some (id i off:Nat):DQ t id i off K es v (some (cs,os))=uA id K (setRow os 6 id (es.set i (v.withCells off cs))):=rfl
theorem spS_some (id:Nat):uA id K (some os)=some ⟨os,K.ext,rootOf K.os 6 id :: K.tch⟩:=rfl
theorem rl_1:List.replicate 1 v=[v]:=rfl
def DU (c:AV) (r:Option (List AV × List PO)):Option (List AV × List PO):=match r with | some p=>some (c :: p.1,p.2) | none=>none
def LL (ext r id i o:Nat) (os:List PO) (l:List AV) (q m sz:Nat) (e:Option PO):Option (List AV × List PO):=match e with
 | some (.row 0 es z)=>if m=es.length∧sz=z∧ext≤q∧q ≠ r then DU (ownd 0 sz es) (sealC ext r id i (o + 1) (os.set q (.sub id i o)) l) else none
 | _=>none
theorem sc_nil (ext r id i o:Nat):sealC ext r id i o os []=some ([],os):=rfl
theorem sc_clo {ext r id i o:Nat} (h:clo c=true):sealC ext r id i o os (c :: cs)=DU c (sealC ext r id i (o + 1) os cs):=by
 conv=>lhs; unfold sealC
 rw [h]
 show Option.map _ (sealC ext r id i (o + 1) os cs)=_
 cases sealC ext r id i (o + 1) os cs <;> rfl
theorem sc_msl (ext r id i o q m sz:Nat):sealC ext r id i o os (.msl q 0 m sz :: cs)=LL ext r id i o os cs q m sz os[q]?:=by
 conv=>lhs; unfold sealC
 show (match os[q]? with | some (.row 0 es z)=>_ | _=>none)=_
 cases os[q]? with
 | none=>rfl
 | some e=>cases e with
  | row k es z =>
   cases k with
   | zero =>
    show (if _ then Option.map _ _ else none)=(if _ then _ else none)
    split
    . cases sealC ext r id i (o + 1) (os.set q (.sub id i o)) cs <;> rfl
    . rfl
   | succ=>rfl
  | _=>rfl
theorem scM_row {ext r id i o q m sz z:Nat} (h1:m=es.length) (h2:sz=z) (h3:ext≤q) (h4:q ≠ r):LL ext r id i o os cs q m sz (some (.row 0 es z))=DU (ownd 0 sz es) (sealC ext r id i (o + 1) (os.set q (.sub id i o)) cs):=if_pos ⟨h1,h2,h3,h4⟩
theorem scK_some (l:List AV):DU c (some (l,os))=some (c :: l,os):=rfl
def AX (v:AV) (r:Option (List AV × PK)):Option (List AV × PK):=match r with | some (vs,K)=>some (v :: vs,K) | none=>none
def DV (E:Env) (l:List ResultVar) (fr:PF) (o:OpS):Option (List AV × PK):=match o with | .val v K=>AX v (resP E l fr K) | _=>none
def HS (r:Option (List AV × PK)):Option PR:=match r with | some (vs,K)=>some (.val vs K) | none=>none
theorem rsT_some:AX v (some (vs,K))=some (v :: vs,K):=rfl
theorem rsC_val (l:List ResultVar):DV E l fr (.val v K)=AX v (resP E l fr K):=rfl
theorem rsO_some:HS (some (vs,K))=some (.val vs K):=rfl
theorem rs_0:resP E [] fr K=some ([],K):=rfl
theorem rs_tmp (t:Nat) (l:List ResultVar):resP E (.tmp t :: l) fr K=AX (lookP fr t) (resP E l fr K):=by
 show (match resP E l fr K with | some (vs,K)=>some (lookP fr t :: vs,K) | none=>none)=_
 cases resP E l fr K <;> rfl
theorem rs_cell (a t:Nat) (l:List ResultVar):resP E (.cell a t :: l) fr K=DV E l fr (V1 E t fun ti=>Gd (loadP ti (lookP fr a) K)):=by
 show (match E.ti t with | some ti=>_ | none=>none)=DV E l fr (match E.ti t with | some ti=>_ | none=>OpS.bad)
 cases E.ti t with
 | none=>rfl
 | some ti =>
  show (match loadP ti (lookP fr a) K with | some (v,K)=>_ | none=>none)=DV E l fr (Gd (loadP ti (lookP fr a) K))
  cases loadP ti (lookP fr a) K with
  | none=>rfl
  | some q =>
   obtain ⟨v,K1⟩:=q
   show (match resP E l fr K1 with | some (vs,K)=>some (v :: vs,K) | none=>none)=AX v (resP E l fr K1)
   cases resP E l fr K1 <;> rfl
theorem bodyP_ret (rs:List ResultVar):lE E rs (some (.ok .ret fr K))=HS (resP E rs fr K):=by
 show (match resP E rs fr K with | some (vs,K)=>_ | none=>none)=_
 cases resP E rs fr K <;> rfl
theorem bodyP_norm (rs:List ResultVar):lE E rs (some (.ok .normal fr K))=HS (resP E rs fr K):=by
 show (match resP E rs fr K with | some (vs,K)=>_ | none=>none)=_
 cases resP E rs fr K <;> rfl
theorem Z9 {P:PE} {c:PC} (S:Nat->PF × PK) (n:Nat) (h:∀ i,i < n->evP P (.code c (S i).1 (S i).2)=some (.ok .normal (S (i + 1)).1 (S (i + 1)).2)):evP P (.code (.loop c) (S 0).1 (S 0).2)=evP P (.code (.loop c) (S n).1 (S n).2):=by
 induction n with
 | zero=>rfl
 | succ n ih=>rw [ih fun i hi=>h i (Nat.lt_succ_of_lt hi),E6 (h n (Nat.lt_succ_self n))]
def b9 {X:Type} (a r:X->List AV) (ok:X->Prop):List AV->Option (List AV):=fun args=>open Classical in if h:∃ x,ok x∧a x=args then some (r (Classical.choose h)) else none
theorem C3 {X:Type} {a r:X->List AV} {ok:X->Prop} (hi:∀ x y,a x=a y->r x=r y) (x:X) (h:ok x):b9 a r ok (a x)=some (r x):=by
 have hx:∃ y,ok y∧a y=a x:=⟨x,h,rfl⟩
 unfold b9
 rw [dif_pos hx]
 exact congrArg some (hi _ _ (Classical.choose_spec hx).2)
theorem Kx {X:Type} {a r:X->List AV} {ok:X->Prop} {args rs:List AV} (h:b9 a r ok args=some rs):∃ x,ok x∧a x=args∧r x=rs:=by
 unfold b9 at h
 split at h
 . rename_i hx
   have:=Classical.choose_spec hx
   exact ⟨_,this.1,this.2,Option.some.inj h⟩
 . cases h
theorem C8 {P:PE} (hP:PEok P) {f:Nat} {X:Type} {a r:X->List AV} {ok:X->Prop} (H:∀ x,ok x->Comes P f (a x) (r x)):TC P.E f (b9 a r ok) :=
 AQ hP fun args rs hg=>by obtain ⟨x,h1,rfl,rfl⟩:=Kx hg; exact H x h1
theorem U4 {X:Type} {f g:X->AV} (h:∀ x,frzC (f x)=some (g x)):∀ l:List X,frzL (l.map f)=some (l.map g)
 | []=>rfl
 | x :: l=>by
  show D2 (frzC (f x)) (frzL (l.map f))=_
  rw [h,U4 h l]; rfl
theorem ok_fslN:Cl (fslN es)=true:=rfl
theorem cl_fslN:clo (fslN es)=true:=rfl
theorem ce_fslN:AV.cells (fslN es)=[fslN es]:=rfl
theorem rf_fslN:M8 (fslN es)=[]:=rfl
theorem rv_fslN {σ:Nat->Option Nat}:G2 σ (fslN es)=fslN es:=rfl
theorem fz_fslN:frzC (fslN es)=Uq (frzL es):=rfl
theorem vv_fslN:viewA os (fslN es)=Uq (frzL es):=rfl
theorem wv_fslN:z7 os (fslN es)=Uq (frzL es):=rfl
theorem ln_fslN:Gd (oT (fslN es) K)=.val (.int .i64 (es.length:Int)) K:=ln_fsl _ _
theorem ix_fslN {k:IntKind} {i:Nat} (h:es[i]?=some v) (hs:v.cells.length=te.size):Yb te (fslN es) (.int k (i:Int))=some (.fptr v 0):=ix_fsl h hs
theorem lv_fslN:L8 (fslN es) cs=cs.headD .und:=rfl
theorem te_fslN {ext:Nat} {tc:List Nat} (h:G7 te.size es=true):takeE te (fslN es) ext tc os=some (es,os):=if_pos h
theorem pf_f (o d:Nat):B4 (.fptr v o) d=some (.fptr v (o + d)):=B6 (Nat.add o d) (fun q=>some (AV.fptr v q))
theorem pf_p (id i o d:Nat):B4 (.ptr id i o) d=some (.ptr id i (o + d)):=B6 (Nat.add o d) (fun q=>some (AV.ptr id i q))
theorem ldW_eq (id i off:Nat):DH id i off K (some w)=.val (L8 w (openC id i off K.os.length w.cells).1) ⟨K.os ++ (openC id i off K.os.length w.cells).2,K.ext,K.tch⟩:=rfl
theorem oc_nil (id i m nx:Nat):openC id i m nx []=([],[]):=rfl
theorem oc_own (id i m nx sz:Nat):openC id i m nx (ownd 0 sz es :: cs)=(.msl nx 0 es.length sz :: (openC id i (m + 1) (nx + 1) cs).1,.sub id i m :: (openC id i (m + 1) (nx + 1) cs).2):=rfl
theorem oc_int (id i m nx:Nat) (k:IntKind) (n:Int):openC id i m nx (.int k n :: cs)=(.int k n :: (openC id i (m + 1) nx cs).1,(openC id i (m + 1) nx cs).2):=rfl
theorem oc_bool (id i m nx:Nat) (b:Bool):openC id i m nx (.bool b :: cs)=(.bool b :: (openC id i (m + 1) nx cs).1,(openC id i (m + 1) nx cs).2):=rfl
theorem oc_str (id i m nx:Nat) (b:List UInt8):openC id i m nx (.str b :: cs)=(.str b :: (openC id i (m + 1) nx cs).1,(openC id i (m + 1) nx cs).2):=rfl
theorem oc_fslN (id i m nx:Nat) :openC id i m nx (fslN es :: cs)=(fslN es :: (openC id i (m + 1) nx cs).1,(openC id i (m + 1) nx cs).2):=rfl
theorem oc_msl (id i m nx:Nat) (a b d e:Nat):openC id i m nx (.msl a b d e :: cs)=(.msl a b d e :: (openC id i (m + 1) nx cs).1,(openC id i (m + 1) nx cs).2):=rfl
theorem oc_nsl (id i m nx:Nat) :openC id i m nx (.nilsl :: cs)=(.nilsl :: (openC id i (m + 1) nx cs).1,(openC id i (m + 1) nx cs).2):=rfl
def LM (te:TI) (n:Nat) (ps:List (Nat × AV)) (K:PK) (r:Option PK):Option (AV × PK):=match r with
 | some K1=>some (.msl K.os.length 0 n te.size,K1)
 | none=>match placeR te.size ps (List.replicate n te.zero) with
  | some es=>some (.msl K.os.length 0 n te.size,newRow 2 es te.size K)
  | none=>none
theorem bs_eq {n:Nat} {ps:List (Nat × AV)} (h1:n * te.size≤65536) (h2:0 < te.size):s4 te n ps K=LM te n ps K (placeP te K.os.length ps (newRow 0 (List.replicate n te.zero) te.size K)):=by
 unfold s4
 rw [if_pos ⟨h1,h2⟩]
 rfl
theorem bsE_some (n:Nat) (ps:List (Nat × AV)):LM te n ps K (some K')=some (.msl K.os.length 0 n te.size,K'):=rfl
def LN (te:TI) (id:Nat) (l:List (Nat × AV)) (r:Option PK):Option PK:=match r with | some K=>placeP te id l K | none=>none
theorem pl_nil (id:Nat):placeP te id [] K=some K:=rfl
theorem pl_cons {id i:Nat} {l:List (Nat × AV)} (h:Oe v=Oe te.zero):placeP te id ((i,v) :: l) K=LN te id l (storeP te (.ptr id i 0) v K):=by
 conv=>lhs; unfold placeP
 rw [if_pos h]
 cases storeP te (.ptr id i 0) v K <;> rfl
theorem plE_some (id:Nat) (l:List (Nat × AV)):LN te id l (some K)=placeP te id l K:=rfl
theorem rl_0:List.replicate 0 v=[]:=rfl
theorem rl_2:List.replicate 2 v=[v,v]:=rfl
theorem rl_5:List.replicate 5 v=[v,v,v,v,v]:=rfl
theorem rl_7:List.replicate 7 v=[v,v,v,v,v,v,v]:=rfl
theorem rl_8:List.replicate 8 v=[v,v,v,v,v,v,v,v]:=rfl
def AY (y:AV) (os:List PO) (sz:Nat) (es:List AV):Prop:=(es=[]∧y=.nilsl∧os=[])∨(y=.msl 0 0 es.length sz∧os=[.row 0 es sz])
theorem D9 {y:AV} {os:List PO} {sz:Nat} {es:List AV} (h:AY y os sz es):backOk [y] [ownd 0 sz es] os:=by
 rcases h with ⟨rfl,rfl,rfl⟩ | ⟨rfl,rfl⟩
 . exact B7 (vs':=[.msl 0 0 0 sz]) (os':=[.row 0 [] sz]) rfl (by show [0].Nodup; decide) (us:=[.msl 0 0 0 sz]) (ps:=[.row 0 [] sz]) rfl rfl rfl
 . exact B7 (vs':=[.msl 0 0 es.length sz]) (os':=[.row 0 es sz]) rfl (by show [0].Nodup; decide) (us:=[.msl 0 0 es.length sz]) (ps:=[.row 0 es sz]) rfl rfl rfl
theorem same_loop {P:PE} {c:PC} {X:Type} [DecidableEq X] {A B:AV} {l m:List X} (hm:l.length=m.length)
 (h1:∀ i (h:i < l.length) (h':i < m.length),l[i]=m[i]->evP P (.code c [(0,A),(1,B),(5,.int .i64 i)] ⟨[],0,[]⟩)=some (.ok .normal [(0,A),(1,B),(5,.int .i64 ((i + 1:Nat):Int))] ⟨[],0,[]⟩))
 (h2:∀ i (h:i < l.length) (h':i < m.length),¬ l[i]=m[i]->∃ fr',evP P (.code c [(0,A),(1,B),(5,.int .i64 i)] ⟨[],0,[]⟩)=some (.ok .ret fr' ⟨[],0,[]⟩)∧lookP fr' 4=.bool false)
 (hx:∃ fr',evP P (.code c [(0,A),(1,B),(5,.int .i64 l.length)] ⟨[],0,[]⟩)=some (.ok (.exit 0) fr' ⟨[],0,[]⟩)) :
 (l=m∧∃ fr',evP P (.code (.loop c) [(0,A),(1,B),(5,.int .i64 0)] ⟨[],0,[]⟩)=some (.ok (.exit 0) fr' ⟨[],0,[]⟩)) ∨
 (l ≠ m∧∃ fr',evP P (.code (.loop c) [(0,A),(1,B),(5,.int .i64 0)] ⟨[],0,[]⟩)=some (.ok .ret fr' ⟨[],0,[]⟩)∧lookP fr' 4=.bool false):=by
 have key:∀ (n i:Nat),l.length=i + n->(l.drop i=m.drop i∧∃ fr',evP P (.code (.loop c) [(0,A),(1,B),(5,.int .i64 i)] ⟨[],0,[]⟩)=some (.ok (.exit 0) fr' ⟨[],0,[]⟩)) ∨
  (l.drop i ≠ m.drop i∧∃ fr',evP P (.code (.loop c) [(0,A),(1,B),(5,.int .i64 i)] ⟨[],0,[]⟩)=some (.ok .ret fr' ⟨[],0,[]⟩)∧lookP fr' 4=.bool false):=fun n=>by
  induction n with
  | zero =>
   intro i e
   obtain rfl:i=l.length:=by omega
   obtain ⟨fr',h⟩:=hx
   exact .inl ⟨by rw [List.drop_length,hm,List.drop_length],fr',D3 h⟩
  | succ n ih =>
   intro i e
   have hl:i < l.length:=by omega
   have hl':i < m.length:=by omega
   rw [List.drop_eq_getElem_cons hl,List.drop_eq_getElem_cons hl']
   by_cases he:l[i]=m[i]
   . rw [E6 (h1 i hl hl' he)]
     rcases ih (i + 1) (by omega) with ⟨q1,q2⟩ | ⟨q1,q2⟩
     . exact .inl ⟨by rw [he,q1],q2⟩
     . exact .inr ⟨fun h=>q1 (List.cons.inj h).2,q2⟩
   . obtain ⟨fr',q1,q2⟩:=h2 i hl hl' he
     exact .inr ⟨fun h=>he (List.cons.inj h).1,fr',Z8 q1,q2⟩
 exact key l.length 0 (by omega)
theorem B5 {p:Prop} [Decidable p] (h:¬ p):decide p=false:=by simp [h]
theorem A6 {p:Prop} [Decidable p] (h:p):decide p=true:=by simp [h]
theorem tk_all {n:Nat} {l:List XOp} (h:(K.tch.all fun i=>decide (n≤i))=true):Gh n l K=true:=by unfold Gh; rw [h]; rfl
def lI (off sz:Nat) (v:AV) (cs:List AV):Option (List AV):=if v.cells.length=sz∧off + sz≤cs.length∧v.cells.all Cl=true then some (cs.take off ++ (v.cells ++ cs.drop (off + v.cells.length))) else none
theorem fp_ok {off sz:Nat} (h1:v.cells.length=sz) (h2:off + sz≤cs.length) (h3:v.cells.all Cl=true):lI off sz v cs=some (cs.take off ++ (v.cells ++ cs.drop (off + v.cells.length))):=if_pos ⟨h1,h2,h3⟩
theorem lJ:∀ l:List AV,C6 l=l.all Cl
 | []=>rfl
 | c :: l=>by
  show (bif okCell c then C6 l else false)=(Cl c && l.all Cl)
  rw [lJ l]
  cases c <;> rfl
def DW (place:Nat->Option (Nat × Nat)) (ps:List (Nat × AV)) (r:Option (List AV)):Option (List AV):=match r with | some cs=>N9 place ps cs | none=>none
theorem fbK_some (place:Nat->Option (Nat × Nat)) (ps:List (Nat × AV)):DW place ps (some cs)=N9 place ps cs:=rfl
theorem fb_nil (place:Nat->Option (Nat × Nat)):N9 place [] cs=some cs:=rfl
def LO (place:Nat->Option (Nat × Nat)) (v:AV) (ps:List (Nat × AV)) (cs:List AV) (q:Option (Nat × Nat)):Option (List AV):=match q with | some q=>DW place ps (lI q.1 q.2 v cs) | none=>none
theorem fbP_some (place:Nat->Option (Nat × Nat)) (ps:List (Nat × AV)) (a b:Nat):LO place v ps cs (some (a,b))=DW place ps (lI a b v cs):=rfl
theorem fb_cons (place:Nat->Option (Nat × Nat)) (i:Nat) (ps:List (Nat × AV)):N9 place ((i,v) :: ps) cs=LO place v ps cs (place i):=by
 show A4 (place i) (fun q=>A9 (Nat.beq (lenL v.cells) q.2 && Nat.ble (Nat.add q.1 q.2) (lenL cs) && C6 v.cells) (N9 place ps (J9 cs q.1 v.cells)))=_
 cases place i with
 | none=>rfl
 | some q =>
  show A9 _ _=DW place ps (if _ then _ else none)
  rw [A5,A5,lJ]
  by_cases h1:v.cells.length=q.2
  . by_cases h2:q.1 + q.2≤cs.length
    . cases h3:v.cells.all Cl with
      | false=>rw [if_neg (fun h=>absurd h.2.2 (by decide)),Bool.and_false]; rfl
      | true =>
       rw [if_pos ⟨h1,h2,rfl⟩]
       have e1:Nat.beq v.cells.length q.2=true:=by rw [h1]; exact Nat.beq_refl _
       have e2:Nat.ble (Nat.add q.1 q.2) cs.length=true:=Nat.ble_eq_true_of_le h2
       rw [e1,e2]
       show N9 place ps (J9 cs q.1 v.cells)=N9 place ps _
       unfold J9
       rw [G6,G5,H7,H7,A5]; rfl
    . have e2:Nat.ble (Nat.add q.1 q.2) cs.length=false:=by
       cases hb:Nat.ble (Nat.add q.1 q.2) cs.length with
       | false=>rfl
       | true=>exact absurd (Nat.le_of_ble_eq_true hb) h2
      rw [if_neg (fun h=>h2 h.2.1),e2,Bool.and_false]; rfl
  . have e1:Nat.beq v.cells.length q.2=false:=by
     cases hb:Nat.beq v.cells.length q.2 with
     | false=>rfl
     | true=>exact absurd (Nat.eq_of_beq_eq_true hb) h1
    rw [if_neg (fun h=>h1 h.1),e1]; rfl
def uN (l:Option (List AV)):Option AV:=l.map .agg
theorem agM_some:uN (some cs)=some (.agg cs):=rfl
def AZ (K:PK) (r:Option PR):Option PR:=match r with
 | some (.val vs K1)=>some (.val vs ⟨K1.os,K.ext,K1.tch ++ K.tch⟩)
 | some (.pan v K1)=>some (.pan v ⟨K1.os,K.ext,K1.tch ++ K.tch⟩)
 | _=>none
theorem inpK_val (vs:List AV):AZ K (some (.val vs K'))=some (.val vs ⟨K'.os,K.ext,K'.tch ++ K.tch⟩):=rfl
theorem dK {T:Nat->Option (List AV->Option (List AV))} {F:Nat->Option PFn} {f:Nat} {args:List AV} (ht:T f=none) (hp:inpOf (F f)=true):evP ⟨E,T,F⟩ (.call f args K)=AZ K (evP ⟨E,T,F⟩ (.body f args ⟨K.os,K.os.length,[]⟩)):=by
 rw [evP]
 show (match T f with | some g=>_ | none=>_)=_
 rw [ht]
 dsimp only
 show (match inpOf (F f) with | true=>_ | false=>_)=_
 rw [hp]
 dsimp only
 cases evP ⟨E,T,F⟩ (.body f args ⟨K.os,K.os.length,[]⟩) with
 | none=>rfl
 | some r=>cases r <;> rfl
def LP (off n:Nat) (r:Option (Nat × List AV × Nat)):Bool:=match r with | some (_,es,_)=>off == 0 && n == es.length | none=>false
theorem wp_eq (id off n sz:Nat):wholeP (.msl id off n sz) os=LP off n (rowOf os 6 id):=by
 show (match rowOf os 6 id with | some (_,es,_)=>_ | none=>false)=_
 cases rowOf os 6 id <;> rfl
theorem wpE_some {n k z:Nat} (h:n=es.length):LP 0 n (some (k,es,z))=true:=by
 show ((0:Nat) == 0 && n == es.length)=true
 rw [h]; simp
theorem ap2_nil {s:AV} {base:List AV} {os2:List PO} {tc:List Nat} (h0:wholeP s K.os=true) (hz:base.length * te.bytes≤140737488355328) :
 tX te s K base tc (some ([],os2))=some (.msl os2.length 0 base.length te.size,⟨os2 ++ [.row 0 base te.size],K.ext,os2.length :: tc ++ K.tch⟩):=by
 unfold tX
 simp only [h0]
 rw [if_pos (by rfl)]
 unfold joinP
 rw [if_pos (by simpa using hz)]
 simp
theorem same_loopS {P:PE} {c:PC} {X:Type} [DecidableEq X] {r:Nat} {S:Nat->PF} {l m:List X} (hm:l.length=m.length)
 (h1:∀ i (h:i < l.length) (h':i < m.length),l[i]=m[i]->evP P (.code c (S i) ⟨[],0,[]⟩)=some (.ok .normal (S (i + 1)) ⟨[],0,[]⟩))
 (h2:∀ i (h:i < l.length) (h':i < m.length),¬ l[i]=m[i]->∃ fr',evP P (.code c (S i) ⟨[],0,[]⟩)=some (.ok .ret fr' ⟨[],0,[]⟩)∧lookP fr' r=.bool false)
 (hx:∃ fr',evP P (.code c (S l.length) ⟨[],0,[]⟩)=some (.ok (.exit 0) fr' ⟨[],0,[]⟩)) :
 (l=m∧∃ fr',evP P (.code (.loop c) (S 0) ⟨[],0,[]⟩)=some (.ok (.exit 0) fr' ⟨[],0,[]⟩)) ∨
 (l ≠ m∧∃ fr',evP P (.code (.loop c) (S 0) ⟨[],0,[]⟩)=some (.ok .ret fr' ⟨[],0,[]⟩)∧lookP fr' r=.bool false):=by
 have key:∀ (n i:Nat),l.length=i + n->(l.drop i=m.drop i∧∃ fr',evP P (.code (.loop c) (S i) ⟨[],0,[]⟩)=some (.ok (.exit 0) fr' ⟨[],0,[]⟩)) ∨
  (l.drop i ≠ m.drop i∧∃ fr',evP P (.code (.loop c) (S i) ⟨[],0,[]⟩)=some (.ok .ret fr' ⟨[],0,[]⟩)∧lookP fr' r=.bool false):=fun n=>by
  induction n with
  | zero =>
   intro i e
   obtain rfl:i=l.length:=by omega
   obtain ⟨fr',h⟩:=hx
   exact .inl ⟨by rw [List.drop_length,hm,List.drop_length],fr',D3 h⟩
  | succ n ih =>
   intro i e
   have hl:i < l.length:=by omega
   have hl':i < m.length:=by omega
   rw [List.drop_eq_getElem_cons hl,List.drop_eq_getElem_cons hl']
   by_cases he:l[i]=m[i]
   . rw [E6 (h1 i hl hl' he)]
     rcases ih (i + 1) (by omega) with ⟨q1,q2⟩ | ⟨q1,q2⟩
     . exact .inl ⟨by rw [he,q1],q2⟩
     . exact .inr ⟨fun h=>q1 (List.cons.inj h).2,q2⟩
   . obtain ⟨fr',q1,q2⟩:=h2 i hl hl' he
     exact .inr ⟨fun h=>he (List.cons.inj h).1,fr',Z8 q1,q2⟩
 exact key l.length 0 (by omega)
theorem Pf (os:List PO):∀ (l:List PO) (n:Nat),killU os [] n l=l
 | [],n=>rfl
 | e :: l,n=>by
  unfold killU
  rw [Pf os l (n + 1)]
  cases e with
  | sub p i o =>
   have:(([]:List Nat).contains n || (chainOf os 6 p).any (fun q=>([]:List Nat).contains q))=false:=by simp
   simp only [this]
   rfl
  | _=>rfl
theorem Ur {T:Nat->Option (List AV->Option (List AV))} {F:Nat->Option PFn} {f:Nat} {args vs:List AV} {tch:List Nat} (ht:T f=none) (hp:inpOf (F f)=false) (hr:refsL args=[]) (hn:renL (posOf []) args=args)
 (hb:evP ⟨E,T,F⟩ (.body f args ⟨[],0,[]⟩)=some (.val vs ⟨[],0,tch⟩)) (hv:renL (backN [] K.os.length) vs=vs):evP ⟨E,T,F⟩ (.call f args K)=some (.val vs K):=by
 rw [evP]
 show (match T f with | some g=>_ | none=>_)=_
 rw [ht]
 dsimp only
 show (match inpOf (F f) with | true=>_ | false=>_)=_
 rw [hp]
 dsimp only
 have h1:focusIds args K=[]:=by unfold focusIds; rw [hr]; rfl
 rw [h1,hn]
 have h2:focusK [] K=⟨[],0,[]⟩:=rfl
 rw [h2,hb]
 show (match mergeK [] K ⟨[],0,tch⟩ with | some K'=>some (PR.val (renL (backN [] K.os.length) vs) K') | none=>none)=_
 have h3:mergeK [] K ⟨[],0,tch⟩=some K:=by
  unfold mergeK putBack
  rw [if_pos (by rfl),Pf]
  have:(tch.filter fun x=>decide (x < ([]:List Nat).length))=[]:=by
   rw [List.filter_eq_nil_iff]; intro a _; simp
  simp only [this]
  simp
 rw [h3,hv]
end
end Go.AM
namespace Go.AM
noncomputable section
variable {E:Env} {fr:PF} {K K' K1 Kf:PK} {v w x y c:AV} {vs es cs new:List AV} {te t:TI} {os l:List PO} {ids:List Nat}
theorem ro5 (os:List PO) (id:Nat):rowOf os 5 id=uL os 4 os[id]?:=lF os 4 id
theorem ro4 (os:List PO) (id:Nat):rowOf os 4 id=uL os 3 os[id]?:=lF os 3 id
theorem fl_none (l:List Nat):l.filter (fun _=>false)=[]:=by simp
theorem dL {T:Nat->Option (List AV->Option (List AV))} {F:Nat->Option PFn} {f:Nat} {args args' vs vs':List AV} (ht:T f=none) (hp:inpOf (F f)=false) (hi:focusIds args K=ids) (ha:renL (posOf ids) args=args') (hk:focusK ids K=Kf)
 (hb:evP ⟨E,T,F⟩ (.body f args' Kf)=some (.val vs K1)) (hm:mergeK ids K K1=some K') (hv:renL (backN ids K.os.length) vs=vs'):evP ⟨E,T,F⟩ (.call f args K)=some (.val vs' K'):=by
 rw [evP]
 show (match T f with | some g=>_ | none=>_)=_
 rw [ht]
 dsimp only
 show (match inpOf (F f) with | true=>_ | false=>_)=_
 rw [hp]
 dsimp only
 rw [hi,ha,hk,hb]
 show (match mergeK ids K K1 with | some K'=>some (PR.val (renL (backN ids K.os.length) vs) K') | none=>none)=_
 rw [hm,hv]
end
end Go.AM
namespace Go.AM
open Go.ChangeShapes Go.WideShapes Go.ChangeAt
section
variable {H:Type} {enc:TypeId × Value->H} {P:Program} {W:World} {base:Nat} {spare:Nat->Bool} {held:Bool}
def uB (P:Program):Nat->List Field->Prop
 | _,[]=>True
 | o,f :: fs=>f.offset=o∧uB P (o + P.cellsOf f.type) fs
theorem dM {see:TypeId->DataW H->Option (List AV)}:∀ (fs:List Field) (ds:List (DataW H)) (ss:List (List AV)) (o:Nat),ds.length=fs.length->ss.length=fs.length ->
 (∀ (i:Nat) f d s,fs[i]?=some f->ds[i]?=some d->ss[i]?=some s->see f.type d=some s∧s.length=P.cellsOf f.type)->uB P o fs->Ut P see o fs ds=some ss.flatten
 | [],ds,ss,o,h1,h2,h3,h4=>by
  have:ds=[]:=List.eq_nil_of_length_eq_zero h1
  have:ss=[]:=List.eq_nil_of_length_eq_zero h2
  subst_vars; rfl
 | f :: fs,ds,ss,o,h1,h2,h3,h4=>by
  cases ds with
  | nil=>cases h1
  | cons d ds =>
   cases ss with
   | nil=>cases h2
   | cons s ss =>
    obtain ⟨k1,k2⟩:=h3 0 f d s rfl rfl rfl
    have ih:=dM fs ds ss (o + P.cellsOf f.type) (by simpa using h1) (by simpa using h2) (fun i f d s a b c=>h3 (i + 1) f d s (by simpa using a) (by simpa using b) (by simpa using c)) h4.2
    show (bif Nat.beq f.offset o then A4 (see f.type d) fun a=>bif Nat.beq (lenL a) (P.cellsOf f.type) then A4 (Ut P see (Nat.add o (P.cellsOf f.type)) fs ds) fun r=>some (appL a r) else none else none)=_
    rw [h4.1,Nat.beq_refl,k1]
    show (bif Nat.beq (lenL s) (P.cellsOf f.type) then A4 (Ut P see (o + P.cellsOf f.type) fs ds) fun r=>some (appL s r) else none)=_
    rw [A5,k2,Nat.beq_refl,ih]
    show some (appL s ss.flatten)=_
    rw [H7]; rfl
theorem V8:∀ (ts:List TypeId) (ds:List (DataW H)) (i:Nat) t d w,ts[i]?=some t->ds[i]?=some d->w∈d.weights P t->w∈DataW.weightsEach P ts ds
 | [],ds,i,t,d,w,h1,_,_=>by simp at h1
 | t0 :: ts,[],i,t,d,w,_,h2,_=>by simp at h2
 | t0 :: ts,d0 :: ds,0,t,d,w,h1,h2,h3=>by
  cases h1; cases h2
  unfold DataW.weightsEach
  exact List.mem_append_left _ h3
 | t0 :: ts,d0 :: ds,i + 1,t,d,w,h1,h2,h3=>by
  unfold DataW.weightsEach
  exact List.mem_append_right _ (V8 ts ds i t d w (by simpa using h1) (by simpa using h2) h3)
theorem Bz:∀ (ds:List (DataW H)) (e:TypeId) (i:Nat) d w,ds[i]?=some d->w∈d.weights P e->w∈DataW.weightsAll P e ds
 | [],e,i,d,w,h,_=>by simp at h
 | d0 :: ds,e,0,d,w,h,hw=>by
  cases h
  unfold DataW.weightsAll
  exact List.mem_append_left _ hw
 | d0 :: ds,e,i + 1,d,w,h,hw=>by
  unfold DataW.weightsAll
  exact List.mem_append_right _ (Bz ds e i d w (by simpa using h) hw)
def Wt (P:Program) (t:TypeId) (d:DataW H):Prop:=∀ w∈d.weights P t,w≤reachBytes
theorem Yc {t:TypeId} {fs:Array Field} (ht:P.underlying t=some (.struct fs)) {n:Nat} {cs:List Value} {d:DataW H} {ps:List MemPlace} (h:DataW.trod enc P W base spare held n t cs=some (d,ps)) (hw:Wt P t d) :
 ∃ ds,d=.agg ds∧ds.length=fs.toList.length∧∀ (i:Nat) f,fs.toList[i]?=some f->∃ di n' csi psi,ds[i]?=some di∧DataW.trod enc P W base spare held n' f.type csi=some (di,psi)∧Wt P f.type di:=by
 obtain ⟨xs,n',rfl,e,hcl,hxl,hx⟩:=DataW.trod_struct ht h
 cases e
 refine ⟨xs.map (·.1),rfl,by simpa using hxl,fun i f hf=>?_⟩
 have hf':fs[i]?=some f:=by simpa using hf
 have hi:i < xs.length:=by rw [hxl]; exact (Array.getElem?_eq_some_iff.1 hf').1
 have hxi:xs[i]?=some xs[i]:=List.getElem?_eq_getElem hi
 have h1:=hx i f hf'
 rw [hxi] at h1
 refine ⟨xs[i].1,n',_,xs[i].2,by rw [List.getElem?_map,hxi]; rfl,h1,fun w hwm=>hw w ?_⟩
 unfold DataW.weights
 rw [ht]
 exact V8 _ _ i _ _ w (by rw [List.getElem?_map,hf]; rfl) (by rw [List.getElem?_map,hxi]; rfl) hwm
def Qg {α:Type} (P:Program) (e:TypeId) (Q:List AV->α->Prop) (v:AV) (l:List α):Prop :=
 ((v=.nilsl∧l=[])∨∃ rs:List (List AV),v=.fsl (rs.map (seeV P e)) false∧rs.length=l.length∧∀ (i:Nat) r X,rs[i]?=some r->l[i]?=some X->Q r X)∧l.length * P.bytesOf e≤reachBytes
theorem dN {α:Type} {see:DataW H->Option (List AV)} {Q:List AV->α->Prop}:∀ (ds:List (DataW H)),(∀ (i:Nat) d,ds[i]?=some d->∃ acs X,see d=some acs∧Q acs X)->∃ (rs:List (List AV)) (l:List α),Yf see ds=some rs∧rs.length=ds.length∧l.length=ds.length∧∀ (i:Nat) r X,rs[i]?=some r->l[i]?=some X->Q r X
 | [],_=>⟨[],[],rfl,rfl,rfl,fun i r X h=>by simp at h⟩
 | d :: ds,h=>by
  obtain ⟨acs,X,h1,h2⟩:=h 0 d rfl
  obtain ⟨rs,l,h3,h4,h5,h6⟩:=dN ds fun i d hd=>h (i + 1) d (by simpa using hd)
  refine ⟨acs :: rs,X :: l,?_,by simp [h4],by simp [h5],fun i r Y hr hY=>?_⟩
  . show A4 (see d) (fun a=>A4 (Yf see ds) fun r=>some (a :: r))=_
    rw [h1,h3]; rfl
  . cases i with
    | zero=>cases hr; cases hY; exact h2
    | succ i=>exact h6 i r Y (by simpa using hr) (by simpa using hY)
theorem a8 {α:Type} {Q:List AV->α->Prop} {t e:TypeId} {m:Nat} (ht:P.underlying t=some (.slice e)) (h0:0 < P.cellsOf e)
 (hel:∀ n cs (d:DataW H) ps,DataW.trod enc P W base spare held n e cs=some (d,ps)->Wt P e d->∃ acs X,O9 P m e d=some acs∧(acs.length=P.cellsOf e∧(c6 P e=true∨acs.length=1))∧Q acs X)
 {n:Nat} {cs:List Value} {d:DataW H} {ps:List MemPlace} (h:DataW.trod enc P W base spare held n t cs=some (d,ps)) (hw:Wt P t d):∃ v l,O9 P (m + 1) t d=some [v]∧Qg P e Q v l:=by
 rcases DataW.trod_slice ht h with ⟨rfl,e1⟩ | ⟨a,len,cap,elems,rest,n',rfl,rfl,e1,_,hlc,_,hlen,hels,_,_⟩
 . cases e1
   refine ⟨.nilsl,[],?_,.inl ⟨rfl,rfl⟩,by simp⟩
   unfold O9
   rw [ht]
 . cases e1
   have hall:∀ (i:Nat) di,(elems.map (·.1))[i]?=some di->∃ acs X,O9 P m e di=some acs∧((acs.length=P.cellsOf e∧(c6 P e=true∨acs.length=1))∧Q acs X):=fun i di hi=>by
    rw [List.getElem?_map,Option.map_eq_some_iff] at hi
    obtain ⟨x,hx,rfl⟩:=hi
    have hik:i < len:=by rw [← hlen]; exact (List.getElem?_eq_some_iff.1 hx).1
    have h3:=hels i hik
    rw [hx] at h3
    cases hcs:W.cells? base (a.add (i * P.cellsOf e)) (P.cellsOf e) with
    | none=>rw [hcs] at h3; cases h3
    | some csi =>
     rw [hcs] at h3
     refine hel n' csi x.1 x.2 h3 fun w hwm=>hw w ?_
     unfold DataW.weights
     rw [ht]
     exact List.mem_cons_of_mem _ (List.mem_append_left _ (Bz _ e i x.1 w (by rw [List.getElem?_map,hx]; rfl) hwm))
   obtain ⟨rs,l,h1,h2,h3,h4⟩:=dN (Q:=fun acs X=>(acs.length=P.cellsOf e∧(c6 P e=true∨acs.length=1))∧Q acs X) _ hall
   refine ⟨.fsl (rs.map (seeV P e)) false,l,?_,.inr ⟨rs,rfl,by rw [h2,h3],fun i r X hr hX=>(h4 i r X hr hX).2⟩,?_⟩
   . unfold O9
     rw [ht]
     dsimp only
     rw [show Nat.blt 0 (P.cellsOf e)=true from Nat.ble_eq_true_of_le h0,h1]
     show (bif (rs.all fun r=>Nat.beq (lenL r) (P.cellsOf e) && (c6 P e || Nat.beq (lenL r) 1)) then some [AV.fsl (rs.map (seeV P e)) false] else none)=_
     have:(rs.all fun r=>Nat.beq (lenL r) (P.cellsOf e) && (c6 P e || Nat.beq (lenL r) 1))=true:=by
      rw [List.all_eq_true]
      intro r hr
      obtain ⟨i,hi⟩:=List.getElem?_of_mem hr
      have hil:i < l.length:=by rw [h3,← h2]; exact (List.getElem?_eq_some_iff.1 hi).1
      obtain ⟨⟨q1,q2⟩,_⟩:=h4 i r _ hi (List.getElem?_eq_getElem hil)
      rw [A5,q1,Nat.beq_refl]
      rcases q2 with q2 | q2
      . rw [q2]; rfl
      . rw [← q1,q2]; simp
     rw [this]; rfl
   . rw [h3,List.length_map]
     have:=hw ((elems.length + rest.length) * P.bytesOf e) (by
      unfold DataW.weights
      rw [ht]
      simp)
     exact Nat.le_trans (Nat.mul_le_mul_right _ (Nat.le_add_right _ _)) this
theorem Qg.mem {α:Type} {e:TypeId} {Q:List AV->α->Prop} {v:AV} {l:List α} (hq:Qg P e Q v l) {X:α} (hX:X∈l):∃ r,Q r X:=by
 rcases hq.1 with ⟨rfl,rfl⟩ | ⟨rs,rfl,hl,hx⟩
 . cases hX
 . obtain ⟨i,hi⟩:=List.getElem?_of_mem hX
   have hil:i < rs.length:=by rw [hl]; exact (List.getElem?_eq_some_iff.1 hi).1
   exact ⟨_,hx i _ X (List.getElem?_eq_getElem hil) hi⟩
def Gz (P:Program):Nat->List (Nat × Nat)->Prop
 | _,[]=>True
 | o,f :: fs=>f.2=o∧Gz P (o + P.cellsOf f.1) fs
theorem Yd:∀ (fs:List Field) (o:Nat),Gz P o (fs.map fun f=>(f.type,f.offset))->uB P o fs
 | [],_,_=>trivial
 | f :: fs,o,h=>⟨h.1,Yd fs _ h.2⟩
theorem Ye:∀ (ss:List (List AV)) (L:List (Nat × Nat)),ss.length=L.length->(∀ (i:Nat) s f,ss[i]?=some s->L[i]?=some f->s.length=P.cellsOf f.1)->ss.flatten.length=(L.map fun f=>P.cellsOf f.1).sum
 | [],[],_,_=>rfl
 | [],_ :: _,h,_=>by cases h
 | _ :: _,[],h,_=>by cases h
 | s :: ss,f :: L,h,hc=>by
  rw [List.flatten_cons,List.length_append,List.map_cons,List.sum_cons,hc 0 s f rfl rfl,Ye ss L (by simpa using h) fun i s f a b=>hc (i + 1) s f (by simpa using a) (by simpa using b)]
theorem Sc {Qs:Nat->List AV->Prop}:∀ (n:Nat),(∀ i,i < n->∃ s,Qs i s)->∃ ss:List (List AV),ss.length=n∧∀ (i:Nat) s,ss[i]?=some s->Qs i s
 | 0,_=>⟨[],rfl,fun i s h=>by simp at h⟩
 | n + 1,h=>by
  obtain ⟨ss,h1,h2⟩:=Sc n fun i hi=>h i (by omega)
  obtain ⟨s,hs⟩:=h n (by omega)
  refine ⟨ss ++ [s],by simp [h1],fun i t ht=>?_⟩
  rw [List.getElem?_append] at ht
  split at ht
  . exact h2 i t ht
  . rename_i hi
    cases hk:i - ss.length with
    | zero =>
     rw [hk] at ht; cases ht
     have:i=n:=by omega
     subst this; exact hs
    | succ k=>rw [hk] at ht; simp at ht
theorem U0 {t:TypeId} {fs:Array Field} {L:List (Nat × Nat)} {m:Nat} {Qs:Nat->List AV->Prop} (ht:P.underlying t=some (.struct fs)) (hm:fs.toList.map (fun f=>(f.type,f.offset))=L) (hoff:Gz P 0 L) (hc:P.cellsOf t=(L.map fun f=>P.cellsOf f.1).sum)
 (hF:∀ (i ty off:Nat),L[i]?=some (ty,off)->∀ n cs (d:DataW H) ps,DataW.trod enc P W base spare held n ty cs=some (d,ps)->Wt P ty d->∃ s,O9 P m ty d=some s∧s.length=P.cellsOf ty∧Qs i s)
 {n:Nat} {cs:List Value} {d:DataW H} {ps:List MemPlace} (h:DataW.trod enc P W base spare held n t cs=some (d,ps)) (hw:Wt P t d) :
 ∃ ss:List (List AV),O9 P (m + 1) t d=some ss.flatten∧ss.flatten.length=P.cellsOf t∧ss.length=L.length∧∀ (i:Nat) s,ss[i]?=some s->Qs i s:=by
 obtain ⟨ds,rfl,hl,hx⟩:=Yc ht h hw
 have hLl:L.length=fs.toList.length:=by rw [← hm,List.length_map]
 obtain ⟨ss,h1,h2⟩:=Sc (Qs:=fun i s=>(∀ di ty off,ds[i]?=some di->L[i]?=some (ty,off)->O9 P m ty di=some s∧s.length=P.cellsOf ty)∧Qs i s) L.length (fun i hi=>by
  obtain ⟨f,hf⟩:∃ f,fs.toList[i]?=some f:=⟨_,List.getElem?_eq_getElem (by omega)⟩
  have hLi:L[i]?=some (f.type,f.offset):=by rw [← hm,List.getElem?_map,hf]; rfl
  obtain ⟨di,n',csi,psi,k1,k2,k3⟩:=hx i f hf
  obtain ⟨s,k4,k5,k6⟩:=hF i _ _ hLi n' csi di psi k2 k3
  refine ⟨s,fun di' ty off a b=>?_,k6⟩
  rw [k1] at a; cases a
  rw [hLi] at b; cases b
  exact ⟨k4,k5⟩)
 have hall:∀ (i:Nat) f d s,fs.toList[i]?=some f->ds[i]?=some d->ss[i]?=some s->O9 P m f.type d=some s∧s.length=P.cellsOf f.type:=fun i f d s hf hd hs =>
  (h2 i s hs).1 d f.type f.offset hd (by rw [← hm,List.getElem?_map,hf]; rfl)
 have hflat:ss.flatten.length=P.cellsOf t:=by
  rw [hc]
  refine Ye ss L h1 fun i s f hs hf=>?_
  obtain ⟨d,hd⟩:∃ d,ds[i]?=some d:=⟨_,List.getElem?_eq_getElem (by have:=(List.getElem?_eq_some_iff.1 hf).1; omega)⟩
  exact ((h2 i s hs).1 d f.1 f.2 hd hf).2
 refine ⟨ss,?_,hflat,h1,fun i s hs=>(h2 i s hs).2⟩
 unfold O9
 rw [ht]
 show A4 (Ut P (O9 P m) 0 fs.toList ds) (fun r=>bif Nat.beq (lenL r) (P.cellsOf t) then some r else none)=_
 rw [dM fs.toList ds ss 0 hl (by omega) hall (Yd _ 0 (by rw [hm]; exact hoff))]
 show (bif Nat.beq (lenL ss.flatten) (P.cellsOf t) then some ss.flatten else none)=_
 rw [A5,hflat,Nat.beq_refl]; rfl
theorem Qg.fz {α:Type} {e:TypeId} {Q:List AV->α->Prop} {F:α->AV} {v:AV} {l:List α} (hq:Qg P e Q v l) {Z:Nat->Prop} {h:Heap} (hR:∀ r X,Q r X->Fz Z h (seeV P e r) (F X)):Fz Z h v (fslN (l.map F)):=by
 rcases hq.1 with ⟨rfl,rfl⟩ | ⟨rs,rfl,hl,hx⟩
 . exact .emp .nil
 . cases l with
   | nil =>
    have:rs=[]:=List.eq_nil_of_length_eq_zero hl
    subst this
    exact .emp .fsl
   | cons a l =>
    refine .fsl (by simp [hl]) (fun i x y h1 h2=>?_) rfl
    rw [List.getElem?_map,Option.map_eq_some_iff] at h1 h2
    obtain ⟨r,hr,rfl⟩:=h1
    obtain ⟨X,hX,rfl⟩:=h2
    exact hR r X (hx i r X hr hX)
end
end Go.AM
