/- The tree machine: code as trees, memory by kept numbers, and that it says what the machine does. Conditions: none. -/
import Derived.Test.YtjbdobdlnccgpaaPmB
set_option linter.unusedVariables false
set_option linter.unusedSimpArgs false
set_option linter.unusedSectionVars false
set_option linter.defProp false
set_option maxHeartbeats 4000000
open Option renaming some→zs,none→zn
open Bool renaming true→zt,false→zf
open List renaming replicate→zqa,getElem?_map→zqb,getElem?_eq_some_iff→zqc,getElem?_eq_getElem→zqd,range→zqe,eq_nil_of_length_eq_zero→zqf,mem_append_left→zqg,drop_eq_getElem_cons→zqh,mem_append_right→zqi,getElem?_of_mem→zqj,length_map→zqk
open Nat renaming beq_refl→zql,ble_eq_true_of_le→zqm
namespace Go.AM
noncomputable section
variable {E:Env}{fr:PF}{K K':PK}{v w x y:AV}{vs:List AV}
theorem lk_hit(i:Nat)(r:PF):lookP ((i,v)::r) i=v:=by show(if i=i then v else _)=v;grind
theorem lk_cons(i j:Nat)(r:PF):lookP ((i,v)::r) j=if i=j then v else lookP r j:=rfl
theorem st_some(t:Nat):setP (zs t) v fr=(t,v)::fr:=rfl
theorem st_none:setP zn v fr=fr:=rfl
theorem ov_tmp(t:Nat):opvP E (.tmp t) fr=lookP fr t:=rfl
theorem ov_int(k:IntKind)(n:Int):opvP E (.const (.int k n)) fr=.int k n:=rfl
theorem ov_bool(b:Bool):opvP E (.const (.bool b)) fr=.bool b:=rfl
theorem ov_str(s:List UInt8):opvP E (.const (.string ⟨⟨s⟩⟩)) fr=.str s:=rfl
theorem ov_nsl:opvP E (.const (.slice zn 0 0)) fr=.nilsl:=rfl
theorem ov_func(f:Nat):opvP E (.func f) fr=.fn (.func f) [] []:=rfl
theorem ol_nil:opvL E [] fr=[]:=rfl
theorem ol_cons(x:Operand)(l:List Operand):opvL E (x::l) fr=opvP E x fr::opvL E l fr:=rfl
theorem oq_nil:dQ E [] fr=[]:=rfl
theorem oq_cons(i:Nat)(x:Operand)(l:List (Nat×Operand)):dQ E ((i,x)::l) fr=(i,opvP E x fr)::dQ E l fr:=rfl
theorem en_nil(i:Nat):enterP i []=[]:=rfl
theorem en_cons(i:Nat)(l:List AV):enterP i (v::l)=(i,v)::enterP (i+1) l:=rfl
theorem one_1(v:AV):oneOrTup [v]=v:=rfl
theorem one_2(v w:AV):oneOrTup [v,w]=.tup [v,w]:=rfl
theorem one_0:oneOrTup []=.tup []:=rfl
theorem ofV_some(v:AV):Gq (zs v) K=.val v K:=rfl
theorem ofO_some(v:AV)(K':PK):Jd (zs (v,K'))=.val v K':=rfl
def RE(x:AV)(i:Nat)(K:PK):OpS:=match x with | .tup vs=>Gq vs[i]? K|_=>.bad
theorem exP_tup(vs:List AV)(i:Nat):RE (.tup vs) i K=Gq vs[i]? K:=rfl
theorem pr_move(x:Operand):prim E (.move x) fr K=.val (opvP E x fr) K:=rfl
theorem pr_assign(x:Operand):prim E (.assign x) fr K=.val (opvP E x fr) K:=rfl
theorem pr_pick(c a b:Operand):prim E (.pick c a b) fr K=Ln (opvP E c fr) (opvP E a fr) (opvP E b fr) K:=rfl
theorem pick_true(a b:AV):Ln (.bool zt) a b K=.val a K:=rfl
theorem pick_false(a b:AV):Ln (.bool zf) a b K=.val b K:=rfl
theorem pr_alloc(t:Nat):prim E (.alloc t) fr K=o7 E t fun ti=>.val (.ptr K.os.length 0 0) (newRow 1 [ti.zero] ti.size K):=rfl
theorem pr_box(t:Nat)(x:Operand):prim E (.box t x) fr K=o7 E t fun ti=>wQ ti (opvP E x fr) K:=rfl
theorem pr_build(t:Nat)(ps:Array (Nat×Operand)):prim E (.build t ps) fr K=o7 E t fun ti=>Gq (U1 E ti (dQ E ps.toList fr)) K:=rfl
theorem pr_buildSl(t n:Nat)(ps:Array (Nat×Operand)):prim E (.buildSlice t n ps) fr K=o7 E t fun ti=>match elemOfT E ti.desc with|some te=>Jd (Cm te n (dQ E ps.toList fr) K)|none=>.bad:=rfl
theorem pr_load(t:Nat)(a:Operand):prim E (.load t a) fr K=o7 E t fun ti=>Jd (loadP ti (opvP E a fr) K):=rfl
theorem pr_store(t:Nat)(a x:Operand):prim E (.store t a x) fr K=o7 E t fun ti=>Jd ((storeP ti (opvP E a fr) (opvP E x fr) K).map fun K=>(.und,K)):=rfl
theorem pr_nil(x:Operand):prim E (.nilCheck x) fr K=Gq (c8 (opvP E x fr)) K:=rfl
theorem pr_bin(op:BinOp)(t u:Nat)(x y:Operand):prim E (.binOp op t x y u) fr K=V4 E op t (opvP E x fr) (opvP E y fr) K:=rfl
theorem pr_un(op:UnOp)(t:Nat)(x:Operand):prim E (.unOp op t x) fr K=Gq (Ox op (opvP E x fr)) K:=rfl
theorem pr_conv(s d:Nat)(x:Operand):prim E (.convert s d x) fr K=o7 E s fun _=>o7 E d fun A=>Gq (U0 A.desc (opvP E x fr)) K:=rfl
theorem pr_fn(f:Fn)(a c:Array Operand):prim E (.makeFunc f a c) fr K=.val (.fn f (opvL E a.toList fr) (opvL E c.toList fr)) K:=rfl
theorem pr_fa(t:Nat)(x:Operand)(f:Nat):prim E (.fieldAddr t x f) fr K=o7 E t fun ti=>Gq (N8 E ti f (opvP E x fr)) K:=rfl
theorem pr_ia(t:Nat)(x i:Operand):prim E (.indexAddr t x i) fr K=o7 E t fun ti=>Gq (Hv E ti (opvP E x fr) (opvP E i fr)) K:=rfl
theorem pr_ex(t:Operand)(i:Nat):prim E (.extract t i) fr K=RE (opvP E t fr) i K:=rfl
theorem pr_bui(b:Builtin)(args:Array Operand)(ts:Array TypeId):prim E (.call ⟨.builtin b,args,ts⟩) fr K=Jd (G3 E b ts.toList (opvL E args.toList fr) K):=rfl
theorem pr_call(f:Nat)(args:Array Operand)(ts:Array TypeId):prim E (.call ⟨.value (.func f),args,ts⟩) fr K=.call f (opvL E args.toList fr):=by
 show OpS.call f ([]++(opvL E args.toList fr++[]))=_
 grind
theorem pr_callv(t:Nat)(args:Array Operand)(ts:Array TypeId):prim E (.call ⟨.value (.tmp t),args,ts⟩) fr K=Lr (lookP fr t) (opvL E args.toList fr):=rfl
theorem callP_fn(f:Nat)(a c l:List AV):Lr (.fn (.func f) a c) l=.call f (a++(l++c)):=rfl
theorem bp(op:BinOp)(t:Nat)(A:Oc x=zt)(B:Oc y=zt):V4 E op t x y K=Gq (Q1 op (O2 E t) x y) K:=if_pos ⟨A,B⟩
theorem bp_add(t:Nat)(k:IntKind)(a b:Int):V4 E .add t (.int k a) (.int k b) K=.val (.int k (k.wrap (a+b))) K:=by rw[bp _ _ rfl rfl,QF];rfl
theorem bp_sub(t:Nat)(k:IntKind)(a b:Int):V4 E .sub t (.int k a) (.int k b) K=.val (.int k (k.wrap (a-b))) K:=by rw[bp _ _ rfl rfl,QG];rfl
theorem bp_mul(t:Nat)(k:IntKind)(a b:Int):V4 E .mul t (.int k a) (.int k b) K=.val (.int k (k.wrap (a*b))) K:=by rw[bp _ _ rfl rfl,QH];rfl
theorem bp_eql(t:Nat)(k:IntKind)(a b:Int):V4 E .eql t (.int k a) (.int k b) K=.val (.bool (decide (a=b))) K:=by rw[bp _ _ rfl rfl,QI];rfl
theorem bp_neq(t:Nat)(k:IntKind)(a b:Int):V4 E .neq t (.int k a) (.int k b) K=.val (.bool (!decide (a=b))) K:=by rw[bp _ _ rfl rfl,QJ];rfl
theorem bp_lss(t:Nat)(k:IntKind)(a b:Int):V4 E .lss t (.int k a) (.int k b) K=.val (.bool (decide (a<b))) K:=by rw[bp _ _ rfl rfl,QK];rfl
theorem bp_leq(t:Nat)(k:IntKind)(a b:Int):V4 E .leq t (.int k a) (.int k b) K=.val (.bool (decide (a<=b))) K:=by rw[bp _ _ rfl rfl,QL];rfl
theorem bp_gtr(t:Nat)(k:IntKind)(a b:Int):V4 E .gtr t (.int k a) (.int k b) K=.val (.bool (decide (b<a))) K:=by rw[bp _ _ rfl rfl,QM];rfl
theorem bp_geq(t:Nat)(k:IntKind)(a b:Int):V4 E .geq t (.int k a) (.int k b) K=.val (.bool (decide (b<=a))) K:=by rw[bp _ _ rfl rfl,QN];rfl
theorem bp_eqlS(t:Nat)(a b:List UInt8):V4 E .eql t (.str a) (.str b) K=.val (.bool (decide (a=b))) K:=by rw[bp _ _ rfl rfl,HS];rfl
theorem bp_neqS(t:Nat)(a b:List UInt8):V4 E .neq t (.str a) (.str b) K=.val (.bool (!decide (a=b))) K:=by rw[bp _ _ rfl rfl,HU];rfl
theorem wt_true(b:Bool):i7 zt (.bool b)=zs b:=rfl
theorem wt_false(b:Bool):i7 zf (.bool b)=zs (!b):=rfl
theorem wt_skip(w:Bool):i7 w skipped=zs zf:=rfl
theorem as_nat(k:IntKind)(n:Nat):asNat (.int k (n:Int))=zs n:=rfl
theorem A1{i:Nat}(h:i<9223372036854775807):IntKind.i64.wrap ((i:Int)+1)=((i+1:Nat):Int):=by
 rw[IntKind.wrap_i64];omega
def xS(x:AV)(K:PK):Option (AV×PK):=(eV x).map fun n=>(.int .i64 (Int.ofNat n),K)
theorem ln_fsl(es:List AV)(f:Bool):Jd (xS (.fsl es f) K)=.val (.int .i64 (es.length:Int)) K:=by
 show Jd ((zs (lenL es)).map _)=_;rw[A7];rfl
theorem ln_msl(id off n sz:Nat):Jd (xS (.msl id off n sz) K)=.val (.int .i64 (n:Int)) K:=rfl
theorem ln_nil:Jd (xS .nilsl K)=.val (.int .i64 0) K:=rfl
def Xc(te:TI)(x i:AV):Option AV:=match asNat i with|some n=>eX te n x|none=>zn
theorem ix_fsl{te:TI}{k:IntKind}{i:Nat}{es:List AV}{f:Bool}(h:es[i]?=zs v)(A:v.cells.length=te.size):Xc te (.fsl es f) (.int k (i:Int))=zs (.fptr v 0):=by
 show A6 (Eb es i) (fun v=>B0 (Nat.beq (lenL v.cells) te.size) (zs (AV.fptr v 0)))=_
 rw[S8,h];show B0 (Nat.beq (lenL v.cells) te.size) (zs (AV.fptr v 0))=_
 rw[A7,A,zql];rfl
theorem ix_msl{te:TI}{k:IntKind}{i id off n sz:Nat}(h:i<n)(A:sz=te.size):Xc te (.msl id off n sz) (.int k (i:Int))=zs (.ptr id (off+i) 0):=by
 show B0 (Nat.blt i n&&Nat.beq sz te.size) (O1 (Nat.add off i) fun o=>zs (AV.ptr id o 0))=_
 rw[C0,A,zql,show Nat.blt i n=zt from zqm h];rfl
theorem ld_f(t:TI)(v:AV)(off:Nat):Jd (loadP t (.fptr v off) K)=Gq (partOf t v.cells off) K:=by
 show Jd ((partOf t v.cells off).map (·,K))=_
 cases partOf t v.cells off<;>rfl
def UR(id i off:Nat)(K:PK)(w:Option AV):OpS:=match w with|some w=>.val (Vy id i off w K).1 (Vy id i off w K).2|none=>.bad
def US(t:TI)(id i off:Nat)(K:PK)(v:Option AV):OpS:=match v with|some v=>UR id i off K (partOf t v.cells off)|none=>.bad
def ldR(t:TI)(id i off:Nat)(K:PK)(r:Option (Nat×List AV×Nat)):OpS:=match r with|some (_,es,_)=>US t id i off K es[i]?|none=>.bad
theorem ld_p(t:TI)(id i off:Nat):Jd (loadP t (.ptr id i off) K)=ldR t id i off K (rowOf K.os 6 id):=by
 show Jd (match rowOf K.os 6 id with|some (_,es,_)=>_|none=>zn)=_
 cases rowOf K.os 6 id with
 |none=>rfl
 |some q=>
  obtain⟨k,es,z⟩:=q;show Jd (match es[i]? with|some v=>_|none=>zn)=US t id i off K es[i]?
  cases es[i]? with
  |none=>rfl
  |some v=>
   show Jd (match partOf t v.cells off with|some w=>_|none=>zn)=UR id i off K (partOf t v.cells off)
   cases partOf t v.cells off<;>rfl
theorem ldR_some(t:TI)(id i off k z:Nat)(es:List AV):ldR t id i off K (zs (k,es,z))=US t id i off K es[i]?:=rfl
theorem ldE_some(t:TI)(id i off:Nat):US t id i off K (zs v)=UR id i off K (partOf t v.cells off):=rfl
end
noncomputable section
variable {E:Env}{fr:PF}{K K':PK}{v w x y:AV}{vs es:List AV}{te:TI}{os:List PO}
theorem tb_nil:takeB te .nilsl os=zs ([],os,[]):=rfl
def tbE(te:TI)(id off n sz:Nat)(os:List PO)(e:Option PO):Option (List AV×List PO×List Nat):=match e with
 |some (.row k es z)=>if k=0/\z=te.size/\sz=z/\off+n<=es.length then zs ((es.drop off).take n,(killP os id []).set id .dead,[id])else zn
 |some (.sub p i o)=>takeB te (.msl id off n sz) os
 |_=>zn
theorem tb_eq(id off n sz:Nat):takeB te (.msl id off n sz) os=tbE te id off n sz os os[id]?:=by
 cases h:os[id]? with
 |none=>
  unfold takeB
  have:rowOf os 6 id=zn:=by unfold rowOf;rw[h]
  simp only[this];rfl
 |some e=>
  cases e with
  |row k es z=>
   unfold takeB
   have:rowOf os 6 id=zs (k,es,z):=by unfold rowOf;rw[h]
   simp only[this,h];rfl
  |mapo m=>
   unfold takeB
   have:rowOf os 6 id=zn:=by unfold rowOf;rw[h]
   simp only[this];rfl
  |dead=>
   unfold takeB
   have:rowOf os 6 id=zn:=by unfold rowOf;rw[h]
   simp only[this];rfl
  |sub p i o=>rfl
theorem tbE_row{id n sz z:Nat}(h1:z=te.size)(h2:sz=z)(h3:n=es.length):tbE te id 0 n sz os (zs (.row 0 es z))=zs (es,(killP os id []).set id .dead,[id]):=by
 simp_all[tbE]
def JH(te:TI)(id n sz ext:Nat)(tc:List Nat)(os:List PO)(e:Option PO)(d:Option (List AV×List PO)):Option (List AV×List PO):=match e with
 | some (.row 0 es z)=>if z=te.size/\sz=z/\n=es.length then(match flatT te with
  |true=>if aD es=zt then zs (es,os)else zn
  |false=>if ext<=id/\¬id∈tc then zs (es,(killP os id []).set id .dead)else zn)else d
 |_=>d
def teD(te:TI)(id n sz ext:Nat)(tc:List Nat)(os:List PO):Option (List AV×List PO):=takeE te (.msl id 0 n sz) ext tc os
theorem te_eq(id n sz ext:Nat)(tc:List Nat):takeE te (.msl id 0 n sz) ext tc os=JH te id n sz ext tc os os[id]? (teD te id n sz ext tc os):=by
 unfold JH;split
 . rename_i es z h
   split
   . grind[rowOf,takeE]
   . rfl
 . rfl
theorem teE_flat{id n sz z ext:Nat}{tc:List Nat}{d:Option (List AV×List PO)}(hf:flatT te=zt)(h1:z=te.size)(h2:sz=z)(h3:n=es.length)(he:aD es=zt):JH te id n sz ext tc os (zs (.row 0 es z)) d=zs (es,os):=by
 simp_all[JH]
theorem teE_row{id n sz z ext:Nat}{tc:List Nat}{d:Option (List AV×List PO)}(hf:flatT te=zf)(h1:z=te.size)(h2:sz=z)(h3:n=es.length)(hx:ext<=id)(hc:¬id∈tc):JH te id n sz ext tc os (zs (.row 0 es z)) d=zs (es,(killP os id []).set id .dead):=by
 simp_all[JH]
theorem te_fsl{f:Bool}{ext:Nat}{tc:List Nat}(h:J4 te.size es=zt):takeE te (.fsl es f) ext tc os=zs (es,os):=if_pos h
def IH(te:TI)(s:AV)(K:PK)(base:List AV)(tc:List Nat)(r:Option (List AV×List PO)):Option (AV×PK):=match r with
 |some (xs,os2)=>if(!xs.isEmpty||wholeP s K.os)=zt then joinP te base xs os2 tc K else zn
 |none=>zn
def ap1(te:TI)(s x:AV)(K:PK)(r:Option (List AV×List PO×List Nat)):Option (AV×PK):=match r with
 |some (base,os1,tc)=>IH te s K base tc (takeE te x K.ext tc os1)
 |none=>zn
theorem ap_eq(s x:AV):j9 te s x K=ap1 te s x K (takeB te s K.os):=by
 grind[j9,ap1,IH]
theorem ap1_some{s x:AV}(base:List AV)(os1:List PO)(tc:List Nat):ap1 te s x K (zs (base,os1,tc))=IH te s K base tc (takeE te x K.ext tc os1):=rfl
theorem ap2_some{s:AV}{base xs:List AV}{os2:List PO}{tc:List Nat}(h0:xs.isEmpty=zf)(hz:(base.length+xs.length)*te.bytes<=140737488355328):
 IH te s K base tc (zs (xs,os2))=zs (.msl os2.length 0 (base.length+xs.length) te.size,⟨os2++[.row 0 (base++xs) te.size],K.ext,os2.length::tc++K.tch⟩):=by
 unfold IH;simp only[h0];rw[if_pos (by rfl)];exact if_pos hz
end
noncomputable section
variable {E:Env}{fr:PF}{K K':PK}{v w x y c:AV}{vs es cs:List AV}{te:TI}{os l:List PO}{ids:List Nat}
theorem cl_int(k:IntKind)(n:Int):clo (.int k n)=zt:=rfl
theorem cl_bool(b:Bool):clo (.bool b)=zt:=rfl
theorem cl_str(b:List UInt8):clo (.str b)=zt:=rfl
theorem cl_own(k sz:Nat):clo (ownd k sz es)=zf:=rfl
theorem cl_msl(a b d e:Nat):clo (.msl a b d e)=zf:=rfl
theorem ag_int(k:IntKind)(n:Int):Lm (.int k n)=zf:=rfl
theorem ag_agg:Lm (.agg cs)=zt:=rfl
theorem ag_nsl:Lm .nilsl=zf:=rfl
theorem cl_nsl:clo .nilsl=zt:=rfl
theorem ce_int(k:IntKind)(n:Int):AV.cells (.int k n)=[.int k n]:=rfl
theorem ce_bool(b:Bool):AV.cells (.bool b)=[.bool b]:=rfl
theorem ce_str(b:List UInt8):AV.cells (.str b)=[.str b]:=rfl
theorem ce_agg:AV.cells (.agg cs)=cs:=rfl
theorem ce_nsl:AV.cells .nilsl=[.nilsl]:=rfl
theorem ce_msl(a b d e:Nat):AV.cells (.msl a b d e)=[.msl a b d e]:=rfl
theorem ce_own(k sz:Nat):AV.cells (ownd k sz es)=[ownd k sz es]:=rfl
theorem fl_nil:aD []=zt:=rfl
theorem fl_cons:aD (v::es)=(v.cells.all clo&&aD es):=rfl
def II(c:Option AV):Option (Nat×List AV×Nat):=match c with|some c=>ownOf c|none=>zn
def UT(o:Nat)(v:Option AV):Option (Nat×List AV×Nat):=match v with|some v=>II v.cells[o]?|none=>zn
def UU(i o:Nat)(r:Option (Nat×List AV×Nat)):Option (Nat×List AV×Nat):=match r with|some (_,es,_)=>UT o es[i]?|none=>zn
def IJ(os:List PO)(n:Nat)(e:Option PO):Option (Nat×List AV×Nat):=match e with|some (.row k es sz)=>zs (k,es,sz)|some (.sub p i o)=>UU i o (rowOf os n p)|_=>zn
theorem pH(os:List PO)(n id:Nat):rowOf os (n+1) id=IJ os n os[id]?:=by
 conv=>lhs;unfold rowOf
 cases os[id]? with
 |none=>rfl
 | some e=>cases e with
  |sub p i o=>
   show(match rowOf os n p with|some (_,es,_)=>_|none=>zn)=UU i o (rowOf os n p)
   cases rowOf os n p with
   |none=>rfl
   |some q=>
    obtain⟨k,es,z⟩:=q;show(match es[i]? with|some v=>_|none=>zn)=UT o es[i]?
    cases es[i]? with
    |none=>rfl
    |some v=>
     show(match v.cells[o]? with|some c=>_|none=>zn)=II v.cells[o]?
     cases v.cells[o]?<;>rfl
  |_=>rfl
theorem ro6(os:List PO)(id:Nat):rowOf os 6 id=IJ os 5 os[id]?:=pH os 5 id
theorem rwE_row(n k sz:Nat):IJ os n (zs (.row k es sz))=zs (k,es,sz):=rfl
theorem rwE_sub(n p i o:Nat):IJ os n (zs (.sub p i o))=UU i o (rowOf os n p):=rfl
theorem rwS_some(i o k z:Nat):UU i o (zs (k,es,z))=UT o es[i]?:=rfl
theorem rwC_some(o:Nat):UT o (zs v)=II v.cells[o]?:=rfl
theorem rwD_some:II (zs c)=ownOf c:=rfl
theorem ow_own(k sz:Nat):ownOf (ownd k sz es)=zs (k,es,sz):=rfl
def rtE(os:List PO)(n id:Nat)(e:Option PO):Nat:=match e with|some (.sub p _ _)=>rootOf os n p|_=>id
theorem rt_eq(os:List PO)(n id:Nat):rootOf os (n+1) id=rtE os n id os[id]?:=rfl
theorem rtE_row(n id k sz:Nat):rtE os n id (zs (.row k es sz))=id:=rfl
theorem rtE_sub(n id p i o:Nat):rtE os n id (zs (.sub p i o))=rootOf os n p:=rfl
def chE(os:List PO)(n:Nat)(e:Option PO):List Nat:=match e with|some (.sub p _ _)=>chainOf os n p|_=>[]
theorem ch_eq(os:List PO)(n id:Nat):chainOf os (n+1) id=id::chE os n os[id]?:=rfl
theorem chE_row(n k sz:Nat):chE os n (zs (.row k es sz))=[]:=rfl
theorem chE_sub(n p i o:Nat):chE os n (zs (.sub p i o))=chainOf os n p:=rfl
theorem kp_eq(r:Nat)(keep:List Nat):killP os r keep=a8 os r keep 0 os:=rfl
theorem kg_nil(r j:Nat)(keep:List Nat):a8 os r keep j []=[]:=rfl
theorem kg_row(r j k sz:Nat)(keep:List Nat):a8 os r keep j (.row k es sz::l)=.row k es sz::a8 os r keep (j+1) l:=rfl
theorem kg_dead(r j:Nat)(keep:List Nat):a8 os r keep j (.dead::l)=.dead::a8 os r keep (j+1) l:=rfl
theorem kg_sub(r j p i o:Nat)(keep:List Nat):a8 os r keep j (.sub p i o::l)=(if rootOf os 6 j=r/\¬j∈keep then PO.dead else .sub p i o)::a8 os r keep (j+1) l:=rfl
theorem ks_eq(id:Nat):killS os id=R4 os (rootOf os 6 id) (chainOf os 6 id) id 0 os:=rfl
theorem kh_nil(r j id:Nat)(keep:List Nat):R4 os r keep id j []=[]:=rfl
theorem kh_row(r j k sz id:Nat)(keep:List Nat):R4 os r keep id j (.row k es sz::l)=.row k es sz::R4 os r keep id (j+1) l:=rfl
theorem kh_dead(r j id:Nat)(keep:List Nat):R4 os r keep id j (.dead::l)=.dead::R4 os r keep id (j+1) l:=rfl
theorem kh_sub(r j p i o id:Nat)(keep:List Nat):R4 os r keep id j (.sub p i o::l)=(if rootOf os 6 j=r/\¬j∈keep then(bif sibl os 6 id (.sub p i o)then PO.sub p i o else PO.dead)else .sub p i o)::R4 os r keep id (j+1) l:=rfl
def sbE(os:List PO)(n:Nat)(e:PO)(x:Option PO):Bool:=match x with|some (.sub p i o)=>wO p i o e||sibl os n p e|_=>zf
theorem sb_eq(n id:Nat)(e:PO):sibl os (n+1) id e=sbE os n e os[id]?:=rfl
theorem sbE_row(n k sz:Nat)(e:PO):sbE os n e (zs (.row k es sz))=zf:=rfl
theorem sbE_sub(n p i o:Nat)(e:PO):sbE os n e (zs (.sub p i o))=(wO p i o e||sibl os n p e):=rfl
theorem besO_sub(p i o A i' o':Nat):wO p i o (.sub A i' o')=(A==p&&(bne i' i||bne o' o)):=rfl
def IK(ids:List Nat)(fr:PF):List Nat->PF
 |[]=>[]
 |i::l=>(i,J3 (posOf ids) (lookP fr i))::IK ids fr l
def FA(ids:List Nat)(os:List PO):List Nat->List PO
 |[]=>[]
 |i::l=>renPO (posOf ids) (entryAt os i)::FA ids os l
theorem xT(ids:List Nat)(fr:PF):∀keep:List Nat,(keep.map fun i=>(i,J3 (posOf ids) (lookP fr i)))=IK ids fr keep
 |[]=>rfl
 |i::l=>congrArg (List.cons _) (xT ids fr l)
theorem mS(ids:List Nat)(os:List PO):∀l:List Nat,(l.map fun i=>renPO (posOf ids) (entryAt os i))=FA ids os l
 |[]=>rfl
 |i::l=>congrArg (List.cons _) (mS ids os l)
theorem mf_nil:IK ids fr []=[]:=rfl
theorem mf_cons(i:Nat)(l:List Nat):IK ids fr (i::l)=(i,J3 (posOf ids) (lookP fr i))::IK ids fr l:=rfl
theorem mo_nil:FA ids os []=[]:=rfl
theorem mo_cons(i:Nat)(l:List Nat):FA ids os (i::l)=renPO (posOf ids) (entryAt os i)::FA ids os l:=rfl
def mk1(k:List Nat)(fr:PF)(ids:List Nat):PF:=IK ids fr k
def mk2(K:PK)(ids:List Nat):PK:=⟨FA ids K.os ids,K.ext,K.tch.filter (· < K.ext)⟩
theorem mp_1(k:List Nat):(J0 k fr K).1=mk1 k fr (markIds k fr K):=xT _ _ _
theorem mp_2(k:List Nat):(J0 k fr K).2=mk2 K (markIds k fr K):=by
 show PK.mk _ _ _=PK.mk _ _ _
 grind[mS]
theorem mk1_eq(k:List Nat):mk1 k fr ids=IK ids fr k:=rfl
theorem mk2_eq:mk2 K ids=⟨FA ids K.os ids,K.ext,K.tch.filter (· < K.ext)⟩:=rfl
def RF(e:Option PO):List Nat:=match e with|some (.sub p _ _)=>[p]|e=>dR e
theorem sm_eq(id:Nat):iI os id=RF os[id]?:=rfl
theorem smE_row(sz:Nat):RF (zs (.row 0 es sz))=[]:=rfl
theorem smE_row1(sz:Nat):RF (zs (.row 1 es sz))=refsL es:=rfl
theorem smE_sub(p i o:Nat):RF (zs (.sub p i o))=[p]:=rfl
theorem smE_dead:RF (zs .dead)=[]:=rfl
def JI(fr:PF):List Nat->List Nat
 |[]=>[]
 |i::l=>O5 (lookP fr i)++JI fr l
theorem xU(fr:PF):∀keep:List Nat,refsL (keep.map (lookP fr))=JI fr keep
 |[]=>rfl
 |i::l=>congrArg (List.append _) (xU fr l)
theorem mi_eq(k:List Nat):markIds k fr K=k7 (iI K.os) 64 ((zqe K.ext).flatMap (iI K.os)++JI fr k) (zqe K.ext):=by
 unfold markIds;rw[xU]
theorem rs_nil:JI fr []=[]:=rfl
theorem rs_cons(i:Nat)(l:List Nat):JI fr (i::l)=O5 (lookP fr i)++JI fr l:=rfl
theorem rg_0:zqe 0=[]:=rfl
theorem rg_2:zqe 2=[0,1]:=rfl
theorem rp_nil(s:Nat->List Nat)(n:Nat)(A:List Nat):k7 s n [] A=A:=by cases n<;>rfl
theorem rp_cons(s:Nat->List Nat)(n id:Nat)(t A:List Nat):k7 s (n+1) (id::t) A=if id∈A then k7 s n t A else k7 s n (t++s id) (A++[id]):=rfl
theorem po_cons(j id:Nat)(r:List Nat):posOf (j::r) id=if j=id then zs 0 else(posOf r id).map (· + 1):=rfl
def rnM(q:Option Nat)(off n sz:Nat):AV:=match q with|some j=>.msl j off n sz|none=>.und
def rnP(q:Option Nat)(i o:Nat):AV:=match q with|some j=>.ptr j i o|none=>.und
variable {σ:Nat->Option Nat}
theorem rv_int(k:IntKind)(n:Int):J3 σ (.int k n)=.int k n:=rfl
theorem rv_bool(b:Bool):J3 σ (.bool b)=.bool b:=rfl
theorem rv_str(b:List UInt8):J3 σ (.str b)=.str b:=rfl
theorem rv_agg:J3 σ (.agg cs)=.agg (renL σ cs):=rfl
theorem rv_fsl(f:Bool):J3 σ (.fsl es f)=.fsl es f:=rfl
theorem rv_msl(id off n sz:Nat):J3 σ (.msl id off n sz)=rnM (σ id) off n sz:=rfl
theorem rv_ptr(id i o:Nat):J3 σ (.ptr id i o)=rnP (σ id) i o:=rfl
theorem rv_nsl:J3 σ .nilsl=.nilsl:=rfl
theorem rv_fn(f:Fn)(a b:List AV):J3 σ (.fn f a b)=.fn f (renL σ a) (renL σ b):=rfl
theorem rl_nil:renL σ []=[]:=rfl
theorem rl_cons(l:List AV):renL σ (v::l)=J3 σ v::renL σ l:=rfl
theorem rnM_some(j off n sz:Nat):rnM (zs j) off n sz=.msl j off n sz:=rfl
theorem rnP_some(j i o:Nat):rnP (zs j) i o=.ptr j i o:=rfl
def enE(e:Option PO):PO:=match e with|some e=>e|none=>.dead
theorem et_eq(id:Nat):entryAt os id=enE os[id]?:=rfl
theorem enE_some(e:PO):enE (zs e)=e:=rfl
def rnS(q:Option Nat)(i o:Nat):PO:=match q with|some j=>.sub j i o|none=>.dead
theorem rp_row(sz:Nat):renPO σ (.row 0 es sz)=.row 0 es sz:=rfl
theorem rp_row1(sz:Nat):renPO σ (.row 1 es sz)=.row 1 (renL σ es) sz:=rfl
theorem rp_dead:renPO σ .dead=.dead:=rfl
theorem rp_sub(p i o:Nat):renPO σ (.sub p i o)=rnS (σ p) i o:=rfl
theorem rnS_some(j i o:Nat):rnS (zs j) i o=.sub j i o:=rfl
theorem rf_int(k:IntKind)(n:Int):O5 (.int k n)=[]:=rfl
theorem rf_bool(b:Bool):O5 (.bool b)=[]:=rfl
theorem rf_str(b:List UInt8):O5 (.str b)=[]:=rfl
theorem rf_agg:O5 (.agg cs)=refsL cs:=rfl
theorem rf_fsl(f:Bool):O5 (.fsl es f)=[]:=rfl
theorem rf_msl(id off n sz:Nat):O5 (.msl id off n sz)=[id]:=rfl
theorem rf_ptr(id i o:Nat):O5 (.ptr id i o)=[id]:=rfl
theorem rf_nsl:O5 .nilsl=[]:=rfl
theorem rf_fn(f:Fn)(a b:List AV):O5 (.fn f a b)=refsL a++refsL b:=rfl
theorem rfl_nil:refsL []=[]:=rfl
theorem rfl_cons(l:List AV):refsL (v::l)=O5 v++refsL l:=rfl
theorem bk_nil(rs:List AV):V0 [] rs os=([],os):=rfl
theorem bk_cons(rs:List AV)(r:AV):V0 (v::vs) (r::rs) os=((n8 v r os).1::(V0 vs rs (n8 v r os).2).1,(V0 vs rs (n8 v r os).2).2):=rfl
theorem bv_eq(r:AV):n8 v r os=(S9 v (O0 v.cells r.cells os).1,(O0 v.cells r.cells os).2):=rfl
theorem bs_nil(rs:List AV):O0 [] rs os=([],os):=rfl
theorem bs_cons(rs:List AV)(r:AV):O0 (v::vs) (r::rs) os=((b9 v r os).1::(O0 vs rs (b9 v r os).2).1,(O0 vs rs (b9 v r os).2).2):=rfl
theorem bc_msl(a b d e:Nat)(r:AV):b9 (.msl a b d e) r os=(.msl a b d e,os):=rfl
theorem bc_int(k:IntKind)(n:Int)(r:AV):b9 (.int k n) r os=(.int k n,os):=rfl
theorem bc_str(b:List UInt8)(r:AV):b9 (.str b) r os=(.str b,os):=rfl
theorem lv_agg(a:List AV):S9 (.agg a) cs=.agg cs:=rfl
theorem lv_msl(a b d e:Nat):S9 (.msl a b d e) cs=cs.headD .und:=rfl
theorem lv_int(k:IntKind)(n:Int):S9 (.int k n) cs=cs.headD .und:=rfl
theorem lv_bool(b:Bool):S9 (.bool b) cs=cs.headD .und:=rfl
theorem lv_str(b:List UInt8):S9 (.str b) cs=cs.headD .und:=rfl
theorem lv_own(k sz:Nat):S9 (ownd k sz es) cs=cs.headD .und:=rfl
theorem lv_nsl:S9 .nilsl cs=cs.headD .und:=rfl
theorem hd_cons:(v::es).headD w=v:=rfl
theorem os_nil(n:Nat):openTs n []=([],[]):=rfl
theorem os_cons(n:Nat):openTs n (v::vs)=(S9 v (openT n v.cells).1::(openTs (n+(openT n v.cells).2.length) vs).1,(openT n v.cells).2++(openTs (n+(openT n v.cells).2.length) vs).2):=rfl
theorem ot_nil(n:Nat):openT n []=([],[]):=rfl
theorem ot_own(n sz:Nat):openT n (ownd 0 sz es::cs)=(.msl n 0 es.length sz::(openT (n+1) cs).1,.row 0 es sz::(openT (n+1) cs).2):=rfl
theorem ot_int(m:Nat)(k:IntKind)(n:Int):openT m (.int k n::cs)=(.int k n::(openT m cs).1,(openT m cs).2):=rfl
theorem ot_bool(m:Nat)(b:Bool):openT m (.bool b::cs)=(.bool b::(openT m cs).1,(openT m cs).2):=rfl
theorem ot_str(m:Nat)(b:List UInt8):openT m (.str b::cs)=(.str b::(openT m cs).1,(openT m cs).2):=rfl
theorem A9{os' ps:List PO}{vs vs' us rs:List AV}(h1:V0 vs rs os=(vs',os'))(h2:(refsL vs').Nodup)(h3:openTs 0 rs=(us,ps))(h4:renL (posOf (refsL vs')) vs'=us)(h5:FA (refsL vs') os' (refsL vs')=ps):backOk vs rs os:=by
 refine⟨?_,?_,?_⟩
 . grind
 . grind
 grind[mS]
theorem va_nil:viewAs os []=zs []:=rfl
theorem va_cons:viewAs os (v::vs)=consO (viewA os v) (viewAs os vs):=rfl
theorem co_some(t:List AV):consO (zs v) (zs t)=zs (v::t):=rfl
theorem vv_int(k:IntKind)(n:Int):viewA os (.int k n)=zs (.int k n):=rfl
theorem vv_bool(b:Bool):viewA os (.bool b)=zs (.bool b):=rfl
theorem wv_int(k:IntKind)(n:Int):viewV os (.int k n)=zs (.int k n):=rfl
theorem wv_str(b:List UInt8):viewV os (.str b)=zs (.str b):=rfl
def agO(l:Option (List AV)):Option AV:=match l with|some cs=>zs (.agg cs)|none=>zn
theorem agO_some:agO (zs cs)=zs (.agg cs):=rfl
theorem vv_agg:viewA os (.agg cs)=agO (viewL os cs):=rfl
theorem vl_nil:viewL os []=zs []:=rfl
theorem vl_cons:viewL os (v::vs)=consO (viewV os v) (viewL os vs):=rfl
def eD(l:Option (List AV)):Option AV:=match l with|some es=>zs (fslN es)|none=>zn
theorem fsO_some:eD (zs es)=zs (fslN es):=rfl
def UV(off n sz:Nat)(r:Option (Nat×List AV×Nat)):Option AV:=match r with
 |some (k,es,z)=>if k=0/\sz=z/\off+n<=es.length then eD (frzL ((es.drop off).take n))else zn
 |none=>zn
theorem vv_msl(id off n sz:Nat):viewA os (.msl id off n sz)=UV off n sz (rowOf os 6 id):=by
 show(match rowOf os 6 id with|some (k,es,z)=>_|none=>zn)=_
 cases rowOf os 6 id<;>rfl
theorem wv_msl(id off n sz:Nat):viewV os (.msl id off n sz)=UV off n sz (rowOf os 6 id):=vv_msl id off n sz
theorem vmE_some{n sz z:Nat}(h1:sz=z)(h2:n=es.length):UV 0 n sz (zs (0,es,z))=eD (frzL es):=by
 simp_all[UV]
theorem fz_nil:frzL []=zs []:=rfl
theorem fz_cons:frzL (v::vs)=consO (frzC v) (frzL vs):=rfl
theorem fz_int(k:IntKind)(n:Int):frzC (.int k n)=zs (.int k n):=rfl
theorem fz_str(b:List UInt8):frzC (.str b)=zs (.str b):=rfl
theorem fz_agg:frzC (.agg cs)=agO (frzL cs):=rfl
theorem fz_own(sz:Nat):frzC (ownd 0 sz es)=eD (frzL es):=rfl
theorem nf_int(k:IntKind)(n:Int):noF (.int k n)=zt:=rfl
theorem nf_bool(b:Bool):noF (.bool b)=zt:=rfl
theorem nf_str(b:List UInt8):noF (.str b)=zt:=rfl
theorem nf_agg:noF (.agg cs)=noFL cs:=rfl
theorem nf_own(sz:Nat):noF (ownd 0 sz es)=noFL es:=rfl
theorem nfl_nil:noFL []=zt:=rfl
theorem nfl_cons:noFL (v::es)=(noF v&&noFL es):=rfl
theorem or_nil:okRs []=zt:=rfl
theorem or_cons:okRs (v::vs)=(v.cells.all (fun c=>(ownOf c).isSome||clo c)&&okRs vs):=rfl
theorem on_int(k:IntKind)(n:Int):ownOf (.int k n)=zn:=rfl
theorem on_bool(b:Bool):ownOf (.bool b)=zn:=rfl
theorem on_str(b:List UInt8):ownOf (.str b)=zn:=rfl
end
noncomputable section
variable {E:Env}{fr:PF}{K K':PK}{v w x y c:AV}{vs es cs new:List AV}{te t:TI}{os l:List PO}{ids:List Nat}
theorem ok_int(k:IntKind)(n:Int):Fr (.int k n)=zt:=rfl
theorem ok_str(b:List UInt8):Fr (.str b)=zt:=rfl
theorem ok_msl(a b d e:Nat):Fr (.msl a b d e)=zt:=rfl
theorem ok_nsl:Fr .nilsl=zt:=rfl
theorem nr_eq(k sz:Nat):newRow k es sz K=⟨K.os++[.row k es sz],K.ext,K.tch⟩:=rfl
theorem bx_eq(h1:v.cells.length=t.size)(h2:v.cells.all Fr=zt):wQ t v K=.val (.ptr K.os.length 0 0) ⟨K.os++[.row 1 [v] t.size],K.ext,K.tch⟩:=if_pos ⟨h1,h2⟩
theorem wc_agg(off:Nat):AV.withCells (.agg cs) off new=.agg (cs.take off++(new++cs.drop (off+new.length))):=by
 show AV.agg (Q0 cs off new)=_
 grind[Q0,L6,L4,Q3,A7]
theorem wc_int(k:IntKind)(n:Int):AV.withCells (.int k n) 0 [c]=c:=rfl
theorem wc_bool(b:Bool):AV.withCells (.bool b) 0 [c]=c:=rfl
theorem wc_nsl:AV.withCells .nilsl 0 [c]=c:=rfl
theorem wc_msl(a b d e:Nat):AV.withCells (.msl a b d e) 0 [c]=c:=rfl
def RG(e:Option PO):Bool:=match e with|some (.row 0 _ _)=>zf|some (.row _ _ _)=>zt|_=>zf
theorem ra_eq(id:Nat):rawAt os id=RG os[id]?:=by
 grind[rawAt,RG]
theorem raE_0(sz:Nat):RG (zs (.row 0 es sz))=zf:=rfl
theorem raE_1(sz:Nat):RG (zs (.row 1 es sz))=zt:=rfl
theorem raE_sub(p i o:Nat):RG (zs (.sub p i o))=zf:=rfl
def RH(os:List PO)(n p i o:Nat)(es:List AV)(v:AV)(es':List AV)(c:Option (Nat×List AV×Nat)):Option (List PO):=match c with|some (k,_,sz)=>setRow os n p (es.set i (putCl v o (ownd k sz es')))|none=>zn
def UW(os:List PO)(n p i o:Nat)(es:List AV)(es':List AV)(v:Option AV):Option (List PO):=match v with|some v=>RH os n p i o es v es' (II v.cells[o]?)|none=>zn
def UX(os:List PO)(n p i o:Nat)(es':List AV)(r:Option (Nat×List AV×Nat)):Option (List PO):=match r with|some (_,es,_)=>UW os n p i o es es' es[i]?|none=>zn
def srE(os:List PO)(n id:Nat)(es':List AV)(e:Option PO):Option (List PO):=match e with|some (.row k _ sz)=>zs (os.set id (.row k es' sz))|some (.sub p i o)=>UX os n p i o es' (rowOf os n p)|_=>zn
theorem sr_eq(n id:Nat)(es':List AV):setRow os (n+1) id es'=srE os n id es' os[id]?:=by
 conv=>lhs;unfold setRow
 cases os[id]? with
 |none=>rfl
 | some e=>cases e with
  |sub p i o=>
   show(match rowOf os n p with|some (_,es,_)=>_|none=>zn)=UX os n p i o es' (rowOf os n p)
   cases rowOf os n p with
   |none=>rfl
   |some q=>
    obtain⟨k,es,z⟩:=q;show(match es[i]? with|some v=>_|none=>zn)=UW os n p i o es es' es[i]?
    cases es[i]? with
    |none=>rfl
    |some v=>
     show(match v.cells[o]? with|some c=>(match ownOf c with|some (k,_,sz)=>_|none=>zn)|none=>zn)=RH os n p i o es v es' (II v.cells[o]?)
     cases v.cells[o]? with
     |none=>rfl
     |some c=>
      show(match ownOf c with|some (k,_,sz)=>_|none=>zn)=RH os n p i o es v es' (ownOf c)
      cases ownOf c<;>rfl
  |_=>rfl
theorem srE_row(n id k sz:Nat)(es':List AV):srE os n id es' (zs (.row k es sz))=zs (os.set id (.row k es' sz)):=rfl
theorem srE_sub(n id p i o:Nat)(es':List AV):srE os n id es' (zs (.sub p i o))=UX os n p i o es' (rowOf os n p):=rfl
theorem srS_some(n p i o k z:Nat)(es':List AV):UX os n p i o es' (zs (k,es,z))=UW os n p i o es es' es[i]?:=rfl
theorem srC_some(n p i o:Nat)(es':List AV):UW os n p i o es es' (zs v)=RH os n p i o es v es' (II v.cells[o]?):=rfl
theorem srD_some(n p i o k sz:Nat)(A es':List AV):RH os n p i o es v es' (zs (k,A,sz))=setRow os n p (es.set i (putCl v o (ownd k sz es'))):=rfl
theorem pc_agg(o:Nat):putCl (.agg cs) o c=.agg (cs.set o c):=rfl
def IL(id:Nat)(K:PK)(os2:Option (List PO)):Option PK:=match os2 with|some os2=>zs ⟨os2,K.ext,rootOf K.os 6 id::K.tch⟩|none=>zn
def UY(t:TI)(id i off:Nat)(K:PK)(es:List AV)(v:AV)(r:Option (List AV×List PO)):Option PK:=match r with|some (cs,os1)=>IL id K (setRow os1 6 id (es.set i (v.withCells off cs)))|none=>zn
def UZ(t:TI)(id i off:Nat)(x:AV)(K:PK)(es:List AV)(v:AV)(r:Option (List PO)):Option PK:=match r with|some os0=>UY t id i off K es v (sealC K.ext (rootOf K.os 6 id) id i off os0 x.cells)|none=>zn
def RI(t:TI)(id i off:Nat)(x:AV)(K:PK)(es:List AV)(v:AV)(b:Bool):Option PK:=
 match b with
 |true=>IL id K (setRow K.os 6 id (es.set i (v.withCells off x.cells)))
 |false=>UZ t id i off x K es v (setRow (killS K.os id) 6 id (es.set i (v.withCells off (zqa t.size .und))))
def VA(t:TI)(id i off:Nat)(x:AV)(K:PK)(k sz:Nat)(es:List AV)(v:AV)(b:Bool):Option PK:=
 match b with
 |true=>if x.cells.all Fr=zt then zs ⟨K.os.set id (.row k (es.set i (v.withCells off x.cells)) sz),K.ext,id::K.tch⟩else zn
 |false=>RI t id i off x K es v (x.cells.all clo&&((v.cells.drop off).take t.size).all clo)
def VB(t:TI)(id i off:Nat)(x:AV)(K:PK)(k sz:Nat)(es:List AV)(v:Option AV):Option PK:=match v with
 |some v=>if x.cells.length=t.size/\0<t.size/\off+t.size<=sz then VA t id i off x K k sz es v (rawAt K.os id)else zn
 |none=>zn
def spR(t:TI)(id i off:Nat)(x:AV)(K:PK)(r:Option (Nat×List AV×Nat)):Option PK:=match r with|some (k,es,sz)=>VB t id i off x K k sz es es[i]?|none=>zn
theorem sp_eq(id i off:Nat):storeP t (.ptr id i off) x K=spR t id i off x K (rowOf K.os 6 id):=by
 unfold storeP;show(match rowOf K.os 6 id with|some (k,es,sz)=>_|none=>zn)=_
 cases rowOf K.os 6 id with
 |none=>rfl
 |some q=>
  obtain⟨k,es,sz⟩:=q;show(match es[i]? with|some v=>_|none=>zn)=VB t id i off x K k sz es es[i]?
  cases es[i]? with
  |none=>rfl
  |some v=>
   show(if _ then _ else zn)=(if _ then _ else zn)
   split
   . cases rawAt K.os id with
     |true=>rfl
     |false=>
      show(if(x.cells.all clo&&((v.cells.drop off).take t.size).all clo)=zt then _ else _)=RI t id i off x K es v (x.cells.all clo&&((v.cells.drop off).take t.size).all clo)
      cases (x.cells.all clo&&((v.cells.drop off).take t.size).all clo)with
      |true=>
       show(match setRow K.os 6 id _ with|some os2=>_|none=>zn)=IL id K (setRow K.os 6 id _)
       cases setRow K.os 6 id (es.set i (v.withCells off x.cells))<;>rfl
      |false=>
       show(match setRow (killS K.os id) 6 id _ with|some A=>_|none=>zn)=UZ t id i off x K es v (setRow (killS K.os id) 6 id _)
       cases setRow (killS K.os id) 6 id (es.set i (v.withCells off (zqa t.size .und)))with
       |none=>rfl
       |some A=>
        show(match sealC K.ext (rootOf K.os 6 id) id i off A x.cells with|some (cs,os1)=>_|none=>zn)=UY t id i off K es v (sealC K.ext (rootOf K.os 6 id) id i off A x.cells)
        cases sealC K.ext (rootOf K.os 6 id) id i off A x.cells with
        |none=>rfl
        |some q=>
         obtain⟨cs,os1⟩:=q;show(match setRow os1 6 id _ with|some os2=>_|none=>zn)=IL id K (setRow os1 6 id _)
         cases setRow os1 6 id (es.set i (v.withCells off cs))<;>rfl
   . rfl
theorem spR_some(id i off k sz:Nat):spR t id i off x K (zs (k,es,sz))=VB t id i off x K k sz es es[i]?:=rfl
theorem spE_some{id i off k sz:Nat}(h1:x.cells.length=t.size)(h2:0<t.size)(A:off+t.size<=sz):VB t id i off x K k sz es (zs v)=VA t id i off x K k sz es v (rawAt K.os id):=if_pos ⟨h1,h2,A⟩
theorem spB_true{id i off k sz:Nat}(h:x.cells.all Fr=zt):VA t id i off x K k sz es v zt=zs ⟨K.os.set id (.row k (es.set i (v.withCells off x.cells)) sz),K.ext,id::K.tch⟩:=if_pos h
theorem spB_false(id i off k sz:Nat):VA t id i off x K k sz es v zf=RI t id i off x K es v (x.cells.all clo&&((v.cells.drop off).take t.size).all clo):=rfl
theorem spC_true(id i off:Nat):RI t id i off x K es v zt=IL id K (setRow K.os 6 id (es.set i (v.withCells off x.cells))):=rfl
theorem spC_false(id i off:Nat):RI t id i off x K es v zf=UZ t id i off x K es v (setRow (killS K.os id) 6 id (es.set i (v.withCells off (zqa t.size .und)))):=rfl
theorem spO_some(id i off:Nat):UZ t id i off x K es v (zs os)=UY t id i off K es v (sealC K.ext (rootOf K.os 6 id) id i off os x.cells):=rfl
theorem spQ_some(id i off:Nat):UY t id i off K es v (zs (cs,os))=IL id K (setRow os 6 id (es.set i (v.withCells off cs))):=rfl
theorem spS_some(id:Nat):IL id K (zs os)=zs ⟨os,K.ext,rootOf K.os 6 id::K.tch⟩:=rfl
theorem rl_1:zqa 1 v=[v]:=rfl
def VC(c:AV)(r:Option (List AV×List PO)):Option (List AV×List PO):=match r with|some p=>zs (c::p.1,p.2)|none=>zn
def scM(ext r id i o:Nat)(os:List PO)(l:List AV)(q m sz:Nat)(e:Option PO):Option (List AV×List PO):=match e with
 |some (.row 0 es z)=>if m=es.length/\sz=z/\ext<=q/\q≠r then VC (ownd 0 sz es) (sealC ext r id i (o+1) (os.set q (.sub id i o)) l)else zn
 |_=>zn
theorem sc_nil(ext r id i o:Nat):sealC ext r id i o os []=zs ([],os):=rfl
theorem sc_clo{ext r id i o:Nat}(h:clo c=zt):sealC ext r id i o os (c::cs)=VC c (sealC ext r id i (o+1) os cs):=by
 conv=>lhs;unfold sealC
 rw[h];show Option.map _ (sealC ext r id i (o+1) os cs)=_
 cases sealC ext r id i (o+1) os cs<;>rfl
theorem sc_msl(ext r id i o q m sz:Nat):sealC ext r id i o os (.msl q 0 m sz::cs)=scM ext r id i o os cs q m sz os[q]?:=by
 conv=>lhs;unfold sealC
 show(match os[q]? with|some (.row 0 es z)=>_|_=>zn)=_
 cases os[q]? with
 |none=>rfl
 | some e=>cases e with
  |row k es z=>
   cases k with
   |zero=>
    show(if _ then Option.map _ _ else zn)=(if _ then _ else zn)
    split
    . cases sealC ext r id i (o+1) (os.set q (.sub id i o)) cs<;>rfl
    . rfl
   |succ=>rfl
  |_=>rfl
theorem scM_row{ext r id i o q m sz z:Nat}(h1:m=es.length)(h2:sz=z)(A:ext<=q)(B:q≠r):scM ext r id i o os cs q m sz (zs (.row 0 es z))=VC (ownd 0 sz es) (sealC ext r id i (o+1) (os.set q (.sub id i o)) cs):=if_pos ⟨h1,h2,A,B⟩
theorem scK_some(l:List AV):VC c (zs (l,os))=zs (c::l,os):=rfl
def RJ(v:AV)(r:Option (List AV×PK)):Option (List AV×PK):=match r with|some (vs,K)=>zs (v::vs,K)|none=>zn
def VD(E:Env)(l:List ResultVar)(fr:PF)(o:OpS):Option (List AV×PK):=match o with | .val v K=>RJ v (resP E l fr K)|_=>zn
def rsO(r:Option (List AV×PK)):Option PR:=match r with|some (vs,K)=>zs (.val vs K)|none=>zn
theorem rsT_some:RJ v (zs (vs,K))=zs (v::vs,K):=rfl
theorem rsC_val(l:List ResultVar):VD E l fr (.val v K)=RJ v (resP E l fr K):=rfl
theorem rsO_some:rsO (zs (vs,K))=zs (.val vs K):=rfl
theorem rs_0:resP E [] fr K=zs ([],K):=rfl
theorem rs_tmp(t:Nat)(l:List ResultVar):resP E (.tmp t::l) fr K=RJ (lookP fr t) (resP E l fr K):=by
 show(match resP E l fr K with|some (vs,K)=>zs (lookP fr t::vs,K)|none=>zn)=_
 cases resP E l fr K<;>rfl
theorem rs_cell(a t:Nat)(l:List ResultVar):resP E (.cell a t::l) fr K=VD E l fr (o7 E t fun ti=>Jd (loadP ti (lookP fr a) K)):=by
 show(match E.ti t with|some ti=>_|none=>zn)=VD E l fr (match E.ti t with|some ti=>_|none=>OpS.bad)
 grind[VD,Jd,RJ]
theorem bodyP_ret(rs:List ResultVar):xQ E rs (zs (.ok .ret fr K))=rsO (resP E rs fr K):=by
 show(match resP E rs fr K with|some (vs,K)=>_|none=>zn)=_
 cases resP E rs fr K<;>rfl
theorem bodyP_norm(rs:List ResultVar):xQ E rs (zs (.ok .normal fr K))=rsO (resP E rs fr K):=by
 show(match resP E rs fr K with|some (vs,K)=>_|none=>zn)=_
 cases resP E rs fr K<;>rfl
theorem M2{P:PE}{c:PC}(S:Nat->PF×PK)(n:Nat)(h:∀i,i<n->evP P (.code c (S i).1 (S i).2)=zs (.ok .normal (S (i+1)).1 (S (i+1)).2)):evP P (.code (.loop c) (S 0).1 (S 0).2)=evP P (.code (.loop c) (S n).1 (S n).2):=by
 induction n with
 |zero=>rfl
 |succ n A=>rw[A fun i hi=>h i (Nat.lt_succ_of_lt hi),loop_more (h n (Nat.lt_succ_self n))]
def X6{X:Type}(a r:X->List AV)(ok:X->Prop):List AV->Option (List AV):=fun args=>open Classical in if h:∃x,ok x/\a x=args then zs (r (Classical.choose h))else zn
theorem B6{X:Type}{a r:X->List AV}{ok:X->Prop}(hi:∀x y,a x=a y->r x=r y)(x:X)(h:ok x):X6 a r ok (a x)=zs (r x):=by
 have hx:∃y,ok y/\a y=a x:=⟨x,h,rfl⟩
 grind[X6]
theorem Mi{X:Type}{a r:X->List AV}{ok:X->Prop}{args rs:List AV}(h:X6 a r ok args=zs rs):∃x,ok x/\a x=args/\r x=rs:=by
 unfold X6 at h;split at h
 . grind
 . cases h
theorem B7{P:PE}(A:PEok P){f:Nat}{X:Type}{a r:X->List AV}{ok:X->Prop}(H:∀x,ok x->Comes P f (a x) (r x)):TC P.E f (X6 a r ok):=
 QY A fun args rs hg=>by obtain⟨x,h1,rfl,rfl⟩:=Mi hg;exact H x h1
theorem o9{X:Type}{f g:X->AV}(h:∀x,frzC (f x)=zs (g x)):∀l:List X,frzL (l.map f)=zs (l.map g)
 |[]=>rfl
 |x::l=>by
  show consO (frzC (f x)) (frzL (l.map f))=_
  rw[h,o9 h l];rfl
theorem ok_fslN:Fr (fslN es)=zt:=rfl
theorem cl_fslN:clo (fslN es)=zt:=rfl
theorem ce_fslN:AV.cells (fslN es)=[fslN es]:=rfl
theorem rf_fslN:O5 (fslN es)=[]:=rfl
theorem rv_fslN{σ:Nat->Option Nat}:J3 σ (fslN es)=fslN es:=rfl
theorem fz_fslN:frzC (fslN es)=eD (frzL es):=rfl
theorem vv_fslN:viewA os (fslN es)=eD (frzL es):=rfl
theorem wv_fslN:viewV os (fslN es)=eD (frzL es):=rfl
theorem ln_fslN:Jd (xS (fslN es) K)=.val (.int .i64 (es.length:Int)) K:=ln_fsl _ _
theorem ix_fslN{k:IntKind}{i:Nat}(h:es[i]?=zs v)(A:v.cells.length=te.size):Xc te (fslN es) (.int k (i:Int))=zs (.fptr v 0):=ix_fsl h A
theorem lv_fslN:S9 (fslN es) cs=cs.headD .und:=rfl
theorem te_fslN{ext:Nat}{tc:List Nat}(h:J4 te.size es=zt):takeE te (fslN es) ext tc os=zs (es,os):=if_pos h
theorem pf_f(o d:Nat):B9 (.fptr v o) d=zs (.fptr v (o+d)):=C0 (Nat.add o d) (fun q=>zs (AV.fptr v q))
theorem pf_p(id i o d:Nat):B9 (.ptr id i o) d=zs (.ptr id i (o+d)):=C0 (Nat.add o d) (fun q=>zs (AV.ptr id i q))
theorem ldW_eq(id i off:Nat):UR id i off K (zs w)=.val (S9 w (openC id i off K.os.length w.cells).1) ⟨K.os++(openC id i off K.os.length w.cells).2,K.ext,K.tch⟩:=rfl
theorem oc_nil(id i m nx:Nat):openC id i m nx []=([],[]):=rfl
theorem oc_own(id i m nx sz:Nat):openC id i m nx (ownd 0 sz es::cs)=(.msl nx 0 es.length sz::(openC id i (m+1) (nx+1) cs).1,.sub id i m::(openC id i (m+1) (nx+1) cs).2):=rfl
theorem oc_int(id i m nx:Nat)(k:IntKind)(n:Int):openC id i m nx (.int k n::cs)=(.int k n::(openC id i (m+1) nx cs).1,(openC id i (m+1) nx cs).2):=rfl
theorem oc_bool(id i m nx:Nat)(b:Bool):openC id i m nx (.bool b::cs)=(.bool b::(openC id i (m+1) nx cs).1,(openC id i (m+1) nx cs).2):=rfl
theorem oc_str(id i m nx:Nat)(b:List UInt8):openC id i m nx (.str b::cs)=(.str b::(openC id i (m+1) nx cs).1,(openC id i (m+1) nx cs).2):=rfl
theorem oc_fslN(id i m nx:Nat):openC id i m nx (fslN es::cs)=(fslN es::(openC id i (m+1) nx cs).1,(openC id i (m+1) nx cs).2):=rfl
theorem oc_msl(id i m nx:Nat)(a b d e:Nat):openC id i m nx (.msl a b d e::cs)=(.msl a b d e::(openC id i (m+1) nx cs).1,(openC id i (m+1) nx cs).2):=rfl
theorem oc_nsl(id i m nx:Nat):openC id i m nx (.nilsl::cs)=(.nilsl::(openC id i (m+1) nx cs).1,(openC id i (m+1) nx cs).2):=rfl
def bsE(te:TI)(n:Nat)(ps:List (Nat×AV))(K:PK)(r:Option PK):Option (AV×PK):=match r with
 |some K1=>zs (.msl K.os.length 0 n te.size,K1)
 | none=>match placeR te.size ps (zqa n te.zero)with
  |some es=>zs (.msl K.os.length 0 n te.size,newRow 2 es te.size K)
  |none=>zn
theorem bs_eq{n:Nat}{ps:List (Nat×AV)}(h1:n*te.size<=65536)(h2:0<te.size):Cm te n ps K=bsE te n ps K (placeP te K.os.length ps (newRow 0 (zqa n te.zero) te.size K)):=by
 unfold Cm;rw[if_pos ⟨h1,h2⟩];rfl
theorem bsE_some(n:Nat)(ps:List (Nat×AV)):bsE te n ps K (zs K')=zs (.msl K.os.length 0 n te.size,K'):=rfl
def plE(te:TI)(id:Nat)(l:List (Nat×AV))(r:Option PK):Option PK:=match r with|some K=>placeP te id l K|none=>zn
theorem pl_nil(id:Nat):placeP te id [] K=zs K:=rfl
theorem pl_cons{id i:Nat}{l:List (Nat×AV)}(h:Lm v=Lm te.zero):placeP te id ((i,v)::l) K=plE te id l (storeP te (.ptr id i 0) v K):=by
 conv=>lhs;unfold placeP
 rw[if_pos h];cases storeP te (.ptr id i 0) v K<;>rfl
theorem plE_some(id:Nat)(l:List (Nat×AV)):plE te id l (zs K)=placeP te id l K:=rfl
theorem rl_0:zqa 0 v=[]:=rfl
theorem rl_2:zqa 2 v=[v,v]:=rfl
theorem rl_3:zqa 3 v=[v,v,v]:=rfl
theorem rl_4:zqa 4 v=[v,v,v,v]:=rfl
theorem rl_5:zqa 5 v=[v,v,v,v,v]:=rfl
theorem rl_7:zqa 7 v=[v,v,v,v,v,v,v]:=rfl
theorem rl_8:zqa 8 v=[v,v,v,v,v,v,v,v]:=rfl
def xV(y:AV)(os:List PO)(sz:Nat)(es:List AV):Prop:=(es=[]/\y=.nilsl/\os=[])\/(y=.msl 0 0 es.length sz/\os=[.row 0 es sz])
theorem Gx{P:PE}{c:PC}{X:Type}{A:AV}{O:X->AV}{sz:Nat}{l:List X}
 (h0:0<l.length->evP P (.code c [(0,A),(3,.nilsl),(4,.int .i64 0)] ⟨[],0,[]⟩)=zs (.ok .normal [(0,A),(3,.msl 0 0 1 sz),(4,.int .i64 ((1:Nat):Int))] ⟨[.row 0 ((l.take 1).map O) sz],0,[]⟩))
 (h1:∀i,i<l.length->evP P (.code c [(0,A),(3,.msl 0 0 i sz),(4,.int .i64 i)] ⟨[.row 0 ((l.take i).map O) sz],0,[]⟩)=zs (.ok .normal [(0,A),(3,.msl 0 0 (i+1) sz),(4,.int .i64 ((i+1:Nat):Int))] ⟨[.row 0 ((l.take (i+1)).map O) sz],0,[]⟩))
 (hx:∀y K,∃fr',evP P (.code c [(0,A),(3,y),(4,.int .i64 l.length)] K)=zs (.ok (.exit 0) fr' K)/\lookP fr' 3=y):
 ∃fr' y os,evP P (.code (.loop c) [(0,A),(3,.nilsl),(4,.int .i64 0)] ⟨[],0,[]⟩)=zs (.ok (.exit 0) fr' ⟨os,0,[]⟩)/\lookP fr' 3=y/\xV y os sz (l.map O):=by
 cases hl:l.length with
 |zero=>
  obtain⟨fr',e1,e2⟩:=hx .nilsl ⟨[],0,[]⟩;rw[hl]at e1;exact⟨fr',_,[],loop_exit e1,e2,.inl (by grind)⟩
 |succ n=>
  have B:∀(n i:Nat),l.length=i+n->∃fr' y os,evP P (.code (.loop c) [(0,A),(3,.msl 0 0 i sz),(4,.int .i64 i)] ⟨[.row 0 ((l.take i).map O) sz],0,[]⟩)=zs (.ok (.exit 0) fr' ⟨os,0,[]⟩)/\lookP fr' 3=y/\xV y os sz (l.map O):=fun n=>by
   induction n with
   |zero=>
    intro i e;obtain rfl:i=l.length:=by omega
    obtain⟨fr',e1,e2⟩:=hx (.msl 0 0 l.length sz) ⟨[.row 0 (l.map O) sz],0,[]⟩;rw[List.take_length];exact⟨fr',_,_,loop_exit e1,e2,.inr ⟨by grind,rfl⟩⟩
   |succ n C=>intro i e;rw[loop_more (h1 i (by omega))];exact C (i+1) (by omega)
  rw[loop_more (h0 (by omega))];exact B n 1 (by omega)
theorem C6{y:AV}{os:List PO}{sz:Nat}{es:List AV}(h:xV y os sz es):backOk [y] [ownd 0 sz es] os:=by
 rcases h with⟨rfl,rfl,rfl⟩|⟨rfl,rfl⟩
 . exact A9 (vs':=[.msl 0 0 0 sz]) (os':=[.row 0 [] sz]) rfl (by show [0].Nodup;decide) (us:=[.msl 0 0 0 sz]) (ps:=[.row 0 [] sz]) rfl rfl rfl
 . exact A9 (vs':=[.msl 0 0 es.length sz]) (os':=[.row 0 es sz]) rfl (by show [0].Nodup;decide) (us:=[.msl 0 0 es.length sz]) (ps:=[.row 0 es sz]) rfl rfl rfl
theorem same_loop{P:PE}{c:PC}{X:Type}[DecidableEq X]{A B:AV}{l m:List X}(hm:l.length=m.length)
 (h1:∀i (h:i<l.length) (h':i<m.length),l[i]=m[i]->evP P (.code c [(0,A),(1,B),(5,.int .i64 i)] ⟨[],0,[]⟩)=zs (.ok .normal [(0,A),(1,B),(5,.int .i64 ((i+1:Nat):Int))] ⟨[],0,[]⟩))
 (h2:∀i (h:i<l.length) (h':i<m.length),¬l[i]=m[i]->∃fr',evP P (.code c [(0,A),(1,B),(5,.int .i64 i)] ⟨[],0,[]⟩)=zs (.ok .ret fr' ⟨[],0,[]⟩)/\lookP fr' 4=.bool zf)
 (hx:∃fr',evP P (.code c [(0,A),(1,B),(5,.int .i64 l.length)] ⟨[],0,[]⟩)=zs (.ok (.exit 0) fr' ⟨[],0,[]⟩)):
 (l=m/\∃fr',evP P (.code (.loop c) [(0,A),(1,B),(5,.int .i64 0)] ⟨[],0,[]⟩)=zs (.ok (.exit 0) fr' ⟨[],0,[]⟩))\/
 (l≠m/\∃fr',evP P (.code (.loop c) [(0,A),(1,B),(5,.int .i64 0)] ⟨[],0,[]⟩)=zs (.ok .ret fr' ⟨[],0,[]⟩)/\lookP fr' 4=.bool zf):=by
 have C:∀(n i:Nat),l.length=i+n->(l.drop i=m.drop i/\∃fr',evP P (.code (.loop c) [(0,A),(1,B),(5,.int .i64 i)] ⟨[],0,[]⟩)=zs (.ok (.exit 0) fr' ⟨[],0,[]⟩))\/
  (l.drop i≠m.drop i/\∃fr',evP P (.code (.loop c) [(0,A),(1,B),(5,.int .i64 i)] ⟨[],0,[]⟩)=zs (.ok .ret fr' ⟨[],0,[]⟩)/\lookP fr' 4=.bool zf):=fun n=>by
  induction n with
  |zero=>
   intro i e;obtain rfl:i=l.length:=by omega
   grind[loop_exit]
  |succ n ih=>
   intro i e;have hl:i<l.length:=by omega
   have hl':i<m.length:=by omega
   rw[zqh hl,zqh hl'];by_cases D:l[i]=m[i]
   . rw[loop_more (h1 i hl hl' D)]
     grind
   grind[Y2]
 exact C l.length 0 (by omega)
theorem D4{p:Prop}[Decidable p](h:¬p):decide p=zf:=by simp[h]
theorem B8{p:Prop}[Decidable p](h:p):decide p=zt:=by simp[h]
theorem tk_all{n:Nat}{l:List XOp}(h:(K.tch.all fun i=>decide (n<=i))=zt):Ds n l K=zt:=by grind[Ds]
def xW(off sz:Nat)(v:AV)(cs:List AV):Option (List AV):=if v.cells.length=sz/\off+sz<=cs.length/\v.cells.all Fr=zt then zs (cs.take off++(v.cells++cs.drop (off+v.cells.length)))else zn
theorem fp_ok{off sz:Nat}(h1:v.cells.length=sz)(h2:off+sz<=cs.length)(A:v.cells.all Fr=zt):xW off sz v cs=zs (cs.take off++(v.cells++cs.drop (off+v.cells.length))):=if_pos ⟨h1,h2,A⟩
theorem xX:∀l:List AV,D7 l=l.all Fr
 |[]=>rfl
 |c::l=>by
  show(bif okCell c then D7 l else zf)=(Fr c&&l.all Fr)
  rw[xX l];cases c<;>rfl
def VE(place:Nat->Option (Nat×Nat))(ps:List (Nat×AV))(r:Option (List AV)):Option (List AV):=match r with|some cs=>S7 place ps cs|none=>zn
theorem fbK_some(place:Nat->Option (Nat×Nat))(ps:List (Nat×AV)):VE place ps (zs cs)=S7 place ps cs:=rfl
theorem fb_nil(place:Nat->Option (Nat×Nat)):S7 place [] cs=zs cs:=rfl
def fbP(place:Nat->Option (Nat×Nat))(v:AV)(ps:List (Nat×AV))(cs:List AV)(q:Option (Nat×Nat)):Option (List AV):=match q with|some q=>VE place ps (xW q.1 q.2 v cs)|none=>zn
theorem fbP_some(place:Nat->Option (Nat×Nat))(ps:List (Nat×AV))(a b:Nat):fbP place v ps cs (zs (a,b))=VE place ps (xW a b v cs):=rfl
theorem fb_cons(place:Nat->Option (Nat×Nat))(i:Nat)(ps:List (Nat×AV)):S7 place ((i,v)::ps) cs=fbP place v ps cs (place i):=by
 show A6 (place i) (fun q=>B0 (Nat.beq (lenL v.cells) q.2&&Nat.ble (Nat.add q.1 q.2) (lenL cs)&&D7 v.cells) (S7 place ps (Q0 cs q.1 v.cells)))=_
 cases place i with
 |none=>rfl
 |some q=>
  show B0 _ _=VE place ps (if _ then _ else zn)
  rw[A7,A7,xX];by_cases h1:v.cells.length=q.2
  . by_cases h2:q.1+q.2<=cs.length
    . cases h3:v.cells.all Fr with
      |false=>rw[if_neg (fun h=>absurd h.2.2 (by decide)),Bool.and_false];rfl
      |true=>
       rw[if_pos ⟨h1,h2,rfl⟩];have e1:Nat.beq v.cells.length q.2=zt:=by simp_all
       have e2:Nat.ble (Nat.add q.1 q.2) cs.length=zt:=zqm h2;rw[e1,e2];show S7 place ps (Q0 cs q.1 v.cells)=S7 place ps _
       grind[Q0,L6,L4,Q3,A7]
    . have e2:Nat.ble (Nat.add q.1 q.2) cs.length=zf:=by
       cases hb:Nat.ble (Nat.add q.1 q.2) cs.length with
       |false=>rfl
       |true=>exact absurd (Nat.le_of_ble_eq_true hb) h2
      rw[if_neg (fun h=>h2 h.2.1),e2,Bool.and_false];rfl
  . have e1:Nat.beq v.cells.length q.2=zf:=by
     grind[Nat.eq_of_beq_eq_true]
    rw[if_neg (fun h=>h1 h.1),e1];rfl
def FB(l:Option (List AV)):Option AV:=l.map .agg
theorem agM_some:FB (zs cs)=zs (.agg cs):=rfl
def RK(K:PK)(r:Option PR):Option PR:=match r with
 |some (.val vs K1)=>zs (.val vs ⟨K1.os,K.ext,K1.tch++K.tch⟩)
 |some (.pan v K1)=>zs (.pan v ⟨K1.os,K.ext,K1.tch++K.tch⟩)
 |_=>zn
theorem inpK_val(vs:List AV):RK K (zs (.val vs K'))=zs (.val vs ⟨K'.os,K.ext,K'.tch++K.tch⟩):=rfl
theorem u6{T:Nat->Option (List AV->Option (List AV))}{F:Nat->Option PFn}{f:Nat}{args:List AV}(A:T f=zn)(B:inpOf (F f)=zt):evP ⟨E,T,F⟩ (.call f args K)=RK K (evP ⟨E,T,F⟩ (.body f args ⟨K.os,K.os.length,[]⟩)):=by
 rw[evP,evG];show(match T f with|some g=>_|none=>_)=_
 rw[A];dsimp only;show(match inpOf (F f)with|true=>_|false=>_)=_
 rw[B];dsimp only;cases evP ⟨E,T,F⟩ (.body f args ⟨K.os,K.os.length,[]⟩)with
 |none=>rfl
 |some r=>cases r<;>rfl
structure Lens(put:List AV->List PO)(id sz:Nat):Prop where
 row:∀es,rowOf (put es) 6 id=zs (0,es,sz)
 set:∀es es',setRow (put es) 6 id es'=zs (put es')
 raw:∀es,rawAt (put es) id=zf
def wpE(off n:Nat)(r:Option (Nat×List AV×Nat)):Bool:=match r with|some (_,es,_)=>off==0&&n==es.length|none=>zf
theorem wp_eq(id off n sz:Nat):wholeP (.msl id off n sz) os=wpE off n (rowOf os 6 id):=by
 show(match rowOf os 6 id with|some (_,es,_)=>_|none=>zf)=_
 cases rowOf os 6 id<;>rfl
theorem wpE_some{n k z:Nat}(h:n=es.length):wpE 0 n (zs (k,es,z))=zt:=by
 show((0:Nat)==0&&n==es.length)=zt
 rw[h];simp
theorem ap2_nil{s:AV}{base:List AV}{os2:List PO}{tc:List Nat}(h0:wholeP s K.os=zt)(hz:base.length*te.bytes<=140737488355328):
 IH te s K base tc (zs ([],os2))=zs (.msl os2.length 0 base.length te.size,⟨os2++[.row 0 base te.size],K.ext,os2.length::tc++K.tch⟩):=by
 simp_all[IH,joinP]
theorem Xd(os:List PO):∀(l:List PO)(n:Nat),killU os [] n l=l
 |[],n=>rfl
 |e::l,n=>by
  unfold killU;rw[Xd os l (n+1)];grind
theorem eE{T:Nat->Option (List AV->Option (List AV))}{F:Nat->Option PFn}{f:Nat}{args vs:List AV}{tch:List Nat}(A:T f=zn)(B:inpOf (F f)=zf)(C:refsL args=[])(hn:renL (posOf []) args=args)
 (hb:evP ⟨E,T,F⟩ (.body f args ⟨[],0,[]⟩)=zs (.val vs ⟨[],0,tch⟩))(hv:renL (backN [] K.os.length) vs=vs):evP ⟨E,T,F⟩ (.call f args K)=zs (.val vs K):=by
 rw[evP,evG];show(match T f with|some g=>_|none=>_)=_
 rw[A];dsimp only;show(match inpOf (F f)with|true=>_|false=>_)=_
 rw[B];dsimp only;have h1:focusIds args K=[]:=by unfold focusIds;rw[C];rfl
 rw[h1,hn];have h2:focusK [] K=⟨[],0,[]⟩:=rfl;rw[h2,hb];show(match mergeK [] K ⟨[],0,tch⟩with|some K'=>zs (PR.val (renL (backN [] K.os.length) vs) K')|none=>zn)=_
 have D:mergeK [] K ⟨[],0,tch⟩=zs K:=by
  unfold mergeK putBack;rw[if_pos (by rfl),Xd]
  have:(tch.filter fun x=>decide (x<([]:List Nat).length))=[]:=by
   simp_all
  simp only[this];simp
 rw[D,hv]
end
noncomputable section
variable {E:Env}{fr:PF}{K K' K1 Kf:PK}{v w x y c:AV}{vs es cs new:List AV}{te t:TI}{os l:List PO}{ids:List Nat}
structure LensK(put:List AV->List PO)(id sz:Nat):Prop extends Lens put id sz where
 kill:∀es,killS (put es) id=put es
theorem jC(ext r id i:Nat):∀(cs:List AV)(o:Nat)(os:List PO),cs.all clo=zt->sealC ext r id i o os cs=zs (cs,os)
 |[],_,_,_=>rfl
 |c::cs,o,os,h=>by
  rw[List.all_cons,Bool.and_eq_true]at h;rw[sc_clo h.1,jC ext r id i cs (o+1) os h.2];rfl
theorem Mj{as1 bs:List AV}(h:as1.length=bs.length):AV.withCells (.agg as1) 0 bs=.agg bs:=by
 grind[wc_agg]
theorem Sf{put:List AV->List PO}{id sz i ext:Nat}{tch:List Nat}{es as1 xs:List AV}(L:LensK put id sz)(A:es[i]?=zs (.agg as1))(ha:as1.length=sz)(hx:xs.length=sz)(ht:t.size=sz)(h0:0<sz)(hc:xs.all clo=zt):
 storeP t (.ptr id i 0) (.agg xs) ⟨put es,ext,tch⟩=zs ⟨put (es.set i (.agg xs)),ext,rootOf (put es) 6 id::tch⟩:=by
 have hi:i<es.length:=(zqc.1 A).1;rw[sp_eq,L.row,spR_some,A,spE_some (by rw[ce_agg];omega) (by omega) (by omega),L.raw,spB_false];cases (AV.cells (.agg xs)).all clo&&((AV.cells (.agg as1)).drop 0 |>.take t.size).all clo with
 |true=>rw[spC_true,L.set,spS_some,Mj (by rw[ce_agg];omega)];rfl
 |false=>
  rw[spC_false,L.kill,L.set,spO_some,jC _ _ _ _ _ _ _ (by rw[ce_agg];exact hc),spQ_some,L.set,spS_some,Mj (by rw[ce_agg];omega)];rfl
theorem ro5(os:List PO)(id:Nat):rowOf os 5 id=IJ os 4 os[id]?:=pH os 4 id
theorem ro4(os:List PO)(id:Nat):rowOf os 4 id=IJ os 3 os[id]?:=pH os 3 id
theorem nc_ptr(a b c:Nat):c8 (.ptr a b c)=zs (.ptr a b c):=rfl
theorem ro3(os:List PO)(id:Nat):rowOf os 3 id=IJ os 2 os[id]?:=pH os 2 id
theorem fl_none(l:List Nat):l.filter (fun _=>zf)=[]:=by simp
theorem RL{T:Nat->Option (List AV->Option (List AV))}{F:Nat->Option PFn}{f:Nat}{args A vs vs':List AV}(B:T f=zn)(C:inpOf (F f)=zf)(hi:focusIds args K=ids)(ha:renL (posOf ids) args=A)(D:focusK ids K=Kf)
 (hb:evP ⟨E,T,F⟩ (.body f A Kf)=zs (.val vs K1))(hm:mergeK ids K K1=zs K')(hv:renL (backN ids K.os.length) vs=vs'):evP ⟨E,T,F⟩ (.call f args K)=zs (.val vs' K'):=by
 rw[evP,evG];show(match T f with|some g=>_|none=>_)=_
 rw[B];dsimp only;show(match inpOf (F f)with|true=>_|false=>_)=_
 rw[C];dsimp only;rw[hi,ha,D,hb];show(match mergeK ids K K1 with|some K'=>zs (PR.val (renL (backN ids K.os.length) vs) K')|none=>zn)=_
 rw[hm,hv]
end
noncomputable section
end
open Go.ChangeShapes Go.WideShapes Go.ChangeAt
section
variable {H:Type}{enc:TypeId×Value->H}{P:Program}{W:World}{base:Nat}{spare:Nat->Bool}{held:Bool}
def IM(P:Program):Nat->List Field->Prop
 |_,[]=>True
 |o,f::fs=>f.offset=o/\IM P (o+P.cellsOf f.type) fs
theorem pI{see:TypeId->DataW H->Option (List AV)}:∀(fs:List Field)(ds:List (DataW H))(A:List (List AV))(o:Nat),ds.length=fs.length->A.length=fs.length ->
 (∀(i:Nat) f d s,fs[i]?=zs f->ds[i]?=zs d->A[i]?=zs s->see f.type d=zs s/\s.length=P.cellsOf f.type)->IM P o fs->eH P see o fs ds=zs A.flatten
 |[],ds,A,o,h1,h2,h3,h4=>by
  have:ds=[]:=zqf h1
  have:A=[]:=zqf h2
  subst_vars;rfl
 |f :: fs,ds,A,o,h1,h2,h3,h4=>by
  cases ds with
  |nil=>cases h1
  |cons d ds=>
   cases A with
   |nil=>cases h2
   |cons s A=>
    obtain⟨C,D⟩:=h3 0 f d s rfl rfl rfl;have B:=pI fs ds A (o+P.cellsOf f.type) (by simpa using h1) (by simpa using h2) (fun i f d s a b c=>h3 (i+1) f d s (by simpa using a) (by simpa using b) (by simpa using c)) h4.2;show(bif Nat.beq f.offset o then A6 (see f.type d) fun a=>bif Nat.beq (lenL a) (P.cellsOf f.type)then A6 (eH P see (Nat.add o (P.cellsOf f.type)) fs ds) fun r=>zs (appL a r)else zn else zn)=_
    rw[h4.1,zql,C];show(bif Nat.beq (lenL s) (P.cellsOf f.type)then A6 (eH P see (o+P.cellsOf f.type) fs ds) fun r=>zs (appL s r)else zn)=_
    rw[A7,D,zql,B];show zs (appL s A.flatten)=_
    rw[Q3];rfl
theorem u5:∀(ts:List TypeId)(ds:List (DataW H))(i:Nat) t d w,ts[i]?=zs t->ds[i]?=zs d->w∈d.weights P t->w∈DataW.weightsEach P ts ds
 |[],ds,i,t,d,w,h1,_,_=>by simp at h1
 |t0::ts,[],i,t,d,w,_,h2,_=>by simp at h2
 |t0::ts,d0::ds,0,t,d,w,h1,h2,h3=>by
  cases h1;cases h2;unfold DataW.weightsEach;exact zqg _ h3
 |t0::ts,d0::ds,i+1,t,d,w,h1,h2,h3=>by
  unfold DataW.weightsEach;exact zqi _ (u5 ts ds i t d w (by simpa using h1) (by simpa using h2) h3)
theorem Ga:∀(ds:List (DataW H))(e:TypeId)(i:Nat) d w,ds[i]?=zs d->w∈d.weights P e->w∈DataW.weightsAll P e ds
 |[],e,i,d,w,h,_=>by simp at h
 |d0::ds,e,0,d,w,h,hw=>by
  cases h;unfold DataW.weightsAll;exact zqg _ hw
 |d0::ds,e,i+1,d,w,h,hw=>by
  unfold DataW.weightsAll;exact zqi _ (Ga ds e i d w (by simpa using h) hw)
def Wt(P:Program)(t:TypeId)(d:DataW H):Prop:=∀w∈d.weights P t,w<=reachBytes
theorem jD{t:TypeId}{fs:Array Field}(N:P.underlying t=zs (.struct fs)){n:Nat}{cs:List Value}{d:DataW H}{ps:List MemPlace}(h:DataW.trod enc P W base spare held n t cs=zs (d,ps))(Q:Wt P t d):
 ∃ds,d=.agg ds/\ds.length=fs.toList.length/\∀(i:Nat) f,fs.toList[i]?=zs f->∃D n' G I,ds[i]?=zs D/\DataW.trod enc P W base spare held n' f.type G=zs (D,I)/\Wt P f.type D:=by
 obtain⟨xs,n',rfl,e,hcl,C,U⟩:=DataW.trod_struct N h;cases e;refine⟨xs.map (·.1),rfl,by simpa using C,fun i f hf=>?_⟩;have B:fs[i]?=zs f:=by simpa using hf
 have hi:i<xs.length:=by rw[C];exact(Array.getElem?_eq_some_iff.1 B).1
 have A:xs[i]?=zs xs[i]:=zqd hi;have h1:=U i f B;rw[A]at h1;refine⟨xs[i].1,n',_,xs[i].2,by rw[zqb,A];rfl,h1,fun w J=>Q w ?_⟩;unfold DataW.weights;rw[N];exact u5 _ _ i _ _ w (by rw[zqb,hf];rfl) (by rw[zqb,A];rfl) J
def Ym{α:Type}(P:Program)(e:TypeId)(Q:List AV->α->Prop)(v:AV)(l:List α):Prop:=
 ((v=.nilsl/\l=[])\/∃rs:List (List AV),v=.fsl (rs.map (seeV P e)) zf/\rs.length=l.length/\∀(i:Nat) r X,rs[i]?=zs r->l[i]?=zs X->Q r X)/\l.length*P.bytesOf e<=reachBytes
theorem pJ{α:Type}{see:DataW H->Option (List AV)}{Q:List AV->α->Prop}:∀(ds:List (DataW H)),(∀(i:Nat) d,ds[i]?=zs d->∃A X,see d=zs A/\Q A X)->∃(rs:List (List AV))(l:List α),jJ see ds=zs rs/\rs.length=ds.length/\l.length=ds.length/\∀(i:Nat) r X,rs[i]?=zs r->l[i]?=zs X->Q r X
 |[],_=>⟨[],[],rfl,rfl,rfl,fun i r X h=>by simp at h⟩
 |d :: ds,h=>by
  obtain⟨A,X,h1,h2⟩:=h 0 d rfl;obtain⟨rs,l,G,I,J,N⟩:=pJ ds fun i d D=>h (i+1) d (by simpa using D)
  refine⟨A::rs,X::l,?_,by simp[I],by simp[J],fun i r Y B C=>?_⟩
  . show A6 (see d) (fun a=>A6 (jJ see ds) fun r=>zs (a::r))=_
    rw[h1,G];rfl
  . cases i with
    |zero=>cases B;cases C;exact h2
    |succ i=>exact N i r Y (by simpa using B) (by simpa using C)
theorem Ao{α:Type}{Q:List AV->α->Prop}{t e:TypeId}{m:Nat}(C:P.underlying t=zs (.slice e))(h0:0<P.cellsOf e)
 (hel:∀n cs (d:DataW H) ps,DataW.trod enc P W base spare held n e cs=zs (d,ps)->Wt P e d->∃A X,Y8 P m e d=zs A/\(A.length=P.cellsOf e/\(Ap P e=zt\/A.length=1))/\Q A X)
 {n:Nat}{cs:List Value}{d:DataW H}{ps:List MemPlace}(h:DataW.trod enc P W base spare held n t cs=zs (d,ps))(hw:Wt P t d):∃v l,Y8 P (m+1) t d=zs [v]/\Ym P e Q v l:=by
 rcases DataW.trod_slice C h with⟨rfl,e1⟩|⟨a,len,cap,elems,rest,n',rfl,rfl,e1,_,hlc,_,I,J,_,_⟩
 . cases e1
   refine⟨.nilsl,[],?_,.inl ⟨rfl,rfl⟩,by simp⟩;unfold Y8;rw[C]
 . cases e1
   have D:∀(i:Nat) U,(elems.map (·.1))[i]?=zs U->∃A X,Y8 P m e U=zs A/\((A.length=P.cellsOf e/\(Ap P e=zt\/A.length=1))/\Q A X):=fun i U hi=>by
    rw[zqb,Option.map_eq_some_iff]at hi;obtain⟨x,hx,rfl⟩:=hi;have aa:i<len:=by rw[<-I];exact(zqc.1 hx).1
    have B:=J i aa;rw[hx]at B;cases N:W.cells? base (a.add (i*P.cellsOf e)) (P.cellsOf e)with
    |none=>rw[N]at B;cases B
    |some ac=>
     rw[N]at B;refine hel n' ac x.1 x.2 B fun w V=>hw w ?_
     unfold DataW.weights;rw[C];exact List.mem_cons_of_mem _ (zqg _ (Ga _ e i x.1 w (by rw[zqb,hx];rfl) V))
   obtain⟨rs,l,h1,h2,B,h4⟩:=pJ (Q:=fun A X=>(A.length=P.cellsOf e/\(Ap P e=zt\/A.length=1))/\Q A X) _ D;refine⟨.fsl (rs.map (seeV P e)) zf,l,?_,.inr ⟨rs,rfl,by rw[h2,B],fun i r X Y hX=>(h4 i r X Y hX).2⟩,?_⟩
   . unfold Y8
     rw[C];dsimp only;rw[show Nat.blt 0 (P.cellsOf e)=zt from zqm h0,h1];show(bif (rs.all fun r=>Nat.beq (lenL r) (P.cellsOf e)&&(Ap P e||Nat.beq (lenL r) 1))then zs [AV.fsl (rs.map (seeV P e)) zf]else zn)=_
     have:(rs.all fun r=>Nat.beq (lenL r) (P.cellsOf e)&&(Ap P e||Nat.beq (lenL r) 1))=zt:=by
      rw[List.all_eq_true];intro r Y;obtain⟨i,hi⟩:=zqj Y;have ab:i<l.length:=by rw[B,<-h2];exact(zqc.1 hi).1
      obtain⟨⟨q1,G⟩,_⟩:=h4 i r _ hi (zqd ab);rw[A7,q1,zql];rcases G with G|G
      . rw[G];rfl
      . rw[<-q1,G];simp
     rw[this];rfl
   . rw [B,zqk]
     have:=hw ((elems.length+rest.length)*P.bytesOf e) (by
      unfold DataW.weights;rw[C];simp)
     exact Nat.le_trans (Nat.mul_le_mul_right _ (Nat.le_add_right _ _)) this
theorem Ym.mem{α:Type}{e:TypeId}{Q:List AV->α->Prop}{v:AV}{l:List α}(C:Ym P e Q v l){X:α}(B:X∈l):∃r,Q r X:=by
 rcases C.1 with⟨rfl,rfl⟩|⟨rs,rfl,hl,D⟩
 . cases B
 . obtain⟨i,hi⟩:=zqj B
   have A:i<rs.length:=by rw[hl];exact(zqc.1 hi).1
   exact⟨_,D i _ X (zqd A) hi⟩
def Mk(P:Program):Nat->List (Nat×Nat)->Prop
 |_,[]=>True
 |o,f::fs=>f.2=o/\Mk P (o+P.cellsOf f.1) fs
theorem jE:∀(fs:List Field)(o:Nat),Mk P o (fs.map fun f=>(f.type,f.offset))->IM P o fs
 |[],_,_=>trivial
 |f::fs,o,h=>⟨h.1,jE fs _ h.2⟩
theorem jF:∀(A:List (List AV))(L:List (Nat×Nat)),A.length=L.length->(∀(i:Nat) s f,A[i]?=zs s->L[i]?=zs f->s.length=P.cellsOf f.1)->A.flatten.length=(L.map fun f=>P.cellsOf f.1).sum
 |[],[],_,_=>rfl
 |[],_::_,h,_=>by cases h
 |_::_,[],h,_=>by cases h
 |s::A,f::L,h,hc=>by
  rw[List.flatten_cons,List.length_append,List.map_cons,List.sum_cons,hc 0 s f rfl rfl,jF A L (by simpa using h) fun i s f a b=>hc (i+1) s f (by simpa using a) (by simpa using b)]
theorem aV{Qs:Nat->List AV->Prop}:∀(n:Nat),(∀i,i<n->∃s,Qs i s)->∃B:List (List AV),B.length=n/\∀(i:Nat) s,B[i]?=zs s->Qs i s
 |0,_=>⟨[],rfl,fun i s h=>by simp at h⟩
 |n + 1,h=>by
  obtain⟨B,h1,h2⟩:=aV n fun i hi=>h i (by omega)
  obtain⟨s,D⟩:=h n (by omega);refine⟨B++[s],by simp[h1],fun i t A=>?_⟩;rw[List.getElem?_append]at A;split at A
  . exact h2 i t A
  . rename_i hi
    cases C:i-B.length with
    |zero=>
     rw[C]at A;cases A
     have:i=n:=by omega
     subst this;exact D
    |succ k=>rw[C]at A;simp at A
theorem n9{t:TypeId}{fs:Array Field}{L:List (Nat×Nat)}{m:Nat}{Qs:Nat->List AV->Prop}(X:P.underlying t=zs (.struct fs))(J:fs.toList.map (fun f=>(f.type,f.offset))=L)(C:Mk P 0 L)(hc:P.cellsOf t=(L.map fun f=>P.cellsOf f.1).sum)
 (hF:∀(i ty off:Nat),L[i]?=zs (ty,off)->∀n cs (d:DataW H) ps,DataW.trod enc P W base spare held n ty cs=zs (d,ps)->Wt P ty d->∃s,Y8 P m ty d=zs s/\s.length=P.cellsOf ty/\Qs i s)
 {n:Nat}{cs:List Value}{d:DataW H}{ps:List MemPlace}(h:DataW.trod enc P W base spare held n t cs=zs (d,ps))(hw:Wt P t d):
 ∃A:List (List AV),Y8 P (m+1) t d=zs A.flatten/\A.flatten.length=P.cellsOf t/\A.length=L.length/\∀(i:Nat) s,A[i]?=zs s->Qs i s:=by
 obtain⟨ds,rfl,hl,Y⟩:=jD X h hw;have hLl:L.length=fs.toList.length:=by rw[<-J,zqk]
 obtain ⟨A,h1,h2⟩:=aV (Qs:=fun i s=>(∀N ty off,ds[i]?=zs N->L[i]?=zs (ty,off)->Y8 P m ty N=zs s/\s.length=P.cellsOf ty)/\Qs i s) L.length (fun i hi=>by
  obtain⟨f,hf⟩:∃f,fs.toList[i]?=zs f:=⟨_,zqd (by omega)⟩
  have G:L[i]?=zs (f.type,f.offset):=by rw[<-J,zqb,hf];rfl
  obtain⟨N,n',U,V,k1,k2,k3⟩:=Y i f hf;obtain⟨s,k4,k5,k6⟩:=hF i _ _ G n' U N V k2 k3;refine⟨s,fun di' ty off a b=>?_,k6⟩;rw[k1]at a;cases a;rw[G]at b;cases b;exact⟨k4,k5⟩)
 have I:∀(i:Nat) f d s,fs.toList[i]?=zs f->ds[i]?=zs d->A[i]?=zs s->Y8 P m f.type d=zs s/\s.length=P.cellsOf f.type:=fun i f d s hf Q D =>
  (h2 i s D).1 d f.type f.offset Q (by rw[<-J,zqb,hf];rfl)
 have B:A.flatten.length=P.cellsOf t:=by
  rw[hc];refine jF A L h1 fun i s f D hf=>?_
  obtain⟨d,Q⟩:∃d,ds[i]?=zs d:=⟨_,zqd (by have:=(zqc.1 hf).1;omega)⟩
  exact((h2 i s D).1 d f.1 f.2 Q hf).2
 refine⟨A,?_,B,h1,fun i s D=>(h2 i s D).2⟩;unfold Y8;rw[X];show A6 (eH P (Y8 P m) 0 fs.toList ds) (fun r=>bif Nat.beq (lenL r) (P.cellsOf t)then zs r else zn)=_
 rw[pI fs.toList ds A 0 hl (by omega) I (jE _ 0 (by rw[J];exact C))];show(bif Nat.beq (lenL A.flatten) (P.cellsOf t)then zs A.flatten else zn)=_
 rw[A7,B,zql];rfl
theorem Ym.fz{α:Type}{e:TypeId}{Q:List AV->α->Prop}{F:α->AV}{v:AV}{l:List α}(A:Ym P e Q v l){Z:Nat->Prop}{h:Heap}(B:∀r X,Q r X->Fz Z h (seeV P e r) (F X)):Fz Z h v (fslN (l.map F)):=by
 rcases A.1 with⟨rfl,rfl⟩|⟨rs,rfl,hl,G⟩
 . exact .emp .nil
 . cases l with
   |nil=>
    have:rs=[]:=zqf hl
    subst this;exact .emp .fsl
   |cons a l=>
    refine .fsl (by simp[hl]) (fun i x y h1 h2=>?_) rfl;rw[zqb,Option.map_eq_some_iff]at h1 h2;obtain⟨r,C,rfl⟩:=h1;obtain⟨X,D,rfl⟩:=h2;exact B r X (G i r X C D)
end
end Go.AM
