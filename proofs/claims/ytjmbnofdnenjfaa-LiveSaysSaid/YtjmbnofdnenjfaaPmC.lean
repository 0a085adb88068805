/- The tree machine: code as trees, memory by kept numbers, and that it says what the machine does. Conditions: none. -/
import Derived.Test.YtjmbnofdnenjfaaPmB
set_option linter.unusedVariables false
set_option linter.unusedSimpArgs false
set_option linter.unusedSectionVars false
set_option linter.defProp false
set_option maxHeartbeats 4000000
open List renaming replicate→zqa,getElem?_map→zqb,getElem?_eq_getElem→zqc,range→zqd,getElem?_eq_some_iff→zqe,eq_nil_of_length_eq_zero→zqf,mem_append_left→zqg,drop_eq_getElem_cons→zqh,mem_append_right→zqi,getElem?_of_mem→zqj,length_map→zqk
open Nat renaming beq_refl→zql,ble_eq_true_of_le→zqm
namespace Go.AM
noncomputable section
variable {E:Env}{fr:PF}{K K':PK}{v w x y:AV}{vs:List AV}
theorem lk_hit(i:Nat)(r:PF):lookP ((i,v)::r) i=v:=by show(if i=i then v else _)=v;grind
theorem lk_cons(i j:Nat)(r:PF):lookP ((i,v)::r) j=if i=j then v else lookP r j:=rfl
theorem st_some(t:Nat):setP (some t) v fr=(t,v)::fr:=rfl
theorem st_none:setP none v fr=fr:=rfl
theorem ov_tmp(t:Nat):opvP E (.tmp t) fr=lookP fr t:=rfl
theorem ov_int(k:IntKind)(n:Int):opvP E (.const (.int k n)) fr=.int k n:=rfl
theorem ov_bool(b:Bool):opvP E (.const (.bool b)) fr=.bool b:=rfl
theorem ov_str(s:List UInt8):opvP E (.const (.string ⟨⟨s⟩⟩)) fr=.str s:=rfl
theorem ov_nsl:opvP E (.const (.slice none 0 0)) fr=.nilsl:=rfl
theorem ov_func(f:Nat):opvP E (.func f) fr=.fn (.func f) [] []:=rfl
theorem ol_nil:opvL E [] fr=[]:=rfl
theorem ol_cons(x:Operand)(l:List Operand):opvL E (x::l) fr=opvP E x fr::opvL E l fr:=rfl
theorem oq_nil:cV E [] fr=[]:=rfl
theorem oq_cons(i:Nat)(x:Operand)(l:List (Nat×Operand)):cV E ((i,x)::l) fr=(i,opvP E x fr)::cV E l fr:=rfl
theorem oo_none:cW E none fr=none:=rfl
theorem oo_some(x:Operand):cW E (some x) fr=some (opvP E x fr):=rfl
theorem en_nil(i:Nat):enterP i []=[]:=rfl
theorem en_cons(i:Nat)(l:List AV):enterP i (v::l)=(i,v)::enterP (i+1) l:=rfl
theorem one_1(v:AV):oneOrTup [v]=v:=rfl
theorem one_2(v w:AV):oneOrTup [v,w]=.tup [v,w]:=rfl
theorem one_0:oneOrTup []=.tup []:=rfl
theorem ofV_some(v:AV):Hn (some v) K=.val v K:=rfl
theorem ofO_some(v:AV)(K':PK):Kn (some (v,K'))=.val v K':=rfl
def MK(x:AV)(i:Nat)(K:PK):OpS:=match x with | .tup vs=>Hn vs[i]? K|_=>.bad
theorem exP_tup(vs:List AV)(i:Nat):MK (.tup vs) i K=Hn vs[i]? K:=rfl
theorem pr_move(x:Operand):prim E (.move x) fr K=.val (opvP E x fr) K:=rfl
theorem pr_assign(x:Operand):prim E (.assign x) fr K=.val (opvP E x fr) K:=rfl
theorem pr_pick(c a b:Operand):prim E (.pick c a b) fr K=Mg (opvP E c fr) (opvP E a fr) (opvP E b fr) K:=rfl
theorem pick_true(a b:AV):Mg (.bool true) a b K=.val a K:=rfl
theorem pick_false(a b:AV):Mg (.bool false) a b K=.val b K:=rfl
theorem pr_alloc(t:Nat):prim E (.alloc t) fr K=g9 E t fun ti=>.val (.ptr K.os.length 0 0) (newRow 1 [ti.zero] ti.size K):=rfl
theorem pr_box(t:Nat)(x:Operand):prim E (.box t x) fr K=g9 E t fun ti=>wB ti (opvP E x fr) K:=rfl
theorem pr_build(t:Nat)(ps:Array (Nat×Operand)):prim E (.build t ps) fr K=g9 E t fun ti=>Hn (X5 E ti (cV E ps.toList fr)) K:=rfl
theorem pr_buildSl(t n:Nat)(ps:Array (Nat×Operand)):prim E (.buildSlice t n ps) fr K=g9 E t fun ti=>match elemOfT E ti.desc with|some te=>Kn (Cm te n (cV E ps.toList fr) K)|none=>.bad:=rfl
theorem pr_load(t:Nat)(a:Operand):prim E (.load t a) fr K=g9 E t fun ti=>Kn (loadP ti (opvP E a fr) K):=rfl
theorem pr_store(t:Nat)(a x:Operand):prim E (.store t a x) fr K=g9 E t fun ti=>Kn ((storeP ti (opvP E a fr) (opvP E x fr) K).map fun K=>(.und,K)):=rfl
theorem pr_bin(op:BinOp)(t u:Nat)(x y:Operand):prim E (.binOp op t x y u) fr K=a8 E op t (opvP E x fr) (opvP E y fr) K:=rfl
theorem pr_un(op:UnOp)(t:Nat)(x:Operand):prim E (.unOp op t x) fr K=Hn (Pk op (opvP E x fr)) K:=rfl
theorem pr_conv(s d:Nat)(x:Operand):prim E (.convert s d x) fr K=g9 E s fun _=>g9 E d fun td=>Hn (S4 td.desc (opvP E x fr)) K:=rfl
theorem pr_fn(f:Fn)(a c:Array Operand):prim E (.makeFunc f a c) fr K=.val (.fn f (opvL E a.toList fr) (opvL E c.toList fr)) K:=rfl
theorem pr_slice(t:Nat)(x:Operand)(lo hi mx:Option Operand):prim E (.slice t x lo hi mx) fr K=g9 E t fun ti=>bif hi.isNone&&mx.isSome then .bad else Hn (Vt E ti.desc (cW E lo fr) (cW E hi fr) (cW E mx fr) (opvP E x fr)) K:=rfl
theorem pr_fa(t:Nat)(x:Operand)(f:Nat):prim E (.fieldAddr t x f) fr K=g9 E t fun ti=>Hn (N4 E ti f (opvP E x fr)) K:=rfl
theorem pr_ia(t:Nat)(x i:Operand):prim E (.indexAddr t x i) fr K=g9 E t fun ti=>Hn (Jg E ti (opvP E x fr) (opvP E i fr)) K:=rfl
theorem pr_ex(t:Operand)(i:Nat):prim E (.extract t i) fr K=MK (opvP E t fr) i K:=rfl
theorem pr_bui(b:Builtin)(args:Array Operand)(ts:Array TypeId):prim E (.call ⟨.builtin b,args,ts⟩) fr K=Kn (I8 E b ts.toList (opvL E args.toList fr) K):=rfl
theorem pr_call(f:Nat)(args:Array Operand)(ts:Array TypeId):prim E (.call ⟨.value (.func f),args,ts⟩) fr K=.call f (opvL E args.toList fr):=by
 show OpS.call f ([]++(opvL E args.toList fr++[]))=_
 grind
theorem pr_callv(t:Nat)(args:Array Operand)(ts:Array TypeId):prim E (.call ⟨.value (.tmp t),args,ts⟩) fr K=Mh (lookP fr t) (opvL E args.toList fr):=rfl
theorem callP_fn(f:Nat)(a c l:List AV):Mh (.fn (.func f) a c) l=.call f (a++(l++c)):=rfl
theorem bp(op:BinOp)(t:Nat)(hx:Oj x=true)(hy:Oj y=true):a8 E op t x y K=Hn (O9 op (N8 E t) x y) K:=if_pos ⟨hx,hy⟩
theorem bp_add(t:Nat)(k:IntKind)(a b:Int):a8 E .add t (.int k a) (.int k b) K=.val (.int k (k.wrap (a+b))) K:=by rw[bp _ _ rfl rfl,LL];rfl
theorem bp_sub(t:Nat)(k:IntKind)(a b:Int):a8 E .sub t (.int k a) (.int k b) K=.val (.int k (k.wrap (a-b))) K:=by rw[bp _ _ rfl rfl,LM];rfl
theorem bp_eql(t:Nat)(k:IntKind)(a b:Int):a8 E .eql t (.int k a) (.int k b) K=.val (.bool (decide (a=b))) K:=by rw[bp _ _ rfl rfl,LO];rfl
theorem bp_neq(t:Nat)(k:IntKind)(a b:Int):a8 E .neq t (.int k a) (.int k b) K=.val (.bool (!decide (a=b))) K:=by rw[bp _ _ rfl rfl,LP];rfl
theorem bp_lss(t:Nat)(k:IntKind)(a b:Int):a8 E .lss t (.int k a) (.int k b) K=.val (.bool (decide (a<b))) K:=by rw[bp _ _ rfl rfl,LQ];rfl
theorem bp_leq(t:Nat)(k:IntKind)(a b:Int):a8 E .leq t (.int k a) (.int k b) K=.val (.bool (decide (a<=b))) K:=by rw[bp _ _ rfl rfl,LR];rfl
theorem bp_gtr(t:Nat)(k:IntKind)(a b:Int):a8 E .gtr t (.int k a) (.int k b) K=.val (.bool (decide (b<a))) K:=by rw[bp _ _ rfl rfl,LS];rfl
theorem bp_geq(t:Nat)(k:IntKind)(a b:Int):a8 E .geq t (.int k a) (.int k b) K=.val (.bool (decide (b<=a))) K:=by rw[bp _ _ rfl rfl,LU];rfl
theorem bp_eqlS(t:Nat)(a b:List UInt8):a8 E .eql t (.str a) (.str b) K=.val (.bool (decide (a=b))) K:=by rw[bp _ _ rfl rfl,FO];rfl
theorem bp_neqS(t:Nat)(a b:List UInt8):a8 E .neq t (.str a) (.str b) K=.val (.bool (!decide (a=b))) K:=by rw[bp _ _ rfl rfl,FP];rfl
theorem wt_true(b:Bool):j2 true (.bool b)=some b:=rfl
theorem wt_false(b:Bool):j2 false (.bool b)=some (!b):=rfl
theorem wt_skip(w:Bool):j2 w skipped=some false:=rfl
theorem A8{i:Nat}(h:i<9223372036854775807):IntKind.i64.wrap ((i:Int)+1)=((i+1:Nat):Int):=by
 rw[IntKind.wrap_i64];omega
def xF(x:AV)(K:PK):Option (AV×PK):=(eF x).map fun n=>(.int .i64 (Int.ofNat n),K)
theorem ln_fsl(es:List AV)(f:Bool):Kn (xF (.fsl es f) K)=.val (.int .i64 (es.length:Int)) K:=by
 show Kn ((some (lenL es)).map _)=_;rw[A9];rfl
theorem ln_msl(id off n sz:Nat):Kn (xF (.msl id off n sz) K)=.val (.int .i64 (n:Int)) K:=rfl
theorem ln_nil:Kn (xF .nilsl K)=.val (.int .i64 0) K:=rfl
def Qp(te:TI)(x i:AV):Option AV:=match asNat i with|some n=>eH te n x|none=>none
theorem ix_fsl{te:TI}{k:IntKind}{i:Nat}{es:List AV}{f:Bool}(h:es[i]?=some v)(hs:v.cells.length=te.size):Qp te (.fsl es f) (.int k (i:Int))=some (.fptr v 0):=by
 show A7 (Ep es i) (fun v=>B6 (Nat.beq (lenL v.cells) te.size) (some (AV.fptr v 0)))=_
 rw[S3,h];show B6 (Nat.beq (lenL v.cells) te.size) (some (AV.fptr v 0))=_
 rw[A9,hs,zql];rfl
theorem ix_msl{te:TI}{k:IntKind}{i id off n sz:Nat}(h:i<n)(hs:sz=te.size):Qp te (.msl id off n sz) (.int k (i:Int))=some (.ptr id (off+i) 0):=by
 show B6 (Nat.blt i n&&Nat.beq sz te.size) (N7 (Nat.add off i) fun o=>some (AV.ptr id o 0))=_
 rw[C9,hs,zql,show Nat.blt i n=true from zqm h];rfl
theorem ld_f(t:TI)(v:AV)(off:Nat):Kn (loadP t (.fptr v off) K)=Hn (partOf t v.cells off) K:=by
 show Kn ((partOf t v.cells off).map (·,K))=_
 cases partOf t v.cells off<;>rfl
def PB(id i off:Nat)(K:PK)(w:Option AV):OpS:=match w with|some w=>.val (Vs id i off w K).1 (Vs id i off w K).2|none=>.bad
def PD(t:TI)(id i off:Nat)(K:PK)(v:Option AV):OpS:=match v with|some v=>PB id i off K (partOf t v.cells off)|none=>.bad
def ldR(t:TI)(id i off:Nat)(K:PK)(r:Option (Nat×List AV×Nat)):OpS:=match r with|some (_,es,_)=>PD t id i off K es[i]?|none=>.bad
theorem ld_p(t:TI)(id i off:Nat):Kn (loadP t (.ptr id i off) K)=ldR t id i off K (rowOf K.os 6 id):=by
 show Kn (match rowOf K.os 6 id with|some (_,es,_)=>_|none=>none)=_
 cases rowOf K.os 6 id with
 |none=>rfl
 | some q =>
  obtain⟨k,es,z⟩:=q;show Kn (match es[i]? with|some v=>_|none=>none)=PD t id i off K es[i]?
  cases es[i]? with
  |none=>rfl
  | some v =>
   show Kn (match partOf t v.cells off with|some w=>_|none=>none)=PB id i off K (partOf t v.cells off)
   cases partOf t v.cells off<;>rfl
theorem ldR_some(t:TI)(id i off k z:Nat)(es:List AV):ldR t id i off K (some (k,es,z))=PD t id i off K es[i]?:=rfl
theorem ldE_some(t:TI)(id i off:Nat):PD t id i off K (some v)=PB id i off K (partOf t v.cells off):=rfl
end
noncomputable section
variable {E:Env}{fr:PF}{K K':PK}{v w x y:AV}{vs es:List AV}{te:TI}{os:List PO}
theorem tb_nil:takeB te .nilsl os=some ([],os,[]):=rfl
def ZC(te:TI)(id off n sz:Nat)(os:List PO)(e:Option PO):Option (List AV×List PO×List Nat):=match e with
 |some (.row k es z)=>if k=0/\z=te.size/\sz=z/\off+n<=es.length then some ((es.drop off).take n,(killP os id []).set id .dead,[id])else none
 |some (.sub p i o)=>takeB te (.msl id off n sz) os
 |_=>none
theorem tb_eq(id off n sz:Nat):takeB te (.msl id off n sz) os=ZC te id off n sz os os[id]?:=by
 cases h:os[id]? with
 | none =>
  unfold takeB
  have:rowOf os 6 id=none:=by unfold rowOf;rw[h]
  simp only[this];rfl
 | some e =>
  cases e with
  | row k es z =>
   unfold takeB
   have:rowOf os 6 id=some (k,es,z):=by unfold rowOf;rw[h]
   simp only[this,h];rfl
  | mapo m =>
   unfold takeB
   have:rowOf os 6 id=none:=by unfold rowOf;rw[h]
   simp only[this];rfl
  | dead =>
   unfold takeB
   have:rowOf os 6 id=none:=by unfold rowOf;rw[h]
   simp only[this];rfl
  |sub p i o=>rfl
theorem tbE_row{id n sz z:Nat}(h1:z=te.size)(h2:sz=z)(h3:n=es.length):ZC te id 0 n sz os (some (.row 0 es z))=some (es,(killP os id []).set id .dead,[id]):=by
 simp_all[ZC]
def GN(te:TI)(id n sz ext:Nat)(tc:List Nat)(os:List PO)(e:Option PO)(d:Option (List AV×List PO)):Option (List AV×List PO):=match e with
 | some (.row 0 es z)=>if z=te.size/\sz=z/\n=es.length then(match flatT te with
  |true=>if Qk es=true then some (es,os)else none
  |false=>if ext<=id/\¬id∈tc then some (es,(killP os id []).set id .dead)else none)else d
 |_=>d
def teD(te:TI)(id n sz ext:Nat)(tc:List Nat)(os:List PO):Option (List AV×List PO):=takeE te (.msl id 0 n sz) ext tc os
theorem te_eq(id n sz ext:Nat)(tc:List Nat):takeE te (.msl id 0 n sz) ext tc os=GN te id n sz ext tc os os[id]? (teD te id n sz ext tc os):=by
 unfold GN;split
 . rename_i es z h
   split
   . grind[rowOf,takeE]
   . rfl
 . rfl
theorem teE_flat{id n sz z ext:Nat}{tc:List Nat}{d:Option (List AV×List PO)}(hf:flatT te=true)(h1:z=te.size)(h2:sz=z)(h3:n=es.length)(he:Qk es=true):GN te id n sz ext tc os (some (.row 0 es z)) d=some (es,os):=by
 simp_all[GN]
theorem teE_row{id n sz z ext:Nat}{tc:List Nat}{d:Option (List AV×List PO)}(hf:flatT te=false)(h1:z=te.size)(h2:sz=z)(h3:n=es.length)(hx:ext<=id)(hc:¬id∈tc):GN te id n sz ext tc os (some (.row 0 es z)) d=some (es,(killP os id []).set id .dead):=by
 simp_all[GN]
theorem te_fsl{f:Bool}{ext:Nat}{tc:List Nat}(h:L8 te.size es=true):takeE te (.fsl es f) ext tc os=some (es,os):=if_pos h
def FY(te:TI)(s:AV)(K:PK)(base:List AV)(tc:List Nat)(r:Option (List AV×List PO)):Option (AV×PK):=match r with
 |some (xs,os2)=>if(!xs.isEmpty||wholeP s K.os)=true then joinP te base xs os2 tc K else none
 |none=>none
def ZD(te:TI)(s x:AV)(K:PK)(r:Option (List AV×List PO×List Nat)):Option (AV×PK):=match r with
 |some (base,os1,tc)=>FY te s K base tc (takeE te x K.ext tc os1)
 |none=>none
theorem ap_eq(s x:AV):m7 te s x K=ZD te s x K (takeB te s K.os):=by
 grind[m7,ZD,FY]
theorem ap1_some{s x:AV}(base:List AV)(os1:List PO)(tc:List Nat):ZD te s x K (some (base,os1,tc))=FY te s K base tc (takeE te x K.ext tc os1):=rfl
theorem ap2_some{s:AV}{base xs:List AV}{os2:List PO}{tc:List Nat}(h0:xs.isEmpty=false)(hz:(base.length+xs.length)*te.bytes<=140737488355328):
 FY te s K base tc (some (xs,os2))=some (.msl os2.length 0 (base.length+xs.length) te.size,⟨os2++[.row 0 (base++xs) te.size],K.ext,os2.length::tc++K.tch⟩):=by
 unfold FY;simp only[h0];rw[if_pos (by rfl)];exact if_pos hz
end
noncomputable section
variable {E:Env}{fr:PF}{K K':PK}{v w x y c:AV}{vs es cs:List AV}{te:TI}{os l:List PO}{ids:List Nat}
theorem cl_int(k:IntKind)(n:Int):clo (.int k n)=true:=rfl
theorem cl_bool(b:Bool):clo (.bool b)=true:=rfl
theorem cl_str(b:List UInt8):clo (.str b)=true:=rfl
theorem cl_own(k sz:Nat):clo (ownd k sz es)=false:=rfl
theorem cl_msl(a b d e:Nat):clo (.msl a b d e)=false:=rfl
theorem ag_int(k:IntKind)(n:Int):Jf (.int k n)=false:=rfl
theorem ag_bool(b:Bool):Jf (.bool b)=false:=rfl
theorem ag_agg:Jf (.agg cs)=true:=rfl
theorem cl_nsl:clo .nilsl=true:=rfl
theorem ce_int(k:IntKind)(n:Int):AV.cells (.int k n)=[.int k n]:=rfl
theorem ce_bool(b:Bool):AV.cells (.bool b)=[.bool b]:=rfl
theorem ce_str(b:List UInt8):AV.cells (.str b)=[.str b]:=rfl
theorem ce_agg:AV.cells (.agg cs)=cs:=rfl
theorem ce_fsl(f:Bool):AV.cells (.fsl es f)=[.fsl es f]:=rfl
theorem ce_nsl:AV.cells .nilsl=[.nilsl]:=rfl
theorem ce_msl(a b d e:Nat):AV.cells (.msl a b d e)=[.msl a b d e]:=rfl
theorem ce_own(k sz:Nat):AV.cells (ownd k sz es)=[ownd k sz es]:=rfl
theorem fl_nil:Qk []=true:=rfl
theorem fl_cons:Qk (v::es)=(v.cells.all clo&&Qk es):=rfl
def FZ(c:Option AV):Option (Nat×List AV×Nat):=match c with|some c=>ownOf c|none=>none
def PG(o:Nat)(v:Option AV):Option (Nat×List AV×Nat):=match v with|some v=>FZ v.cells[o]?|none=>none
def PH(i o:Nat)(r:Option (Nat×List AV×Nat)):Option (Nat×List AV×Nat):=match r with|some (_,es,_)=>PG o es[i]?|none=>none
def ML(os:List PO)(n:Nat)(e:Option PO):Option (Nat×List AV×Nat):=match e with|some (.row k es sz)=>some (k,es,sz)|some (.sub p i o)=>PH i o (rowOf os n p)|_=>none
theorem DB(os:List PO)(n id:Nat):rowOf os (n+1) id=ML os n os[id]?:=by
 conv=>lhs;unfold rowOf
 cases os[id]? with
 |none=>rfl
 | some e=>cases e with
  | sub p i o =>
   show(match rowOf os n p with|some (_,es,_)=>_|none=>none)=PH i o (rowOf os n p)
   cases rowOf os n p with
   |none=>rfl
   | some q =>
    obtain⟨k,es,z⟩:=q;show(match es[i]? with|some v=>_|none=>none)=PG o es[i]?
    cases es[i]? with
    |none=>rfl
    | some v =>
     show(match v.cells[o]? with|some c=>_|none=>none)=FZ v.cells[o]?
     cases v.cells[o]?<;>rfl
  |_=>rfl
theorem ro6(os:List PO)(id:Nat):rowOf os 6 id=ML os 5 os[id]?:=DB os 5 id
theorem rwE_row(n k sz:Nat):ML os n (some (.row k es sz))=some (k,es,sz):=rfl
theorem rwE_sub(n p i o:Nat):ML os n (some (.sub p i o))=PH i o (rowOf os n p):=rfl
theorem rwS_some(i o k z:Nat):PH i o (some (k,es,z))=PG o es[i]?:=rfl
theorem rwC_some(o:Nat):PG o (some v)=FZ v.cells[o]?:=rfl
theorem rwD_some:FZ (some c)=ownOf c:=rfl
theorem ow_own(k sz:Nat):ownOf (ownd k sz es)=some (k,es,sz):=rfl
def ZE(os:List PO)(n id:Nat)(e:Option PO):Nat:=match e with|some (.sub p _ _)=>rootOf os n p|_=>id
theorem rt_eq(os:List PO)(n id:Nat):rootOf os (n+1) id=ZE os n id os[id]?:=rfl
theorem rtE_row(n id k sz:Nat):ZE os n id (some (.row k es sz))=id:=rfl
theorem rtE_sub(n id p i o:Nat):ZE os n id (some (.sub p i o))=rootOf os n p:=rfl
def chE(os:List PO)(n:Nat)(e:Option PO):List Nat:=match e with|some (.sub p _ _)=>chainOf os n p|_=>[]
theorem ch_eq(os:List PO)(n id:Nat):chainOf os (n+1) id=id::chE os n os[id]?:=rfl
theorem chE_row(n k sz:Nat):chE os n (some (.row k es sz))=[]:=rfl
theorem kp_eq(r:Nat)(keep:List Nat):killP os r keep=X9 os r keep 0 os:=rfl
theorem kg_nil(r j:Nat)(keep:List Nat):X9 os r keep j []=[]:=rfl
theorem kg_row(r j k sz:Nat)(keep:List Nat):X9 os r keep j (.row k es sz::l)=.row k es sz::X9 os r keep (j+1) l:=rfl
theorem kg_dead(r j:Nat)(keep:List Nat):X9 os r keep j (.dead::l)=.dead::X9 os r keep (j+1) l:=rfl
theorem kg_sub(r j p i o:Nat)(keep:List Nat):X9 os r keep j (.sub p i o::l)=(if rootOf os 6 j=r/\¬j∈keep then PO.dead else .sub p i o)::X9 os r keep (j+1) l:=rfl
def GA(ids:List Nat)(fr:PF):List Nat->PF
 |[]=>[]
 |i::l=>(i,J4 (posOf ids) (lookP fr i))::GA ids fr l
def DC(ids:List Nat)(os:List PO):List Nat->List PO
 |[]=>[]
 |i::l=>renPO (posOf ids) (entryAt os i)::DC ids os l
theorem xG(ids:List Nat)(fr:PF):∀keep:List Nat,(keep.map fun i=>(i,J4 (posOf ids) (lookP fr i)))=GA ids fr keep
 |[]=>rfl
 |i::l=>congrArg (List.cons _) (xG ids fr l)
theorem mB(ids:List Nat)(os:List PO):∀l:List Nat,(l.map fun i=>renPO (posOf ids) (entryAt os i))=DC ids os l
 |[]=>rfl
 |i::l=>congrArg (List.cons _) (mB ids os l)
theorem mf_nil:GA ids fr []=[]:=rfl
theorem mf_cons(i:Nat)(l:List Nat):GA ids fr (i::l)=(i,J4 (posOf ids) (lookP fr i))::GA ids fr l:=rfl
theorem mo_nil:DC ids os []=[]:=rfl
theorem mo_cons(i:Nat)(l:List Nat):DC ids os (i::l)=renPO (posOf ids) (entryAt os i)::DC ids os l:=rfl
def mk1(k:List Nat)(fr:PF)(ids:List Nat):PF:=GA ids fr k
def mk2(K:PK)(ids:List Nat):PK:=⟨DC ids K.os ids,K.ext,K.tch.filter (· < K.ext)⟩
theorem mp_1(k:List Nat):(N0 k fr K).1=mk1 k fr (markIds k fr K):=xG _ _ _
theorem mp_2(k:List Nat):(N0 k fr K).2=mk2 K (markIds k fr K):=by
 show PK.mk _ _ _=PK.mk _ _ _
 grind[mB]
theorem mk1_eq(k:List Nat):mk1 k fr ids=GA ids fr k:=rfl
theorem mk2_eq:mk2 K ids=⟨DC ids K.os ids,K.ext,K.tch.filter (· < K.ext)⟩:=rfl
def PI(e:Option PO):List Nat:=match e with|some (.sub p _ _)=>[p]|e=>wC e
theorem sm_eq(id:Nat):iC os id=PI os[id]?:=rfl
theorem smE_row(sz:Nat):PI (some (.row 0 es sz))=[]:=rfl
theorem smE_row1(sz:Nat):PI (some (.row 1 es sz))=refsL es:=rfl
theorem smE_sub(p i o:Nat):PI (some (.sub p i o))=[p]:=rfl
def GO(fr:PF):List Nat->List Nat
 |[]=>[]
 |i::l=>O2 (lookP fr i)++GO fr l
theorem xH(fr:PF):∀keep:List Nat,refsL (keep.map (lookP fr))=GO fr keep
 |[]=>rfl
 |i::l=>congrArg (List.append _) (xH fr l)
theorem mi_eq(k:List Nat):markIds k fr K=l6 (iC K.os) 64 ((zqd K.ext).flatMap (iC K.os)++GO fr k) (zqd K.ext):=by
 unfold markIds;rw[xH]
theorem rs_nil:GO fr []=[]:=rfl
theorem rs_cons(i:Nat)(l:List Nat):GO fr (i::l)=O2 (lookP fr i)++GO fr l:=rfl
theorem rg_0:zqd 0=[]:=rfl
theorem rg_2:zqd 2=[0,1]:=rfl
theorem rp_nil(s:Nat->List Nat)(n:Nat)(acc:List Nat):l6 s n [] acc=acc:=by cases n<;>rfl
theorem rp_cons(s:Nat->List Nat)(n id:Nat)(t acc:List Nat):l6 s (n+1) (id::t) acc=if id∈acc then l6 s n t acc else l6 s n (t++s id) (acc++[id]):=rfl
theorem po_cons(j id:Nat)(r:List Nat):posOf (j::r) id=if j=id then some 0 else(posOf r id).map (· + 1):=rfl
def rnM(q:Option Nat)(off n sz:Nat):AV:=match q with|some j=>.msl j off n sz|none=>.und
def rnP(q:Option Nat)(i o:Nat):AV:=match q with|some j=>.ptr j i o|none=>.und
variable {σ:Nat->Option Nat}
theorem rv_int(k:IntKind)(n:Int):J4 σ (.int k n)=.int k n:=rfl
theorem rv_bool(b:Bool):J4 σ (.bool b)=.bool b:=rfl
theorem rv_str(b:List UInt8):J4 σ (.str b)=.str b:=rfl
theorem rv_agg:J4 σ (.agg cs)=.agg (renL σ cs):=rfl
theorem rv_fsl(f:Bool):J4 σ (.fsl es f)=.fsl es f:=rfl
theorem rv_msl(id off n sz:Nat):J4 σ (.msl id off n sz)=rnM (σ id) off n sz:=rfl
theorem rv_ptr(id i o:Nat):J4 σ (.ptr id i o)=rnP (σ id) i o:=rfl
theorem rv_nsl:J4 σ .nilsl=.nilsl:=rfl
theorem rv_fn(f:Fn)(a b:List AV):J4 σ (.fn f a b)=.fn f (renL σ a) (renL σ b):=rfl
theorem rl_nil:renL σ []=[]:=rfl
theorem rl_cons(l:List AV):renL σ (v::l)=J4 σ v::renL σ l:=rfl
theorem rnM_some(j off n sz:Nat):rnM (some j) off n sz=.msl j off n sz:=rfl
theorem rnP_some(j i o:Nat):rnP (some j) i o=.ptr j i o:=rfl
def enE(e:Option PO):PO:=match e with|some e=>e|none=>.dead
theorem et_eq(id:Nat):entryAt os id=enE os[id]?:=rfl
theorem enE_some(e:PO):enE (some e)=e:=rfl
def rnS(q:Option Nat)(i o:Nat):PO:=match q with|some j=>.sub j i o|none=>.dead
theorem rp_row(sz:Nat):renPO σ (.row 0 es sz)=.row 0 es sz:=rfl
theorem rp_row1(sz:Nat):renPO σ (.row 1 es sz)=.row 1 (renL σ es) sz:=rfl
theorem rp_sub(p i o:Nat):renPO σ (.sub p i o)=rnS (σ p) i o:=rfl
theorem rnS_some(j i o:Nat):rnS (some j) i o=.sub j i o:=rfl
theorem rf_int(k:IntKind)(n:Int):O2 (.int k n)=[]:=rfl
theorem rf_bool(b:Bool):O2 (.bool b)=[]:=rfl
theorem rf_str(b:List UInt8):O2 (.str b)=[]:=rfl
theorem rf_agg:O2 (.agg cs)=refsL cs:=rfl
theorem rf_fsl(f:Bool):O2 (.fsl es f)=[]:=rfl
theorem rf_msl(id off n sz:Nat):O2 (.msl id off n sz)=[id]:=rfl
theorem rf_ptr(id i o:Nat):O2 (.ptr id i o)=[id]:=rfl
theorem rf_nsl:O2 .nilsl=[]:=rfl
theorem rf_fn(f:Fn)(a b:List AV):O2 (.fn f a b)=refsL a++refsL b:=rfl
theorem rfl_nil:refsL []=[]:=rfl
theorem rfl_cons(l:List AV):refsL (v::l)=O2 v++refsL l:=rfl
theorem bk_nil(rs:List AV):U5 [] rs os=([],os):=rfl
theorem bk_cons(rs:List AV)(r:AV):U5 (v::vs) (r::rs) os=((l7 v r os).1::(U5 vs rs (l7 v r os).2).1,(U5 vs rs (l7 v r os).2).2):=rfl
theorem bv_eq(r:AV):l7 v r os=(O7 v (N6 v.cells r.cells os).1,(N6 v.cells r.cells os).2):=rfl
theorem bs_nil(rs:List AV):N6 [] rs os=([],os):=rfl
theorem bs_cons(rs:List AV)(r:AV):N6 (v::vs) (r::rs) os=((Y1 v r os).1::(N6 vs rs (Y1 v r os).2).1,(N6 vs rs (Y1 v r os).2).2):=rfl
theorem bc_msl(a b d e:Nat)(r:AV):Y1 (.msl a b d e) r os=(.msl a b d e,os):=rfl
theorem bc_int(k:IntKind)(n:Int)(r:AV):Y1 (.int k n) r os=(.int k n,os):=rfl
theorem bc_str(b:List UInt8)(r:AV):Y1 (.str b) r os=(.str b,os):=rfl
theorem lv_agg(a:List AV):O7 (.agg a) cs=.agg cs:=rfl
theorem lv_msl(a b d e:Nat):O7 (.msl a b d e) cs=cs.headD .und:=rfl
theorem lv_int(k:IntKind)(n:Int):O7 (.int k n) cs=cs.headD .und:=rfl
theorem lv_bool(b:Bool):O7 (.bool b) cs=cs.headD .und:=rfl
theorem lv_str(b:List UInt8):O7 (.str b) cs=cs.headD .und:=rfl
theorem lv_fsl(f:Bool):O7 (.fsl es f) cs=cs.headD .und:=rfl
theorem lv_own(k sz:Nat):O7 (ownd k sz es) cs=cs.headD .und:=rfl
theorem lv_nsl:O7 .nilsl cs=cs.headD .und:=rfl
theorem hd_cons:(v::es).headD w=v:=rfl
theorem os_nil(n:Nat):openTs n []=([],[]):=rfl
theorem os_cons(n:Nat):openTs n (v::vs)=(O7 v (openT n v.cells).1::(openTs (n+(openT n v.cells).2.length) vs).1,(openT n v.cells).2++(openTs (n+(openT n v.cells).2.length) vs).2):=rfl
theorem ot_nil(n:Nat):openT n []=([],[]):=rfl
theorem ot_own(n sz:Nat):openT n (ownd 0 sz es::cs)=(.msl n 0 es.length sz::(openT (n+1) cs).1,.row 0 es sz::(openT (n+1) cs).2):=rfl
theorem ot_int(m:Nat)(k:IntKind)(n:Int):openT m (.int k n::cs)=(.int k n::(openT m cs).1,(openT m cs).2):=rfl
theorem ot_bool(m:Nat)(b:Bool):openT m (.bool b::cs)=(.bool b::(openT m cs).1,(openT m cs).2):=rfl
theorem ot_str(m:Nat)(b:List UInt8):openT m (.str b::cs)=(.str b::(openT m cs).1,(openT m cs).2):=rfl
theorem C1{os' ps:List PO}{vs vs' us rs:List AV}(h1:U5 vs rs os=(vs',os'))(h2:(refsL vs').Nodup)(h3:openTs 0 rs=(us,ps))(h4:renL (posOf (refsL vs')) vs'=us)(h5:DC (refsL vs') os' (refsL vs')=ps):backOk vs rs os:=by
 refine⟨?_,?_,?_⟩
 . grind
 . grind
 grind[mB]
theorem va_nil:viewAs os []=some []:=rfl
theorem va_cons:viewAs os (v::vs)=J7 (viewA os v) (viewAs os vs):=rfl
theorem co_some(t:List AV):J7 (some v) (some t)=some (v::t):=rfl
theorem vv_int(k:IntKind)(n:Int):viewA os (.int k n)=some (.int k n):=rfl
theorem vv_bool(b:Bool):viewA os (.bool b)=some (.bool b):=rfl
theorem wv_int(k:IntKind)(n:Int):viewV os (.int k n)=some (.int k n):=rfl
theorem wv_str(b:List UInt8):viewV os (.str b)=some (.str b):=rfl
def ZF(l:Option (List AV)):Option AV:=match l with|some cs=>some (.agg cs)|none=>none
theorem agO_some:ZF (some cs)=some (.agg cs):=rfl
theorem vv_agg:viewA os (.agg cs)=ZF (viewL os cs):=rfl
theorem vl_nil:viewL os []=some []:=rfl
theorem vl_cons:viewL os (v::vs)=J7 (viewV os v) (viewL os vs):=rfl
def dK(l:Option (List AV)):Option AV:=match l with|some es=>some (fslN es)|none=>none
theorem fsO_some:dK (some es)=some (fslN es):=rfl
def PL(off n sz:Nat)(r:Option (Nat×List AV×Nat)):Option AV:=match r with
 |some (k,es,z)=>if k=0/\sz=z/\off+n<=es.length then dK (frzL ((es.drop off).take n))else none
 |none=>none
theorem vv_msl(id off n sz:Nat):viewA os (.msl id off n sz)=PL off n sz (rowOf os 6 id):=by
 show(match rowOf os 6 id with|some (k,es,z)=>_|none=>none)=_
 cases rowOf os 6 id<;>rfl
theorem wv_msl(id off n sz:Nat):viewV os (.msl id off n sz)=PL off n sz (rowOf os 6 id):=vv_msl id off n sz
theorem vmE_some{n sz z:Nat}(h1:sz=z)(h2:n=es.length):PL 0 n sz (some (0,es,z))=dK (frzL es):=by
 simp_all[PL]
theorem fz_nil:frzL []=some []:=rfl
theorem fz_cons:frzL (v::vs)=J7 (frzC v) (frzL vs):=rfl
theorem fz_int(k:IntKind)(n:Int):frzC (.int k n)=some (.int k n):=rfl
theorem fz_bool(b:Bool):frzC (.bool b)=some (.bool b):=rfl
theorem fz_str(b:List UInt8):frzC (.str b)=some (.str b):=rfl
theorem fz_agg:frzC (.agg cs)=ZF (frzL cs):=rfl
theorem fz_own(sz:Nat):frzC (ownd 0 sz es)=dK (frzL es):=rfl
theorem fz_nsl:frzC .nilsl=some (fslN []):=rfl
theorem nf_int(k:IntKind)(n:Int):noF (.int k n)=true:=rfl
theorem nf_bool(b:Bool):noF (.bool b)=true:=rfl
theorem nf_str(b:List UInt8):noF (.str b)=true:=rfl
theorem nf_agg:noF (.agg cs)=noFL cs:=rfl
theorem nf_own(sz:Nat):noF (ownd 0 sz es)=noFL es:=rfl
theorem nfl_nil:noFL []=true:=rfl
theorem nfl_cons:noFL (v::es)=(noF v&&noFL es):=rfl
theorem or_nil:okRs []=true:=rfl
theorem or_cons:okRs (v::vs)=(v.cells.all (fun c=>(ownOf c).isSome||clo c)&&okRs vs):=rfl
theorem on_int(k:IntKind)(n:Int):ownOf (.int k n)=none:=rfl
theorem on_bool(b:Bool):ownOf (.bool b)=none:=rfl
theorem on_str(b:List UInt8):ownOf (.str b)=none:=rfl
end
noncomputable section
variable {E:Env}{fr:PF}{K K':PK}{v w x y c:AV}{vs es cs new:List AV}{te t:TI}{os l:List PO}{ids:List Nat}
theorem ok_int(k:IntKind)(n:Int):Hm (.int k n)=true:=rfl
theorem ok_bool(b:Bool):Hm (.bool b)=true:=rfl
theorem ok_str(b:List UInt8):Hm (.str b)=true:=rfl
theorem ok_msl(a b d e:Nat):Hm (.msl a b d e)=true:=rfl
theorem ok_fn(f:Fn)(a b:List AV):Hm (.fn f a b)=true:=rfl
theorem nr_eq(k sz:Nat):newRow k es sz K=⟨K.os++[.row k es sz],K.ext,K.tch⟩:=rfl
theorem bx_eq(h1:v.cells.length=t.size)(h2:v.cells.all Hm=true):wB t v K=.val (.ptr K.os.length 0 0) ⟨K.os++[.row 1 [v] t.size],K.ext,K.tch⟩:=if_pos ⟨h1,h2⟩
theorem wc_agg(off:Nat):AV.withCells (.agg cs) off new=.agg (cs.take off++(new++cs.drop (off+new.length))):=by
 show AV.agg (O8 cs off new)=_
 grind[O8,K6,K5,Q0,A9]
theorem wc_int(k:IntKind)(n:Int):AV.withCells (.int k n) 0 [c]=c:=rfl
theorem wc_bool(b:Bool):AV.withCells (.bool b) 0 [c]=c:=rfl
theorem wc_nsl:AV.withCells .nilsl 0 [c]=c:=rfl
theorem wc_msl(a b d e:Nat):AV.withCells (.msl a b d e) 0 [c]=c:=rfl
def MM(e:Option PO):Bool:=match e with|some (.row 0 _ _)=>false|some (.row _ _ _)=>true|_=>false
theorem ra_eq(id:Nat):rawAt os id=MM os[id]?:=by
 grind[rawAt,MM]
theorem raE_0(sz:Nat):MM (some (.row 0 es sz))=false:=rfl
theorem raE_1(sz:Nat):MM (some (.row 1 es sz))=true:=rfl
theorem raE_sub(p i o:Nat):MM (some (.sub p i o))=false:=rfl
def MN(os:List PO)(n p i o:Nat)(es:List AV)(v:AV)(es':List AV)(c:Option (Nat×List AV×Nat)):Option (List PO):=match c with|some (k,_,sz)=>setRow os n p (es.set i (putCl v o (ownd k sz es')))|none=>none
def PM(os:List PO)(n p i o:Nat)(es:List AV)(es':List AV)(v:Option AV):Option (List PO):=match v with|some v=>MN os n p i o es v es' (FZ v.cells[o]?)|none=>none
def PN(os:List PO)(n p i o:Nat)(es':List AV)(r:Option (Nat×List AV×Nat)):Option (List PO):=match r with|some (_,es,_)=>PM os n p i o es es' es[i]?|none=>none
def srE(os:List PO)(n id:Nat)(es':List AV)(e:Option PO):Option (List PO):=match e with|some (.row k _ sz)=>some (os.set id (.row k es' sz))|some (.sub p i o)=>PN os n p i o es' (rowOf os n p)|_=>none
theorem sr_eq(n id:Nat)(es':List AV):setRow os (n+1) id es'=srE os n id es' os[id]?:=by
 conv=>lhs;unfold setRow
 cases os[id]? with
 |none=>rfl
 | some e=>cases e with
  | sub p i o =>
   show(match rowOf os n p with|some (_,es,_)=>_|none=>none)=PN os n p i o es' (rowOf os n p)
   cases rowOf os n p with
   |none=>rfl
   | some q =>
    obtain⟨k,es,z⟩:=q;show(match es[i]? with|some v=>_|none=>none)=PM os n p i o es es' es[i]?
    cases es[i]? with
    |none=>rfl
    | some v =>
     show(match v.cells[o]? with|some c=>(match ownOf c with|some (k,_,sz)=>_|none=>none)|none=>none)=MN os n p i o es v es' (FZ v.cells[o]?)
     cases v.cells[o]? with
     |none=>rfl
     | some c =>
      show(match ownOf c with|some (k,_,sz)=>_|none=>none)=MN os n p i o es v es' (ownOf c)
      cases ownOf c<;>rfl
  |_=>rfl
theorem srE_row(n id k sz:Nat)(es':List AV):srE os n id es' (some (.row k es sz))=some (os.set id (.row k es' sz)):=rfl
theorem srE_sub(n id p i o:Nat)(es':List AV):srE os n id es' (some (.sub p i o))=PN os n p i o es' (rowOf os n p):=rfl
theorem srS_some(n p i o k z:Nat)(es':List AV):PN os n p i o es' (some (k,es,z))=PM os n p i o es es' es[i]?:=rfl
theorem srC_some(n p i o:Nat)(es':List AV):PM os n p i o es es' (some v)=MN os n p i o es v es' (FZ v.cells[o]?):=rfl
theorem srD_some(n p i o k sz:Nat)(es0 es':List AV):MN os n p i o es v es' (some (k,es0,sz))=setRow os n p (es.set i (putCl v o (ownd k sz es'))):=rfl
def GB(id:Nat)(K:PK)(os2:Option (List PO)):Option PK:=match os2 with|some os2=>some ⟨os2,K.ext,rootOf K.os 6 id::K.tch⟩|none=>none
def PP(t:TI)(id i off:Nat)(K:PK)(es:List AV)(v:AV)(r:Option (List AV×List PO)):Option PK:=match r with|some (cs,os1)=>GB id K (setRow os1 6 id (es.set i (v.withCells off cs)))|none=>none
def PQ(t:TI)(id i off:Nat)(x:AV)(K:PK)(es:List AV)(v:AV)(r:Option (List PO)):Option PK:=match r with|some os0=>PP t id i off K es v (sealC K.ext (rootOf K.os 6 id) id i off os0 x.cells)|none=>none
def MO(t:TI)(id i off:Nat)(x:AV)(K:PK)(es:List AV)(v:AV)(b:Bool):Option PK:=
 match b with
 |true=>GB id K (setRow K.os 6 id (es.set i (v.withCells off x.cells)))
 |false=>PQ t id i off x K es v (setRow (killP K.os (rootOf K.os 6 id) (chainOf K.os 6 id)) 6 id (es.set i (v.withCells off (zqa t.size .und))))
def PS(t:TI)(id i off:Nat)(x:AV)(K:PK)(k sz:Nat)(es:List AV)(v:AV)(b:Bool):Option PK:=
 match b with
 |true=>if x.cells.all Hm=true then some ⟨K.os.set id (.row k (es.set i (v.withCells off x.cells)) sz),K.ext,id::K.tch⟩else none
 |false=>MO t id i off x K es v (x.cells.all clo&&((v.cells.drop off).take t.size).all clo)
def PU(t:TI)(id i off:Nat)(x:AV)(K:PK)(k sz:Nat)(es:List AV)(v:Option AV):Option PK:=match v with
 |some v=>if x.cells.length=t.size/\0<t.size/\off+t.size<=sz then PS t id i off x K k sz es v (rawAt K.os id)else none
 |none=>none
def spR(t:TI)(id i off:Nat)(x:AV)(K:PK)(r:Option (Nat×List AV×Nat)):Option PK:=match r with|some (k,es,sz)=>PU t id i off x K k sz es es[i]?|none=>none
theorem sp_eq(id i off:Nat):storeP t (.ptr id i off) x K=spR t id i off x K (rowOf K.os 6 id):=by
 unfold storeP;show(match rowOf K.os 6 id with|some (k,es,sz)=>_|none=>none)=_
 cases rowOf K.os 6 id with
 |none=>rfl
 | some q =>
  obtain⟨k,es,sz⟩:=q;show(match es[i]? with|some v=>_|none=>none)=PU t id i off x K k sz es es[i]?
  cases es[i]? with
  |none=>rfl
  | some v =>
   show(if _ then _ else none)=(if _ then _ else none)
   split
   . cases rawAt K.os id with
     |true=>rfl
     | false =>
      show(if(x.cells.all clo&&((v.cells.drop off).take t.size).all clo)=true then _ else _)=MO t id i off x K es v (x.cells.all clo&&((v.cells.drop off).take t.size).all clo)
      cases (x.cells.all clo&&((v.cells.drop off).take t.size).all clo)with
      | true =>
       show(match setRow K.os 6 id _ with|some os2=>_|none=>none)=GB id K (setRow K.os 6 id _)
       cases setRow K.os 6 id (es.set i (v.withCells off x.cells))<;>rfl
      | false =>
       show(match setRow (killP K.os (rootOf K.os 6 id) (chainOf K.os 6 id)) 6 id _ with|some os0=>_|none=>none)=PQ t id i off x K es v (setRow (killP K.os (rootOf K.os 6 id) (chainOf K.os 6 id)) 6 id _)
       cases setRow (killP K.os (rootOf K.os 6 id) (chainOf K.os 6 id)) 6 id (es.set i (v.withCells off (zqa t.size .und)))with
       |none=>rfl
       | some os0 =>
        show(match sealC K.ext (rootOf K.os 6 id) id i off os0 x.cells with|some (cs,os1)=>_|none=>none)=PP t id i off K es v (sealC K.ext (rootOf K.os 6 id) id i off os0 x.cells)
        cases sealC K.ext (rootOf K.os 6 id) id i off os0 x.cells with
        |none=>rfl
        | some q =>
         obtain⟨cs,os1⟩:=q;show(match setRow os1 6 id _ with|some os2=>_|none=>none)=GB id K (setRow os1 6 id _)
         cases setRow os1 6 id (es.set i (v.withCells off cs))<;>rfl
   . rfl
theorem spR_some(id i off k sz:Nat):spR t id i off x K (some (k,es,sz))=PU t id i off x K k sz es es[i]?:=rfl
theorem spE_some{id i off k sz:Nat}(h1:x.cells.length=t.size)(h2:0<t.size)(h3:off+t.size<=sz):PU t id i off x K k sz es (some v)=PS t id i off x K k sz es v (rawAt K.os id):=if_pos ⟨h1,h2,h3⟩
theorem spB_true{id i off k sz:Nat}(h:x.cells.all Hm=true):PS t id i off x K k sz es v true=some ⟨K.os.set id (.row k (es.set i (v.withCells off x.cells)) sz),K.ext,id::K.tch⟩:=if_pos h
theorem spB_false(id i off k sz:Nat):PS t id i off x K k sz es v false=MO t id i off x K es v (x.cells.all clo&&((v.cells.drop off).take t.size).all clo):=rfl
theorem spC_true(id i off:Nat):MO t id i off x K es v true=GB id K (setRow K.os 6 id (es.set i (v.withCells off x.cells))):=rfl
theorem spC_false(id i off:Nat):MO t id i off x K es v false=PQ t id i off x K es v (setRow (killP K.os (rootOf K.os 6 id) (chainOf K.os 6 id)) 6 id (es.set i (v.withCells off (zqa t.size .und)))):=rfl
theorem spO_some(id i off:Nat):PQ t id i off x K es v (some os)=PP t id i off K es v (sealC K.ext (rootOf K.os 6 id) id i off os x.cells):=rfl
theorem spQ_some(id i off:Nat):PP t id i off K es v (some (cs,os))=GB id K (setRow os 6 id (es.set i (v.withCells off cs))):=rfl
theorem spS_some(id:Nat):GB id K (some os)=some ⟨os,K.ext,rootOf K.os 6 id::K.tch⟩:=rfl
theorem rl_1:zqa 1 v=[v]:=rfl
def PV(c:AV)(r:Option (List AV×List PO)):Option (List AV×List PO):=match r with|some p=>some (c::p.1,p.2)|none=>none
def scM(ext r id i o:Nat)(os:List PO)(l:List AV)(q m sz:Nat)(e:Option PO):Option (List AV×List PO):=match e with
 |some (.row 0 es z)=>if m=es.length/\sz=z/\ext<=q/\q≠r then PV (ownd 0 sz es) (sealC ext r id i (o+1) (os.set q (.sub id i o)) l)else none
 |_=>none
theorem sc_nil(ext r id i o:Nat):sealC ext r id i o os []=some ([],os):=rfl
theorem sc_clo{ext r id i o:Nat}(h:clo c=true):sealC ext r id i o os (c::cs)=PV c (sealC ext r id i (o+1) os cs):=by
 conv=>lhs;unfold sealC
 rw[h];show Option.map _ (sealC ext r id i (o+1) os cs)=_
 cases sealC ext r id i (o+1) os cs<;>rfl
theorem sc_msl(ext r id i o q m sz:Nat):sealC ext r id i o os (.msl q 0 m sz::cs)=scM ext r id i o os cs q m sz os[q]?:=by
 conv=>lhs;unfold sealC
 show(match os[q]? with|some (.row 0 es z)=>_|_=>none)=_
 cases os[q]? with
 |none=>rfl
 | some e=>cases e with
  | row k es z =>
   cases k with
   | zero =>
    show(if _ then Option.map _ _ else none)=(if _ then _ else none)
    split
    . cases sealC ext r id i (o+1) (os.set q (.sub id i o)) cs<;>rfl
    . rfl
   |succ=>rfl
  |_=>rfl
theorem scM_row{ext r id i o q m sz z:Nat}(h1:m=es.length)(h2:sz=z)(h3:ext<=q)(h4:q≠r):scM ext r id i o os cs q m sz (some (.row 0 es z))=PV (ownd 0 sz es) (sealC ext r id i (o+1) (os.set q (.sub id i o)) cs):=if_pos ⟨h1,h2,h3,h4⟩
theorem scK_some(l:List AV):PV c (some (l,os))=some (c::l,os):=rfl
def MP(v:AV)(r:Option (List AV×PK)):Option (List AV×PK):=match r with|some (vs,K)=>some (v::vs,K)|none=>none
def PW(E:Env)(l:List ResultVar)(fr:PF)(o:OpS):Option (List AV×PK):=match o with | .val v K=>MP v (resP E l fr K)|_=>none
def ZG(r:Option (List AV×PK)):Option PR:=match r with|some (vs,K)=>some (.val vs K)|none=>none
theorem rsT_some:MP v (some (vs,K))=some (v::vs,K):=rfl
theorem rsC_val(l:List ResultVar):PW E l fr (.val v K)=MP v (resP E l fr K):=rfl
theorem rsO_some:ZG (some (vs,K))=some (.val vs K):=rfl
theorem rs_0:resP E [] fr K=some ([],K):=rfl
theorem rs_tmp(t:Nat)(l:List ResultVar):resP E (.tmp t::l) fr K=MP (lookP fr t) (resP E l fr K):=by
 show(match resP E l fr K with|some (vs,K)=>some (lookP fr t::vs,K)|none=>none)=_
 cases resP E l fr K<;>rfl
theorem rs_cell(a t:Nat)(l:List ResultVar):resP E (.cell a t::l) fr K=PW E l fr (g9 E t fun ti=>Kn (loadP ti (lookP fr a) K)):=by
 show(match E.ti t with|some ti=>_|none=>none)=PW E l fr (match E.ti t with|some ti=>_|none=>OpS.bad)
 grind[PW,Kn,MP]
theorem bodyP_ret(rs:List ResultVar):xD E rs (some (.ok .ret fr K))=ZG (resP E rs fr K):=by
 show(match resP E rs fr K with|some (vs,K)=>_|none=>none)=_
 cases resP E rs fr K<;>rfl
theorem bodyP_norm(rs:List ResultVar):xD E rs (some (.ok .normal fr K))=ZG (resP E rs fr K):=by
 show(match resP E rs fr K with|some (vs,K)=>_|none=>none)=_
 cases resP E rs fr K<;>rfl
def g0{X:Type}(a r:X->List AV)(ok:X->Prop):List AV->Option (List AV):=fun args=>open Classical in if h:∃x,ok x/\a x=args then some (r (Classical.choose h))else none
theorem C2{X:Type}{a r:X->List AV}{ok:X->Prop}(hi:∀x y,a x=a y->r x=r y)(x:X)(h:ok x):g0 a r ok (a x)=some (r x):=by
 have hx:∃y,ok y/\a y=a x:=⟨x,h,rfl⟩
 grind[g0]
theorem dL{X:Type}{a r:X->List AV}{ok:X->Prop}{args rs:List AV}(h:g0 a r ok args=some rs):∃x,ok x/\a x=args/\r x=rs:=by
 unfold g0 at h;split at h
 . grind
 . cases h
theorem C8{P:PE}(hP:PEok P){f:Nat}{X:Type}{a r:X->List AV}{ok:X->Prop}(H:∀x,ok x->Comes P f (a x) (r x)):TC P.E f (g0 a r ok):=
 ME hP fun args rs hg=>by obtain⟨x,h1,rfl,rfl⟩:=dL hg;exact H x h1
theorem m9{X:Type}{f g:X->AV}(h:∀x,frzC (f x)=some (g x)):∀l:List X,frzL (l.map f)=some (l.map g)
 |[]=>rfl
 | x::l=>by
  show J7 (frzC (f x)) (frzL (l.map f))=_
  rw[h,m9 h l];rfl
theorem ok_fslN:Hm (fslN es)=true:=rfl
theorem cl_fslN:clo (fslN es)=true:=rfl
theorem ce_fslN:AV.cells (fslN es)=[fslN es]:=rfl
theorem rf_fslN:O2 (fslN es)=[]:=rfl
theorem rv_fslN{σ:Nat->Option Nat}:J4 σ (fslN es)=fslN es:=rfl
theorem fz_fslN:frzC (fslN es)=dK (frzL es):=rfl
theorem vv_fslN:viewA os (fslN es)=dK (frzL es):=rfl
theorem wv_fslN:viewV os (fslN es)=dK (frzL es):=rfl
theorem ln_fslN:Kn (xF (fslN es) K)=.val (.int .i64 (es.length:Int)) K:=ln_fsl _ _
theorem ix_fslN{k:IntKind}{i:Nat}(h:es[i]?=some v)(hs:v.cells.length=te.size):Qp te (fslN es) (.int k (i:Int))=some (.fptr v 0):=ix_fsl h hs
theorem lv_fslN:O7 (fslN es) cs=cs.headD .und:=rfl
theorem te_fslN{ext:Nat}{tc:List Nat}(h:L8 te.size es=true):takeE te (fslN es) ext tc os=some (es,os):=if_pos h
theorem pf_f(o d:Nat):C4 (.fptr v o) d=some (.fptr v (o+d)):=C9 (Nat.add o d) (fun q=>some (AV.fptr v q))
theorem pf_p(id i o d:Nat):C4 (.ptr id i o) d=some (.ptr id i (o+d)):=C9 (Nat.add o d) (fun q=>some (AV.ptr id i q))
theorem ldW_eq(id i off:Nat):PB id i off K (some w)=.val (O7 w (openC id i off K.os.length w.cells).1) ⟨K.os++(openC id i off K.os.length w.cells).2,K.ext,K.tch⟩:=rfl
theorem oc_nil(id i m nx:Nat):openC id i m nx []=([],[]):=rfl
theorem oc_own(id i m nx sz:Nat):openC id i m nx (ownd 0 sz es::cs)=(.msl nx 0 es.length sz::(openC id i (m+1) (nx+1) cs).1,.sub id i m::(openC id i (m+1) (nx+1) cs).2):=rfl
theorem oc_int(id i m nx:Nat)(k:IntKind)(n:Int):openC id i m nx (.int k n::cs)=(.int k n::(openC id i (m+1) nx cs).1,(openC id i (m+1) nx cs).2):=rfl
theorem oc_bool(id i m nx:Nat)(b:Bool):openC id i m nx (.bool b::cs)=(.bool b::(openC id i (m+1) nx cs).1,(openC id i (m+1) nx cs).2):=rfl
theorem oc_str(id i m nx:Nat)(b:List UInt8):openC id i m nx (.str b::cs)=(.str b::(openC id i (m+1) nx cs).1,(openC id i (m+1) nx cs).2):=rfl
theorem oc_fsl(id i m nx:Nat)(f:Bool):openC id i m nx (.fsl es f::cs)=(.fsl es f::(openC id i (m+1) nx cs).1,(openC id i (m+1) nx cs).2):=rfl
theorem oc_fslN(id i m nx:Nat):openC id i m nx (fslN es::cs)=(fslN es::(openC id i (m+1) nx cs).1,(openC id i (m+1) nx cs).2):=rfl
theorem oc_msl(id i m nx:Nat)(a b d e:Nat):openC id i m nx (.msl a b d e::cs)=(.msl a b d e::(openC id i (m+1) nx cs).1,(openC id i (m+1) nx cs).2):=rfl
theorem oc_nsl(id i m nx:Nat):openC id i m nx (.nilsl::cs)=(.nilsl::(openC id i (m+1) nx cs).1,(openC id i (m+1) nx cs).2):=rfl
theorem oc_fn(id i m nx:Nat)(f:Fn)(a b:List AV):openC id i m nx (.fn f a b::cs)=(.fn f a b::(openC id i (m+1) nx cs).1,(openC id i (m+1) nx cs).2):=rfl
theorem lv_fn(f:Fn)(a b:List AV):O7 (.fn f a b) cs=cs.headD .und:=rfl
theorem ce_fn(f:Fn)(a b:List AV):AV.cells (.fn f a b)=[.fn f a b]:=rfl
def bsE(te:TI)(n:Nat)(ps:List (Nat×AV))(K:PK)(r:Option PK):Option (AV×PK):=match r with
 |some K1=>some (.msl K.os.length 0 n te.size,K1)
 | none=>match placeR te.size ps (zqa n te.zero)with
  |some es=>some (.msl K.os.length 0 n te.size,newRow 2 es te.size K)
  |none=>none
theorem bs_eq{n:Nat}{ps:List (Nat×AV)}(h1:n*te.size<=65536)(h2:0<te.size):Cm te n ps K=bsE te n ps K (placeP te K.os.length ps (newRow 0 (zqa n te.zero) te.size K)):=by
 unfold Cm;rw[if_pos ⟨h1,h2⟩];rfl
theorem bsE_some(n:Nat)(ps:List (Nat×AV)):bsE te n ps K (some K')=some (.msl K.os.length 0 n te.size,K'):=rfl
def plE(te:TI)(id:Nat)(l:List (Nat×AV))(r:Option PK):Option PK:=match r with|some K=>placeP te id l K|none=>none
theorem pl_nil(id:Nat):placeP te id [] K=some K:=rfl
theorem pl_cons{id i:Nat}{l:List (Nat×AV)}(h:Jf v=Jf te.zero):placeP te id ((i,v)::l) K=plE te id l (storeP te (.ptr id i 0) v K):=by
 conv=>lhs;unfold placeP
 rw[if_pos h];cases storeP te (.ptr id i 0) v K<;>rfl
theorem plE_some(id:Nat)(l:List (Nat×AV)):plE te id l (some K)=placeP te id l K:=rfl
theorem rl_0:zqa 0 v=[]:=rfl
theorem rl_2:zqa 2 v=[v,v]:=rfl
theorem rl_5:zqa 5 v=[v,v,v,v,v]:=rfl
theorem rl_7:zqa 7 v=[v,v,v,v,v,v,v]:=rfl
theorem rl_8:zqa 8 v=[v,v,v,v,v,v,v,v]:=rfl
def iY(y:AV)(os:List PO)(sz:Nat)(es:List AV):Prop:=(es=[]/\y=.nilsl/\os=[])\/(y=.msl 0 0 es.length sz/\os=[.row 0 es sz])
theorem aD{P:PE}{c:PC}{X:Type}{A:AV}{O:X->AV}{sz:Nat}{l:List X}
 (h0:0<l.length->evP P (.code c [(0,A),(3,.nilsl),(4,.int .i64 0)] ⟨[],0,[]⟩)=some (.ok .normal [(0,A),(3,.msl 0 0 1 sz),(4,.int .i64 ((1:Nat):Int))] ⟨[.row 0 ((l.take 1).map O) sz],0,[]⟩))
 (h1:∀i,i<l.length->evP P (.code c [(0,A),(3,.msl 0 0 i sz),(4,.int .i64 i)] ⟨[.row 0 ((l.take i).map O) sz],0,[]⟩)=some (.ok .normal [(0,A),(3,.msl 0 0 (i+1) sz),(4,.int .i64 ((i+1:Nat):Int))] ⟨[.row 0 ((l.take (i+1)).map O) sz],0,[]⟩))
 (hx:∀y K,∃fr',evP P (.code c [(0,A),(3,y),(4,.int .i64 l.length)] K)=some (.ok (.exit 0) fr' K)/\lookP fr' 3=y):
 ∃fr' y os,evP P (.code (.loop c) [(0,A),(3,.nilsl),(4,.int .i64 0)] ⟨[],0,[]⟩)=some (.ok (.exit 0) fr' ⟨os,0,[]⟩)/\lookP fr' 3=y/\iY y os sz (l.map O):=by
 cases hl:l.length with
 | zero =>
  obtain⟨fr',e1,e2⟩:=hx .nilsl ⟨[],0,[]⟩;rw[hl]at e1;exact⟨fr',_,[],B3 e1,e2,.inl (by grind)⟩
 | succ n =>
  have key:∀(n i:Nat),l.length=i+n->∃fr' y os,evP P (.code (.loop c) [(0,A),(3,.msl 0 0 i sz),(4,.int .i64 i)] ⟨[.row 0 ((l.take i).map O) sz],0,[]⟩)=some (.ok (.exit 0) fr' ⟨os,0,[]⟩)/\lookP fr' 3=y/\iY y os sz (l.map O):=fun n=>by
   induction n with
   | zero =>
    intro i e;obtain rfl:i=l.length:=by omega
    obtain⟨fr',e1,e2⟩:=hx (.msl 0 0 l.length sz) ⟨[.row 0 (l.map O) sz],0,[]⟩;rw[List.take_length];exact⟨fr',_,_,B3 e1,e2,.inr ⟨by grind,rfl⟩⟩
   |succ n ih=>intro i e;rw[loop_more (h1 i (by omega))];exact ih (i+1) (by omega)
  rw[loop_more (h0 (by omega))];exact key n 1 (by omega)
theorem D6{y:AV}{os:List PO}{sz:Nat}{es:List AV}(h:iY y os sz es):backOk [y] [ownd 0 sz es] os:=by
 rcases h with⟨rfl,rfl,rfl⟩|⟨rfl,rfl⟩
 . exact C1 (vs':=[.msl 0 0 0 sz]) (os':=[.row 0 [] sz]) rfl (by show [0].Nodup;decide) (us:=[.msl 0 0 0 sz]) (ps:=[.row 0 [] sz]) rfl rfl rfl
 . exact C1 (vs':=[.msl 0 0 es.length sz]) (os':=[.row 0 es sz]) rfl (by show [0].Nodup;decide) (us:=[.msl 0 0 es.length sz]) (ps:=[.row 0 es sz]) rfl rfl rfl
theorem same_loop{P:PE}{c:PC}{X:Type}[DecidableEq X]{A B:AV}{l m:List X}(hm:l.length=m.length)
 (h1:∀i (h:i<l.length) (h':i<m.length),l[i]=m[i]->evP P (.code c [(0,A),(1,B),(5,.int .i64 i)] ⟨[],0,[]⟩)=some (.ok .normal [(0,A),(1,B),(5,.int .i64 ((i+1:Nat):Int))] ⟨[],0,[]⟩))
 (h2:∀i (h:i<l.length) (h':i<m.length),¬l[i]=m[i]->∃fr',evP P (.code c [(0,A),(1,B),(5,.int .i64 i)] ⟨[],0,[]⟩)=some (.ok .ret fr' ⟨[],0,[]⟩)/\lookP fr' 4=.bool false)
 (hx:∃fr',evP P (.code c [(0,A),(1,B),(5,.int .i64 l.length)] ⟨[],0,[]⟩)=some (.ok (.exit 0) fr' ⟨[],0,[]⟩)):
 (l=m/\∃fr',evP P (.code (.loop c) [(0,A),(1,B),(5,.int .i64 0)] ⟨[],0,[]⟩)=some (.ok (.exit 0) fr' ⟨[],0,[]⟩))\/
 (l≠m/\∃fr',evP P (.code (.loop c) [(0,A),(1,B),(5,.int .i64 0)] ⟨[],0,[]⟩)=some (.ok .ret fr' ⟨[],0,[]⟩)/\lookP fr' 4=.bool false):=by
 have key:∀(n i:Nat),l.length=i+n->(l.drop i=m.drop i/\∃fr',evP P (.code (.loop c) [(0,A),(1,B),(5,.int .i64 i)] ⟨[],0,[]⟩)=some (.ok (.exit 0) fr' ⟨[],0,[]⟩))\/
  (l.drop i≠m.drop i/\∃fr',evP P (.code (.loop c) [(0,A),(1,B),(5,.int .i64 i)] ⟨[],0,[]⟩)=some (.ok .ret fr' ⟨[],0,[]⟩)/\lookP fr' 4=.bool false):=fun n=>by
  induction n with
  | zero =>
   intro i e;obtain rfl:i=l.length:=by omega
   grind[B3]
  | succ n ih =>
   intro i e;have hl:i<l.length:=by omega
   have hl':i<m.length:=by omega
   rw[zqh hl,zqh hl'];by_cases he:l[i]=m[i]
   . rw[loop_more (h1 i hl hl' he)]
     grind
   grind[L6]
 exact key l.length 0 (by omega)
theorem L7{p:Prop}[Decidable p](h:¬p):decide p=false:=by simp[h]
theorem F4{p:Prop}[Decidable p](h:p):decide p=true:=by simp[h]
theorem tk_all{n:Nat}{l:List XOp}(h:(K.tch.all fun i=>decide (n<=i))=true):Cn n l K=true:=by grind[Cn]
def xI(off sz:Nat)(v:AV)(cs:List AV):Option (List AV):=if v.cells.length=sz/\off+sz<=cs.length/\v.cells.all Hm=true then some (cs.take off++(v.cells++cs.drop (off+v.cells.length)))else none
theorem fp_ok{off sz:Nat}(h1:v.cells.length=sz)(h2:off+sz<=cs.length)(h3:v.cells.all Hm=true):xI off sz v cs=some (cs.take off++(v.cells++cs.drop (off+v.cells.length))):=if_pos ⟨h1,h2,h3⟩
theorem xJ:∀l:List AV,E8 l=l.all Hm
 |[]=>rfl
 | c::l=>by
  show(bif okCell c then E8 l else false)=(Hm c&&l.all Hm)
  rw[xJ l];cases c<;>rfl
def PX(place:Nat->Option (Nat×Nat))(ps:List (Nat×AV))(r:Option (List AV)):Option (List AV):=match r with|some cs=>V3 place ps cs|none=>none
theorem fbK_some(place:Nat->Option (Nat×Nat))(ps:List (Nat×AV)):PX place ps (some cs)=V3 place ps cs:=rfl
theorem fb_nil(place:Nat->Option (Nat×Nat)):V3 place [] cs=some cs:=rfl
def fbP(place:Nat->Option (Nat×Nat))(v:AV)(ps:List (Nat×AV))(cs:List AV)(q:Option (Nat×Nat)):Option (List AV):=match q with|some q=>PX place ps (xI q.1 q.2 v cs)|none=>none
theorem fbP_some(place:Nat->Option (Nat×Nat))(ps:List (Nat×AV))(a b:Nat):fbP place v ps cs (some (a,b))=PX place ps (xI a b v cs):=rfl
theorem fb_cons(place:Nat->Option (Nat×Nat))(i:Nat)(ps:List (Nat×AV)):V3 place ((i,v)::ps) cs=fbP place v ps cs (place i):=by
 show A7 (place i) (fun q=>B6 (Nat.beq (lenL v.cells) q.2&&Nat.ble (Nat.add q.1 q.2) (lenL cs)&&E8 v.cells) (V3 place ps (O8 cs q.1 v.cells)))=_
 cases place i with
 |none=>rfl
 | some q =>
  show B6 _ _=PX place ps (if _ then _ else none)
  rw[A9,A9,xJ];by_cases h1:v.cells.length=q.2
  . by_cases h2:q.1+q.2<=cs.length
    . cases h3:v.cells.all Hm with
      |false=>rw[if_neg (fun h=>absurd h.2.2 (by decide)),Bool.and_false];rfl
      | true =>
       rw[if_pos ⟨h1,h2,rfl⟩];have e1:Nat.beq v.cells.length q.2=true:=by simp_all
       have e2:Nat.ble (Nat.add q.1 q.2) cs.length=true:=zqm h2;rw[e1,e2];show V3 place ps (O8 cs q.1 v.cells)=V3 place ps _
       grind[O8,K6,K5,Q0,A9]
    . have e2:Nat.ble (Nat.add q.1 q.2) cs.length=false:=by
       cases hb:Nat.ble (Nat.add q.1 q.2) cs.length with
       |false=>rfl
       |true=>exact absurd (Nat.le_of_ble_eq_true hb) h2
      rw[if_neg (fun h=>h2 h.2.1),e2,Bool.and_false];rfl
  . have e1:Nat.beq v.cells.length q.2=false:=by
     grind[Nat.eq_of_beq_eq_true]
    rw[if_neg (fun h=>h1 h.1),e1];rfl
def GP(l:Option (List AV)):Option AV:=l.map .agg
theorem agM_some:GP (some cs)=some (.agg cs):=rfl
def MQ(K:PK)(r:Option PR):Option PR:=match r with
 |some (.val vs K1)=>some (.val vs ⟨K1.os,K.ext,K1.tch++K.tch⟩)
 |some (.pan v K1)=>some (.pan v ⟨K1.os,K.ext,K1.tch++K.tch⟩)
 |_=>none
theorem inpK_val(vs:List AV):MQ K (some (.val vs K'))=some (.val vs ⟨K'.os,K.ext,K'.tch++K.tch⟩):=rfl
theorem Am{T:Nat->Option (List AV->Option (List AV))}{F:Nat->Option PFn}{f:Nat}{args:List AV}(ht:T f=none)(hp:inpOf (F f)=true):evP ⟨E,T,F⟩ (.call f args K)=MQ K (evP ⟨E,T,F⟩ (.body f args ⟨K.os,K.os.length,[]⟩)):=by
 rw[evP];show(match T f with|some g=>_|none=>_)=_
 rw[ht];dsimp only;show(match inpOf (F f)with|true=>_|false=>_)=_
 rw[hp];dsimp only;cases evP ⟨E,T,F⟩ (.body f args ⟨K.os,K.os.length,[]⟩)with
 |none=>rfl
 |some r=>cases r<;>rfl
structure Lens(put:List AV->List PO)(id sz:Nat):Prop where
 row:∀es,rowOf (put es) 6 id=some (0,es,sz)
 set:∀es es',setRow (put es) 6 id es'=some (put es')
 raw:∀es,rawAt (put es) id=false
def wpE(off n:Nat)(r:Option (Nat×List AV×Nat)):Bool:=match r with|some (_,es,_)=>off==0&&n==es.length|none=>false
theorem wp_eq(id off n sz:Nat):wholeP (.msl id off n sz) os=wpE off n (rowOf os 6 id):=by
 show(match rowOf os 6 id with|some (_,es,_)=>_|none=>false)=_
 cases rowOf os 6 id<;>rfl
theorem wpE_some{n k z:Nat}(h:n=es.length):wpE 0 n (some (k,es,z))=true:=by
 show((0:Nat)==0&&n==es.length)=true
 rw[h];simp
theorem ap2_nil{s:AV}{base:List AV}{os2:List PO}{tc:List Nat}(h0:wholeP s K.os=true)(hz:base.length*te.bytes<=140737488355328):
 FY te s K base tc (some ([],os2))=some (.msl os2.length 0 base.length te.size,⟨os2++[.row 0 base te.size],K.ext,os2.length::tc++K.tch⟩):=by
 simp_all[FY,joinP]
theorem mC{T:Nat->Option (List AV->Option (List AV))}{F:Nat->Option PFn}{f:Nat}{args vs:List AV}{tch:List Nat}(ht:T f=none)(hp:inpOf (F f)=false)(hr:refsL args=[])(hn:renL (posOf []) args=args)
 (hb:evP ⟨E,T,F⟩ (.body f args ⟨[],0,[]⟩)=some (.val vs ⟨[],0,tch⟩))(hv:renL (wD [] K.os.length) vs=vs):evP ⟨E,T,F⟩ (.call f args K)=some (.val vs K):=by
 rw[evP];show(match T f with|some g=>_|none=>_)=_
 rw[ht];dsimp only;show(match inpOf (F f)with|true=>_|false=>_)=_
 rw[hp];dsimp only;rw[hn,hb];show(if([]:List PO).isEmpty=true then some (PR.val (renL (wD [] K.os.length) vs) K)else none)=_
 rw[hv];rfl
end
noncomputable section
variable {E:Env}{fr:PF}{K K' K1 Kf:PK}{v w x y c:AV}{vs es cs new:List AV}{te t:TI}{os l:List PO}{ids:List Nat}
theorem ro5(os:List PO)(id:Nat):rowOf os 5 id=ML os 4 os[id]?:=DB os 4 id
theorem fl_none(l:List Nat):l.filter (fun _=>false)=[]:=by simp
def rtQ(e:Option PO):Bool:=match e with|some (.row _ _ _)=>true|_=>false
theorem rtQ_eq{os:List PO}{id:Nat}:CS os id=rtQ os[id]?:=rfl
theorem rtQ_row{k sz:Nat}{es:List AV}:rtQ (some (.row k es sz))=true:=rfl
end
open Go.ChangeShapes Go.WideShapes Go.ChangeAt
section
variable {H:Type}{enc:TypeId×Value->H}{P:Program}{W:World}{base:Nat}{spare:Nat->Bool}{held:Bool}
def GC(P:Program):Nat->List Field->Prop
 |_,[]=>True
 |o,f::fs=>f.offset=o/\GC P (o+P.cellsOf f.type) fs
theorem oG{see:TypeId->DataW H->Option (List AV)}:∀(fs:List Field)(ds:List (DataW H))(ss:List (List AV))(o:Nat),ds.length=fs.length->ss.length=fs.length ->
 (∀(i:Nat) f d s,fs[i]?=some f->ds[i]?=some d->ss[i]?=some s->see f.type d=some s/\s.length=P.cellsOf f.type)->GC P o fs->dO P see o fs ds=some ss.flatten
 | [],ds,ss,o,h1,h2,h3,h4=>by
  have:ds=[]:=zqf h1
  have:ss=[]:=zqf h2
  subst_vars;rfl
 | f :: fs,ds,ss,o,h1,h2,h3,h4=>by
  cases ds with
  |nil=>cases h1
  | cons d ds =>
   cases ss with
   |nil=>cases h2
   | cons s ss =>
    obtain⟨k1,k2⟩:=h3 0 f d s rfl rfl rfl;have ih:=oG fs ds ss (o+P.cellsOf f.type) (by simpa using h1) (by simpa using h2) (fun i f d s a b c=>h3 (i+1) f d s (by simpa using a) (by simpa using b) (by simpa using c)) h4.2;show(bif Nat.beq f.offset o then A7 (see f.type d) fun a=>bif Nat.beq (lenL a) (P.cellsOf f.type)then A7 (dO P see (Nat.add o (P.cellsOf f.type)) fs ds) fun r=>some (appL a r)else none else none)=_
    rw[h4.1,zql,k1];show(bif Nat.beq (lenL s) (P.cellsOf f.type)then A7 (dO P see (o+P.cellsOf f.type) fs ds) fun r=>some (appL s r)else none)=_
    rw[A9,k2,zql,ih];show some (appL s ss.flatten)=_
    rw[Q0];rfl
theorem s4:∀(ts:List TypeId)(ds:List (DataW H))(i:Nat) t d w,ts[i]?=some t->ds[i]?=some d->w∈d.weights P t->w∈DataW.weightsEach P ts ds
 |[],ds,i,t,d,w,h1,_,_=>by simp at h1
 |t0::ts,[],i,t,d,w,_,h2,_=>by simp at h2
 | t0::ts,d0::ds,0,t,d,w,h1,h2,h3=>by
  cases h1;cases h2;unfold DataW.weightsEach;exact zqg _ h3
 | t0::ts,d0::ds,i+1,t,d,w,h1,h2,h3=>by
  unfold DataW.weightsEach;exact zqi _ (s4 ts ds i t d w (by simpa using h1) (by simpa using h2) h3)
theorem Gt:∀(ds:List (DataW H))(e:TypeId)(i:Nat) d w,ds[i]?=some d->w∈d.weights P e->w∈DataW.weightsAll P e ds
 |[],e,i,d,w,h,_=>by simp at h
 | d0::ds,e,0,d,w,h,hw=>by
  cases h;unfold DataW.weightsAll;exact zqg _ hw
 | d0::ds,e,i+1,d,w,h,hw=>by
  unfold DataW.weightsAll;exact zqi _ (Gt ds e i d w (by simpa using h) hw)
def Wt(P:Program)(t:TypeId)(d:DataW H):Prop:=∀w∈d.weights P t,w<=reachBytes
theorem iZ{t:TypeId}{fs:Array Field}(ht:P.underlying t=some (.struct fs)){n:Nat}{cs:List Value}{d:DataW H}{ps:List MemPlace}(h:DataW.trod enc P W base spare held n t cs=some (d,ps))(hw:Wt P t d):
 ∃ds,d=.agg ds/\ds.length=fs.toList.length/\∀(i:Nat) f,fs.toList[i]?=some f->∃di n' csi psi,ds[i]?=some di/\DataW.trod enc P W base spare held n' f.type csi=some (di,psi)/\Wt P f.type di:=by
 obtain⟨xs,n',rfl,e,hcl,hxl,hx⟩:=DataW.trod_struct ht h;cases e;refine⟨xs.map (·.1),rfl,by simpa using hxl,fun i f hf=>?_⟩;have hf':fs[i]?=some f:=by simpa using hf
 have hi:i<xs.length:=by rw[hxl];exact(Array.getElem?_eq_some_iff.1 hf').1
 have hxi:xs[i]?=some xs[i]:=zqc hi;have h1:=hx i f hf';rw[hxi]at h1;refine⟨xs[i].1,n',_,xs[i].2,by rw[zqb,hxi];rfl,h1,fun w hwm=>hw w ?_⟩;unfold DataW.weights;rw[ht];exact s4 _ _ i _ _ w (by rw[zqb,hf];rfl) (by rw[zqb,hxi];rfl) hwm
def Xv{α:Type}(P:Program)(e:TypeId)(Q:List AV->α->Prop)(v:AV)(l:List α):Prop:=
 ((v=.nilsl/\l=[])\/∃rs:List (List AV),v=.fsl (rs.map (seeV P e)) false/\rs.length=l.length/\∀(i:Nat) r X,rs[i]?=some r->l[i]?=some X->Q r X)/\l.length*P.bytesOf e<=reachBytes
theorem oH{α:Type}{see:DataW H->Option (List AV)}{Q:List AV->α->Prop}:∀(ds:List (DataW H)),(∀(i:Nat) d,ds[i]?=some d->∃acs X,see d=some acs/\Q acs X)->∃(rs:List (List AV))(l:List α),jF see ds=some rs/\rs.length=ds.length/\l.length=ds.length/\∀(i:Nat) r X,rs[i]?=some r->l[i]?=some X->Q r X
 |[],_=>⟨[],[],rfl,rfl,rfl,fun i r X h=>by simp at h⟩
 | d :: ds,h=>by
  obtain⟨acs,X,h1,h2⟩:=h 0 d rfl;obtain⟨rs,l,h3,h4,h5,h6⟩:=oH ds fun i d hd=>h (i+1) d (by simpa using hd)
  refine⟨acs::rs,X::l,?_,by simp[h4],by simp[h5],fun i r Y hr hY=>?_⟩
  . show A7 (see d) (fun a=>A7 (jF see ds) fun r=>some (a::r))=_
    rw[h1,h3];rfl
  . cases i with
    |zero=>cases hr;cases hY;exact h2
    |succ i=>exact h6 i r Y (by simpa using hr) (by simpa using hY)
theorem An{α:Type}{Q:List AV->α->Prop}{t e:TypeId}{m:Nat}(ht:P.underlying t=some (.slice e))(h0:0<P.cellsOf e)
 (hel:∀n cs (d:DataW H) ps,DataW.trod enc P W base spare held n e cs=some (d,ps)->Wt P e d->∃acs X,X4 P m e d=some acs/\(acs.length=P.cellsOf e/\(Ao P e=true\/acs.length=1))/\Q acs X)
 {n:Nat}{cs:List Value}{d:DataW H}{ps:List MemPlace}(h:DataW.trod enc P W base spare held n t cs=some (d,ps))(hw:Wt P t d):∃v l,X4 P (m+1) t d=some [v]/\Xv P e Q v l:=by
 rcases DataW.trod_slice ht h with⟨rfl,e1⟩|⟨a,len,cap,elems,rest,n',rfl,rfl,e1,_,hlc,_,hlen,hels,_,_⟩
 . cases e1
   refine⟨.nilsl,[],?_,.inl ⟨rfl,rfl⟩,by simp⟩;unfold X4;rw[ht]
 . cases e1
   have hall:∀(i:Nat) di,(elems.map (·.1))[i]?=some di->∃acs X,X4 P m e di=some acs/\((acs.length=P.cellsOf e/\(Ao P e=true\/acs.length=1))/\Q acs X):=fun i di hi=>by
    rw[zqb,Option.map_eq_some_iff]at hi;obtain⟨x,hx,rfl⟩:=hi;have hik:i<len:=by rw[<-hlen];exact(zqe.1 hx).1
    have h3:=hels i hik;rw[hx]at h3;cases hcs:W.cells? base (a.add (i*P.cellsOf e)) (P.cellsOf e)with
    |none=>rw[hcs]at h3;cases h3
    | some csi =>
     rw[hcs]at h3;refine hel n' csi x.1 x.2 h3 fun w hwm=>hw w ?_
     unfold DataW.weights;rw[ht];exact List.mem_cons_of_mem _ (zqg _ (Gt _ e i x.1 w (by rw[zqb,hx];rfl) hwm))
   obtain⟨rs,l,h1,h2,h3,h4⟩:=oH (Q:=fun acs X=>(acs.length=P.cellsOf e/\(Ao P e=true\/acs.length=1))/\Q acs X) _ hall;refine⟨.fsl (rs.map (seeV P e)) false,l,?_,.inr ⟨rs,rfl,by rw[h2,h3],fun i r X hr hX=>(h4 i r X hr hX).2⟩,?_⟩
   . unfold X4
     rw[ht];dsimp only;rw[show Nat.blt 0 (P.cellsOf e)=true from zqm h0,h1];show(bif (rs.all fun r=>Nat.beq (lenL r) (P.cellsOf e)&&(Ao P e||Nat.beq (lenL r) 1))then some [AV.fsl (rs.map (seeV P e)) false]else none)=_
     have:(rs.all fun r=>Nat.beq (lenL r) (P.cellsOf e)&&(Ao P e||Nat.beq (lenL r) 1))=true:=by
      rw[List.all_eq_true];intro r hr;obtain⟨i,hi⟩:=zqj hr;have hil:i<l.length:=by rw[h3,<-h2];exact(zqe.1 hi).1
      obtain⟨⟨q1,q2⟩,_⟩:=h4 i r _ hi (zqc hil);rw[A9,q1,zql];rcases q2 with q2|q2
      . rw[q2];rfl
      . rw[<-q1,q2];simp
     rw[this];rfl
   . rw [h3,zqk]
     have:=hw ((elems.length+rest.length)*P.bytesOf e) (by
      unfold DataW.weights;rw[ht];simp)
     exact Nat.le_trans (Nat.mul_le_mul_right _ (Nat.le_add_right _ _)) this
theorem Xv.mem{α:Type}{e:TypeId}{Q:List AV->α->Prop}{v:AV}{l:List α}(hq:Xv P e Q v l){X:α}(hX:X∈l):∃r,Q r X:=by
 rcases hq.1 with⟨rfl,rfl⟩|⟨rs,rfl,hl,hx⟩
 . cases hX
 . obtain⟨i,hi⟩:=zqj hX
   have hil:i<rs.length:=by rw[hl];exact(zqe.1 hi).1
   exact⟨_,hx i _ X (zqc hil) hi⟩
def Mw(P:Program):Nat->List (Nat×Nat)->Prop
 |_,[]=>True
 |o,f::fs=>f.2=o/\Mw P (o+P.cellsOf f.1) fs
theorem jA:∀(fs:List Field)(o:Nat),Mw P o (fs.map fun f=>(f.type,f.offset))->GC P o fs
 |[],_,_=>trivial
 |f::fs,o,h=>⟨h.1,jA fs _ h.2⟩
theorem jB:∀(ss:List (List AV))(L:List (Nat×Nat)),ss.length=L.length->(∀(i:Nat) s f,ss[i]?=some s->L[i]?=some f->s.length=P.cellsOf f.1)->ss.flatten.length=(L.map fun f=>P.cellsOf f.1).sum
 |[],[],_,_=>rfl
 |[],_::_,h,_=>by cases h
 |_::_,[],h,_=>by cases h
 | s::ss,f::L,h,hc=>by
  rw[List.flatten_cons,List.length_append,List.map_cons,List.sum_cons,hc 0 s f rfl rfl,jB ss L (by simpa using h) fun i s f a b=>hc (i+1) s f (by simpa using a) (by simpa using b)]
theorem aE{Qs:Nat->List AV->Prop}:∀(n:Nat),(∀i,i<n->∃s,Qs i s)->∃ss:List (List AV),ss.length=n/\∀(i:Nat) s,ss[i]?=some s->Qs i s
 |0,_=>⟨[],rfl,fun i s h=>by simp at h⟩
 | n + 1,h=>by
  obtain⟨ss,h1,h2⟩:=aE n fun i hi=>h i (by omega)
  obtain⟨s,hs⟩:=h n (by omega);refine⟨ss++[s],by simp[h1],fun i t ht=>?_⟩;rw[List.getElem?_append]at ht;split at ht
  . exact h2 i t ht
  . rename_i hi
    cases hk:i-ss.length with
    | zero =>
     rw[hk]at ht;cases ht
     have:i=n:=by omega
     subst this;exact hs
    |succ k=>rw[hk]at ht;simp at ht
theorem l9{t:TypeId}{fs:Array Field}{L:List (Nat×Nat)}{m:Nat}{Qs:Nat->List AV->Prop}(ht:P.underlying t=some (.struct fs))(hm:fs.toList.map (fun f=>(f.type,f.offset))=L)(hoff:Mw P 0 L)(hc:P.cellsOf t=(L.map fun f=>P.cellsOf f.1).sum)
 (hF:∀(i ty off:Nat),L[i]?=some (ty,off)->∀n cs (d:DataW H) ps,DataW.trod enc P W base spare held n ty cs=some (d,ps)->Wt P ty d->∃s,X4 P m ty d=some s/\s.length=P.cellsOf ty/\Qs i s)
 {n:Nat}{cs:List Value}{d:DataW H}{ps:List MemPlace}(h:DataW.trod enc P W base spare held n t cs=some (d,ps))(hw:Wt P t d):
 ∃ss:List (List AV),X4 P (m+1) t d=some ss.flatten/\ss.flatten.length=P.cellsOf t/\ss.length=L.length/\∀(i:Nat) s,ss[i]?=some s->Qs i s:=by
 obtain⟨ds,rfl,hl,hx⟩:=iZ ht h hw;have hLl:L.length=fs.toList.length:=by rw[<-hm,zqk]
 obtain ⟨ss,h1,h2⟩:=aE (Qs:=fun i s=>(∀di ty off,ds[i]?=some di->L[i]?=some (ty,off)->X4 P m ty di=some s/\s.length=P.cellsOf ty)/\Qs i s) L.length (fun i hi=>by
  obtain⟨f,hf⟩:∃f,fs.toList[i]?=some f:=⟨_,zqc (by omega)⟩
  have hLi:L[i]?=some (f.type,f.offset):=by rw[<-hm,zqb,hf];rfl
  obtain⟨di,n',csi,psi,k1,k2,k3⟩:=hx i f hf;obtain⟨s,k4,k5,k6⟩:=hF i _ _ hLi n' csi di psi k2 k3;refine⟨s,fun di' ty off a b=>?_,k6⟩;rw[k1]at a;cases a;rw[hLi]at b;cases b;exact⟨k4,k5⟩)
 have hall:∀(i:Nat) f d s,fs.toList[i]?=some f->ds[i]?=some d->ss[i]?=some s->X4 P m f.type d=some s/\s.length=P.cellsOf f.type:=fun i f d s hf hd hs =>
  (h2 i s hs).1 d f.type f.offset hd (by rw[<-hm,zqb,hf];rfl)
 have hflat:ss.flatten.length=P.cellsOf t:=by
  rw[hc];refine jB ss L h1 fun i s f hs hf=>?_
  obtain⟨d,hd⟩:∃d,ds[i]?=some d:=⟨_,zqc (by have:=(zqe.1 hf).1;omega)⟩
  exact((h2 i s hs).1 d f.1 f.2 hd hf).2
 refine⟨ss,?_,hflat,h1,fun i s hs=>(h2 i s hs).2⟩;unfold X4;rw[ht];show A7 (dO P (X4 P m) 0 fs.toList ds) (fun r=>bif Nat.beq (lenL r) (P.cellsOf t)then some r else none)=_
 rw[oG fs.toList ds ss 0 hl (by omega) hall (jA _ 0 (by rw[hm];exact hoff))];show(bif Nat.beq (lenL ss.flatten) (P.cellsOf t)then some ss.flatten else none)=_
 rw[A9,hflat,zql];rfl
theorem Xv.fz{α:Type}{e:TypeId}{Q:List AV->α->Prop}{F:α->AV}{v:AV}{l:List α}(hq:Xv P e Q v l){Z:Nat->Prop}{h:Heap}(hR:∀r X,Q r X->Fz Z h (seeV P e r) (F X)):Fz Z h v (fslN (l.map F)):=by
 rcases hq.1 with⟨rfl,rfl⟩|⟨rs,rfl,hl,hx⟩
 . exact .emp .nil
 . cases l with
   | nil =>
    have:rs=[]:=zqf hl
    subst this;exact .emp .fsl
   | cons a l =>
    refine .fsl (by simp[hl]) (fun i x y h1 h2=>?_) rfl;rw[zqb,Option.map_eq_some_iff]at h1 h2;obtain⟨r,hr,rfl⟩:=h1;obtain⟨X,hX,rfl⟩:=h2;exact hR r X (hx i r X hr hX)
end
end Go.AM
