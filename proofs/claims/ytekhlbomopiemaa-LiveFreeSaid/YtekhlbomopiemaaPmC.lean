/- The tree machine: code as trees, memory by kept numbers, and that it says what the machine does. Conditions: none. -/
import Derived.Test.YtekhlbomopiemaaPmB
set_option linter.unusedVariables false
set_option linter.unusedSimpArgs false
set_option linter.unusedSectionVars false
set_option linter.defProp false
set_option maxHeartbeats 4000000
open Option renaming some→zs,none→zn
open Bool renaming true→zt,false→zf
open List renaming replicate→zqa,getElem?_map→zqb,range→zqc,getElem?_eq_getElem→zqd,getElem?_eq_some_iff→zqe,eq_nil_of_length_eq_zero→zqf,mem_append_left→zqg,take_length→zqh,mem_append_right→zqi,getElem?_of_mem→zqj,length_map→zqk
open Nat renaming beq_refl→zql,ble_eq_true_of_le→zqm,eq_of_beq_eq_true→zqn
namespace Go.AM
noncomputable section
variable {E:Env}{T:Nat->Option (List AV->Option (List AV))}{F:Nat->Option PFn}{fr:PF}{K K':PK}{v:AV}{vs:List AV}
def SG(fr:PF)(K:PK)(r:Option PR):Option PR:=match r with
 |some (.itr .normal p _ K1)=>zs (.ok (uS p) fr ⟨K1.os,K.ext,K1.tch++K.tch⟩)
 |some (.itr .ret p _ K1)=>zs (.ok (uS p) fr ⟨K1.os,K.ext,K1.tch++K.tch⟩)
 |_=>zn
theorem AX(p:Option Ex)(A:PF):SG fr K (zs (.itr .normal p A K'))=zs (.ok (uS p) fr ⟨K'.os,K.ext,K'.tch++K.tch⟩):=rfl
theorem HB{g:Operand}{ps:List Tmp}{a b ic:PC}{x:XC}{n nt:Nat}{caps:List AV}{rs:List ResultVar}{i:Bool}(hg:opvP E g fr=.fn (.func n) [] caps)(hf:F n=zs ⟨.itf x ic,nt,rs,i⟩)(hn:caps.length+1<=nt):
 evP ⟨E,T,F⟩ (.code (.rfn g ps a b) fr K)=SG fr K (evP ⟨E,T,F⟩ (.iter ⟨ps,a,b,fr⟩ itMax ic zn (enterP 0 (.any::caps)) ⟨K.os,K.os.length,[]⟩)):=by
 rw[evP,evG];show(match opvP E g fr with | .fn (.func n) [] caps=>(match itOf (F n)with|some (nt,ic)=>_|none=>zn)|_=>zn)=_
 rw[hg];dsimp only;rw[hf];dsimp only[itOf];rw[if_pos hn];cases evP ⟨E,T,F⟩ (.iter ⟨ps,a,b,fr⟩ itMax ic zn (enterP 0 (.any::caps)) ⟨K.os,K.os.length,[]⟩)with
 |none=>rfl
 | some r=>cases r with
  |itr e p fr1 K1=>cases e<;>rfl
  |_=>rfl
def SH(P:PE)(b:PC)(r:Option PR):Option PR:=match r with
 |some (.ok .normal fr K)=>evP P (.code b fr K)
 |_=>zn
theorem eO(P:PE)(b:PC):SH P b (zs (.ok .normal fr K))=evP P (.code b fr K):=rfl
theorem rC{P:PE}{ps:List Tmp}{a b:PC}{args:List AV}(hn:args.length=ps.length):evP P (.round ⟨ps,a,b,fr⟩ args K)=SH P b (evP P (.code a (setPs' ps args fr) K)):=by
 rw[evP,evG];dsimp only;rw[if_pos hn];cases evP P (.code a (setPs' ps args fr) K)with
 |none=>rfl
 | some r=>cases r with
  |ok e fr1 K1=>cases e<;>rfl
  |_=>rfl
theorem Hg(l:List AV):setPs' [] l fr=fr:=by cases l<;>rfl
theorem Ds(p:Tmp)(ps:List Tmp)(v:AV)(l:List AV):setPs' (p::ps) (v::l) fr=setPs' ps l ((p,v)::fr):=rfl
variable {P:PE}{c:RC}{m:Nat}{p:Option Ex}
def kP(P:PE)(c:RC)(m:Nat)(b:PC)(r:Option PR):Option PR:=match r with
 |some (.itr .normal p fr K)=>evP P (.iter c m b p fr K)
 |some (.itr (.exit i) p fr K)=>zs (.itr (.exit i) p fr K)
 |some (.itr .ret p fr K)=>zs (.itr .ret p fr K)
 |_=>zn
theorem Hh(b:PC):kP P c m b (zs (.itr .normal p fr K))=evP P (.iter c m b p fr K):=rfl
theorem Hi(b:PC)(i:Nat):kP P c m b (zs (.itr (.exit i) p fr K))=zs (.itr (.exit i) p fr K):=rfl
theorem Hj(b:PC):kP P c m b (zs (.itr .ret p fr K))=zs (.itr .ret p fr K):=rfl
theorem bA(a b:PC):evP P (.iter c (m+1) (.seq a b) p fr K)=kP P c m b (evP P (.iter c m a p fr K)):=by
 rw[evP,evG];cases evP P (.iter c m a p fr K)with
 |none=>rfl
 | some r=>cases r with
  |itr e p fr K=>cases e<;>rfl
  |_=>rfl
theorem eP(a:PC):evP P (.iter c (m+1) (.loop a) p fr K)=kP P c m (.loop a) (evP P (.iter c m a p fr K)):=by
 rw[evP,evG];cases evP P (.iter c m a p fr K)with
 |none=>rfl
 | some r=>cases r with
  |itr e p fr K=>cases e<;>rfl
  |_=>rfl
def HC(p:Option Ex)(r:Option PR):Option PR:=match r with
 |some (.ok .normal fr K)=>zs (.itr .normal p fr K)
 |_=>zn
theorem Hk:HC p (zs (.ok .normal fr K))=zs (.itr .normal p fr K):=rfl
theorem bB(d:Bool)(l:List XOp):evP P (.iter c (m+1) (.reg d l) p fr K)=HC p (evP P (.code (.reg d l) fr K)):=by
 rw[evP,evG];cases evP P (.code (.reg d l) fr K)with
 |none=>rfl
 | some r=>cases r with
  |ok e fr K=>cases e<;>rfl
  |_=>rfl
def nW(P:PE)(c:RC)(m:Nat)(a b:PC)(x:AV)(p:Option Ex)(fr:PF)(K:PK):Option PR:=match x with | .bool zt=>evP P (.iter c m a p fr K) | .bool zf=>evP P (.iter c m b p fr K)|_=>zn
theorem Cq(a b:PC):nW P c m a b (.bool zt) p fr K=evP P (.iter c m a p fr K):=rfl
theorem Cr(a b:PC):nW P c m a b (.bool zf) p fr K=evP P (.iter c m b p fr K):=rfl
theorem Ox(x:Operand)(a b:PC):evP P (.iter c (m+1) (.cond x a b) p fr K)=nW P c m a b (opvP P.E x fr) p fr K:=by rw[evP,evG];rfl
def rD(i:Nat)(r:Option PR):Option PR:=match r with
 |some (.itr .normal p fr K)=>zs (.itr .normal p fr K)
 |some (.itr (.exit j) p fr K)=>if j=i then zs (.itr .normal p fr K)else zs (.itr (.exit j) p fr K)
 |some (.itr .ret p fr K)=>zs (.itr .ret p fr K)
 |_=>zn
theorem Hl(i:Nat):rD i (zs (.itr .normal p fr K))=zs (.itr .normal p fr K):=rfl
theorem Hm(i j:Nat):rD i (zs (.itr (.exit j) p fr K))=if j=i then zs (.itr .normal p fr K)else zs (.itr (.exit j) p fr K):=rfl
theorem Hn(i:Nat):rD i (zs (.itr .ret p fr K))=zs (.itr .ret p fr K):=rfl
theorem Ho(i:Nat)(a:PC):evP P (.iter c (m+1) (.block i a) p fr K)=rD i (evP P (.iter c m a p fr K)):=by
 rw[evP,evG];cases evP P (.iter c m a p fr K)with
 |none=>rfl
 | some r=>cases r with
  |itr e p fr K=>cases e<;>rfl
  |_=>rfl
theorem Oy:evP P (.iter c (m+1) .skip p fr K)=zs (.itr .normal p fr K):=by rw[evP,evG]
theorem Oz(i:Nat):evP P (.iter c (m+1) (.exit i) p fr K)=zs (.itr (.exit i) p fr K):=by rw[evP,evG]
theorem bC:evP P (.iter c (m+1) .ret p fr K)=zs (.itr .ret p fr K):=by rw[evP,evG]
def VB(e:Ex)(r:Option PR):Option PR:=match r with
 |some (.ok .normal fr K)=>zs (.itr .normal (Ok e) fr K)
 |_=>zn
def rE(P:PE)(p2:PC)(yd:Tmp)(fr:PF)(K:PK)(r:Option PR):Option PR:=match r with
 |some (.ok e _ K1)=>VB e (evP P (.code p2 ((yd,.bool (wentOn e))::fr) ⟨K1.os,K.ext,K1.tch++K.tch⟩))
 |_=>zn
def VC(P:PE)(c:RC)(gd:Option (Option Tmp×Bool))(yd:Tmp)(args:List Operand)(p2:PC)(r:Option PR):Option PR:=match r with
 | some (.ok .normal fr K)=>(match guardP gd fr with
  |some zt=>rE P p2 yd fr K (evP P (.round c (opvL P.E args fr) ⟨K.os,K.os.length,[]⟩))
  |_=>zn)
 |_=>zn
def y0K(P:PE)(c:RC)(gd:Option (Option Tmp×Bool))(yt:Tmp)(p1:PC)(yd:Tmp)(args:List Operand)(p2:PC)(r:Option PR):Option PR:=match r with
 | some (.ok .normal fr K)=>(match guardP gd fr with
  |some zt=>VC P c gd yd args p2 (evP P (.code p1 ((yt,.any)::fr) K))
  |_=>zn)
 |_=>zn
theorem bD(e:Ex):VB e (zs (.ok .normal fr K))=zs (.itr .normal (Ok e) fr K):=rfl
theorem Cs(p2:PC)(yd:Tmp)(e:Ex)(A:PF):rE P p2 yd fr K (zs (.ok e A K'))=VB e (evP P (.code p2 ((yd,.bool (wentOn e))::fr) ⟨K'.os,K.ext,K'.tch++K.tch⟩)):=rfl
theorem bE(yd:Tmp)(args:List Operand)(p2:PC):VC P c zn yd args p2 (zs (.ok .normal fr K))=rE P p2 yd fr K (evP P (.round c (opvL P.E args fr) ⟨K.os,K.os.length,[]⟩)):=rfl
theorem bF(yt:Tmp)(p1:PC)(yd:Tmp)(args:List Operand)(p2:PC):y0K P c zn yt p1 yd args p2 (zs (.ok .normal fr K))=VC P c zn yd args p2 (evP P (.code p1 ((yt,.any)::fr) K)):=rfl
theorem Pa(p0:PC)(yt:Tmp)(p1:PC)(yd:Tmp)(args:List Operand)(p2:PC):evP P (.iter c (m+1) (.yreg p0 zn yt p1 yd args p2) zn fr K)=y0K P c zn yt p1 yd args p2 (evP P (.code p0 fr K)):=by
 rw[evP,evG];cases evP P (.code p0 fr K)with
 |none=>rfl
 | some r => cases r with
  |ok e fr K=>
   cases e with
   |normal=>
    show(evP P (.code p1 ((yt,.any)::fr) K) >>= _)=VC P c zn yd args p2 (evP P (.code p1 ((yt,.any)::fr) K))
    cases evP P (.code p1 ((yt,.any)::fr) K)with
    |none=>rfl
    | some r => cases r with
     |ok e fr K=>
      cases e with
      |normal=>
       show(evP P (.round c (opvL P.E args fr) ⟨K.os,K.os.length,[]⟩) >>= _)=rE P p2 yd fr K (evP P (.round c (opvL P.E args fr) ⟨K.os,K.os.length,[]⟩))
       cases evP P (.round c (opvL P.E args fr) ⟨K.os,K.os.length,[]⟩)with
       |none=>rfl
       | some r=>cases r with
        |ok e fr1 K1=>
         show(evP P (.code p2 ((yd,.bool (wentOn e))::fr) ⟨K1.os,K.ext,K1.tch++K.tch⟩) >>= _)=VB e (evP P (.code p2 ((yd,.bool (wentOn e))::fr) ⟨K1.os,K.ext,K1.tch++K.tch⟩))
         cases evP P (.code p2 ((yd,.bool (wentOn e))::fr) ⟨K1.os,K.ext,K1.tch++K.tch⟩)with
         |none=>rfl
         | some r=>cases r with
          |ok e fr K=>cases e<;>rfl
          |_=>rfl
        |_=>rfl
      |_=>rfl
     |_=>rfl
   |_=>rfl
  |_=>rfl
end
noncomputable section
variable {E:Env}{fr:PF}{K K':PK}{v w x y:AV}{vs:List AV}
theorem lk_hit(i:Nat)(r:PF):lookP ((i,v)::r) i=v:=by show(if i=i then v else _)=v;grind
theorem lk_cons(i j:Nat)(r:PF):lookP ((i,v)::r) j=if i=j then v else lookP r j:=rfl
theorem st_some(t:Nat):setP (zs t) v fr=(t,v)::fr:=rfl
theorem st_none:setP zn v fr=fr:=rfl
theorem ov_tmp(t:Nat):opvP E (.tmp t) fr=lookP fr t:=rfl
theorem ov_int(k:IntKind)(n:Int):opvP E (.const (.int k n)) fr=.int k n:=rfl
theorem ov_bool(b:Bool):opvP E (.const (.bool b)) fr=.bool b:=rfl
theorem ov_str(s:List UInt8):opvP E (.const (.string ⟨⟨s⟩⟩)) fr=.str s:=rfl
theorem ov_nsl:opvP E (.const (.slice zn 0 0)) fr=.nilsl:=rfl
theorem ov_npt:opvP E (.const (.pointer zn)) fr=.nilptr:=rfl
theorem ov_func(f:Nat):opvP E (.func f) fr=.fn (.func f) [] []:=rfl
theorem ol_nil:opvL E [] fr=[]:=rfl
theorem ol_cons(x:Operand)(l:List Operand):opvL E (x::l) fr=opvP E x fr::opvL E l fr:=rfl
theorem oq_nil:eA E [] fr=[]:=rfl
theorem oq_cons(i:Nat)(x:Operand)(l:List (Nat×Operand)):eA E ((i,x)::l) fr=(i,opvP E x fr)::eA E l fr:=rfl
theorem oo_none:eB E zn fr=zn:=rfl
theorem oo_some(x:Operand):eB E (zs x) fr=zs (opvP E x fr):=rfl
theorem en_nil(i:Nat):enterP i []=[]:=rfl
theorem en_cons(i:Nat)(l:List AV):enterP i (v::l)=(i,v)::enterP (i+1) l:=rfl
theorem one_1(v:AV):oneOrTup [v]=v:=rfl
theorem one_2(v w:AV):oneOrTup [v,w]=.tup [v,w]:=rfl
theorem one_0:oneOrTup []=.tup []:=rfl
theorem ofV_some(v:AV):Bp (zs v) K=.val v K:=rfl
theorem ofO_some(v:AV)(K':PK):Mo (zs (v,K'))=.val v K':=rfl
def SJ(x:AV)(i:Nat)(K:PK):OpS:=match x with | .tup vs=>Bp vs[i]? K|_=>.bad
theorem exP_tup(vs:List AV)(i:Nat):SJ (.tup vs) i K=Bp vs[i]? K:=rfl
theorem pr_move(x:Operand):prim E (.move x) fr K=.val (opvP E x fr) K:=rfl
theorem pr_assign(x:Operand):prim E (.assign x) fr K=.val (opvP E x fr) K:=rfl
theorem pr_pick(c a b:Operand):prim E (.pick c a b) fr K=Mp (opvP E c fr) (opvP E a fr) (opvP E b fr) K:=rfl
theorem pick_true(a b:AV):Mp (.bool zt) a b K=.val a K:=rfl
theorem pick_false(a b:AV):Mp (.bool zf) a b K=.val b K:=rfl
theorem pr_alloc(t:Nat):prim E (.alloc t) fr K=X8 E t fun ti=>.val (.ptr K.os.length 0 0) (newRow 1 [ti.zero] ti.size K):=rfl
theorem pr_box(t:Nat)(x:Operand):prim E (.box t x) fr K=X8 E t fun ti=>zU ti (opvP E x fr) K:=rfl
theorem pr_build(t:Nat)(ps:Array (Nat×Operand)):prim E (.build t ps) fr K=X8 E t fun ti=>Bp (R9 E ti (eA E ps.toList fr)) K:=rfl
theorem pr_buildSl(t n:Nat)(ps:Array (Nat×Operand)):prim E (.buildSlice t n ps) fr K=X8 E t fun ti=>match elemOfT E ti.desc with|some te=>Mo (Cj te n (eA E ps.toList fr) K)|none=>.bad:=rfl
theorem pr_load(t:Nat)(a:Operand):prim E (.load t a) fr K=X8 E t fun ti=>Mo (loadP ti (opvP E a fr) K):=rfl
theorem pr_store(t:Nat)(a x:Operand):prim E (.store t a x) fr K=X8 E t fun ti=>Mo ((storeP ti (opvP E a fr) (opvP E x fr) K).map fun K=>(.und,K)):=rfl
theorem pr_nil(x:Operand):prim E (.nilCheck x) fr K=Bp (j7 (opvP E x fr)) K:=rfl
theorem pr_bin(op:BinOp)(t u:Nat)(x y:Operand):prim E (.binOp op t x y u) fr K=Q6 E op t (opvP E x fr) (opvP E y fr) K:=rfl
theorem pr_un(op:UnOp)(t:Nat)(x:Operand):prim E (.unOp op t x) fr K=Bp (Kp op (opvP E x fr)) K:=rfl
theorem pr_conv(s d:Nat)(x:Operand):prim E (.convert s d x) fr K=X8 E s fun _=>X8 E d fun A=>Bp (R8 A.desc (opvP E x fr)) K:=rfl
theorem pr_fn(f:Fn)(a c:Array Operand):prim E (.makeFunc f a c) fr K=.val (.fn f (opvL E a.toList fr) (opvL E c.toList fr)) K:=rfl
theorem pr_slice(t:Nat)(x:Operand)(lo hi mx:Option Operand):prim E (.slice t x lo hi mx) fr K=X8 E t fun ti=>bif hi.isNone&&mx.isSome then .bad else Bp (Oj E ti.desc (eB E lo fr) (eB E hi fr) (eB E mx fr) (opvP E x fr)) K:=rfl
theorem pr_fa(t:Nat)(x:Operand)(f:Nat):prim E (.fieldAddr t x f) fr K=X8 E t fun ti=>Bp (E6 E ti f (opvP E x fr)) K:=rfl
theorem pr_ia(t:Nat)(x i:Operand):prim E (.indexAddr t x i) fr K=X8 E t fun ti=>Bp (Gd E ti (opvP E x fr) (opvP E i fr)) K:=rfl
theorem pr_ex(t:Operand)(i:Nat):prim E (.extract t i) fr K=SJ (opvP E t fr) i K:=rfl
theorem pr_bui(b:Builtin)(args:Array Operand)(ts:Array TypeId):prim E (.call ⟨.builtin b,args,ts⟩) fr K=Mo (E0 E b ts.toList (opvL E args.toList fr) K):=rfl
theorem pr_call(f:Nat)(args:Array Operand)(ts:Array TypeId):prim E (.call ⟨.value (.func f),args,ts⟩) fr K=.call f (opvL E args.toList fr):=by
 show OpS.call f ([]++(opvL E args.toList fr++[]))=_
 grind
theorem pr_callv(t:Nat)(args:Array Operand)(ts:Array TypeId):prim E (.call ⟨.value (.tmp t),args,ts⟩) fr K=Mq (lookP fr t) (opvL E args.toList fr):=rfl
theorem callP_fn(f:Nat)(a c l:List AV):Mq (.fn (.func f) a c) l=.call f (a++(l++c)):=rfl
theorem bp(op:BinOp)(t:Nat)(A:Oi x=zt)(B:Oi y=zt):Q6 E op t x y K=Bp (J1 op (N2 E t) x y) K:=if_pos ⟨A,B⟩
theorem bp_add(t:Nat)(k:IntKind)(a b:Int):Q6 E .add t (.int k a) (.int k b) K=.val (.int k (k.wrap (a+b))) K:=by rw[bp _ _ rfl rfl,RM];rfl
theorem bp_sub(t:Nat)(k:IntKind)(a b:Int):Q6 E .sub t (.int k a) (.int k b) K=.val (.int k (k.wrap (a-b))) K:=by rw[bp _ _ rfl rfl,RN];rfl
theorem bp_mul(t:Nat)(k:IntKind)(a b:Int):Q6 E .mul t (.int k a) (.int k b) K=.val (.int k (k.wrap (a*b))) K:=by rw[bp _ _ rfl rfl,RO];rfl
theorem bp_eql(t:Nat)(k:IntKind)(a b:Int):Q6 E .eql t (.int k a) (.int k b) K=.val (.bool (decide (a=b))) K:=by rw[bp _ _ rfl rfl,RP];rfl
theorem bp_neq(t:Nat)(k:IntKind)(a b:Int):Q6 E .neq t (.int k a) (.int k b) K=.val (.bool (!decide (a=b))) K:=by rw[bp _ _ rfl rfl,RQ];rfl
theorem bp_lss(t:Nat)(k:IntKind)(a b:Int):Q6 E .lss t (.int k a) (.int k b) K=.val (.bool (decide (a<b))) K:=by rw[bp _ _ rfl rfl,RR];rfl
theorem bp_leq(t:Nat)(k:IntKind)(a b:Int):Q6 E .leq t (.int k a) (.int k b) K=.val (.bool (decide (a<=b))) K:=by rw[bp _ _ rfl rfl,RS];rfl
theorem bp_gtr(t:Nat)(k:IntKind)(a b:Int):Q6 E .gtr t (.int k a) (.int k b) K=.val (.bool (decide (b<a))) K:=by rw[bp _ _ rfl rfl,RT];rfl
theorem bp_geq(t:Nat)(k:IntKind)(a b:Int):Q6 E .geq t (.int k a) (.int k b) K=.val (.bool (decide (b<=a))) K:=by rw[bp _ _ rfl rfl,RU];rfl
theorem bp_eqlS(t:Nat)(a b:List UInt8):Q6 E .eql t (.str a) (.str b) K=.val (.bool (decide (a=b))) K:=by rw[bp _ _ rfl rfl,KH];rfl
theorem bp_neqS(t:Nat)(a b:List UInt8):Q6 E .neq t (.str a) (.str b) K=.val (.bool (!decide (a=b))) K:=by rw[bp _ _ rfl rfl,KI];rfl
theorem wt_true(b:Bool):j8 zt (.bool b)=zs b:=rfl
theorem wt_false(b:Bool):j8 zf (.bool b)=zs (!b):=rfl
theorem wt_skip(w:Bool):j8 w skipped=zs zf:=rfl
theorem as_nat(k:IntKind)(n:Nat):asNat (.int k (n:Int))=zs n:=rfl
theorem B7{i:Nat}(h:i<9223372036854775807):IntKind.i64.wrap ((i:Int)+1)=((i+1:Nat):Int):=by
 rw[IntKind.wrap_i64];omega
def BH(x:AV)(K:PK):Option (AV×PK):=(fH x).map fun n=>(.int .i64 (Int.ofNat n),K)
theorem ln_fsl(es:List AV)(f:Bool):Mo (BH (.fsl es f) K)=.val (.int .i64 (es.length:Int)) K:=by
 show Mo ((zs (lenL es)).map _)=_;rw[A5];rfl
theorem ln_msl(id off n sz:Nat):Mo (BH (.msl id off n sz) K)=.val (.int .i64 (n:Int)) K:=rfl
def Pb(te:TI)(x i:AV):Option AV:=match asNat i with|some n=>fK te n x|none=>zn
theorem ix_fsl{te:TI}{k:IntKind}{i:Nat}{es:List AV}{f:Bool}(h:es[i]?=zs v)(A:v.cells.length=te.size):Pb te (.fsl es f) (.int k (i:Int))=zs (.fptr v 0):=by
 show A6 (Es es i) (fun v=>B3 (Nat.beq (lenL v.cells) te.size) (zs (AV.fptr v 0)))=_
 rw[R3,h];show B3 (Nat.beq (lenL v.cells) te.size) (zs (AV.fptr v 0))=_
 rw[A5,A,zql];rfl
theorem ix_msl{te:TI}{k:IntKind}{i id off n sz:Nat}(h:i<n)(A:sz=te.size):Pb te (.msl id off n sz) (.int k (i:Int))=zs (.ptr id (off+i) 0):=by
 show B3 (Nat.blt i n&&Nat.beq sz te.size) (M6 (Nat.add off i) fun o=>zs (AV.ptr id o 0))=_
 rw[B6,A,zql,show Nat.blt i n=zt from zqm h];rfl
theorem ld_f(t:TI)(v:AV)(off:Nat):Mo (loadP t (.fptr v off) K)=Bp (partOf t v.cells off) K:=by
 show Mo ((partOf t v.cells off).map (·,K))=_
 cases partOf t v.cells off<;>rfl
def VD(id i off:Nat)(K:PK)(w:Option AV):OpS:=match w with|some w=>.val (Wd id i off w K).1 (Wd id i off w K).2|none=>.bad
def VE(t:TI)(id i off:Nat)(K:PK)(v:Option AV):OpS:=match v with|some v=>VD id i off K (partOf t v.cells off)|none=>.bad
def ldR(t:TI)(id i off:Nat)(K:PK)(r:Option (Nat×List AV×Nat)):OpS:=match r with|some (_,es,_)=>VE t id i off K es[i]?|none=>.bad
theorem ld_p(t:TI)(id i off:Nat):Mo (loadP t (.ptr id i off) K)=ldR t id i off K (rowOf K.os 6 id):=by
 show Mo (match rowOf K.os 6 id with|some (_,es,_)=>_|none=>zn)=_
 cases rowOf K.os 6 id with
 |none=>rfl
 |some q=>
  obtain⟨k,es,z⟩:=q;show Mo (match es[i]? with|some v=>_|none=>zn)=VE t id i off K es[i]?
  cases es[i]? with
  |none=>rfl
  |some v=>
   show Mo (match partOf t v.cells off with|some w=>_|none=>zn)=VD id i off K (partOf t v.cells off)
   cases partOf t v.cells off<;>rfl
theorem ldR_some(t:TI)(id i off k z:Nat)(es:List AV):ldR t id i off K (zs (k,es,z))=VE t id i off K es[i]?:=rfl
theorem ldE_some(t:TI)(id i off:Nat):VE t id i off K (zs v)=VD id i off K (partOf t v.cells off):=rfl
end
noncomputable section
variable {E:Env}{fr:PF}{K K':PK}{v w x y:AV}{vs es:List AV}{te:TI}{os:List PO}
theorem tb_nil:takeB te .nilsl os=zs ([],os,[]):=rfl
def tbE(te:TI)(id off n sz:Nat)(os:List PO)(e:Option PO):Option (List AV×List PO×List Nat):=match e with
 |some (.row k es z)=>if k=0/\z=te.size/\sz=z/\off+n<=es.length then zs ((es.drop off).take n,(killP os id []).set id .dead,[id])else zn
 |some (.sub p i o)=>takeB te (.msl id off n sz) os
 |_=>zn
theorem tb_eq(id off n sz:Nat):takeB te (.msl id off n sz) os=tbE te id off n sz os os[id]?:=by
 cases h:os[id]? with
 |none=>
  unfold takeB
  have:rowOf os 6 id=zn:=by unfold rowOf;rw[h]
  simp only[this];rfl
 |some e=>
  cases e with
  |row k es z=>
   unfold takeB
   have:rowOf os 6 id=zs (k,es,z):=by unfold rowOf;rw[h]
   simp only[this,h];rfl
  |mapo m=>
   unfold takeB
   have:rowOf os 6 id=zn:=by unfold rowOf;rw[h]
   simp only[this];rfl
  |dead=>
   unfold takeB
   have:rowOf os 6 id=zn:=by unfold rowOf;rw[h]
   simp only[this];rfl
  |sub p i o=>rfl
theorem tbE_row{id n sz z:Nat}(h1:z=te.size)(h2:sz=z)(h3:n=es.length):tbE te id 0 n sz os (zs (.row 0 es z))=zs (es,(killP os id []).set id .dead,[id]):=by
 simp_all[tbE]
def KT(te:TI)(id n sz ext:Nat)(tc:List Nat)(os:List PO)(e:Option PO)(d:Option (List AV×List PO)):Option (List AV×List PO):=match e with
 | some (.row 0 es z)=>if z=te.size/\sz=z/\n=es.length then(match flatT te with
  |true=>if Ci es=zt then zs (es,os)else zn
  |false=>if ext<=id/\¬id∈tc then zs (es,(killP os id []).set id .dead)else zn)else d
 |_=>d
def teD(te:TI)(id n sz ext:Nat)(tc:List Nat)(os:List PO):Option (List AV×List PO):=takeE te (.msl id 0 n sz) ext tc os
theorem te_eq(id n sz ext:Nat)(tc:List Nat):takeE te (.msl id 0 n sz) ext tc os=KT te id n sz ext tc os os[id]? (teD te id n sz ext tc os):=by
 unfold KT;split
 . rename_i es z h
   split
   . grind[rowOf,takeE]
   . rfl
 . rfl
theorem teE_flat{id n sz z ext:Nat}{tc:List Nat}{d:Option (List AV×List PO)}(hf:flatT te=zt)(h1:z=te.size)(h2:sz=z)(h3:n=es.length)(he:Ci es=zt):KT te id n sz ext tc os (zs (.row 0 es z)) d=zs (es,os):=by
 simp_all[KT]
theorem teE_row{id n sz z ext:Nat}{tc:List Nat}{d:Option (List AV×List PO)}(hf:flatT te=zf)(h1:z=te.size)(h2:sz=z)(h3:n=es.length)(hx:ext<=id)(hc:¬id∈tc):KT te id n sz ext tc os (zs (.row 0 es z)) d=zs (es,(killP os id []).set id .dead):=by
 simp_all[KT]
theorem te_fsl{f:Bool}{ext:Nat}{tc:List Nat}(h:F7 te.size es=zt):takeE te (.fsl es f) ext tc os=zs (es,os):=if_pos h
def EO(te:TI)(s:AV)(K:PK)(base:List AV)(tc:List Nat)(r:Option (List AV×List PO)):Option (AV×PK):=match r with
 |some (xs,os2)=>if(!xs.isEmpty||wholeP s K.os)=zt then joinP te base xs os2 tc K else zn
 |none=>zn
def ap1(te:TI)(s x:AV)(K:PK)(r:Option (List AV×List PO×List Nat)):Option (AV×PK):=match r with
 |some (base,os1,tc)=>EO te s K base tc (takeE te x K.ext tc os1)
 |none=>zn
theorem ap_eq(s x:AV):U5 te s x K=ap1 te s x K (takeB te s K.os):=by
 grind[U5,ap1,EO]
theorem ap1_some{s x:AV}(base:List AV)(os1:List PO)(tc:List Nat):ap1 te s x K (zs (base,os1,tc))=EO te s K base tc (takeE te x K.ext tc os1):=rfl
theorem ap2_some{s:AV}{base xs:List AV}{os2:List PO}{tc:List Nat}(h0:xs.isEmpty=zf)(hz:(base.length+xs.length)*te.bytes<=140737488355328):
 EO te s K base tc (zs (xs,os2))=zs (.msl os2.length 0 (base.length+xs.length) te.size,⟨os2++[.row 0 (base++xs) te.size],K.ext,os2.length::tc++K.tch⟩):=by
 unfold EO;simp only[h0];rw[if_pos (by rfl)];exact if_pos hz
end
noncomputable section
variable {E:Env}{fr:PF}{K K':PK}{v w x y c:AV}{vs es cs:List AV}{te:TI}{os l:List PO}{ids:List Nat}
theorem cl_int(k:IntKind)(n:Int):clo (.int k n)=zt:=rfl
theorem cl_bool(b:Bool):clo (.bool b)=zt:=rfl
theorem cl_str(b:List UInt8):clo (.str b)=zt:=rfl
theorem cl_own(k sz:Nat):clo (ownd k sz es)=zf:=rfl
theorem cl_msl(a b d e:Nat):clo (.msl a b d e)=zf:=rfl
theorem ag_int(k:IntKind)(n:Int):Gc (.int k n)=zf:=rfl
theorem ag_agg:Gc (.agg cs)=zt:=rfl
theorem cl_nsl:clo .nilsl=zt:=rfl
theorem ce_int(k:IntKind)(n:Int):AV.cells (.int k n)=[.int k n]:=rfl
theorem ce_bool(b:Bool):AV.cells (.bool b)=[.bool b]:=rfl
theorem ce_str(b:List UInt8):AV.cells (.str b)=[.str b]:=rfl
theorem ce_agg:AV.cells (.agg cs)=cs:=rfl
theorem ce_fsl(f:Bool):AV.cells (.fsl es f)=[.fsl es f]:=rfl
theorem ce_nsl:AV.cells .nilsl=[.nilsl]:=rfl
theorem ce_msl(a b d e:Nat):AV.cells (.msl a b d e)=[.msl a b d e]:=rfl
theorem ce_own(k sz:Nat):AV.cells (ownd k sz es)=[ownd k sz es]:=rfl
theorem fl_nil:Ci []=zt:=rfl
theorem fl_cons:Ci (v::es)=(v.cells.all clo&&Ci es):=rfl
def KU(c:Option AV):Option (Nat×List AV×Nat):=match c with|some c=>ownOf c|none=>zn
def VF(o:Nat)(v:Option AV):Option (Nat×List AV×Nat):=match v with|some v=>KU v.cells[o]?|none=>zn
def VG(i o:Nat)(r:Option (Nat×List AV×Nat)):Option (Nat×List AV×Nat):=match r with|some (_,es,_)=>VF o es[i]?|none=>zn
def LQ(os:List PO)(n:Nat)(e:Option PO):Option (Nat×List AV×Nat):=match e with|some (.row k es sz)=>zs (k,es,sz)|some (.sub p i o)=>VG i o (rowOf os n p)|_=>zn
theorem AY(os:List PO)(n id:Nat):rowOf os (n+1) id=LQ os n os[id]?:=by
 conv=>lhs;unfold rowOf
 cases os[id]? with
 |none=>rfl
 | some e=>cases e with
  |sub p i o=>
   show(match rowOf os n p with|some (_,es,_)=>_|none=>zn)=VG i o (rowOf os n p)
   cases rowOf os n p with
   |none=>rfl
   |some q=>
    obtain⟨k,es,z⟩:=q;show(match es[i]? with|some v=>_|none=>zn)=VF o es[i]?
    cases es[i]? with
    |none=>rfl
    |some v=>
     show(match v.cells[o]? with|some c=>_|none=>zn)=KU v.cells[o]?
     cases v.cells[o]?<;>rfl
  |_=>rfl
theorem ro6(os:List PO)(id:Nat):rowOf os 6 id=LQ os 5 os[id]?:=AY os 5 id
theorem rwE_row(n k sz:Nat):LQ os n (zs (.row k es sz))=zs (k,es,sz):=rfl
theorem rwE_sub(n p i o:Nat):LQ os n (zs (.sub p i o))=VG i o (rowOf os n p):=rfl
theorem rwS_some(i o k z:Nat):VG i o (zs (k,es,z))=VF o es[i]?:=rfl
theorem rwC_some(o:Nat):VF o (zs v)=KU v.cells[o]?:=rfl
theorem rwD_some:KU (zs c)=ownOf c:=rfl
theorem ow_own(k sz:Nat):ownOf (ownd k sz es)=zs (k,es,sz):=rfl
def rtE(os:List PO)(n id:Nat)(e:Option PO):Nat:=match e with|some (.sub p _ _)=>rootOf os n p|_=>id
theorem rt_eq(os:List PO)(n id:Nat):rootOf os (n+1) id=rtE os n id os[id]?:=rfl
theorem rtE_row(n id k sz:Nat):rtE os n id (zs (.row k es sz))=id:=rfl
theorem rtE_sub(n id p i o:Nat):rtE os n id (zs (.sub p i o))=rootOf os n p:=rfl
def chE(os:List PO)(n:Nat)(e:Option PO):List Nat:=match e with|some (.sub p _ _)=>chainOf os n p|_=>[]
theorem ch_eq(os:List PO)(n id:Nat):chainOf os (n+1) id=id::chE os n os[id]?:=rfl
theorem chE_row(n k sz:Nat):chE os n (zs (.row k es sz))=[]:=rfl
theorem chE_sub(n p i o:Nat):chE os n (zs (.sub p i o))=chainOf os n p:=rfl
theorem kp_eq(r:Nat)(keep:List Nat):killP os r keep=X7 os r keep 0 os:=rfl
theorem kg_nil(r j:Nat)(keep:List Nat):X7 os r keep j []=[]:=rfl
theorem kg_row(r j k sz:Nat)(keep:List Nat):X7 os r keep j (.row k es sz::l)=.row k es sz::X7 os r keep (j+1) l:=rfl
theorem kg_dead(r j:Nat)(keep:List Nat):X7 os r keep j (.dead::l)=.dead::X7 os r keep (j+1) l:=rfl
theorem kg_sub(r j p i o:Nat)(keep:List Nat):X7 os r keep j (.sub p i o::l)=(if rootOf os 6 j=r/\¬j∈keep then PO.dead else .sub p i o)::X7 os r keep (j+1) l:=rfl
def KV(ids:List Nat)(fr:PF):List Nat->PF
 |[]=>[]
 |i::l=>(i,G6 (posOf ids) (lookP fr i))::KV ids fr l
def HE(ids:List Nat)(os:List PO):List Nat->List PO
 |[]=>[]
 |i::l=>renPO (posOf ids) (entryAt os i)::HE ids os l
theorem AZ(ids:List Nat)(fr:PF):∀keep:List Nat,(keep.map fun i=>(i,G6 (posOf ids) (lookP fr i)))=KV ids fr keep
 |[]=>rfl
 |i::l=>congrArg (List.cons _) (AZ ids fr l)
theorem nX(ids:List Nat)(os:List PO):∀l:List Nat,(l.map fun i=>renPO (posOf ids) (entryAt os i))=HE ids os l
 |[]=>rfl
 |i::l=>congrArg (List.cons _) (nX ids os l)
theorem mf_nil:KV ids fr []=[]:=rfl
theorem mf_cons(i:Nat)(l:List Nat):KV ids fr (i::l)=(i,G6 (posOf ids) (lookP fr i))::KV ids fr l:=rfl
theorem mo_nil:HE ids os []=[]:=rfl
theorem mo_cons(i:Nat)(l:List Nat):HE ids os (i::l)=renPO (posOf ids) (entryAt os i)::HE ids os l:=rfl
def mk1(k:List Nat)(fr:PF)(ids:List Nat):PF:=KV ids fr k
def mk2(K:PK)(ids:List Nat):PK:=⟨HE ids K.os ids,K.ext,K.tch.filter (· < K.ext)⟩
theorem mp_1(k:List Nat):(J7 k fr K).1=mk1 k fr (markIds k fr K):=AZ _ _ _
theorem mp_2(k:List Nat):(J7 k fr K).2=mk2 K (markIds k fr K):=by
 show PK.mk _ _ _=PK.mk _ _ _
 grind[nX]
theorem mk1_eq(k:List Nat):mk1 k fr ids=KV ids fr k:=rfl
theorem mk2_eq:mk2 K ids=⟨HE ids K.os ids,K.ext,K.tch.filter (· < K.ext)⟩:=rfl
def SK(e:Option PO):List Nat:=match e with|some (.sub p _ _)=>[p]|e=>eC e
theorem sm_eq(id:Nat):jS os id=SK os[id]?:=rfl
theorem smE_row(sz:Nat):SK (zs (.row 0 es sz))=[]:=rfl
theorem smE_row1(sz:Nat):SK (zs (.row 1 es sz))=G9 es:=rfl
theorem smE_sub(p i o:Nat):SK (zs (.sub p i o))=[p]:=rfl
theorem smE_dead:SK (zs .dead)=[]:=rfl
def LR(fr:PF):List Nat->List Nat
 |[]=>[]
 |i::l=>J3 (lookP fr i)++LR fr l
theorem BA(fr:PF):∀keep:List Nat,G9 (keep.map (lookP fr))=LR fr keep
 |[]=>rfl
 |i::l=>congrArg (List.append _) (BA fr l)
theorem mi_eq(k:List Nat):markIds k fr K=i7 (jS K.os) 64 ((zqc K.ext).flatMap (jS K.os)++LR fr k) (zqc K.ext):=by
 unfold markIds;rw[BA]
theorem rs_nil:LR fr []=[]:=rfl
theorem rs_cons(i:Nat)(l:List Nat):LR fr (i::l)=J3 (lookP fr i)++LR fr l:=rfl
theorem rg_0:zqc 0=[]:=rfl
theorem rg_1:zqc 1=[0]:=rfl
theorem rg_2:zqc 2=[0,1]:=rfl
theorem rg_3:zqc 3=[0,1,2]:=rfl
theorem rg_4:zqc 4=[0,1,2,3]:=rfl
theorem rp_nil(s:Nat->List Nat)(n:Nat)(A:List Nat):i7 s n [] A=A:=by cases n<;>rfl
theorem rp_cons(s:Nat->List Nat)(n id:Nat)(t A:List Nat):i7 s (n+1) (id::t) A=if id∈A then i7 s n t A else i7 s n (t++s id) (A++[id]):=rfl
theorem po_cons(j id:Nat)(r:List Nat):posOf (j::r) id=if j=id then zs 0 else(posOf r id).map (· + 1):=rfl
def rnM(q:Option Nat)(off n sz:Nat):AV:=match q with|some j=>.msl j off n sz|none=>.und
def rnP(q:Option Nat)(i o:Nat):AV:=match q with|some j=>.ptr j i o|none=>.und
variable {σ:Nat->Option Nat}
theorem rv_int(k:IntKind)(n:Int):G6 σ (.int k n)=.int k n:=rfl
theorem rv_bool(b:Bool):G6 σ (.bool b)=.bool b:=rfl
theorem rv_str(b:List UInt8):G6 σ (.str b)=.str b:=rfl
theorem rv_agg:G6 σ (.agg cs)=.agg (renL σ cs):=rfl
theorem rv_fsl(f:Bool):G6 σ (.fsl es f)=.fsl es f:=rfl
theorem rv_msl(id off n sz:Nat):G6 σ (.msl id off n sz)=rnM (σ id) off n sz:=rfl
theorem rv_ptr(id i o:Nat):G6 σ (.ptr id i o)=rnP (σ id) i o:=rfl
theorem rv_nsl:G6 σ .nilsl=.nilsl:=rfl
theorem rv_fn(f:Fn)(a b:List AV):G6 σ (.fn f a b)=.fn f (renL σ a) (renL σ b):=rfl
theorem rl_nil:renL σ []=[]:=rfl
theorem rl_cons(l:List AV):renL σ (v::l)=G6 σ v::renL σ l:=rfl
theorem rnM_some(j off n sz:Nat):rnM (zs j) off n sz=.msl j off n sz:=rfl
theorem rnP_some(j i o:Nat):rnP (zs j) i o=.ptr j i o:=rfl
def enE(e:Option PO):PO:=match e with|some e=>e|none=>.dead
theorem et_eq(id:Nat):entryAt os id=enE os[id]?:=rfl
theorem enE_some(e:PO):enE (zs e)=e:=rfl
def rnS(q:Option Nat)(i o:Nat):PO:=match q with|some j=>.sub j i o|none=>.dead
theorem rp_row(sz:Nat):renPO σ (.row 0 es sz)=.row 0 es sz:=rfl
theorem rp_row1(sz:Nat):renPO σ (.row 1 es sz)=.row 1 (renL σ es) sz:=rfl
theorem rp_dead:renPO σ .dead=.dead:=rfl
theorem rp_sub(p i o:Nat):renPO σ (.sub p i o)=rnS (σ p) i o:=rfl
theorem rnS_some(j i o:Nat):rnS (zs j) i o=.sub j i o:=rfl
theorem rf_int(k:IntKind)(n:Int):J3 (.int k n)=[]:=rfl
theorem rf_bool(b:Bool):J3 (.bool b)=[]:=rfl
theorem rf_str(b:List UInt8):J3 (.str b)=[]:=rfl
theorem rf_agg:J3 (.agg cs)=G9 cs:=rfl
theorem rf_fsl(f:Bool):J3 (.fsl es f)=[]:=rfl
theorem rf_msl(id off n sz:Nat):J3 (.msl id off n sz)=[id]:=rfl
theorem rf_ptr(id i o:Nat):J3 (.ptr id i o)=[id]:=rfl
theorem rf_nsl:J3 .nilsl=[]:=rfl
theorem rf_fn(f:Fn)(a b:List AV):J3 (.fn f a b)=G9 a++G9 b:=rfl
theorem rfl_nil:G9 []=[]:=rfl
theorem rfl_cons(l:List AV):G9 (v::l)=J3 v++G9 l:=rfl
theorem bk_nil(rs:List AV):U0 [] rs os=([],os):=rfl
theorem bk_cons(rs:List AV)(r:AV):U0 (v::vs) (r::rs) os=((m6 v r os).1::(U0 vs rs (m6 v r os).2).1,(U0 vs rs (m6 v r os).2).2):=rfl
theorem bv_eq(r:AV):m6 v r os=(N7 v (N0 v.cells r.cells os).1,(N0 v.cells r.cells os).2):=rfl
theorem bs_nil(rs:List AV):N0 [] rs os=([],os):=rfl
theorem bs_cons(rs:List AV)(r:AV):N0 (v::vs) (r::rs) os=((X9 v r os).1::(N0 vs rs (X9 v r os).2).1,(N0 vs rs (X9 v r os).2).2):=rfl
theorem bc_msl(a b d e:Nat)(r:AV):X9 (.msl a b d e) r os=(.msl a b d e,os):=rfl
theorem bc_int(k:IntKind)(n:Int)(r:AV):X9 (.int k n) r os=(.int k n,os):=rfl
theorem bc_str(b:List UInt8)(r:AV):X9 (.str b) r os=(.str b,os):=rfl
theorem lv_agg(a:List AV):N7 (.agg a) cs=.agg cs:=rfl
theorem lv_msl(a b d e:Nat):N7 (.msl a b d e) cs=cs.headD .und:=rfl
theorem lv_int(k:IntKind)(n:Int):N7 (.int k n) cs=cs.headD .und:=rfl
theorem lv_bool(b:Bool):N7 (.bool b) cs=cs.headD .und:=rfl
theorem lv_str(b:List UInt8):N7 (.str b) cs=cs.headD .und:=rfl
theorem lv_fsl(f:Bool):N7 (.fsl es f) cs=cs.headD .und:=rfl
theorem lv_own(k sz:Nat):N7 (ownd k sz es) cs=cs.headD .und:=rfl
theorem lv_nsl:N7 .nilsl cs=cs.headD .und:=rfl
theorem hd_cons:(v::es).headD w=v:=rfl
theorem os_nil(n:Nat):openTs n []=([],[]):=rfl
theorem os_cons(n:Nat):openTs n (v::vs)=(N7 v (openT n v.cells).1::(openTs (n+(openT n v.cells).2.length) vs).1,(openT n v.cells).2++(openTs (n+(openT n v.cells).2.length) vs).2):=rfl
theorem ot_nil(n:Nat):openT n []=([],[]):=rfl
theorem ot_own(n sz:Nat):openT n (ownd 0 sz es::cs)=(.msl n 0 es.length sz::(openT (n+1) cs).1,.row 0 es sz::(openT (n+1) cs).2):=rfl
theorem ot_int(m:Nat)(k:IntKind)(n:Int):openT m (.int k n::cs)=(.int k n::(openT m cs).1,(openT m cs).2):=rfl
theorem ot_bool(m:Nat)(b:Bool):openT m (.bool b::cs)=(.bool b::(openT m cs).1,(openT m cs).2):=rfl
theorem ot_str(m:Nat)(b:List UInt8):openT m (.str b::cs)=(.str b::(openT m cs).1,(openT m cs).2):=rfl
theorem back_of{os' ps:List PO}{vs vs' us rs:List AV}(h1:U0 vs rs os=(vs',os'))(h2:(G9 vs').Nodup)(h3:openTs 0 rs=(us,ps))(h4:renL (posOf (G9 vs')) vs'=us)(h5:HE (G9 vs') os' (G9 vs')=ps):backOk vs rs os:=by
 refine⟨?_,?_,?_⟩
 . grind
 . grind
 grind[nX]
theorem va_nil:viewAs os []=zs []:=rfl
theorem va_cons:viewAs os (v::vs)=consO (viewA os v) (viewAs os vs):=rfl
theorem co_some(t:List AV):consO (zs v) (zs t)=zs (v::t):=rfl
theorem vv_int(k:IntKind)(n:Int):viewA os (.int k n)=zs (.int k n):=rfl
theorem vv_bool(b:Bool):viewA os (.bool b)=zs (.bool b):=rfl
theorem vv_str(b:List UInt8):viewA os (.str b)=zs (.str b):=rfl
theorem wv_int(k:IntKind)(n:Int):viewV os (.int k n)=zs (.int k n):=rfl
theorem wv_str(b:List UInt8):viewV os (.str b)=zs (.str b):=rfl
def agO(l:Option (List AV)):Option AV:=match l with|some cs=>zs (.agg cs)|none=>zn
theorem agO_some:agO (zs cs)=zs (.agg cs):=rfl
theorem vv_agg:viewA os (.agg cs)=agO (viewL os cs):=rfl
theorem vl_nil:viewL os []=zs []:=rfl
theorem vl_cons:viewL os (v::vs)=consO (viewV os v) (viewL os vs):=rfl
def uQ(l:Option (List AV)):Option AV:=match l with|some es=>zs (fslN es)|none=>zn
theorem fsO_some:uQ (zs es)=zs (fslN es):=rfl
def VH(off n sz:Nat)(r:Option (Nat×List AV×Nat)):Option AV:=match r with
 |some (k,es,z)=>if k=0/\sz=z/\off+n<=es.length then uQ (frzL ((es.drop off).take n))else zn
 |none=>zn
theorem vv_msl(id off n sz:Nat):viewA os (.msl id off n sz)=VH off n sz (rowOf os 6 id):=by
 show(match rowOf os 6 id with|some (k,es,z)=>_|none=>zn)=_
 cases rowOf os 6 id<;>rfl
theorem wv_msl(id off n sz:Nat):viewV os (.msl id off n sz)=VH off n sz (rowOf os 6 id):=vv_msl id off n sz
theorem vmE_some{n sz z:Nat}(h1:sz=z)(h2:n=es.length):VH 0 n sz (zs (0,es,z))=uQ (frzL es):=by
 simp_all[VH]
theorem fz_nil:frzL []=zs []:=rfl
theorem fz_cons:frzL (v::vs)=consO (frzC v) (frzL vs):=rfl
theorem fz_int(k:IntKind)(n:Int):frzC (.int k n)=zs (.int k n):=rfl
theorem fz_str(b:List UInt8):frzC (.str b)=zs (.str b):=rfl
theorem fz_agg:frzC (.agg cs)=agO (frzL cs):=rfl
theorem fz_own(sz:Nat):frzC (ownd 0 sz es)=uQ (frzL es):=rfl
theorem nf_int(k:IntKind)(n:Int):noF (.int k n)=zt:=rfl
theorem nf_bool(b:Bool):noF (.bool b)=zt:=rfl
theorem nf_str(b:List UInt8):noF (.str b)=zt:=rfl
theorem nf_agg:noF (.agg cs)=noFL cs:=rfl
theorem nf_own(sz:Nat):noF (ownd 0 sz es)=noFL es:=rfl
theorem nfl_nil:noFL []=zt:=rfl
theorem nfl_cons:noFL (v::es)=(noF v&&noFL es):=rfl
theorem or_nil:okRs []=zt:=rfl
theorem or_cons:okRs (v::vs)=(v.cells.all (fun c=>(ownOf c).isSome||clo c)&&okRs vs):=rfl
theorem on_int(k:IntKind)(n:Int):ownOf (.int k n)=zn:=rfl
theorem on_bool(b:Bool):ownOf (.bool b)=zn:=rfl
theorem on_str(b:List UInt8):ownOf (.str b)=zn:=rfl
end
noncomputable section
variable {E:Env}{fr:PF}{K K':PK}{v w x y c:AV}{vs es cs new:List AV}{te t:TI}{os l:List PO}{ids:List Nat}
theorem ok_int(k:IntKind)(n:Int):Eh (.int k n)=zt:=rfl
theorem ok_bool(b:Bool):Eh (.bool b)=zt:=rfl
theorem ok_str(b:List UInt8):Eh (.str b)=zt:=rfl
theorem ok_msl(a b d e:Nat):Eh (.msl a b d e)=zt:=rfl
theorem ok_ptr(a b d:Nat):Eh (.ptr a b d)=zt:=rfl
theorem ok_nsl:Eh .nilsl=zt:=rfl
theorem ok_fn(f:Fn)(a b:List AV):Eh (.fn f a b)=zt:=rfl
theorem nr_eq(k sz:Nat):newRow k es sz K=⟨K.os++[.row k es sz],K.ext,K.tch⟩:=rfl
theorem bx_eq(A:v.cells.length=t.size)(B:v.cells.all Eh=zt):zU t v K=.val (.ptr K.os.length 0 0) ⟨K.os++[.row 1 [v] t.size],K.ext,K.tch⟩:=if_pos ⟨A,B⟩
theorem wc_agg(off:Nat):AV.withCells (.agg cs) off new=.agg (cs.take off++(new++cs.drop (off+new.length))):=by
 show AV.agg (O4 cs off new)=_
 grind[O4,G8,G7,L7,A5]
theorem wc_int(k:IntKind)(n:Int):AV.withCells (.int k n) 0 [c]=c:=rfl
theorem wc_bool(b:Bool):AV.withCells (.bool b) 0 [c]=c:=rfl
theorem wc_nsl:AV.withCells .nilsl 0 [c]=c:=rfl
theorem wc_msl(a b d e:Nat):AV.withCells (.msl a b d e) 0 [c]=c:=rfl
def SL(e:Option PO):Bool:=match e with|some (.row 0 _ _)=>zf|some (.row _ _ _)=>zt|_=>zf
theorem ra_eq(id:Nat):rawAt os id=SL os[id]?:=by
 grind[rawAt,SL]
theorem raE_0(sz:Nat):SL (zs (.row 0 es sz))=zf:=rfl
theorem raE_1(sz:Nat):SL (zs (.row 1 es sz))=zt:=rfl
theorem raE_sub(p i o:Nat):SL (zs (.sub p i o))=zf:=rfl
def SM(os:List PO)(n p i o:Nat)(es:List AV)(v:AV)(es':List AV)(c:Option (Nat×List AV×Nat)):Option (List PO):=match c with|some (k,_,sz)=>setRow os n p (es.set i (putCl v o (ownd k sz es')))|none=>zn
def VI(os:List PO)(n p i o:Nat)(es:List AV)(es':List AV)(v:Option AV):Option (List PO):=match v with|some v=>SM os n p i o es v es' (KU v.cells[o]?)|none=>zn
def VK(os:List PO)(n p i o:Nat)(es':List AV)(r:Option (Nat×List AV×Nat)):Option (List PO):=match r with|some (_,es,_)=>VI os n p i o es es' es[i]?|none=>zn
def srE(os:List PO)(n id:Nat)(es':List AV)(e:Option PO):Option (List PO):=match e with|some (.row k _ sz)=>zs (os.set id (.row k es' sz))|some (.sub p i o)=>VK os n p i o es' (rowOf os n p)|_=>zn
theorem sr_eq(n id:Nat)(es':List AV):setRow os (n+1) id es'=srE os n id es' os[id]?:=by
 conv=>lhs;unfold setRow
 cases os[id]? with
 |none=>rfl
 | some e=>cases e with
  |sub p i o=>
   show(match rowOf os n p with|some (_,es,_)=>_|none=>zn)=VK os n p i o es' (rowOf os n p)
   cases rowOf os n p with
   |none=>rfl
   |some q=>
    obtain⟨k,es,z⟩:=q;show(match es[i]? with|some v=>_|none=>zn)=VI os n p i o es es' es[i]?
    cases es[i]? with
    |none=>rfl
    |some v=>
     show(match v.cells[o]? with|some c=>(match ownOf c with|some (k,_,sz)=>_|none=>zn)|none=>zn)=SM os n p i o es v es' (KU v.cells[o]?)
     cases v.cells[o]? with
     |none=>rfl
     |some c=>
      show(match ownOf c with|some (k,_,sz)=>_|none=>zn)=SM os n p i o es v es' (ownOf c)
      cases ownOf c<;>rfl
  |_=>rfl
theorem srE_row(n id k sz:Nat)(es':List AV):srE os n id es' (zs (.row k es sz))=zs (os.set id (.row k es' sz)):=rfl
theorem srE_sub(n id p i o:Nat)(es':List AV):srE os n id es' (zs (.sub p i o))=VK os n p i o es' (rowOf os n p):=rfl
theorem srS_some(n p i o k z:Nat)(es':List AV):VK os n p i o es' (zs (k,es,z))=VI os n p i o es es' es[i]?:=rfl
theorem srC_some(n p i o:Nat)(es':List AV):VI os n p i o es es' (zs v)=SM os n p i o es v es' (KU v.cells[o]?):=rfl
theorem srD_some(n p i o k sz:Nat)(A es':List AV):SM os n p i o es v es' (zs (k,A,sz))=setRow os n p (es.set i (putCl v o (ownd k sz es'))):=rfl
theorem pc_agg(o:Nat):putCl (.agg cs) o c=.agg (cs.set o c):=rfl
def KW(id:Nat)(K:PK)(os2:Option (List PO)):Option PK:=match os2 with|some os2=>zs ⟨os2,K.ext,rootOf K.os 6 id::K.tch⟩|none=>zn
def VM(t:TI)(id i off:Nat)(K:PK)(es:List AV)(v:AV)(r:Option (List AV×List PO)):Option PK:=match r with|some (cs,os1)=>KW id K (setRow os1 6 id (es.set i (v.withCells off cs)))|none=>zn
def VP(t:TI)(id i off:Nat)(x:AV)(K:PK)(es:List AV)(v:AV)(r:Option (List PO)):Option PK:=match r with|some os0=>VM t id i off K es v (sealC K.ext (rootOf K.os 6 id) id i off os0 x.cells)|none=>zn
def SN(t:TI)(id i off:Nat)(x:AV)(K:PK)(es:List AV)(v:AV)(b:Bool):Option PK:=
 match b with
 |true=>KW id K (setRow K.os 6 id (es.set i (v.withCells off x.cells)))
 |false=>VP t id i off x K es v (setRow (killP K.os (rootOf K.os 6 id) (chainOf K.os 6 id)) 6 id (es.set i (v.withCells off (zqa t.size .und))))
def VS(t:TI)(id i off:Nat)(x:AV)(K:PK)(k sz:Nat)(es:List AV)(v:AV)(b:Bool):Option PK:=
 match b with
 |true=>if x.cells.all Eh=zt then zs ⟨K.os.set id (.row k (es.set i (v.withCells off x.cells)) sz),K.ext,id::K.tch⟩else zn
 |false=>SN t id i off x K es v (x.cells.all clo&&((v.cells.drop off).take t.size).all clo)
def VT(t:TI)(id i off:Nat)(x:AV)(K:PK)(k sz:Nat)(es:List AV)(v:Option AV):Option PK:=match v with
 |some v=>if x.cells.length=t.size/\0<t.size/\off+t.size<=sz then VS t id i off x K k sz es v (rawAt K.os id)else zn
 |none=>zn
def spR(t:TI)(id i off:Nat)(x:AV)(K:PK)(r:Option (Nat×List AV×Nat)):Option PK:=match r with|some (k,es,sz)=>VT t id i off x K k sz es es[i]?|none=>zn
theorem sp_eq(id i off:Nat):storeP t (.ptr id i off) x K=spR t id i off x K (rowOf K.os 6 id):=by
 unfold storeP;show(match rowOf K.os 6 id with|some (k,es,sz)=>_|none=>zn)=_
 cases rowOf K.os 6 id with
 |none=>rfl
 |some q=>
  obtain⟨k,es,sz⟩:=q;show(match es[i]? with|some v=>_|none=>zn)=VT t id i off x K k sz es es[i]?
  cases es[i]? with
  |none=>rfl
  |some v=>
   show(if _ then _ else zn)=(if _ then _ else zn)
   split
   . cases rawAt K.os id with
     |true=>rfl
     |false=>
      show(if(x.cells.all clo&&((v.cells.drop off).take t.size).all clo)=zt then _ else _)=SN t id i off x K es v (x.cells.all clo&&((v.cells.drop off).take t.size).all clo)
      cases (x.cells.all clo&&((v.cells.drop off).take t.size).all clo)with
      |true=>
       show(match setRow K.os 6 id _ with|some os2=>_|none=>zn)=KW id K (setRow K.os 6 id _)
       cases setRow K.os 6 id (es.set i (v.withCells off x.cells))<;>rfl
      |false=>
       show(match setRow (killP K.os (rootOf K.os 6 id) (chainOf K.os 6 id)) 6 id _ with|some A=>_|none=>zn)=VP t id i off x K es v (setRow (killP K.os (rootOf K.os 6 id) (chainOf K.os 6 id)) 6 id _)
       cases setRow (killP K.os (rootOf K.os 6 id) (chainOf K.os 6 id)) 6 id (es.set i (v.withCells off (zqa t.size .und)))with
       |none=>rfl
       |some A=>
        show(match sealC K.ext (rootOf K.os 6 id) id i off A x.cells with|some (cs,os1)=>_|none=>zn)=VM t id i off K es v (sealC K.ext (rootOf K.os 6 id) id i off A x.cells)
        cases sealC K.ext (rootOf K.os 6 id) id i off A x.cells with
        |none=>rfl
        |some q=>
         obtain⟨cs,os1⟩:=q;show(match setRow os1 6 id _ with|some os2=>_|none=>zn)=KW id K (setRow os1 6 id _)
         cases setRow os1 6 id (es.set i (v.withCells off cs))<;>rfl
   . rfl
theorem spR_some(id i off k sz:Nat):spR t id i off x K (zs (k,es,sz))=VT t id i off x K k sz es es[i]?:=rfl
theorem spE_some{id i off k sz:Nat}(A:x.cells.length=t.size)(B:0<t.size)(C:off+t.size<=sz):VT t id i off x K k sz es (zs v)=VS t id i off x K k sz es v (rawAt K.os id):=if_pos ⟨A,B,C⟩
theorem spB_true{id i off k sz:Nat}(h:x.cells.all Eh=zt):VS t id i off x K k sz es v zt=zs ⟨K.os.set id (.row k (es.set i (v.withCells off x.cells)) sz),K.ext,id::K.tch⟩:=if_pos h
theorem spB_false(id i off k sz:Nat):VS t id i off x K k sz es v zf=SN t id i off x K es v (x.cells.all clo&&((v.cells.drop off).take t.size).all clo):=rfl
theorem spC_true(id i off:Nat):SN t id i off x K es v zt=KW id K (setRow K.os 6 id (es.set i (v.withCells off x.cells))):=rfl
theorem spC_false(id i off:Nat):SN t id i off x K es v zf=VP t id i off x K es v (setRow (killP K.os (rootOf K.os 6 id) (chainOf K.os 6 id)) 6 id (es.set i (v.withCells off (zqa t.size .und)))):=rfl
theorem spO_some(id i off:Nat):VP t id i off x K es v (zs os)=VM t id i off K es v (sealC K.ext (rootOf K.os 6 id) id i off os x.cells):=rfl
theorem spQ_some(id i off:Nat):VM t id i off K es v (zs (cs,os))=KW id K (setRow os 6 id (es.set i (v.withCells off cs))):=rfl
theorem spS_some(id:Nat):KW id K (zs os)=zs ⟨os,K.ext,rootOf K.os 6 id::K.tch⟩:=rfl
theorem rl_1:zqa 1 v=[v]:=rfl
def VU(c:AV)(r:Option (List AV×List PO)):Option (List AV×List PO):=match r with|some p=>zs (c::p.1,p.2)|none=>zn
def scM(ext r id i o:Nat)(os:List PO)(l:List AV)(q m sz:Nat)(e:Option PO):Option (List AV×List PO):=match e with
 |some (.row 0 es z)=>if m=es.length/\sz=z/\ext<=q/\q≠r then VU (ownd 0 sz es) (sealC ext r id i (o+1) (os.set q (.sub id i o)) l)else zn
 |_=>zn
theorem sc_nil(ext r id i o:Nat):sealC ext r id i o os []=zs ([],os):=rfl
theorem sc_clo{ext r id i o:Nat}(h:clo c=zt):sealC ext r id i o os (c::cs)=VU c (sealC ext r id i (o+1) os cs):=by
 conv=>lhs;unfold sealC
 rw[h];show Option.map _ (sealC ext r id i (o+1) os cs)=_
 cases sealC ext r id i (o+1) os cs<;>rfl
theorem sc_msl(ext r id i o q m sz:Nat):sealC ext r id i o os (.msl q 0 m sz::cs)=scM ext r id i o os cs q m sz os[q]?:=by
 conv=>lhs;unfold sealC
 show(match os[q]? with|some (.row 0 es z)=>_|_=>zn)=_
 cases os[q]? with
 |none=>rfl
 | some e=>cases e with
  |row k es z=>
   cases k with
   |zero=>
    show(if _ then Option.map _ _ else zn)=(if _ then _ else zn)
    split
    . cases sealC ext r id i (o+1) (os.set q (.sub id i o)) cs<;>rfl
    . rfl
   |succ=>rfl
  |_=>rfl
theorem scM_row{ext r id i o q m sz z:Nat}(A:m=es.length)(B:sz=z)(C:ext<=q)(D:q≠r):scM ext r id i o os cs q m sz (zs (.row 0 es z))=VU (ownd 0 sz es) (sealC ext r id i (o+1) (os.set q (.sub id i o)) cs):=if_pos ⟨A,B,C,D⟩
theorem scK_some(l:List AV):VU c (zs (l,os))=zs (c::l,os):=rfl
def SO(v:AV)(r:Option (List AV×PK)):Option (List AV×PK):=match r with|some (vs,K)=>zs (v::vs,K)|none=>zn
def VW(E:Env)(l:List ResultVar)(fr:PF)(o:OpS):Option (List AV×PK):=match o with | .val v K=>SO v (resP E l fr K)|_=>zn
def rsO(r:Option (List AV×PK)):Option PR:=match r with|some (vs,K)=>zs (.val vs K)|none=>zn
theorem rsT_some:SO v (zs (vs,K))=zs (v::vs,K):=rfl
theorem rsC_val(l:List ResultVar):VW E l fr (.val v K)=SO v (resP E l fr K):=rfl
theorem rsO_some:rsO (zs (vs,K))=zs (.val vs K):=rfl
theorem rs_0:resP E [] fr K=zs ([],K):=rfl
theorem rs_tmp(t:Nat)(l:List ResultVar):resP E (.tmp t::l) fr K=SO (lookP fr t) (resP E l fr K):=by
 show(match resP E l fr K with|some (vs,K)=>zs (lookP fr t::vs,K)|none=>zn)=_
 cases resP E l fr K<;>rfl
theorem rs_cell(a t:Nat)(l:List ResultVar):resP E (.cell a t::l) fr K=VW E l fr (X8 E t fun ti=>Mo (loadP ti (lookP fr a) K)):=by
 show(match E.ti t with|some ti=>_|none=>zn)=VW E l fr (match E.ti t with|some ti=>_|none=>OpS.bad)
 grind[VW,Mo,SO]
theorem bodyP_ret(rs:List ResultVar):Xe E rs (zs (.ok .ret fr K))=rsO (resP E rs fr K):=by
 show(match resP E rs fr K with|some (vs,K)=>_|none=>zn)=_
 cases resP E rs fr K<;>rfl
theorem bodyP_norm(rs:List ResultVar):Xe E rs (zs (.ok .normal fr K))=rsO (resP E rs fr K):=by
 show(match resP E rs fr K with|some (vs,K)=>_|none=>zn)=_
 cases resP E rs fr K<;>rfl
theorem bodyP_pan(rs:List ResultVar):Xe E rs (zs (.pan v K))=zs (.pan v K):=rfl
theorem Xf{P:PE}{c:PC}(S:Nat->PF×PK)(n:Nat)(h:∀i,i<n->evP P (.code c (S i).1 (S i).2)=zs (.ok .normal (S (i+1)).1 (S (i+1)).2)):evP P (.code (.loop c) (S 0).1 (S 0).2)=evP P (.code (.loop c) (S n).1 (S n).2):=by
 induction n with
 |zero=>rfl
 |succ n A=>rw[A fun i hi=>h i (Nat.lt_succ_of_lt hi),loop_more (h n (Nat.lt_succ_self n))]
def r9{X:Type}(a r:X->List AV)(ok:X->Prop):List AV->Option (List AV):=fun args=>open Classical in if h:∃x,ok x/\a x=args then zs (r (Classical.choose h))else zn
theorem C1{X:Type}{a r:X->List AV}{ok:X->Prop}(hi:∀x y,a x=a y->r x=r y)(x:X)(h:ok x):r9 a r ok (a x)=zs (r x):=by
 have hx:∃y,ok y/\a y=a x:=⟨x,h,rfl⟩
 grind[r9]
theorem eQ{X:Type}{a r:X->List AV}{ok:X->Prop}{args rs:List AV}(h:r9 a r ok args=zs rs):∃x,ok x/\a x=args/\r x=rs:=by
 unfold r9 at h;split at h
 . grind
 . cases h
theorem C7{P:PE}(A:PEok P){f:Nat}{X:Type}{a r:X->List AV}{ok:X->Prop}(H:∀x,ok x->Comes P f (a x) (r x)):TC P.E f (r9 a r ok):=
 GX A fun args rs hg=>by obtain⟨x,B,rfl,rfl⟩:=eQ hg;exact H x B
theorem n9{X:Type}{f g:X->AV}(h:∀x,frzC (f x)=zs (g x)):∀l:List X,frzL (l.map f)=zs (l.map g)
 |[]=>rfl
 |x::l=>by
  show consO (frzC (f x)) (frzL (l.map f))=_
  rw[h,n9 h l];rfl
theorem ok_fslN:Eh (fslN es)=zt:=rfl
theorem ce_fslN:AV.cells (fslN es)=[fslN es]:=rfl
theorem rf_fslN:J3 (fslN es)=[]:=rfl
theorem rv_fslN{σ:Nat->Option Nat}:G6 σ (fslN es)=fslN es:=rfl
theorem fz_fslN:frzC (fslN es)=uQ (frzL es):=rfl
theorem vv_fslN:viewA os (fslN es)=uQ (frzL es):=rfl
theorem wv_fslN:viewV os (fslN es)=uQ (frzL es):=rfl
theorem ln_fslN:Mo (BH (fslN es) K)=.val (.int .i64 (es.length:Int)) K:=ln_fsl _ _
theorem ix_fslN{k:IntKind}{i:Nat}(h:es[i]?=zs v)(A:v.cells.length=te.size):Pb te (fslN es) (.int k (i:Int))=zs (.fptr v 0):=ix_fsl h A
theorem lv_fslN:N7 (fslN es) cs=cs.headD .und:=rfl
theorem te_fslN{ext:Nat}{tc:List Nat}(h:F7 te.size es=zt):takeE te (fslN es) ext tc os=zs (es,os):=if_pos h
theorem pf_f(o d:Nat):B0 (.fptr v o) d=zs (.fptr v (o+d)):=B6 (Nat.add o d) (fun q=>zs (AV.fptr v q))
theorem pf_p(id i o d:Nat):B0 (.ptr id i o) d=zs (.ptr id i (o+d)):=B6 (Nat.add o d) (fun q=>zs (AV.ptr id i q))
theorem ldW_eq(id i off:Nat):VD id i off K (zs w)=.val (N7 w (openC id i off K.os.length w.cells).1) ⟨K.os++(openC id i off K.os.length w.cells).2,K.ext,K.tch⟩:=rfl
theorem oc_nil(id i m nx:Nat):openC id i m nx []=([],[]):=rfl
theorem oc_own(id i m nx sz:Nat):openC id i m nx (ownd 0 sz es::cs)=(.msl nx 0 es.length sz::(openC id i (m+1) (nx+1) cs).1,.sub id i m::(openC id i (m+1) (nx+1) cs).2):=rfl
theorem oc_int(id i m nx:Nat)(k:IntKind)(n:Int):openC id i m nx (.int k n::cs)=(.int k n::(openC id i (m+1) nx cs).1,(openC id i (m+1) nx cs).2):=rfl
theorem oc_bool(id i m nx:Nat)(b:Bool):openC id i m nx (.bool b::cs)=(.bool b::(openC id i (m+1) nx cs).1,(openC id i (m+1) nx cs).2):=rfl
theorem oc_str(id i m nx:Nat)(b:List UInt8):openC id i m nx (.str b::cs)=(.str b::(openC id i (m+1) nx cs).1,(openC id i (m+1) nx cs).2):=rfl
theorem oc_fsl(id i m nx:Nat)(f:Bool):openC id i m nx (.fsl es f::cs)=(.fsl es f::(openC id i (m+1) nx cs).1,(openC id i (m+1) nx cs).2):=rfl
theorem oc_fslN(id i m nx:Nat):openC id i m nx (fslN es::cs)=(fslN es::(openC id i (m+1) nx cs).1,(openC id i (m+1) nx cs).2):=rfl
theorem oc_msl(id i m nx:Nat)(a b d e:Nat):openC id i m nx (.msl a b d e::cs)=(.msl a b d e::(openC id i (m+1) nx cs).1,(openC id i (m+1) nx cs).2):=rfl
theorem oc_ptr(id i m nx:Nat)(a b d:Nat):openC id i m nx (.ptr a b d::cs)=(.ptr a b d::(openC id i (m+1) nx cs).1,(openC id i (m+1) nx cs).2):=rfl
theorem oc_nsl(id i m nx:Nat):openC id i m nx (.nilsl::cs)=(.nilsl::(openC id i (m+1) nx cs).1,(openC id i (m+1) nx cs).2):=rfl
theorem oc_fn(id i m nx:Nat)(f:Fn)(a b:List AV):openC id i m nx (.fn f a b::cs)=(.fn f a b::(openC id i (m+1) nx cs).1,(openC id i (m+1) nx cs).2):=rfl
theorem lv_ptr(a b d:Nat):N7 (.ptr a b d) cs=cs.headD .und:=rfl
theorem ce_ptr(a b d:Nat):AV.cells (.ptr a b d)=[.ptr a b d]:=rfl
theorem lv_fn(f:Fn)(a b:List AV):N7 (.fn f a b) cs=cs.headD .und:=rfl
theorem ce_fn(f:Fn)(a b:List AV):AV.cells (.fn f a b)=[.fn f a b]:=rfl
def bsE(te:TI)(n:Nat)(ps:List (Nat×AV))(K:PK)(r:Option PK):Option (AV×PK):=match r with
 |some K1=>zs (.msl K.os.length 0 n te.size,K1)
 | none=>match placeR te.size ps (zqa n te.zero)with
  |some es=>zs (.msl K.os.length 0 n te.size,newRow 2 es te.size K)
  |none=>zn
theorem bs_eq{n:Nat}{ps:List (Nat×AV)}(A:n*te.size<=65536)(B:0<te.size):Cj te n ps K=bsE te n ps K (placeP te K.os.length ps (newRow 0 (zqa n te.zero) te.size K)):=by
 unfold Cj;rw[if_pos ⟨A,B⟩];rfl
theorem bsE_some(n:Nat)(ps:List (Nat×AV)):bsE te n ps K (zs K')=zs (.msl K.os.length 0 n te.size,K'):=rfl
def plE(te:TI)(id:Nat)(l:List (Nat×AV))(r:Option PK):Option PK:=match r with|some K=>placeP te id l K|none=>zn
theorem pl_nil(id:Nat):placeP te id [] K=zs K:=rfl
theorem pl_cons{id i:Nat}{l:List (Nat×AV)}(h:Gc v=Gc te.zero):placeP te id ((i,v)::l) K=plE te id l (storeP te (.ptr id i 0) v K):=by
 conv=>lhs;unfold placeP
 rw[if_pos h];cases storeP te (.ptr id i 0) v K<;>rfl
theorem plE_some(id:Nat)(l:List (Nat×AV)):plE te id l (zs K)=placeP te id l K:=rfl
theorem rl_0:zqa 0 v=[]:=rfl
theorem rl_2:zqa 2 v=[v,v]:=rfl
theorem rl_5:zqa 5 v=[v,v,v,v,v]:=rfl
theorem rl_7:zqa 7 v=[v,v,v,v,v,v,v]:=rfl
theorem rl_8:zqa 8 v=[v,v,v,v,v,v,v,v]:=rfl
def BB(y:AV)(os:List PO)(sz:Nat)(es:List AV):Prop:=(es=[]/\y=.nilsl/\os=[])\/(y=.msl 0 0 es.length sz/\os=[.row 0 es sz])
theorem Hp{P:PE}{c:PC}{X:Type}{A:AV}{O:X->AV}{sz:Nat}{l:List X}
 (h0:0<l.length->evP P (.code c [(0,A),(3,.nilsl),(4,.int .i64 0)] ⟨[],0,[]⟩)=zs (.ok .normal [(0,A),(3,.msl 0 0 1 sz),(4,.int .i64 ((1:Nat):Int))] ⟨[.row 0 ((l.take 1).map O) sz],0,[]⟩))
 (h1:∀i,i<l.length->evP P (.code c [(0,A),(3,.msl 0 0 i sz),(4,.int .i64 i)] ⟨[.row 0 ((l.take i).map O) sz],0,[]⟩)=zs (.ok .normal [(0,A),(3,.msl 0 0 (i+1) sz),(4,.int .i64 ((i+1:Nat):Int))] ⟨[.row 0 ((l.take (i+1)).map O) sz],0,[]⟩))
 (hx:∀y K,∃fr',evP P (.code c [(0,A),(3,y),(4,.int .i64 l.length)] K)=zs (.ok (.exit 0) fr' K)/\lookP fr' 3=y):
 ∃fr' y os,evP P (.code (.loop c) [(0,A),(3,.nilsl),(4,.int .i64 0)] ⟨[],0,[]⟩)=zs (.ok (.exit 0) fr' ⟨os,0,[]⟩)/\lookP fr' 3=y/\BB y os sz (l.map O):=by
 cases hl:l.length with
 |zero=>
  obtain⟨fr',e1,e2⟩:=hx .nilsl ⟨[],0,[]⟩;rw[hl]at e1;exact⟨fr',_,[],E3 e1,e2,.inl (by grind)⟩
 |succ n=>
  have B:∀(n i:Nat),l.length=i+n->∃fr' y os,evP P (.code (.loop c) [(0,A),(3,.msl 0 0 i sz),(4,.int .i64 i)] ⟨[.row 0 ((l.take i).map O) sz],0,[]⟩)=zs (.ok (.exit 0) fr' ⟨os,0,[]⟩)/\lookP fr' 3=y/\BB y os sz (l.map O):=fun n=>by
   induction n with
   |zero=>
    intro i e;obtain rfl:i=l.length:=by omega
    obtain⟨fr',e1,e2⟩:=hx (.msl 0 0 l.length sz) ⟨[.row 0 (l.map O) sz],0,[]⟩;rw[zqh];exact⟨fr',_,_,E3 e1,e2,.inr ⟨by grind,rfl⟩⟩
   |succ n C=>intro i e;rw[loop_more (h1 i (by omega))];exact C (i+1) (by omega)
  rw[loop_more (h0 (by omega))];exact B n 1 (by omega)
theorem D9{y:AV}{os:List PO}{sz:Nat}{es:List AV}(h:BB y os sz es):backOk [y] [ownd 0 sz es] os:=by
 rcases h with⟨rfl,rfl,rfl⟩|⟨rfl,rfl⟩
 . exact back_of (vs':=[.msl 0 0 0 sz]) (os':=[.row 0 [] sz]) rfl (by show [0].Nodup;decide) (us:=[.msl 0 0 0 sz]) (ps:=[.row 0 [] sz]) rfl rfl rfl
 . exact back_of (vs':=[.msl 0 0 es.length sz]) (os':=[.row 0 es sz]) rfl (by show [0].Nodup;decide) (us:=[.msl 0 0 es.length sz]) (ps:=[.row 0 es sz]) rfl rfl rfl
theorem tk_all{n:Nat}{l:List XOp}(h:(K.tch.all fun i=>decide (n<=i))=zt):r8 n l K=zt:=by grind[r8]
def BC(off sz:Nat)(v:AV)(cs:List AV):Option (List AV):=if v.cells.length=sz/\off+sz<=cs.length/\v.cells.all Eh=zt then zs (cs.take off++(v.cells++cs.drop (off+v.cells.length)))else zn
theorem fp_ok{off sz:Nat}(A:v.cells.length=sz)(B:off+sz<=cs.length)(C:v.cells.all Eh=zt):BC off sz v cs=zs (cs.take off++(v.cells++cs.drop (off+v.cells.length))):=if_pos ⟨A,B,C⟩
theorem BD:∀l:List AV,D5 l=l.all Eh
 |[]=>rfl
 |c::l=>by
  show(bif okCell c then D5 l else zf)=(Eh c&&l.all Eh)
  rw[BD l];cases c<;>rfl
def VX(place:Nat->Option (Nat×Nat))(ps:List (Nat×AV))(r:Option (List AV)):Option (List AV):=match r with|some cs=>R2 place ps cs|none=>zn
theorem fbK_some(place:Nat->Option (Nat×Nat))(ps:List (Nat×AV)):VX place ps (zs cs)=R2 place ps cs:=rfl
theorem fb_nil(place:Nat->Option (Nat×Nat)):R2 place [] cs=zs cs:=rfl
def fbP(place:Nat->Option (Nat×Nat))(v:AV)(ps:List (Nat×AV))(cs:List AV)(q:Option (Nat×Nat)):Option (List AV):=match q with|some q=>VX place ps (BC q.1 q.2 v cs)|none=>zn
theorem fbP_some(place:Nat->Option (Nat×Nat))(ps:List (Nat×AV))(a b:Nat):fbP place v ps cs (zs (a,b))=VX place ps (BC a b v cs):=rfl
theorem fb_cons(place:Nat->Option (Nat×Nat))(i:Nat)(ps:List (Nat×AV)):R2 place ((i,v)::ps) cs=fbP place v ps cs (place i):=by
 show A6 (place i) (fun q=>B3 (Nat.beq (lenL v.cells) q.2&&Nat.ble (Nat.add q.1 q.2) (lenL cs)&&D5 v.cells) (R2 place ps (O4 cs q.1 v.cells)))=_
 cases place i with
 |none=>rfl
 |some q=>
  show B3 _ _=VX place ps (if _ then _ else zn)
  rw[A5,A5,BD];by_cases B:v.cells.length=q.2
  . by_cases A:q.1+q.2<=cs.length
    . cases h3:v.cells.all Eh with
      |false=>rw[if_neg (fun h=>absurd h.2.2 (by decide)),Bool.and_false];rfl
      |true=>
       rw[if_pos ⟨B,A,rfl⟩];have e1:Nat.beq v.cells.length q.2=zt:=by simp_all
       have e2:Nat.ble (Nat.add q.1 q.2) cs.length=zt:=zqm A;rw[e1,e2];show R2 place ps (O4 cs q.1 v.cells)=R2 place ps _
       grind[O4,G8,G7,L7,A5]
    . have e2:Nat.ble (Nat.add q.1 q.2) cs.length=zf:=by
       cases hb:Nat.ble (Nat.add q.1 q.2) cs.length with
       |false=>rfl
       |true=>exact absurd (Nat.le_of_ble_eq_true hb) A
      rw[if_neg (fun h=>A h.2.1),e2,Bool.and_false];rfl
  . have e1:Nat.beq v.cells.length q.2=zf:=by
     grind[zqn]
    rw[if_neg (fun h=>B h.1),e1];rfl
def HF(l:Option (List AV)):Option AV:=l.map .agg
theorem agM_some:HF (zs cs)=zs (.agg cs):=rfl
def EP(K:PK)(r:Option PR):Option PR:=match r with
 |some (.val vs K1)=>zs (.val vs ⟨K1.os,K.ext,K1.tch++K.tch⟩)
 |some (.pan v K1)=>zs (.pan v ⟨K1.os,K.ext,K1.tch++K.tch⟩)
 |_=>zn
theorem inpK_val(vs:List AV):EP K (zs (.val vs K'))=zs (.val vs ⟨K'.os,K.ext,K'.tch++K.tch⟩):=rfl
theorem Bh{T:Nat->Option (List AV->Option (List AV))}{F:Nat->Option PFn}{f:Nat}{args:List AV}(A:T f=zn)(B:inpOf (F f)=zt):evP ⟨E,T,F⟩ (.call f args K)=EP K (evP ⟨E,T,F⟩ (.body f args ⟨K.os,K.os.length,[]⟩)):=by
 rw[evP,evG];show(match T f with|some g=>_|none=>_)=_
 rw[A];dsimp only;show(match inpOf (F f)with|true=>_|false=>_)=_
 rw[B];dsimp only;cases evP ⟨E,T,F⟩ (.body f args ⟨K.os,K.os.length,[]⟩)with
 |none=>rfl
 |some r=>cases r<;>rfl
structure Lens(put:List AV->List PO)(id sz:Nat):Prop where
 row:∀es,rowOf (put es) 6 id=zs (0,es,sz)
 set:∀es es',setRow (put es) 6 id es'=zs (put es')
 raw:∀es,rawAt (put es) id=zf
def wpE(off n:Nat)(r:Option (Nat×List AV×Nat)):Bool:=match r with|some (_,es,_)=>off==0&&n==es.length|none=>zf
theorem wp_eq(id off n sz:Nat):wholeP (.msl id off n sz) os=wpE off n (rowOf os 6 id):=by
 show(match rowOf os 6 id with|some (_,es,_)=>_|none=>zf)=_
 cases rowOf os 6 id<;>rfl
theorem wpE_some{n k z:Nat}(h:n=es.length):wpE 0 n (zs (k,es,z))=zt:=by
 show((0:Nat)==0&&n==es.length)=zt
 rw[h];simp
theorem ap2_nil{s:AV}{base:List AV}{os2:List PO}{tc:List Nat}(h0:wholeP s K.os=zt)(hz:base.length*te.bytes<=140737488355328):
 EO te s K base tc (zs ([],os2))=zs (.msl os2.length 0 base.length te.size,⟨os2++[.row 0 base te.size],K.ext,os2.length::tc++K.tch⟩):=by
 simp_all[EO,joinP]
theorem Xg(os:List PO):∀(l:List PO)(n:Nat),killU os [] n l=l
 |[],n=>rfl
 |e::l,n=>by
  unfold killU;rw[Xg os l (n+1)];grind
theorem nY{T:Nat->Option (List AV->Option (List AV))}{F:Nat->Option PFn}{f:Nat}{args vs:List AV}{tch:List Nat}(A:T f=zn)(B:inpOf (F f)=zf)(C:G9 args=[])(hn:renL (posOf []) args=args)
 (hb:evP ⟨E,T,F⟩ (.body f args ⟨[],0,[]⟩)=zs (.val vs ⟨[],0,tch⟩))(hv:renL (backN [] K.os.length) vs=vs):evP ⟨E,T,F⟩ (.call f args K)=zs (.val vs K):=by
 rw[evP,evG];show(match T f with|some g=>_|none=>_)=_
 rw[A];dsimp only;show(match inpOf (F f)with|true=>_|false=>_)=_
 rw[B];dsimp only;have D:focusIds args K=[]:=by unfold focusIds;rw[C];rfl
 rw[D,hn];have G:focusK [] K=⟨[],0,[]⟩:=rfl;rw[G,hb];show(match mergeK [] K ⟨[],0,tch⟩with|some K'=>zs (PR.val (renL (backN [] K.os.length) vs) K')|none=>zn)=_
 have I:mergeK [] K ⟨[],0,tch⟩=zs K:=by
  unfold mergeK putBack;rw[if_pos (by rfl),Xg]
  have:(tch.filter fun x=>decide (x<([]:List Nat).length))=[]:=by
   simp_all
  simp only[this];simp
 rw[I,hv]
def VY(es:List AV)(ext r:Nat)(tc:List Nat)(q:Option (List PO)):Option (List AV×List PO):=match q with|some os2=>if ext<=r/\¬r∈tc then zs (es,os2)else zn|none=>zn
def VZ(id p i o ext:Nat)(tc:List Nat)(os:List PO)(es A:List AV)(v:Option AV):Option (List AV×List PO):=match v with
 |some v=>VY es ext (rootOf os 6 id) tc (setRow (killP os (rootOf os 6 id) (chainOf os 6 p)) 6 p (A.set i (v.withCells o [.und])))
 |none=>zn
def WA(id p i o ext:Nat)(tc:List Nat)(os:List PO)(es:List AV)(r:Option (Nat×List AV×Nat)):Option (List AV×List PO):=match r with|some (0,pes,_)=>VZ id p i o ext tc os es pes pes[i]?|_=>zn
def tsR(te:TI)(id n sz p i o ext:Nat)(tc:List Nat)(os:List PO)(r:Option (Nat×List AV×Nat)):Option (List AV×List PO):=match r with|some (0,es,z)=>if z=te.size/\sz=z/\n=es.length then WA id p i o ext tc os es (rowOf os 6 p)else zn|_=>zn
theorem teE_sub{te:TI}{os:List PO}{id n sz ext p i o:Nat}{tc:List Nat}(hf:flatT te=zf)(h0:os[id]?=zs (.sub p i o)):KT te id n sz ext tc os (zs (.sub p i o)) (teD te id n sz ext tc os)=tsR te id n sz p i o ext tc os (rowOf os 6 id):=by
 show takeE te (.msl id 0 n sz) ext tc os=_
 unfold takeE tsR;simp only[hf,h0];cases I:rowOf os 6 id with
 |none=>rfl
 |some q=>
  obtain⟨k,es,z⟩:=q;simp only;by_cases hc:k=0/\z=te.size/\sz=z/\0+n<=es.length
  . rw [if_pos hc]
    obtain⟨rfl,C,D,G⟩:=hc;simp only[true_and];by_cases hn:n=es.length
    . rw [if_pos hn,if_pos ⟨C,D,hn⟩]
      unfold takeB WA;simp only[I,h0,if_pos (show True/\z=te.size/\sz=z/\0+n<=es.length from⟨trivial,C,D,G⟩)];cases hp:rowOf os 6 p with
      |none=>rfl
      |some t=>
       obtain⟨kp,A,pz⟩:=t;cases kp with
       |succ=>rfl
       |zero=>
        simp only[↓reduceIte];unfold VZ;cases A[i]? with
        |none=>rfl
        |some v=>
         simp only;unfold VY;cases setRow (killP os (rootOf os 6 id) (chainOf os 6 p)) 6 p (A.set i (v.withCells o [.und]))with
         |none=>rfl
         |some os2=>
          simp only[List.all_cons,List.all_nil,Bool.and_true,hn,List.drop_zero,zqh];by_cases B:ext<=rootOf os 6 id/\¬rootOf os 6 id∈tc
          . rw[if_pos B,if_pos (by simpa using B)]
          . rw[if_neg B,if_neg (by simpa using B)]
    . rw[if_neg hn,if_neg (fun h=>hn h.2.2)]
  . rw[if_neg hc]
    cases k with
    |succ=>rfl
    |zero=>exact(if_neg (fun(h:z=te.size/\sz=z/\n=es.length)=>hc ⟨rfl,h.1,h.2.1,by omega⟩)).symm
theorem tsR_some{te:TI}{os:List PO}{es:List AV}{id n sz p i o ext z:Nat}{tc:List Nat}(A:z=te.size)(B:sz=z)(C:n=es.length):tsR te id n sz p i o ext tc os (zs (0,es,z))=WA id p i o ext tc os es (rowOf os 6 p):=if_pos ⟨A,B,C⟩
theorem tsP_some{os:List PO}{es A:List AV}{id p i o ext z:Nat}{tc:List Nat}:WA id p i o ext tc os es (zs (0,A,z))=VZ id p i o ext tc os es A A[i]?:=rfl
theorem tsV_some{os:List PO}{es A:List AV}{v:AV}{id p i o ext:Nat}{tc:List Nat}:VZ id p i o ext tc os es A (zs v)=VY es ext (rootOf os 6 id) tc (setRow (killP os (rootOf os 6 id) (chainOf os 6 p)) 6 p (A.set i (v.withCells o [.und]))):=rfl
theorem tsS_some{os2:List PO}{es:List AV}{ext r:Nat}{tc:List Nat}(A:ext<=r)(B:¬r∈tc):VY es ext r tc (zs os2)=zs (es,os2):=if_pos ⟨A,B⟩
end
noncomputable section
variable {E:Env}{fr:PF}{K K' K1 Kf:PK}{v w x y c:AV}{vs es cs new:List AV}{te t:TI}{os l:List PO}{ids:List Nat}
theorem ro5(os:List PO)(id:Nat):rowOf os 5 id=LQ os 4 os[id]?:=AY os 4 id
theorem ro4(os:List PO)(id:Nat):rowOf os 4 id=LQ os 3 os[id]?:=AY os 3 id
def SP(v:AV):OpS:=match v with | .iface t v=>.pan (.iface t v)|_=>.bad
theorem pr_pan(x:Operand):prim E (.panic x) fr K=SP (opvP E x fr):=rfl
theorem panP_i(t:Nat):SP (.iface t v)=.pan (.iface t v):=rfl
theorem nc_ptr(a b c:Nat):j7 (.ptr a b c)=zs (.ptr a b c):=rfl
theorem inpK_pan:EP K (zs (.pan v K'))=zs (.pan v ⟨K'.os,K.ext,K'.tch++K.tch⟩):=rfl
theorem fl_none(l:List Nat):l.filter (fun _=>zf)=[]:=by simp
theorem rF{T:Nat->Option (List AV->Option (List AV))}{F:Nat->Option PFn}{f:Nat}{args args' vs vs':List AV}(A:T f=zn)(B:inpOf (F f)=zf)(hi:focusIds args K=ids)(ha:renL (posOf ids) args=args')(C:focusK ids K=Kf)
 (hb:evP ⟨E,T,F⟩ (.body f args' Kf)=zs (.val vs K1))(hm:mergeK ids K K1=zs K')(hv:renL (backN ids K.os.length) vs=vs'):evP ⟨E,T,F⟩ (.call f args K)=zs (.val vs' K'):=by
 rw[evP,evG];show(match T f with|some g=>_|none=>_)=_
 rw[A];dsimp only;show(match inpOf (F f)with|true=>_|false=>_)=_
 rw[B];dsimp only;rw[hi,ha,C,hb];show(match mergeK ids K K1 with|some K'=>zs (PR.val (renL (backN ids K.os.length) vs) K')|none=>zn)=_
 rw[hm,hv]
def rtQ(e:Option PO):Bool:=match e with|some (.row _ _ _)=>zt|_=>zf
theorem rtQ_eq{os:List PO}{id:Nat}:GS os id=rtQ os[id]?:=rfl
theorem rtQ_row{k sz:Nat}{es:List AV}:rtQ (zs (.row k es sz))=zt:=rfl
end
noncomputable section
def gF(P:PE)(n f:Nat)(args:List AV):Option (List AV):=match evF P n (.body f args K0)with
 |some (.val [.bool b] ⟨[],_,_⟩)=>zs [.bool b]
 |some (.val [.msl 0 0 m sz] ⟨[.row 0 es z],_,_⟩)=>if m=es.length/\sz=z then zs [ownd 0 sz es]else zn
 |_=>zn
theorem BE{P:PE}(A:PEok P)(n f:Nat):TC P.E f (gF P n f):=GX A fun args rs hg=>by
 unfold gF at hg;split at hg
 . rename_i e
   cases hg;exact⟨_,_,nC e,back_of rfl List.nodup_nil rfl rfl rfl⟩
 . rename_i e
   split at hg
   . rename_i h
     obtain⟨rfl,rfl⟩:=h;cases hg;exact⟨_,_,nC e,D9 (.inr ⟨rfl,rfl⟩)⟩
   . cases hg
 . cases hg
def exT(T:Nat->Option (List AV->Option (List AV)))(f:Nat)(g:List AV->Option (List AV))(k:Nat):Option (List AV->Option (List AV)):=bif Nat.beq k f then zs g else T k
theorem nZ{E:Env}{T:Nat->Option (List AV->Option (List AV))}{F:Nat->Option PFn}{f:Nat}{g:List AV->Option (List AV)}(A:PEok ⟨E,T,F⟩)(h:TC E f g):PEok ⟨E,exT T f g,F⟩:=by
 refine⟨A.gl,A.ti,fun k q e=>?_,A.fn⟩;have e:(bif Nat.beq k f then zs g else T k)=zs q:=e;cases hb:Nat.beq k f with
 |true=>rw[hb]at e;cases e;rw[zqn hb];exact h
 |false=>rw[hb]at e;exact A.T k q e
theorem oB{P:PE}{n f:Nat}(e:evF P n (.body f [] K0)=zs (.val [.bool zt] ⟨[],0,[]⟩)):Comes P f [] [.bool zt]:=⟨_,_,nC e,back_of rfl List.nodup_nil rfl rfl rfl⟩
end
open Go.ChangeShapes Go.WideShapes Go.ChangeAt
section
variable {H:Type}{enc:TypeId×Value->H}{P:Program}{W:World}{base:Nat}{spare:Nat->Bool}{held:Bool}
def KX(P:Program):Nat->List Field->Prop
 |_,[]=>True
 |o,f::fs=>f.offset=o/\KX P (o+P.cellsOf f.type) fs
theorem rG{see:TypeId->DataW H->Option (List AV)}:∀(fs:List Field)(ds:List (DataW H))(A:List (List AV))(o:Nat),ds.length=fs.length->A.length=fs.length ->
 (∀(i:Nat) f d s,fs[i]?=zs f->ds[i]?=zs d->A[i]?=zs s->see f.type d=zs s/\s.length=P.cellsOf f.type)->KX P o fs->eT P see o fs ds=zs A.flatten
 |[],ds,A,o,h1,h2,h3,h4=>by
  have:ds=[]:=zqf h1
  have:A=[]:=zqf h2
  subst_vars;rfl
 |f :: fs,ds,A,o,h1,h2,h3,h4=>by
  cases ds with
  |nil=>cases h1
  |cons d ds=>
   cases A with
   |nil=>cases h2
   |cons s A=>
    obtain⟨C,D⟩:=h3 0 f d s rfl rfl rfl;have B:=rG fs ds A (o+P.cellsOf f.type) (by simpa using h1) (by simpa using h2) (fun i f d s a b c=>h3 (i+1) f d s (by simpa using a) (by simpa using b) (by simpa using c)) h4.2;show(bif Nat.beq f.offset o then A6 (see f.type d) fun a=>bif Nat.beq (lenL a) (P.cellsOf f.type)then A6 (eT P see (Nat.add o (P.cellsOf f.type)) fs ds) fun r=>zs (appL a r)else zn else zn)=_
    rw[h4.1,zql,C];show(bif Nat.beq (lenL s) (P.cellsOf f.type)then A6 (eT P see (o+P.cellsOf f.type) fs ds) fun r=>zs (appL s r)else zn)=_
    rw[A5,D,zql,B];show zs (appL s A.flatten)=_
    rw[L7];rfl
theorem X3:∀(ts:List TypeId)(ds:List (DataW H))(i:Nat) t d w,ts[i]?=zs t->ds[i]?=zs d->w∈d.weights P t->w∈DataW.weightsEach P ts ds
 |[],ds,i,t,d,w,h1,_,_=>by simp at h1
 |t0::ts,[],i,t,d,w,_,h2,_=>by simp at h2
 |t0::ts,d0::ds,0,t,d,w,h1,h2,h3=>by
  cases h1;cases h2;unfold DataW.weightsEach;exact zqg _ h3
 |t0::ts,d0::ds,i+1,t,d,w,h1,h2,h3=>by
  unfold DataW.weightsEach;exact zqi _ (X3 ts ds i t d w (by simpa using h1) (by simpa using h2) h3)
theorem Gj:∀(ds:List (DataW H))(e:TypeId)(i:Nat) d w,ds[i]?=zs d->w∈d.weights P e->w∈DataW.weightsAll P e ds
 |[],e,i,d,w,h,_=>by simp at h
 |d0::ds,e,0,d,w,h,hw=>by
  cases h;unfold DataW.weightsAll;exact zqg _ hw
 |d0::ds,e,i+1,d,w,h,hw=>by
  unfold DataW.weightsAll;exact zqi _ (Gj ds e i d w (by simpa using h) hw)
def Wt(P:Program)(t:TypeId)(d:DataW H):Prop:=∀w∈d.weights P t,w<=reachBytes
theorem kQ{t:TypeId}{fs:Array Field}(N:P.underlying t=zs (.struct fs)){n:Nat}{cs:List Value}{d:DataW H}{ps:List MemPlace}(h:DataW.trod enc P W base spare held n t cs=zs (d,ps))(U:Wt P t d):
 ∃ds,d=.agg ds/\ds.length=fs.toList.length/\∀(i:Nat) f,fs.toList[i]?=zs f->∃D n' G I,ds[i]?=zs D/\DataW.trod enc P W base spare held n' f.type G=zs (D,I)/\Wt P f.type D:=by
 obtain⟨xs,n',rfl,e,hcl,C,V⟩:=DataW.trod_struct N h;cases e;refine⟨xs.map (·.1),rfl,by simpa using C,fun i f hf=>?_⟩;have B:fs[i]?=zs f:=by simpa using hf
 have hi:i<xs.length:=by rw[C];exact(Array.getElem?_eq_some_iff.1 B).1
 have A:xs[i]?=zs xs[i]:=zqd hi;have Q:=V i f B;rw[A]at Q;refine⟨xs[i].1,n',_,xs[i].2,by rw[zqb,A];rfl,Q,fun w J=>U w ?_⟩;unfold DataW.weights;rw[N];exact X3 _ _ i _ _ w (by rw[zqb,hf];rfl) (by rw[zqb,A];rfl) J
def Xh{α:Type}(P:Program)(e:TypeId)(Q:List AV->α->Prop)(v:AV)(l:List α):Prop:=
 ((v=.nilsl/\l=[])\/∃rs:List (List AV),v=.fsl (rs.map (seeV P e)) zf/\rs.length=l.length/\∀(i:Nat) r X,rs[i]?=zs r->l[i]?=zs X->Q r X)/\l.length*P.bytesOf e<=reachBytes
theorem rH{α:Type}{see:DataW H->Option (List AV)}{Q:List AV->α->Prop}:∀(ds:List (DataW H)),(∀(i:Nat) d,ds[i]?=zs d->∃A X,see d=zs A/\Q A X)->∃(rs:List (List AV))(l:List α),kU see ds=zs rs/\rs.length=ds.length/\l.length=ds.length/\∀(i:Nat) r X,rs[i]?=zs r->l[i]?=zs X->Q r X
 |[],_=>⟨[],[],rfl,rfl,rfl,fun i r X h=>by simp at h⟩
 |d :: ds,h=>by
  obtain⟨A,X,G,I⟩:=h 0 d rfl;obtain⟨rs,l,J,N,U,V⟩:=rH ds fun i d D=>h (i+1) d (by simpa using D)
  refine⟨A::rs,X::l,?_,by simp[N],by simp[U],fun i r Y B C=>?_⟩
  . show A6 (see d) (fun a=>A6 (kU see ds) fun r=>zs (a::r))=_
    rw[G,J];rfl
  . cases i with
    |zero=>cases B;cases C;exact I
    |succ i=>exact V i r Y (by simpa using B) (by simpa using C)
theorem Ah{α:Type}{Q:List AV->α->Prop}{t e:TypeId}{m:Nat}(C:P.underlying t=zs (.slice e))(h0:0<P.cellsOf e)
 (hel:∀n cs (d:DataW H) ps,DataW.trod enc P W base spare held n e cs=zs (d,ps)->Wt P e d->∃A X,V5 P m e d=zs A/\(A.length=P.cellsOf e/\(Ak P e=zt\/A.length=1))/\Q A X)
 {n:Nat}{cs:List Value}{d:DataW H}{ps:List MemPlace}(h:DataW.trod enc P W base spare held n t cs=zs (d,ps))(hw:Wt P t d):∃v l,V5 P (m+1) t d=zs [v]/\Xh P e Q v l:=by
 rcases DataW.trod_slice C h with⟨rfl,e1⟩|⟨a,len,cap,elems,rest,n',rfl,rfl,e1,_,hlc,_,I,J,_,_⟩
 . cases e1
   refine⟨.nilsl,[],?_,.inl ⟨rfl,rfl⟩,by simp⟩;unfold V5;rw[C]
 . cases e1
   have D:∀(i:Nat) U,(elems.map (·.1))[i]?=zs U->∃A X,V5 P m e U=zs A/\((A.length=P.cellsOf e/\(Ak P e=zt\/A.length=1))/\Q A X):=fun i U hi=>by
    rw[zqb,Option.map_eq_some_iff]at hi;obtain⟨x,hx,rfl⟩:=hi;have aa:i<len:=by rw[<-I];exact(zqe.1 hx).1
    have B:=J i aa;rw[hx]at B;cases N:W.cells? base (a.add (i*P.cellsOf e)) (P.cellsOf e)with
    |none=>rw[N]at B;cases B
    |some ac=>
     rw[N]at B;refine hel n' ac x.1 x.2 B fun w V=>hw w ?_
     unfold DataW.weights;rw[C];exact List.mem_cons_of_mem _ (zqg _ (Gj _ e i x.1 w (by rw[zqb,hx];rfl) V))
   obtain⟨rs,l,h1,h2,B,h4⟩:=rH (Q:=fun A X=>(A.length=P.cellsOf e/\(Ak P e=zt\/A.length=1))/\Q A X) _ D;refine⟨.fsl (rs.map (seeV P e)) zf,l,?_,.inr ⟨rs,rfl,by rw[h2,B],fun i r X Y hX=>(h4 i r X Y hX).2⟩,?_⟩
   . unfold V5
     rw[C];dsimp only;rw[show Nat.blt 0 (P.cellsOf e)=zt from zqm h0,h1];show(bif (rs.all fun r=>Nat.beq (lenL r) (P.cellsOf e)&&(Ak P e||Nat.beq (lenL r) 1))then zs [AV.fsl (rs.map (seeV P e)) zf]else zn)=_
     have:(rs.all fun r=>Nat.beq (lenL r) (P.cellsOf e)&&(Ak P e||Nat.beq (lenL r) 1))=zt:=by
      rw[List.all_eq_true];intro r Y;obtain⟨i,hi⟩:=zqj Y;have ab:i<l.length:=by rw[B,<-h2];exact(zqe.1 hi).1
      obtain⟨⟨q1,G⟩,_⟩:=h4 i r _ hi (zqd ab);rw[A5,q1,zql];rcases G with G|G
      . rw[G];rfl
      . rw[<-q1,G];simp
     rw[this];rfl
   . rw [B,zqk]
     have:=hw ((elems.length+rest.length)*P.bytesOf e) (by
      unfold DataW.weights;rw[C];simp)
     exact Nat.le_trans (Nat.mul_le_mul_right _ (Nat.le_add_right _ _)) this
theorem Xh.mem{α:Type}{e:TypeId}{Q:List AV->α->Prop}{v:AV}{l:List α}(B:Xh P e Q v l){X:α}(hX:X∈l):∃r,Q r X:=by
 rcases B.1 with⟨rfl,rfl⟩|⟨rs,rfl,hl,C⟩
 . cases hX
 . obtain⟨i,hi⟩:=zqj hX
   have A:i<rs.length:=by rw[hl];exact(zqe.1 hi).1
   exact⟨_,C i _ X (zqd A) hi⟩
def Iv(P:Program):Nat->List (Nat×Nat)->Prop
 |_,[]=>True
 |o,f::fs=>f.2=o/\Iv P (o+P.cellsOf f.1) fs
theorem kR:∀(fs:List Field)(o:Nat),Iv P o (fs.map fun f=>(f.type,f.offset))->KX P o fs
 |[],_,_=>trivial
 |f::fs,o,h=>⟨h.1,kR fs _ h.2⟩
theorem kS:∀(A:List (List AV))(L:List (Nat×Nat)),A.length=L.length->(∀(i:Nat) s f,A[i]?=zs s->L[i]?=zs f->s.length=P.cellsOf f.1)->A.flatten.length=(L.map fun f=>P.cellsOf f.1).sum
 |[],[],_,_=>rfl
 |[],_::_,h,_=>by cases h
 |_::_,[],h,_=>by cases h
 |s::A,f::L,h,hc=>by
  rw[List.flatten_cons,List.length_append,List.map_cons,List.sum_cons,hc 0 s f rfl rfl,kS A L (by simpa using h) fun i s f a b=>hc (i+1) s f (by simpa using a) (by simpa using b)]
theorem bG{Qs:Nat->List AV->Prop}:∀(n:Nat),(∀i,i<n->∃s,Qs i s)->∃B:List (List AV),B.length=n/\∀(i:Nat) s,B[i]?=zs s->Qs i s
 |0,_=>⟨[],rfl,fun i s h=>by simp at h⟩
 |n + 1,h=>by
  obtain⟨B,D,G⟩:=bG n fun i hi=>h i (by omega)
  obtain⟨s,I⟩:=h n (by omega);refine⟨B++[s],by simp[D],fun i t A=>?_⟩;rw[List.getElem?_append]at A;split at A
  . exact G i t A
  . rename_i hi
    cases C:i-B.length with
    |zero=>
     rw[C]at A;cases A
     have:i=n:=by omega
     subst this;exact I
    |succ k=>rw[C]at A;simp at A
theorem Y1{t:TypeId}{fs:Array Field}{L:List (Nat×Nat)}{m:Nat}{Qs:Nat->List AV->Prop}(Y:P.underlying t=zs (.struct fs))(J:fs.toList.map (fun f=>(f.type,f.offset))=L)(C:Iv P 0 L)(hc:P.cellsOf t=(L.map fun f=>P.cellsOf f.1).sum)
 (hF:∀(i ty off:Nat),L[i]?=zs (ty,off)->∀n cs (d:DataW H) ps,DataW.trod enc P W base spare held n ty cs=zs (d,ps)->Wt P ty d->∃s,V5 P m ty d=zs s/\s.length=P.cellsOf ty/\Qs i s)
 {n:Nat}{cs:List Value}{d:DataW H}{ps:List MemPlace}(h:DataW.trod enc P W base spare held n t cs=zs (d,ps))(hw:Wt P t d):
 ∃A:List (List AV),V5 P (m+1) t d=zs A.flatten/\A.flatten.length=P.cellsOf t/\A.length=L.length/\∀(i:Nat) s,A[i]?=zs s->Qs i s:=by
 obtain⟨ds,rfl,hl,hx⟩:=kQ Y h hw;have hLl:L.length=fs.toList.length:=by rw[<-J,zqk]
 obtain ⟨A,h1,U⟩:=bG (Qs:=fun i s=>(∀N ty off,ds[i]?=zs N->L[i]?=zs (ty,off)->V5 P m ty N=zs s/\s.length=P.cellsOf ty)/\Qs i s) L.length (fun i hi=>by
  obtain⟨f,hf⟩:∃f,fs.toList[i]?=zs f:=⟨_,zqd (by omega)⟩
  have G:L[i]?=zs (f.type,f.offset):=by rw[<-J,zqb,hf];rfl
  obtain⟨N,n',V,X,k1,k2,k3⟩:=hx i f hf;obtain⟨s,k4,k5,k6⟩:=hF i _ _ G n' V N X k2 k3;refine⟨s,fun di' ty off a b=>?_,k6⟩;rw[k1]at a;cases a;rw[G]at b;cases b;exact⟨k4,k5⟩)
 have I:∀(i:Nat) f d s,fs.toList[i]?=zs f->ds[i]?=zs d->A[i]?=zs s->V5 P m f.type d=zs s/\s.length=P.cellsOf f.type:=fun i f d s hf Q D =>
  (U i s D).1 d f.type f.offset Q (by rw[<-J,zqb,hf];rfl)
 have B:A.flatten.length=P.cellsOf t:=by
  rw[hc];refine kS A L h1 fun i s f D hf=>?_
  obtain⟨d,Q⟩:∃d,ds[i]?=zs d:=⟨_,zqd (by have:=(zqe.1 hf).1;omega)⟩
  exact((U i s D).1 d f.1 f.2 Q hf).2
 refine⟨A,?_,B,h1,fun i s D=>(U i s D).2⟩;unfold V5;rw[Y];show A6 (eT P (V5 P m) 0 fs.toList ds) (fun r=>bif Nat.beq (lenL r) (P.cellsOf t)then zs r else zn)=_
 rw[rG fs.toList ds A 0 hl (by omega) I (kR _ 0 (by rw[J];exact C))];show(bif Nat.beq (lenL A.flatten) (P.cellsOf t)then zs A.flatten else zn)=_
 rw[A5,B,zql];rfl
theorem Xh.fz{α:Type}{e:TypeId}{Q:List AV->α->Prop}{F:α->AV}{v:AV}{l:List α}(C:Xh P e Q v l){Z:Nat->Prop}{h:Heap}(D:∀r X,Q r X->Fz Z h (seeV P e r) (F X)):Fz Z h v (fslN (l.map F)):=by
 rcases C.1 with⟨rfl,rfl⟩|⟨rs,rfl,hl,I⟩
 . exact .emp .nil
 . cases l with
   |nil=>
    have:rs=[]:=zqf hl
    subst this;exact .emp .fsl
   |cons a l=>
    refine .fsl (by simp[hl]) (fun i x y A B=>?_) rfl;rw[zqb,Option.map_eq_some_iff]at A B;obtain⟨r,G,rfl⟩:=A;obtain⟨X,hX,rfl⟩:=B;exact D r X (I i r X G hX)
end
end Go.AM
