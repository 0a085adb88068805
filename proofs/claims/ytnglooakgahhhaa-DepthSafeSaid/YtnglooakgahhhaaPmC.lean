/- The tree machine: code as trees, memory by kept numbers, and that it says what the machine does. Conditions: none. -/
import Derived.Test.YtnglooakgahhhaaPmB
set_option linter.unusedVariables false
set_option linter.unusedSimpArgs false
set_option linter.unusedSectionVars false
set_option linter.defProp false
set_option maxHeartbeats 4000000
open Option renaming some→zs,none→zn
open Bool renaming true→zt,false→zf
open List renaming replicate→zqa,getElem?_map→zqb,range→zqc,getElem?_eq_getElem→zqd,getElem?_eq_some_iff→zqe,all_eq_true→zqf,map_cons→zqg,eq_nil_of_length_eq_zero→zqh,mem_append_left→zqi,mem_append_right→zqj,getElem?_of_mem→zqk,length_map→zql
open Bool renaming and_eq_true→zqm
open Nat renaming beq_refl→zqn,ble_eq_true_of_le→zqo,eq_of_beq_eq_true→zqp
namespace Go.AM
noncomputable section
variable {E:Env}{T:Nat->Option (List AV->Option (List AV))}{F:Nat->Option PFn}{fr:PF}{K K':PK}{v:AV}{vs:List AV}
def qX(P:PE)(b:PC)(r:Option PR):Option PR:=match r with
 |some (.ok .normal fr K)=>evP P (.code b fr K)
 |some (.val _ _)=>zn
 |some (.itr _ _ _ _)=>zn
 |r=>r
theorem seqP_normal(P:PE)(b:PC):qX P b (zs (.ok .normal fr K))=evP P (.code b fr K):=rfl
theorem seqP_exit(P:PE)(b:PC)(i:Nat):qX P b (zs (.ok (.exit i) fr K))=zs (.ok (.exit i) fr K):=rfl
theorem seqP_ret(P:PE)(b:PC):qX P b (zs (.ok .ret fr K))=zs (.ok .ret fr K):=rfl
theorem seqP_pan(P:PE)(b:PC):qX P b (zs (.pan v K))=zs (.pan v K):=rfl
theorem e_seq(P:PE)(a b:PC):evP P (.code (.seq a b) fr K)=qX P b (evP P (.code a fr K)):=by
 rw[evP,evG];cases evP P (.code a fr K)with
 |none=>rfl
 | some r=>cases r with
  |ok e fr K=>cases e<;>rfl
  |_=>rfl
theorem e_skip(P:PE):evP P (.code .skip fr K)=zs (.ok .normal fr K):=by rw[evP,evG]
theorem e_exit(P:PE)(i:Nat):evP P (.code (.exit i) fr K)=zs (.ok (.exit i) fr K):=by rw[evP,evG]
theorem e_ret(P:PE):evP P (.code .ret fr K)=zs (.ok .ret fr K):=by rw[evP,evG]
theorem e_reg(P:PE)(l:List XOp):evP P (.code (.reg zf l) fr K)=evP P (.ops l fr K):=by rw[evP,evG]
theorem e_regD(P:PE)(l:List XOp):evP P (.code (.reg zt l) fr K)=evP P (.opsD l fr K):=by rw[evP,evG]
theorem e_pre(P:PE)(k:List Nat)(c:PC):evP P (.code (.pre k c) fr K)=evP P (.code c (G5 k fr K).1 (G5 k fr K).2):=by rw[evP,evG]
def wL(P:PE)(a b:PC)(x:AV)(fr:PF)(K:PK):Option PR:=match x with | .bool zt=>evP P (.code a fr K) | .bool zf=>evP P (.code b fr K)|_=>zn
theorem e_cond(P:PE)(c:Operand)(a b:PC):evP P (.code (.cond c a b) fr K)=wL P a b (opvP P.E c fr) fr K:=by rw[evP,evG];rfl
theorem condP_true(P:PE)(a b:PC):wL P a b (.bool zt) fr K=evP P (.code a fr K):=rfl
theorem condP_false(P:PE)(a b:PC):wL P a b (.bool zf) fr K=evP P (.code b fr K):=rfl
def wM(i:Nat)(r:Option PR):Option PR:=match r with
 |some (.ok (.exit j) fr K)=>if j=i then zs (.ok .normal fr K)else zs (.ok (.exit j) fr K)
 |some (.val _ _)=>zn
 |some (.itr _ _ _ _)=>zn
 |r=>r
theorem blkP_normal(i:Nat):wM i (zs (.ok .normal fr K))=zs (.ok .normal fr K):=rfl
theorem blkP_exit(i j:Nat):wM i (zs (.ok (.exit j) fr K))=if j=i then zs (.ok .normal fr K)else zs (.ok (.exit j) fr K):=rfl
theorem blkP_ret(i:Nat):wM i (zs (.ok .ret fr K))=zs (.ok .ret fr K):=rfl
theorem blkP_pan(i:Nat):wM i (zs (.pan v K))=zs (.pan v K):=rfl
theorem e_block(P:PE)(i:Nat)(c:PC):evP P (.code (.block i c) fr K)=wM i (evP P (.code c fr K)):=by
 rw[evP,evG];cases evP P (.code c fr K)with
 |none=>rfl
 | some r=>cases r with
  |ok e fr K=>cases e<;>rfl
  |_=>rfl
def gR(k:List Nat)(r:Option PR):Option PR:=match r with
 |some (.ok .normal fr K)=>zs (.ok .normal (G5 k fr K).1 (G5 k fr K).2)
 |some (.val _ _)=>zn
 |some (.itr _ _ _ _)=>zn
 |some (.pan v K)=>zs (.pan (lookP (G5 [0] [(0,v)] K).1 0) (G5 [0] [(0,v)] K).2)
 |r=>r
theorem postP_normal(k:List Nat):gR k (zs (.ok .normal fr K))=zs (.ok .normal (G5 k fr K).1 (G5 k fr K).2):=rfl
theorem postP_exit(k:List Nat)(i:Nat):gR k (zs (.ok (.exit i) fr K))=zs (.ok (.exit i) fr K):=rfl
theorem postP_ret(k:List Nat):gR k (zs (.ok .ret fr K))=zs (.ok .ret fr K):=rfl
theorem postP_pan(k:List Nat):gR k (zs (.pan v K))=zs (.pan (lookP (G5 [0] [(0,v)] K).1 0) (G5 [0] [(0,v)] K).2):=rfl
theorem e_post(P:PE)(k:List Nat)(c:PC):evP P (.code (.post k c) fr K)=gR k (evP P (.code c fr K)):=by
 rw[evP,evG];cases evP P (.code c fr K)with
 |none=>rfl
 | some r=>cases r with
  |ok e fr K=>cases e<;>rfl
  |_=>rfl
theorem bX(P:PE)(c:PC):evP P (.code (.loop c) fr K)=qX P (.loop c) (evP P (.code c fr K)):=by
 rw[evP,evG];cases evP P (.code c fr K)with
 |none=>rfl
 | some r=>cases r with
  |ok e fr K=>cases e<;>rfl
  |_=>rfl
theorem H9{P:PE}{c:PC}{fr':PF}{K':PK}(h:evP P (.code c fr K)=zs (.ok .normal fr' K')):evP P (.code (.loop c) fr K)=evP P (.code (.loop c) fr' K'):=by rw[bX,h];rfl
theorem J5{P:PE}{c:PC}{i:Nat}{fr':PF}{K':PK}(h:evP P (.code c fr K)=zs (.ok (.exit i) fr' K')):evP P (.code (.loop c) fr K)=zs (.ok (.exit i) fr' K'):=by rw[bX,h];rfl
theorem Dh{P:PE}{c:PC}{fr':PF}{K':PK}(h:evP P (.code c fr K)=zs (.ok .ret fr' K')):evP P (.code (.loop c) fr K)=zs (.ok .ret fr' K'):=by rw[bX,h];rfl
def gS(P:PE)(d:Option Tmp)(l:List XOp)(fr:PF)(r:Option PR):Option PR:=match r with
 |some (.val vs K)=>evP P (.ops l (setP d (oneOrTup vs) fr) K)
 |some (.pan v K)=>zs (.pan v K)
 |_=>zn
def HN(P:PE)(d:Option Tmp)(l:List XOp)(fr:PF)(K:PK)(o:OpS):Option PR:=match o with
 |.val v K=>evP P (.ops l (setP d v fr) K)
 |.call f args=>gS P d l fr (evP P (.call f args K))
 |.pan v=>zs (.pan v K)
 | .bad=>zn
theorem callK_val(P:PE)(d:Option Tmp)(l:List XOp):gS P d l fr (zs (.val vs K))=evP P (.ops l (setP d (oneOrTup vs) fr) K):=rfl
theorem callK_pan(P:PE)(d:Option Tmp)(l:List XOp):gS P d l fr (zs (.pan v K))=zs (.pan v K):=rfl
theorem doP_val(P:PE)(d:Option Tmp)(l:List XOp):HN P d l fr K (.val v K')=evP P (.ops l (setP d v fr) K'):=rfl
theorem doP_call(P:PE)(d:Option Tmp)(l:List XOp)(f:Nat)(args:List AV):HN P d l fr K (.call f args)=gS P d l fr (evP P (.call f args K)):=rfl
theorem doP_pan(P:PE)(d:Option Tmp)(l:List XOp):HN P d l fr K (.pan v)=zs (.pan v K):=rfl
theorem e_nil(P:PE):evP P (.ops [] fr K)=zs (.ok .normal fr K):=by rw[evP,evG]
theorem kT(P:PE)(o:XOp)(l:List XOp){b:Bool}(hg:guardP o.gd fr=zs b):evP P (.ops (o::l) fr K)=bif b then HN P o.dst l fr K (prim P.E o.op fr K)else evP P (.ops l (setP o.dst skipped fr) K):=by
 rw[evP,evG,hg];cases b with
 |false=>rfl
 |true=>
  dsimp only[cond_true];cases prim P.E o.op fr K with
  |call f args=>
   show _=gS P o.dst l fr (evP P (.call f args K))
   dsimp only;cases evP P (.call f args K)with
   |none=>rfl
   |some r=>cases r<;>rfl
  |_=>rfl
theorem e_op(d:Option Tmp)(op:Op)(q:Bool)(s:List Bool)(c:Bool)(l:List XOp):evP ⟨E,T,F⟩ (.ops (⟨d,op,zn,q,s,c⟩::l) fr K)=HN ⟨E,T,F⟩ d l fr K (prim E op fr K):=kT (fr:=fr) (K:=K) (b:=zt) ⟨E,T,F⟩ ⟨d,op,zn,q,s,c⟩ l rfl
theorem e_opS{d:Option Tmp}{op:Op}{t:Tmp}{w q:Bool}{s:List Bool}{c:Bool}{l:List XOp}(hg:g0 w (lookP fr t)=zs zf):evP ⟨E,T,F⟩ (.ops (⟨d,op,zs (zs t,w),q,s,c⟩::l) fr K)=evP ⟨E,T,F⟩ (.ops l (setP d skipped fr) K):=kT (fr:=fr) (K:=K) (b:=zf) ⟨E,T,F⟩ ⟨d,op,zs (zs t,w),q,s,c⟩ l hg
theorem e_opY{d:Option Tmp}{op:Op}{t:Tmp}{w q:Bool}{s:List Bool}{c:Bool}{l:List XOp}(hg:g0 w (lookP fr t)=zs zt):evP ⟨E,T,F⟩ (.ops (⟨d,op,zs (zs t,w),q,s,c⟩::l) fr K)=HN ⟨E,T,F⟩ d l fr K (prim E op fr K):=kT (fr:=fr) (K:=K) (b:=zt) ⟨E,T,F⟩ ⟨d,op,zs (zs t,w),q,s,c⟩ l hg
def Cf(P:PE)(d:Option Tmp)(s:List Bool)(l:List XOp)(fr:PF)(K:PK)(r:Option PR):Option PR:=match r with
 |some (.val vs K)=>evP P (.opsD l (setP d (oneOrTup vs) fr) K)
 |some (.pan v K1)=>if j6 P.E l s (setP d skipped fr) K=zt then zs (.pan v K1)else zn
 |_=>zn
def OQ(P:PE)(d:Option Tmp)(s:List Bool)(l:List XOp)(fr:PF)(K:PK)(o:OpS):Option PR:=match o with
 |.val v K=>evP P (.opsD l (setP d v fr) K)
 |.call f args=>Cf P d s l fr K (evP P (.call f args K))
 |.pan v=>if j6 P.E l s (setP d skipped fr) K=zt then zs (.pan v K)else zn
 | .bad=>zn
def Yk(P:PE)(d:Option Tmp)(s:List Bool)(l:List XOp)(fr:PF)(K:PK)(r:Option PR):Option PR:=match r with
 |some (.pan v K1)=>if j6 P.E l s (setP d skipped fr) K=zt then zs (.pan v {K1 with tch:=K1.tch++K.tch})else zn
 |some (.val vs K1)=>if Am K.os.length l K1=zt then evP P (.opsD l (setP d (oneOrTup vs) fr) {K1 with tch:=K1.tch++K.tch})else evP P (.opsS [⟨K.os,0,K1.tch⟩] l (setP d (oneOrTup vs) fr) {K1 with tch:=K1.tch++K.tch})
 |_=>zn
def HO(P:PE)(d:Option Tmp)(s:List Bool)(l:List XOp)(fr:PF)(K:PK)(o:OpS):Option PR:=match o with
 |.val v K1=>if Am K.os.length l K1=zt then evP P (.opsD l (setP d v fr) {K1 with tch:=K1.tch++K.tch})else evP P (.opsS [⟨K.os,0,K1.tch⟩] l (setP d v fr) {K1 with tch:=K1.tch++K.tch})
 |.call f args=>Yk P d s l fr K (evP P (.call f args {K with tch:=[]}))
 |_=>zn
theorem callD_val(P:PE)(d:Option Tmp)(s:List Bool)(l:List XOp):Cf P d s l fr K' (zs (.val vs K))=evP P (.opsD l (setP d (oneOrTup vs) fr) K):=rfl
theorem callD_pan(P:PE)(d:Option Tmp){s:List Bool}{l:List XOp}(h:j6 P.E l s (setP d skipped fr) K=zt):Cf P d s l fr K (zs (.pan v K'))=zs (.pan v K'):=if_pos h
theorem callQ_pan(P:PE)(d:Option Tmp){s:List Bool}{l:List XOp}(h:j6 P.E l s (setP d skipped fr) K=zt):Yk P d s l fr K (zs (.pan v K'))=zs (.pan v ⟨K'.os,K'.ext,K'.tch++K.tch⟩):=if_pos h
def doV(d:Option Tmp)(s:List Bool)(l:List XOp)(fr:PF)(o:OpS):Bool:=match o with | .val v K=>j6 E l s (setP d v fr) K|_=>zf
theorem v_nil(s:List Bool):j6 E [] s fr K=zt:=by cases s<;>rfl
theorem v_late(o:XOp)(l:List XOp)(s:List Bool):j6 E (o::l) (zt::s) fr K=j6 E l s (setP o.dst skipped fr) K:=rfl
theorem v_op(d:Option Tmp)(op:Op)(s t:List Bool)(c:Bool)(l:List XOp):j6 E (⟨d,op,zn,zf,t,c⟩::l) (zf::s) fr K=doV (E:=E) d s l fr (prim E op fr K):=by
 show(!zf&&_)=_
 grind[doV]
theorem doV_val(d:Option Tmp)(s:List Bool)(l:List XOp):doV (E:=E) d s l fr (.val v K)=j6 E l s (setP d v fr) K:=rfl
theorem doD_val(P:PE)(d:Option Tmp)(s:List Bool)(l:List XOp):OQ P d s l fr K (.val v K')=evP P (.opsD l (setP d v fr) K'):=rfl
theorem doD_call(P:PE)(d:Option Tmp)(s:List Bool)(l:List XOp)(f:Nat)(args:List AV):OQ P d s l fr K (.call f args)=Cf P d s l fr K (evP P (.call f args K)):=rfl
theorem callQ_val(P:PE)(d:Option Tmp)(s:List Bool)(l:List XOp)(A:Am K.os.length l K'=zt):Yk P d s l fr K (zs (.val vs K'))=evP P (.opsD l (setP d (oneOrTup vs) fr) {K' with tch:=K'.tch++K.tch}):=if_pos A
theorem doQ_val(P:PE)(d:Option Tmp)(s:List Bool)(l:List XOp)(A:Am K.os.length l K'=zt):HO P d s l fr K (.val v K')=evP P (.opsD l (setP d v fr) {K' with tch:=K'.tch++K.tch}):=if_pos A
theorem doQ_sep(P:PE)(d:Option Tmp)(s:List Bool)(l:List XOp)(h:Am K.os.length l K'=zf):HO P d s l fr K (.val v K')=evP P (.opsS [⟨K.os,0,K'.tch⟩] l (setP d v fr) {K' with tch:=K'.tch++K.tch}):=if_neg (by grind)
theorem callQ_sep(P:PE)(d:Option Tmp)(s:List Bool)(l:List XOp)(h:Am K.os.length l K'=zf):Yk P d s l fr K (zs (.val vs K'))=evP P (.opsS [⟨K.os,0,K'.tch⟩] l (setP d (oneOrTup vs) fr) {K' with tch:=K'.tch++K.tch}):=if_neg (by grind)
def CJ(P:PE)(S:List PK)(d:Option Tmp)(l:List XOp)(fr:PF)(r:Option PR):Option PR:=match r with
 |some (.val vs K)=>evP P (.opsS S l (setP d (oneOrTup vs) fr) K)
 |_=>zn
def RO(P:PE)(S:List PK)(d:Option Tmp)(l:List XOp)(fr:PF)(o:OpS)(K:PK):Option PR:=match o with
 |.val v K=>evP P (.opsS S l (setP d v fr) K)
 |.call f args=>CJ P S d l fr (evP P (.call f args K))
 |_=>zn
theorem doS_val(P:PE)(S:List PK)(d:Option Tmp)(l:List XOp):RO P S d l fr (.val v K') K=evP P (.opsS S l (setP d v fr) K'):=rfl
theorem s_nil(P:PE)(S:List PK):evP P (.opsS S [] fr K)=zs (.ok .normal fr K):=by rw[evP,evG]
theorem CK(S:List PK)(d:Option Tmp)(op:Op)(s:List Bool)(l:List XOp){c:Bool}(h:bO E S K fr ⟨d,op,zn,zf,s,c⟩=zt):evP ⟨E,T,F⟩ (.opsS S (⟨d,op,zn,zf,s,c⟩::l) fr K)=RO ⟨E,T,F⟩ S d l fr (prim E op fr K) K:=by
 rw[evP,evG];show(if bO E S K fr ⟨d,op,zn,zf,s,c⟩=zt then _ else zn)=_
 rw[if_pos h];dsimp only;cases prim E op fr K with
 |call f args=>
  show _=CJ ⟨E,T,F⟩ S d l fr (evP ⟨E,T,F⟩ (.call f args K))
  dsimp only;cases evP ⟨E,T,F⟩ (.call f args K)with
  |none=>rfl
  |some r=>cases r<;>rfl
 |_=>rfl
theorem s_op(S:List PK)(d:Option Tmp)(op:Op)(s:List Bool)(l:List XOp):evP ⟨E,T,F⟩ (.opsS S (⟨d,op,zn,zf,s,zf⟩::l) fr K)=RO ⟨E,T,F⟩ S d l fr (prim E op fr K) K:=CK S d op s l (zqf.2 fun _ _=>rfl)
def bY(os:List PO)(S:List PK)(v:AV):Bool:=S.all fun s=>fT os s v
theorem cvs_nil{os:List PO}{v:AV}:bY os [] v=zt:=rfl
theorem cvs_cons{os:List PO}{s:PK}{S:List PK}{v:AV}:bY os (s::S) v=(fT os s v&&bY os S v):=rfl
theorem s_ld(S:List PK)(d:Option Tmp)(t:Nat)(a:Operand)(s:List Bool)(l:List XOp)(h:bY K.os S (opvP E a fr)=zt):evP ⟨E,T,F⟩ (.opsS S (⟨d,.load t a,zn,zf,s,zt⟩::l) fr K)=RO ⟨E,T,F⟩ S d l fr (prim E (.load t a) fr K) K:=CK S d _ s l h
theorem cv_ptr{os:List PO}{S:PK}{id i off:Nat}:fT os S (.ptr id i off)=(CD S.os id&&(!S.tch.contains id&&CD os id)):=rfl
theorem doQ_call(P:PE)(d:Option Tmp)(s:List Bool)(l:List XOp)(f:Nat)(args:List AV):HO P d s l fr K (.call f args)=Yk P d s l fr K (evP P (.call f args {K with tch:=[]})):=rfl
theorem e_nilD(P:PE):evP P (.opsD [] fr K)=zs (.ok .normal fr K):=by rw[evP,evG]
theorem Mq(P:PE)(o:XOp)(l:List XOp){b:Bool}(hg:guardP o.gd fr=zs b):evP P (.opsD (o::l) fr K)=bif b then(bif o.quiet then HO P o.dst o.late l fr K (prim P.E o.op fr {K with tch:=[]})else OQ P o.dst o.late l fr K (prim P.E o.op fr K))else evP P (.opsD l (setP o.dst skipped fr) K):=by
 rw[evP,evG,hg];cases b with
 |false=>rfl
 |true=>
  dsimp only[cond_true];cases o.quiet with
  |true=>
   dsimp only[cond_true,cond_false];cases prim P.E o.op fr {K with tch:=[]}with
   |call f args=>
    show _=Yk P o.dst o.late l fr K (evP P (.call f args {K with tch:=[]}))
    dsimp only;cases evP P (.call f args {K with tch:=[]})with
    |none=>rfl
    |some r=>cases r<;>rfl
   |_=>rfl
  |false=>
   dsimp only[cond_true,cond_false];cases prim P.E o.op fr K with
   |call f args=>
    show _=Cf P o.dst o.late l fr K (evP P (.call f args K))
    dsimp only;cases evP P (.call f args K)with
    |none=>rfl
    |some r=>cases r<;>rfl
   |_=>rfl
theorem d_op(d:Option Tmp)(op:Op)(s:List Bool)(c:Bool)(l:List XOp):evP ⟨E,T,F⟩ (.opsD (⟨d,op,zn,zf,s,c⟩::l) fr K)=OQ ⟨E,T,F⟩ d s l fr K (prim E op fr K):=Mq (fr:=fr) (K:=K) (b:=zt) ⟨E,T,F⟩ ⟨d,op,zn,zf,s,c⟩ l rfl
theorem d_opQ(d:Option Tmp)(op:Op)(s:List Bool)(c:Bool)(l:List XOp):evP ⟨E,T,F⟩ (.opsD (⟨d,op,zn,zt,s,c⟩::l) fr K)=HO ⟨E,T,F⟩ d s l fr K (prim E op fr ⟨K.os,K.ext,[]⟩):=Mq (fr:=fr) (K:=K) (b:=zt) ⟨E,T,F⟩ ⟨d,op,zn,zt,s,c⟩ l rfl
theorem d_opS{d:Option Tmp}{op:Op}{t:Tmp}{w q:Bool}{s:List Bool}{c:Bool}{l:List XOp}(hg:g0 w (lookP fr t)=zs zf):evP ⟨E,T,F⟩ (.opsD (⟨d,op,zs (zs t,w),q,s,c⟩::l) fr K)=evP ⟨E,T,F⟩ (.opsD l (setP d skipped fr) K):=Mq (fr:=fr) (K:=K) (b:=zf) ⟨E,T,F⟩ ⟨d,op,zs (zs t,w),q,s,c⟩ l hg
theorem d_opY{d:Option Tmp}{op:Op}{t:Tmp}{w:Bool}{s:List Bool}{c:Bool}{l:List XOp}(hg:g0 w (lookP fr t)=zs zt):evP ⟨E,T,F⟩ (.opsD (⟨d,op,zs (zs t,w),zf,s,c⟩::l) fr K)=OQ ⟨E,T,F⟩ d s l fr K (prim E op fr K):=Mq (fr:=fr) (K:=K) (b:=zt) ⟨E,T,F⟩ ⟨d,op,zs (zs t,w),zf,s,c⟩ l hg
theorem d_opYQ{d:Option Tmp}{op:Op}{t:Tmp}{w:Bool}{s:List Bool}{c:Bool}{l:List XOp}(hg:g0 w (lookP fr t)=zs zt):evP ⟨E,T,F⟩ (.opsD (⟨d,op,zs (zs t,w),zt,s,c⟩::l) fr K)=HO ⟨E,T,F⟩ d s l fr K (prim E op fr ⟨K.os,K.ext,[]⟩):=Mq (fr:=fr) (K:=K) (b:=zt) ⟨E,T,F⟩ ⟨d,op,zs (zs t,w),zt,s,c⟩ l hg
def Vb(E:Env)(rs:List ResultVar)(r:Option PR):Option PR:=match r with
 |some (.ok .normal fr K)=>(match resP E rs fr K with|some (vs,K)=>zs (.val vs K)|none=>zn)
 |some (.ok .ret fr K)=>(match resP E rs fr K with|some (vs,K)=>zs (.val vs K)|none=>zn)
 |some (.pan v K)=>zs (.pan v K)
 |_=>zn
theorem A5{f:Nat}{args:List AV}{c:PC}{nt:Nat}{rs:List ResultVar}{b:Bool}(hf:F f=zs ⟨c,nt,rs,b⟩)(hn:args.length<=nt)(A:bodyJ c=PJ.code c:=by rfl):evP ⟨E,T,F⟩ (.body f args K)=Vb E rs (evP ⟨E,T,F⟩ (.code c (enterP 0 args) K)):=by
 rw[evP,evG];show(match F f with|some p=>_|none=>_)=_
 rw[hf];dsimp only;rw[if_pos hn,A];cases evP ⟨E,T,F⟩ (.code c (enterP 0 args) K)with
 |none=>rfl
 | some r=>cases r with
  |ok e fr K=>cases e<;>rfl
  |_=>rfl
theorem nM{f:Nat}{args:List AV}{x:XC}{a c:PC}{g:Operand}{nt:Nat}{rs:List ResultVar}{b:Bool}(hf:F f=zs ⟨.dfr x a g c,nt,rs,b⟩)(hn:args.length<=nt):evP ⟨E,T,F⟩ (.body f args K)=Vb E rs (evP ⟨E,T,F⟩ (.dfc a g c (enterP 0 args) K)):=by
 conv=>lhs;rw[evP,evG]
 show(match F f with|some p=>_|none=>_)=_
 rw[hf];dsimp only;rw[if_pos hn];show _=Vb E rs (evP ⟨E,T,F⟩ (bodyJ (.dfr x a g c) (enterP 0 args) K))
 cases evP ⟨E,T,F⟩ (bodyJ (.dfr x a g c) (enterP 0 args) K)with
 |none=>rfl
 | some r=>cases r with
  |ok e fr K=>cases e<;>rfl
  |_=>rfl
variable {fr1 fr2 fr3:PF}{K1 K2 K3:PK}{P:PE}
theorem OR{a c:PC}{g:Operand}(h1:evP P (.code a fr K)=zs (.ok .normal fr1 K1))(h2:evP P (.code c fr1 ⟨K1.os,K1.os.length,[]⟩)=zs (.ok .ret fr2 K2))(A:evP P (.rcv (opvP P.E g fr1) .niliface ⟨K2.os,K2.os.length,[]⟩)=zs (.ok .normal fr3 K3)):
 evP P (.dfc a g c fr K)=zs (.ok .ret fr2 ⟨K3.os,K1.ext,K3.tch++(K2.tch++K1.tch)⟩):=by
 rw[evP,evG,h1];show(evP P (.code c fr1 ⟨K1.os,K1.os.length,[]⟩) >>= _)=_
 rw[h2];show(evP P (.rcv (opvP P.E g fr1) .niliface ⟨K2.os,K2.os.length,[]⟩) >>= _)=_
 rw[A];rfl
theorem GR{a c:PC}{g:Operand}(h1:evP P (.code a fr K)=zs (.ok .normal fr1 K1))(h2:evP P (.code c fr1 ⟨K1.os,K1.os.length,[]⟩)=zs (.pan v K2))(A:evP P (.rcv (opvP P.E g fr1) v ⟨K2.os,K2.os.length,[]⟩)=zs (.ok .normal fr3 K3)):
 evP P (.dfc a g c fr K)=zs (.ok .ret fr1 ⟨K3.os,K1.ext,K3.tch++(K2.tch++K1.tch)⟩):=by
 rw[evP,evG,h1];show(evP P (.code c fr1 ⟨K1.os,K1.os.length,[]⟩) >>= _)=_
 rw[h2];show(evP P (.rcv (opvP P.E g fr1) v ⟨K2.os,K2.os.length,[]⟩) >>= _)=_
 rw[A];rfl
theorem CL{n:Nat}{caps:List AV}{x:XC}{d d2:Tmp}{c:PC}{nt:Nat}{b:Bool}(hf:F n=zs ⟨.rcv x d d2 c,nt,[],b⟩)(hn:caps.length<=nt)(h:evP ⟨E,T,F⟩ (.code c (setPs' [d,d2] [v,v] (enterP 0 caps)) K)=zs (.ok .normal fr K')):evP ⟨E,T,F⟩ (.rcv (.fn (.func n) [] caps) v K)=zs (.ok .normal fr K'):=by
 rw[evP,evG];show(match rcOf (F n)with|some (nt,d,d2,c)=>_|none=>_)=_
 rw[hf];show(if caps.length<=nt then _ else _)=_
 rw[if_pos hn,h];rfl
theorem C9{f:Nat}{args:List AV}{g:List AV->Option (List AV)}{as1 rs:List AV}(B:T f=zs g)(C:viewAs K.os args=zs as1)(hg:g as1=zs rs)(A:(okRs rs&&((E1 args).isEmpty||noFL rs))=zt):evP ⟨E,T,F⟩ (.call f args K)=zs (.val (openTs K.os.length rs).1 ⟨K.os++(openTs K.os.length rs).2,K.ext,K.tch⟩):=by
 rw[evP,evG];show(match T f with|some g=>_|none=>_)=_
 rw[B];dsimp only;unfold tcall viewX;rw[C];dsimp only;rw[hg];dsimp only;rw[if_pos A]
end
noncomputable section
variable {E:Env}{T:Nat->Option (List AV->Option (List AV))}{F:Nat->Option PFn}{fr:PF}{K K':PK}{v:AV}{vs:List AV}
def OS(fr:PF)(K:PK)(r:Option PR):Option PR:=match r with
 |some (.itr .normal p _ K1)=>zs (.ok (rB p) fr ⟨K1.os,K.ext,K1.tch++K.tch⟩)
 |some (.itr .ret p _ K1)=>zs (.ok (rB p) fr ⟨K1.os,K.ext,K1.tch++K.tch⟩)
 |_=>zn
theorem wN(p:Option Ex)(fr1:PF):OS fr K (zs (.itr .normal p fr1 K'))=zs (.ok (rB p) fr ⟨K'.os,K.ext,K'.tch++K.tch⟩):=rfl
theorem CM{g:Operand}{ps:List Tmp}{a b ic:PC}{x:XC}{n nt:Nat}{caps:List AV}{rs:List ResultVar}{i:Bool}(hg:opvP E g fr=.fn (.func n) [] caps)(hf:F n=zs ⟨.itf x ic,nt,rs,i⟩)(hn:caps.length+1<=nt):
 evP ⟨E,T,F⟩ (.code (.rfn g ps a b) fr K)=OS fr K (evP ⟨E,T,F⟩ (.iter ⟨ps,a,b,fr⟩ itMax ic zn (enterP 0 (.any::caps)) ⟨K.os,K.os.length,[]⟩)):=by
 rw[evP,evG];show(match opvP E g fr with | .fn (.func n) [] caps=>(match itOf (F n)with|some (nt,ic)=>_|none=>zn)|_=>zn)=_
 rw[hg];dsimp only;rw[hf];dsimp only[itOf];rw[if_pos hn];cases evP ⟨E,T,F⟩ (.iter ⟨ps,a,b,fr⟩ itMax ic zn (enterP 0 (.any::caps)) ⟨K.os,K.os.length,[]⟩)with
 |none=>rfl
 | some r=>cases r with
  |itr e p fr1 K1=>cases e<;>rfl
  |_=>rfl
def OT(P:PE)(b:PC)(r:Option PR):Option PR:=match r with
 |some (.ok .normal fr K)=>evP P (.code b fr K)
 |_=>zn
theorem bZ(P:PE)(b:PC):OT P b (zs (.ok .normal fr K))=evP P (.code b fr K):=rfl
theorem Qt{P:PE}{ps:List Tmp}{a b:PC}{args:List AV}(hn:args.length=ps.length):evP P (.round ⟨ps,a,b,fr⟩ args K)=OT P b (evP P (.code a (setPs' ps args fr) K)):=by
 rw[evP,evG];dsimp only;rw[if_pos hn];cases evP P (.code a (setPs' ps args fr) K)with
 |none=>rfl
 | some r=>cases r with
  |ok e fr1 K1=>cases e<;>rfl
  |_=>rfl
theorem Hr(l:List AV):setPs' [] l fr=fr:=by cases l<;>rfl
theorem Eh(p:Tmp)(ps:List Tmp)(v:AV)(l:List AV):setPs' (p::ps) (v::l) fr=setPs' ps l ((p,v)::fr):=rfl
variable {P:PE}{c:RC}{m:Nat}{p:Option Ex}
def gT(P:PE)(c:RC)(m:Nat)(b:PC)(r:Option PR):Option PR:=match r with
 |some (.itr .normal p fr K)=>evP P (.iter c m b p fr K)
 |some (.itr (.exit i) p fr K)=>zs (.itr (.exit i) p fr K)
 |some (.itr .ret p fr K)=>zs (.itr .ret p fr K)
 |_=>zn
theorem M7(b:PC):gT P c m b (zs (.itr .normal p fr K))=evP P (.iter c m b p fr K):=rfl
theorem M8(b:PC)(i:Nat):gT P c m b (zs (.itr (.exit i) p fr K))=zs (.itr (.exit i) p fr K):=rfl
theorem M9(b:PC):gT P c m b (zs (.itr .ret p fr K))=zs (.itr .ret p fr K):=rfl
theorem v8(a b:PC):evP P (.iter c (m+1) (.seq a b) p fr K)=gT P c m b (evP P (.iter c m a p fr K)):=by
 rw[evP,evG];cases evP P (.iter c m a p fr K)with
 |none=>rfl
 | some r=>cases r with
  |itr e p fr K=>cases e<;>rfl
  |_=>rfl
theorem Gy(a:PC):evP P (.iter c (m+1) (.loop a) p fr K)=gT P c m (.loop a) (evP P (.iter c m a p fr K)):=by
 rw[evP,evG];cases evP P (.iter c m a p fr K)with
 |none=>rfl
 | some r=>cases r with
  |itr e p fr K=>cases e<;>rfl
  |_=>rfl
def CN(p:Option Ex)(r:Option PR):Option PR:=match r with
 |some (.ok .normal fr K)=>zs (.itr .normal p fr K)
 |_=>zn
theorem N0:CN p (zs (.ok .normal fr K))=zs (.itr .normal p fr K):=rfl
theorem w4(d:Bool)(l:List XOp):evP P (.iter c (m+1) (.reg d l) p fr K)=CN p (evP P (.code (.reg d l) fr K)):=by
 rw[evP,evG];cases evP P (.code (.reg d l) fr K)with
 |none=>rfl
 | some r=>cases r with
  |ok e fr K=>cases e<;>rfl
  |_=>rfl
def kU(P:PE)(c:RC)(m:Nat)(a b:PC)(x:AV)(p:Option Ex)(fr:PF)(K:PK):Option PR:=match x with | .bool zt=>evP P (.iter c m a p fr K) | .bool zf=>evP P (.iter c m b p fr K)|_=>zn
theorem I6(a b:PC):kU P c m a b (.bool zt) p fr K=evP P (.iter c m a p fr K):=rfl
theorem I7(a b:PC):kU P c m a b (.bool zf) p fr K=evP P (.iter c m b p fr K):=rfl
theorem V8(x:Operand)(a b:PC):evP P (.iter c (m+1) (.cond x a b) p fr K)=kU P c m a b (opvP P.E x fr) p fr K:=by rw[evP,evG];rfl
def nN(i:Nat)(r:Option PR):Option PR:=match r with
 |some (.itr .normal p fr K)=>zs (.itr .normal p fr K)
 |some (.itr (.exit j) p fr K)=>if j=i then zs (.itr .normal p fr K)else zs (.itr (.exit j) p fr K)
 |some (.itr .ret p fr K)=>zs (.itr .ret p fr K)
 |_=>zn
theorem N1(i:Nat):nN i (zs (.itr .normal p fr K))=zs (.itr .normal p fr K):=rfl
theorem N2(i j:Nat):nN i (zs (.itr (.exit j) p fr K))=if j=i then zs (.itr .normal p fr K)else zs (.itr (.exit j) p fr K):=rfl
theorem N3(i:Nat):nN i (zs (.itr .ret p fr K))=zs (.itr .ret p fr K):=rfl
theorem N4(i:Nat)(a:PC):evP P (.iter c (m+1) (.block i a) p fr K)=nN i (evP P (.iter c m a p fr K)):=by
 rw[evP,evG];cases evP P (.iter c m a p fr K)with
 |none=>rfl
 | some r=>cases r with
  |itr e p fr K=>cases e<;>rfl
  |_=>rfl
theorem V9:evP P (.iter c (m+1) .skip p fr K)=zs (.itr .normal p fr K):=by rw[evP,evG]
theorem W6(i:Nat):evP P (.iter c (m+1) (.exit i) p fr K)=zs (.itr (.exit i) p fr K):=by rw[evP,evG]
theorem w5:evP P (.iter c (m+1) .ret p fr K)=zs (.itr .ret p fr K):=by rw[evP,evG]
theorem w6(k:List Nat)(a:PC):evP P (.iter c (m+1) (.pre k a) p fr K)=evP P (.iter c (m+1) a p (G5 k fr K).1 (G5 k fr K).2):=by rw[evP,evG]
def cA(k:List Nat)(r:Option PR):Option PR:=match r with
 |some (.itr .normal p fr K)=>zs (.itr .normal p (G5 k fr K).1 (G5 k fr K).2)
 |r=>r
theorem I8(k:List Nat):cA k (zs (.itr .normal p fr K))=zs (.itr .normal p (G5 k fr K).1 (G5 k fr K).2):=rfl
theorem I9(k:List Nat)(i:Nat):cA k (zs (.itr (.exit i) p fr K))=zs (.itr (.exit i) p fr K):=rfl
theorem J0(k:List Nat):cA k (zs (.itr .ret p fr K))=zs (.itr .ret p fr K):=rfl
theorem W7(k:List Nat)(a:PC):evP P (.iter c (m+1) (.post k a) p fr K)=cA k (evP P (.iter c (m+1) a p fr K)):=by
 rw[evP,evG];cases evP P (.iter c (m+1) a p fr K)with
 |none=>rfl
 | some r=>cases r with
  |itr e p fr K=>cases e<;>rfl
  |_=>rfl
def RP(e:Ex)(r:Option PR):Option PR:=match r with
 |some (.ok .normal fr K)=>zs (.itr .normal (M4 e) fr K)
 |_=>zn
def nO(P:PE)(p2:PC)(yd:Tmp)(fr:PF)(K:PK)(r:Option PR):Option PR:=match r with
 |some (.ok e _ K1)=>RP e (evP P (.code p2 ((yd,.bool (wentOn e))::fr) ⟨K1.os,K.ext,K1.tch++K.tch⟩))
 |_=>zn
theorem w7(e:Ex):RP e (zs (.ok .normal fr K))=zs (.itr .normal (M4 e) fr K):=rfl
theorem J1(p2:PC)(yd:Tmp)(e:Ex)(fr1:PF):nO P p2 yd fr K (zs (.ok e fr1 K'))=RP e (evP P (.code p2 ((yd,.bool (wentOn e))::fr) ⟨K'.os,K.ext,K'.tch++K.tch⟩)):=rfl
end
noncomputable section
variable {E:Env}{fr:PF}{K K':PK}{v w x y:AV}{vs:List AV}
theorem lk_hit(i:Nat)(r:PF):lookP ((i,v)::r) i=v:=by show(if i=i then v else _)=v;grind
theorem lk_cons(i j:Nat)(r:PF):lookP ((i,v)::r) j=if i=j then v else lookP r j:=rfl
theorem st_some(t:Nat):setP (zs t) v fr=(t,v)::fr:=rfl
theorem st_none:setP zn v fr=fr:=rfl
theorem ov_tmp(t:Nat):opvP E (.tmp t) fr=lookP fr t:=rfl
theorem ov_int(k:IntKind)(n:Int):opvP E (.const (.int k n)) fr=.int k n:=rfl
theorem ov_bool(b:Bool):opvP E (.const (.bool b)) fr=.bool b:=rfl
theorem ov_str(s:List UInt8):opvP E (.const (.string ⟨⟨s⟩⟩)) fr=.str s:=rfl
theorem ov_nsl:opvP E (.const (.slice zn 0 0)) fr=.nilsl:=rfl
theorem ov_npt:opvP E (.const (.pointer zn)) fr=.nilptr:=rfl
theorem ov_func(f:Nat):opvP E (.func f) fr=.fn (.func f) [] []:=rfl
theorem ol_nil:opvL E [] fr=[]:=rfl
theorem ol_cons(x:Operand)(l:List Operand):opvL E (x::l) fr=opvP E x fr::opvL E l fr:=rfl
theorem oq_nil:bL E [] fr=[]:=rfl
theorem oq_cons(i:Nat)(x:Operand)(l:List (Nat×Operand)):bL E ((i,x)::l) fr=(i,opvP E x fr)::bL E l fr:=rfl
theorem oo_none:bM E zn fr=zn:=rfl
theorem oo_some(x:Operand):bM E (zs x) fr=zs (opvP E x fr):=rfl
theorem en_nil(i:Nat):enterP i []=[]:=rfl
theorem en_cons(i:Nat)(l:List AV):enterP i (v::l)=(i,v)::enterP (i+1) l:=rfl
theorem one_1(v:AV):oneOrTup [v]=v:=rfl
theorem one_2(v w:AV):oneOrTup [v,w]=.tup [v,w]:=rfl
theorem one_0:oneOrTup []=.tup []:=rfl
theorem ofV_some(v:AV):Db (zs v) K=.val v K:=rfl
theorem ofO_some(v:AV)(K':PK):Ms (zs (v,K'))=.val v K':=rfl
def OU(x:AV)(i:Nat)(K:PK):OpS:=match x with | .tup vs=>Db vs[i]? K|_=>.bad
theorem exP_tup(vs:List AV)(i:Nat):OU (.tup vs) i K=Db vs[i]? K:=rfl
theorem pr_move(x:Operand):prim E (.move x) fr K=.val (opvP E x fr) K:=rfl
theorem pr_assign(x:Operand):prim E (.assign x) fr K=.val (opvP E x fr) K:=rfl
theorem pr_pick(c a b:Operand):prim E (.pick c a b) fr K=Mb (opvP E c fr) (opvP E a fr) (opvP E b fr) K:=rfl
theorem pick_true(a b:AV):Mb (.bool zt) a b K=.val a K:=rfl
theorem pick_false(a b:AV):Mb (.bool zf) a b K=.val b K:=rfl
theorem pr_alloc(t:Nat):prim E (.alloc t) fr K=j4 E t fun ti=>.val (.ptr K.os.length 0 0) (newRow 1 [ti.zero] ti.size K):=rfl
theorem pr_box(t:Nat)(x:Operand):prim E (.box t x) fr K=j4 E t fun ti=>vL ti (opvP E x fr) K:=rfl
theorem pr_build(t:Nat)(ps:Array (Nat×Operand)):prim E (.build t ps) fr K=j4 E t fun ti=>Db (f8 E ti (bL E ps.toList fr)) K:=rfl
theorem pr_buildSl(t n:Nat)(ps:Array (Nat×Operand)):prim E (.buildSlice t n ps) fr K=j4 E t fun ti=>match elemOfT E ti.desc with|some te=>Ms (Da te n (bL E ps.toList fr) K)|none=>.bad:=rfl
theorem pr_load(t:Nat)(a:Operand):prim E (.load t a) fr K=j4 E t fun ti=>Ms (loadP ti (opvP E a fr) K):=rfl
theorem pr_store(t:Nat)(a x:Operand):prim E (.store t a x) fr K=j4 E t fun ti=>Ms ((storeP ti (opvP E a fr) (opvP E x fr) K).map fun K=>(.und,K)):=rfl
theorem pr_nil(x:Operand):prim E (.nilCheck x) fr K=Db (Y8 (opvP E x fr)) K:=rfl
theorem pr_bin(op:BinOp)(t u:Nat)(x y:Operand):prim E (.binOp op t x y u) fr K=R1 E op t (opvP E x fr) (opvP E y fr) K:=rfl
theorem pr_un(op:UnOp)(t:Nat)(x:Operand):prim E (.unOp op t x) fr K=Db (Kh op (opvP E x fr)) K:=rfl
theorem pr_conv(s d:Nat)(x:Operand):prim E (.convert s d x) fr K=j4 E s fun _=>j4 E d fun A=>Db (R5 A.desc (opvP E x fr)) K:=rfl
theorem pr_fn(f:Fn)(a c:Array Operand):prim E (.makeFunc f a c) fr K=.val (.fn f (opvL E a.toList fr) (opvL E c.toList fr)) K:=rfl
theorem pr_slice(t:Nat)(x:Operand)(lo hi mx:Option Operand):prim E (.slice t x lo hi mx) fr K=j4 E t fun ti=>bif hi.isNone&&mx.isSome then .bad else Db (bK E ti.desc (bM E lo fr) (bM E hi fr) (bM E mx fr) (opvP E x fr)) K:=rfl
theorem pr_fa(t:Nat)(x:Operand)(f:Nat):prim E (.fieldAddr t x f) fr K=j4 E t fun ti=>Db (F6 E ti f (opvP E x fr)) K:=rfl
theorem pr_ia(t:Nat)(x i:Operand):prim E (.indexAddr t x i) fr K=j4 E t fun ti=>Db (Ir E ti (opvP E x fr) (opvP E i fr)) K:=rfl
theorem pr_ex(t:Operand)(i:Nat):prim E (.extract t i) fr K=OU (opvP E t fr) i K:=rfl
theorem pr_bui(b:Builtin)(args:Array Operand)(ts:Array TypeId):prim E (.call ⟨.builtin b,args,ts⟩) fr K=Ms (E9 E b ts.toList (opvL E args.toList fr) K):=rfl
theorem pr_call(f:Nat)(args:Array Operand)(ts:Array TypeId):prim E (.call ⟨.value (.func f),args,ts⟩) fr K=.call f (opvL E args.toList fr):=by
 show OpS.call f ([]++(opvL E args.toList fr++[]))=_
 grind
theorem pr_callv(t:Nat)(args:Array Operand)(ts:Array TypeId):prim E (.call ⟨.value (.tmp t),args,ts⟩) fr K=Md (lookP fr t) (opvL E args.toList fr):=rfl
theorem callP_fn(f:Nat)(a c l:List AV):Md (.fn (.func f) a c) l=.call f (a++(l++c)):=rfl
theorem bp(op:BinOp)(t:Nat)(A:Nr x=zt)(B:Nr y=zt):R1 E op t x y K=Db (J3 op (N6 E t) x y) K:=if_pos ⟨A,B⟩
theorem bp_add(t:Nat)(k:IntKind)(a b:Int):R1 E .add t (.int k a) (.int k b) K=.val (.int k (k.wrap (a+b))) K:=by rw[bp _ _ rfl rfl,NW];rfl
theorem bp_sub(t:Nat)(k:IntKind)(a b:Int):R1 E .sub t (.int k a) (.int k b) K=.val (.int k (k.wrap (a-b))) K:=by rw[bp _ _ rfl rfl,NX];rfl
theorem bp_mul(t:Nat)(k:IntKind)(a b:Int):R1 E .mul t (.int k a) (.int k b) K=.val (.int k (k.wrap (a*b))) K:=by rw[bp _ _ rfl rfl,NY];rfl
theorem bp_eql(t:Nat)(k:IntKind)(a b:Int):R1 E .eql t (.int k a) (.int k b) K=.val (.bool (decide (a=b))) K:=by rw[bp _ _ rfl rfl,NZ];rfl
theorem bp_neq(t:Nat)(k:IntKind)(a b:Int):R1 E .neq t (.int k a) (.int k b) K=.val (.bool (!decide (a=b))) K:=by rw[bp _ _ rfl rfl,OA];rfl
theorem bp_lss(t:Nat)(k:IntKind)(a b:Int):R1 E .lss t (.int k a) (.int k b) K=.val (.bool (decide (a<b))) K:=by rw[bp _ _ rfl rfl,OB];rfl
theorem bp_leq(t:Nat)(k:IntKind)(a b:Int):R1 E .leq t (.int k a) (.int k b) K=.val (.bool (decide (a<=b))) K:=by rw[bp _ _ rfl rfl,OC];rfl
theorem bp_gtr(t:Nat)(k:IntKind)(a b:Int):R1 E .gtr t (.int k a) (.int k b) K=.val (.bool (decide (b<a))) K:=by rw[bp _ _ rfl rfl,OD];rfl
theorem bp_geq(t:Nat)(k:IntKind)(a b:Int):R1 E .geq t (.int k a) (.int k b) K=.val (.bool (decide (b<=a))) K:=by rw[bp _ _ rfl rfl,OE];rfl
theorem bp_eqlS(t:Nat)(a b:List UInt8):R1 E .eql t (.str a) (.str b) K=.val (.bool (decide (a=b))) K:=by rw[bp _ _ rfl rfl,GG];rfl
theorem bp_neqS(t:Nat)(a b:List UInt8):R1 E .neq t (.str a) (.str b) K=.val (.bool (!decide (a=b))) K:=by rw[bp _ _ rfl rfl,GH];rfl
theorem wt_true(b:Bool):g0 zt (.bool b)=zs b:=rfl
theorem wt_false(b:Bool):g0 zf (.bool b)=zs (!b):=rfl
theorem wt_skip(w:Bool):g0 w skipped=zs zf:=rfl
theorem as_nat(k:IntKind)(n:Nat):asNat (.int k (n:Int))=zs n:=rfl
theorem B5{i:Nat}(h:i<9223372036854775807):IntKind.i64.wrap ((i:Int)+1)=((i+1:Nat):Int):=by
 rw[IntKind.wrap_i64];omega
def wV(x:AV)(K:PK):Option (AV×PK):=(cU x).map fun n=>(.int .i64 (Int.ofNat n),K)
theorem ln_fsl(es:List AV)(f:Bool):Ms (wV (.fsl es f) K)=.val (.int .i64 (es.length:Int)) K:=by
 show Ms ((zs (lenL es)).map _)=_;rw[A3];rfl
theorem ln_msl(id off n sz:Nat):Ms (wV (.msl id off n sz) K)=.val (.int .i64 (n:Int)) K:=rfl
theorem ln_nil:Ms (wV .nilsl K)=.val (.int .i64 0) K:=rfl
def Vd(te:TI)(x i:AV):Option AV:=match asNat i with|some n=>cY te n x|none=>zn
theorem ix_fsl{te:TI}{k:IntKind}{i:Nat}{es:List AV}{f:Bool}(h:es[i]?=zs v)(A:v.cells.length=te.size):Vd te (.fsl es f) (.int k (i:Int))=zs (.fptr v 0):=by
 show A4 (Fg es i) (fun v=>A9 (Nat.beq (lenL v.cells) te.size) (zs (AV.fptr v 0)))=_
 rw[R2,h];show A9 (Nat.beq (lenL v.cells) te.size) (zs (AV.fptr v 0))=_
 rw[A3,A,zqn];rfl
theorem ix_msl{te:TI}{k:IntKind}{i id off n sz:Nat}(h:i<n)(A:sz=te.size):Vd te (.msl id off n sz) (.int k (i:Int))=zs (.ptr id (off+i) 0):=by
 show A9 (Nat.blt i n&&Nat.beq sz te.size) (M2 (Nat.add off i) fun o=>zs (AV.ptr id o 0))=_
 rw[B7,A,zqn,show Nat.blt i n=zt from zqo h];rfl
theorem ld_f(t:TI)(v:AV)(off:Nat):Ms (loadP t (.fptr v off) K)=Db (partOf t v.cells off) K:=by
 show Ms ((partOf t v.cells off).map (·,K))=_
 cases partOf t v.cells off<;>rfl
def RQ(id i off:Nat)(K:PK)(w:Option AV):OpS:=match w with|some w=>.val (Uc id i off w K).1 (Uc id i off w K).2|none=>.bad
def RR(t:TI)(id i off:Nat)(K:PK)(v:Option AV):OpS:=match v with|some v=>RQ id i off K (partOf t v.cells off)|none=>.bad
def ldR(t:TI)(id i off:Nat)(K:PK)(r:Option (Nat×List AV×Nat)):OpS:=match r with|some (_,es,_)=>RR t id i off K es[i]?|none=>.bad
theorem ld_p(t:TI)(id i off:Nat):Ms (loadP t (.ptr id i off) K)=ldR t id i off K (rowOf K.os 6 id):=by
 show Ms (match rowOf K.os 6 id with|some (_,es,_)=>_|none=>zn)=_
 cases rowOf K.os 6 id with
 |none=>rfl
 |some q=>
  obtain⟨k,es,z⟩:=q;show Ms (match es[i]? with|some v=>_|none=>zn)=RR t id i off K es[i]?
  cases es[i]? with
  |none=>rfl
  |some v=>
   show Ms (match partOf t v.cells off with|some w=>_|none=>zn)=RQ id i off K (partOf t v.cells off)
   cases partOf t v.cells off<;>rfl
theorem ldR_some(t:TI)(id i off k z:Nat)(es:List AV):ldR t id i off K (zs (k,es,z))=RR t id i off K es[i]?:=rfl
theorem ldE_some(t:TI)(id i off:Nat):RR t id i off K (zs v)=RQ id i off K (partOf t v.cells off):=rfl
end
noncomputable section
variable {E:Env}{fr:PF}{K K':PK}{v w x y:AV}{vs es:List AV}{te:TI}{os:List PO}
theorem tb_nil:takeB te .nilsl os=zs ([],os,[]):=rfl
def tbE(te:TI)(id off n sz:Nat)(os:List PO)(e:Option PO):Option (List AV×List PO×List Nat):=match e with
 |some (.row k es z)=>if k=0/\z=te.size/\sz=z/\off+n<=es.length then zs ((es.drop off).take n,(killP os id []).set id .dead,[id])else zn
 |some (.sub p i o)=>takeB te (.msl id off n sz) os
 |_=>zn
theorem tb_eq(id off n sz:Nat):takeB te (.msl id off n sz) os=tbE te id off n sz os os[id]?:=by
 cases h:os[id]? with
 |none=>
  unfold takeB
  have:rowOf os 6 id=zn:=by unfold rowOf;rw[h]
  simp only[this];rfl
 |some e=>
  cases e with
  |row k es z=>
   unfold takeB
   have:rowOf os 6 id=zs (k,es,z):=by unfold rowOf;rw[h]
   simp only[this,h];rfl
  |mapo m=>
   unfold takeB
   have:rowOf os 6 id=zn:=by unfold rowOf;rw[h]
   simp only[this];rfl
  |dead=>
   unfold takeB
   have:rowOf os 6 id=zn:=by unfold rowOf;rw[h]
   simp only[this];rfl
  |sub p i o=>rfl
theorem tbE_row{id n sz z:Nat}(h1:z=te.size)(h2:sz=z)(h3:n=es.length):tbE te id 0 n sz os (zs (.row 0 es z))=zs (es,(killP os id []).set id .dead,[id]):=by
 simp_all[tbE]
def HP(te:TI)(id n sz ext:Nat)(tc:List Nat)(os:List PO)(e:Option PO)(d:Option (List AV×List PO)):Option (List AV×List PO):=match e with
 | some (.row 0 es z)=>if z=te.size/\sz=z/\n=es.length then(match flatT te with
  |true=>if Cz es=zt then zs (es,os)else zn
  |false=>if ext<=id/\¬id∈tc then zs (es,(killP os id []).set id .dead)else zn)else d
 |_=>d
def teD(te:TI)(id n sz ext:Nat)(tc:List Nat)(os:List PO):Option (List AV×List PO):=takeE te (.msl id 0 n sz) ext tc os
theorem te_eq(id n sz ext:Nat)(tc:List Nat):takeE te (.msl id 0 n sz) ext tc os=HP te id n sz ext tc os os[id]? (teD te id n sz ext tc os):=by
 unfold HP;split
 . rename_i es z h
   split
   . grind[rowOf,takeE]
   . rfl
 . rfl
theorem teE_flat{id n sz z ext:Nat}{tc:List Nat}{d:Option (List AV×List PO)}(hf:flatT te=zt)(h1:z=te.size)(h2:sz=z)(h3:n=es.length)(he:Cz es=zt):HP te id n sz ext tc os (zs (.row 0 es z)) d=zs (es,os):=by
 simp_all[HP]
theorem teE_row{id n sz z ext:Nat}{tc:List Nat}{d:Option (List AV×List PO)}(hf:flatT te=zf)(h1:z=te.size)(h2:sz=z)(h3:n=es.length)(hx:ext<=id)(hc:¬id∈tc):HP te id n sz ext tc os (zs (.row 0 es z)) d=zs (es,(killP os id []).set id .dead):=by
 simp_all[HP]
theorem te_fsl{f:Bool}{ext:Nat}{tc:List Nat}(h:F2 te.size es=zt):takeE te (.fsl es f) ext tc os=zs (es,os):=if_pos h
def GS(te:TI)(s:AV)(K:PK)(base:List AV)(tc:List Nat)(r:Option (List AV×List PO)):Option (AV×PK):=match r with
 |some (xs,os2)=>if(!xs.isEmpty||wholeP s K.os)=zt then joinP te base xs os2 tc K else zn
 |none=>zn
def ap1(te:TI)(s x:AV)(K:PK)(r:Option (List AV×List PO×List Nat)):Option (AV×PK):=match r with
 |some (base,os1,tc)=>GS te s K base tc (takeE te x K.ext tc os1)
 |none=>zn
theorem ap_eq(s x:AV):Bk te s x K=ap1 te s x K (takeB te s K.os):=by
 grind[Bk,ap1,GS]
theorem ap1_some{s x:AV}(base:List AV)(os1:List PO)(tc:List Nat):ap1 te s x K (zs (base,os1,tc))=GS te s K base tc (takeE te x K.ext tc os1):=rfl
theorem ap2_some{s:AV}{base xs:List AV}{os2:List PO}{tc:List Nat}(h0:xs.isEmpty=zf)(hz:(base.length+xs.length)*te.bytes<=140737488355328):
 GS te s K base tc (zs (xs,os2))=zs (.msl os2.length 0 (base.length+xs.length) te.size,⟨os2++[.row 0 (base++xs) te.size],K.ext,os2.length::tc++K.tch⟩):=by
 unfold GS;simp only[h0];rw[if_pos (by rfl)];exact if_pos hz
end
noncomputable section
variable {E:Env}{fr:PF}{K K':PK}{v w x y c:AV}{vs es cs:List AV}{te:TI}{os l:List PO}{ids:List Nat}
theorem cl_int(k:IntKind)(n:Int):clo (.int k n)=zt:=rfl
theorem cl_bool(b:Bool):clo (.bool b)=zt:=rfl
theorem cl_own(k sz:Nat):clo (ownd k sz es)=zf:=rfl
theorem cl_msl(a b d e:Nat):clo (.msl a b d e)=zf:=rfl
theorem ag_int(k:IntKind)(n:Int):Iq (.int k n)=zf:=rfl
theorem ag_nsl:Iq .nilsl=zf:=rfl
theorem cl_nsl:clo .nilsl=zt:=rfl
theorem ce_int(k:IntKind)(n:Int):AV.cells (.int k n)=[.int k n]:=rfl
theorem ce_bool(b:Bool):AV.cells (.bool b)=[.bool b]:=rfl
theorem ce_str(b:List UInt8):AV.cells (.str b)=[.str b]:=rfl
theorem ce_agg:AV.cells (.agg cs)=cs:=rfl
theorem ce_nsl:AV.cells .nilsl=[.nilsl]:=rfl
theorem ce_msl(a b d e:Nat):AV.cells (.msl a b d e)=[.msl a b d e]:=rfl
theorem ce_own(k sz:Nat):AV.cells (ownd k sz es)=[ownd k sz es]:=rfl
theorem fl_nil:Cz []=zt:=rfl
theorem fl_cons:Cz (v::es)=(v.cells.all clo&&Cz es):=rfl
def GT(c:Option AV):Option (Nat×List AV×Nat):=match c with|some c=>ownOf c|none=>zn
def RS(o:Nat)(v:Option AV):Option (Nat×List AV×Nat):=match v with|some v=>GT v.cells[o]?|none=>zn
def RT(i o:Nat)(r:Option (Nat×List AV×Nat)):Option (Nat×List AV×Nat):=match r with|some (_,es,_)=>RS o es[i]?|none=>zn
def OV(os:List PO)(n:Nat)(e:Option PO):Option (Nat×List AV×Nat):=match e with|some (.row k es sz)=>zs (k,es,sz)|some (.sub p i o)=>RT i o (rowOf os n p)|_=>zn
theorem CO(os:List PO)(n id:Nat):rowOf os (n+1) id=OV os n os[id]?:=by
 conv=>lhs;unfold rowOf
 cases os[id]? with
 |none=>rfl
 | some e=>cases e with
  |sub p i o=>
   show(match rowOf os n p with|some (_,es,_)=>_|none=>zn)=RT i o (rowOf os n p)
   cases rowOf os n p with
   |none=>rfl
   |some q=>
    obtain⟨k,es,z⟩:=q;show(match es[i]? with|some v=>_|none=>zn)=RS o es[i]?
    cases es[i]? with
    |none=>rfl
    |some v=>
     show(match v.cells[o]? with|some c=>_|none=>zn)=GT v.cells[o]?
     cases v.cells[o]?<;>rfl
  |_=>rfl
theorem ro6(os:List PO)(id:Nat):rowOf os 6 id=OV os 5 os[id]?:=CO os 5 id
theorem rwE_row(n k sz:Nat):OV os n (zs (.row k es sz))=zs (k,es,sz):=rfl
theorem rwE_sub(n p i o:Nat):OV os n (zs (.sub p i o))=RT i o (rowOf os n p):=rfl
theorem rwS_some(i o k z:Nat):RT i o (zs (k,es,z))=RS o es[i]?:=rfl
theorem rwC_some(o:Nat):RS o (zs v)=GT v.cells[o]?:=rfl
theorem rwD_some:GT (zs c)=ownOf c:=rfl
theorem ow_own(k sz:Nat):ownOf (ownd k sz es)=zs (k,es,sz):=rfl
def rtE(os:List PO)(n id:Nat)(e:Option PO):Nat:=match e with|some (.sub p _ _)=>rootOf os n p|_=>id
theorem rt_eq(os:List PO)(n id:Nat):rootOf os (n+1) id=rtE os n id os[id]?:=rfl
theorem rtE_row(n id k sz:Nat):rtE os n id (zs (.row k es sz))=id:=rfl
theorem rtE_sub(n id p i o:Nat):rtE os n id (zs (.sub p i o))=rootOf os n p:=rfl
def chE(os:List PO)(n:Nat)(e:Option PO):List Nat:=match e with|some (.sub p _ _)=>chainOf os n p|_=>[]
theorem ch_eq(os:List PO)(n id:Nat):chainOf os (n+1) id=id::chE os n os[id]?:=rfl
theorem chE_row(n k sz:Nat):chE os n (zs (.row k es sz))=[]:=rfl
theorem kp_eq(r:Nat)(keep:List Nat):killP os r keep=Y3 os r keep 0 os:=rfl
theorem kg_nil(r j:Nat)(keep:List Nat):Y3 os r keep j []=[]:=rfl
theorem kg_row(r j k sz:Nat)(keep:List Nat):Y3 os r keep j (.row k es sz::l)=.row k es sz::Y3 os r keep (j+1) l:=rfl
theorem kg_dead(r j:Nat)(keep:List Nat):Y3 os r keep j (.dead::l)=.dead::Y3 os r keep (j+1) l:=rfl
theorem kg_sub(r j p i o:Nat)(keep:List Nat):Y3 os r keep j (.sub p i o::l)=(if rootOf os 6 j=r/\¬j∈keep then PO.dead else .sub p i o)::Y3 os r keep (j+1) l:=rfl
theorem ks_eq(id:Nat):killS os id=j3 os (rootOf os 6 id) (chainOf os 6 id) id 0 os:=rfl
theorem kh_nil(r j id:Nat)(keep:List Nat):j3 os r keep id j []=[]:=rfl
theorem kh_row(r j k sz id:Nat)(keep:List Nat):j3 os r keep id j (.row k es sz::l)=.row k es sz::j3 os r keep id (j+1) l:=rfl
def GU(ids:List Nat)(fr:PF):List Nat->PF
 |[]=>[]
 |i::l=>(i,G2 (posOf ids) (lookP fr i))::GU ids fr l
def CP(ids:List Nat)(os:List PO):List Nat->List PO
 |[]=>[]
 |i::l=>renPO (posOf ids) (entryAt os i)::CP ids os l
theorem wO(ids:List Nat)(fr:PF):∀keep:List Nat,(keep.map fun i=>(i,G2 (posOf ids) (lookP fr i)))=GU ids fr keep
 |[]=>rfl
 |i::l=>congrArg (List.cons _) (wO ids fr l)
theorem kV(ids:List Nat)(os:List PO):∀l:List Nat,(l.map fun i=>renPO (posOf ids) (entryAt os i))=CP ids os l
 |[]=>rfl
 |i::l=>congrArg (List.cons _) (kV ids os l)
theorem mf_nil:GU ids fr []=[]:=rfl
theorem mf_cons(i:Nat)(l:List Nat):GU ids fr (i::l)=(i,G2 (posOf ids) (lookP fr i))::GU ids fr l:=rfl
theorem mo_nil:CP ids os []=[]:=rfl
theorem mo_cons(i:Nat)(l:List Nat):CP ids os (i::l)=renPO (posOf ids) (entryAt os i)::CP ids os l:=rfl
def mk1(k:List Nat)(fr:PF)(ids:List Nat):PF:=GU ids fr k
def mk2(K:PK)(ids:List Nat):PK:=⟨CP ids K.os ids,K.ext,K.tch.filter (· < K.ext)⟩
theorem mp_1(k:List Nat):(G5 k fr K).1=mk1 k fr (markIds k fr K):=wO _ _ _
theorem mp_2(k:List Nat):(G5 k fr K).2=mk2 K (markIds k fr K):=by
 show PK.mk _ _ _=PK.mk _ _ _
 grind[kV]
theorem mk1_eq(k:List Nat):mk1 k fr ids=GU ids fr k:=rfl
theorem mk2_eq:mk2 K ids=⟨CP ids K.os ids,K.ext,K.tch.filter (· < K.ext)⟩:=rfl
def RU(e:Option PO):List Nat:=match e with|some (.sub p _ _)=>[p]|e=>bN e
theorem sm_eq(id:Nat):fS os id=RU os[id]?:=rfl
theorem smE_row(sz:Nat):RU (zs (.row 0 es sz))=[]:=rfl
theorem smE_row1(sz:Nat):RU (zs (.row 1 es sz))=E1 es:=rfl
theorem smE_dead:RU (zs .dead)=[]:=rfl
def HQ(fr:PF):List Nat->List Nat
 |[]=>[]
 |i::l=>J4 (lookP fr i)++HQ fr l
theorem wP(fr:PF):∀keep:List Nat,E1 (keep.map (lookP fr))=HQ fr keep
 |[]=>rfl
 |i::l=>congrArg (List.append _) (wP fr l)
theorem mi_eq(k:List Nat):markIds k fr K=j5 (fS K.os) 64 ((zqc K.ext).flatMap (fS K.os)++HQ fr k) (zqc K.ext):=by
 unfold markIds;rw[wP]
theorem rs_nil:HQ fr []=[]:=rfl
theorem rs_cons(i:Nat)(l:List Nat):HQ fr (i::l)=J4 (lookP fr i)++HQ fr l:=rfl
theorem rg_0:zqc 0=[]:=rfl
theorem rg_1:zqc 1=[0]:=rfl
theorem rg_2:zqc 2=[0,1]:=rfl
theorem rg_3:zqc 3=[0,1,2]:=rfl
theorem rg_4:zqc 4=[0,1,2,3]:=rfl
theorem rp_nil(s:Nat->List Nat)(n:Nat)(A:List Nat):j5 s n [] A=A:=by cases n<;>rfl
theorem rp_cons(s:Nat->List Nat)(n id:Nat)(t A:List Nat):j5 s (n+1) (id::t) A=if id∈A then j5 s n t A else j5 s n (t++s id) (A++[id]):=rfl
theorem po_cons(j id:Nat)(r:List Nat):posOf (j::r) id=if j=id then zs 0 else(posOf r id).map (· + 1):=rfl
def rnM(q:Option Nat)(off n sz:Nat):AV:=match q with|some j=>.msl j off n sz|none=>.und
def rnP(q:Option Nat)(i o:Nat):AV:=match q with|some j=>.ptr j i o|none=>.und
variable {σ:Nat->Option Nat}
theorem rv_int(k:IntKind)(n:Int):G2 σ (.int k n)=.int k n:=rfl
theorem rv_bool(b:Bool):G2 σ (.bool b)=.bool b:=rfl
theorem rv_str(b:List UInt8):G2 σ (.str b)=.str b:=rfl
theorem rv_agg:G2 σ (.agg cs)=.agg (renL σ cs):=rfl
theorem rv_fsl(f:Bool):G2 σ (.fsl es f)=.fsl es f:=rfl
theorem rv_msl(id off n sz:Nat):G2 σ (.msl id off n sz)=rnM (σ id) off n sz:=rfl
theorem rv_ptr(id i o:Nat):G2 σ (.ptr id i o)=rnP (σ id) i o:=rfl
theorem rv_nsl:G2 σ .nilsl=.nilsl:=rfl
theorem rv_fn(f:Fn)(a b:List AV):G2 σ (.fn f a b)=.fn f (renL σ a) (renL σ b):=rfl
theorem rl_nil:renL σ []=[]:=rfl
theorem rl_cons(l:List AV):renL σ (v::l)=G2 σ v::renL σ l:=rfl
theorem rnM_some(j off n sz:Nat):rnM (zs j) off n sz=.msl j off n sz:=rfl
theorem rnP_some(j i o:Nat):rnP (zs j) i o=.ptr j i o:=rfl
def enE(e:Option PO):PO:=match e with|some e=>e|none=>.dead
theorem et_eq(id:Nat):entryAt os id=enE os[id]?:=rfl
theorem enE_some(e:PO):enE (zs e)=e:=rfl
theorem rp_row(sz:Nat):renPO σ (.row 0 es sz)=.row 0 es sz:=rfl
theorem rp_row1(sz:Nat):renPO σ (.row 1 es sz)=.row 1 (renL σ es) sz:=rfl
theorem rp_dead:renPO σ .dead=.dead:=rfl
theorem rf_int(k:IntKind)(n:Int):J4 (.int k n)=[]:=rfl
theorem rf_bool(b:Bool):J4 (.bool b)=[]:=rfl
theorem rf_str(b:List UInt8):J4 (.str b)=[]:=rfl
theorem rf_agg:J4 (.agg cs)=E1 cs:=rfl
theorem rf_fsl(f:Bool):J4 (.fsl es f)=[]:=rfl
theorem rf_msl(id off n sz:Nat):J4 (.msl id off n sz)=[id]:=rfl
theorem rf_ptr(id i o:Nat):J4 (.ptr id i o)=[id]:=rfl
theorem rf_nsl:J4 .nilsl=[]:=rfl
theorem rf_fn(f:Fn)(a b:List AV):J4 (.fn f a b)=E1 a++E1 b:=rfl
theorem rfl_nil:E1 []=[]:=rfl
theorem rfl_cons(l:List AV):E1 (v::l)=J4 v++E1 l:=rfl
theorem bk_nil(rs:List AV):I4 [] rs os=([],os):=rfl
theorem bk_cons(rs:List AV)(r:AV):I4 (v::vs) (r::rs) os=((Y5 v r os).1::(I4 vs rs (Y5 v r os).2).1,(I4 vs rs (Y5 v r os).2).2):=rfl
theorem bv_eq(r:AV):Y5 v r os=(O6 v (J9 v.cells r.cells os).1,(J9 v.cells r.cells os).2):=rfl
theorem bs_nil(rs:List AV):J9 [] rs os=([],os):=rfl
theorem bs_cons(rs:List AV)(r:AV):J9 (v::vs) (r::rs) os=((Y4 v r os).1::(J9 vs rs (Y4 v r os).2).1,(J9 vs rs (Y4 v r os).2).2):=rfl
theorem bc_msl(a b d e:Nat)(r:AV):Y4 (.msl a b d e) r os=(.msl a b d e,os):=rfl
theorem bc_int(k:IntKind)(n:Int)(r:AV):Y4 (.int k n) r os=(.int k n,os):=rfl
theorem lv_agg(a:List AV):O6 (.agg a) cs=.agg cs:=rfl
theorem lv_msl(a b d e:Nat):O6 (.msl a b d e) cs=cs.headD .und:=rfl
theorem lv_int(k:IntKind)(n:Int):O6 (.int k n) cs=cs.headD .und:=rfl
theorem lv_bool(b:Bool):O6 (.bool b) cs=cs.headD .und:=rfl
theorem lv_str(b:List UInt8):O6 (.str b) cs=cs.headD .und:=rfl
theorem lv_own(k sz:Nat):O6 (ownd k sz es) cs=cs.headD .und:=rfl
theorem lv_nsl:O6 .nilsl cs=cs.headD .und:=rfl
theorem hd_cons:(v::es).headD w=v:=rfl
theorem os_nil(n:Nat):openTs n []=([],[]):=rfl
theorem os_cons(n:Nat):openTs n (v::vs)=(O6 v (openT n v.cells).1::(openTs (n+(openT n v.cells).2.length) vs).1,(openT n v.cells).2++(openTs (n+(openT n v.cells).2.length) vs).2):=rfl
theorem ot_nil(n:Nat):openT n []=([],[]):=rfl
theorem ot_own(n sz:Nat):openT n (ownd 0 sz es::cs)=(.msl n 0 es.length sz::(openT (n+1) cs).1,.row 0 es sz::(openT (n+1) cs).2):=rfl
theorem ot_int(m:Nat)(k:IntKind)(n:Int):openT m (.int k n::cs)=(.int k n::(openT m cs).1,(openT m cs).2):=rfl
theorem ot_bool(m:Nat)(b:Bool):openT m (.bool b::cs)=(.bool b::(openT m cs).1,(openT m cs).2):=rfl
theorem back_of{os' ps:List PO}{vs vs' us rs:List AV}(h1:I4 vs rs os=(vs',os'))(h2:(E1 vs').Nodup)(h3:openTs 0 rs=(us,ps))(h4:renL (posOf (E1 vs')) vs'=us)(h5:CP (E1 vs') os' (E1 vs')=ps):backOk vs rs os:=by
 refine⟨?_,?_,?_⟩
 . grind
 . grind
 grind[kV]
theorem va_nil:viewAs os []=zs []:=rfl
theorem va_cons:viewAs os (v::vs)=En (viewA os v) (viewAs os vs):=rfl
theorem co_some(t:List AV):En (zs v) (zs t)=zs (v::t):=rfl
theorem vv_int(k:IntKind)(n:Int):viewA os (.int k n)=zs (.int k n):=rfl
theorem vv_bool(b:Bool):viewA os (.bool b)=zs (.bool b):=rfl
theorem vv_str(b:List UInt8):viewA os (.str b)=zs (.str b):=rfl
theorem wv_int(k:IntKind)(n:Int):viewV os (.int k n)=zs (.int k n):=rfl
theorem wv_str(b:List UInt8):viewV os (.str b)=zs (.str b):=rfl
def agO(l:Option (List AV)):Option AV:=match l with|some cs=>zs (.agg cs)|none=>zn
theorem agO_some:agO (zs cs)=zs (.agg cs):=rfl
theorem vv_agg:viewA os (.agg cs)=agO (viewL os cs):=rfl
theorem vl_nil:viewL os []=zs []:=rfl
theorem vl_cons:viewL os (v::vs)=En (viewV os v) (viewL os vs):=rfl
def HR(l:Option (List AV)):Option AV:=match l with|some es=>zs (fslN es)|none=>zn
theorem fsO_some:HR (zs es)=zs (fslN es):=rfl
def vmE(off n sz:Nat)(r:Option (Nat×List AV×Nat)):Option AV:=match r with
 |some (k,es,z)=>if k=0/\sz=z/\off+n<=es.length then HR (frzL ((es.drop off).take n))else zn
 |none=>zn
theorem vv_msl(id off n sz:Nat):viewA os (.msl id off n sz)=vmE off n sz (rowOf os 6 id):=by
 show(match rowOf os 6 id with|some (k,es,z)=>_|none=>zn)=_
 cases rowOf os 6 id<;>rfl
theorem vmE_some{n sz z:Nat}(h1:sz=z)(h2:n=es.length):vmE 0 n sz (zs (0,es,z))=HR (frzL es):=by
 simp_all[vmE]
theorem fz_nil:frzL []=zs []:=rfl
theorem fz_cons:frzL (v::vs)=En (frzC v) (frzL vs):=rfl
theorem fz_int(k:IntKind)(n:Int):frzC (.int k n)=zs (.int k n):=rfl
theorem fz_str(b:List UInt8):frzC (.str b)=zs (.str b):=rfl
theorem fz_agg:frzC (.agg cs)=agO (frzL cs):=rfl
theorem nf_int(k:IntKind)(n:Int):noF (.int k n)=zt:=rfl
theorem nf_bool(b:Bool):noF (.bool b)=zt:=rfl
theorem nf_agg:noF (.agg cs)=noFL cs:=rfl
theorem nf_own(sz:Nat):noF (ownd 0 sz es)=noFL es:=rfl
theorem nfl_nil:noFL []=zt:=rfl
theorem nfl_cons:noFL (v::es)=(noF v&&noFL es):=rfl
theorem or_nil:okRs []=zt:=rfl
theorem or_cons:okRs (v::vs)=(v.cells.all (fun c=>(ownOf c).isSome||clo c)&&okRs vs):=rfl
theorem on_int(k:IntKind)(n:Int):ownOf (.int k n)=zn:=rfl
theorem on_bool(b:Bool):ownOf (.bool b)=zn:=rfl
end
noncomputable section
variable {E:Env}{fr:PF}{K K':PK}{v w x y c:AV}{vs es cs new:List AV}{te t:TI}{os l:List PO}{ids:List Nat}
theorem ok_int(k:IntKind)(n:Int):Ev (.int k n)=zt:=rfl
theorem ok_str(b:List UInt8):Ev (.str b)=zt:=rfl
theorem ok_msl(a b d e:Nat):Ev (.msl a b d e)=zt:=rfl
theorem ok_ptr(a b d:Nat):Ev (.ptr a b d)=zt:=rfl
theorem ok_nsl:Ev .nilsl=zt:=rfl
theorem nr_eq(k sz:Nat):newRow k es sz K=⟨K.os++[.row k es sz],K.ext,K.tch⟩:=rfl
theorem bx_eq(h1:v.cells.length=t.size)(h2:v.cells.all Ev=zt):vL t v K=.val (.ptr K.os.length 0 0) ⟨K.os++[.row 1 [v] t.size],K.ext,K.tch⟩:=if_pos ⟨h1,h2⟩
theorem wc_agg(off:Nat):AV.withCells (.agg cs) off new=.agg (cs.take off++(new++cs.drop (off+new.length))):=by
 show AV.agg (O7 cs off new)=_
 grind[O7,G4,G3,L7,A3]
theorem wc_int(k:IntKind)(n:Int):AV.withCells (.int k n) 0 [c]=c:=rfl
theorem wc_nsl:AV.withCells .nilsl 0 [c]=c:=rfl
theorem wc_msl(a b d e:Nat):AV.withCells (.msl a b d e) 0 [c]=c:=rfl
def OW(e:Option PO):Bool:=match e with|some (.row 0 _ _)=>zf|some (.row _ _ _)=>zt|_=>zf
theorem ra_eq(id:Nat):rawAt os id=OW os[id]?:=by
 grind[rawAt,OW]
theorem raE_0(sz:Nat):OW (zs (.row 0 es sz))=zf:=rfl
theorem raE_1(sz:Nat):OW (zs (.row 1 es sz))=zt:=rfl
theorem raE_sub(p i o:Nat):OW (zs (.sub p i o))=zf:=rfl
def OX(os:List PO)(n p i o:Nat)(es:List AV)(v:AV)(es':List AV)(c:Option (Nat×List AV×Nat)):Option (List PO):=match c with|some (k,_,sz)=>setRow os n p (es.set i (putCl v o (ownd k sz es')))|none=>zn
def RV(os:List PO)(n p i o:Nat)(es:List AV)(es':List AV)(v:Option AV):Option (List PO):=match v with|some v=>OX os n p i o es v es' (GT v.cells[o]?)|none=>zn
def RW(os:List PO)(n p i o:Nat)(es':List AV)(r:Option (Nat×List AV×Nat)):Option (List PO):=match r with|some (_,es,_)=>RV os n p i o es es' es[i]?|none=>zn
def srE(os:List PO)(n id:Nat)(es':List AV)(e:Option PO):Option (List PO):=match e with|some (.row k _ sz)=>zs (os.set id (.row k es' sz))|some (.sub p i o)=>RW os n p i o es' (rowOf os n p)|_=>zn
theorem sr_eq(n id:Nat)(es':List AV):setRow os (n+1) id es'=srE os n id es' os[id]?:=by
 conv=>lhs;unfold setRow
 cases os[id]? with
 |none=>rfl
 | some e=>cases e with
  |sub p i o=>
   show(match rowOf os n p with|some (_,es,_)=>_|none=>zn)=RW os n p i o es' (rowOf os n p)
   cases rowOf os n p with
   |none=>rfl
   |some q=>
    obtain⟨k,es,z⟩:=q;show(match es[i]? with|some v=>_|none=>zn)=RV os n p i o es es' es[i]?
    cases es[i]? with
    |none=>rfl
    |some v=>
     show(match v.cells[o]? with|some c=>(match ownOf c with|some (k,_,sz)=>_|none=>zn)|none=>zn)=OX os n p i o es v es' (GT v.cells[o]?)
     cases v.cells[o]? with
     |none=>rfl
     |some c=>
      show(match ownOf c with|some (k,_,sz)=>_|none=>zn)=OX os n p i o es v es' (ownOf c)
      cases ownOf c<;>rfl
  |_=>rfl
theorem srE_row(n id k sz:Nat)(es':List AV):srE os n id es' (zs (.row k es sz))=zs (os.set id (.row k es' sz)):=rfl
theorem srE_sub(n id p i o:Nat)(es':List AV):srE os n id es' (zs (.sub p i o))=RW os n p i o es' (rowOf os n p):=rfl
theorem srS_some(n p i o k z:Nat)(es':List AV):RW os n p i o es' (zs (k,es,z))=RV os n p i o es es' es[i]?:=rfl
theorem srC_some(n p i o:Nat)(es':List AV):RV os n p i o es es' (zs v)=OX os n p i o es v es' (GT v.cells[o]?):=rfl
theorem srD_some(n p i o k sz:Nat)(A es':List AV):OX os n p i o es v es' (zs (k,A,sz))=setRow os n p (es.set i (putCl v o (ownd k sz es'))):=rfl
def GV(id:Nat)(K:PK)(os2:Option (List PO)):Option PK:=match os2 with|some os2=>zs ⟨os2,K.ext,rootOf K.os 6 id::K.tch⟩|none=>zn
def RX(t:TI)(id i off:Nat)(K:PK)(es:List AV)(v:AV)(r:Option (List AV×List PO)):Option PK:=match r with|some (cs,os1)=>GV id K (setRow os1 6 id (es.set i (v.withCells off cs)))|none=>zn
def RY(t:TI)(id i off:Nat)(x:AV)(K:PK)(es:List AV)(v:AV)(r:Option (List PO)):Option PK:=match r with|some os0=>RX t id i off K es v (sealC K.ext (rootOf K.os 6 id) id i off os0 x.cells)|none=>zn
def OY(t:TI)(id i off:Nat)(x:AV)(K:PK)(es:List AV)(v:AV)(b:Bool):Option PK:=
 match b with
 |true=>GV id K (setRow K.os 6 id (es.set i (v.withCells off x.cells)))
 |false=>RY t id i off x K es v (setRow (killS K.os id) 6 id (es.set i (v.withCells off (zqa t.size .und))))
def RZ(t:TI)(id i off:Nat)(x:AV)(K:PK)(k sz:Nat)(es:List AV)(v:AV)(b:Bool):Option PK:=
 match b with
 |true=>if x.cells.all Ev=zt then zs ⟨K.os.set id (.row k (es.set i (v.withCells off x.cells)) sz),K.ext,id::K.tch⟩else zn
 |false=>OY t id i off x K es v (x.cells.all clo&&((v.cells.drop off).take t.size).all clo)
def SA(t:TI)(id i off:Nat)(x:AV)(K:PK)(k sz:Nat)(es:List AV)(v:Option AV):Option PK:=match v with
 |some v=>if x.cells.length=t.size/\0<t.size/\off+t.size<=sz then RZ t id i off x K k sz es v (rawAt K.os id)else zn
 |none=>zn
def spR(t:TI)(id i off:Nat)(x:AV)(K:PK)(r:Option (Nat×List AV×Nat)):Option PK:=match r with|some (k,es,sz)=>SA t id i off x K k sz es es[i]?|none=>zn
theorem sp_eq(id i off:Nat):storeP t (.ptr id i off) x K=spR t id i off x K (rowOf K.os 6 id):=by
 unfold storeP;show(match rowOf K.os 6 id with|some (k,es,sz)=>_|none=>zn)=_
 cases rowOf K.os 6 id with
 |none=>rfl
 |some q=>
  obtain⟨k,es,sz⟩:=q;show(match es[i]? with|some v=>_|none=>zn)=SA t id i off x K k sz es es[i]?
  cases es[i]? with
  |none=>rfl
  |some v=>
   show(if _ then _ else zn)=(if _ then _ else zn)
   split
   . cases rawAt K.os id with
     |true=>rfl
     |false=>
      show(if(x.cells.all clo&&((v.cells.drop off).take t.size).all clo)=zt then _ else _)=OY t id i off x K es v (x.cells.all clo&&((v.cells.drop off).take t.size).all clo)
      cases (x.cells.all clo&&((v.cells.drop off).take t.size).all clo)with
      |true=>
       show(match setRow K.os 6 id _ with|some os2=>_|none=>zn)=GV id K (setRow K.os 6 id _)
       cases setRow K.os 6 id (es.set i (v.withCells off x.cells))<;>rfl
      |false=>
       show(match setRow (killS K.os id) 6 id _ with|some A=>_|none=>zn)=RY t id i off x K es v (setRow (killS K.os id) 6 id _)
       cases setRow (killS K.os id) 6 id (es.set i (v.withCells off (zqa t.size .und)))with
       |none=>rfl
       |some A=>
        show(match sealC K.ext (rootOf K.os 6 id) id i off A x.cells with|some (cs,os1)=>_|none=>zn)=RX t id i off K es v (sealC K.ext (rootOf K.os 6 id) id i off A x.cells)
        cases sealC K.ext (rootOf K.os 6 id) id i off A x.cells with
        |none=>rfl
        |some q=>
         obtain⟨cs,os1⟩:=q;show(match setRow os1 6 id _ with|some os2=>_|none=>zn)=GV id K (setRow os1 6 id _)
         cases setRow os1 6 id (es.set i (v.withCells off cs))<;>rfl
   . rfl
theorem spR_some(id i off k sz:Nat):spR t id i off x K (zs (k,es,sz))=SA t id i off x K k sz es es[i]?:=rfl
theorem spE_some{id i off k sz:Nat}(h1:x.cells.length=t.size)(h2:0<t.size)(A:off+t.size<=sz):SA t id i off x K k sz es (zs v)=RZ t id i off x K k sz es v (rawAt K.os id):=if_pos ⟨h1,h2,A⟩
theorem spB_true{id i off k sz:Nat}(h:x.cells.all Ev=zt):RZ t id i off x K k sz es v zt=zs ⟨K.os.set id (.row k (es.set i (v.withCells off x.cells)) sz),K.ext,id::K.tch⟩:=if_pos h
theorem spB_false(id i off k sz:Nat):RZ t id i off x K k sz es v zf=OY t id i off x K es v (x.cells.all clo&&((v.cells.drop off).take t.size).all clo):=rfl
theorem spC_true(id i off:Nat):OY t id i off x K es v zt=GV id K (setRow K.os 6 id (es.set i (v.withCells off x.cells))):=rfl
theorem spC_false(id i off:Nat):OY t id i off x K es v zf=RY t id i off x K es v (setRow (killS K.os id) 6 id (es.set i (v.withCells off (zqa t.size .und)))):=rfl
theorem spO_some(id i off:Nat):RY t id i off x K es v (zs os)=RX t id i off K es v (sealC K.ext (rootOf K.os 6 id) id i off os x.cells):=rfl
theorem spQ_some(id i off:Nat):RX t id i off K es v (zs (cs,os))=GV id K (setRow os 6 id (es.set i (v.withCells off cs))):=rfl
theorem spS_some(id:Nat):GV id K (zs os)=zs ⟨os,K.ext,rootOf K.os 6 id::K.tch⟩:=rfl
theorem rl_1:zqa 1 v=[v]:=rfl
def scK(c:AV)(r:Option (List AV×List PO)):Option (List AV×List PO):=match r with|some p=>zs (c::p.1,p.2)|none=>zn
def scM(ext r id i o:Nat)(os:List PO)(l:List AV)(q m sz:Nat)(e:Option PO):Option (List AV×List PO):=match e with
 |some (.row 0 es z)=>if m=es.length/\sz=z/\ext<=q/\q≠r then scK (ownd 0 sz es) (sealC ext r id i (o+1) (os.set q (.sub id i o)) l)else zn
 |_=>zn
theorem sc_nil(ext r id i o:Nat):sealC ext r id i o os []=zs ([],os):=rfl
theorem sc_msl(ext r id i o q m sz:Nat):sealC ext r id i o os (.msl q 0 m sz::cs)=scM ext r id i o os cs q m sz os[q]?:=by
 conv=>lhs;unfold sealC
 show(match os[q]? with|some (.row 0 es z)=>_|_=>zn)=_
 cases os[q]? with
 |none=>rfl
 | some e=>cases e with
  |row k es z=>
   cases k with
   |zero=>
    show(if _ then Option.map _ _ else zn)=(if _ then _ else zn)
    split
    . cases sealC ext r id i (o+1) (os.set q (.sub id i o)) cs<;>rfl
    . rfl
   |succ=>rfl
  |_=>rfl
theorem scM_row{ext r id i o q m sz z:Nat}(h1:m=es.length)(h2:sz=z)(A:ext<=q)(B:q≠r):scM ext r id i o os cs q m sz (zs (.row 0 es z))=scK (ownd 0 sz es) (sealC ext r id i (o+1) (os.set q (.sub id i o)) cs):=if_pos ⟨h1,h2,A,B⟩
theorem scK_some(l:List AV):scK c (zs (l,os))=zs (c::l,os):=rfl
def rsT(v:AV)(r:Option (List AV×PK)):Option (List AV×PK):=match r with|some (vs,K)=>zs (v::vs,K)|none=>zn
def rsO(r:Option (List AV×PK)):Option PR:=match r with|some (vs,K)=>zs (.val vs K)|none=>zn
theorem rsT_some:rsT v (zs (vs,K))=zs (v::vs,K):=rfl
theorem rsO_some:rsO (zs (vs,K))=zs (.val vs K):=rfl
theorem rs_0:resP E [] fr K=zs ([],K):=rfl
theorem rs_tmp(t:Nat)(l:List ResultVar):resP E (.tmp t::l) fr K=rsT (lookP fr t) (resP E l fr K):=by
 show(match resP E l fr K with|some (vs,K)=>zs (lookP fr t::vs,K)|none=>zn)=_
 cases resP E l fr K<;>rfl
theorem bodyP_ret(rs:List ResultVar):Vb E rs (zs (.ok .ret fr K))=rsO (resP E rs fr K):=by
 show(match resP E rs fr K with|some (vs,K)=>_|none=>zn)=_
 cases resP E rs fr K<;>rfl
theorem bodyP_norm(rs:List ResultVar):Vb E rs (zs (.ok .normal fr K))=rsO (resP E rs fr K):=by
 show(match resP E rs fr K with|some (vs,K)=>_|none=>zn)=_
 cases resP E rs fr K<;>rfl
theorem bodyP_pan(rs:List ResultVar):Vb E rs (zs (.pan v K))=zs (.pan v K):=rfl
theorem Ve{P:PE}{c:PC}(S:Nat->PF×PK)(n:Nat)(h:∀i,i<n->evP P (.code c (S i).1 (S i).2)=zs (.ok .normal (S (i+1)).1 (S (i+1)).2)):evP P (.code (.loop c) (S 0).1 (S 0).2)=evP P (.code (.loop c) (S n).1 (S n).2):=by
 induction n with
 |zero=>rfl
 |succ n A=>rw[A fun i hi=>h i (Nat.lt_succ_of_lt hi),H9 (h n (Nat.lt_succ_self n))]
def Bs{X:Type}(a r:X->List AV)(ok:X->Prop):List AV->Option (List AV):=fun args=>open Classical in if h:∃x,ok x/\a x=args then zs (r (Classical.choose h))else zn
theorem D4{X:Type}{a r:X->List AV}{ok:X->Prop}(hi:∀x y,a x=a y->r x=r y)(x:X)(h:ok x):Bs a r ok (a x)=zs (r x):=by
 have hx:∃y,ok y/\a y=a x:=⟨x,h,rfl⟩
 grind[Bs]
theorem nP{X:Type}{a r:X->List AV}{ok:X->Prop}{args rs:List AV}(h:Bs a r ok args=zs rs):∃x,ok x/\a x=args/\r x=rs:=by
 unfold Bs at h;split at h
 . grind
 . cases h
theorem D6{P:PE}(A:PEok P){f:Nat}{X:Type}{a r:X->List AV}{ok:X->Prop}(H:∀x,ok x->Comes P f (a x) (r x)):TC P.E f (Bs a r ok):=
 CI A fun args rs hg=>by obtain⟨x,h1,rfl,rfl⟩:=nP hg;exact H x h1
theorem Hs{X:Type}{f g:X->AV}(h:∀x,frzC (f x)=zs (g x)):∀l:List X,frzL (l.map f)=zs (l.map g)
 |[]=>rfl
 |x::l=>by
  show En (frzC (f x)) (frzL (l.map f))=_
  rw[h,Hs h l];rfl
theorem ok_fslN:Ev (fslN es)=zt:=rfl
theorem ce_fslN:AV.cells (fslN es)=[fslN es]:=rfl
theorem rf_fslN:J4 (fslN es)=[]:=rfl
theorem rv_fslN{σ:Nat->Option Nat}:G2 σ (fslN es)=fslN es:=rfl
theorem fz_fslN:frzC (fslN es)=HR (frzL es):=rfl
theorem vv_fslN:viewA os (fslN es)=HR (frzL es):=rfl
theorem wv_fslN:viewV os (fslN es)=HR (frzL es):=rfl
theorem ln_fslN:Ms (wV (fslN es) K)=.val (.int .i64 (es.length:Int)) K:=ln_fsl _ _
theorem ix_fslN{k:IntKind}{i:Nat}(h:es[i]?=zs v)(A:v.cells.length=te.size):Vd te (fslN es) (.int k (i:Int))=zs (.fptr v 0):=ix_fsl h A
theorem lv_fslN:O6 (fslN es) cs=cs.headD .und:=rfl
theorem te_fslN{ext:Nat}{tc:List Nat}(h:F2 te.size es=zt):takeE te (fslN es) ext tc os=zs (es,os):=if_pos h
theorem pf_f(o d:Nat):B0 (.fptr v o) d=zs (.fptr v (o+d)):=B7 (Nat.add o d) (fun q=>zs (AV.fptr v q))
theorem pf_p(id i o d:Nat):B0 (.ptr id i o) d=zs (.ptr id i (o+d)):=B7 (Nat.add o d) (fun q=>zs (AV.ptr id i q))
theorem ldW_eq(id i off:Nat):RQ id i off K (zs w)=.val (O6 w (openC id i off K.os.length w.cells).1) ⟨K.os++(openC id i off K.os.length w.cells).2,K.ext,K.tch⟩:=rfl
theorem oc_nil(id i m nx:Nat):openC id i m nx []=([],[]):=rfl
theorem oc_own(id i m nx sz:Nat):openC id i m nx (ownd 0 sz es::cs)=(.msl nx 0 es.length sz::(openC id i (m+1) (nx+1) cs).1,.sub id i m::(openC id i (m+1) (nx+1) cs).2):=rfl
theorem oc_int(id i m nx:Nat)(k:IntKind)(n:Int):openC id i m nx (.int k n::cs)=(.int k n::(openC id i (m+1) nx cs).1,(openC id i (m+1) nx cs).2):=rfl
theorem oc_str(id i m nx:Nat)(b:List UInt8):openC id i m nx (.str b::cs)=(.str b::(openC id i (m+1) nx cs).1,(openC id i (m+1) nx cs).2):=rfl
theorem oc_fslN(id i m nx:Nat):openC id i m nx (fslN es::cs)=(fslN es::(openC id i (m+1) nx cs).1,(openC id i (m+1) nx cs).2):=rfl
theorem oc_msl(id i m nx:Nat)(a b d e:Nat):openC id i m nx (.msl a b d e::cs)=(.msl a b d e::(openC id i (m+1) nx cs).1,(openC id i (m+1) nx cs).2):=rfl
theorem oc_ptr(id i m nx:Nat)(a b d:Nat):openC id i m nx (.ptr a b d::cs)=(.ptr a b d::(openC id i (m+1) nx cs).1,(openC id i (m+1) nx cs).2):=rfl
theorem oc_nsl(id i m nx:Nat):openC id i m nx (.nilsl::cs)=(.nilsl::(openC id i (m+1) nx cs).1,(openC id i (m+1) nx cs).2):=rfl
theorem lv_ptr(a b d:Nat):O6 (.ptr a b d) cs=cs.headD .und:=rfl
theorem ce_ptr(a b d:Nat):AV.cells (.ptr a b d)=[.ptr a b d]:=rfl
def bsE(te:TI)(n:Nat)(ps:List (Nat×AV))(K:PK)(r:Option PK):Option (AV×PK):=match r with
 |some K1=>zs (.msl K.os.length 0 n te.size,K1)
 | none=>match placeR te.size ps (zqa n te.zero)with
  |some es=>zs (.msl K.os.length 0 n te.size,newRow 2 es te.size K)
  |none=>zn
theorem bs_eq{n:Nat}{ps:List (Nat×AV)}(h1:n*te.size<=65536)(h2:0<te.size):Da te n ps K=bsE te n ps K (placeP te K.os.length ps (newRow 0 (zqa n te.zero) te.size K)):=by
 unfold Da;rw[if_pos ⟨h1,h2⟩];rfl
theorem bsE_some(n:Nat)(ps:List (Nat×AV)):bsE te n ps K (zs K')=zs (.msl K.os.length 0 n te.size,K'):=rfl
def plE(te:TI)(id:Nat)(l:List (Nat×AV))(r:Option PK):Option PK:=match r with|some K=>placeP te id l K|none=>zn
theorem pl_nil(id:Nat):placeP te id [] K=zs K:=rfl
theorem pl_cons{id i:Nat}{l:List (Nat×AV)}(h:Iq v=Iq te.zero):placeP te id ((i,v)::l) K=plE te id l (storeP te (.ptr id i 0) v K):=by
 conv=>lhs;unfold placeP
 rw[if_pos h];cases storeP te (.ptr id i 0) v K<;>rfl
theorem plE_some(id:Nat)(l:List (Nat×AV)):plE te id l (zs K)=placeP te id l K:=rfl
theorem rl_0:zqa 0 v=[]:=rfl
theorem rl_2:zqa 2 v=[v,v]:=rfl
theorem rl_7:zqa 7 v=[v,v,v,v,v,v,v]:=rfl
def OZ(y:AV)(os:List PO)(sz:Nat)(es:List AV):Prop:=(es=[]/\y=.nilsl/\os=[])\/(y=.msl 0 0 es.length sz/\os=[.row 0 es sz])
theorem Y6{y:AV}{os:List PO}{sz:Nat}{es:List AV}(h:OZ y os sz es):backOk [y] [ownd 0 sz es] os:=by
 rcases h with⟨rfl,rfl,rfl⟩|⟨rfl,rfl⟩
 . exact back_of (vs':=[.msl 0 0 0 sz]) (os':=[.row 0 [] sz]) rfl (by show [0].Nodup;decide) (us:=[.msl 0 0 0 sz]) (ps:=[.row 0 [] sz]) rfl rfl rfl
 . exact back_of (vs':=[.msl 0 0 es.length sz]) (os':=[.row 0 es sz]) rfl (by show [0].Nodup;decide) (us:=[.msl 0 0 es.length sz]) (ps:=[.row 0 es sz]) rfl rfl rfl
theorem tk_all{n:Nat}{l:List XOp}(h:(K.tch.all fun i=>decide (n<=i))=zt):Am n l K=zt:=by grind[Am]
def wQ(off sz:Nat)(v:AV)(cs:List AV):Option (List AV):=if v.cells.length=sz/\off+sz<=cs.length/\v.cells.all Ev=zt then zs (cs.take off++(v.cells++cs.drop (off+v.cells.length)))else zn
theorem fp_ok{off sz:Nat}(h1:v.cells.length=sz)(h2:off+sz<=cs.length)(A:v.cells.all Ev=zt):wQ off sz v cs=zs (cs.take off++(v.cells++cs.drop (off+v.cells.length))):=if_pos ⟨h1,h2,A⟩
theorem wR:∀l:List AV,D1 l=l.all Ev
 |[]=>rfl
 |c::l=>by
  show(bif okCell c then D1 l else zf)=(Ev c&&l.all Ev)
  rw[wR l];cases c<;>rfl
def SB(place:Nat->Option (Nat×Nat))(ps:List (Nat×AV))(r:Option (List AV)):Option (List AV):=match r with|some cs=>X0 place ps cs|none=>zn
theorem fbK_some(place:Nat->Option (Nat×Nat))(ps:List (Nat×AV)):SB place ps (zs cs)=X0 place ps cs:=rfl
theorem fb_nil(place:Nat->Option (Nat×Nat)):X0 place [] cs=zs cs:=rfl
def fbP(place:Nat->Option (Nat×Nat))(v:AV)(ps:List (Nat×AV))(cs:List AV)(q:Option (Nat×Nat)):Option (List AV):=match q with|some q=>SB place ps (wQ q.1 q.2 v cs)|none=>zn
theorem fbP_some(place:Nat->Option (Nat×Nat))(ps:List (Nat×AV))(a b:Nat):fbP place v ps cs (zs (a,b))=SB place ps (wQ a b v cs):=rfl
theorem fb_cons(place:Nat->Option (Nat×Nat))(i:Nat)(ps:List (Nat×AV)):X0 place ((i,v)::ps) cs=fbP place v ps cs (place i):=by
 show A4 (place i) (fun q=>A9 (Nat.beq (lenL v.cells) q.2&&Nat.ble (Nat.add q.1 q.2) (lenL cs)&&D1 v.cells) (X0 place ps (O7 cs q.1 v.cells)))=_
 cases place i with
 |none=>rfl
 |some q=>
  show A9 _ _=SB place ps (if _ then _ else zn)
  rw[A3,A3,wR];by_cases h1:v.cells.length=q.2
  . by_cases h2:q.1+q.2<=cs.length
    . cases h3:v.cells.all Ev with
      |false=>rw[if_neg (fun h=>absurd h.2.2 (by decide)),Bool.and_false];rfl
      |true=>
       rw[if_pos ⟨h1,h2,rfl⟩];have e1:Nat.beq v.cells.length q.2=zt:=by simp_all
       have e2:Nat.ble (Nat.add q.1 q.2) cs.length=zt:=zqo h2;rw[e1,e2];show X0 place ps (O7 cs q.1 v.cells)=X0 place ps _
       grind[O7,G4,G3,L7,A3]
    . have e2:Nat.ble (Nat.add q.1 q.2) cs.length=zf:=by
       cases hb:Nat.ble (Nat.add q.1 q.2) cs.length with
       |false=>rfl
       |true=>exact absurd (Nat.le_of_ble_eq_true hb) h2
      rw[if_neg (fun h=>h2 h.2.1),e2,Bool.and_false];rfl
  . have e1:Nat.beq v.cells.length q.2=zf:=by
     grind[zqp]
    rw[if_neg (fun h=>h1 h.1),e1];rfl
def PA(l:Option (List AV)):Option AV:=l.map .agg
theorem agM_some:PA (zs cs)=zs (.agg cs):=rfl
def zU(K:PK)(r:Option PR):Option PR:=match r with
 |some (.val vs K1)=>zs (.val vs ⟨K1.os,K.ext,K1.tch++K.tch⟩)
 |some (.pan v K1)=>zs (.pan v ⟨K1.os,K.ext,K1.tch++K.tch⟩)
 |_=>zn
theorem inpK_val(vs:List AV):zU K (zs (.val vs K'))=zs (.val vs ⟨K'.os,K.ext,K'.tch++K.tch⟩):=rfl
theorem Di{T:Nat->Option (List AV->Option (List AV))}{F:Nat->Option PFn}{f:Nat}{args:List AV}(A:T f=zn)(B:inpOf (F f)=zt):evP ⟨E,T,F⟩ (.call f args K)=zU K (evP ⟨E,T,F⟩ (.body f args ⟨K.os,K.os.length,[]⟩)):=by
 rw[evP,evG];show(match T f with|some g=>_|none=>_)=_
 rw[A];dsimp only;show(match inpOf (F f)with|true=>_|false=>_)=_
 rw[B];dsimp only;cases evP ⟨E,T,F⟩ (.body f args ⟨K.os,K.os.length,[]⟩)with
 |none=>rfl
 |some r=>cases r<;>rfl
def wpE(off n:Nat)(r:Option (Nat×List AV×Nat)):Bool:=match r with|some (_,es,_)=>off==0&&n==es.length|none=>zf
theorem wp_eq(id off n sz:Nat):wholeP (.msl id off n sz) os=wpE off n (rowOf os 6 id):=by
 show(match rowOf os 6 id with|some (_,es,_)=>_|none=>zf)=_
 cases rowOf os 6 id<;>rfl
theorem wpE_some{n k z:Nat}(h:n=es.length):wpE 0 n (zs (k,es,z))=zt:=by
 show((0:Nat)==0&&n==es.length)=zt
 rw[h];simp
theorem ap2_nil{s:AV}{base:List AV}{os2:List PO}{tc:List Nat}(h0:wholeP s K.os=zt)(hz:base.length*te.bytes<=140737488355328):
 GS te s K base tc (zs ([],os2))=zs (.msl os2.length 0 base.length te.size,⟨os2++[.row 0 base te.size],K.ext,os2.length::tc++K.tch⟩):=by
 simp_all[GS,joinP]
theorem Vf(os:List PO):∀(l:List PO)(n:Nat),killU os [] n l=l
 |[],n=>rfl
 |e::l,n=>by
  unfold killU;rw[Vf os l (n+1)];grind
theorem cB{T:Nat->Option (List AV->Option (List AV))}{F:Nat->Option PFn}{f:Nat}{args vs:List AV}{tch:List Nat}(A:T f=zn)(B:inpOf (F f)=zf)(C:E1 args=[])(hn:renL (posOf []) args=args)
 (hb:evP ⟨E,T,F⟩ (.body f args ⟨[],0,[]⟩)=zs (.val vs ⟨[],0,tch⟩))(hv:renL (backN [] K.os.length) vs=vs):evP ⟨E,T,F⟩ (.call f args K)=zs (.val vs K):=by
 rw[evP,evG];show(match T f with|some g=>_|none=>_)=_
 rw[A];dsimp only;show(match inpOf (F f)with|true=>_|false=>_)=_
 rw[B];dsimp only;have h1:focusIds args K=[]:=by unfold focusIds;rw[C];rfl
 rw[h1,hn];have h2:focusK [] K=⟨[],0,[]⟩:=rfl;rw[h2,hb];show(match mergeK [] K ⟨[],0,tch⟩with|some K'=>zs (PR.val (renL (backN [] K.os.length) vs) K')|none=>zn)=_
 have D:mergeK [] K ⟨[],0,tch⟩=zs K:=by
  unfold mergeK putBack;rw[if_pos (by rfl),Vf]
  have:(tch.filter fun x=>decide (x<([]:List Nat).length))=[]:=by
   simp_all
  simp only[this];simp
 rw[D,hv]
end
noncomputable section
variable {E:Env}{fr:PF}{K K' K1 Kf:PK}{v w x y c:AV}{vs es cs new:List AV}{te t:TI}{os l:List PO}{ids:List Nat}
theorem ro5(os:List PO)(id:Nat):rowOf os 5 id=OV os 4 os[id]?:=CO os 4 id
def PB(v:AV):OpS:=match v with | .iface t v=>.pan (.iface t v)|_=>.bad
theorem pr_pan(x:Operand):prim E (.panic x) fr K=PB (opvP E x fr):=rfl
theorem panP_i(t:Nat):PB (.iface t v)=.pan (.iface t v):=rfl
theorem nc_ptr(a b c:Nat):Y8 (.ptr a b c)=zs (.ptr a b c):=rfl
theorem inpK_pan:zU K (zs (.pan v K'))=zs (.pan v ⟨K'.os,K.ext,K'.tch++K.tch⟩):=rfl
theorem fl_none(l:List Nat):l.filter (fun _=>zf)=[]:=by simp
theorem nQ{T:Nat->Option (List AV->Option (List AV))}{F:Nat->Option PFn}{f:Nat}{args args' vs vs':List AV}(A:T f=zn)(B:inpOf (F f)=zf)(hi:focusIds args K=ids)(ha:renL (posOf ids) args=args')(C:focusK ids K=Kf)
 (hb:evP ⟨E,T,F⟩ (.body f args' Kf)=zs (.val vs K1))(hm:mergeK ids K K1=zs K')(hv:renL (backN ids K.os.length) vs=vs'):evP ⟨E,T,F⟩ (.call f args K)=zs (.val vs' K'):=by
 rw[evP,evG];show(match T f with|some g=>_|none=>_)=_
 rw[A];dsimp only;show(match inpOf (F f)with|true=>_|false=>_)=_
 rw[B];dsimp only;rw[hi,ha,C,hb];show(match mergeK ids K K1 with|some K'=>zs (PR.val (renL (backN ids K.os.length) vs) K')|none=>zn)=_
 rw[hm,hv]
def rtQ(e:Option PO):Bool:=match e with|some (.row _ _ _)=>zt|_=>zf
theorem rtQ_eq{os:List PO}{id:Nat}:CD os id=rtQ os[id]?:=rfl
theorem rtQ_row{k sz:Nat}{es:List AV}:rtQ (zs (.row k es sz))=zt:=rfl
end
noncomputable section
def wS(T:Nat->Option (List AV->Option (List AV)))(f:Nat)(g:List AV->Option (List AV))(k:Nat):Option (List AV->Option (List AV)):=bif Nat.beq k f then zs g else T k
theorem Bt{E:Env}{T:Nat->Option (List AV->Option (List AV))}{F:Nat->Option PFn}{f:Nat}{g:List AV->Option (List AV)}(A:PEok ⟨E,T,F⟩)(h:TC E f g):PEok ⟨E,wS T f g,F⟩:=by
 refine⟨A.gl,A.ti,fun k q e=>?_,A.fn⟩;have e:(bif Nat.beq k f then zs g else T k)=zs q:=e;cases hb:Nat.beq k f with
 |true=>rw[hb]at e;cases e;rw[zqp hb];exact h
 |false=>rw[hb]at e;exact A.T k q e
def wW(q:AV->AV->Bool):List AV->List AV->Bool
 |[],[]=>zt
 |a::l,b::m=>q a b&&wW q l m
 |_,_=>zf
def zV:Nat->AV->AV->Bool
 |0,_,_=>zf
 | n+1,a,b=>match a,b with
  |.int k x,.int j y=>decide (k=j/\x=y)
  |.bool x,.bool y=>decide (x=y)
  |.str x,.str y=>decide (x=y)
  |.agg x,.agg y=>wW (zV n) x y
  |.tup x,.tup y=>wW (zV n) x y
  |.fsl x f,.fsl y g=>wW (zV n) x y&&decide (f=g)
  |.ptr x y z,.ptr u v w=>decide (x=u/\y=v/\z=w)
  |.msl x y z t,.msl u v w s=>decide (x=u/\y=v/\z=w/\t=s)
  |.nilsl,.nilsl=>zt
  |.nilptr,.nilptr=>zt
  |_,_=>zf
theorem Ka{q:AV->AV->Bool}(h:∀a b,q a b=zt->a=b):∀{l m:List AV},wW q l m=zt->l=m
 |[],[],_=>rfl
 |[],_::_,e=>by cases e
 |_::_,[],e=>by cases e
 |a::l,b::m,e=>by
  have e:(q a b&&wW q l m)=zt:=e;rw[zqm]at e;rw[h _ _ e.1,Ka h e.2]
theorem Ob:∀(n:Nat)(a b:AV),zV n a b=zt->a=b
 |0,_,_,e=>by cases e
 |n + 1,a,b,e=>by
  unfold zV at e;split at e
  . obtain⟨rfl,rfl⟩:=of_decide_eq_true e;rfl
  . rw[of_decide_eq_true e]
  . rw[of_decide_eq_true e]
  . rw[Ka (Ob n) e]
  . rw[Ka (Ob n) e]
  . rw[zqm]at e
    rw[Ka (Ob n) e.1,of_decide_eq_true e.2]
  . obtain⟨rfl,rfl,rfl⟩:=of_decide_eq_true e;rfl
  . obtain⟨rfl,rfl,rfl,rfl⟩:=of_decide_eq_true e;rfl
  . rfl
  . rfl
  . cases e
def CQ:List PO->List PO->Bool
 |[],[]=>zt
 |.row k es z::l,.row j fs y::m=>decide (k=j/\z=y)&&wW (zV 12) es fs&&CQ l m
 |_,_=>zf
theorem kW:∀{l m:List PO},CQ l m=zt->l=m
 |[],[],_=>rfl
 |[],_::_,e=>by cases e
 |.row k es z::l,m,e=>by
  cases m with
  |nil=>cases e
  |cons b m=>
   cases b<;>first|(cases e;done)|skip
   rename_i j fs y;have e:(decide (k=j/\z=y)&&wW (zV 12) es fs&&CQ l m)=zt:=e;rw[zqm,zqm]at e;obtain⟨⟨e1,e2⟩,A⟩:=e;obtain⟨rfl,rfl⟩:=of_decide_eq_true e1;rw[Ka (Ob 12) e2,kW A]
 |.mapo _::_,_,e=>by unfold CQ at e;cases e
 |.sub _ _ _::_,_,e=>by unfold CQ at e;cases e
 | .dead::_,_,e=>by unfold CQ at e;cases e
def PD(os:List PO)(c:AV):AV:=match c with
 |.msl id _ _ _=>(match os[id]? with|some (.row 0 es sz)=>ownd 0 sz es|_=>c)
 |_=>c
def CS(os:List PO)(v:AV):AV:=O6 v (v.cells.map (PD os))
def PG(vs rs:List AV)(os:List PO):Bool:=
 decide (E1 vs).Nodup&&wW (zV 12) (renL (posOf (E1 vs)) vs) (openTs 0 rs).1&&CQ ((E1 vs).map fun id=>renPO (posOf (E1 vs)) (entryAt os id)) (openTs 0 rs).2
theorem qY(c:AV)(os o:List PO):Y4 c (PD os c) o=(c,o):=by
 cases c<;>rfl
theorem Vh:∀(cs:List AV)(os o:List PO),J9 cs (cs.map (PD os)) o=(cs,o)
 |[],_,_=>rfl
 |c::cs,os,o=>by
  rw[zqg];unfold J9;rw[qY,Vh cs os o]
theorem qZ(v:AV)(os o:List PO):Y5 v (CS os v) o=(v,o):=by
 have h:(CS os v).cells=v.cells.map (PD os):=by
  unfold CS;cases v<;>first|rfl|skip
  unfold AV.cells PD;dsimp only[List.map];split<;>rfl
 unfold Y5;rw[h,Vh];cases v<;>rfl
theorem Yl:∀(vs:List AV)(os o:List PO),I4 vs (vs.map (CS os)) o=(vs,o)
 |[],_,_=>rfl
 |v::vs,os,o=>by
  rw[zqg];unfold I4;rw[qZ,Yl vs os o]
def gG(P:PE)(n f:Nat)(args:List AV):Option (List AV):=match evF P n (.body f args K0)with
 |some (.val vs K1)=>if PG vs (vs.map (CS K1.os)) K1.os=zt then zs (vs.map (CS K1.os))else zn
 |_=>zn
theorem Ym{P:PE}(A:PEok P)(n f:Nat):TC P.E f (gG P n f):=CI A fun args rs hg=>by
 unfold gG at hg;split at hg
 . rename_i vs K1 e
   split at hg
   . rename_i h
     cases hg;have h2:=h;unfold PG at h2;rw[zqm,zqm]at h2;obtain⟨⟨B,C⟩,D⟩:=h2;have hc:=Yl vs K1.os K1.os;exact⟨_,_,kB e,⟨by rw[hc];exact of_decide_eq_true B,by rw[hc];exact Ka (Ob 12) C,by rw[hc];exact kW D⟩⟩
   . cases hg
 . cases hg
def rbK(vs rs:List AV)(os:List PO):Bool:=
 decide (E1 (I4 vs rs os).1).Nodup&&wW (zV 12) (renL (posOf (E1 (I4 vs rs os).1)) (I4 vs rs os).1) (openTs 0 rs).1&&CQ ((E1 (I4 vs rs os).1).map fun id=>renPO (posOf (E1 (I4 vs rs os).1)) (entryAt (I4 vs rs os).2 id)) (openTs 0 rs).2
theorem GW{vs rs:List AV}{os:List PO}(h:rbK vs rs os=zt):backOk vs rs os:=by
 unfold rbK at h;rw[zqm,zqm]at h;obtain⟨⟨A,B⟩,C⟩:=h;exact⟨of_decide_eq_true A,Ka (Ob 12) B,kW C⟩
def lastA(a:AV):AV:=match a with | .fsl [] zt=>.fsl [] zf|y=>y
def PH(P:PE)(n f:Nat)(args rs:List AV)(a:AV):Bool:=match evF P n (.body f (a::args) K0)with
 |some (.val vs K1)=>rbK vs rs K1.os
 |_=>zf
def HS(P:PE)(n f:Nat)(l:List AV):Option (List AV):=match l with
 |[]=>zn
 | a::args=>match evF P n (.body f (lastA a::args) K0)with
  |some (.val vs K1)=>if(refine1 a).all (PH P n f args (vs.map (CS K1.os)))=zt then zs (vs.map (CS K1.os))else zn
  |_=>zn
theorem cC{P:PE}(A:PEok P)(n f:Nat):TC P.E f (HS P n f):=wK A (fun a args rs hg B ha=>by
 unfold HS at hg;dsimp only at hg;split at hg
 . rename_i vs K1 e
   split at hg
   . rename_i h
     cases hg;have h:=zqf.1 h B ha;unfold PH at h;split at h
     . rename_i vs' K1' C
       exact⟨_,_,kB C,GW h⟩
     . cases h
   . cases hg
 . cases hg) rfl
theorem kX{P:PE}{n f:Nat}(e:evF P n (.body f [] K0)=zs (.val [.bool zt] ⟨[],0,[]⟩)):Comes P f [] [.bool zt]:=⟨_,_,kB e,back_of rfl List.nodup_nil rfl rfl rfl⟩
end
open Go.ChangeShapes Go.WideShapes Go.ChangeAt
section
variable {H:Type}{enc:TypeId×Value->H}{P:Program}{W:World}{base:Nat}{spare:Nat->Bool}{held:Bool}
def GX(P:Program):Nat->List Field->Prop
 |_,[]=>True
 |o,f::fs=>f.offset=o/\GX P (o+P.cellsOf f.type) fs
theorem nR{see:TypeId->DataW H->Option (List AV)}:∀(fs:List Field)(ds:List (DataW H))(A:List (List AV))(o:Nat),ds.length=fs.length->A.length=fs.length ->
 (∀(i:Nat) f d s,fs[i]?=zs f->ds[i]?=zs d->A[i]?=zs s->see f.type d=zs s/\s.length=P.cellsOf f.type)->GX P o fs->cG P see o fs ds=zs A.flatten
 |[],ds,A,o,h1,h2,h3,h4=>by
  have:ds=[]:=zqh h1
  have:A=[]:=zqh h2
  subst_vars;rfl
 |f :: fs,ds,A,o,h1,h2,h3,h4=>by
  cases ds with
  |nil=>cases h1
  |cons d ds=>
   cases A with
   |nil=>cases h2
   |cons s A=>
    obtain⟨C,D⟩:=h3 0 f d s rfl rfl rfl;have B:=nR fs ds A (o+P.cellsOf f.type) (by simpa using h1) (by simpa using h2) (fun i f d s a b c=>h3 (i+1) f d s (by simpa using a) (by simpa using b) (by simpa using c)) h4.2;show(bif Nat.beq f.offset o then A4 (see f.type d) fun a=>bif Nat.beq (lenL a) (P.cellsOf f.type)then A4 (cG P see (Nat.add o (P.cellsOf f.type)) fs ds) fun r=>zs (appL a r)else zn else zn)=_
    rw[h4.1,zqn,C];show(bif Nat.beq (lenL s) (P.cellsOf f.type)then A4 (cG P see (o+P.cellsOf f.type) fs ds) fun r=>zs (appL s r)else zn)=_
    rw[A3,D,zqn,B];show zs (appL s A.flatten)=_
    rw[L7];rfl
theorem Q5:∀(ts:List TypeId)(ds:List (DataW H))(i:Nat) t d w,ts[i]?=zs t->ds[i]?=zs d->w∈d.weights P t->w∈DataW.weightsEach P ts ds
 |[],ds,i,t,d,w,h1,_,_=>by simp at h1
 |t0::ts,[],i,t,d,w,_,h2,_=>by simp at h2
 |t0::ts,d0::ds,0,t,d,w,h1,h2,h3=>by
  cases h1;cases h2;unfold DataW.weightsEach;exact zqi _ h3
 |t0::ts,d0::ds,i+1,t,d,w,h1,h2,h3=>by
  unfold DataW.weightsEach;exact zqj _ (Q5 ts ds i t d w (by simpa using h1) (by simpa using h2) h3)
theorem Gz:∀(ds:List (DataW H))(e:TypeId)(i:Nat) d w,ds[i]?=zs d->w∈d.weights P e->w∈DataW.weightsAll P e ds
 |[],e,i,d,w,h,_=>by simp at h
 |d0::ds,e,0,d,w,h,hw=>by
  cases h;unfold DataW.weightsAll;exact zqi _ hw
 |d0::ds,e,i+1,d,w,h,hw=>by
  unfold DataW.weightsAll;exact zqj _ (Gz ds e i d w (by simpa using h) hw)
def Wt(P:Program)(t:TypeId)(d:DataW H):Prop:=∀w∈d.weights P t,w<=reachBytes
theorem gU{t:TypeId}{fs:Array Field}(N:P.underlying t=zs (.struct fs)){n:Nat}{cs:List Value}{d:DataW H}{ps:List MemPlace}(h:DataW.trod enc P W base spare held n t cs=zs (d,ps))(O:Wt P t d):
 ∃ds,d=.agg ds/\ds.length=fs.toList.length/\∀(i:Nat) f,fs.toList[i]?=zs f->∃D n' G I,ds[i]?=zs D/\DataW.trod enc P W base spare held n' f.type G=zs (D,I)/\Wt P f.type D:=by
 obtain⟨xs,n',rfl,e,hcl,C,Q⟩:=DataW.trod_struct N h;cases e;refine⟨xs.map (·.1),rfl,by simpa using C,fun i f hf=>?_⟩;have B:fs[i]?=zs f:=by simpa using hf
 have hi:i<xs.length:=by rw[C];exact(Array.getElem?_eq_some_iff.1 B).1
 have A:xs[i]?=zs xs[i]:=zqd hi;have h1:=Q i f B;rw[A]at h1;refine⟨xs[i].1,n',_,xs[i].2,by rw[zqb,A];rfl,h1,fun w J=>O w ?_⟩;unfold DataW.weights;rw[N];exact Q5 _ _ i _ _ w (by rw[zqb,hf];rfl) (by rw[zqb,A];rfl) J
def Wf{α:Type}(P:Program)(e:TypeId)(Q:List AV->α->Prop)(v:AV)(l:List α):Prop:=
 ((v=.nilsl/\l=[])\/∃rs:List (List AV),v=.fsl (rs.map (seeV P e)) zf/\rs.length=l.length/\∀(i:Nat) r X,rs[i]?=zs r->l[i]?=zs X->Q r X)/\l.length*P.bytesOf e<=reachBytes
theorem nS{α:Type}{see:DataW H->Option (List AV)}{Q:List AV->α->Prop}:∀(ds:List (DataW H)),(∀(i:Nat) d,ds[i]?=zs d->∃A X,see d=zs A/\Q A X)->∃(rs:List (List AV))(l:List α),gY see ds=zs rs/\rs.length=ds.length/\l.length=ds.length/\∀(i:Nat) r X,rs[i]?=zs r->l[i]?=zs X->Q r X
 |[],_=>⟨[],[],rfl,rfl,rfl,fun i r X h=>by simp at h⟩
 |d :: ds,h=>by
  obtain⟨A,X,h1,h2⟩:=h 0 d rfl;obtain⟨rs,l,G,I,J,N⟩:=nS ds fun i d D=>h (i+1) d (by simpa using D)
  refine⟨A::rs,X::l,?_,by simp[I],by simp[J],fun i r Y B C=>?_⟩
  . show A4 (see d) (fun a=>A4 (gY see ds) fun r=>zs (a::r))=_
    rw[h1,G];rfl
  . cases i with
    |zero=>cases B;cases C;exact h2
    |succ i=>exact N i r Y (by simpa using B) (by simpa using C)
theorem Ar{α:Type}{Q:List AV->α->Prop}{t e:TypeId}{m:Nat}(C:P.underlying t=zs (.slice e))(h0:0<P.cellsOf e)
 (hel:∀n cs (d:DataW H) ps,DataW.trod enc P W base spare held n e cs=zs (d,ps)->Wt P e d->∃A X,V2 P m e d=zs A/\(A.length=P.cellsOf e/\(Au P e=zt\/A.length=1))/\Q A X)
 {n:Nat}{cs:List Value}{d:DataW H}{ps:List MemPlace}(h:DataW.trod enc P W base spare held n t cs=zs (d,ps))(hw:Wt P t d):∃v l,V2 P (m+1) t d=zs [v]/\Wf P e Q v l:=by
 rcases DataW.trod_slice C h with⟨rfl,e1⟩|⟨a,len,cap,elems,rest,n',rfl,rfl,e1,_,hlc,_,I,J,_,_⟩
 . cases e1
   refine⟨.nilsl,[],?_,.inl ⟨rfl,rfl⟩,by simp⟩;unfold V2;rw[C]
 . cases e1
   have D:∀(i:Nat) O,(elems.map (·.1))[i]?=zs O->∃A X,V2 P m e O=zs A/\((A.length=P.cellsOf e/\(Au P e=zt\/A.length=1))/\Q A X):=fun i O hi=>by
    rw[zqb,Option.map_eq_some_iff]at hi;obtain⟨x,hx,rfl⟩:=hi;have Y:i<len:=by rw[<-I];exact(zqe.1 hx).1
    have B:=J i Y;rw[hx]at B;cases N:W.cells? base (a.add (i*P.cellsOf e)) (P.cellsOf e)with
    |none=>rw[N]at B;cases B
    |some ab=>
     rw[N]at B;refine hel n' ab x.1 x.2 B fun w U=>hw w ?_
     unfold DataW.weights;rw[C];exact List.mem_cons_of_mem _ (zqi _ (Gz _ e i x.1 w (by rw[zqb,hx];rfl) U))
   obtain⟨rs,l,h1,h2,B,h4⟩:=nS (Q:=fun A X=>(A.length=P.cellsOf e/\(Au P e=zt\/A.length=1))/\Q A X) _ D;refine⟨.fsl (rs.map (seeV P e)) zf,l,?_,.inr ⟨rs,rfl,by rw[h2,B],fun i r X V hX=>(h4 i r X V hX).2⟩,?_⟩
   . unfold V2
     rw[C];dsimp only;rw[show Nat.blt 0 (P.cellsOf e)=zt from zqo h0,h1];show(bif (rs.all fun r=>Nat.beq (lenL r) (P.cellsOf e)&&(Au P e||Nat.beq (lenL r) 1))then zs [AV.fsl (rs.map (seeV P e)) zf]else zn)=_
     have:(rs.all fun r=>Nat.beq (lenL r) (P.cellsOf e)&&(Au P e||Nat.beq (lenL r) 1))=zt:=by
      rw[zqf];intro r V;obtain⟨i,hi⟩:=zqk V;have aa:i<l.length:=by rw[B,<-h2];exact(zqe.1 hi).1
      obtain⟨⟨q1,G⟩,_⟩:=h4 i r _ hi (zqd aa);rw[A3,q1,zqn];rcases G with G|G
      . rw[G];rfl
      . rw[<-q1,G];simp
     rw[this];rfl
   . rw [B,zql]
     have:=hw ((elems.length+rest.length)*P.bytesOf e) (by
      unfold DataW.weights;rw[C];simp)
     exact Nat.le_trans (Nat.mul_le_mul_right _ (Nat.le_add_right _ _)) this
theorem Wf.mem{α:Type}{e:TypeId}{Q:List AV->α->Prop}{v:AV}{l:List α}(B:Wf P e Q v l){X:α}(hX:X∈l):∃r,Q r X:=by
 rcases B.1 with⟨rfl,rfl⟩|⟨rs,rfl,hl,C⟩
 . cases hX
 . obtain⟨i,hi⟩:=zqk hX
   have A:i<rs.length:=by rw[hl];exact(zqe.1 hi).1
   exact⟨_,C i _ X (zqd A) hi⟩
def Mr(P:Program):Nat->List (Nat×Nat)->Prop
 |_,[]=>True
 |o,f::fs=>f.2=o/\Mr P (o+P.cellsOf f.1) fs
theorem gV:∀(fs:List Field)(o:Nat),Mr P o (fs.map fun f=>(f.type,f.offset))->GX P o fs
 |[],_,_=>trivial
 |f::fs,o,h=>⟨h.1,gV fs _ h.2⟩
theorem gW:∀(A:List (List AV))(L:List (Nat×Nat)),A.length=L.length->(∀(i:Nat) s f,A[i]?=zs s->L[i]?=zs f->s.length=P.cellsOf f.1)->A.flatten.length=(L.map fun f=>P.cellsOf f.1).sum
 |[],[],_,_=>rfl
 |[],_::_,h,_=>by cases h
 |_::_,[],h,_=>by cases h
 |s::A,f::L,h,hc=>by
  rw[List.flatten_cons,List.length_append,zqg,List.sum_cons,hc 0 s f rfl rfl,gW A L (by simpa using h) fun i s f a b=>hc (i+1) s f (by simpa using a) (by simpa using b)]
theorem Yn{Qs:Nat->List AV->Prop}:∀(n:Nat),(∀i,i<n->∃s,Qs i s)->∃B:List (List AV),B.length=n/\∀(i:Nat) s,B[i]?=zs s->Qs i s
 |0,_=>⟨[],rfl,fun i s h=>by simp at h⟩
 |n + 1,h=>by
  obtain⟨B,h1,h2⟩:=Yn n fun i hi=>h i (by omega)
  obtain⟨s,D⟩:=h n (by omega);refine⟨B++[s],by simp[h1],fun i t A=>?_⟩;rw[List.getElem?_append]at A;split at A
  . exact h2 i t A
  . rename_i hi
    cases C:i-B.length with
    |zero=>
     rw[C]at A;cases A
     have:i=n:=by omega
     subst this;exact D
    |succ k=>rw[C]at A;simp at A
theorem m5{t:TypeId}{fs:Array Field}{L:List (Nat×Nat)}{m:Nat}{Qs:Nat->List AV->Prop}(V:P.underlying t=zs (.struct fs))(J:fs.toList.map (fun f=>(f.type,f.offset))=L)(C:Mr P 0 L)(hc:P.cellsOf t=(L.map fun f=>P.cellsOf f.1).sum)
 (hF:∀(i ty off:Nat),L[i]?=zs (ty,off)->∀n cs (d:DataW H) ps,DataW.trod enc P W base spare held n ty cs=zs (d,ps)->Wt P ty d->∃s,V2 P m ty d=zs s/\s.length=P.cellsOf ty/\Qs i s)
 {n:Nat}{cs:List Value}{d:DataW H}{ps:List MemPlace}(h:DataW.trod enc P W base spare held n t cs=zs (d,ps))(hw:Wt P t d):
 ∃A:List (List AV),V2 P (m+1) t d=zs A.flatten/\A.flatten.length=P.cellsOf t/\A.length=L.length/\∀(i:Nat) s,A[i]?=zs s->Qs i s:=by
 obtain⟨ds,rfl,hl,X⟩:=gU V h hw;have hLl:L.length=fs.toList.length:=by rw[<-J,zql]
 obtain ⟨A,h1,h2⟩:=Yn (Qs:=fun i s=>(∀N ty off,ds[i]?=zs N->L[i]?=zs (ty,off)->V2 P m ty N=zs s/\s.length=P.cellsOf ty)/\Qs i s) L.length (fun i hi=>by
  obtain⟨f,hf⟩:∃f,fs.toList[i]?=zs f:=⟨_,zqd (by omega)⟩
  have G:L[i]?=zs (f.type,f.offset):=by rw[<-J,zqb,hf];rfl
  obtain⟨N,n',Q,U,Y,k2,k3⟩:=X i f hf;obtain⟨s,k4,k5,k6⟩:=hF i _ _ G n' Q N U k2 k3;refine⟨s,fun di' ty off a b=>?_,k6⟩;rw[Y]at a;cases a;rw[G]at b;cases b;exact⟨k4,k5⟩)
 have I:∀(i:Nat) f d s,fs.toList[i]?=zs f->ds[i]?=zs d->A[i]?=zs s->V2 P m f.type d=zs s/\s.length=P.cellsOf f.type:=fun i f d s hf O D =>
  (h2 i s D).1 d f.type f.offset O (by rw[<-J,zqb,hf];rfl)
 have B:A.flatten.length=P.cellsOf t:=by
  rw[hc];refine gW A L h1 fun i s f D hf=>?_
  obtain⟨d,O⟩:∃d,ds[i]?=zs d:=⟨_,zqd (by have:=(zqe.1 hf).1;omega)⟩
  exact((h2 i s D).1 d f.1 f.2 O hf).2
 refine⟨A,?_,B,h1,fun i s D=>(h2 i s D).2⟩;unfold V2;rw[V];show A4 (cG P (V2 P m) 0 fs.toList ds) (fun r=>bif Nat.beq (lenL r) (P.cellsOf t)then zs r else zn)=_
 rw[nR fs.toList ds A 0 hl (by omega) I (gV _ 0 (by rw[J];exact C))];show(bif Nat.beq (lenL A.flatten) (P.cellsOf t)then zs A.flatten else zn)=_
 rw[A3,B,zqn];rfl
theorem Wf.fz{α:Type}{e:TypeId}{Q:List AV->α->Prop}{F:α->AV}{v:AV}{l:List α}(A:Wf P e Q v l){Z:Nat->Prop}{h:Heap}(B:∀r X,Q r X->Fz Z h (seeV P e r) (F X)):Fz Z h v (fslN (l.map F)):=by
 rcases A.1 with⟨rfl,rfl⟩|⟨rs,rfl,hl,D⟩
 . exact .emp .nil
 . cases l with
   |nil=>
    have:rs=[]:=zqh hl
    subst this;exact .emp .fsl
   |cons a l=>
    refine .fsl (by simp[hl]) (fun i x y h1 h2=>?_) rfl;rw[zqb,Option.map_eq_some_iff]at h1 h2;obtain⟨r,C,rfl⟩:=h1;obtain⟨X,hX,rfl⟩:=h2;exact B r X (D i r X C hX)
end
end Go.AM
