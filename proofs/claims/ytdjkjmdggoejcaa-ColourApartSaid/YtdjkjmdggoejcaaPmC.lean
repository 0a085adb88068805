/- The tree machine: code as trees, memory by kept numbers, and that it says what the machine does. Conditions: none. -/
import Derived.Test.YtdjkjmdggoejcaaPmB
set_option linter.unusedVariables false
set_option linter.unusedSimpArgs false
set_option linter.unusedSectionVars false
set_option linter.defProp false
set_option maxHeartbeats 4000000
open List renaming length→lz
open Option renaming some→zs,none→zn
open Bool renaming true→zt,false→zf
open List renaming replicate→zqa,getElem?_map→zqb,range→zqc,getElem?_eq_getElem→zqd,getElem?_eq_some_iff→zqe,all_eq_true→zqf,map_cons→zqg,eq_nil_of_length_eq_zero→zqh,mem_append_left→zqi,mem_append_right→zqj,getElem?_of_mem→zqk,length_map→zql
open Bool renaming and_eq_true→zqm
open Nat renaming beq_refl→zqn,ble_eq_true_of_le→zqo,eq_of_beq_eq_true→zqp
namespace Go.AM
noncomputable section
variable {E:Env}{T:Nat->Option (List AV->Option (List AV))}{F:Nat->Option PFn}{fr:PF}{K K':PK}{v:AV}{vs:List AV}
def wB(P:PE)(b:PC)(r:Option PR):Option PR:=match r with
 |some (.ok .normal fr K)=>evP P (.code b fr K)
 |some (.val _ _)=>zn
 |some (.itr _ _ _ _)=>zn
 |r=>r
theorem pw(P:PE)(b:PC):wB P b (zs (.ok .normal fr K))=evP P (.code b fr K):=rfl
theorem rj(P:PE)(b:PC)(i:Nat):wB P b (zs (.ok (.exit i) fr K))=zs (.ok (.exit i) fr K):=rfl
theorem tf(P:PE)(b:PC):wB P b (zs (.ok .ret fr K))=zs (.ok .ret fr K):=rfl
theorem f0p(P:PE)(a b:PC):evP P (.code (.seq a b) fr K)=wB P b (evP P (.code a fr K)):=by
 rw[evP,evG];cases evP P (.code a fr K)with
 |none=>rfl
 | some r=>cases r with
  |ok e fr K=>cases e<;>rfl
  |_=>rfl
theorem c0o(P:PE):evP P (.code .skip fr K)=zs (.ok .normal fr K):=by rw[evP,evG]
theorem c0p(P:PE)(i:Nat):evP P (.code (.exit i) fr K)=zs (.ok (.exit i) fr K):=by rw[evP,evG]
theorem f0q(P:PE):evP P (.code .ret fr K)=zs (.ok .ret fr K):=by rw[evP,evG]
theorem f0r(P:PE)(l:List XOp):evP P (.code (.reg zf l) fr K)=evP P (.ops l fr K):=by rw[evP,evG]
theorem c0q(P:PE)(l:List XOp):evP P (.code (.reg zt l) fr K)=evP P (.opsD l fr K):=by rw[evP,evG]
theorem f0s(P:PE)(k:List Nat)(c:PC):evP P (.code (.pre k c) fr K)=evP P (.code c (M4 k fr K).1 (M4 k fr K).2):=by rw[evP,evG]
def wC(P:PE)(a b:PC)(x:AV)(fr:PF)(K:PK):Option PR:=match x with | .bool zt=>evP P (.code a fr K) | .bool zf=>evP P (.code b fr K)|_=>zn
theorem c0r(P:PE)(c:Operand)(a b:PC):evP P (.code (.cond c a b) fr K)=wC P a b (dj P.E c fr) fr K:=by rw[evP,evG];rfl
theorem qj(P:PE)(a b:PC):wC P a b (.bool zt) fr K=evP P (.code a fr K):=rfl
theorem px(P:PE)(a b:PC):wC P a b (.bool zf) fr K=evP P (.code b fr K):=rfl
def zF(i:Nat)(r:Option PR):Option PR:=match r with
 |some (.ok (.exit j) fr K)=>if j=i then zs (.ok .normal fr K)else zs (.ok (.exit j) fr K)
 |some (.val _ _)=>zn
 |some (.itr _ _ _ _)=>zn
 |r=>r
theorem py(i:Nat):zF i (zs (.ok .normal fr K))=zs (.ok .normal fr K):=rfl
theorem rk(i j:Nat):zF i (zs (.ok (.exit j) fr K))=if j=i then zs (.ok .normal fr K)else zs (.ok (.exit j) fr K):=rfl
theorem tg(i:Nat):zF i (zs (.ok .ret fr K))=zs (.ok .ret fr K):=rfl
theorem yh(P:PE)(i:Nat)(c:PC):evP P (.code (.block i c) fr K)=zF i (evP P (.code c fr K)):=by
 rw[evP,evG];cases evP P (.code c fr K)with
 |none=>rfl
 | some r=>cases r with
  |ok e fr K=>cases e<;>rfl
  |_=>rfl
def nN(k:List Nat)(r:Option PR):Option PR:=match r with
 |some (.ok .normal fr K)=>zs (.ok .normal (M4 k fr K).1 (M4 k fr K).2)
 |some (.val _ _)=>zn
 |some (.itr _ _ _ _)=>zn
 |some (.pan v K)=>zs (.pan (FR (M4 [0] [(0,v)] K).1 0) (M4 [0] [(0,v)] K).2)
 |r=>r
theorem pf(k:List Nat):nN k (zs (.ok .normal fr K))=zs (.ok .normal (M4 k fr K).1 (M4 k fr K).2):=rfl
theorem qk(k:List Nat)(i:Nat):nN k (zs (.ok (.exit i) fr K))=zs (.ok (.exit i) fr K):=rfl
theorem rp(k:List Nat):nN k (zs (.ok .ret fr K))=zs (.ok .ret fr K):=rfl
theorem c0s(P:PE)(k:List Nat)(c:PC):evP P (.code (.post k c) fr K)=nN k (evP P (.code c fr K)):=by
 rw[evP,evG];cases evP P (.code c fr K)with
 |none=>rfl
 | some r=>cases r with
  |ok e fr K=>cases e<;>rfl
  |_=>rfl
theorem lO(P:PE)(c:PC):evP P (.code (.loop c) fr K)=wB P (.loop c) (evP P (.code c fr K)):=by
 rw[evP,evG];cases evP P (.code c fr K)with
 |none=>rfl
 | some r=>cases r with
  |ok e fr K=>cases e<;>rfl
  |_=>rfl
theorem B0{P:PE}{c:PC}{fr':PF}{K':PK}(h:evP P (.code c fr K)=zs (.ok .normal fr' K')):evP P (.code (.loop c) fr K)=evP P (.code (.loop c) fr' K'):=by rw[lO,h];rfl
theorem B4{P:PE}{c:PC}{i:Nat}{fr':PF}{K':PK}(h:evP P (.code c fr K)=zs (.ok (.exit i) fr' K')):evP P (.code (.loop c) fr K)=zs (.ok (.exit i) fr' K'):=by rw[lO,h];rfl
theorem Cg{P:PE}{c:PC}{fr':PF}{K':PK}(h:evP P (.code c fr K)=zs (.ok .ret fr' K')):evP P (.code (.loop c) fr K)=zs (.ok .ret fr' K'):=by rw[lO,h];rfl
def nO(P:PE)(d:Option Tmp)(l:List XOp)(fr:PF)(r:Option PR):Option PR:=match r with
 |some (.val vs K)=>evP P (.ops l (ia d (cj vs) fr) K)
 |some (.pan v K)=>zs (.pan v K)
 |_=>zn
def MW(P:PE)(d:Option Tmp)(l:List XOp)(fr:PF)(K:PK)(o:OpS):Option PR:=match o with
 |.val v K=>evP P (.ops l (ia d v fr) K)
 |.call f args=>nO P d l fr (evP P (.call f args K))
 |.pan v=>zs (.pan v K)
 | .bad=>zn
theorem rq(P:PE)(d:Option Tmp)(l:List XOp):nO P d l fr (zs (.val vs K))=evP P (.ops l (ia d (cj vs) fr) K):=rfl
theorem yi(P:PE)(d:Option Tmp)(l:List XOp):MW P d l fr K (.val v K')=evP P (.ops l (ia d v fr) K'):=rfl
theorem tj(P:PE)(d:Option Tmp)(l:List XOp)(f:Nat)(args:List AV):MW P d l fr K (.call f args)=nO P d l fr (evP P (.call f args K)):=rfl
theorem f0t(P:PE):evP P (.ops [] fr K)=zs (.ok .normal fr K):=by rw[evP,evG]
theorem lP(P:PE)(o:XOp)(l:List XOp){b:Bool}(hg:ge o.gd fr=zs b):evP P (.ops (o::l) fr K)=bif b then MW P o.dst l fr K (gx P.E o.op fr K)else evP P (.ops l (ia o.dst Yw fr) K):=by
 rw[evP,evG,hg];cases b with
 |false=>rfl
 |true=>
  dsimp only[cond_true];cases gx P.E o.op fr K with
  |call f args=>
   show _=nO P o.dst l fr (evP P (.call f args K))
   dsimp only;cases evP P (.call f args K)with
   |none=>rfl
   |some r=>cases r<;>rfl
  |_=>rfl
theorem h0a(d:Option Tmp)(op:Op)(q:Bool)(s:List Bool)(c:Bool)(l:List XOp):evP ⟨E,T,F⟩ (.ops (⟨d,op,zn,q,s,c⟩::l) fr K)=MW ⟨E,T,F⟩ d l fr K (gx E op fr K):=lP (fr:=fr) (K:=K) (b:=zt) ⟨E,T,F⟩ ⟨d,op,zn,q,s,c⟩ l rfl
theorem f0u{d:Option Tmp}{op:Op}{t:Tmp}{w q:Bool}{s:List Bool}{c:Bool}{l:List XOp}(hg:i7 w (FR fr t)=zs zf):evP ⟨E,T,F⟩ (.ops (⟨d,op,zs (zs t,w),q,s,c⟩::l) fr K)=evP ⟨E,T,F⟩ (.ops l (ia d Yw fr) K):=lP (fr:=fr) (K:=K) (b:=zf) ⟨E,T,F⟩ ⟨d,op,zs (zs t,w),q,s,c⟩ l hg
theorem f0v{d:Option Tmp}{op:Op}{t:Tmp}{w q:Bool}{s:List Bool}{c:Bool}{l:List XOp}(hg:i7 w (FR fr t)=zs zt):evP ⟨E,T,F⟩ (.ops (⟨d,op,zs (zs t,w),q,s,c⟩::l) fr K)=MW ⟨E,T,F⟩ d l fr K (gx E op fr K):=lP (fr:=fr) (K:=K) (b:=zt) ⟨E,T,F⟩ ⟨d,op,zs (zs t,w),q,s,c⟩ l hg
def Dp(P:PE)(d:Option Tmp)(s:List Bool)(l:List XOp)(fr:PF)(K:PK)(r:Option PR):Option PR:=match r with
 |some (.val vs K)=>evP P (.opsD l (ia d (cj vs) fr) K)
 |some (.pan v K1)=>if Gk P.E l s (ia d Yw fr) K=zt then zs (.pan v K1)else zn
 |_=>zn
def MX(P:PE)(d:Option Tmp)(s:List Bool)(l:List XOp)(fr:PF)(K:PK)(o:OpS):Option PR:=match o with
 |.val v K=>evP P (.opsD l (ia d v fr) K)
 |.call f args=>Dp P d s l fr K (evP P (.call f args K))
 |.pan v=>if Gk P.E l s (ia d Yw fr) K=zt then zs (.pan v K)else zn
 | .bad=>zn
def nP(P:PE)(d:Option Tmp)(s:List Bool)(l:List XOp)(fr:PF)(K:PK)(r:Option PR):Option PR:=match r with
 |some (.pan v K1)=>if Gk P.E l s (ia d Yw fr) K=zt then zs (.pan v {K1 with tch:=K1.tch++K.tch})else zn
 |some (.val vs K1)=>if Ca (lz K.os) l K1=zt then evP P (.opsD l (ia d (cj vs) fr) {K1 with tch:=K1.tch++K.tch})else evP P (.opsS [⟨K.os,0,K1.tch⟩] l (ia d (cj vs) fr) {K1 with tch:=K1.tch++K.tch})
 |_=>zn
def MY(P:PE)(d:Option Tmp)(s:List Bool)(l:List XOp)(fr:PF)(K:PK)(o:OpS):Option PR:=match o with
 |.val v K1=>if Ca (lz K.os) l K1=zt then evP P (.opsD l (ia d v fr) {K1 with tch:=K1.tch++K.tch})else evP P (.opsS [⟨K.os,0,K1.tch⟩] l (ia d v fr) {K1 with tch:=K1.tch++K.tch})
 |.call f args=>nP P d s l fr K (evP P (.call f args {K with tch:=[]}))
 |_=>zn
theorem rx(P:PE)(d:Option Tmp)(s:List Bool)(l:List XOp):Dp P d s l fr K' (zs (.val vs K))=evP P (.opsD l (ia d (cj vs) fr) K):=rfl
theorem yj(P:PE)(d:Option Tmp)(s:List Bool)(l:List XOp):MX P d s l fr K (.val v K')=evP P (.opsD l (ia d v fr) K'):=rfl
theorem tn(P:PE)(d:Option Tmp)(s:List Bool)(l:List XOp)(f:Nat)(args:List AV):MX P d s l fr K (.call f args)=Dp P d s l fr K (evP P (.call f args K)):=rfl
theorem ry(P:PE)(d:Option Tmp)(s:List Bool)(l:List XOp)(B:Ca (lz K.os) l K'=zt):nP P d s l fr K (zs (.val vs K'))=evP P (.opsD l (ia d (cj vs) fr) {K' with tch:=K'.tch++K.tch}):=if_pos B
theorem yk(P:PE)(d:Option Tmp)(s:List Bool)(l:List XOp)(h:Ca (lz K.os) l K'=zf):MY P d s l fr K (.val v K')=evP P (.opsS [⟨K.os,0,K'.tch⟩] l (ia d v fr) {K' with tch:=K'.tch++K.tch}):=if_neg (by grind)
def CQ(P:PE)(S:List PK)(d:Option Tmp)(l:List XOp)(fr:PF)(r:Option PR):Option PR:=match r with
 |some (.val vs K)=>evP P (.opsS S l (ia d (cj vs) fr) K)
 |_=>zn
def PI(P:PE)(S:List PK)(d:Option Tmp)(l:List XOp)(fr:PF)(o:OpS)(K:PK):Option PR:=match o with
 |.val v K=>evP P (.opsS S l (ia d v fr) K)
 |.call f args=>CQ P S d l fr (evP P (.call f args K))
 |_=>zn
theorem ym(P:PE)(S:List PK)(d:Option Tmp)(l:List XOp):PI P S d l fr (.val v K') K=evP P (.opsS S l (ia d v fr) K'):=rfl
theorem f0w(P:PE)(S:List PK):evP P (.opsS S [] fr K)=zs (.ok .normal fr K):=by rw[evP,evG]
theorem CS(S:List PK)(d:Option Tmp)(op:Op)(s:List Bool)(l:List XOp){c:Bool}(h:cR E S K fr ⟨d,op,zn,zf,s,c⟩=zt):evP ⟨E,T,F⟩ (.opsS S (⟨d,op,zn,zf,s,c⟩::l) fr K)=PI ⟨E,T,F⟩ S d l fr (gx E op fr K) K:=by
 rw[evP,evG];show(if cR E S K fr ⟨d,op,zn,zf,s,c⟩=zt then _ else zn)=_
 rw[if_pos h];dsimp only;cases gx E op fr K with
 |call f args=>
  show _=CQ ⟨E,T,F⟩ S d l fr (evP ⟨E,T,F⟩ (.call f args K))
  dsimp only;cases evP ⟨E,T,F⟩ (.call f args K)with
  |none=>rfl
  |some r=>cases r<;>rfl
 |_=>rfl
theorem h0b(S:List PK)(d:Option Tmp)(op:Op)(s:List Bool)(l:List XOp):evP ⟨E,T,F⟩ (.opsS S (⟨d,op,zn,zf,s,zf⟩::l) fr K)=PI ⟨E,T,F⟩ S d l fr (gx E op fr K) K:=CS S d op s l (zqf.2 fun _ _=>rfl)
def dA(os:List PO)(S:List PK)(v:AV):Bool:=S.all fun s=>gJ os s v
theorem yn{os:List PO}{v:AV}:dA os [] v=zt:=rfl
theorem tp{os:List PO}{s:PK}{S:List PK}{v:AV}:dA os (s::S) v=(gJ os s v&&dA os S v):=rfl
theorem h0c(S:List PK)(d:Option Tmp)(t:Nat)(a:Operand)(s:List Bool)(l:List XOp)(h:dA K.os S (dj E a fr)=zt):evP ⟨E,T,F⟩ (.opsS S (⟨d,.load t a,zn,zf,s,zt⟩::l) fr K)=PI ⟨E,T,F⟩ S d l fr (gx E (.load t a) fr K) K:=CS S d _ s l h
theorem c0t{os:List PO}{S:PK}{id i off:Nat}:gJ os S (.ptr id i off)=(CJ S.os id&&(!S.tch.contains id&&CJ os id)):=rfl
theorem tq(P:PE)(d:Option Tmp)(s:List Bool)(l:List XOp)(f:Nat)(args:List AV):MY P d s l fr K (.call f args)=nP P d s l fr K (evP P (.call f args {K with tch:=[]})):=rfl
theorem c0u(P:PE):evP P (.opsD [] fr K)=zs (.ok .normal fr K):=by rw[evP,evG]
theorem No(P:PE)(o:XOp)(l:List XOp){b:Bool}(hg:ge o.gd fr=zs b):evP P (.opsD (o::l) fr K)=bif b then(bif o.quiet then MY P o.dst o.late l fr K (gx P.E o.op fr {K with tch:=[]})else MX P o.dst o.late l fr K (gx P.E o.op fr K))else evP P (.opsD l (ia o.dst Yw fr) K):=by
 rw[evP,evG,hg];cases b with
 |false=>rfl
 |true=>
  dsimp only[cond_true];cases o.quiet with
  |true=>
   dsimp only[cond_true,cond_false];cases gx P.E o.op fr {K with tch:=[]}with
   |call f args=>
    show _=nP P o.dst o.late l fr K (evP P (.call f args {K with tch:=[]}))
    dsimp only;cases evP P (.call f args {K with tch:=[]})with
    |none=>rfl
    |some r=>cases r<;>rfl
   |_=>rfl
  |false=>
   dsimp only[cond_true,cond_false];cases gx P.E o.op fr K with
   |call f args=>
    show _=Dp P o.dst o.late l fr K (evP P (.call f args K))
    dsimp only;cases evP P (.call f args K)with
    |none=>rfl
    |some r=>cases r<;>rfl
   |_=>rfl
theorem h0d(d:Option Tmp)(op:Op)(s:List Bool)(c:Bool)(l:List XOp):evP ⟨E,T,F⟩ (.opsD (⟨d,op,zn,zf,s,c⟩::l) fr K)=MX ⟨E,T,F⟩ d s l fr K (gx E op fr K):=No (fr:=fr) (K:=K) (b:=zt) ⟨E,T,F⟩ ⟨d,op,zn,zf,s,c⟩ l rfl
theorem f0x(d:Option Tmp)(op:Op)(s:List Bool)(c:Bool)(l:List XOp):evP ⟨E,T,F⟩ (.opsD (⟨d,op,zn,zt,s,c⟩::l) fr K)=MY ⟨E,T,F⟩ d s l fr K (gx E op fr ⟨K.os,K.ext,[]⟩):=No (fr:=fr) (K:=K) (b:=zt) ⟨E,T,F⟩ ⟨d,op,zn,zt,s,c⟩ l rfl
theorem f0y{d:Option Tmp}{op:Op}{t:Tmp}{w q:Bool}{s:List Bool}{c:Bool}{l:List XOp}(hg:i7 w (FR fr t)=zs zf):evP ⟨E,T,F⟩ (.opsD (⟨d,op,zs (zs t,w),q,s,c⟩::l) fr K)=evP ⟨E,T,F⟩ (.opsD l (ia d Yw fr) K):=No (fr:=fr) (K:=K) (b:=zf) ⟨E,T,F⟩ ⟨d,op,zs (zs t,w),q,s,c⟩ l hg
theorem f0z{d:Option Tmp}{op:Op}{t:Tmp}{w:Bool}{s:List Bool}{c:Bool}{l:List XOp}(hg:i7 w (FR fr t)=zs zt):evP ⟨E,T,F⟩ (.opsD (⟨d,op,zs (zs t,w),zf,s,c⟩::l) fr K)=MX ⟨E,T,F⟩ d s l fr K (gx E op fr K):=No (fr:=fr) (K:=K) (b:=zt) ⟨E,T,F⟩ ⟨d,op,zs (zs t,w),zf,s,c⟩ l hg
theorem c0v{d:Option Tmp}{op:Op}{t:Tmp}{w:Bool}{s:List Bool}{c:Bool}{l:List XOp}(hg:i7 w (FR fr t)=zs zt):evP ⟨E,T,F⟩ (.opsD (⟨d,op,zs (zs t,w),zt,s,c⟩::l) fr K)=MY ⟨E,T,F⟩ d s l fr K (gx E op fr ⟨K.os,K.ext,[]⟩):=No (fr:=fr) (K:=K) (b:=zt) ⟨E,T,F⟩ ⟨d,op,zs (zs t,w),zt,s,c⟩ l hg
def wD(E:Env)(rs:List ResultVar)(r:Option PR):Option PR:=match r with
 |some (.ok .normal fr K)=>(match kq E rs fr K with|some (vs,K)=>zs (.val vs K)|none=>zn)
 |some (.ok .ret fr K)=>(match kq E rs fr K with|some (vs,K)=>zs (.val vs K)|none=>zn)
 |some (.pan v K)=>zs (.pan v K)
 |_=>zn
theorem A7{f:Nat}{args:List AV}{c:PC}{nt:Nat}{rs:List ResultVar}{b:Bool}(hf:F f=zs ⟨c,nt,rs,b⟩)(hn:lz args<=nt)(B:ye c=PJ.code c:=by rfl):evP ⟨E,T,F⟩ (.body f args K)=wD E rs (evP ⟨E,T,F⟩ (.code c (ig 0 args) K)):=by
 rw[evP,evG];show(match F f with|some p=>_|none=>_)=_
 rw[hf];dsimp only;rw[if_pos hn,B];cases evP ⟨E,T,F⟩ (.code c (ig 0 args) K)with
 |none=>rfl
 | some r=>cases r with
  |ok e fr K=>cases e<;>rfl
  |_=>rfl
variable {fr1 fr2 fr3:PF}{K1 K2 K3:PK}{P:PE}
theorem E6{f:Nat}{args:List AV}{g:List AV->Option (List AV)}{as1 rs:List AV}(C:T f=zs g)(D:gb K.os args=zs as1)(hg:g as1=zs rs)(B:(re rs&&((refsL args).isEmpty||noFL rs))=zt):evP ⟨E,T,F⟩ (.call f args K)=zs (.val (W2 (lz K.os) rs).1 ⟨K.os++(W2 (lz K.os) rs).2,K.ext,K.tch⟩):=by
 rw[evP,evG];show(match T f with|some g=>_|none=>_)=_
 rw[C];dsimp only;unfold rh rg;rw[D];dsimp only;rw[hg];dsimp only;rw[if_pos B]
end
noncomputable section
variable {E:Env}{T:Nat->Option (List AV->Option (List AV))}{F:Nat->Option PFn}{fr:PF}{K K':PK}{v:AV}{vs:List AV}
def MZ(fr:PF)(K:PK)(r:Option PR):Option PR:=match r with
 |some (.itr .normal p _ K1)=>zs (.ok (qK p) fr ⟨K1.os,K.ext,K1.tch++K.tch⟩)
 |some (.itr .ret p _ K1)=>zs (.ok (qK p) fr ⟨K1.os,K.ext,K1.tch++K.tch⟩)
 |_=>zn
theorem wE(p:Option Ex)(fr1:PF):MZ fr K (zs (.itr .normal p fr1 K'))=zs (.ok (qK p) fr ⟨K'.os,K.ext,K'.tch++K.tch⟩):=rfl
theorem CT{g:Operand}{ps:List Tmp}{a b ic:PC}{x:XC}{n nt:Nat}{caps:List AV}{rs:List ResultVar}{i:Bool}(hg:dj E g fr=.fn (.func n) [] caps)(hf:F n=zs ⟨.itf x ic,nt,rs,i⟩)(hn:lz caps+1<=nt):
 evP ⟨E,T,F⟩ (.code (.rfn g ps a b) fr K)=MZ fr K (evP ⟨E,T,F⟩ (.iter ⟨ps,a,b,fr⟩ je ic zn (ig 0 (.any::caps)) ⟨K.os,lz K.os,[]⟩)):=by
 rw[evP,evG];show(match dj E g fr with | .fn (.func n) [] caps=>(match c0m (F n)with|some (nt,ic)=>_|none=>zn)|_=>zn)=_
 rw[hg];dsimp only;rw[hf];dsimp only[c0m];rw[if_pos hn];cases evP ⟨E,T,F⟩ (.iter ⟨ps,a,b,fr⟩ je ic zn (ig 0 (.any::caps)) ⟨K.os,lz K.os,[]⟩)with
 |none=>rfl
 | some r=>cases r with
  |itr e p fr1 K1=>cases e<;>rfl
  |_=>rfl
def NA(P:PE)(b:PC)(r:Option PR):Option PR:=match r with
 |some (.ok .normal fr K)=>evP P (.code b fr K)
 |_=>zn
theorem Kv(P:PE)(b:PC):NA P b (zs (.ok .normal fr K))=evP P (.code b fr K):=rfl
theorem Sc{P:PE}{ps:List Tmp}{a b:PC}{args:List AV}(hn:lz args=lz ps):evP P (.round ⟨ps,a,b,fr⟩ args K)=NA P b (evP P (.code a (ld ps args fr) K)):=by
 rw[evP,evG];dsimp only;rw[if_pos hn];cases evP P (.code a (ld ps args fr) K)with
 |none=>rfl
 | some r=>cases r with
  |ok e fr1 K1=>cases e<;>rfl
  |_=>rfl
theorem m2(l:List AV):ld [] l fr=fr:=by cases l<;>rfl
theorem X8(p:Tmp)(ps:List Tmp)(v:AV)(l:List AV):ld (p::ps) (v::l) fr=ld ps l ((p,v)::fr):=rfl
variable {P:PE}{c:RC}{m:Nat}{p:Option Ex}
def iF(P:PE)(c:RC)(m:Nat)(b:PC)(r:Option PR):Option PR:=match r with
 |some (.itr .normal p fr K)=>evP P (.iter c m b p fr K)
 |some (.itr (.exit i) p fr K)=>zs (.itr (.exit i) p fr K)
 |some (.itr .ret p fr K)=>zs (.itr .ret p fr K)
 |_=>zn
theorem Hs(b:PC):iF P c m b (zs (.itr .normal p fr K))=evP P (.iter c m b p fr K):=rfl
theorem Ht(b:PC)(i:Nat):iF P c m b (zs (.itr (.exit i) p fr K))=zs (.itr (.exit i) p fr K):=rfl
theorem Hu(b:PC):iF P c m b (zs (.itr .ret p fr K))=zs (.itr .ret p fr K):=rfl
theorem aF(a b:PC):evP P (.iter c (m+1) (.seq a b) p fr K)=iF P c m b (evP P (.iter c m a p fr K)):=by
 rw[evP,evG];cases evP P (.iter c m a p fr K)with
 |none=>rfl
 | some r=>cases r with
  |itr e p fr K=>cases e<;>rfl
  |_=>rfl
theorem dB(a:PC):evP P (.iter c (m+1) (.loop a) p fr K)=iF P c m (.loop a) (evP P (.iter c m a p fr K)):=by
 rw[evP,evG];cases evP P (.iter c m a p fr K)with
 |none=>rfl
 | some r=>cases r with
  |itr e p fr K=>cases e<;>rfl
  |_=>rfl
def CU(p:Option Ex)(r:Option PR):Option PR:=match r with
 |some (.ok .normal fr K)=>zs (.itr .normal p fr K)
 |_=>zn
theorem Hv:CU p (zs (.ok .normal fr K))=zs (.itr .normal p fr K):=rfl
theorem aG(d:Bool)(l:List XOp):evP P (.iter c (m+1) (.reg d l) p fr K)=CU p (evP P (.code (.reg d l) fr K)):=by
 rw[evP,evG];cases evP P (.code (.reg d l) fr K)with
 |none=>rfl
 | some r=>cases r with
  |ok e fr K=>cases e<;>rfl
  |_=>rfl
def lQ(P:PE)(c:RC)(m:Nat)(a b:PC)(x:AV)(p:Option Ex)(fr:PF)(K:PK):Option PR:=match x with | .bool zt=>evP P (.iter c m a p fr K) | .bool zf=>evP P (.iter c m b p fr K)|_=>zn
theorem Ch(a b:PC):lQ P c m a b (.bool zt) p fr K=evP P (.iter c m a p fr K):=rfl
theorem Ci(a b:PC):lQ P c m a b (.bool zf) p fr K=evP P (.iter c m b p fr K):=rfl
theorem Pe(x:Operand)(a b:PC):evP P (.iter c (m+1) (.cond x a b) p fr K)=lQ P c m a b (dj P.E x fr) p fr K:=by rw[evP,evG];rfl
def nQ(i:Nat)(r:Option PR):Option PR:=match r with
 |some (.itr .normal p fr K)=>zs (.itr .normal p fr K)
 |some (.itr (.exit j) p fr K)=>if j=i then zs (.itr .normal p fr K)else zs (.itr (.exit j) p fr K)
 |some (.itr .ret p fr K)=>zs (.itr .ret p fr K)
 |_=>zn
theorem Hw(i:Nat):nQ i (zs (.itr .normal p fr K))=zs (.itr .normal p fr K):=rfl
theorem Hx(i j:Nat):nQ i (zs (.itr (.exit j) p fr K))=if j=i then zs (.itr .normal p fr K)else zs (.itr (.exit j) p fr K):=rfl
theorem Hy(i:Nat):nQ i (zs (.itr .ret p fr K))=zs (.itr .ret p fr K):=rfl
theorem Hz(i:Nat)(a:PC):evP P (.iter c (m+1) (.block i a) p fr K)=nQ i (evP P (.iter c m a p fr K)):=by
 rw[evP,evG];cases evP P (.iter c m a p fr K)with
 |none=>rfl
 | some r=>cases r with
  |itr e p fr K=>cases e<;>rfl
  |_=>rfl
theorem Pf:evP P (.iter c (m+1) .skip p fr K)=zs (.itr .normal p fr K):=by rw[evP,evG]
theorem Pg(i:Nat):evP P (.iter c (m+1) (.exit i) p fr K)=zs (.itr (.exit i) p fr K):=by rw[evP,evG]
theorem aH:evP P (.iter c (m+1) .ret p fr K)=zs (.itr .ret p fr K):=by rw[evP,evG]
def PL(e:Ex)(r:Option PR):Option PR:=match r with
 |some (.ok .normal fr K)=>zs (.itr .normal (Ou e) fr K)
 |_=>zn
def nR(P:PE)(p2:PC)(yd:Tmp)(fr:PF)(K:PK)(r:Option PR):Option PR:=match r with
 |some (.ok e _ K1)=>PL e (evP P (.code p2 ((yd,.bool (lf e))::fr) ⟨K1.os,K.ext,K1.tch++K.tch⟩))
 |_=>zn
def PM(P:PE)(c:RC)(gd:Option (Option Tmp×Bool))(yd:Tmp)(args:List Operand)(p2:PC)(r:Option PR):Option PR:=match r with
 | some (.ok .normal fr K)=>(match ge gd fr with
  |some zt=>nR P p2 yd fr K (evP P (.round c (mh P.E args fr) ⟨K.os,lz K.os,[]⟩))
  |_=>zn)
 |_=>zn
def y0K(P:PE)(c:RC)(gd:Option (Option Tmp×Bool))(yt:Tmp)(p1:PC)(yd:Tmp)(args:List Operand)(p2:PC)(r:Option PR):Option PR:=match r with
 | some (.ok .normal fr K)=>(match ge gd fr with
  |some zt=>PM P c gd yd args p2 (evP P (.code p1 ((yt,.any)::fr) K))
  |_=>zn)
 |_=>zn
theorem aI(e:Ex):PL e (zs (.ok .normal fr K))=zs (.itr .normal (Ou e) fr K):=rfl
theorem Cj(p2:PC)(yd:Tmp)(e:Ex)(fr1:PF):nR P p2 yd fr K (zs (.ok e fr1 K'))=PL e (evP P (.code p2 ((yd,.bool (lf e))::fr) ⟨K'.os,K.ext,K'.tch++K.tch⟩)):=rfl
theorem aJ(yd:Tmp)(args:List Operand)(p2:PC):PM P c zn yd args p2 (zs (.ok .normal fr K))=nR P p2 yd fr K (evP P (.round c (mh P.E args fr) ⟨K.os,lz K.os,[]⟩)):=rfl
theorem aK(yt:Tmp)(p1:PC)(yd:Tmp)(args:List Operand)(p2:PC):y0K P c zn yt p1 yd args p2 (zs (.ok .normal fr K))=PM P c zn yd args p2 (evP P (.code p1 ((yt,.any)::fr) K)):=rfl
theorem Ph(p0:PC)(yt:Tmp)(p1:PC)(yd:Tmp)(args:List Operand)(p2:PC):evP P (.iter c (m+1) (.yreg p0 zn yt p1 yd args p2) zn fr K)=y0K P c zn yt p1 yd args p2 (evP P (.code p0 fr K)):=by
 rw[evP,evG];cases evP P (.code p0 fr K)with
 |none=>rfl
 | some r => cases r with
  |ok e fr K=>
   cases e with
   |normal=>
    show(evP P (.code p1 ((yt,.any)::fr) K) >>= _)=PM P c zn yd args p2 (evP P (.code p1 ((yt,.any)::fr) K))
    cases evP P (.code p1 ((yt,.any)::fr) K)with
    |none=>rfl
    | some r => cases r with
     |ok e fr K=>
      cases e with
      |normal=>
       show(evP P (.round c (mh P.E args fr) ⟨K.os,lz K.os,[]⟩) >>= _)=nR P p2 yd fr K (evP P (.round c (mh P.E args fr) ⟨K.os,lz K.os,[]⟩))
       cases evP P (.round c (mh P.E args fr) ⟨K.os,lz K.os,[]⟩)with
       |none=>rfl
       | some r=>cases r with
        |ok e fr1 K1=>
         show(evP P (.code p2 ((yd,.bool (lf e))::fr) ⟨K1.os,K.ext,K1.tch++K.tch⟩) >>= _)=PL e (evP P (.code p2 ((yd,.bool (lf e))::fr) ⟨K1.os,K.ext,K1.tch++K.tch⟩))
         cases evP P (.code p2 ((yd,.bool (lf e))::fr) ⟨K1.os,K.ext,K1.tch++K.tch⟩)with
         |none=>rfl
         | some r=>cases r with
          |ok e fr K=>cases e<;>rfl
          |_=>rfl
        |_=>rfl
      |_=>rfl
     |_=>rfl
   |_=>rfl
  |_=>rfl
end
noncomputable section
variable {E:Env}{fr:PF}{K K':PK}{v w x y:AV}{vs:List AV}
theorem c0w(i:Nat)(r:PF):FR ((i,v)::r) i=v:=by show(if i=i then v else _)=v;grind
theorem yo(i j:Nat)(r:PF):FR ((i,v)::r) j=if i=j then v else FR r j:=rfl
theorem yp(t:Nat):ia (zs t) v fr=(t,v)::fr:=rfl
theorem yq:ia zn v fr=fr:=rfl
theorem c0x(t:Nat):dj E (.tmp t) fr=FR fr t:=rfl
theorem c0y(k:IntKind)(n:Int):dj E (.const (.int k n)) fr=.int k n:=rfl
theorem yr(b:Bool):dj E (.const (.bool b)) fr=.bool b:=rfl
theorem c0z(s:List UInt8):dj E (.const (.string ⟨⟨s⟩⟩)) fr=.str s:=rfl
theorem c0A:dj E (.const (.slice zn 0 0)) fr=.x0a:=rfl
theorem yu(f:Nat):dj E (.func f) fr=.fn (.func f) [] []:=rfl
theorem c0B:mh E [] fr=[]:=rfl
theorem yv(x:Operand)(l:List Operand):mh E (x::l) fr=dj E x fr::mh E l fr:=rfl
theorem c0C:cP E [] fr=[]:=rfl
theorem yw(i:Nat)(x:Operand)(l:List (Nat×Operand)):cP E ((i,x)::l) fr=(i,dj E x fr)::cP E l fr:=rfl
theorem c0D(i:Nat):ig i []=[]:=rfl
theorem yx(i:Nat)(l:List AV):ig i (v::l)=(i,v)::ig (i+1) l:=rfl
theorem f0A(v:AV):cj [v]=v:=rfl
theorem f0B(v w:AV):cj [v,w]=.tup [v,w]:=rfl
theorem f0C:cj []=.tup []:=rfl
theorem tu(v:AV):Km (zs v) K=.val v K:=rfl
theorem tv(v:AV)(K':PK):Kx (zs (v,K'))=.val v K':=rfl
def NB(x:AV)(i:Nat)(K:PK):OpS:=match x with | .tup vs=>Km vs[i]? K|_=>.bad
theorem yy(vs:List AV)(i:Nat):NB (.tup vs) i K=Km vs[i]? K:=rfl
theorem yz(x:Operand):gx E (.move x) fr K=.val (dj E x fr) K:=rfl
theorem rz(x:Operand):gx E (.assign x) fr K=.val (dj E x fr) K:=rfl
theorem za(c a b:Operand):gx E (.pick c a b) fr K=Mz (dj E c fr) (dj E a fr) (dj E b fr) K:=rfl
theorem sa(a b:AV):Mz (.bool zt) a b K=.val a K:=rfl
theorem ql(a b:AV):Mz (.bool zf) a b K=.val b K:=rfl
theorem tz(t:Nat):gx E (.alloc t) fr K=c9 E t fun ti=>.val (.ptr (lz K.os) 0 0) (newRow 1 [ti.zero] ti.size K):=rfl
theorem c0E(t:Nat)(x:Operand):gx E (.box t x) fr K=c9 E t fun ti=>vC ti (dj E x fr) K:=rfl
theorem ua(t:Nat)(ps:Array (Nat×Operand)):gx E (.build t ps) fr K=c9 E t fun ti=>Km (X3 E ti (cP E ps.toList fr)) K:=rfl
theorem qm(t n:Nat)(ps:Array (Nat×Operand)):gx E (.buildSlice t n ps) fr K=c9 E t fun ti=>match cu E ti.desc with|some te=>Kx (Bz te n (cP E ps.toList fr) K)|none=>.bad:=rfl
theorem zc(t:Nat)(a:Operand):gx E (.load t a) fr K=c9 E t fun ti=>Kx (oe ti (dj E a fr) K):=rfl
theorem ub(t:Nat)(a x:Operand):gx E (.store t a x) fr K=c9 E t fun ti=>Kx ((iv ti (dj E a fr) (dj E x fr) K).map fun K=>(.und,K)):=rfl
theorem c0F(op:BinOp)(t u:Nat)(x y:Operand):gx E (.binOp op t x y u) fr K=f9 E op t (dj E x fr) (dj E y fr) K:=rfl
theorem f0D(op:UnOp)(t:Nat)(x:Operand):gx E (.unOp op t x) fr K=Km (Pq op (dj E x fr)) K:=rfl
theorem zd(s d:Nat)(x:Operand):gx E (.convert s d x) fr K=c9 E s fun _=>c9 E d fun B=>Km (R4 B.desc (dj E x fr)) K:=rfl
theorem f0E(f:Fn)(a c:Array Operand):gx E (.makeFunc f a c) fr K=.val (.fn f (mh E a.toList fr) (mh E c.toList fr)) K:=rfl
theorem f0F(t:Nat)(x:Operand)(f:Nat):gx E (.fieldAddr t x f) fr K=c9 E t fun ti=>Km (L3 E ti f (dj E x fr)) K:=rfl
theorem f0G(t:Nat)(x i:Operand):gx E (.indexAddr t x i) fr K=c9 E t fun ti=>Km (Gj E ti (dj E x fr) (dj E i fr)) K:=rfl
theorem f0H(t:Operand)(i:Nat):gx E (.extract t i) fr K=NB (dj E t fr) i K:=rfl
theorem c0G(b:Builtin)(args:Array Operand)(ts:Array TypeId):gx E (.call ⟨.builtin b,args,ts⟩) fr K=Kx (G5 E b ts.toList (mh E args.toList fr) K):=rfl
theorem ze(f:Nat)(args:Array Operand)(ts:Array TypeId):gx E (.call ⟨.value (.func f),args,ts⟩) fr K=.call f (mh E args.toList fr):=by
 show OpS.call f ([]++(mh E args.toList fr++[]))=_
 grind
theorem uc(t:Nat)(args:Array Operand)(ts:Array TypeId):gx E (.call ⟨.value (.tmp t),args,ts⟩) fr K=Na (FR fr t) (mh E args.toList fr):=rfl
theorem ud(f:Nat)(a c l:List AV):Na (.fn (.func f) a c) l=.call f (a++(l++c)):=rfl
theorem bp(op:BinOp)(t:Nat)(B:Ot x=zt)(C:Ot y=zt):f9 E op t x y K=Km (Q7 op (N1 E t) x y) K:=if_pos ⟨B,C⟩
theorem c0H(t:Nat)(k:IntKind)(a b:Int):f9 E .add t (.int k a) (.int k b) K=.val (.int k (k.wrap (a+b))) K:=by rw[bp _ _ rfl rfl,ME];rfl
theorem c0I(t:Nat)(k:IntKind)(a b:Int):f9 E .sub t (.int k a) (.int k b) K=.val (.int k (k.wrap (a-b))) K:=by rw[bp _ _ rfl rfl,MF];rfl
theorem c0J(t:Nat)(k:IntKind)(a b:Int):f9 E .eql t (.int k a) (.int k b) K=.val (.bool (decide (a=b))) K:=by rw[bp _ _ rfl rfl,MG];rfl
theorem c0K(t:Nat)(k:IntKind)(a b:Int):f9 E .neq t (.int k a) (.int k b) K=.val (.bool (!decide (a=b))) K:=by rw[bp _ _ rfl rfl,MH];rfl
theorem c0L(t:Nat)(k:IntKind)(a b:Int):f9 E .lss t (.int k a) (.int k b) K=.val (.bool (decide (a<b))) K:=by rw[bp _ _ rfl rfl,MI];rfl
theorem c0M(t:Nat)(k:IntKind)(a b:Int):f9 E .leq t (.int k a) (.int k b) K=.val (.bool (decide (a<=b))) K:=by rw[bp _ _ rfl rfl,MJ];rfl
theorem c0N(t:Nat)(k:IntKind)(a b:Int):f9 E .gtr t (.int k a) (.int k b) K=.val (.bool (decide (b<a))) K:=by rw[bp _ _ rfl rfl,MK];rfl
theorem c0O(t:Nat)(k:IntKind)(a b:Int):f9 E .geq t (.int k a) (.int k b) K=.val (.bool (decide (b<=a))) K:=by rw[bp _ _ rfl rfl,ML];rfl
theorem zg(t:Nat)(a b:List UInt8):f9 E .eql t (.str a) (.str b) K=.val (.bool (decide (a=b))) K:=by rw[bp _ _ rfl rfl,FX];rfl
theorem zh(t:Nat)(a b:List UInt8):f9 E .neq t (.str a) (.str b) K=.val (.bool (!decide (a=b))) K:=by rw[bp _ _ rfl rfl,FY];rfl
theorem zi(b:Bool):i7 zt (.bool b)=zs b:=rfl
theorem ue(b:Bool):i7 zf (.bool b)=zs (!b):=rfl
theorem zj(w:Bool):i7 w Yw=zs zf:=rfl
theorem A8{i:Nat}(h:i<9223372036854775807):IntKind.i64.wrap ((i:Int)+1)=((i+1:Nat):Int):=by
 rw[IntKind.wrap_i64];omega
def qN(x:AV)(K:PK):Option (AV×PK):=(dT x).map fun n=>(.int .i64 (Int.ofNat n),K)
theorem ww(es:List AV)(f:Bool):Kx (qN (.fsl es f) K)=.val (.int .i64 (lz es:Int)) K:=by
 show Kx ((zs (dw es)).map _)=_;rw[A4];rfl
theorem c0P(id off n sz:Nat):Kx (qN (.msl id off n sz) K)=.val (.int .i64 (n:Int)) K:=rfl
theorem c0Q:Kx (qN .x0a K)=.val (.int .i64 0) K:=rfl
def Xk(te:TI)(x i:AV):Option AV:=match ew i with|some n=>dX te n x|none=>zn
theorem wx{te:TI}{k:IntKind}{i:Nat}{es:List AV}{f:Bool}(h:es[i]?=zs v)(B:lz v.cells=te.size):Xk te (.fsl es f) (.int k (i:Int))=zs (.fptr v 0):=by
 show A5 (Eh es i) (fun v=>B5 (Nat.beq (dw v.cells) te.size) (zs (AV.fptr v 0)))=_
 rw[R1,h];show B5 (Nat.beq (dw v.cells) te.size) (zs (AV.fptr v 0))=_
 rw[A4,B,zqn];rfl
theorem wy{te:TI}{k:IntKind}{i id off n sz:Nat}(h:i<n)(B:sz=te.size):Xk te (.msl id off n sz) (.int k (i:Int))=zs (.ptr id (off+i) 0):=by
 show B5 (Nat.blt i n&&Nat.beq sz te.size) (M6 (Nat.add off i) fun o=>zs (AV.ptr id o 0))=_
 rw[C1,B,zqn,show Nat.blt i n=zt from zqo h];rfl
theorem h0e(t:TI)(v:AV)(off:Nat):Kx (oe t (.fptr v off) K)=Km (ct t v.cells off) K:=by
 show Kx ((ct t v.cells off).map (·,K))=_
 cases ct t v.cells off<;>rfl
def PN(id i off:Nat)(K:PK)(w:Option AV):OpS:=match w with|some w=>.val (Ve id i off w K).1 (Ve id i off w K).2|none=>.bad
def PP(t:TI)(id i off:Nat)(K:PK)(v:Option AV):OpS:=match v with|some v=>PN id i off K (ct t v.cells off)|none=>.bad
def ldR(t:TI)(id i off:Nat)(K:PK)(r:Option (Nat×List AV×Nat)):OpS:=match r with|some (_,es,_)=>PP t id i off K es[i]?|none=>.bad
theorem h0f(t:TI)(id i off:Nat):Kx (oe t (.ptr id i off) K)=ldR t id i off K (cd K.os 6 id):=by
 show Kx (match cd K.os 6 id with|some (_,es,_)=>_|none=>zn)=_
 cases cd K.os 6 id with
 |none=>rfl
 |some q=>
  obtain⟨k,es,z⟩:=q;show Kx (match es[i]? with|some v=>_|none=>zn)=PP t id i off K es[i]?
  cases es[i]? with
  |none=>rfl
  |some v=>
   show Kx (match ct t v.cells off with|some w=>_|none=>zn)=PN id i off K (ct t v.cells off)
   cases ct t v.cells off<;>rfl
theorem uf(t:TI)(id i off k z:Nat)(es:List AV):ldR t id i off K (zs (k,es,z))=PP t id i off K es[i]?:=rfl
theorem ug(t:TI)(id i off:Nat):PP t id i off K (zs v)=PN id i off K (ct t v.cells off):=rfl
end
noncomputable section
variable {E:Env}{fr:PF}{K K':PK}{v w x y:AV}{vs es:List AV}{te:TI}{os:List PO}
theorem c0R:jh te .x0a os=zs ([],os,[]):=rfl
def HB(te:TI)(id off n sz:Nat)(os:List PO)(e:Option PO):Option (List AV×List PO×List Nat):=match e with
 |some (.row k es z)=>if k=0/\z=te.size/\sz=z/\off+n<=lz es then zs ((es.drop off).take n,(gm os id []).set id .dead,[id])else zn
 |some (.sub p i o)=>jh te (.msl id off n sz) os
 |_=>zn
theorem f0I(id off n sz:Nat):jh te (.msl id off n sz) os=HB te id off n sz os os[id]?:=by
 cases h:os[id]? with
 |none=>
  unfold jh
  have:cd os 6 id=zn:=by unfold cd;rw[h]
  simp only[this];rfl
 |some e=>
  cases e with
  |row k es z=>
   unfold jh
   have:cd os 6 id=zs (k,es,z):=by unfold cd;rw[h]
   simp only[this,h];rfl
  |mapo m=>
   unfold jh
   have:cd os 6 id=zn:=by unfold cd;rw[h]
   simp only[this];rfl
  |dead=>
   unfold jh
   have:cd os 6 id=zn:=by unfold cd;rw[h]
   simp only[this];rfl
  |sub p i o=>rfl
theorem zk{id n sz z:Nat}(h1:z=te.size)(h2:sz=z)(h3:n=lz es):HB te id 0 n sz os (zs (.row 0 es z))=zs (es,(gm os id []).set id .dead,[id]):=by
 simp_all[HB]
def HC(te:TI)(id n sz ext:Nat)(tc:List Nat)(os:List PO)(e:Option PO)(d:Option (List AV×List PO)):Option (List AV×List PO):=match e with
 | some (.row 0 es z)=>if z=te.size/\sz=z/\n=lz es then(match ni te with
  |true=>if Jm es=zt then zs (es,os)else zn
  |false=>if ext<=id/\¬id∈tc then zs (es,(gm os id []).set id .dead)else zn)else d
 |_=>d
def teD(te:TI)(id n sz ext:Nat)(tc:List Nat)(os:List PO):Option (List AV×List PO):=kj te (.msl id 0 n sz) ext tc os
theorem f0J(id n sz ext:Nat)(tc:List Nat):kj te (.msl id 0 n sz) ext tc os=HC te id n sz ext tc os os[id]? (teD te id n sz ext tc os):=by
 unfold HC;split
 . rename_i es z h
   split
   . grind[cd,kj]
   . rfl
 . rfl
theorem uh{id n sz z ext:Nat}{tc:List Nat}{d:Option (List AV×List PO)}(hf:ni te=zt)(h1:z=te.size)(h2:sz=z)(h3:n=lz es)(he:Jm es=zt):HC te id n sz ext tc os (zs (.row 0 es z)) d=zs (es,os):=by
 simp_all[HC]
theorem zl{id n sz z ext:Nat}{tc:List Nat}{d:Option (List AV×List PO)}(hf:ni te=zf)(h1:z=te.size)(h2:sz=z)(h3:n=lz es)(hx:ext<=id)(hc:¬id∈tc):HC te id n sz ext tc os (zs (.row 0 es z)) d=zs (es,(gm os id []).set id .dead):=by
 simp_all[HC]
theorem c0S{f:Bool}{ext:Nat}{tc:List Nat}(h:G1 te.size es=zt):kj te (.fsl es f) ext tc os=zs (es,os):=if_pos h
def GI(te:TI)(s:AV)(K:PK)(base:List AV)(tc:List Nat)(r:Option (List AV×List PO)):Option (AV×PK):=match r with
 |some (xs,os2)=>if(!xs.isEmpty||jm s K.os)=zt then qh te base xs os2 tc K else zn
 |none=>zn
def ap1(te:TI)(s x:AV)(K:PK)(r:Option (List AV×List PO×List Nat)):Option (AV×PK):=match r with
 |some (base,os1,tc)=>GI te s K base tc (kj te x K.ext tc os1)
 |none=>zn
theorem f0K(s x:AV):c8 te s x K=ap1 te s x K (jh te s K.os):=by
 grind[c8,ap1,GI]
theorem ui{s x:AV}(base:List AV)(os1:List PO)(tc:List Nat):ap1 te s x K (zs (base,os1,tc))=GI te s K base tc (kj te x K.ext tc os1):=rfl
theorem uj{s:AV}{base xs:List AV}{os2:List PO}{tc:List Nat}(h0:xs.isEmpty=zf)(hz:(lz base+lz xs)*te.bytes<=140737488355328):
 GI te s K base tc (zs (xs,os2))=zs (.msl (lz os2) 0 (lz base+lz xs) te.size,⟨os2++[.row 0 (base++xs) te.size],K.ext,lz os2::tc++K.tch⟩):=by
 unfold GI;simp only[h0];rw[if_pos (by rfl)];exact if_pos hz
end
noncomputable section
variable {E:Env}{fr:PF}{K K':PK}{v w x y c:AV}{vs es cs:List AV}{te:TI}{os l:List PO}{ids:List Nat}
theorem c0T(k:IntKind)(n:Int):clo (.int k n)=zt:=rfl
theorem zm(b:Bool):clo (.bool b)=zt:=rfl
theorem c0U(b:List UInt8):clo (.str b)=zt:=rfl
theorem c0V(k sz:Nat):clo (di k sz es)=zf:=rfl
theorem c0W(a b d e:Nat):clo (.msl a b d e)=zf:=rfl
theorem c0X(k:IntKind)(n:Int):My (.int k n)=zf:=rfl
theorem c0Y:My (.agg cs)=zt:=rfl
theorem c0Z:clo .x0a=zt:=rfl
theorem c00(k:IntKind)(n:Int):AV.cells (.int k n)=[.int k n]:=rfl
theorem zo(b:Bool):AV.cells (.bool b)=[.bool b]:=rfl
theorem c01(b:List UInt8):AV.cells (.str b)=[.str b]:=rfl
theorem c02:AV.cells (.agg cs)=cs:=rfl
theorem c03(f:Bool):AV.cells (.fsl es f)=[.fsl es f]:=rfl
theorem c04:AV.cells .x0a=[.x0a]:=rfl
theorem c05(a b d e:Nat):AV.cells (.msl a b d e)=[.msl a b d e]:=rfl
theorem c06(k sz:Nat):AV.cells (di k sz es)=[di k sz es]:=rfl
theorem c07:Jm []=zt:=rfl
theorem zp:Jm (v::es)=(v.cells.all clo&&Jm es):=rfl
def GJ(c:Option AV):Option (Nat×List AV×Nat):=match c with|some c=>fe c|none=>zn
def PQ(o:Nat)(v:Option AV):Option (Nat×List AV×Nat):=match v with|some v=>GJ v.cells[o]?|none=>zn
def PS(i o:Nat)(r:Option (Nat×List AV×Nat)):Option (Nat×List AV×Nat):=match r with|some (_,es,_)=>PQ o es[i]?|none=>zn
def NC(os:List PO)(n:Nat)(e:Option PO):Option (Nat×List AV×Nat):=match e with|some (.row k es sz)=>zs (k,es,sz)|some (.sub p i o)=>PS i o (cd os n p)|_=>zn
theorem CV(os:List PO)(n id:Nat):cd os (n+1) id=NC os n os[id]?:=by
 conv=>lhs;unfold cd
 cases os[id]? with
 |none=>rfl
 | some e=>cases e with
  |sub p i o=>
   show(match cd os n p with|some (_,es,_)=>_|none=>zn)=PS i o (cd os n p)
   cases cd os n p with
   |none=>rfl
   |some q=>
    obtain⟨k,es,z⟩:=q;show(match es[i]? with|some v=>_|none=>zn)=PQ o es[i]?
    cases es[i]? with
    |none=>rfl
    |some v=>
     show(match v.cells[o]? with|some c=>_|none=>zn)=GJ v.cells[o]?
     cases v.cells[o]?<;>rfl
  |_=>rfl
theorem ro6(os:List PO)(id:Nat):cd os 6 id=NC os 5 os[id]?:=CV os 5 id
theorem zq(n k sz:Nat):NC os n (zs (.row k es sz))=zs (k,es,sz):=rfl
theorem zr(n p i o:Nat):NC os n (zs (.sub p i o))=PS i o (cd os n p):=rfl
theorem uk(i o k z:Nat):PS i o (zs (k,es,z))=PQ o es[i]?:=rfl
theorem ul(o:Nat):PQ o (zs v)=GJ v.cells[o]?:=rfl
theorem um:GJ (zs c)=fe c:=rfl
theorem c08(k sz:Nat):fe (di k sz es)=zs (k,es,sz):=rfl
def rtE(os:List PO)(n id:Nat)(e:Option PO):Nat:=match e with|some (.sub p _ _)=>cg os n p|_=>id
theorem f0L(os:List PO)(n id:Nat):cg os (n+1) id=rtE os n id os[id]?:=rfl
theorem zu(n id k sz:Nat):rtE os n id (zs (.row k es sz))=id:=rfl
theorem zw(n id p i o:Nat):rtE os n id (zs (.sub p i o))=cg os n p:=rfl
def chE(os:List PO)(n:Nat)(e:Option PO):List Nat:=match e with|some (.sub p _ _)=>ei os n p|_=>[]
theorem f0M(os:List PO)(n id:Nat):ei os (n+1) id=id::chE os n os[id]?:=rfl
theorem zx(n k sz:Nat):chE os n (zs (.row k es sz))=[]:=rfl
theorem f0N(r:Nat)(keep:List Nat):gm os r keep=X6 os r keep 0 os:=rfl
theorem c09(r j:Nat)(keep:List Nat):X6 os r keep j []=[]:=rfl
theorem d0a(r j k sz:Nat)(keep:List Nat):X6 os r keep j (.row k es sz::l)=.row k es sz::X6 os r keep (j+1) l:=rfl
theorem zy(r j:Nat)(keep:List Nat):X6 os r keep j (.dead::l)=.dead::X6 os r keep (j+1) l:=rfl
theorem d0b(r j p i o:Nat)(keep:List Nat):X6 os r keep j (.sub p i o::l)=(if cg os 6 j=r/\¬j∈keep then PO.dead else .sub p i o)::X6 os r keep (j+1) l:=rfl
theorem f0O(id:Nat):jg os id=U7 os (cg os 6 id) (ei os 6 id) id 0 os:=rfl
theorem d0c(r j id:Nat)(keep:List Nat):U7 os r keep id j []=[]:=rfl
theorem d0d(r j k sz id:Nat)(keep:List Nat):U7 os r keep id j (.row k es sz::l)=.row k es sz::U7 os r keep id (j+1) l:=rfl
theorem a0a(r j id:Nat)(keep:List Nat):U7 os r keep id j (.dead::l)=.dead::U7 os r keep id (j+1) l:=rfl
def GK(ids:List Nat)(fr:PF):List Nat->PF
 |[]=>[]
 |i::l=>(i,J7 (dk ids) (FR fr i))::GK ids fr l
def CW(ids:List Nat)(os:List PO):List Nat->List PO
 |[]=>[]
 |i::l=>dp (dk ids) (dr os i)::CW ids os l
theorem wF(ids:List Nat)(fr:PF):∀keep:List Nat,(keep.map fun i=>(i,J7 (dk ids) (FR fr i)))=GK ids fr keep
 |[]=>rfl
 |i::l=>congrArg (List.cons _) (wF ids fr l)
theorem lR(ids:List Nat)(os:List PO):∀l:List Nat,(l.map fun i=>dp (dk ids) (dr os i))=CW ids os l
 |[]=>rfl
 |i::l=>congrArg (List.cons _) (lR ids os l)
theorem d0e:GK ids fr []=[]:=rfl
theorem a0b(i:Nat)(l:List Nat):GK ids fr (i::l)=(i,J7 (dk ids) (FR fr i))::GK ids fr l:=rfl
theorem d0f:CW ids os []=[]:=rfl
theorem a0c(i:Nat)(l:List Nat):CW ids os (i::l)=dp (dk ids) (dr os i)::CW ids os l:=rfl
def mk1(k:List Nat)(fr:PF)(ids:List Nat):PF:=GK ids fr k
def mk2(K:PK)(ids:List Nat):PK:=⟨CW ids K.os ids,K.ext,K.tch.filter (· < K.ext)⟩
theorem h0g(k:List Nat):(M4 k fr K).1=mk1 k fr (fu k fr K):=wF _ _ _
theorem h0h(k:List Nat):(M4 k fr K).2=mk2 K (fu k fr K):=by
 show PK.mk _ _ _=PK.mk _ _ _
 grind[lR]
theorem d0g(k:List Nat):mk1 k fr ids=GK ids fr k:=rfl
theorem d0h:mk2 K ids=⟨CW ids K.os ids,K.ext,K.tch.filter (· < K.ext)⟩:=rfl
def PU(e:Option PO):List Nat:=match e with|some (.sub p _ _)=>[p]|e=>cQ e
theorem f0P(id:Nat):gI os id=PU os[id]?:=rfl
theorem a0d(sz:Nat):PU (zs (.row 0 es sz))=[]:=rfl
theorem uq(sz:Nat):PU (zs (.row 1 es sz))=refsL es:=rfl
theorem a0e(p i o:Nat):PU (zs (.sub p i o))=[p]:=rfl
def HE(fr:PF):List Nat->List Nat
 |[]=>[]
 |i::l=>O4 (FR fr i)++HE fr l
theorem wG(fr:PF):∀keep:List Nat,refsL (keep.map (FR fr))=HE fr keep
 |[]=>rfl
 |i::l=>congrArg (List.append _) (wG fr l)
theorem f0Q(k:List Nat):fu k fr K=d8 (gI K.os) 64 ((zqc K.ext).flatMap (gI K.os)++HE fr k) (zqc K.ext):=by
 unfold fu;rw[wG]
theorem d0i:HE fr []=[]:=rfl
theorem a0f(i:Nat)(l:List Nat):HE fr (i::l)=O4 (FR fr i)++HE fr l:=rfl
theorem f0l:zqc 0=[]:=rfl
theorem f0m:zqc 1=[0]:=rfl
theorem h0i:zqc 2=[0,1]:=rfl
theorem d0j(s:Nat->List Nat)(n:Nat)(B:List Nat):d8 s n [] B=B:=by cases n<;>rfl
theorem a0g(s:Nat->List Nat)(n id:Nat)(t B:List Nat):d8 s (n+1) (id::t) B=if id∈B then d8 s n t B else d8 s n (t++s id) (B++[id]):=rfl
theorem a0h(j id:Nat)(r:List Nat):dk (j::r) id=if j=id then zs 0 else(dk r id).map (· + 1):=rfl
def rnM(q:Option Nat)(off n sz:Nat):AV:=match q with|some j=>.msl j off n sz|none=>.und
def rnP(q:Option Nat)(i o:Nat):AV:=match q with|some j=>.ptr j i o|none=>.und
variable {σ:Nat->Option Nat}
theorem d0k(k:IntKind)(n:Int):J7 σ (.int k n)=.int k n:=rfl
theorem a0i(b:Bool):J7 σ (.bool b)=.bool b:=rfl
theorem d0l(b:List UInt8):J7 σ (.str b)=.str b:=rfl
theorem d0m:J7 σ (.agg cs)=.agg (renL σ cs):=rfl
theorem d0n(id off n sz:Nat):J7 σ (.msl id off n sz)=rnM (σ id) off n sz:=rfl
theorem d0o(id i o:Nat):J7 σ (.ptr id i o)=rnP (σ id) i o:=rfl
theorem d0p:J7 σ .x0a=.x0a:=rfl
theorem f0R(f:Fn)(a b:List AV):J7 σ (.fn f a b)=.fn f (renL σ a) (renL σ b):=rfl
theorem d0q:renL σ []=[]:=rfl
theorem a0j(l:List AV):renL σ (v::l)=J7 σ v::renL σ l:=rfl
theorem ur(j off n sz:Nat):rnM (zs j) off n sz=.msl j off n sz:=rfl
theorem ut(j i o:Nat):rnP (zs j) i o=.ptr j i o:=rfl
def enE(e:Option PO):PO:=match e with|some e=>e|none=>.dead
theorem f0S(id:Nat):dr os id=enE os[id]?:=rfl
theorem uu(e:PO):enE (zs e)=e:=rfl
def rnS(q:Option Nat)(i o:Nat):PO:=match q with|some j=>.sub j i o|none=>.dead
theorem d0r(sz:Nat):dp σ (.row 0 es sz)=.row 0 es sz:=rfl
theorem a0k(sz:Nat):dp σ (.row 1 es sz)=.row 1 (renL σ es) sz:=rfl
theorem d0s(p i o:Nat):dp σ (.sub p i o)=rnS (σ p) i o:=rfl
theorem uv(j i o:Nat):rnS (zs j) i o=.sub j i o:=rfl
theorem d0t(k:IntKind)(n:Int):O4 (.int k n)=[]:=rfl
theorem a0l(b:Bool):O4 (.bool b)=[]:=rfl
theorem d0u(b:List UInt8):O4 (.str b)=[]:=rfl
theorem d0v:O4 (.agg cs)=refsL cs:=rfl
theorem d0w(id off n sz:Nat):O4 (.msl id off n sz)=[id]:=rfl
theorem d0x(id i o:Nat):O4 (.ptr id i o)=[id]:=rfl
theorem d0y:O4 .x0a=[]:=rfl
theorem f0T(f:Fn)(a b:List AV):O4 (.fn f a b)=refsL a++refsL b:=rfl
theorem a0m:refsL []=[]:=rfl
theorem uw(l:List AV):refsL (v::l)=O4 v++refsL l:=rfl
theorem d0z(rs:List AV):J9 [] rs os=([],os):=rfl
theorem a0n(rs:List AV)(r:AV):J9 (v::vs) (r::rs) os=((X7 v r os).1::(J9 vs rs (X7 v r os).2).1,(J9 vs rs (X7 v r os).2).2):=rfl
theorem f0U(r:AV):X7 v r os=(N7 v (L4 v.cells r.cells os).1,(L4 v.cells r.cells os).2):=rfl
theorem d0A(rs:List AV):L4 [] rs os=([],os):=rfl
theorem a0o(rs:List AV)(r:AV):L4 (v::vs) (r::rs) os=((V3 v r os).1::(L4 vs rs (V3 v r os).2).1,(L4 vs rs (V3 v r os).2).2):=rfl
theorem d0B(a b d e:Nat)(r:AV):V3 (.msl a b d e) r os=(.msl a b d e,os):=rfl
theorem d0C(k:IntKind)(n:Int)(r:AV):V3 (.int k n) r os=(.int k n,os):=rfl
theorem d0D(b:List UInt8)(r:AV):V3 (.str b) r os=(.str b,os):=rfl
theorem d0E(a:List AV):N7 (.agg a) cs=.agg cs:=rfl
theorem d0F(a b d e:Nat):N7 (.msl a b d e) cs=cs.headD .und:=rfl
theorem d0G(k:IntKind)(n:Int):N7 (.int k n) cs=cs.headD .und:=rfl
theorem a0p(b:Bool):N7 (.bool b) cs=cs.headD .und:=rfl
theorem d0H(b:List UInt8):N7 (.str b) cs=cs.headD .und:=rfl
theorem d0I(f:Bool):N7 (.fsl es f) cs=cs.headD .und:=rfl
theorem d0J(k sz:Nat):N7 (di k sz es) cs=cs.headD .und:=rfl
theorem d0K:N7 .x0a cs=cs.headD .und:=rfl
theorem a0q:(v::es).headD w=v:=rfl
theorem d0L(n:Nat):W2 n []=([],[]):=rfl
theorem a0r(n:Nat):W2 n (v::vs)=(N7 v (ed n v.cells).1::(W2 (n+lz (ed n v.cells).2) vs).1,(ed n v.cells).2++(W2 (n+lz (ed n v.cells).2) vs).2):=rfl
theorem d0M(n:Nat):ed n []=([],[]):=rfl
theorem d0N(n sz:Nat):ed n (di 0 sz es::cs)=(.msl n 0 (lz es) sz::(ed (n+1) cs).1,.row 0 es sz::(ed (n+1) cs).2):=rfl
theorem d0O(m:Nat)(k:IntKind)(n:Int):ed m (.int k n::cs)=(.int k n::(ed m cs).1,(ed m cs).2):=rfl
theorem a0s(m:Nat)(b:Bool):ed m (.bool b::cs)=(.bool b::(ed m cs).1,(ed m cs).2):=rfl
theorem d0P(m:Nat)(b:List UInt8):ed m (.str b::cs)=(.str b::(ed m cs).1,(ed m cs).2):=rfl
theorem E1{os' ps:List PO}{vs vs' us rs:List AV}(h1:J9 vs rs os=(vs',os'))(h2:(refsL vs').Nodup)(h3:W2 0 rs=(us,ps))(h4:renL (dk (refsL vs')) vs'=us)(h5:CW (refsL vs') os' (refsL vs')=ps):pe vs rs os:=by
 refine⟨?_,?_,?_⟩
 . grind
 . grind
 grind[lR]
theorem d0Q:gb os []=zs []:=rfl
theorem a0t:gb os (v::vs)=gu (viewA os v) (gb os vs):=rfl
theorem a0u(t:List AV):gu (zs v) (zs t)=zs (v::t):=rfl
theorem d0R(k:IntKind)(n:Int):viewA os (.int k n)=zs (.int k n):=rfl
theorem a0v(b:Bool):viewA os (.bool b)=zs (.bool b):=rfl
theorem d0S(k:IntKind)(n:Int):gh os (.int k n)=zs (.int k n):=rfl
theorem d0T(b:List UInt8):gh os (.str b)=zs (.str b):=rfl
def agO(l:Option (List AV)):Option AV:=match l with|some cs=>zs (.agg cs)|none=>zn
theorem ux:agO (zs cs)=zs (.agg cs):=rfl
theorem d0U:viewA os (.agg cs)=agO (og os cs):=rfl
theorem d0V:og os []=zs []:=rfl
theorem a0w:og os (v::vs)=gu (gh os v) (og os vs):=rfl
def HF(l:Option (List AV)):Option AV:=match l with|some es=>zs (Vx es)|none=>zn
theorem uy:HF (zs es)=zs (Vx es):=rfl
def PV(off n sz:Nat)(r:Option (Nat×List AV×Nat)):Option AV:=match r with
 |some (k,es,z)=>if k=0/\sz=z/\off+n<=lz es then HF (frzL ((es.drop off).take n))else zn
 |none=>zn
theorem wz(id off n sz:Nat):viewA os (.msl id off n sz)=PV off n sz (cd os 6 id):=by
 show(match cd os 6 id with|some (k,es,z)=>_|none=>zn)=_
 cases cd os 6 id<;>rfl
theorem pg(id off n sz:Nat):gh os (.msl id off n sz)=PV off n sz (cd os 6 id):=wz id off n sz
theorem uz{n sz z:Nat}(h1:sz=z)(h2:n=lz es):PV 0 n sz (zs (0,es,z))=HF (frzL es):=by
 simp_all[PV]
theorem d0W:frzL []=zs []:=rfl
theorem a0x:frzL (v::vs)=gu (ji v) (frzL vs):=rfl
theorem d0X(k:IntKind)(n:Int):ji (.int k n)=zs (.int k n):=rfl
theorem d0Y(b:List UInt8):ji (.str b)=zs (.str b):=rfl
theorem d0Z:ji (.agg cs)=agO (frzL cs):=rfl
theorem d00(k:IntKind)(n:Int):noF (.int k n)=zt:=rfl
theorem a0y(b:Bool):noF (.bool b)=zt:=rfl
theorem d01(b:List UInt8):noF (.str b)=zt:=rfl
theorem d02:noF (.agg cs)=noFL cs:=rfl
theorem d03(sz:Nat):noF (di 0 sz es)=noFL es:=rfl
theorem a0z:noFL []=zt:=rfl
theorem vd:noFL (v::es)=(noF v&&noFL es):=rfl
theorem d04:re []=zt:=rfl
theorem a0A:re (v::vs)=(v.cells.all (fun c=>(fe c).isSome||clo c)&&re vs):=rfl
theorem d05(k:IntKind)(n:Int):fe (.int k n)=zn:=rfl
theorem a0B(b:Bool):fe (.bool b)=zn:=rfl
end
noncomputable section
variable {E:Env}{fr:PF}{K K':PK}{v w x y c:AV}{vs es cs new:List AV}{te t:TI}{os l:List PO}{ids:List Nat}
theorem d06(k:IntKind)(n:Int):Gi (.int k n)=zt:=rfl
theorem a0C(b:Bool):Gi (.bool b)=zt:=rfl
theorem d07(b:List UInt8):Gi (.str b)=zt:=rfl
theorem d08(a b d e:Nat):Gi (.msl a b d e)=zt:=rfl
theorem d09:Gi .x0a=zt:=rfl
theorem f0V(f:Fn)(a b:List AV):Gi (.fn f a b)=zt:=rfl
theorem f0W(k sz:Nat):newRow k es sz K=⟨K.os++[.row k es sz],K.ext,K.tch⟩:=rfl
theorem f0X(B:lz v.cells=t.size)(C:v.cells.all Gi=zt):vC t v K=.val (.ptr (lz K.os) 0 0) ⟨K.os++[.row 1 [v] t.size],K.ext,K.tch⟩:=if_pos ⟨B,C⟩
theorem e0a(off:Nat):AV.x0f (.agg cs) off new=.agg (cs.take off++(new++cs.drop (off+lz new))):=by
 show AV.agg (O5 cs off new)=_
 grind[O5,I6,I5,M0,A4]
theorem e0b(k:IntKind)(n:Int):AV.x0f (.int k n) 0 [c]=c:=rfl
theorem a0D(b:Bool):AV.x0f (.bool b) 0 [c]=c:=rfl
theorem e0c:AV.x0f .x0a 0 [c]=c:=rfl
theorem e0d(a b d e:Nat):AV.x0f (.msl a b d e) 0 [c]=c:=rfl
def ND(e:Option PO):Bool:=match e with|some (.row 0 _ _)=>zf|some (.row _ _ _)=>zt|_=>zf
theorem f0Y(id:Nat):ez os id=ND os[id]?:=by
 grind[ez,ND]
theorem f0Z(sz:Nat):ND (zs (.row 0 es sz))=zf:=rfl
theorem f00(sz:Nat):ND (zs (.row 1 es sz))=zt:=rfl
theorem a0E(p i o:Nat):ND (zs (.sub p i o))=zf:=rfl
def NE(os:List PO)(n p i o:Nat)(es:List AV)(v:AV)(es':List AV)(c:Option (Nat×List AV×Nat)):Option (List PO):=match c with|some (k,_,sz)=>dg os n p (es.set i (od v o (di k sz es')))|none=>zn
def PW(os:List PO)(n p i o:Nat)(es:List AV)(es':List AV)(v:Option AV):Option (List PO):=match v with|some v=>NE os n p i o es v es' (GJ v.cells[o]?)|none=>zn
def PX(os:List PO)(n p i o:Nat)(es':List AV)(r:Option (Nat×List AV×Nat)):Option (List PO):=match r with|some (_,es,_)=>PW os n p i o es es' es[i]?|none=>zn
def srE(os:List PO)(n id:Nat)(es':List AV)(e:Option PO):Option (List PO):=match e with|some (.row k _ sz)=>zs (os.set id (.row k es' sz))|some (.sub p i o)=>PX os n p i o es' (cd os n p)|_=>zn
theorem f01(n id:Nat)(es':List AV):dg os (n+1) id es'=srE os n id es' os[id]?:=by
 conv=>lhs;unfold dg
 cases os[id]? with
 |none=>rfl
 | some e=>cases e with
  |sub p i o=>
   show(match cd os n p with|some (_,es,_)=>_|none=>zn)=PX os n p i o es' (cd os n p)
   cases cd os n p with
   |none=>rfl
   |some q=>
    obtain⟨k,es,z⟩:=q;show(match es[i]? with|some v=>_|none=>zn)=PW os n p i o es es' es[i]?
    cases es[i]? with
    |none=>rfl
    |some v=>
     show(match v.cells[o]? with|some c=>(match fe c with|some (k,_,sz)=>_|none=>zn)|none=>zn)=NE os n p i o es v es' (GJ v.cells[o]?)
     cases v.cells[o]? with
     |none=>rfl
     |some c=>
      show(match fe c with|some (k,_,sz)=>_|none=>zn)=NE os n p i o es v es' (fe c)
      cases fe c<;>rfl
  |_=>rfl
theorem a0F(n id k sz:Nat)(es':List AV):srE os n id es' (zs (.row k es sz))=zs (os.set id (.row k es' sz)):=rfl
theorem a0G(n id p i o:Nat)(es':List AV):srE os n id es' (zs (.sub p i o))=PX os n p i o es' (cd os n p):=rfl
theorem ve(n p i o k z:Nat)(es':List AV):PX os n p i o es' (zs (k,es,z))=PW os n p i o es es' es[i]?:=rfl
theorem vf(n p i o:Nat)(es':List AV):PW os n p i o es es' (zs v)=NE os n p i o es v es' (GJ v.cells[o]?):=rfl
theorem vg(n p i o k sz:Nat)(B es':List AV):NE os n p i o es v es' (zs (k,B,sz))=dg os n p (es.set i (od v o (di k sz es'))):=rfl
def GL(id:Nat)(K:PK)(os2:Option (List PO)):Option PK:=match os2 with|some os2=>zs ⟨os2,K.ext,cg K.os 6 id::K.tch⟩|none=>zn
def PY(t:TI)(id i off:Nat)(K:PK)(es:List AV)(v:AV)(r:Option (List AV×List PO)):Option PK:=match r with|some (cs,os1)=>GL id K (dg os1 6 id (es.set i (v.x0f off cs)))|none=>zn
def PZ(t:TI)(id i off:Nat)(x:AV)(K:PK)(es:List AV)(v:AV)(r:Option (List PO)):Option PK:=match r with|some os0=>PY t id i off K es v (fv K.ext (cg K.os 6 id) id i off os0 x.cells)|none=>zn
def NF(t:TI)(id i off:Nat)(x:AV)(K:PK)(es:List AV)(v:AV)(b:Bool):Option PK:=
 match b with
 |true=>GL id K (dg K.os 6 id (es.set i (v.x0f off x.cells)))
 |false=>PZ t id i off x K es v (dg (jg K.os id) 6 id (es.set i (v.x0f off (zqa t.size .und))))
def QA(t:TI)(id i off:Nat)(x:AV)(K:PK)(k sz:Nat)(es:List AV)(v:AV)(b:Bool):Option PK:=
 match b with
 |true=>if x.cells.all Gi=zt then zs ⟨K.os.set id (.row k (es.set i (v.x0f off x.cells)) sz),K.ext,id::K.tch⟩else zn
 |false=>NF t id i off x K es v (x.cells.all clo&&((v.cells.drop off).take t.size).all clo)
def QB(t:TI)(id i off:Nat)(x:AV)(K:PK)(k sz:Nat)(es:List AV)(v:Option AV):Option PK:=match v with
 |some v=>if lz x.cells=t.size/\0<t.size/\off+t.size<=sz then QA t id i off x K k sz es v (ez K.os id)else zn
 |none=>zn
def spR(t:TI)(id i off:Nat)(x:AV)(K:PK)(r:Option (Nat×List AV×Nat)):Option PK:=match r with|some (k,es,sz)=>QB t id i off x K k sz es es[i]?|none=>zn
theorem f02(id i off:Nat):iv t (.ptr id i off) x K=spR t id i off x K (cd K.os 6 id):=by
 unfold iv;show(match cd K.os 6 id with|some (k,es,sz)=>_|none=>zn)=_
 cases cd K.os 6 id with
 |none=>rfl
 |some q=>
  obtain⟨k,es,sz⟩:=q;show(match es[i]? with|some v=>_|none=>zn)=QB t id i off x K k sz es es[i]?
  cases es[i]? with
  |none=>rfl
  |some v=>
   show(if _ then _ else zn)=(if _ then _ else zn)
   split
   . cases ez K.os id with
     |true=>rfl
     |false=>
      show(if(x.cells.all clo&&((v.cells.drop off).take t.size).all clo)=zt then _ else _)=NF t id i off x K es v (x.cells.all clo&&((v.cells.drop off).take t.size).all clo)
      cases (x.cells.all clo&&((v.cells.drop off).take t.size).all clo)with
      |true=>
       show(match dg K.os 6 id _ with|some os2=>_|none=>zn)=GL id K (dg K.os 6 id _)
       cases dg K.os 6 id (es.set i (v.x0f off x.cells))<;>rfl
      |false=>
       show(match dg (jg K.os id) 6 id _ with|some B=>_|none=>zn)=PZ t id i off x K es v (dg (jg K.os id) 6 id _)
       cases dg (jg K.os id) 6 id (es.set i (v.x0f off (zqa t.size .und)))with
       |none=>rfl
       |some B=>
        show(match fv K.ext (cg K.os 6 id) id i off B x.cells with|some (cs,os1)=>_|none=>zn)=PY t id i off K es v (fv K.ext (cg K.os 6 id) id i off B x.cells)
        cases fv K.ext (cg K.os 6 id) id i off B x.cells with
        |none=>rfl
        |some q=>
         obtain⟨cs,os1⟩:=q;show(match dg os1 6 id _ with|some os2=>_|none=>zn)=GL id K (dg os1 6 id _)
         cases dg os1 6 id (es.set i (v.x0f off cs))<;>rfl
   . rfl
theorem vh(id i off k sz:Nat):spR t id i off x K (zs (k,es,sz))=QB t id i off x K k sz es es[i]?:=rfl
theorem vi{id i off k sz:Nat}(B:lz x.cells=t.size)(C:0<t.size)(D:off+t.size<=sz):QB t id i off x K k sz es (zs v)=QA t id i off x K k sz es v (ez K.os id):=if_pos ⟨B,C,D⟩
theorem vj{id i off k sz:Nat}(h:x.cells.all Gi=zt):QA t id i off x K k sz es v zt=zs ⟨K.os.set id (.row k (es.set i (v.x0f off x.cells)) sz),K.ext,id::K.tch⟩:=if_pos h
theorem sd(id i off k sz:Nat):QA t id i off x K k sz es v zf=NF t id i off x K es v (x.cells.all clo&&((v.cells.drop off).take t.size).all clo):=rfl
theorem vk(id i off:Nat):NF t id i off x K es v zt=GL id K (dg K.os 6 id (es.set i (v.x0f off x.cells))):=rfl
theorem se(id i off:Nat):NF t id i off x K es v zf=PZ t id i off x K es v (dg (jg K.os id) 6 id (es.set i (v.x0f off (zqa t.size .und)))):=rfl
theorem vm(id i off:Nat):PZ t id i off x K es v (zs os)=PY t id i off K es v (fv K.ext (cg K.os 6 id) id i off os x.cells):=rfl
theorem vn(id i off:Nat):PY t id i off K es v (zs (cs,os))=GL id K (dg os 6 id (es.set i (v.x0f off cs))):=rfl
theorem vo(id:Nat):GL id K (zs os)=zs ⟨os,K.ext,cg K.os 6 id::K.tch⟩:=rfl
theorem h0j:zqa 1 v=[v]:=rfl
def QC(c:AV)(r:Option (List AV×List PO)):Option (List AV×List PO):=match r with|some p=>zs (c::p.1,p.2)|none=>zn
def scM(ext r id i o:Nat)(os:List PO)(l:List AV)(q m sz:Nat)(e:Option PO):Option (List AV×List PO):=match e with
 |some (.row 0 es z)=>if m=lz es/\sz=z/\ext<=q/\q≠r then QC (di 0 sz es) (fv ext r id i (o+1) (os.set q (.sub id i o)) l)else zn
 |_=>zn
theorem e0e(ext r id i o:Nat):fv ext r id i o os []=zs ([],os):=rfl
theorem e0f{ext r id i o:Nat}(h:clo c=zt):fv ext r id i o os (c::cs)=QC c (fv ext r id i (o+1) os cs):=by
 conv=>lhs;unfold fv
 rw[h];show Option.map _ (fv ext r id i (o+1) os cs)=_
 cases fv ext r id i (o+1) os cs<;>rfl
theorem e0g(ext r id i o q m sz:Nat):fv ext r id i o os (.msl q 0 m sz::cs)=scM ext r id i o os cs q m sz os[q]?:=by
 conv=>lhs;unfold fv
 show(match os[q]? with|some (.row 0 es z)=>_|_=>zn)=_
 cases os[q]? with
 |none=>rfl
 | some e=>cases e with
  |row k es z=>
   cases k with
   |zero=>
    show(if _ then Option.map _ _ else zn)=(if _ then _ else zn)
    split
    . cases fv ext r id i (o+1) (os.set q (.sub id i o)) cs<;>rfl
    . rfl
   |succ=>rfl
  |_=>rfl
theorem a0H{ext r id i o q m sz z:Nat}(B:m=lz es)(C:sz=z)(D:ext<=q)(G:q≠r):scM ext r id i o os cs q m sz (zs (.row 0 es z))=QC (di 0 sz es) (fv ext r id i (o+1) (os.set q (.sub id i o)) cs):=if_pos ⟨B,C,D,G⟩
theorem vp(l:List AV):QC c (zs (l,os))=zs (c::l,os):=rfl
def NG(v:AV)(r:Option (List AV×PK)):Option (List AV×PK):=match r with|some (vs,K)=>zs (v::vs,K)|none=>zn
def QD(E:Env)(l:List ResultVar)(fr:PF)(o:OpS):Option (List AV×PK):=match o with | .val v K=>NG v (kq E l fr K)|_=>zn
def rsO(r:Option (List AV×PK)):Option PR:=match r with|some (vs,K)=>zs (.val vs K)|none=>zn
theorem vq:NG v (zs (vs,K))=zs (v::vs,K):=rfl
theorem a0I(l:List ResultVar):QD E l fr (.val v K)=NG v (kq E l fr K):=rfl
theorem vt:rsO (zs (vs,K))=zs (.val vs K):=rfl
theorem h0k:kq E [] fr K=zs ([],K):=rfl
theorem e0h(t:Nat)(l:List ResultVar):kq E (.tmp t::l) fr K=NG (FR fr t) (kq E l fr K):=by
 show(match kq E l fr K with|some (vs,K)=>zs (FR fr t::vs,K)|none=>zn)=_
 cases kq E l fr K<;>rfl
theorem a0J(a t:Nat)(l:List ResultVar):kq E (.cell a t::l) fr K=QD E l fr (c9 E t fun ti=>Kx (oe ti (FR fr a) K)):=by
 show(match E.ti t with|some ti=>_|none=>zn)=QD E l fr (match E.ti t with|some ti=>_|none=>OpS.bad)
 grind[QD,Kx,NG]
theorem sg(rs:List ResultVar):wD E rs (zs (.ok .ret fr K))=rsO (kq E rs fr K):=by
 show(match kq E rs fr K with|some (vs,K)=>_|none=>zn)=_
 cases kq E rs fr K<;>rfl
theorem qn(rs:List ResultVar):wD E rs (zs (.ok .normal fr K))=rsO (kq E rs fr K):=by
 show(match kq E rs fr K with|some (vs,K)=>_|none=>zn)=_
 cases kq E rs fr K<;>rfl
def Ck{X:Type}(a r:X->List AV)(ok:X->Prop):List AV->Option (List AV):=fun args=>open Classical in if h:∃x,ok x/\a x=args then zs (r (Classical.choose h))else zn
theorem F2{X:Type}{a r:X->List AV}{ok:X->Prop}(hi:∀x y,a x=a y->r x=r y)(x:X)(h:ok x):Ck a r ok (a x)=zs (r x):=by
 have hx:∃y,ok y/\a y=a x:=⟨x,h,rfl⟩
 grind[Ck]
theorem dC{X:Type}{a r:X->List AV}{ok:X->Prop}{args rs:List AV}(h:Ck a r ok args=zs rs):∃x,ok x/\a x=args/\r x=rs:=by
 unfold Ck at h;split at h
 . grind
 . cases h
theorem F9{P:PE}(B:ep P){f:Nat}{X:Type}{a r:X->List AV}{ok:X->Prop}(H:∀x,ok x->eo P f (a x) (r x)):TC P.E f (Ck a r ok):=
 CP B fun args rs hg=>by obtain⟨x,C,rfl,rfl⟩:=dC hg;exact H x C
theorem As{X:Type}{f g:X->AV}(h:∀x,ji (f x)=zs (g x)):∀l:List X,frzL (l.map f)=zs (l.map g)
 |[]=>rfl
 |x::l=>by
  show gu (ji (f x)) (frzL (l.map f))=_
  rw[h,As h l];rfl
theorem a0K:Gi (Vx es)=zt:=rfl
theorem a0L:AV.cells (Vx es)=[Vx es]:=rfl
theorem a0M:O4 (Vx es)=[]:=rfl
theorem a0N{σ:Nat->Option Nat}:J7 σ (Vx es)=Vx es:=rfl
theorem a0O:ji (Vx es)=HF (frzL es):=rfl
theorem a0P:viewA os (Vx es)=HF (frzL es):=rfl
theorem a0Q:gh os (Vx es)=HF (frzL es):=rfl
theorem a0R:Kx (qN (Vx es) K)=.val (.int .i64 (lz es:Int)) K:=ww _ _
theorem js{k:IntKind}{i:Nat}(h:es[i]?=zs v)(B:lz v.cells=te.size):Xk te (Vx es) (.int k (i:Int))=zs (.fptr v 0):=wx h B
theorem a0S:N7 (Vx es) cs=cs.headD .und:=rfl
theorem a0T{ext:Nat}{tc:List Nat}(h:G1 te.size es=zt):kj te (Vx es) ext tc os=zs (es,os):=if_pos h
theorem h0l(o d:Nat):C0 (.fptr v o) d=zs (.fptr v (o+d)):=C1 (Nat.add o d) (fun q=>zs (AV.fptr v q))
theorem h0m(id i o d:Nat):C0 (.ptr id i o) d=zs (.ptr id i (o+d)):=C1 (Nat.add o d) (fun q=>zs (AV.ptr id i q))
theorem e0i(id i off:Nat):PN id i off K (zs w)=.val (N7 w (dz id i off (lz K.os) w.cells).1) ⟨K.os++(dz id i off (lz K.os) w.cells).2,K.ext,K.tch⟩:=rfl
theorem e0j(id i m nx:Nat):dz id i m nx []=([],[]):=rfl
theorem e0k(id i m nx sz:Nat):dz id i m nx (di 0 sz es::cs)=(.msl nx 0 (lz es) sz::(dz id i (m+1) (nx+1) cs).1,.sub id i m::(dz id i (m+1) (nx+1) cs).2):=rfl
theorem e0l(id i m nx:Nat)(k:IntKind)(n:Int):dz id i m nx (.int k n::cs)=(.int k n::(dz id i (m+1) nx cs).1,(dz id i (m+1) nx cs).2):=rfl
theorem a0U(id i m nx:Nat)(b:Bool):dz id i m nx (.bool b::cs)=(.bool b::(dz id i (m+1) nx cs).1,(dz id i (m+1) nx cs).2):=rfl
theorem e0m(id i m nx:Nat)(b:List UInt8):dz id i m nx (.str b::cs)=(.str b::(dz id i (m+1) nx cs).1,(dz id i (m+1) nx cs).2):=rfl
theorem e0n(id i m nx:Nat)(f:Bool):dz id i m nx (.fsl es f::cs)=(.fsl es f::(dz id i (m+1) nx cs).1,(dz id i (m+1) nx cs).2):=rfl
theorem a0V(id i m nx:Nat):dz id i m nx (Vx es::cs)=(Vx es::(dz id i (m+1) nx cs).1,(dz id i (m+1) nx cs).2):=rfl
theorem e0o(id i m nx:Nat)(a b d e:Nat):dz id i m nx (.msl a b d e::cs)=(.msl a b d e::(dz id i (m+1) nx cs).1,(dz id i (m+1) nx cs).2):=rfl
theorem e0p(id i m nx:Nat):dz id i m nx (.x0a::cs)=(.x0a::(dz id i (m+1) nx cs).1,(dz id i (m+1) nx cs).2):=rfl
theorem f03(id i m nx:Nat)(f:Fn)(a b:List AV):dz id i m nx (.fn f a b::cs)=(.fn f a b::(dz id i (m+1) nx cs).1,(dz id i (m+1) nx cs).2):=rfl
theorem f04(f:Fn)(a b:List AV):N7 (.fn f a b) cs=cs.headD .und:=rfl
theorem f05(f:Fn)(a b:List AV):AV.cells (.fn f a b)=[.fn f a b]:=rfl
def bsE(te:TI)(n:Nat)(ps:List (Nat×AV))(K:PK)(r:Option PK):Option (AV×PK):=match r with
 |some K1=>zs (.msl (lz K.os) 0 n te.size,K1)
 | none=>match nu te.size ps (zqa n te.zero)with
  |some es=>zs (.msl (lz K.os) 0 n te.size,newRow 2 es te.size K)
  |none=>zn
theorem f06{n:Nat}{ps:List (Nat×AV)}(B:n*te.size<=65536)(C:0<te.size):Bz te n ps K=bsE te n ps K (jo te (lz K.os) ps (newRow 0 (zqa n te.zero) te.size K)):=by
 unfold Bz;rw[if_pos ⟨B,C⟩];rfl
theorem vu(n:Nat)(ps:List (Nat×AV)):bsE te n ps K (zs K')=zs (.msl (lz K.os) 0 n te.size,K'):=rfl
def plE(te:TI)(id:Nat)(l:List (Nat×AV))(r:Option PK):Option PK:=match r with|some K=>jo te id l K|none=>zn
theorem e0q(id:Nat):jo te id [] K=zs K:=rfl
theorem a0W{id i:Nat}{l:List (Nat×AV)}(h:My v=My te.zero):jo te id ((i,v)::l) K=plE te id l (iv te (.ptr id i 0) v K):=by
 conv=>lhs;unfold jo
 rw[if_pos h];cases iv te (.ptr id i 0) v K<;>rfl
theorem vy(id:Nat)(l:List (Nat×AV)):plE te id l (zs K)=jo te id l K:=rfl
theorem h0n:zqa 0 v=[]:=rfl
theorem h0o:zqa 2 v=[v,v]:=rfl
theorem h0p:zqa 5 v=[v,v,v,v,v]:=rfl
theorem h0q:zqa 7 v=[v,v,v,v,v,v,v]:=rfl
theorem h0r:zqa 8 v=[v,v,v,v,v,v,v,v]:=rfl
def NH(y:AV)(os:List PO)(sz:Nat)(es:List AV):Prop:=(es=[]/\y=.x0a/\os=[])\/(y=.msl 0 0 (lz es) sz/\os=[.row 0 es sz])
theorem F3{y:AV}{os:List PO}{sz:Nat}{es:List AV}(h:NH y os sz es):pe [y] [di 0 sz es] os:=by
 rcases h with⟨rfl,rfl,rfl⟩|⟨rfl,rfl⟩
 . exact E1 (vs':=[.msl 0 0 0 sz]) (os':=[.row 0 [] sz]) rfl (by show [0].Nodup;decide) (us:=[.msl 0 0 0 sz]) (ps:=[.row 0 [] sz]) rfl rfl rfl
 . exact E1 (vs':=[.msl 0 0 (lz es) sz]) (os':=[.row 0 es sz]) rfl (by show [0].Nodup;decide) (us:=[.msl 0 0 (lz es) sz]) (ps:=[.row 0 es sz]) rfl rfl rfl
theorem e0r{n:Nat}{l:List XOp}(h:(K.tch.all fun i=>decide (n<=i))=zt):Ca n l K=zt:=by grind[Ca]
def wH(off sz:Nat)(v:AV)(cs:List AV):Option (List AV):=if lz v.cells=sz/\off+sz<=lz cs/\v.cells.all Gi=zt then zs (cs.take off++(v.cells++cs.drop (off+lz v.cells)))else zn
theorem f07{off sz:Nat}(B:lz v.cells=sz)(C:off+sz<=lz cs)(D:v.cells.all Gi=zt):wH off sz v cs=zs (cs.take off++(v.cells++cs.drop (off+lz v.cells))):=if_pos ⟨B,C,D⟩
theorem wI:∀l:List AV,E4 l=l.all Gi
 |[]=>rfl
 |c::l=>by
  show(bif ff c then E4 l else zf)=(Gi c&&l.all Gi)
  rw[wI l];cases c<;>rfl
def QE(place:Nat->Option (Nat×Nat))(ps:List (Nat×AV))(r:Option (List AV)):Option (List AV):=match r with|some cs=>U9 place ps cs|none=>zn
theorem vz(place:Nat->Option (Nat×Nat))(ps:List (Nat×AV)):QE place ps (zs cs)=U9 place ps cs:=rfl
theorem e0s(place:Nat->Option (Nat×Nat)):U9 place [] cs=zs cs:=rfl
def fbP(place:Nat->Option (Nat×Nat))(v:AV)(ps:List (Nat×AV))(cs:List AV)(q:Option (Nat×Nat)):Option (List AV):=match q with|some q=>QE place ps (wH q.1 q.2 v cs)|none=>zn
theorem wa(place:Nat->Option (Nat×Nat))(ps:List (Nat×AV))(a b:Nat):fbP place v ps cs (zs (a,b))=QE place ps (wH a b v cs):=rfl
theorem a0X(place:Nat->Option (Nat×Nat))(i:Nat)(ps:List (Nat×AV)):U9 place ((i,v)::ps) cs=fbP place v ps cs (place i):=by
 show A5 (place i) (fun q=>B5 (Nat.beq (dw v.cells) q.2&&Nat.ble (Nat.add q.1 q.2) (dw cs)&&E4 v.cells) (U9 place ps (O5 cs q.1 v.cells)))=_
 cases place i with
 |none=>rfl
 |some q=>
  show B5 _ _=QE place ps (if _ then _ else zn)
  rw[A4,A4,wI];by_cases C:lz v.cells=q.2
  . by_cases B:q.1+q.2<=lz cs
    . cases h3:v.cells.all Gi with
      |false=>rw[if_neg (fun h=>absurd h.2.2 (by decide)),Bool.and_false];rfl
      |true=>
       rw[if_pos ⟨C,B,rfl⟩];have e1:Nat.beq (lz v.cells) q.2=zt:=by simp_all
       have e2:Nat.ble (Nat.add q.1 q.2) (lz cs)=zt:=zqo B;rw[e1,e2];show U9 place ps (O5 cs q.1 v.cells)=U9 place ps _
       grind[O5,I6,I5,M0,A4]
    . have e2:Nat.ble (Nat.add q.1 q.2) (lz cs)=zf:=by
       cases hb:Nat.ble (Nat.add q.1 q.2) (lz cs) with
       |false=>rfl
       |true=>exact absurd (Nat.le_of_ble_eq_true hb) B
      rw[if_neg (fun h=>B h.2.1),e2,Bool.and_false];rfl
  . have e1:Nat.beq (lz v.cells) q.2=zf:=by
     grind[zqp]
    rw[if_neg (fun h=>C h.1),e1];rfl
def HG(l:Option (List AV)):Option AV:=l.map .agg
theorem wb:HG (zs cs)=zs (.agg cs):=rfl
def NI(K:PK)(r:Option PR):Option PR:=match r with
 |some (.val vs K1)=>zs (.val vs ⟨K1.os,K.ext,K1.tch++K.tch⟩)
 |some (.pan v K1)=>zs (.pan v ⟨K1.os,K.ext,K1.tch++K.tch⟩)
 |_=>zn
theorem wc(vs:List AV):NI K (zs (.val vs K'))=zs (.val vs ⟨K'.os,K.ext,K'.tch++K.tch⟩):=rfl
theorem g9{T:Nat->Option (List AV->Option (List AV))}{F:Nat->Option PFn}{f:Nat}{args:List AV}(B:T f=zn)(C:ox (F f)=zt):evP ⟨E,T,F⟩ (.call f args K)=NI K (evP ⟨E,T,F⟩ (.body f args ⟨K.os,lz K.os,[]⟩)):=by
 rw[evP,evG];show(match T f with|some g=>_|none=>_)=_
 rw[B];dsimp only;show(match ox (F f)with|true=>_|false=>_)=_
 rw[C];dsimp only;cases evP ⟨E,T,F⟩ (.body f args ⟨K.os,lz K.os,[]⟩)with
 |none=>rfl
 |some r=>cases r<;>rfl
structure si(put:List AV->List PO)(id sz:Nat):Prop where
 row:∀es,cd (put es) 6 id=zs (0,es,sz)
 set:∀es es',dg (put es) 6 id es'=zs (put es')
 raw:∀es,ez (put es) id=zf
def wpE(off n:Nat)(r:Option (Nat×List AV×Nat)):Bool:=match r with|some (_,es,_)=>off==0&&n==lz es|none=>zf
theorem f08(id off n sz:Nat):jm (.msl id off n sz) os=wpE off n (cd os 6 id):=by
 show(match cd os 6 id with|some (_,es,_)=>_|none=>zf)=_
 cases cd os 6 id<;>rfl
theorem wd{n k z:Nat}(h:n=lz es):wpE 0 n (zs (k,es,z))=zt:=by
 show((0:Nat)==0&&n==lz es)=zt
 rw[h];simp
theorem a0Y{s:AV}{base:List AV}{os2:List PO}{tc:List Nat}(h0:jm s K.os=zt)(hz:lz base*te.bytes<=140737488355328):
 GI te s K base tc (zs ([],os2))=zs (.msl (lz os2) 0 (lz base) te.size,⟨os2++[.row 0 base te.size],K.ext,lz os2::tc++K.tch⟩):=by
 simp_all[GI,qh]
theorem Wg(os:List PO):∀(l:List PO)(n:Nat),kn os [] n l=l
 |[],n=>rfl
 |e::l,n=>by
  unfold kn;rw[Wg os l (n+1)];grind
theorem lS{T:Nat->Option (List AV->Option (List AV))}{F:Nat->Option PFn}{f:Nat}{args vs:List AV}{tch:List Nat}(B:T f=zn)(C:ox (F f)=zf)(D:refsL args=[])(hn:renL (dk []) args=args)
 (hb:evP ⟨E,T,F⟩ (.body f args ⟨[],0,[]⟩)=zs (.val vs ⟨[],0,tch⟩))(hv:renL (dt [] (lz K.os)) vs=vs):evP ⟨E,T,F⟩ (.call f args K)=zs (.val vs K):=by
 rw[evP,evG];show(match T f with|some g=>_|none=>_)=_
 rw[B];dsimp only;show(match ox (F f)with|true=>_|false=>_)=_
 rw[C];dsimp only;have G:eu args K=[]:=by unfold eu;rw[D];rfl
 rw[G,hn];have I:ke [] K=⟨[],0,[]⟩:=rfl;rw[I,hb];show(match jp [] K ⟨[],0,tch⟩with|some K'=>zs (PR.val (renL (dt [] (lz K.os)) vs) K')|none=>zn)=_
 have J:jp [] K ⟨[],0,tch⟩=zs K:=by
  unfold jp im;rw[if_pos (by rfl),Wg]
  have:(tch.filter fun x=>decide (x<lz ([]:List Nat)))=[]:=by
   simp_all
  simp only[this];simp
 rw[J,hv]
end
noncomputable section
variable {E:Env}{fr:PF}{K K' K1 Kf:PK}{v w x y c:AV}{vs es cs new:List AV}{te t:TI}{os l:List PO}{ids:List Nat}
theorem ro5(os:List PO)(id:Nat):cd os 5 id=NC os 4 os[id]?:=CV os 4 id
theorem a0Z(l:List Nat):l.filter (fun _=>zf)=[]:=by simp
theorem Dt{T:Nat->Option (List AV->Option (List AV))}{F:Nat->Option PFn}{f:Nat}{args B vs vs':List AV}(C:T f=zn)(D:ox (F f)=zf)(hi:eu args K=ids)(ha:renL (dk ids) args=B)(G:ke ids K=Kf)
 (hb:evP ⟨E,T,F⟩ (.body f B Kf)=zs (.val vs K1))(hm:jp ids K K1=zs K')(hv:renL (dt ids (lz K.os)) vs=vs'):evP ⟨E,T,F⟩ (.call f args K)=zs (.val vs' K'):=by
 rw[evP,evG];show(match T f with|some g=>_|none=>_)=_
 rw[C];dsimp only;show(match ox (F f)with|true=>_|false=>_)=_
 rw[D];dsimp only;rw[hi,ha,G,hb];show(match jp ids K K1 with|some K'=>zs (PR.val (renL (dt ids (lz K.os)) vs) K')|none=>zn)=_
 rw[hm,hv]
def rtQ(e:Option PO):Bool:=match e with|some (.row _ _ _)=>zt|_=>zf
theorem e0t{os:List PO}{id:Nat}:CJ os id=rtQ os[id]?:=rfl
theorem a00{k sz:Nat}{es:List AV}:rtQ (zs (.row k es sz))=zt:=rfl
end
noncomputable section
def gF(P:PE)(n f:Nat)(args:List AV):Option (List AV):=match evF P n (.body f args K0)with
 |some (.val [.bool b] ⟨[],_,_⟩)=>zs [.bool b]
 |some (.val [.msl 0 0 m sz] ⟨[.row 0 es z],_,_⟩)=>if m=lz es/\sz=z then zs [di 0 sz es]else zn
 |_=>zn
def wJ(T:Nat->Option (List AV->Option (List AV)))(f:Nat)(g:List AV->Option (List AV))(k:Nat):Option (List AV->Option (List AV)):=bif Nat.beq k f then zs g else T k
theorem Bh{E:Env}{T:Nat->Option (List AV->Option (List AV))}{F:Nat->Option PFn}{f:Nat}{g:List AV->Option (List AV)}(B:ep ⟨E,T,F⟩)(h:TC E f g):ep ⟨E,wJ T f g,F⟩:=by
 refine⟨B.gl,B.ti,fun k q e=>?_,B.fn⟩;have e:(bif Nat.beq k f then zs g else T k)=zs q:=e;cases hb:Nat.beq k f with
 |true=>rw[hb]at e;cases e;rw[zqp hb];exact h
 |false=>rw[hb]at e;exact B.T k q e
def wP(q:AV->AV->Bool):List AV->List AV->Bool
 |[],[]=>zt
 |a::l,b::m=>q a b&&wP q l m
 |_,_=>zf
def zG:Nat->AV->AV->Bool
 |0,_,_=>zf
 | n+1,a,b=>match a,b with
  |.int k x,.int j y=>decide (k=j/\x=y)
  |.bool x,.bool y=>decide (x=y)
  |.str x,.str y=>decide (x=y)
  |.agg x,.agg y=>wP (zG n) x y
  |.tup x,.tup y=>wP (zG n) x y
  |.fsl x f,.fsl y g=>wP (zG n) x y&&decide (f=g)
  |.ptr x y z,.ptr u v w=>decide (x=u/\y=v/\z=w)
  |.msl x y z t,.msl u v w s=>decide (x=u/\y=v/\z=w/\t=s)
  |.x0a,.x0a=>zt
  |.x0c,.x0c=>zt
  |_,_=>zf
theorem Kw{q:AV->AV->Bool}(h:∀a b,q a b=zt->a=b):∀{l m:List AV},wP q l m=zt->l=m
 |[],[],_=>rfl
 |[],_::_,e=>by cases e
 |_::_,[],e=>by cases e
 |a::l,b::m,e=>by
  have e:(q a b&&wP q l m)=zt:=e;rw[zqm]at e;rw[h _ _ e.1,Kw h e.2]
theorem Pj:∀(n:Nat)(a b:AV),zG n a b=zt->a=b
 |0,_,_,e=>by cases e
 |n + 1,a,b,e=>by
  unfold zG at e;split at e
  . obtain⟨rfl,rfl⟩:=of_decide_eq_true e;rfl
  . rw[of_decide_eq_true e]
  . rw[of_decide_eq_true e]
  . rw[Kw (Pj n) e]
  . rw[Kw (Pj n) e]
  . rw[zqm]at e
    rw[Kw (Pj n) e.1,of_decide_eq_true e.2]
  . obtain⟨rfl,rfl,rfl⟩:=of_decide_eq_true e;rfl
  . obtain⟨rfl,rfl,rfl,rfl⟩:=of_decide_eq_true e;rfl
  . rfl
  . rfl
  . cases e
def CX:List PO->List PO->Bool
 |[],[]=>zt
 |.row k es z::l,.row j fs y::m=>decide (k=j/\z=y)&&wP (zG 12) es fs&&CX l m
 |_,_=>zf
theorem lT:∀{l m:List PO},CX l m=zt->l=m
 |[],[],_=>rfl
 |[],_::_,e=>by cases e
 |.row k es z::l,m,e=>by
  cases m with
  |nil=>cases e
  |cons b m=>
   cases b<;>first|(cases e;done)|skip
   rename_i j fs y;have e:(decide (k=j/\z=y)&&wP (zG 12) es fs&&CX l m)=zt:=e;rw[zqm,zqm]at e;obtain⟨⟨e1,e2⟩,e3⟩:=e;obtain⟨rfl,rfl⟩:=of_decide_eq_true e1;rw[Kw (Pj 12) e2,lT e3]
 |.mapo _::_,_,e=>by unfold CX at e;cases e
 |.sub _ _ _::_,_,e=>by unfold CX at e;cases e
 | .dead::_,_,e=>by unfold CX at e;cases e
def NJ(os:List PO)(c:AV):AV:=match c with
 |.msl id _ _ _=>(match os[id]? with|some (.row 0 es sz)=>di 0 sz es|_=>c)
 |_=>c
def CY(os:List PO)(v:AV):AV:=N7 v (v.cells.map (NJ os))
def NK(vs rs:List AV)(os:List PO):Bool:=
 decide (refsL vs).Nodup&&wP (zG 12) (renL (dk (refsL vs)) vs) (W2 0 rs).1&&CX ((refsL vs).map fun id=>dp (dk (refsL vs)) (dr os id)) (W2 0 rs).2
theorem qH(c:AV)(os o:List PO):V3 c (NJ os c) o=(c,o):=by
 cases c<;>rfl
theorem Wh:∀(cs:List AV)(os o:List PO),L4 cs (cs.map (NJ os)) o=(cs,o)
 |[],_,_=>rfl
 |c::cs,os,o=>by
  rw[zqg];unfold L4;rw[qH,Wh cs os o]
theorem qI(v:AV)(os o:List PO):X7 v (CY os v) o=(v,o):=by
 have h:(CY os v).cells=v.cells.map (NJ os):=by
  unfold CY;cases v<;>first|rfl|skip
  unfold AV.cells NJ;dsimp only[List.map];split<;>rfl
 unfold X7;rw[h,Wh];cases v<;>rfl
theorem aL:∀(vs:List AV)(os o:List PO),J9 vs (vs.map (CY os)) o=(vs,o)
 |[],_,_=>rfl
 |v::vs,os,o=>by
  rw[zqg];unfold J9;rw[qI,aL vs os o]
def gG(P:PE)(n f:Nat)(args:List AV):Option (List AV):=match evF P n (.body f args K0)with
 |some (.val vs K1)=>if NK vs (vs.map (CY K1.os)) K1.os=zt then zs (vs.map (CY K1.os))else zn
 |_=>zn
theorem Ql{P:PE}(C:ep P)(n f:Nat):TC P.E f (gG P n f):=CP C fun args rs hg=>by
 unfold gG at hg;split at hg
 . rename_i vs K1 e
   split at hg
   . rename_i h
     cases hg;have B:=h;unfold NK at B;rw[zqm,zqm]at B;obtain⟨⟨D,G⟩,I⟩:=B;have hc:=aL vs K1.os K1.os;exact⟨_,_,kV e,⟨by rw[hc];exact of_decide_eq_true D,by rw[hc];exact Kw (Pj 12) G,by rw[hc];exact lT I⟩⟩
   . cases hg
 . cases hg
def rbK(vs rs:List AV)(os:List PO):Bool:=
 decide (refsL (J9 vs rs os).1).Nodup&&wP (zG 12) (renL (dk (refsL (J9 vs rs os).1)) (J9 vs rs os).1) (W2 0 rs).1&&CX ((refsL (J9 vs rs os).1).map fun id=>dp (dk (refsL (J9 vs rs os).1)) (dr (J9 vs rs os).2 id)) (W2 0 rs).2
theorem GM{vs rs:List AV}{os:List PO}(h:rbK vs rs os=zt):pe vs rs os:=by
 unfold rbK at h;rw[zqm,zqm]at h;obtain⟨⟨B,C⟩,D⟩:=h;exact⟨of_decide_eq_true B,Kw (Pj 12) C,lT D⟩
def f09(a:AV):AV:=match a with | .fsl [] zt=>.fsl [] zf|y=>y
def NL(P:PE)(n f:Nat)(args rs:List AV)(a:AV):Bool:=match evF P n (.body f (a::args) K0)with
 |some (.val vs K1)=>rbK vs rs K1.os
 |_=>zf
def QF(P:PE)(n f:Nat)(l:List AV):Option (List AV):=match l with
 |[]=>zn
 | a::args=>match evF P n (.body f (f09 a::args) K0)with
  |some (.val vs K1)=>if(mw a).all (NL P n f args (vs.map (CY K1.os)))=zt then zs (vs.map (CY K1.os))else zn
  |_=>zn
theorem wK{P:PE}(B:ep P)(n f:Nat):TC P.E f (QF P n f):=lN B (fun a args rs hg C ha=>by
 unfold QF at hg;dsimp only at hg;split at hg
 . rename_i vs K1 e
   split at hg
   . rename_i h
     cases hg;have h:=zqf.1 h C ha;unfold NL at h;split at h
     . rename_i vs' K1' D
       exact⟨_,_,kV D,GM h⟩
     . cases h
   . cases hg
 . cases hg) rfl
theorem lU{P:PE}{n f:Nat}(e:evF P n (.body f [] K0)=zs (.val [.bool zt] ⟨[],0,[]⟩)):eo P f [] [.bool zt]:=⟨_,_,kV e,E1 rfl List.nodup_nil rfl rfl rfl⟩
end
open Go.ChangeShapes Go.WideShapes Go.ChangeAt
section
variable {H:Type}{enc:TypeId×Value->H}{P:Program}{W:World}{base:Nat}{spare:Nat->Bool}{held:Bool}
def GN(P:Program):Nat->List Field->Prop
 |_,[]=>True
 |o,f::fs=>f.offset=o/\GN P (o+P.cellsOf f.type) fs
theorem nS{see:TypeId->DataW H->Option (List AV)}:∀(fs:List Field)(ds:List (DataW H))(B:List (List AV))(o:Nat),lz ds=lz fs->lz B=lz fs ->
 (∀(i:Nat) f d s,fs[i]?=zs f->ds[i]?=zs d->B[i]?=zs s->see f.type d=zs s/\lz s=P.cellsOf f.type)->GN P o fs->dF P see o fs ds=zs B.flatten
 |[],ds,B,o,h1,h2,h3,h4=>by
  have:ds=[]:=zqh h1
  have:B=[]:=zqh h2
  subst_vars;rfl
 |f :: fs,ds,B,o,h1,h2,h3,h4=>by
  cases ds with
  |nil=>cases h1
  |cons d ds=>
   cases B with
   |nil=>cases h2
   |cons s B=>
    obtain⟨D,G⟩:=h3 0 f d s rfl rfl rfl;have C:=nS fs ds B (o+P.cellsOf f.type) (by simpa using h1) (by simpa using h2) (fun i f d s a b c=>h3 (i+1) f d s (by simpa using a) (by simpa using b) (by simpa using c)) h4.2;show(bif Nat.beq f.offset o then A5 (see f.type d) fun a=>bif Nat.beq (dw a) (P.cellsOf f.type)then A5 (dF P see (Nat.add o (P.cellsOf f.type)) fs ds) fun r=>zs (ma a r)else zn else zn)=_
    rw[h4.1,zqn,D];show(bif Nat.beq (dw s) (P.cellsOf f.type)then A5 (dF P see (o+P.cellsOf f.type) fs ds) fun r=>zs (ma s r)else zn)=_
    rw[A4,G,zqn,C];show zs (ma s B.flatten)=_
    rw[M0];rfl
theorem s8:∀(ts:List TypeId)(ds:List (DataW H))(i:Nat) t d w,ts[i]?=zs t->ds[i]?=zs d->w∈d.weights P t->w∈DataW.weightsEach P ts ds
 |[],ds,i,t,d,w,h1,_,_=>by simp at h1
 |t0::ts,[],i,t,d,w,_,h2,_=>by simp at h2
 |t0::ts,d0::ds,0,t,d,w,h1,h2,h3=>by
  cases h1;cases h2;unfold DataW.weightsEach;exact zqi _ h3
 |t0::ts,d0::ds,i+1,t,d,w,h1,h2,h3=>by
  unfold DataW.weightsEach;exact zqj _ (s8 ts ds i t d w (by simpa using h1) (by simpa using h2) h3)
theorem Gt:∀(ds:List (DataW H))(e:TypeId)(i:Nat) d w,ds[i]?=zs d->w∈d.weights P e->w∈DataW.weightsAll P e ds
 |[],e,i,d,w,h,_=>by simp at h
 |d0::ds,e,0,d,w,h,hw=>by
  cases h;unfold DataW.weightsAll;exact zqi _ hw
 |d0::ds,e,i+1,d,w,h,hw=>by
  unfold DataW.weightsAll;exact zqj _ (Gt ds e i d w (by simpa using h) hw)
def Wt(P:Program)(t:TypeId)(d:DataW H):Prop:=∀w∈d.weights P t,w<=reachBytes
theorem iG{t:TypeId}{fs:Array Field}(Q:P.underlying t=zs (.struct fs)){n:Nat}{cs:List Value}{d:DataW H}{ps:List MemPlace}(h:DataW.trod enc P W base spare held n t cs=zs (d,ps))(V:Wt P t d):
 ∃ds,d=.agg ds/\lz ds=lz fs.toList/\∀(i:Nat) f,fs.toList[i]?=zs f->∃G n' I J,ds[i]?=zs G/\DataW.trod enc P W base spare held n' f.type I=zs (G,J)/\Wt P f.type G:=by
 obtain⟨xs,n',rfl,e,hcl,D,X⟩:=DataW.trod_struct Q h;cases e;refine⟨xs.map (·.1),rfl,by simpa using D,fun i f hf=>?_⟩;have C:fs[i]?=zs f:=by simpa using hf
 have hi:i<lz xs:=by rw[D];exact(Array.getElem?_eq_some_iff.1 C).1
 have B:xs[i]?=zs xs[i]:=zqd hi;have U:=X i f C;rw[B]at U;refine⟨xs[i].1,n',_,xs[i].2,by rw[zqb,B];rfl,U,fun w N=>V w ?_⟩;unfold DataW.weights;rw[Q];exact s8 _ _ i _ _ w (by rw[zqb,hf];rfl) (by rw[zqb,B];rfl) N
def Xl{α:Type}(P:Program)(e:TypeId)(Q:List AV->α->Prop)(v:AV)(l:List α):Prop:=
 ((v=.x0a/\l=[])\/∃rs:List (List AV),v=.fsl (rs.map (my P e)) zf/\lz rs=lz l/\∀(i:Nat) r X,rs[i]?=zs r->l[i]?=zs X->Q r X)/\lz l*P.bytesOf e<=reachBytes
theorem nT{α:Type}{see:DataW H->Option (List AV)}{Q:List AV->α->Prop}:∀(ds:List (DataW H)),(∀(i:Nat) d,ds[i]?=zs d->∃B X,see d=zs B/\Q B X)->∃(rs:List (List AV))(l:List α),iL see ds=zs rs/\lz rs=lz ds/\lz l=lz ds/\∀(i:Nat) r X,rs[i]?=zs r->l[i]?=zs X->Q r X
 |[],_=>⟨[],[],rfl,rfl,rfl,fun i r X h=>by simp at h⟩
 |d :: ds,h=>by
  obtain⟨B,X,I,J⟩:=h 0 d rfl;obtain⟨rs,l,N,U,V,h6⟩:=nT ds fun i d G=>h (i+1) d (by simpa using G)
  refine⟨B::rs,X::l,?_,by simp[U],by simp[V],fun i r Y C D=>?_⟩
  . show A5 (see d) (fun a=>A5 (iL see ds) fun r=>zs (a::r))=_
    rw[I,N];rfl
  . cases i with
    |zero=>cases C;cases D;exact J
    |succ i=>exact h6 i r Y (by simpa using C) (by simpa using D)
theorem Aa{α:Type}{Q:List AV->α->Prop}{t e:TypeId}{m:Nat}(D:P.underlying t=zs (.slice e))(h0:0<P.cellsOf e)
 (hel:∀n cs (d:DataW H) ps,DataW.trod enc P W base spare held n e cs=zs (d,ps)->Wt P e d->∃B X,X2 P m e d=zs B/\(lz B=P.cellsOf e/\(Ab P e=zt\/lz B=1))/\Q B X)
 {n:Nat}{cs:List Value}{d:DataW H}{ps:List MemPlace}(h:DataW.trod enc P W base spare held n t cs=zs (d,ps))(hw:Wt P t d):∃v l,X2 P (m+1) t d=zs [v]/\Xl P e Q v l:=by
 rcases DataW.trod_slice D h with⟨rfl,e1⟩|⟨a,len,cap,elems,rest,n',rfl,rfl,e1,_,hlc,_,J,N,_,_⟩
 . cases e1
   refine⟨.x0a,[],?_,.inl ⟨rfl,rfl⟩,by simp⟩;unfold X2;rw[D]
 . cases e1
   have G:∀(i:Nat) V,(elems.map (·.1))[i]?=zs V->∃B X,X2 P m e V=zs B/\((lz B=P.cellsOf e/\(Ab P e=zt\/lz B=1))/\Q B X):=fun i V hi=>by
    rw[zqb,Option.map_eq_some_iff]at hi;obtain⟨x,hx,rfl⟩:=hi;have aa:i<len:=by rw[<-J];exact(zqe.1 hx).1
    have C:=N i aa;rw[hx]at C;cases U:W.cells? base (a.add (i*P.cellsOf e)) (P.cellsOf e)with
    |none=>rw[U]at C;cases C
    |some ac=>
     rw[U]at C;refine hel n' ac x.1 x.2 C fun w Y=>hw w ?_
     unfold DataW.weights;rw[D];exact List.mem_cons_of_mem _ (zqi _ (Gt _ e i x.1 w (by rw[zqb,hx];rfl) Y))
   obtain⟨rs,l,h1,h2,C,h4⟩:=nT (Q:=fun B X=>(lz B=P.cellsOf e/\(Ab P e=zt\/lz B=1))/\Q B X) _ G;refine⟨.fsl (rs.map (my P e)) zf,l,?_,.inr ⟨rs,rfl,by rw[h2,C],fun i r X hr hX=>(h4 i r X hr hX).2⟩,?_⟩
   . unfold X2
     rw[D];dsimp only;rw[show Nat.blt 0 (P.cellsOf e)=zt from zqo h0,h1];show(bif (rs.all fun r=>Nat.beq (dw r) (P.cellsOf e)&&(Ab P e||Nat.beq (dw r) 1))then zs [AV.fsl (rs.map (my P e)) zf]else zn)=_
     have:(rs.all fun r=>Nat.beq (dw r) (P.cellsOf e)&&(Ab P e||Nat.beq (dw r) 1))=zt:=by
      rw[zqf];intro r hr;obtain⟨i,hi⟩:=zqk hr;have ab:i<lz l:=by rw[C,<-h2];exact(zqe.1 hi).1
      obtain⟨⟨q1,I⟩,_⟩:=h4 i r _ hi (zqd ab);rw[A4,q1,zqn];rcases I with I|I
      . rw[I];rfl
      . rw[<-q1,I];simp
     rw[this];rfl
   . rw [C,zql]
     have:=hw ((lz elems+lz rest)*P.bytesOf e) (by
      unfold DataW.weights;rw[D];simp)
     exact Nat.le_trans (Nat.mul_le_mul_right _ (Nat.le_add_right _ _)) this
theorem Xl.mem{α:Type}{e:TypeId}{Q:List AV->α->Prop}{v:AV}{l:List α}(D:Xl P e Q v l){X:α}(C:X∈l):∃r,Q r X:=by
 rcases D.1 with⟨rfl,rfl⟩|⟨rs,rfl,hl,G⟩
 . cases C
 . obtain⟨i,hi⟩:=zqk C
   have B:i<lz rs:=by rw[hl];exact(zqe.1 hi).1
   exact⟨_,G i _ X (zqd B) hi⟩
def Np(P:Program):Nat->List (Nat×Nat)->Prop
 |_,[]=>True
 |o,f::fs=>f.2=o/\Np P (o+P.cellsOf f.1) fs
theorem iH:∀(fs:List Field)(o:Nat),Np P o (fs.map fun f=>(f.type,f.offset))->GN P o fs
 |[],_,_=>trivial
 |f::fs,o,h=>⟨h.1,iH fs _ h.2⟩
theorem iI:∀(B:List (List AV))(L:List (Nat×Nat)),lz B=lz L->(∀(i:Nat) s f,B[i]?=zs s->L[i]?=zs f->lz s=P.cellsOf f.1)->lz B.flatten=(L.map fun f=>P.cellsOf f.1).sum
 |[],[],_,_=>rfl
 |[],_::_,h,_=>by cases h
 |_::_,[],h,_=>by cases h
 |s::B,f::L,h,hc=>by
  rw[List.flatten_cons,List.length_append,zqg,List.sum_cons,hc 0 s f rfl rfl,iI B L (by simpa using h) fun i s f a b=>hc (i+1) s f (by simpa using a) (by simpa using b)]
theorem aM{Qs:Nat->List AV->Prop}:∀(n:Nat),(∀i,i<n->∃s,Qs i s)->∃C:List (List AV),lz C=n/\∀(i:Nat) s,C[i]?=zs s->Qs i s
 |0,_=>⟨[],rfl,fun i s h=>by simp at h⟩
 |n + 1,h=>by
  obtain⟨C,G,I⟩:=aM n fun i hi=>h i (by omega)
  obtain⟨s,J⟩:=h n (by omega);refine⟨C++[s],by simp[G],fun i t B=>?_⟩;rw[List.getElem?_append]at B;split at B
  . exact I i t B
  . rename_i hi
    cases D:i-lz C with
    |zero=>
     rw[D]at B;cases B
     have:i=n:=by omega
     subst this;exact J
    |succ k=>rw[D]at B;simp at B
theorem m4{t:TypeId}{fs:Array Field}{L:List (Nat×Nat)}{m:Nat}{Qs:Nat->List AV->Prop}(ht:P.underlying t=zs (.struct fs))(N:fs.toList.map (fun f=>(f.type,f.offset))=L)(D:Np P 0 L)(hc:P.cellsOf t=(L.map fun f=>P.cellsOf f.1).sum)
 (hF:∀(i ty off:Nat),L[i]?=zs (ty,off)->∀n cs (d:DataW H) ps,DataW.trod enc P W base spare held n ty cs=zs (d,ps)->Wt P ty d->∃s,X2 P m ty d=zs s/\lz s=P.cellsOf ty/\Qs i s)
 {n:Nat}{cs:List Value}{d:DataW H}{ps:List MemPlace}(h:DataW.trod enc P W base spare held n t cs=zs (d,ps))(hw:Wt P t d):
 ∃B:List (List AV),X2 P (m+1) t d=zs B.flatten/\lz B.flatten=P.cellsOf t/\lz B=lz L/\∀(i:Nat) s,B[i]?=zs s->Qs i s:=by
 obtain⟨ds,rfl,hl,hx⟩:=iG ht h hw;have hLl:lz L=lz fs.toList:=by rw[<-N,zql]
 obtain ⟨B,h1,V⟩:=aM (Qs:=fun i s=>(∀Q ty off,ds[i]?=zs Q->L[i]?=zs (ty,off)->X2 P m ty Q=zs s/\lz s=P.cellsOf ty)/\Qs i s) (lz L) (fun i hi=>by
  obtain⟨f,hf⟩:∃f,fs.toList[i]?=zs f:=⟨_,zqd (by omega)⟩
  have I:L[i]?=zs (f.type,f.offset):=by rw[<-N,zqb,hf];rfl
  obtain⟨Q,n',X,Y,k1,k2,k3⟩:=hx i f hf;obtain⟨s,k4,k5,k6⟩:=hF i _ _ I n' X Q Y k2 k3;refine⟨s,fun di' ty off a b=>?_,k6⟩;rw[k1]at a;cases a;rw[I]at b;cases b;exact⟨k4,k5⟩)
 have J:∀(i:Nat) f d s,fs.toList[i]?=zs f->ds[i]?=zs d->B[i]?=zs s->X2 P m f.type d=zs s/\lz s=P.cellsOf f.type:=fun i f d s hf U G =>
  (V i s G).1 d f.type f.offset U (by rw[<-N,zqb,hf];rfl)
 have C:lz B.flatten=P.cellsOf t:=by
  rw[hc];refine iI B L h1 fun i s f G hf=>?_
  obtain⟨d,U⟩:∃d,ds[i]?=zs d:=⟨_,zqd (by have:=(zqe.1 hf).1;omega)⟩
  exact((V i s G).1 d f.1 f.2 U hf).2
 refine⟨B,?_,C,h1,fun i s G=>(V i s G).2⟩;unfold X2;rw[ht];show A5 (dF P (X2 P m) 0 fs.toList ds) (fun r=>bif Nat.beq (dw r) (P.cellsOf t)then zs r else zn)=_
 rw[nS fs.toList ds B 0 hl (by omega) J (iH _ 0 (by rw[N];exact D))];show(bif Nat.beq (dw B.flatten) (P.cellsOf t)then zs B.flatten else zn)=_
 rw[A4,C,zqn];rfl
theorem Xl.fz{α:Type}{e:TypeId}{Q:List AV->α->Prop}{F:α->AV}{v:AV}{l:List α}(D:Xl P e Q v l){Z:Nat->Prop}{h:Vg}(G:∀r X,Q r X->Fz Z h (my P e r) (F X)):Fz Z h v (Vx (l.map F)):=by
 rcases D.1 with⟨rfl,rfl⟩|⟨rs,rfl,hl,N⟩
 . exact .emp .nil
 . cases l with
   |nil=>
    have:rs=[]:=zqh hl
    subst this;exact .emp .fsl
   |cons a l=>
    refine .fsl (by simp[hl]) (fun i x y B C=>?_) rfl;rw[zqb,Option.map_eq_some_iff]at B C;obtain⟨r,I,rfl⟩:=B;obtain⟨X,J,rfl⟩:=C;exact G r X (N i r X I J)
end
end Go.AM
