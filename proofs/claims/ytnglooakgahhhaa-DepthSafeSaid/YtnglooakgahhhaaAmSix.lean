/- The abstract machine, part six: a program's tables, calls from outside, and what a row asks. Conditions: none. -/
import Derived.Test.YtnglooakgahhhaaAmFive
import Derived.Below
import Derived.Lib.IndexMore
import Derived.KernelRfl
import Derived.Shelf.LaysM
import Derived.Shelf.Strings.Search3
import Derived.Shelf.SlIterI.Sorted
import Derived.ChangeSame
import Derived.ProofKit
set_option linter.unusedVariables false
set_option linter.unusedSectionVars false
set_option linter.unusedSimpArgs false
/-
 The abstract machine: what is told of a program's types and functions,reckoned from the program.
set_option maxHeartbeats 4000000
-/
open Option renaming some→zsq,none→zn
open Bool renaming true→zt,false→zf
open Bool renaming and_eq_true→zqa,not_eq_true'→zqb
namespace Go.AM
def Rp(l:List Value):Bool:=match l with|[]=>zt|v::r=>v.oneC&&Rp r
theorem Rq:∀(l:List Value),Rp l=zt->Vj l
 |[],_=>fun v B=>by cases B
 |v::r,h=>by
  unfold Rp at h;rw[zqa]at h;intro u A;cases A with
  |head=>exact h.1
  |tail _ A=>exact Rq r h.2 u A
def AB(v:AV):Bool:=match v with | .und=>zt|_=>zf
def Nf(P:Program)(zs:List AV)(i:Nat)(f:Field):Bool:=
 !(f.name == "_") && Nat.beq f.offset i && (match zs[i]? with
   |none=>zf
   | some z=>match z with
    |.int k _=>(match P.underlying f.type with|some (.int k2)=>kindEq k k2|_=>zf)
    |.bool _=>(match P.underlying f.type with|some .bool=>zt|_=>zf)
    |.str _=>(match P.underlying f.type with|some .string=>zt|_=>zf)
    |_=>zf)
def Du(P:Program)(zs:List AV):Nat->List Field->Bool
 |_,[]=>zt
 |i,f::r=>Nf P zs i f&&Du P zs (i+1) r
def iS(P:Program)(t:Nat)(zs:List AV)(fields:Array Field):Bool:=
 Du P zs 0 fields.toList&&Nat.beq zs.length fields.toList.length && !(P.eqGuardType P.depth t) && !(P.stoodInHeld t)
def Jc(P:Program)(l:List Field):Bool:=l.all fun f=>(P.info? f.type).isSome
def tdOf(P:Program)(t:Nat)(zs:List AV)(d:TypeDesc):Option TD:=
 match d with
 |.int k=>zsq (.int k)
 |.bool=>zsq .bool
 |.string=>zsq .string
 |.pointer e=>zsq (.ptr e)
 |.slice e=>zsq (.slice e)
 |.array n e=>zsq (.array n e)
 |.map k e=>zsq (.map k e)
 |.struct fields=>bif Jc P fields.toList then zsq (.struct (fields.toList.map fun f=>(f.type,f.offset)) (iS P t zs fields))else zn
 |.interface ms=>bif ms.isEmpty then zsq .iface else zsq .other
 |.func _ _ _=>zsq .func
 |_=>zsq .other
noncomputable def xG(P:Program)(t:Nat):Option TI:=
 match P.info? t with
 |none=>zn
 | some i=>match i.zero with
  |none=>zn
  | some z=>bif Rp z.cells.toList && !(AB (ofValue z))&&Nat.beq (ofValue z).cells.length i.size&&(Nat.beq i.size 0||Nat.blt 0 i.bytes)then
   (match P.underlying t with
   |none=>zn
   | some d=>match tdOf P t (ofValue z).cells d with
    |none=>zn
    |some A=>zsq ⟨A,i.size,i.bytes,ofValue z⟩)else zn
theorem Ft{P:Program}{zs:List AV}:∀(l:List Field)(k:Nat),Du P zs k l=zt->∀(i:Nat) f,l[i]?=zsq f->Nf P zs (k+i) f=zt
 |[],k,h,i,f,hf=>by simp at hf
 |g::r,k,h,i,f,hf=>by
  unfold Du at h;rw[zqa]at h;cases i with
  |zero=>grind
  |succ i=>
   have:=Ft r (k+1) h.2 i f (by grind)
   grind
theorem xH{P:Program}{t:Nat}{d:TypeDesc}(C:P.underlying t=zsq d){x:TI}(h:tdOf P t x.zero.cells d=zsq x.desc):H3 P t x:=by
 unfold H3;cases d with
 |struct fields=>
  have h:(bif Jc P fields.toList then zsq (TD.struct (fields.toList.map fun f=>(f.type,f.offset)) (iS P t x.zero.cells fields))else zn)=zsq x.desc:=h;cases hh:Jc P fields.toList with
  |false=>grind
  |true=>
   rw[hh]at h;have h:=Option.some.inj h;rw[<-h];refine⟨fields,C,rfl,fun f hf=>?_,fun A=>?_⟩
   . have:=(List.all_eq_true.1 hh) f hf
     exact Option.isSome_iff_exists.1 this
   . unfold iS at A
     simp only[zqa,zqb]at A;obtain⟨⟨⟨h1,h2⟩,D⟩,G⟩:=A;refine⟨D,G,by simp_all,fun i f hf=>?_⟩
     have:=Ft _ _ h1 i f (by grind)
     rw[Nat.zero_add]at this;unfold Nf at this;simp only[zqa,zqb]at this;obtain⟨⟨h5,I⟩,B⟩:=this;refine⟨fun e=>by grind,C4 I,?_⟩;cases hz:x.zero.cells[i]? with
     |none=>grind
     |some z=>
      refine⟨z,rfl,?_⟩;rw[hz]at B;cases z with
      |int k n=>
       dsimp only at B;cases J:P.underlying f.type with
       |none=>grind
       |some d2=>
        rw[J]at B;cases d2 with
        |int k2=>
         have e:=(Y2 _ _).1 B;grind
        |_=>cases B
      |bool b=>
       grind
      |str s=>
       grind
      |_=>cases B
 |interface ms=>
  have h:(bif ms.isEmpty then zsq TD.iface else zsq TD.other)=zsq x.desc:=h;cases N:ms.isEmpty with
  |true=>
   grind
  |false=>
   rw[N]at h;have h:=Option.some.inj h;rw[<-h];simp_all
 |_=>(have h:=Option.some.inj h;rw[<-h];simp_all)
theorem xI{P:Program}{t:Nat}{x:TI}(h:xG P t=zsq x):TyOk P t x:=by
 unfold xG at h;cases hi:P.info? t with
 |none=>grind
 |some i=>
  rw[hi]at h;dsimp only at h;cases hz:i.zero with
  |none=>grind
  |some z=>
   rw[hz]at h;dsimp only at h;cases hg:(Rp z.cells.toList && !(AB (ofValue z))&&Nat.beq (ofValue z).cells.length i.size&&(Nat.beq i.size 0||Nat.blt 0 i.bytes))with
   |false=>grind
   |true=>
    rw[hg]at h;simp only[cond_true]at h;cases D:P.underlying t with
    |none=>grind
    |some d=>
     rw[D]at h;dsimp only at h;cases A:tdOf P t (ofValue z).cells d with
     |none=>grind
     |some td=>
      rw[A]at h;cases h;simp only[zqa,zqb,Bool.or_eq_true]at hg;obtain⟨⟨⟨h1,h2⟩,B⟩,C⟩:=hg;have B:=C4 B;refine⟨⟨i,z,hi,rfl,rfl,hz,fun W cx=>Ol z,Rq _ h1,fun e=>?_⟩,B,fun hp=>?_,xH D A⟩
      . have e:ofValue z=.und:=e
        rw[e]at h2;cases h2
      . rcases C with C|C
        . simp_all
        simp_all
noncomputable def DC(f:Func):Option FI:=
 match f.body with
 |none=>zn
 | some c => bif f.name == "runtime.NumGoroutine" then zn else zsq ⟨xc c, f.ntmps, f.results.toList, fmOf f.results.toList c⟩
noncomputable def xJ(P:Program)(f:Nat):Option FI:=match P.funcs[f]? with|none=>zn|some fn=>DC fn
theorem xK {P : Program} {f : Nat} {x : FI} (h : xJ P f = zsq x) : ∃ fn c, P.funcs[f]? = zsq fn ∧ fn.body = zsq c ∧ (fn.name == "runtime.NumGoroutine") = zf ∧ x.code = xc c ∧ x.ntmps = fn.ntmps ∧ x.results = fn.results.toList ∧ x.mode = fmOf fn.results.toList c := by
 unfold xJ at h;cases hf:P.funcs[f]? with
 |none=>grind
 |some fn=>
  rw[hf]at h;have h:DC fn=zsq x:=h;unfold DC at h;grind
noncomputable def sL(mask:Nat)(P:Program)(f:Nat):Option FI:=bif bit mask f then xJ P f else zn
theorem sM{mask:Nat}{P:Program}{f:Nat}{x:FI}(h:sL mask P f=zsq x):xJ P f=zsq x:=by
 grind[sL]
theorem sN{α:Type}{g h:Nat->Option α}{n:Nat}(h1:(List.range n).map g=(List.range n).map h)(h2:∀t,n<=t->g t=zn){t:Nat}{x:α}(hx:g t=zsq x):h t=zsq x:=by
 rcases Nat.lt_or_ge t n with A|A
 . simp_all
 grind
def DD (E : Env) (P : Program) : Prop := ∀ f, E.told f = zt -> ∃ g fn c, E.mx = zsq g ∧ P.funcs[f]? = zsq fn ∧ fn.body = zsq c ∧ (fn.name == "runtime.NumGoroutine") = zf ∧
    ∀(s sub:ByteArray)(m:Int)(w:World),(s.size<4294967281\/sub.size=1)->w.cell? ⟨g,0,zn⟩=zsq (.int .i64 m)->Calls P f #[.string s,.string sub] w fun e w'=>e=.returned (.bool (contS sub.data.toList s.data.toList))/\w'=w
theorem Rr:∀(p s:List UInt8),Rh p s=p.isPrefixOf s
 |[],s=>by simp[Rh]
 |x::p,[]=>rfl
 |x::p,y::s=>by
  show(bif Iu x y then Rh p s else zf)=_
  rw[Nc,Rr p s];grind
theorem dH(p:List UInt8):∀(s:List UInt8),contS p s=Lib.contains s p
 |[]=>by
  show Rh p []=_
  grind[Lib.contains,Lib.index,Rr]
 |y::r=>by
  show(bif Rh p (y::r)then zt else contS p r)=_
  rw[Rr,dH p r];grind[Lib.contains,Lib.index]
def cx0:Cx:=⟨fun _=>(0,0,0),0,fun _=>False,fun _=>False⟩
theorem SL{E:Env}{W:World}{g:Nat}(h1:E.gl=fun _=>zn)(h2:E.mx=zsq g)(h:∃m,W.cell? ⟨g,0,zn⟩=zsq (.int .i64 m)):GlOk E W cx0:=
 ⟨(fun g v h=>by grind),fun g' h'=>by
   rw[h2]at h';cases h';refine⟨h,fun e=>e,?_⟩;obtain⟨m,A⟩:=h;unfold World.cell? at A;grind⟩
theorem SM{E:Env}{W:World}(hg:GlOk E W cx0):Sat E W cx0 Heap.empty where
 nx:=rfl
 objs id o ho:=by cases ho
 inj id id' o o' ho:=by cases ho
 gl:=hg
 held b hb:=hb.elim
 free id o ho:=by cases ho
theorem Ext.below{W W':World}{cx':Cx}(h:Ext W cx0 W' cx'):RowKit.Below W.heap.size W W':=
 ⟨h.out.1,h.out.2.1,h.out.2.2,h.sz,fun b hb=>h.keep b hb (fun h=>h)⟩
theorem told{P:Program}{E:Env}{W:World}(hE:EnvOk E P)(hg:GlOk E W cx0){n f:Nat}{args:Array Value}{l:List AV}(hl:RepL W cx0 args.toList l){v:AV}{h':Heap}(C:run E n f l Heap.empty=.ok v h'):
 Calls P f args W fun e w'=>∃A cx',e=.returned A/\Ext W cx0 w' cx'/\Rep w' cx' A v:=by
 have hb:run E n f l Heap.empty≠.bad:=by grind
 refine(oI hE hl (SM hg) hb).mono fun e w' B=>?_
 rw[C]at B;cases e with
 |returned A=>obtain⟨cx',h1,h2,h3⟩:=B;grind
 |_=>exact B.elim
def DF:Res->Bool
 |.ok v _=>(match v with | .bool b=>b|_=>zf)
 |_=>zf
theorem oY{P:Program}{E:Env}{W:World}(hE:EnvOk E P)(hg:GlOk E W cx0){n f:Nat}{args:Array Value}{l:List AV}(hl:RepL W cx0 args.toList l)(A:DF (run E n f l Heap.empty)=zt):
 Calls P f args W fun e w'=>e=.returned (.bool zt)/\RowKit.Below W.heap.size W w':=by
 cases B:run E n f l Heap.empty with
 |ok v h=>
  rw[B]at A;cases v with
  |bool b=>
   have A:b=zt:=A;subst A;refine(told hE hg hl B).mono fun e w' C=>?_
   obtain⟨vv,cx',rfl,h1,h2⟩:=C;rw[h2.bool_inv];exact⟨rfl,h1.below⟩
  |_=>cases A
 |_=>rw[B]at A;cases A
end Go.AM
/-
 The abstract machine: strings.Contains is told of,off the library's contract.
-/
namespace Go.AM
open Go.Proofs Go.Shelf
theorem Wv(c:UInt8):∀(s:List UInt8),contS [c] s=decide (0<=Go.Lib.indexByte s c)
 |[]=>rfl
 |y::r=>by
  show(bif (bif Iu c y then zt else zf)then zt else contS [c] r)=_
  rw[Wv c r,Nc];rw[show Go.Lib.indexByte (y::r) c=if y==c then 0 else if Go.Lib.indexByte r c == -1 then -1 else Go.Lib.indexByte r c+1 from rfl];grind
theorem xL{E:Env}{P:Program}{ρ:Ren}(L:LaysM.n144 P ρ)(h1:∀f,E.told f=zt->f=ρ.f 144)(h2:E.mx=zsq (ρ.g 1)):DD E P:=fun f hf=>by
 have:=h1 f hf
 subst this;refine⟨ρ.g 1,Body.n144 ρ,_,h2,L.f144,rfl,by kernel_rfl,fun s sub m w A B=>?_⟩;rcases A with A|A
 rotate_left
 . obtain ⟨⟨l⟩⟩:=sub
   cases l with
   |nil=>cases A
   | cons c q=>cases q with
    |cons b q=>simp[ByteArray.size]at A
    |nil=>
     have:=Go.Proofs.Any.strings_Contains_one {L with} s c w
     grind[Wv]
 rw[dH];exact Go.Proofs.Any.strings_Contains {L with} s sub m w A B
end Go.AM
/-
 The abstract machine: slices.Sorted at a map's keys: off the library's contracts.
-/
namespace Go.AM
open Go.Maps Go.RowKit Go.WideShapes Go.Sort
end Go.AM
/-
 The abstract machine: what a row asks of the world behind a call,off 'Below'.
-/
namespace Go.AM
open Go.ChangeShapes Go.WideShapes Go.ChangeAt Go.RowKit
section
variable {H:Type}{enc:TypeId×Value->H}{P:Program}
theorem Vm{f:Func}{s:ChangeSpec}{apart C B D:Bool}{W W':World}{args:Array Value}{v:Value}{ds gs:List (DataW H)}{A pa pv:List MemPlace}
 (hW:DataW.Whole enc P f.params.toList s.vars apart W args.toList ds gs A)
 (hres:∀(b:Nat)(sp:Nat->Bool)(N:Bool),DataW.TrodAll enc P W' b sp N f.resultTypes.toList (v.resultList f.resultTypes.size) (s.fn H (ds++gs)).results [])
 (hargs:∀sp:Nat->Bool,(∀p∈A,sp p.block=zt)->DataW.TrodAll enc P W' 0 sp zt f.params.toList args.toList (s.fn H (ds++gs)).args pa)
 (hvars:∀sp:Nat->Bool,(∀p∈A,sp p.block=zt)->DataW.TrodVars enc P W' sp s.vars (s.fn H (ds++gs)).vars pv)
 (hps:A=pa++pv)(hb:Below W.heap.size W W')
 (hok:∀(j:Nat)(t:TypeId)(r:Value),f.resultTypes[j]?=zsq t->(v.resultList f.resultTypes.size)[j]?=zsq r->Value.okWide P W' .any 0 t r):
 s.post enc P f apart C B D W args v W':=by
 have I:∀p∈A,p.block<W.heap.size:=fun p G=>by simpa using hW.lt p G
 have hold:∀p∈A,(fun b=>decide (b<W.heap.size)) p.block=zt:=fun p G=>by grind
 refine⟨ds,gs,A,[],pa,pv,hW,hres _ _ _,hargs _ hold,hvars _ hold,World.keptBut_mono (fun p G=>⟨G,?_⟩) (hb.frame (·∈A)),fun _=>?_⟩
 . grind
 . obtain ⟨_,_,_,_,_,hz,hn⟩:=hW
   refine⟨hok,_,_,([]++pa)++pv,⟨[]++pa,pv,trodAll_append (hargs _ (fun _ _=>rfl)) (hres _ _ _),hvars _ (fun _ _=>rfl),rfl,?_,?_⟩,?_⟩
   . intro b off G
     have J:MemPlace.cell b off∈A:=by grind
     have:=hb.frozen (p:=⟨b,off,zn⟩) (I _ J)
     rw[this];exact hz b off J
   . grind
   grind
end
end Go.AM
