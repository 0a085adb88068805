/- The abstract machine, part six: a program's tables, calls from outside, and what a row asks. Conditions: none. -/
import Derived.Test.YtjmbnofdnenjfaaAmFive
import Derived.Below
import Derived.Lib.IndexMore
import Derived.KernelRfl
import Derived.Shelf.LaysM
import Derived.Shelf.Strings.Search3
import Derived.Shelf.SlIterI.Sorted
import Derived.ChangeSame
import Derived.ProofKit
set_option linter.unusedVariables false
set_option linter.unusedSectionVars false
set_option linter.unusedSimpArgs false
/-
 The abstract machine: what is told of a program's types and functions,reckoned from the program.
set_option maxHeartbeats 4000000
-/
open Bool renaming and_eq_true→zqa,not_eq_true'→zqb
namespace Go.AM
def Tb(l:List Value):Bool:=match l with|[]=>true|v::r=>v.oneC&&Tb r
theorem Tc:∀(l:List Value),Tb l=true->Ww l
 |[],_=>fun v hv=>by cases hv
 | v::r,h=>by
  unfold Tb at h;rw[zqa]at h;intro u hu;cases hu with
  |head=>exact h.1
  |tail _ hu=>exact Tc r h.2 u hu
def AH(v:AV):Bool:=match v with | .und=>true|_=>false
def Nl(P:Program)(zs:List AV)(i:Nat)(f:Field):Bool:=
 !(f.name == "_") && Nat.beq f.offset i && (match zs[i]? with
   |none=>false
   | some z=>match z with
    | .int k _=>(match P.underlying f.type with|some (.int k2)=>kindEq k k2|_=>false)
    | .bool _=>(match P.underlying f.type with|some .bool=>true|_=>false)
    | .str _=>(match P.underlying f.type with|some .string=>true|_=>false)
    |_=>false)
def Da(P:Program)(zs:List AV):Nat->List Field->Bool
 |_,[]=>true
 |i,f::r=>Nl P zs i f&&Da P zs (i+1) r
def jX(P:Program)(t:Nat)(zs:List AV)(fields:Array Field):Bool:=
 Da P zs 0 fields.toList&&Nat.beq zs.length fields.toList.length && !(P.eqGuardType P.depth t) && !(P.stoodInHeld t)
def Jo(P:Program)(l:List Field):Bool:=l.all fun f=>(P.info? f.type).isSome
def tdOf(P:Program)(t:Nat)(zs:List AV)(d:TypeDesc):Option TD:=
 match d with
 | .int k=>some (.int k)
 | .bool=>some .bool
 | .string=>some .string
 | .pointer e=>some (.ptr e)
 | .slice e=>some (.slice e)
 | .array n e=>some (.array n e)
 | .map k e=>some (.map k e)
 | .struct fields=>bif Jo P fields.toList then some (.struct (fields.toList.map fun f=>(f.type,f.offset)) (jX P t zs fields))else none
 | .interface ms=>bif ms.isEmpty then some .iface else some .other
 | .func _ _ _=>some .func
 |_=>some .other
noncomputable def yA(P:Program)(t:Nat):Option TI:=
 match P.info? t with
 |none=>none
 | some i=>match i.zero with
  |none=>none
  | some z=>bif Tb z.cells.toList && !(AH (ofValue z))&&Nat.beq (ofValue z).cells.length i.size&&(Nat.beq i.size 0||Nat.blt 0 i.bytes)then
   (match P.underlying t with
   |none=>none
   | some d=>match tdOf P t (ofValue z).cells d with
    |none=>none
    |some td=>some ⟨td,i.size,i.bytes,ofValue z⟩)else none
theorem Ff{P:Program}{zs:List AV}:∀(l:List Field)(k:Nat),Da P zs k l=true->∀(i:Nat) f,l[i]?=some f->Nl P zs (k+i) f=true
 |[],k,h,i,f,hf=>by simp at hf
 | g::r,k,h,i,f,hf=>by
  unfold Da at h;rw[zqa]at h;cases i with
  |zero=>grind
  | succ i =>
   have:=Ff r (k+1) h.2 i f (by grind)
   grind
theorem yB{P:Program}{t:Nat}{d:TypeDesc}(hd:P.underlying t=some d){x:TI}(h:tdOf P t x.zero.cells d=some x.desc):J1 P t x:=by
 unfold J1;cases d with
 | struct fields =>
  have h:(bif Jo P fields.toList then some (TD.struct (fields.toList.map fun f=>(f.type,f.offset)) (jX P t x.zero.cells fields))else none)=some x.desc:=h;cases hh:Jo P fields.toList with
  |false=>grind
  | true =>
   rw[hh]at h;have h:=Option.some.inj h;rw[<-h];refine⟨fields,hd,rfl,fun f hf=>?_,fun hfl=>?_⟩
   . have:=(List.all_eq_true.1 hh) f hf
     exact Option.isSome_iff_exists.1 this
   . unfold jX at hfl
     simp only[zqa,zqb]at hfl;obtain⟨⟨⟨h1,h2⟩,h3⟩,h4⟩:=hfl;refine⟨h3,h4,by simp_all,fun i f hf=>?_⟩
     have:=Ff _ _ h1 i f (by grind)
     rw[Nat.zero_add]at this;unfold Nl at this;simp only[zqa,zqb]at this;obtain⟨⟨h5,h6⟩,h7⟩:=this;refine⟨fun e=>by grind,E5 h6,?_⟩;cases hz:x.zero.cells[i]? with
     |none=>grind
     | some z =>
      refine⟨z,rfl,?_⟩;rw[hz]at h7;cases z with
      | int k n =>
       dsimp only at h7;cases hu:P.underlying f.type with
       |none=>grind
       | some d2 =>
        rw[hu]at h7;cases d2 with
        | int k2 =>
         have e:=(X7 _ _).1 h7;grind
        |_=>cases h7
      | bool b =>
       grind
      | str s =>
       grind
      |_=>cases h7
 | interface ms =>
  have h:(bif ms.isEmpty then some TD.iface else some TD.other)=some x.desc:=h;cases hm:ms.isEmpty with
  | true =>
   grind
  | false =>
   rw[hm]at h;have h:=Option.some.inj h;rw[<-h];simp_all
 |_=>(have h:=Option.some.inj h;rw[<-h];simp_all)
theorem yC{P:Program}{t:Nat}{x:TI}(h:yA P t=some x):TyOk P t x:=by
 unfold yA at h;cases hi:P.info? t with
 |none=>grind
 | some i =>
  rw[hi]at h;dsimp only at h;cases hz:i.zero with
  |none=>grind
  | some z =>
   rw[hz]at h;dsimp only at h;cases hg:(Tb z.cells.toList && !(AH (ofValue z))&&Nat.beq (ofValue z).cells.length i.size&&(Nat.beq i.size 0||Nat.blt 0 i.bytes))with
   |false=>grind
   | true =>
    rw[hg]at h;simp only[cond_true]at h;cases hu:P.underlying t with
    |none=>grind
    | some d =>
     rw[hu]at h;dsimp only at h;cases htd:tdOf P t (ofValue z).cells d with
     |none=>grind
     | some td =>
      rw[htd]at h;cases h;simp only[zqa,zqb,Bool.or_eq_true]at hg;obtain⟨⟨⟨h1,h2⟩,h3⟩,h4⟩:=hg;have h3:=E5 h3;refine⟨⟨i,z,hi,rfl,rfl,hz,fun W cx=>Po z,Tc _ h1,fun e=>?_⟩,h3,fun hp=>?_,yB hu htd⟩
      . have e:ofValue z=.und:=e
        rw[e]at h2;cases h2
      . rcases h4 with h4|h4
        . simp_all
        simp_all
noncomputable def DM(f:Func):Option FI:=
 match f.body with
 |none=>none
 | some c => bif f.name == "runtime.NumGoroutine" then none else some ⟨xc c, f.ntmps, f.results.toList, fmOf f.results.toList c⟩
noncomputable def yD(P:Program)(f:Nat):Option FI:=match P.funcs[f]? with|none=>none|some fn=>DM fn
theorem yE {P : Program} {f : Nat} {x : FI} (h : yD P f = some x) : ∃ fn c, P.funcs[f]? = some fn ∧ fn.body = some c ∧ (fn.name == "runtime.NumGoroutine") = false ∧ x.code = xc c ∧ x.ntmps = fn.ntmps ∧ x.results = fn.results.toList ∧ x.mode = fmOf fn.results.toList c := by
 unfold yD at h;cases hf:P.funcs[f]? with
 |none=>grind
 | some fn =>
  rw[hf]at h;have h:DM fn=some x:=h;unfold DM at h;grind
noncomputable def sZ(mask:Nat)(P:Program)(f:Nat):Option FI:=bif bit mask f then yD P f else none
theorem tC{mask:Nat}{P:Program}{f:Nat}{x:FI}(h:sZ mask P f=some x):yD P f=some x:=by
 grind[sZ]
theorem tD{α:Type}{g h:Nat->Option α}{n:Nat}(h1:(List.range n).map g=(List.range n).map h)(h2:∀t,n<=t->g t=none){t:Nat}{x:α}(hx:g t=some x):h t=some x:=by
 rcases Nat.lt_or_ge t n with ht|ht
 . simp_all
 grind
def DN (E : Env) (P : Program) : Prop := ∀ f, E.told f = true -> ∃ g fn c, E.mx = some g ∧ P.funcs[f]? = some fn ∧ fn.body = some c ∧ (fn.name == "runtime.NumGoroutine") = false ∧
    ∀(s sub:ByteArray)(m:Int)(w:World),(s.size<4294967281\/sub.size=1)->w.cell? ⟨g,0,none⟩=some (.int .i64 m)->Calls P f #[.string s,.string sub] w fun e w'=>e=.returned (.bool (contS sub.data.toList s.data.toList))/\w'=w
theorem Td:∀(p s:List UInt8),Sr p s=p.isPrefixOf s
 |[],s=>by simp[Sr]
 |x::p,[]=>rfl
 | x::p,y::s=>by
  show(bif Jh x y then Sr p s else false)=_
  rw[Ni,Td p s];grind
theorem eQ(p:List UInt8):∀(s:List UInt8),contS p s=Lib.contains s p
 | []=>by
  show Sr p []=_
  grind[Lib.contains,Lib.index,Td]
 | y::r=>by
  show(bif Sr p (y::r)then true else contS p r)=_
  rw[Td,eQ p r];grind[Lib.contains,Lib.index]
def cx0:Cx:=⟨fun _=>(0,0,0),0,fun _=>False,fun _=>False⟩
theorem QF{E:Env}{W:World}{g:Nat}(h1:E.gl=fun _=>none)(h2:E.mx=some g)(h:∃m,W.cell? ⟨g,0,none⟩=some (.int .i64 m)):GlOk E W cx0:=
 ⟨(fun g v h=>by grind),fun g' h'=>by
   rw[h2]at h';cases h';refine⟨h,fun e=>e,?_⟩;obtain⟨m,hm⟩:=h;unfold World.cell? at hm;grind⟩
theorem QG{E:Env}{W:World}(hg:GlOk E W cx0):Sat E W cx0 Heap.empty where
 nx:=rfl
 objs id o ho:=by cases ho
 inj id id' o o' ho:=by cases ho
 gl:=hg
 held b hb:=hb.elim
 free id o ho:=by cases ho
theorem Ext.below{W W':World}{cx':Cx}(h:Ext W cx0 W' cx'):RowKit.Below W.heap.size W W':=
 ⟨h.out.1,h.out.2.1,h.out.2.2,h.sz,fun b hb=>h.keep b hb (fun h=>h)⟩
theorem told{P:Program}{E:Env}{W:World}(hE:EnvOk E P)(hg:GlOk E W cx0){n f:Nat}{args:Array Value}{l:List AV}(hl:RepL W cx0 args.toList l){v:AV}{h':Heap}(hr:run E n f l Heap.empty=.ok v h'):
 Calls P f args W fun e w'=>∃vv cx',e=.returned vv/\Ext W cx0 w' cx'/\Rep w' cx' vv v:=by
 have hb:run E n f l Heap.empty≠.bad:=by grind
 refine(oT hE hl (QG hg) hb).mono fun e w' hp=>?_
 rw[hr]at hp;cases e with
 |returned vv=>obtain⟨cx',h1,h2,h3⟩:=hp;grind
 |panicked c=>exact hp.elim
 |outgrown=>exact hp.elim
def DO:Res->Bool
 | .ok v _=>(match v with | .bool b=>b|_=>false)
 |_=>false
theorem pH{P:Program}{E:Env}{W:World}(hE:EnvOk E P)(hg:GlOk E W cx0){n f:Nat}{args:Array Value}{l:List AV}(hl:RepL W cx0 args.toList l)(hr:DO (run E n f l Heap.empty)=true):
 Calls P f args W fun e w'=>e=.returned (.bool true)/\RowKit.Below W.heap.size W w':=by
 cases hq:run E n f l Heap.empty with
 |bad=>rw[hq]at hr;cases hr
 |pan v h=>rw[hq]at hr;cases hr
 | ok v h =>
  rw[hq]at hr;cases v with
  | bool b =>
   have hr:b=true:=hr;subst hr;refine(told hE hg hl hq).mono fun e w' hp=>?_
   obtain⟨vv,cx',rfl,h1,h2⟩:=hp;rw[h2.bool_inv];exact⟨rfl,h1.below⟩
  |_=>cases hr
end Go.AM
/-
 The abstract machine: strings.Contains is told of,off the library's contract.
-/
namespace Go.AM
open Go.Proofs Go.Shelf
theorem Yg(c:UInt8):∀(s:List UInt8),contS [c] s=decide (0<=Go.Lib.indexByte s c)
 |[]=>rfl
 | y::r=>by
  show(bif (bif Jh c y then true else false)then true else contS [c] r)=_
  rw[Yg c r,Ni];rw[show Go.Lib.indexByte (y::r) c=if y==c then 0 else if Go.Lib.indexByte r c == -1 then -1 else Go.Lib.indexByte r c+1 from rfl];grind
theorem yF{E:Env}{P:Program}{ρ:Ren}(L:LaysM.n144 P ρ)(h1:∀f,E.told f=true->f=ρ.f 144)(h2:E.mx=some (ρ.g 1)):DN E P:=fun f hf=>by
 have:=h1 f hf
 subst this;refine⟨ρ.g 1,Body.n144 ρ,_,h2,L.f144,rfl,by kernel_rfl,fun s sub m w hs hm=>?_⟩;rcases hs with hs|hs
 rotate_left
 . obtain ⟨⟨l⟩⟩:=sub
   cases l with
   |nil=>cases hs
   | cons c q=>cases q with
    |cons b q=>simp[ByteArray.size]at hs
    | nil =>
     have:=Go.Proofs.Any.strings_Contains_one {L with} s c w
     grind[Yg]
 rw[eQ];exact Go.Proofs.Any.strings_Contains {L with} s sub m w hs hm
end Go.AM
/-
 The abstract machine: slices.Sorted at a map's keys: off the library's contracts.
-/
namespace Go.AM
open Go.Maps Go.RowKit Go.WideShapes Go.Sort
end Go.AM
/-
 The abstract machine: what a row asks of the world behind a call,off 'Below'.
-/
namespace Go.AM
open Go.ChangeShapes Go.WideShapes Go.ChangeAt Go.RowKit
section
variable {H:Type}{enc:TypeId×Value->H}{P:Program}
theorem Wy{f:Func}{s:ChangeSpec}{apart fresh handsOn again:Bool}{W W':World}{args:Array Value}{v:Value}{ds gs:List (DataW H)}{before pa pv:List MemPlace}
 (hW:DataW.Whole enc P f.params.toList s.vars apart W args.toList ds gs before)
 (hres:∀(b:Nat)(sp:Nat->Bool)(hd:Bool),DataW.TrodAll enc P W' b sp hd f.resultTypes.toList (v.resultList f.resultTypes.size) (s.fn H (ds++gs)).results [])
 (hargs:∀sp:Nat->Bool,(∀p∈before,sp p.block=true)->DataW.TrodAll enc P W' 0 sp true f.params.toList args.toList (s.fn H (ds++gs)).args pa)
 (hvars:∀sp:Nat->Bool,(∀p∈before,sp p.block=true)->DataW.TrodVars enc P W' sp s.vars (s.fn H (ds++gs)).vars pv)
 (hps:before=pa++pv)(hb:Below W.heap.size W W')
 (hok:∀(j:Nat)(t:TypeId)(r:Value),f.resultTypes[j]?=some t->(v.resultList f.resultTypes.size)[j]?=some r->Value.okWide P W' .any 0 t r):
 s.post enc P f apart fresh handsOn again W args v W':=by
 have hlt:∀p∈before,p.block<W.heap.size:=fun p hp=>by simpa using hW.lt p hp
 have hold:∀p∈before,(fun b=>decide (b<W.heap.size)) p.block=true:=fun p hp=>by grind
 refine⟨ds,gs,before,[],pa,pv,hW,hres _ _ _,hargs _ hold,hvars _ hold,World.keptBut_mono (fun p hp=>⟨hp,?_⟩) (hb.frame (·∈before)),fun _=>?_⟩
 . grind
 . obtain ⟨_,_,_,_,_,hz,hn⟩:=hW
   refine⟨hok,_,_,([]++pa)++pv,⟨[]++pa,pv,trodAll_append (hargs _ (fun _ _=>rfl)) (hres _ _ _),hvars _ (fun _ _=>rfl),rfl,?_,?_⟩,?_⟩
   . intro b off hp
     have hm:MemPlace.cell b off∈before:=by grind
     have:=hb.frozen (p:=⟨b,off,none⟩) (hlt _ hm)
     rw[this];exact hz b off hm
   . grind
   grind
end
end Go.AM
