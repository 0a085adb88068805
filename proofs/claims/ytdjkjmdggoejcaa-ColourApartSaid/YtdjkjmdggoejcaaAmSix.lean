/- The abstract machine, part six: a program's tables, calls from outside, and what a row asks. Conditions: none. -/
import Derived.Test.YtdjkjmdggoejcaaAmFive
import Derived.Below
import Derived.Lib.IndexMore
import Derived.KernelRfl
import Derived.Shelf.LaysM
import Derived.Shelf.Strings.Search3
import Derived.Shelf.SlIterI.Sorted
import Derived.ChangeSame
import Derived.ProofKit
set_option linter.unusedVariables false
set_option linter.unusedSectionVars false
set_option linter.unusedSimpArgs false
/-
 The abstract machine: what is told of a program's types and functions,reckoned from the program.
set_option maxHeartbeats 4000000
-/
open List renaming length→lz
open Option renaming some→zsq,none→zn
open Bool renaming true→zt,false→zf
open Bool renaming and_eq_true→zqa,not_eq_true'→zqb
namespace Go.AM
def Sz(l:List Value):Bool:=match l with|[]=>zt|v::r=>v.oneC&&Sz r
theorem Ta:∀(l:List Value),Sz l=zt->Wl l
 |[],_=>fun v C=>by cases C
 |v::r,h=>by
  unfold Sz at h;rw[zqa]at h;intro u B;cases B with
  |head=>exact h.1
  |tail _ B=>exact Ta r h.2 u B
def zM(v:AV):Bool:=match v with | .und=>zt|_=>zf
def Oc(P:Program)(zs:List AV)(i:Nat)(f:Field):Bool:=
 !(f.name == "_") && Nat.beq f.offset i && (match zs[i]? with
   |none=>zf
   | some z=>match z with
    |.int k _=>(match P.underlying f.type with|some (.int k2)=>gy k k2|_=>zf)
    |.bool _=>(match P.underlying f.type with|some .bool=>zt|_=>zf)
    |.str _=>(match P.underlying f.type with|some .string=>zt|_=>zf)
    |_=>zf)
def Cw(P:Program)(zs:List AV):Nat->List Field->Bool
 |_,[]=>zt
 |i,f::r=>Oc P zs i f&&Cw P zs (i+1) r
def jH(P:Program)(t:Nat)(zs:List AV)(fields:Array Field):Bool:=
 Cw P zs 0 fields.toList&&Nat.beq (lz zs) (lz fields.toList) && !(P.eqGuardType P.depth t) && !(P.stoodInHeld t)
def Jv(P:Program)(l:List Field):Bool:=l.all fun f=>(P.info? f.type).isSome
def e0A(P:Program)(t:Nat)(zs:List AV)(d:TypeDesc):Option TD:=
 match d with
 |.int k=>zsq (.int k)
 |.bool=>zsq .bool
 |.string=>zsq .string
 |.pointer e=>zsq (.ptr e)
 |.slice e=>zsq (.slice e)
 |.array n e=>zsq (.array n e)
 |.map k e=>zsq (.map k e)
 |.struct fields=>bif Jv P fields.toList then zsq (.struct (fields.toList.map fun f=>(f.type,f.offset)) (jH P t zs fields))else zn
 |.interface ms=>bif ms.isEmpty then zsq .iface else zsq .other
 |.func _ _ _=>zsq .func
 |_=>zsq .other
noncomputable def wZ(P:Program)(t:Nat):Option TI:=
 match P.info? t with
 |none=>zn
 | some i=>match i.zero with
  |none=>zn
  | some z=>bif Sz z.cells.toList && !(zM (ofValue z))&&Nat.beq (lz (ofValue z).cells) i.size&&(Nat.beq i.size 0||Nat.blt 0 i.bytes)then
   (match P.underlying t with
   |none=>zn
   | some d=>match e0A P t (ofValue z).cells d with
    |none=>zn
    |some B=>zsq ⟨B,i.size,i.bytes,ofValue z⟩)else zn
theorem Eu{P:Program}{zs:List AV}:∀(l:List Field)(k:Nat),Cw P zs k l=zt->∀(i:Nat) f,l[i]?=zsq f->Oc P zs (k+i) f=zt
 |[],k,h,i,f,hf=>by simp at hf
 |g::r,k,h,i,f,hf=>by
  unfold Cw at h;rw[zqa]at h;cases i with
  |zero=>grind
  |succ i=>
   have:=Eu r (k+1) h.2 i f (by grind)
   grind
theorem xA{P:Program}{t:Nat}{d:TypeDesc}(D:P.underlying t=zsq d){x:TI}(h:e0A P t x.zero.cells d=zsq x.desc):I7 P t x:=by
 unfold I7;cases d with
 |struct fields=>
  have h:(bif Jv P fields.toList then zsq (TD.struct (fields.toList.map fun f=>(f.type,f.offset)) (jH P t x.zero.cells fields))else zn)=zsq x.desc:=h;cases hh:Jv P fields.toList with
  |false=>grind
  |true=>
   rw[hh]at h;have h:=Option.some.inj h;rw[<-h];refine⟨fields,D,rfl,fun f hf=>?_,fun B=>?_⟩
   . have:=(List.all_eq_true.1 hh) f hf
     exact Option.isSome_iff_exists.1 this
   . unfold jH at B
     simp only[zqa,zqb]at B;obtain⟨⟨⟨G,h2⟩,I⟩,J⟩:=B;refine⟨I,J,by simp_all,fun i f hf=>?_⟩
     have:=Eu _ _ G i f (by grind)
     rw[Nat.zero_add]at this;unfold Oc at this;simp only[zqa,zqb]at this;obtain⟨⟨h5,N⟩,C⟩:=this;refine⟨fun e=>by grind,D8 N,?_⟩;cases hz:x.zero.cells[i]? with
     |none=>grind
     |some z=>
      refine⟨z,rfl,?_⟩;rw[hz]at C;cases z with
      |int k n=>
       dsimp only at C;cases Q:P.underlying f.type with
       |none=>grind
       |some d2=>
        rw[Q]at C;cases d2 with
        |int k2=>
         have e:=(X5 _ _).1 C;grind
        |_=>cases C
      |bool b=>
       grind
      |str s=>
       grind
      |_=>cases C
 |interface ms=>
  have h:(bif ms.isEmpty then zsq TD.iface else zsq TD.other)=zsq x.desc:=h;cases U:ms.isEmpty with
  |true=>
   grind
  |false=>
   rw[U]at h;have h:=Option.some.inj h;rw[<-h];simp_all
 |_=>(have h:=Option.some.inj h;rw[<-h];simp_all)
theorem xB{P:Program}{t:Nat}{x:TI}(h:wZ P t=zsq x):qf P t x:=by
 unfold wZ at h;cases hi:P.info? t with
 |none=>grind
 |some i=>
  rw[hi]at h;dsimp only at h;cases hz:i.zero with
  |none=>grind
  |some z=>
   rw[hz]at h;dsimp only at h;cases hg:(Sz z.cells.toList && !(zM (ofValue z))&&Nat.beq (lz (ofValue z).cells) i.size&&(Nat.beq i.size 0||Nat.blt 0 i.bytes))with
   |false=>grind
   |true=>
    rw[hg]at h;simp only[cond_true]at h;cases I:P.underlying t with
    |none=>grind
    |some d=>
     rw[I]at h;dsimp only at h;cases B:e0A P t (ofValue z).cells d with
     |none=>grind
     |some td=>
      rw[B]at h;cases h;simp only[zqa,zqb,Bool.or_eq_true]at hg;obtain⟨⟨⟨J,G⟩,C⟩,D⟩:=hg;have C:=D8 C;refine⟨⟨i,z,hi,rfl,rfl,hz,fun W cx=>Pu z,Ta _ J,fun e=>?_⟩,C,fun hp=>?_,xA I B⟩
      . have e:ofValue z=.und:=e
        rw[e]at G;cases G
      . rcases D with D|D
        . simp_all
        simp_all
noncomputable def DJ(f:Func):Option FI:=
 match f.body with
 |none=>zn
 | some c => bif f.name == "runtime.NumGoroutine" then zn else zsq ⟨xc c, f.ntmps, f.results.toList, a04 f.results.toList c⟩
noncomputable def xC(P:Program)(f:Nat):Option FI:=match P.funcs[f]? with|none=>zn|some fn=>DJ fn
theorem xD {P : Program} {f : Nat} {x : FI} (h : xC P f = zsq x) : ∃ fn c, P.funcs[f]? = zsq fn ∧ fn.body = zsq c ∧ (fn.name == "runtime.NumGoroutine") = zf ∧ x.code = xc c ∧ x.ntmps = fn.ntmps ∧ x.results = fn.results.toList ∧ x.mode = a04 fn.results.toList c := by
 unfold xC at h;cases hf:P.funcs[f]? with
 |none=>grind
 |some fn=>
  rw[hf]at h;have h:DJ fn=zsq x:=h;unfold DJ at h;grind
noncomputable def rT(mask:Nat)(P:Program)(f:Nat):Option FI:=bif bit mask f then xC P f else zn
theorem rU{mask:Nat}{P:Program}{f:Nat}{x:FI}(h:rT mask P f=zsq x):xC P f=zsq x:=by
 grind[rT]
theorem rV{α:Type}{g h:Nat->Option α}{n:Nat}(h1:(List.range n).map g=(List.range n).map h)(h2:∀t,n<=t->g t=zn){t:Nat}{x:α}(hx:g t=zsq x):h t=zsq x:=by
 rcases Nat.lt_or_ge t n with B|B
 . simp_all
 grind
def DK (E : Env) (P : Program) : Prop := ∀ f, E.told f = zt -> ∃ g fn c, E.mx = zsq g ∧ P.funcs[f]? = zsq fn ∧ fn.body = zsq c ∧ (fn.name == "runtime.NumGoroutine") = zf ∧
    ∀(s sub:ByteArray)(m:Int)(w:World),(s.size<4294967281\/sub.size=1)->w.cell? ⟨g,0,zn⟩=zsq (.int .i64 m)->Calls P f #[.string s,.string sub] w fun e w'=>e=.returned (.bool (gw sub.data.toList s.data.toList))/\w'=w
theorem Tb:∀(p s:List UInt8),Sq p s=p.isPrefixOf s
 |[],s=>by simp[Sq]
 |x::p,[]=>rfl
 |x::p,y::s=>by
  show(bif Jp x y then Sq p s else zf)=_
  rw[Oa,Tb p s];grind
theorem eF(p:List UInt8):∀(s:List UInt8),gw p s=Lib.contains s p
 |[]=>by
  show Sq p []=_
  grind[Lib.contains,Lib.index,Tb]
 |y::r=>by
  show(bif Sq p (y::r)then zt else gw p r)=_
  rw[Tb,eF p r];grind[Lib.contains,Lib.index]
def cx0:Cx:=⟨fun _=>(0,0,0),0,fun _=>False,fun _=>False⟩
theorem QO{E:Env}{W:World}{g:Nat}(h1:E.gl=fun _=>zn)(B:E.mx=zsq g)(h:∃m,W.cell? ⟨g,0,zn⟩=zsq (.int .i64 m)):qw E W cx0:=
 ⟨(fun g v h=>by grind),fun g' h'=>by
   rw[B]at h';cases h';refine⟨h,fun e=>e,?_⟩;obtain⟨m,C⟩:=h;unfold World.cell? at C;grind⟩
theorem QP{E:Env}{W:World}(hg:qw E W cx0):Sat E W cx0 Vg.empty where
 nx:=rfl
 objs id o ho:=by cases ho
 inj id id' o o' ho:=by cases ho
 gl:=hg
 held b hb:=hb.elim
 free id o ho:=by cases ho
theorem Ext.below{W W':World}{cx':Cx}(h:Ext W cx0 W' cx'):RowKit.Below W.heap.size W W':=
 ⟨h.out.1,h.out.2.1,h.out.2.2,h.sz,fun b hb=>h.keep b hb (fun h=>h)⟩
theorem told{P:Program}{E:Env}{W:World}(D:dn E P)(hg:qw E W cx0){n f:Nat}{args:Array Value}{l:List AV}(hl:fc W cx0 args.toList l){v:AV}{h':Vg}(G:run E n f l Vg.empty=.ok v h'):
 Calls P f args W fun e w'=>∃B cx',e=.returned B/\Ext W cx0 w' cx'/\Rep w' cx' B v:=by
 have hb:run E n f l Vg.empty≠.bad:=by grind
 refine(oH D hl (QP hg) hb).mono fun e w' C=>?_
 rw[G]at C;cases e with
 |returned B=>obtain⟨cx',h1,h2,h3⟩:=C;grind
 |_=>exact C.elim
def DL:Res->Bool
 |.ok v _=>(match v with | .bool b=>b|_=>zf)
 |_=>zf
theorem oV{P:Program}{E:Env}{W:World}(D:dn E P)(hg:qw E W cx0){n f:Nat}{args:Array Value}{l:List AV}(hl:fc W cx0 args.toList l)(B:DL (run E n f l Vg.empty)=zt):
 Calls P f args W fun e w'=>e=.returned (.bool zt)/\RowKit.Below W.heap.size W w':=by
 cases C:run E n f l Vg.empty with
 |ok v h=>
  rw[C]at B;cases v with
  |bool b=>
   have B:b=zt:=B;subst B;refine(told D hg hl C).mono fun e w' G=>?_
   obtain⟨vv,cx',rfl,I,J⟩:=G;rw[J.bool_inv];exact⟨rfl,I.below⟩
  |_=>cases B
 |_=>rw[C]at B;cases B
end Go.AM
/-
 The abstract machine: strings.Contains is told of,off the library's contract.
-/
namespace Go.AM
open Go.Proofs Go.Shelf
theorem Ya(c:UInt8):∀(s:List UInt8),gw [c] s=decide (0<=Go.Lib.indexByte s c)
 |[]=>rfl
 |y::r=>by
  show(bif (bif Jp c y then zt else zf)then zt else gw [c] r)=_
  rw[Ya c r,Oa];rw[show Go.Lib.indexByte (y::r) c=if y==c then 0 else if Go.Lib.indexByte r c == -1 then -1 else Go.Lib.indexByte r c+1 from rfl];grind
theorem xE{E:Env}{P:Program}{ρ:Ren}(L:LaysM.n144 P ρ)(C:∀f,E.told f=zt->f=ρ.f 144)(D:E.mx=zsq (ρ.g 1)):DK E P:=fun f hf=>by
 have:=C f hf
 subst this;refine⟨ρ.g 1,Body.n144 ρ,_,D,L.f144,rfl,by kernel_rfl,fun s sub m w B G=>?_⟩;rcases B with B|B
 rotate_left
 . obtain ⟨⟨l⟩⟩:=sub
   cases l with
   |nil=>cases B
   | cons c q=>cases q with
    |cons b q=>simp[ByteArray.size]at B
    |nil=>
     have:=Go.Proofs.Any.strings_Contains_one {L with} s c w
     grind[Ya]
 rw[eF];exact Go.Proofs.Any.strings_Contains {L with} s sub m w B G
end Go.AM
/-
 The abstract machine: slices.Sorted at a map's keys: off the library's contracts.
-/
namespace Go.AM
open Go.Maps Go.RowKit Go.WideShapes Go.Sort
end Go.AM
/-
 The abstract machine: what a row asks of the world behind a call,off 'Below'.
-/
namespace Go.AM
open Go.ChangeShapes Go.WideShapes Go.ChangeAt Go.RowKit
section
variable {H:Type}{enc:TypeId×Value->H}{P:Program}
theorem Wo{f:Func}{s:ChangeSpec}{apart D C G:Bool}{W W':World}{args:Array Value}{v:Value}{ds gs:List (DataW H)}{B pa pv:List MemPlace}
 (hW:DataW.Whole enc P f.params.toList s.vars apart W args.toList ds gs B)
 (hres:∀(b:Nat)(sp:Nat->Bool)(Q:Bool),DataW.TrodAll enc P W' b sp Q f.resultTypes.toList (v.resultList f.resultTypes.size) (s.fn H (ds++gs)).results [])
 (hargs:∀sp:Nat->Bool,(∀p∈B,sp p.block=zt)->DataW.TrodAll enc P W' 0 sp zt f.params.toList args.toList (s.fn H (ds++gs)).args pa)
 (hvars:∀sp:Nat->Bool,(∀p∈B,sp p.block=zt)->DataW.TrodVars enc P W' sp s.vars (s.fn H (ds++gs)).vars pv)
 (hps:B=pa++pv)(hb:Below W.heap.size W W')
 (hok:∀(j:Nat)(t:TypeId)(r:Value),f.resultTypes[j]?=zsq t->(v.resultList f.resultTypes.size)[j]?=zsq r->Value.okWide P W' .any 0 t r):
 s.post enc P f apart D C G W args v W':=by
 have J:∀p∈B,p.block<W.heap.size:=fun p I=>by simpa using hW.lt p I
 have hold:∀p∈B,(fun b=>decide (b<W.heap.size)) p.block=zt:=fun p I=>by grind
 refine⟨ds,gs,B,[],pa,pv,hW,hres _ _ _,hargs _ hold,hvars _ hold,World.keptBut_mono (fun p I=>⟨I,?_⟩) (hb.frame (·∈B)),fun _=>?_⟩
 . grind
 . obtain ⟨_,_,_,_,_,hz,hn⟩:=hW
   refine⟨hok,_,_,([]++pa)++pv,⟨[]++pa,pv,trodAll_append (hargs _ (fun _ _=>rfl)) (hres _ _ _),hvars _ (fun _ _=>rfl),rfl,?_,?_⟩,?_⟩
   . intro b off I
     have N:MemPlace.cell b off∈B:=by grind
     have:=hb.frozen (p:=⟨b,off,zn⟩) (J _ N)
     rw[this];exact hz b off N
   . grind
   grind
end
end Go.AM
