/- The abstract machine, part one: definitions, lists, what a value of the model is told as, worlds. Conditions: none. -/
import GoSem.Dispatch
import Derived.Calls
import Derived.Laws.World
import Derived.Laws.Sem
import Derived.MapKept
import Derived.Laws.Cells
import Derived.Laws.StructEq
import Derived.Below
set_option linter.unusedVariables false
set_option linter.unusedSectionVars false
set_option linter.unusedSimpArgs false
/-
 The abstract machine: an evaluator for the model's code over abstract values. Definitions alone. (Each function is small and takes the state last: so the kernel runs it quickly.)
set_option maxHeartbeats 4000000
-/
open Option renaming some→zs,none→zn
open Bool renaming true→zt,false→zf
open Nat renaming land→zqa,shiftRight→zqb,lt_of_lt_of_le→zqc,lt_succ_self→zqd,div→zqe,le_refl→zqf,shiftRight_eq_div_pow→zqg,le_of_ble_eq_true→zqh,mod_two_eq_zero_or_one→zqi,eq_of_beq_eq_true→zqj,and_one_is_mod→zqk,ble_eq_true_of_le→zql,lt_succ_of_lt→zqm
open Int renaming ofNat→zqn,emod_lt_of_pos→zqo,ofNat_eq_natCast→zqp
open Bool renaming eq_iff_iff→zqq,false_eq_true→zqr,and_eq_true→zqs
open List renaming getElem?_eq_getElem→zqt,drop_eq_nil_of_le→zqu,drop_eq_getElem_cons→zqv
namespace Go.AM
noncomputable section
inductive AV where
 |int (k:IntKind) (n:Int)
 |bool (b:Bool)
 |str (s:List UInt8)
 |agg (cs:List AV)
 |tup (vs:List AV)
 |fsl (es:List AV) (full:Bool)
 |fptr (v:AV) (off:Nat)
 |msl (id off n sz:Nat)
 |ptr (id i off:Nat)
 |nilsl
 |nilptr
 |nilmap
 |map (id:Nat)
 |fn (f:Fn) (first caps:List AV)
 |nilfn
 |iface (t:TypeId) (v:AV)
 |niliface
 |any
 |und
 deriving Inhabited
inductive AObj where
 |row (es:List AV) (sz:Nat)
 |mapo (es:List (AV×AV))
 deriving Inhabited
inductive HT where
 |nil
 |node (l:HT) (v:Option AObj) (r:HT)
 deriving Inhabited
structure Heap where
 next:Nat
 tch:List Nat
 os:HT
inductive Tr where
 |nil
 |node (l:Tr) (v:AV) (r:Tr)
 deriving Inhabited
inductive TD where
 |int (k:IntKind)|bool|string
 |ptr (e:Nat)|slice (e:Nat)|array (n e:Nat)|map (k e:Nat)
 |struct (fields:List (Nat×Nat)) (flat:Bool)
 |func|iface|other
structure TI where
 desc:TD
 size:Nat
 bytes:Nat
 zero:AV
structure XOp where
 dst:Option Tmp
 op:Op
 gd:Option (Option Tmp×Bool)
 quiet:Bool
 late:List Bool
 careful:Bool
structure RngD where
 m:Operand
 d1:Nat
 d2:Nat
 d3:Nat
 d4:Nat
 d5:Nat
 d6:Nat
 d7:Nat
 i0:Nat
 i1:Nat
 ty:Nat
 ws:List Nat
inductive XC where
 |skip
 |reg (draw:Bool) (l:List XOp)
 |seq (a b:XC)
 |cond (c:Operand) (a b:XC)
 |block (id:Nat) (c:XC)
 |loop (c:XC)
 |scope (c:XC)
 |rfn (g:Operand) (ps:List Tmp) (a b:XC)
 |exit (id:Nat)
 |ret
 |bad
 |rngm (R:RngD) (y:XC)
inductive IC where
 |skip
 |reg (x:XC)
 |yreg (p0:XC) (gd:Option (Option Tmp×Bool)) (yt:Tmp) (p1:XC) (yd:Tmp) (args:List Operand) (p2:XC)
 |seq (a b:IC)
 |cond (c:Operand) (a b:IC)
 |block (id:Nat) (c:IC)
 |loop (c:IC)
 |exit (id:Nat)
 |ret
inductive FM where
 |plain
 |dfr (pre:List XC) (g:Operand) (rest:XC)
 |rcv (d d2:Tmp) (rest:XC)
 |itf (c:IC)
structure FI where
 code:XC
 ntmps:Nat
 results:List ResultVar
 mode:FM
structure Env where
 ti:Nat->Option TI
 fn:Nat->Option FI
 gl:Nat->Option AV
 told:Nat->Bool
 mx:Option Nat
 gc:Nat->Bool:=fun _=>zf
 dlf:Nat->Option (List Nat):=fun _=>zn
 srt:Nat->Nat->Bool:=fun _ _=>zf
inductive Res where
 |ok (a:AV) (h:Heap)
 |pan (v:AV) (h:Heap)
 |bad
inductive Ex where
 |normal|exit (id:Nat)|ret
inductive CRes where
 |ok (e:Ex) (fr:Tr) (h:Heap)
 |pan (v:AV) (h:Heap)
 |bad
def M2{α:Type}(n:Nat)(f:Nat->α):α:=match n with|0=>f 0|m+1=>f (m+1)
def forceI{α:Type}(n:Int)(f:Int->α):α:=match n with | .ofNat a=>M2 a fun a=>f (.ofNat a) | .negSucc a=>M2 a fun a=>f (.negSucc a)
theorem B7{α:Type}(n:Nat)(f:Nat->α):M2 n f=f n:=by cases n<;>rfl
theorem Mv{α:Type}(n:Int)(f:Int->α):forceI n f=f n:=by cases n<;>simp[forceI,B7]
def pow2:IntKind->Nat
 |.i8 | .u8=>256
 |.i16 | .u16=>65536
 |.i32 | .u32=>4294967296
 | .i64 | .u64=>18446744073709551616
def half:IntKind->Nat
 |.i8=>128
 |.i16=>32768
 |.i32=>2147483648
 |.i64=>9223372036854775808
 |.u8=>256
 |.u16=>65536
 |.u32=>4294967296
 | .u64=>18446744073709551616
def modN(n:Int)(m:Nat):Nat:=
 match n with
 |.ofNat a=>Nat.mod a m
 | .negSucc a=>Nat.sub m (Nat.succ (Nat.mod a m))
def Ax(k:IntKind)(m:Nat):Int:=
 bif Nat.ble (half k) m then Int.negSucc (Nat.sub (Nat.sub (pow2 k) m) 1)else zqn m
def lD(k:IntKind)(n:Int):Int:=Ax k (modN n (pow2 k))
def iG:IntKind->Nat
 | .i8=>0 | .i16=>1 | .i32=>2 | .i64=>3 | .u8=>4 | .u16=>5 | .u32=>6 | .u64=>7
def kindEq(j k:IntKind):Bool:=Nat.beq (iG j) (iG k)
def J2:IntKind->Nat
 |.i8 | .u8=>8
 |.i16 | .u16=>16
 |.i32 | .u32=>32
 | .i64 | .u64=>64
def intEq(a b:Int):Bool:=
 match a with
 |.ofNat a=>match b with | .ofNat b=>Nat.beq a b | .negSucc _=>zf
 | .negSucc a=>match b with | .ofNat _=>zf | .negSucc b=>Nat.beq a b
def intLe(a b:Int):Bool:=
 match a with
 |.ofNat a=>match b with | .ofNat b=>Nat.ble a b | .negSucc _=>zf
 | .negSucc a=>match b with | .ofNat _=>zt | .negSucc b=>Nat.ble b a
def Iu(a b:UInt8):Bool:=Nat.beq a.toNat b.toNat
def Oh:List UInt8->List UInt8->Bool
 |[],b=>match b with|[]=>zt|_::_=>zf
 |x::a,b=>match b with|[]=>zf|y::b=>bif Iu x y then Oh a b else zf
def AV.cells(v:AV):List AV:=AV.rec (motive_1:=fun _=>List AV) (motive_2:=fun _=>Unit)
    (fun A B=>[(.int A B)])
    (fun A=>[(.bool A)])
    (fun A=>[(.str A)])
    (fun cs _=>cs)
    (fun A _=>[(.tup A)])
    (fun A B _=>[(.fsl A B)])
    (fun A B _=>[(.fptr A B)])
    (fun A B C D=>[(.msl A B C D)])
    (fun A B C=>[(.ptr A B C)])
    ([(.nilsl)])
    ([(.nilptr)])
    ([(.nilmap)])
    (fun A=>[(.map A)])
    (fun A B C _ _=>[(.fn A B C)])
    ([(.nilfn)])
    (fun A B _=>[(.iface A B)])
    ([(.niliface)])
    ([(.any)])
    ([(.und)])
    () (fun _ _ _ _=>()) v
namespace AV
section
variable {α:Type}
def onInt(v:AV)(d:α)(f:IntKind->Int->α):α:=AV.rec (motive_1:=fun _=>α->(IntKind->Int->α)->α) (motive_2:=fun _=>Unit)
    (fun k n p0 p1=>p1 k n)
    (fun _ p0 p1=>p0)
    (fun _ p0 p1=>p0)
    (fun _ _ p0 p1=>p0)
    (fun _ _ p0 p1=>p0)
    (fun _ _ _ p0 p1=>p0)
    (fun _ _ _ p0 p1=>p0)
    (fun _ _ _ _ p0 p1=>p0)
    (fun _ _ _ p0 p1=>p0)
    (fun p0 p1=>p0)
    (fun p0 p1=>p0)
    (fun p0 p1=>p0)
    (fun _ p0 p1=>p0)
    (fun _ _ _ _ _ p0 p1=>p0)
    (fun p0 p1=>p0)
    (fun _ _ _ p0 p1=>p0)
    (fun p0 p1=>p0)
    (fun p0 p1=>p0)
    (fun p0 p1=>p0)
    () (fun _ _ _ _=>()) v d f
def onBool(v:AV)(d:α)(f:Bool->α):α:=AV.rec (motive_1:=fun _=>α->(Bool->α)->α) (motive_2:=fun _=>Unit)
    (fun _ _ p0 p1=>p0)
    (fun b p0 p1=>p1 b)
    (fun _ p0 p1=>p0)
    (fun _ _ p0 p1=>p0)
    (fun _ _ p0 p1=>p0)
    (fun _ _ _ p0 p1=>p0)
    (fun _ _ _ p0 p1=>p0)
    (fun _ _ _ _ p0 p1=>p0)
    (fun _ _ _ p0 p1=>p0)
    (fun p0 p1=>p0)
    (fun p0 p1=>p0)
    (fun p0 p1=>p0)
    (fun _ p0 p1=>p0)
    (fun _ _ _ _ _ p0 p1=>p0)
    (fun p0 p1=>p0)
    (fun _ _ _ p0 p1=>p0)
    (fun p0 p1=>p0)
    (fun p0 p1=>p0)
    (fun p0 p1=>p0)
    () (fun _ _ _ _=>()) v d f
def onStr(v:AV)(d:α)(f:List UInt8->α):α:=AV.rec (motive_1:=fun _=>α->(List UInt8->α)->α) (motive_2:=fun _=>Unit)
    (fun _ _ p0 p1=>p0)
    (fun _ p0 p1=>p0)
    (fun s p0 p1=>p1 s)
    (fun _ _ p0 p1=>p0)
    (fun _ _ p0 p1=>p0)
    (fun _ _ _ p0 p1=>p0)
    (fun _ _ _ p0 p1=>p0)
    (fun _ _ _ _ p0 p1=>p0)
    (fun _ _ _ p0 p1=>p0)
    (fun p0 p1=>p0)
    (fun p0 p1=>p0)
    (fun p0 p1=>p0)
    (fun _ p0 p1=>p0)
    (fun _ _ _ _ _ p0 p1=>p0)
    (fun p0 p1=>p0)
    (fun _ _ _ p0 p1=>p0)
    (fun p0 p1=>p0)
    (fun p0 p1=>p0)
    (fun p0 p1=>p0)
    () (fun _ _ _ _=>()) v d f
def onAgg(v:AV)(d:α)(f:List AV->α):α:=AV.rec (motive_1:=fun _=>α->(List AV->α)->α) (motive_2:=fun _=>Unit)
    (fun _ _ p0 p1=>p0)
    (fun _ p0 p1=>p0)
    (fun _ p0 p1=>p0)
    (fun s _ p0 p1=>p1 s)
    (fun _ _ p0 p1=>p0)
    (fun _ _ _ p0 p1=>p0)
    (fun _ _ _ p0 p1=>p0)
    (fun _ _ _ _ p0 p1=>p0)
    (fun _ _ _ p0 p1=>p0)
    (fun p0 p1=>p0)
    (fun p0 p1=>p0)
    (fun p0 p1=>p0)
    (fun _ p0 p1=>p0)
    (fun _ _ _ _ _ p0 p1=>p0)
    (fun p0 p1=>p0)
    (fun _ _ _ p0 p1=>p0)
    (fun p0 p1=>p0)
    (fun p0 p1=>p0)
    (fun p0 p1=>p0)
    () (fun _ _ _ _=>()) v d f
def onTup(v:AV)(d:α)(f:List AV->α):α:=AV.rec (motive_1:=fun _=>α->(List AV->α)->α) (motive_2:=fun _=>Unit)
    (fun _ _ p0 p1=>p0)
    (fun _ p0 p1=>p0)
    (fun _ p0 p1=>p0)
    (fun _ _ p0 p1=>p0)
    (fun s _ p0 p1=>p1 s)
    (fun _ _ _ p0 p1=>p0)
    (fun _ _ _ p0 p1=>p0)
    (fun _ _ _ _ p0 p1=>p0)
    (fun _ _ _ p0 p1=>p0)
    (fun p0 p1=>p0)
    (fun p0 p1=>p0)
    (fun p0 p1=>p0)
    (fun _ p0 p1=>p0)
    (fun _ _ _ _ _ p0 p1=>p0)
    (fun p0 p1=>p0)
    (fun _ _ _ p0 p1=>p0)
    (fun p0 p1=>p0)
    (fun p0 p1=>p0)
    (fun p0 p1=>p0)
    () (fun _ _ _ _=>()) v d f
end
end AV
namespace HT
def get(t:HT):Nat->Option AObj:=
 HT.rec (motive:=fun _=>Nat->Option AObj) (fun _=>zn)
  (fun _ v _ gl gr i=>Nat.rec (motive:=fun _=>Option AObj) v (fun k _=>Nat.rec (motive:=fun _=>Option AObj) (gl (zqb k 1)) (fun _ _=>gr (zqb k 1)) (zqa k 1)) i) t
def left(t:HT):HT:=HT.rec (motive:=fun _=>HT) .nil (fun l _ _ _ _=>l) t
def mid(t:HT):Option AObj:=HT.rec (motive:=fun _=>Option AObj) zn (fun _ v _ _ _=>v) t
def right(t:HT):HT:=HT.rec (motive:=fun _=>HT) .nil (fun _ _ r _ _=>r) t
def path(x:Option AObj)(f:Nat):Nat->HT:=
 Nat.rec (motive:=fun _=>Nat->HT) (fun _=>.nil)
  (fun _ A i=>Nat.rec (motive:=fun _=>HT) (.node .nil x .nil) (fun k _=>Nat.rec (motive:=fun _=>HT) (.node (A (zqb k 1)) zn .nil) (fun _ _=>.node .nil zn (A (zqb k 1))) (zqa k 1)) i) f
def put(x:Option AObj)(f:Nat)(t:HT):Nat->HT:=
 HT.rec (motive:=fun _=>Option AObj->Nat->Nat->HT) (fun x f i=>path x f i)
  (fun l v r A B x f i=>Nat.rec (motive:=fun _=>HT) (.node l x r) (fun k _=>Nat.rec (motive:=fun _=>HT) (.node (A x f (zqb k 1)) v r) (fun _ _=>.node l v (B x f (zqb k 1))) (zqa k 1)) i) t x f
def trunc(o:HT):HT->HT:=
 HT.rec (motive:=fun _=>HT->HT) (fun _=>.nil) (fun _ _ _ A tr n=>.node (A n.left) n.mid (tr n.right)) o
end HT
namespace Heap
def empty:Heap:=⟨0,[],.nil⟩
def get(h:Heap)(i:Nat):Option AObj:=h.os.get i
def set(h:Heap)(i:Nat)(x:AObj):Heap:=⟨h.next,i::h.tch,h.os.put (zs x) (i+1) i⟩
def del(h:Heap)(i:Nat):Heap:=⟨h.next,i::h.tch,h.os.put zn (i+1) i⟩
def push(h:Heap)(x:AObj):Heap:=⟨h.next+1,h.tch,h.os.put (zs x) (h.next+1) h.next⟩
def onRow{α:Type}(h:Heap)(i:Nat)(d:α)(f:List AV->Nat->α):α:=
 match h.get i with
 |none=>d
 |some o=>match o with | .row es sz=>f es sz | .mapo _=>d
def onMapo{α:Type}(h:Heap)(i:Nat)(d:α)(f:List (AV×AV)->α):α:=
 match h.get i with
 |none=>d
 |some o=>match o with | .row _ _=>d | .mapo es=>f es
end Heap
namespace Tr
def get(t:Tr):Nat->AV:=
 Tr.rec (motive:=fun _=>Nat->AV) (fun _=>.und)
  (fun _ v _ gl gr i=>Nat.rec (motive:=fun _=>AV) v (fun k _=>Nat.rec (motive:=fun _=>AV) (gl (zqb k 1)) (fun _ _=>gr (zqb k 1)) (zqa k 1)) i) t
def set(t:Tr):Nat->AV->Tr:=
 Tr.rec (motive:=fun _=>Nat->AV->Tr) (fun _ _=>.nil)
  (fun l v r A B i x=>Nat.rec (motive:=fun _=>Tr) (.node l x r) (fun k _=>Nat.rec (motive:=fun _=>Tr) (.node (A (zqb k 1) x) v r) (fun _ _=>.node l v (B (zqb k 1) x)) (zqa k 1)) i) t
noncomputable def has(t:Tr):Nat->Bool:=
 Tr.rec (motive:=fun _=>Nat->Bool) (fun _=>zf)
  (fun _ _ _ gl gr i=>Nat.rec (motive:=fun _=>Bool) zt (fun k _=>bif Nat.beq (zqa k 1) 0 then gl (zqb k 1)else gr (zqb k 1)) i) t
def mk(f:Nat):Nat->Tr:=
 Nat.rec (motive:=fun _=>Nat->Tr) (fun _=>.nil) (fun _ A n=>Nat.rec (motive:=fun _=>Tr) .nil (fun k _=>.node (A (zqe (k+1) 2)) .und (A (zqe k 2))) n) f
def setAll(l:List AV):Nat->Tr->Tr:=
 List.rec (motive:=fun _=>Nat->Tr->Tr) (fun _ t=>t) (fun v _ A i t=>A (i+1) (t.set i v)) l
def enter(n:Nat)(args:List AV):Tr:=setAll args 0 (mk 20 n)
end Tr
def Ff:Value->AV
 |.int k n=>.int k n
 |.bool b=>.bool b
 |.string s=>.str s.data.toList
 |.pointer a=>match a with|none=>.nilptr|some _=>.any
 |.slice a n c=>match a with|none=>(match n with|0=>(match c with|0=>.nilsl|_=>.any)|_=>.any)|some _=>.any
 |.map r=>match r with|none=>.nilmap|some _=>.any
 |.nilFunc=>.nilfn
 |.nilIface=>.niliface
 |.agg _=>.und
 |.tuple _=>.und
 |_=>.any
def ofValue(v:Value):AV:=match v with | .agg cs=>.agg (cs.toList.map Ff)|v=>Ff v
def A4{α β:Type}(x:Option α)(f:α->Option β):Option β:=Option.rec (motive:=fun _=>Option β) zn f x
def A9{α:Type}(b:Bool)(x:Option α):Option α:=Bool.rec (motive:=fun _=>Option α) zn x b
def Fg(l:List AV):Nat->Option AV:=
 List.rec (motive:=fun _=>Nat->Option AV) (fun _=>zn) (fun v _ A i=>Nat.rec (motive:=fun _=>Option AV) (zs v) (fun k _=>A k) i) l
def dropL(l:List AV):Nat->List AV:=
 List.rec (motive:=fun _=>Nat->List AV) (fun _=>[]) (fun v r A i=>Nat.rec (motive:=fun _=>List AV) (v::r) (fun k _=>A k) i) l
def takeL(l:List AV):Nat->List AV:=
 List.rec (motive:=fun _=>Nat->List AV) (fun _=>[]) (fun v _ A i=>Nat.rec (motive:=fun _=>List AV) [] (fun k _=>v::A k) i) l
def setL(l:List AV):Nat->AV->List AV:=
 List.rec (motive:=fun _=>Nat->AV->List AV) (fun _ _=>[]) (fun v r A i x=>Nat.rec (motive:=fun _=>List AV) (x::r) (fun k _=>v::A k x) i) l
def lenL(l:List AV):Nat:=List.rec (motive:=fun _=>Nat) 0 (fun _ _ n=>Nat.succ n) l
def Re{α:Type}(l:List AV)(f:List AV->α):α:=List.rec (motive:=fun _=>(List AV->α)->α) (fun f=>f []) (fun x _ A f=>A fun r=>f (x::r)) l f
def appL(a b:List AV):List AV:=List.rec (motive:=fun _=>List AV) b (fun v _ A=>v::A) a
def repL(n:Nat)(v:AV):List AV:=Nat.rec (motive:=fun _=>List AV) [] (fun _ A=>v::A) n
def r6(l:List UInt8):Nat:=List.rec (motive:=fun _=>Nat) 0 (fun _ _ n=>Nat.succ n) l
def r7:TD->Bool
 |.struct _ _=>zt
 |.array _ _=>zt
 |_=>zf
def partOf(t:TI)(cs:List AV)(off:Nat):Option AV:=
 bif r7 t.desc then(bif Nat.ble (Nat.add off t.size) (lenL cs)then zs (.agg (takeL (dropL cs off) t.size))else zn)else Fg cs off
def O7(cs:List AV)(off:Nat)(new:List AV):List AV:=appL (takeL cs off) (appL new (dropL cs (Nat.add off (lenL new))))
def AV.withCells(v:AV)(off:Nat)(new:List AV):AV:=
 match v with
 |.agg cs=>.agg (O7 cs off new)
 |_=>match new with|[]=>.und|x::r=>match r with|[]=>x|_::_=>.und
def okCell(v:AV):Bool:=match v with | .agg _=>zf | .tup _=>zf | .und=>zf|_=>zt
def D1(l:List AV):Bool:=List.rec (motive:=fun _=>Bool) zt (fun v _ A=>bif okCell v then A else zf) l
def elems(x:AV)(h:Heap):Option (List AV):=AV.rec (motive_1:=fun _=>Heap->Option (List AV)) (motive_2:=fun _=>Unit)
    (fun _ _ p0=>zn)
    (fun _ p0=>zn)
    (fun _ p0=>zn)
    (fun _ _ p0=>zn)
    (fun _ _ p0=>zn)
    (fun es _ _ p0=>zs es)
    (fun _ _ _ p0=>zn)
    (fun id off n _ p0=>p0.onRow id zn fun es _=>bif Nat.ble (Nat.add off n) (lenL es)then zs (takeL (dropL es off) n)else zn)
    (fun _ _ _ p0=>zn)
    (fun p0=>zs [])
    (fun p0=>zn)
    (fun p0=>zn)
    (fun _ p0=>zn)
    (fun _ _ _ _ _ p0=>zn)
    (fun p0=>zn)
    (fun _ _ _ p0=>zn)
    (fun p0=>zn)
    (fun p0=>zn)
    (fun p0=>zn)
    () (fun _ _ _ _=>()) x h
def HU(x y:AV):Option Bool:=
 match x with
 |.int j a=>y.onInt zn fun k b=>bif kindEq j k then zs (intEq a b)else zn
 |.str a=>y.onStr zn fun b=>zs (Oh a b)
 |_=>zn
def onOB{α:Type}(b:Option Bool)(d:α)(t f:α):α:=Option.rec (motive:=fun _=>α) d (fun b=>Bool.rec (motive:=fun _=>α) f t b) b
def oP(l:List (AV×AV)):Nat:=List.rec (motive:=fun _=>Nat) 0 (fun _ _ n=>Nat.succ n) l
def z6(k:IntKind)(n:Int):Option AV:=forceI n fun n=>zs (.int k n)
def O8(k:IntKind)(n:Int):Option AV:=z6 k (lD k n)
def E7(b:Bool):Option AV:=match b with|true=>zs (.bool zt)|false=>zs (.bool zf)
def HV(x y:AV):Option Bool:=
 match x with
 |.int j a=>y.onInt zn fun k b=>bif kindEq j k then zs (intEq a b)else zn
 |.bool a=>y.onBool zn fun b=>zs (a==b)
 |.str a=>y.onStr zn fun b=>zs (Oh a b)
 |_=>zn
def Wo(z x:AV):Bool:=
 match z with
 |.int j _=>x.onInt zf fun k _=>kindEq j k
 |.bool _=>x.onBool zf fun _=>zt
 |.str _=>x.onStr zf fun _=>zt
 |_=>zf
def Ei(z:List AV):List AV->Bool:=
 List.rec (motive:=fun _=>List AV->Bool) (fun m=>match m with|[]=>zt|_::_=>zf)
  (fun x _ A m=>match m with|[]=>zf|y::m=>bif Wo x y then A m else zf) z
def PS(l:List AV):List AV->Option Bool:=
 List.rec (motive:=fun _=>List AV->Option Bool) (fun m=>match m with|[]=>zs zt|_::_=>zn)
  (fun x _ A m=>match m with|[]=>zn|y::m=>onOB (HV x y) zn (A m) (zs zf)) l
inductive EqK where
 |none|bool|slc|ptr|map|ifc|flat (z:List AV)
def rS(flat:EqK)(a b:List AV):Option Bool:=
 match flat with
 |.flat z=>A9 (Ei z a&&Ei z b) (PS a b)
 |_=>zn
def xB(flat:EqK):Bool:=match flat with | .bool=>zt|_=>zf
def rT(x:AV):Option Bool:=match x with | .nilsl=>zs zt | .msl _ _ _ _=>zs zf | .fsl es f=>(match es with|[]=>bif f then zn else zs zf|_::_=>zs zf)|_=>zn
def rU(x:AV):Option Bool:=match x with | .nilptr=>zs zt | .ptr _ _ _=>zs zf | .fptr _ _=>zs zf|_=>zn
def rV(x:AV):Option Bool:=match x with | .nilmap=>zs zt | .map _=>zs zf|_=>zn
def rW(x:AV):Option Bool:=match x with | .niliface=>zs zt | .iface _ _=>zs zf|_=>zn
def r8(k:EqK)(x:AV):Option Bool:=match k with | .slc=>rT x | .ptr=>rU x | .map=>rV x | .ifc=>rW x|_=>zn
def Fh(k:EqK)(x y:AV):Option Bool:=onOB (r8 k y) zn (r8 k x) (onOB (r8 k x) zn (zs zf) zn)
def rX(flat:EqK)(x y:AV):Option Bool:=
 match x with
 |.agg a=>y.onAgg zn fun b=>rS flat a b
 |.bool a=>y.onBool zn fun b=>A9 (xB flat) (zs (a==b))
 |.int j a=>y.onInt zn fun k b=>bif kindEq j k then zs (intEq a b)else zn
 |.str a=>y.onStr zn fun b=>zs (Oh a b)
 |x=>Fh flat x y
def SD(flat:EqK)(x y:AV):Option AV:=A4 (rX flat x y) E7
def SE(flat:EqK)(x y:AV):Option AV:=A4 (rX flat x y) fun b=>E7 (!b)
def d8(x y:AV)(f:IntKind->Int->Int->Option AV):Option AV:=
 x.onInt zn fun k a=>y.onInt zn fun k' b=>bif kindEq k k' then f k a b else zn
def CV(x y:AV):Option AV:=
 match x with
 |.str a=>y.onStr zn fun b=>bif Nat.ble (Nat.add (r6 a) (r6 b)) 4611686018427387904 then zs (.str (a++b))else zn
 |x=>d8 x y fun k a b=>O8 k (a+b)
def Kg(f:Nat->Nat->Nat)(x y:AV):Option AV:=d8 x y fun k a b=>z6 k (Ax k (f (modN a (pow2 k)) (modN b (pow2 k))))
def HW(x y:AV):Option AV:=x.onInt zn fun k a=>y.onInt zn fun _ b=>match b with
 |.negSucc _=>zn
 | .ofNat n=>O8 k (a*zqn (Nat.pow 2 (bif Nat.ble n (J2 k)then n else J2 k)))
def HX(x y:AV):Option AV:=x.onInt zn fun k a=>y.onInt zn fun _ b=>match b with
 |.negSucc _=>zn
 | .ofNat n=>z6 k (a.fdiv (zqn (Nat.pow 2 (bif Nat.ble n (J2 k)then n else J2 k))))
def SF(x y:AV):Option AV:=d8 x y fun k a b=>bif intEq b 0 then zn else O8 k (a.tdiv b)
def SG(x y:AV):Option AV:=d8 x y fun k a b=>bif intEq b 0 then zn else z6 k (a.tmod b)
def J3(op:BinOp)(flat:EqK):AV->AV->Option AV:=
 match op with
 |.add=>CV
 |.sub=>fun x y=>d8 x y fun k a b=>O8 k (a-b)
 |.mul=>fun x y=>d8 x y fun k a b=>O8 k (a*b)
 |.quo=>SF
 |.rem=>SG
 |.and=>Kg zqa
 |.or=>Kg Nat.lor
 |.xor=>Kg Nat.xor
 |.shl=>HW
 |.shr=>HX
 |.eql=>SD flat
 |.neq=>SE flat
 |.lss=>fun x y=>d8 x y fun _ a b=>E7 (!(intLe b a))
 |.leq=>fun x y=>d8 x y fun _ a b=>E7 (intLe a b)
 |.gtr=>fun x y=>d8 x y fun _ a b=>E7 (!(intLe a b))
 |.geq=>fun x y=>d8 x y fun _ a b=>E7 (intLe b a)
 |_=>fun _ _=>zn
def Kh(op:UnOp)(x:AV):Option AV:=
 match op with
 |.neg=>x.onInt zn fun k n=>O8 k (0-n)
 |.not=>x.onBool zn fun b=>E7 (!b)
 |_=>zn
def R5(dst:TD)(x:AV):Option AV:=
 match dst with
 |.int k=>x.onInt zn fun _ n=>O8 k n
 |.string=>x.onStr zn fun s=>zs (.str s)
 |_=>zn
def asNat(v:AV):Option Nat:=v.onInt zn fun _ n=>match n with | .ofNat n=>zs n | .negSucc _=>zn
def D5(o:Option AV)(d:Nat):Option Nat:=match o with|none=>zs d|some v=>asNat v
def Mw(l:List AV):AV->Option AV:=
 List.rec (motive:=fun _=>AV->Option AV) zs (fun y _ A x=>x.onInt zn fun k a=>y.onInt zn fun _ b=>A (.int k (bif intLe b a then a else b))) l
def Pe(l:List AV):AV->Option AV:=
 List.rec (motive:=fun _=>AV->Option AV) zs (fun y _ A x=>x.onInt zn fun k a=>y.onInt zn fun _ b=>A (.int k (bif intLe a b then a else b))) l
def Fi(s:List UInt8)(lo hi mx:Option AV):Option AV:=
 A4 (D5 lo 0) fun l=>A4 (D5 hi (r6 s)) fun r =>
  A9 (Nat.ble l r&&Nat.ble r (r6 s)&&mx.isNone) (zs (.str ((s.drop l).take (Nat.sub r l))))
def k7(sz:Nat)(es:List AV):Bool:=match es with|[]=>zt|e::_=>Nat.beq (lenL e.cells) sz
def Iv(sz:Nat)(es:List AV)(full:Bool)(lo hi mx:Option AV):Option AV:=
 A4 (D5 lo 0) fun l=>A4 (D5 hi (lenL es)) fun r=>A4 (D5 mx (lenL es)) fun m =>
  A9 (Nat.ble l r&&Nat.ble r m&&Nat.ble m (lenL es)&&k7 sz es)
   (zs (.fsl (takeL (dropL es l) (Nat.sub r l)) (match mx with|some _=>Nat.beq m r|none=>full&&Nat.beq r (lenL es))))
def Mx(ts id off n sz:Nat)(lo hi mx:Option AV):Option AV:=
 A4 (D5 lo 0) fun l=>A4 (D5 hi n) fun r=>A4 (D5 mx n) fun m =>
  A9 (Nat.ble l r&&Nat.ble r m&&Nat.ble m n&&Nat.beq sz ts) (M2 (Nat.add off l) fun o=>M2 (Nat.sub r l) fun c=>zs (.msl id o c sz))
def Yt(lo hi mx:Option AV):Option AV:=
 A4 (D5 lo 0) fun l=>A4 (D5 hi 0) fun r=>A4 (D5 mx 0) fun m=>A9 (Nat.ble l r&&Nat.ble r m&&Nat.ble m 0) (zs .nilsl)
def My(ts:Nat)(lo hi mx:Option AV)(x:AV):Option AV:=AV.rec (motive_1:=fun _=>Nat->Option AV->Option AV->Option AV->Option AV) (motive_2:=fun _=>Unit)
    (fun _ _ p0 p1 p2 p3=>zn)
    (fun _ p0 p1 p2 p3=>zn)
    (fun _ p0 p1 p2 p3=>zn)
    (fun _ _ p0 p1 p2 p3=>zn)
    (fun _ _ p0 p1 p2 p3=>zn)
    (fun es full _ p0 p1 p2 p3=>Iv p0 es full p1 p2 p3)
    (fun _ _ _ p0 p1 p2 p3=>zn)
    (fun id off n sz p0 p1 p2 p3=>Mx p0 id off n sz p1 p2 p3)
    (fun _ _ _ p0 p1 p2 p3=>zn)
    (fun _ p1 p2 p3=>Yt p1 p2 p3)
    (fun p0 p1 p2 p3=>zn)
    (fun p0 p1 p2 p3=>zn)
    (fun _ p0 p1 p2 p3=>zn)
    (fun _ _ _ _ _ p0 p1 p2 p3=>zn)
    (fun p0 p1 p2 p3=>zn)
    (fun _ _ _ p0 p1 p2 p3=>zn)
    (fun p0 p1 p2 p3=>zn)
    (fun p0 p1 p2 p3=>zn)
    (fun p0 p1 p2 p3=>zn)
    () (fun _ _ _ _=>()) x ts lo hi mx
def B0(x:AV)(d:Nat):Option AV:=AV.rec (motive_1:=fun _=>Nat->Option AV) (motive_2:=fun _=>Unit)
    (fun _ _ p0=>zn)
    (fun _ p0=>zn)
    (fun _ p0=>zn)
    (fun _ _ p0=>zn)
    (fun _ _ p0=>zn)
    (fun _ _ _ p0=>zn)
    (fun v off _ p0=>M2 (Nat.add off p0) fun o=>zs (.fptr v o))
    (fun _ _ _ _ p0=>zn)
    (fun id i off p0=>M2 (Nat.add off p0) fun o=>zs (.ptr id i o))
    (fun p0=>zn)
    (fun p0=>zn)
    (fun p0=>zn)
    (fun _ p0=>zn)
    (fun _ _ _ _ _ p0=>zn)
    (fun p0=>zn)
    (fun _ _ _ p0=>zn)
    (fun p0=>zn)
    (fun p0=>zn)
    (fun p0=>zn)
    () (fun _ _ _ _=>()) x d
def Fj(t:TI)(x:AV)(h:Heap):Option AV:=AV.rec (motive_1:=fun _=>TI->Heap->Option AV) (motive_2:=fun _=>Unit)
    (fun _ _ p0 p1=>zn)
    (fun _ p0 p1=>zn)
    (fun _ p0 p1=>zn)
    (fun _ _ p0 p1=>zn)
    (fun _ _ p0 p1=>zn)
    (fun _ _ _ p0 p1=>zn)
    (fun v off _ p0 p1=>partOf p0 v.cells off)
    (fun _ _ _ _ p0 p1=>zn)
    (fun id i off p0 p1=>p1.onRow id zn fun es _=>A4 (Fg es i) fun v=>partOf p0 v.cells off)
    (fun p0 p1=>zn)
    (fun p0 p1=>zn)
    (fun p0 p1=>zn)
    (fun _ p0 p1=>zn)
    (fun _ _ _ _ _ p0 p1=>zn)
    (fun p0 p1=>zn)
    (fun _ _ _ p0 p1=>zn)
    (fun p0 p1=>zn)
    (fun p0 p1=>zn)
    (fun p0 p1=>zn)
    () (fun _ _ _ _=>()) x t h
def Rf(t:TI)(id i off:Nat)(cs:List AV)(h:Heap)(es:List AV)(sz:Nat):Option Heap:=
 A4 (Fg es i) fun old=>A9 (Nat.beq (lenL cs) t.size&&Nat.blt 0 t.size&&Nat.ble (Nat.add off t.size) sz&&D1 cs) (zs (h.set id (.row (setL es i (old.withCells off cs)) sz)))
def Dn(t:TI)(p v:AV)(h:Heap):Option Heap:=AV.rec (motive_1:=fun _=>TI->AV->Heap->Option Heap) (motive_2:=fun _=>Unit)
    (fun _ _ p0 p1 p2=>zn)
    (fun _ p0 p1 p2=>zn)
    (fun _ p0 p1 p2=>zn)
    (fun _ _ p0 p1 p2=>zn)
    (fun _ _ p0 p1 p2=>zn)
    (fun _ _ _ p0 p1 p2=>zn)
    (fun _ _ _ p0 p1 p2=>zn)
    (fun _ _ _ _ p0 p1 p2=>zn)
    (fun id i off p0 p1 p2=>p2.onRow id zn (Rf p0 id i off p1.cells p2))
    (fun p0 p1 p2=>zn)
    (fun p0 p1 p2=>zn)
    (fun p0 p1 p2=>zn)
    (fun _ p0 p1 p2=>zn)
    (fun _ _ _ _ _ p0 p1 p2=>zn)
    (fun p0 p1 p2=>zn)
    (fun _ _ _ p0 p1 p2=>zn)
    (fun p0 p1 p2=>zn)
    (fun p0 p1 p2=>zn)
    (fun p0 p1 p2=>zn)
    () (fun _ _ _ _=>()) p t v h
def Ay(te:TI)(es:List AV)(full:Bool)(xs:List AV)(h:Heap):Option (AV×Heap):=
 M2 (Nat.add (lenL es) (lenL xs)) fun n =>
  A9 (full&&Nat.ble (Nat.mul n te.bytes) 140737488355328&&k7 te.size es) (Re (appL es xs) fun l=>zs (.msl h.next 0 n te.size,h.push (.row l te.size)))
def Ki(te:TI)(id off n:Nat)(xs:List AV)(h:Heap)(es:List AV)(sz:Nat):Option (AV×Heap):=
 M2 (Nat.add n (lenL xs)) fun m =>
  A9 (Nat.ble (Nat.add off n) (lenL es)&&Nat.beq sz te.size&&Nat.ble (Nat.mul m te.bytes) 140737488355328)
   (Re (appL (takeL (dropL es off) n) xs) fun l=>zs (.msl h.next 0 m sz,(h.del id).push (.row l sz)))
def G9(te:TI)(s:AV)(xs:List AV)(h:Heap):Option (AV×Heap):=
 match xs with
 | []=>match s with
  |.nilsl=>zs (.nilsl,h)
  |.fsl es f=>zs (.fsl es f,h)
  |.msl i o n z=>zs (.msl i o n z,h)
  |_=>zn
 | x::r=>match s with
  |.nilsl=>Ay te [] zt (x::r) h
  |.fsl es full=>Ay te es full (x::r) h
  |.msl id off n _=>h.onRow id zn (Ki te id off n (x::r) h)
  |_=>zn
def cU(x:AV):Option Nat:=AV.rec (motive_1:=fun _=>Option Nat) (motive_2:=fun _=>Unit)
    (fun _ _=>zn)
    (fun _=>zn)
    (fun _=>zn)
    (fun _ _=>zn)
    (fun _ _=>zn)
    (fun es _ _=>zs (lenL es))
    (fun _ _ _=>zn)
    (fun _ _ n _=>zs n)
    (fun _ _ _=>zn)
    (zs 0)
    (zn)
    (zn)
    (fun _=>zn)
    (fun _ _ _ _ _=>zn)
    (zn)
    (fun _ _ _=>zn)
    (zn)
    (zn)
    (zn)
    () (fun _ _ _ _=>()) x
def rY(x:AV)(h:Heap):Option Nat:=
 match x with
 |.nilmap=>zs 0
 |.map id=>h.onMapo id zn fun es=>zs (oP es)
 |_=>zn
def iH(d:TD)(x:AV)(h:Heap):Option Nat:=
 match d with
 |.string=>x.onStr zn fun s=>zs (r6 s)
 |.slice _=>cU x
 |.map _ _=>rY x h
 |_=>zn
def Kj(te:TI)(id off n:Nat)(xs:List AV)(h:Heap)(es:List AV)(sz:Nat):Option (AV×Heap):=
 M2 (bif Nat.ble n (lenL xs)then n else lenL xs) fun k =>
  A9 (Nat.ble (Nat.add off n) (lenL es)&&Nat.beq sz te.size) (zs (.int .i64 (zqn k),h.set id (.row (appL (takeL es off) (appL (takeL xs k) (dropL es (Nat.add off k)))) sz)))
def cV(te:TI)(d:AV)(xs:List AV)(h:Heap):Option (AV×Heap):=
 match d with
 |.msl id off n _=>h.onRow id zn (Kj te id off n xs h)
 |.nilsl=>zs (.int .i64 (zqn 0),h)
 |_=>zn
def F2(sz:Nat)(l:List AV):Bool:=List.rec (motive:=fun _=>Bool) zt (fun v _ A=>bif Nat.beq (lenL v.cells) sz then A else zf) l
section
variable (E:Env)
def opv(x:Operand)(fr:Tr):AV:=Operand.rec (motive:=fun _=>Env->Tr->AV)
    (fun t _ fr=>fr.get t)
    (fun v _ _=>ofValue v)
    (fun g E _=>match E.gl g with|some v=>.fptr v 0|none=>.any)
    (fun f _ _=>.fn (.func f) [] []) x E fr
def opvs(l:List Operand)(fr:Tr):List AV:=List.rec (motive:=fun _=>List AV) [] (fun x _ A=>opv E x fr::A) l
def Mz(o:Option Operand)(fr:Tr):Option AV:=match o with|none=>zn|some x=>zs (opv E x fr)
def onTI{α:Type}(t:Nat)(d:α)(f:TI->α):α:=Option.rec (motive:=fun _=>α) d f (E.ti t)
def elemOfT(d:TD):Option TI:=
 match d with
 |.slice e=>E.ti e
 |_=>zn
def Kk(ts:List TypeId)(args:List AV)(h:Heap):Option (AV×Heap):=
 match ts with
 |[]=>zn
 | t :: ts=>match ts with
  |[]=>zn
  | tx::_=>match args with
   |[]=>zn
   | s::args=>match args with
    |[]=>zn
    |x::_=>onTI E t zn fun ti=>A4 (elemOfT E ti.desc) fun te=>A9 (Nat.blt 0 te.size) (onTI E tx zn fun A =>
     match A.desc with
     |.int _=>A4 (asNat x) fun n=>A9 (Nat.ble (Nat.mul n te.bytes) 140737488355328) (G9 te s (repL n te.zero) h)
     |_=>A4 (elems x h) fun xs=>A9 (F2 te.size xs) (G9 te s xs h))
def Vi(ts:List TypeId)(args:List AV)(h:Heap):Option (AV×Heap):=
 match ts with
 |[]=>zn
 | t::_=>match args with
  |[]=>zn
  |x::_=>onTI E t zn fun ti=>A4 (iH ti.desc x h) fun n=>M2 n fun n=>zs (.int .i64 (zqn n),h)
def cW(ts:List TypeId)(args:List AV)(h:Heap):Option (AV×Heap):=
 match ts with
 |[]=>zn
 | t::_=>match args with
  |[]=>zn
  | d::r=>match r with
   |[]=>zn
   |s::_=>onTI E t zn fun ti=>A4 (elemOfT E ti.desc) fun te=>A4 (elems s h) fun xs=>A9 (F2 te.size xs) (cV te d xs h)
def oS(args:List AV)(h:Heap):Option (AV×Heap):=match args with|[]=>zn|x::r=>(Mw r x).map (·,h)
def oT(args:List AV)(h:Heap):Option (AV×Heap):=match args with|[]=>zn|x::r=>(Pe r x).map (·,h)
def E4(b:Builtin)(ts:List TypeId):List AV->Heap->Option (AV×Heap):=
 match b with
 |.len=>Vi E ts
 |.append=>Kk E ts
 |.copy=>cW E ts
 |.max=>oS
 |.min=>oT
 |_=>fun _ _=>zn
def lift(v:Option AV)(h:Heap):Res:=Option.rec (motive:=fun _=>Heap->Res) (fun _=>.bad) (fun v h=>.ok v h) v h
def lift2(v:Option (AV×Heap)):Res:=match v with|some p=>.ok p.1 p.2|none=>.bad
def liftH(v:Option Heap):Res:=match v with|some h=>.ok .und h|none=>.bad
abbrev Iw:=Tr->Heap->Res
def rZ(x:Operand):Iw:=fun fr h=>.ok (opv E x fr) h
def Yu(c a b:Operand):Iw:=fun fr h=>(opv E c fr).onBool .bad fun t=>match t with|true=>.ok (opv E a fr) h|false=>.ok (opv E b fr) h
def iI(sz:Nat)(v:AV)(h:Heap):Res:=.ok (.ptr h.next 0 0) (h.push (.row [v] sz))
def xC(t:Nat):Iw:=fun _ h=>onTI E t .bad fun ti=>iI ti.size ti.zero h
def lE(t:Nat)(x:Operand):Iw:=fun fr h=>onTI E t .bad fun ti=>bif Nat.beq (lenL (opv E x fr).cells) ti.size&&D1 (opv E x fr).cells then iI ti.size (opv E x fr) h else .bad
def X0(place:Nat->Option (Nat×Nat))(ps:List (Nat×AV)):List AV->Option (List AV):=
 List.rec (motive:=fun _=>List AV->Option (List AV)) zs
  (fun p _ A cells=>A4 (place p.1) fun q=>A9 (Nat.beq (lenL p.2.cells) q.2&&Nat.ble (Nat.add q.1 q.2) (lenL cells)&&D1 p.2.cells) (A (O7 cells q.1 p.2.cells))) ps
def Yv(l:List (Nat×Nat)):Nat->Option (Nat×Nat):=
 List.rec (motive:=fun _=>Nat->Option (Nat×Nat)) (fun _=>zn) (fun v _ A i=>Nat.rec (motive:=fun _=>Option (Nat×Nat)) (zs v) (fun k _=>A k) i) l
def f8(ti:TI)(ps:List (Nat×AV)):Option AV:=
 match ti.desc with
 |.struct fields _=>(X0 (fun i=>A4 (Yv fields i) fun f=>onTI E f.1 zn fun g=>zs (f.2,g.size)) ps ti.zero.cells).map .agg
 |.array _ e=>onTI E e zn fun te=>(X0 (fun i=>zs (Nat.mul i te.size,te.size)) ps ti.zero.cells).map .agg
 |_=>zn
def opvps(l:List (Nat×Operand))(fr:Tr):List (Nat×AV):=List.rec (motive:=fun _=>List (Nat×AV)) [] (fun p _ A=>(p.1,opv E p.2 fr)::A) l
def Px(t:Nat)(ps:Array (Nat×Operand)):Iw:=fun fr h=>onTI E t .bad fun ti=>lift (f8 E ti (opvps E ps.toList fr)) h
def placeL(sz:Nat)(ps:List (Nat×AV)):List AV->Option (List AV):=
 List.rec (motive:=fun _=>List AV->Option (List AV)) zs
  (fun p _ A es=>A9 (Nat.blt p.1 (lenL es)&&Nat.beq (lenL p.2.cells) sz&&D1 p.2.cells) (A (setL es p.1 p.2))) ps
def L6(t n:Nat)(ps:Array (Nat×Operand)):Iw:=fun fr h =>
 onTI E t .bad fun ti=>match elemOfT E ti.desc with
  |none=>.bad
  | some te=>bif Nat.ble (Nat.mul n te.size) 65536&&Nat.blt 0 te.size then
   (match placeL te.size (opvps E ps.toList fr) (repL n te.zero)with
   |none=>.bad
   |some es=>.ok (.msl h.next 0 n te.size) (h.push (.row es te.size)))else .bad
def Yx(t:Nat)(a:Operand):Iw:=fun fr h=>onTI E t .bad fun ti=>lift (Fj ti (opv E a fr) h) h
def Py(t:Nat)(a x:Operand):Iw:=fun fr h=>onTI E t .bad fun ti=>liftH (Dn ti (opv E a fr) (opv E x fr) h)
def Y8(x:AV):Option AV:=AV.rec (motive_1:=fun _=>Option AV) (motive_2:=fun _=>Unit)
    (fun _ _=>zn)
    (fun _=>zn)
    (fun _=>zn)
    (fun _ _=>zn)
    (fun _ _=>zn)
    (fun _ _ _=>zn)
    (fun v o _=>zs (.fptr v o))
    (fun _ _ _ _=>zn)
    (fun i j o=>zs (.ptr i j o))
    (zn)
    (zn)
    (zn)
    (fun i=>zs (.map i))
    (fun f a b _ _=>match f with | .func f=>zs (.fn (.func f) a b)|_=>zn)
    (zn)
    (fun _ _ _=>zn)
    (zn)
    (zn)
    (zn)
    () (fun _ _ _ _=>()) x
def Do(x:Operand):Iw:=fun fr h=>lift (Y8 (opv E x fr)) h
def cX(ti:TI):EqK:=match ti.desc with | .struct _ f=>(match f with|true=>.flat ti.zero.cells|false=>.none) | .bool=>.bool | .slice _=>.slc | .ptr _=>.ptr | .map _ _=>.map | .iface=>.ifc|_=>.none
def N6(t:Nat):EqK:=onTI E t .none cX
def Iy(t:Nat)(x y:AV):Option Bool:=
 match x with
 | .ptr i k o=>(match y with
  | .ptr i' k' o'=>onTI E t zn fun ti=>match ti.desc with
   |.ptr e=>onTI E e zn fun te=>A9 (Nat.blt 0 te.size&&(Nat.beq i i'&&Nat.beq k k')) (zs (Nat.beq o o'))
   |_=>zn
  |_=>zn)
 |_=>zn
def sA(op:BinOp)(t:Nat)(x y:AV):Option AV:=
 match op with
 |.eql=>A4 (Iy E t x y) E7
 |.neq=>A4 (Iy E t x y) fun b=>E7 (!b)
 |_=>zn
def SH(a b:Option AV):Option AV:=match a with|some v=>zs v|none=>b
def Pz(op:BinOp)(t:Nat)(x y:Operand):Iw:=fun fr h=>lift (SH (sA E op t (opv E x fr) (opv E y fr)) (J3 op (N6 E t) (opv E x fr) (opv E y fr))) h
def Yy(op:UnOp)(x:Operand):Iw:=fun fr h=>lift (Kh op (opv E x fr)) h
def Hc(s d:Nat)(x:Operand):Iw:=fun fr h=>onTI E s .bad fun _=>onTI E d .bad fun A=>lift (R5 A.desc (opv E x fr)) h
def Dp(f:Fn)(first caps:Array Operand):Iw:=fun fr h=>.ok (.fn f (opvs E first.toList fr) (opvs E caps.toList fr)) h
def oU(r:Option Operand):Iw:=fun _ h=>match r with|none=>.ok (.map h.next) (h.push (.mapo []))|some _=>.bad
def V3(d:TD):Bool:=match d with | .func=>zf | .iface=>zf | .other=>zf|_=>zt
def X4(t:Nat)(x:Operand):Iw:=fun fr h=>onTI E t .bad fun ti=>bif V3 ti.desc then .ok (.iface t (opv E x fr)) h else .bad
def O3(t:Nat)(l c:Operand):Iw:=fun fr h =>
 onTI E t .bad fun ti=>match elemOfT E ti.desc with
  |none=>.bad
  | some te=>match asNat (opv E l fr)with
   |none=>.bad
   | some n=>match asNat (opv E c fr)with
    |none=>.bad
    |some m=>bif Nat.ble n m&&Nat.ble (Nat.mul m te.bytes) 140737488355328&&Nat.blt 0 te.size then .ok (.msl h.next 0 n te.size) (h.push (.row (repL n te.zero) te.size))else .bad
def sliceA(d:TD)(lo hi mx:Option AV)(x:AV):Option AV:=
 match d with
 |.string=>x.onStr zn fun s=>Fi s lo hi mx
 |.slice e=>onTI E e zn fun te=>My te.size lo hi mx x
 |_=>zn
def Hd(t:Nat)(x:Operand)(lo hi mx:Option Operand):Iw:=fun fr h=>onTI E t .bad fun ti=>bif hi.isNone&&mx.isSome then .bad else lift (sliceA E ti.desc (Mz E lo fr) (Mz E hi fr) (Mz E mx fr) (opv E x fr)) h
def fieldAt(ti:TI)(f:Nat):Option (TI×Nat):=
 match ti.desc with
 |.struct fields _=>A4 (Yv fields f) fun p=>onTI E p.1 zn fun A=>zs (A,p.2)
 |_=>zn
def Az(t:Nat)(x:Operand)(f:Nat):Iw:=fun fr h =>
 onTI E t .bad fun ti=>lift (A4 (fieldAt E ti f) fun p=>A9 (Nat.blt 0 p.1.size) (B0 (opv E x fr) p.2)) h
def Qa(t:Nat)(x:Operand)(f:Nat):Iw:=fun fr h =>
 onTI E t .bad fun ti=>lift (A4 (fieldAt E ti f) fun p=>(opv E x fr).onAgg zn fun cs=>partOf p.1 cs p.2) h
def cY(te:TI)(i:Nat)(x:AV):Option AV:=AV.rec (motive_1:=fun _=>TI->Nat->Option AV) (motive_2:=fun _=>Unit)
    (fun _ _ p0 p1=>zn)
    (fun _ p0 p1=>zn)
    (fun _ p0 p1=>zn)
    (fun _ _ p0 p1=>zn)
    (fun _ _ p0 p1=>zn)
    (fun es _ _ p0 p1=>A4 (Fg es p1) fun v=>A9 (Nat.beq (lenL v.cells) p0.size) (zs (.fptr v 0)))
    (fun _ _ _ p0 p1=>zn)
    (fun id off n sz p0 p1=>A9 (Nat.blt p1 n&&Nat.beq sz p0.size) (M2 (Nat.add off p1) fun o=>zs (.ptr id o 0)))
    (fun _ _ _ p0 p1=>zn)
    (fun p0 p1=>zn)
    (fun p0 p1=>zn)
    (fun p0 p1=>zn)
    (fun _ p0 p1=>zn)
    (fun _ _ _ _ _ p0 p1=>zn)
    (fun p0 p1=>zn)
    (fun _ _ _ p0 p1=>zn)
    (fun p0 p1=>zn)
    (fun p0 p1=>zn)
    (fun p0 p1=>zn)
    () (fun _ _ _ _=>()) x te i
def R6(d:TD)(i:Nat)(x:AV):Option AV:=
 match d with
 |.slice e=>onTI E e zn fun te=>cY te i x
 |.array len e=>onTI E e zn fun te=>A9 (Nat.blt i len&&Nat.blt 0 te.size) (B0 x (Nat.mul i te.size))
 |_=>zn
def Ba(t:Nat)(x A:Operand):Iw:=fun fr h=>onTI E t .bad fun ti=>lift (A4 (asNat (opv E A fr)) fun i=>R6 E ti.desc i (opv E x fr)) h
def CW(l:List UInt8):Nat->Option UInt8:=
 List.rec (motive:=fun _=>Nat->Option UInt8) (fun _=>zn) (fun v _ A i=>Nat.rec (motive:=fun _=>Option UInt8) (zs v) (fun k _=>A k) i) l
def Fk(d:TD)(i:Nat)(x:AV):Option AV:=
 match d with
 |.string=>x.onStr zn fun s=>A4 (CW s i) fun b=>zs (.int .u8 (zqn b.toNat))
 |.array len e=>onTI E e zn fun te=>A9 (Nat.blt i len) (x.onAgg zn fun cs=>partOf te cs (Nat.mul i te.size))
 |_=>zn
def Qb(t:Nat)(x A:Operand):Iw:=fun fr h=>onTI E t .bad fun ti=>lift (A4 (asNat (opv E A fr)) fun i=>Fk E ti.desc i (opv E x fr)) h
def sB(E:Env)(t:Nat)(m k:Operand)(ok:Bool):Iw:=fun _ _=>.bad
def Oi(E:Env)(t:Nat)(m k x:Operand):Iw:=fun _ _=>.bad
def He(t:Operand)(i:Nat):Iw:=fun fr h=>(opv E t fr).onTup .bad fun vs=>lift (Fg vs i) h
def Kl(t:Nat)(x:AV):Option AV:=match x with | .iface u v=>bif Nat.beq u t then zs v else zn|_=>zn
def w8(t:Nat)(ok:Bool)(x:Operand):Iw:=fun fr h=>onTI E t .bad fun ti=>bif V3 ti.desc && !ok then lift (Kl t (opv E x fr)) h else .bad
abbrev C7:=Nat->List AV->Heap->Res
def f9(call:C7)(g:AV)(args:List AV)(h:Heap):Res:=AV.rec (motive_1:=fun _=>C7->List AV->Heap->Res) (motive_2:=fun _=>Unit)
    (fun _ _ p0 p1 p2=>.bad)
    (fun _ p0 p1 p2=>.bad)
    (fun _ p0 p1 p2=>.bad)
    (fun _ _ p0 p1 p2=>.bad)
    (fun _ _ p0 p1 p2=>.bad)
    (fun _ _ _ p0 p1 p2=>.bad)
    (fun _ _ _ p0 p1 p2=>.bad)
    (fun _ _ _ _ p0 p1 p2=>.bad)
    (fun _ _ _ p0 p1 p2=>.bad)
    (fun p0 p1 p2=>.bad)
    (fun p0 p1 p2=>.bad)
    (fun p0 p1 p2=>.bad)
    (fun _ p0 p1 p2=>.bad)
    (fun f first caps _ _ p0 p1 p2=>match f with | .func n=>p0 n (appL first (appL p1 caps)) p2|_=>.bad)
    (fun p0 p1 p2=>.bad)
    (fun _ _ _ p0 p1 p2=>.bad)
    (fun p0 p1 p2=>.bad)
    (fun p0 p1 p2=>.bad)
    (fun p0 p1 p2=>.bad)
    () (fun _ _ _ _=>()) g call args h
def iJ(call:C7)(c:Call):Iw:=
 match c.callee with
 |.builtin b=>fun fr h=>lift2 (E4 E b c.argTypes.toList (opvs E c.args.toList fr) h)
 |.value f=>fun fr h=>f9 call (opv E f fr) (opvs E c.args.toList fr) h
 | .invoke _ _=>fun _ _=>.bad
def oV(x:AV)(h:Heap):Res:=match x with | .iface t v=>.pan (.iface t v) h|_=>.bad
def Qc(x:Operand):Iw:=fun fr h=>oV (opv E x fr) h
def Bb:Iw:=fun _ _=>.bad
def HY(op:Op):Env->C7->Iw:=
 Op.rec (motive:=fun _=>Env->C7->Iw)
  (fun x E _=>rZ E x)
  (fun x E _=>rZ E x)
  (fun c a b E _=>Yu E c a b)
  (fun t E _=>xC E t)
  (fun t x E _=>lE E t x)
  (fun t ps E _=>Px E t ps)
  (fun t n ps E _=>L6 E t n ps)
  (fun t m k x E _=>Oi E t m k x)
  (fun t a E _=>Yx E t a)
  (fun t a x E _=>Py E t a x)
  (fun _ _ _=>Bb)
  (fun _ _ _=>Bb)
  (fun x E _=>Do E x)
  (fun op t x y _ E _=>Pz E op t x y)
  (fun op _ x E _=>Yy E op x)
  (fun s d x E _=>Hc E s d x)
  (fun _ _ _ _=>Bb)
  (fun t x E _=>X4 E t x)
  (fun f first caps E _=>Dp E f first caps)
  (fun _ r _ _=>oU r)
  (fun _ _ _ _=>Bb)
  (fun t l c E _=>O3 E t l c)
  (fun t x lo hi mx E _=>Hd E t x lo hi mx)
  (fun t x f E _=>Az E t x f)
  (fun t x f E _=>Qa E t x f)
  (fun t x i E _=>Ba E t x i)
  (fun t x i E _=>Qb E t x i)
  (fun t m k ok E _=>sB E t m k ok)
  (fun t m k x E _=>Oi E t m k x)
  (fun _ _ _ _ _=>Bb)
  (fun _ _ _ _ _ _=>Bb)
  (fun _ _ _ _=>Bb)
  (fun _ _ _ _=>Bb)
  (fun _ _ _=>Bb)
  (fun x _ t ok E _=>w8 E t ok x)
  (fun t i E _=>He E t i)
  (fun c E call=>iJ E call c)
  (fun _ _ _=>Bb)
  (fun _ _ _=>Bb)
  (fun x E _=>Qc E x)
  (fun _ _ _ _=>Bb)
  (fun _ _ _ _ _=>Bb)
  (fun _ _ _ _=>Bb) op
def evOp(call:C7)(op:Op):Iw:=HY op E call
def setDst(d:Option Tmp)(v:AV)(fr:Tr):Tr:=Option.rec (motive:=fun _=>AV->Tr->Tr) (fun _ fr=>fr) (fun t v fr=>fr.set t v) d v fr
def skipped:AV:=.tup []
def g0(A:Bool)(v:AV):Option Bool:=AV.rec (motive_1:=fun _=>Bool->Option Bool) (motive_2:=fun _=>Unit)
    (fun _ _ p0=>zn)
    (fun b p0=>match p0 with|true=>zs b|false=>zs (!b))
    (fun _ p0=>zn)
    (fun _ _ p0=>zn)
    (fun l _ p0=>match l with|[]=>zs zf|_::_=>zn)
    (fun _ _ _ p0=>zn)
    (fun _ _ _ p0=>zn)
    (fun _ _ _ _ p0=>zn)
    (fun _ _ _ p0=>zn)
    (fun p0=>zn)
    (fun p0=>zn)
    (fun p0=>zn)
    (fun _ p0=>zn)
    (fun _ _ _ _ _ p0=>zn)
    (fun p0=>zn)
    (fun _ _ _ p0=>zn)
    (fun p0=>zn)
    (fun p0=>zn)
    (fun p0=>zn)
    () (fun _ _ _ _=>()) v A
def Km(p:Option Tmp×Bool)(fr:Tr):Option Bool:=
 match p.1 with
 |none=>zs zf
 |some t=>g0 p.2 (fr.get t)
def guardOk(g:Option (Option Tmp×Bool))(fr:Tr):Option Bool:=Option.rec (motive:=fun _=>Tr->Option Bool) (fun _=>zs zt) (fun p fr=>Km p fr) g fr
def Y1(d:Option Tmp)(k:Tr->Heap->CRes)(fr:Tr)(r:Res):CRes:=
 Res.rec (motive:=fun _=>Option Tmp->(Tr->Heap->CRes)->Tr->CRes) (fun v h d k fr=>k (setDst d v fr) h) (fun v h _ _ _=>.pan v h) (fun _ _ _=>.bad) r d k fr
def H1(call:C7)(l:List XOp):Tr->Heap->CRes:=
 List.rec (motive:=fun _=>Tr->Heap->CRes) (fun fr h=>.ok .normal fr h)
  (fun o _ A fr h=>onOB (guardOk o.gd fr) .bad (Y1 o.dst A fr (evOp E call o.op fr h)) (A (setDst o.dst skipped fr) h)) l
inductive DRes where
 |ok (a:AV) (h:Heap) (d:List Nat)
 |pan (v:AV) (h:Heap)
 |bad
def H2(n:Nat)(l:List Nat):List Nat:=List.rec (motive:=fun _=>List Nat) [] (fun i _ A=>bif Nat.blt i n then i::A else A) l
def Bp(a b:List Nat):List Nat:=List.rec (motive:=fun _=>List Nat) b (fun i _ A=>i::A) a
def rA(i:Nat)(l:List Nat):Bool:=List.rec (motive:=fun _=>Bool) zf (fun j _ A=>bif Nat.beq j i then zt else A) l
def n8(x:AV):Option Nat:=AV.rec (motive_1:=fun _=>Option Nat) (motive_2:=fun _=>Unit)
    (fun _ _=>zn)
    (fun _=>zn)
    (fun _=>zn)
    (fun _ _=>zn)
    (fun _ _=>zn)
    (fun _ _ _=>zn)
    (fun _ _ _=>zn)
    (fun _ _ _ _=>zn)
    (fun id _ _=>zs id)
    (zn)
    (zn)
    (zn)
    (fun id=>zs id)
    (fun _ _ _ _ _=>zn)
    (zn)
    (fun _ _ _=>zn)
    (zn)
    (zn)
    (zn)
    () (fun _ _ _ _=>()) x
def readO(op:Op)(fr:Tr):Option Nat:=
 match op with
 |.load _ x=>n8 (opv E x fr)
 |.lookup _ m _ _=>n8 (opv E m fr)
 |.call c=>(match c.args.toList with|[]=>zn|x::_=>n8 (opv E x fr))
 |_=>zn
def readOk(r:Option Nat)(d:List Nat):Bool:=match r with|none=>zt|some i=>!(rA i d)
def z7(next:Nat)(tch d:List Nat)(r:Res):DRes:=
 match r with
 |.ok v h=>.ok v {h with tch:=Bp (H2 next h.tch) tch} (Bp (H2 next h.tch) d)
 |.pan v h=>.pan v {h with tch:=Bp (H2 next h.tch) tch}
 | .bad=>.bad
def w9(d:List Nat)(r:Res):DRes:=
 match r with
 |.ok v h=>.ok v h d
 |.pan v h=>.pan v h
 | .bad=>.bad
def evOpD(call:C7)(o:XOp)(fr:Tr)(h:Heap)(d:List Nat):DRes:=
 bif o.quiet then z7 h.next h.tch d (evOp E call o.op fr {h with tch:=[]})else
  bif o.careful then(bif readOk (readO E o.op fr) d then w9 d (evOp E call o.op fr h)else .bad)else w9 d (evOp E call o.op fr h)
def virtThen(dst:Option Tmp)(k:Tr->Heap->List Nat->Bool)(fr:Tr)(r:DRes):Bool:=
 match r with
 |.ok v h d=>k (setDst dst v fr) h d
 |.pan _ _=>zf
 | .bad=>zf
def virtD(call:C7)(l:List XOp):List Bool->Tr->Heap->List Nat->Bool:=
 List.rec (motive:=fun _=>List Bool->Tr->Heap->List Nat->Bool) (fun _ _ _ _=>zt)
  (fun o _ A late fr h d=>match late with
    |[]=>zf
    | b::late=>match b with
     |true=>A late (setDst o.dst skipped fr) h d
     |false=>onOB (guardOk o.gd fr) zf (virtThen o.dst (A late) fr (evOpD E call o fr h d)) (A late (setDst o.dst skipped fr) h d)) l
def O9(dst:Option Tmp)(k:Tr->Heap->List Nat->CRes)(w:Bool)(fr:Tr)(r:DRes):CRes:=
 match r with
 |.ok v h d=>k (setDst dst v fr) h d
 |.pan v h=>bif w then .pan v h else .bad
 | .bad=>.bad
def evOpsD(call:C7)(l:List XOp):Tr->Heap->List Nat->CRes:=
 List.rec (motive:=fun _=>Tr->Heap->List Nat->CRes) (fun fr h _=>.ok .normal fr h)
  (fun o r A fr h d=>onOB (guardOk o.gd fr) .bad (O9 o.dst A (virtD E call r o.late (setDst o.dst skipped fr) h d) fr (evOpD E call o fr h d)) (A (setDst o.dst skipped fr) h d)) l
def E8(l:List ResultVar)(fr:Tr)(h:Heap):Option (List AV):=
 List.rec (motive:=fun _=>Option (List AV)) (zs [])
  (fun x _ A=>match x with
    |.tmp t=>A4 A fun vs=>zs (fr.get t::vs)
    | .cell a t=>onTI E t zn fun ti=>A4 (Fj ti (fr.get a) h) fun v=>A4 A fun vs=>zs (v::vs)) l
def oneOrTup(vs:List AV):AV:=match vs with|[]=>.tup []|v::r=>match r with|[]=>v|w::r=>.tup (v::w::r)
def Kn(vs:Option (List AV))(h:Heap):Res:=match vs with|some vs=>.ok (oneOrTup vs) h|none=>.bad
def H7(rs:List ResultVar)(r:CRes):Res:=
 match r with
 | .ok e fr h=>match e with
  |.exit _=>.bad
  |.normal=>Kn (E8 E rs fr h) h
  |.ret=>Kn (E8 E rs fr h) h
 |.pan v h=>.pan v h
 | .bad=>.bad
abbrev D9:=XC->Tr->Heap->CRes
def Ej(k:Tr->Heap->CRes)(r:CRes):CRes:=
 match r with
 |.ok e fr h=>match e with | .normal=>k fr h | .exit _=>.bad | .ret=>.bad
 |.pan _ _=>.bad
 | .bad=>.bad
def Bc(k:Tr->Heap->Res)(r:CRes):Res:=
 match r with
 |.ok e fr h=>match e with | .normal=>k fr h | .exit _=>.bad | .ret=>.bad
 |.pan v h=>.pan v h
 | .bad=>.bad
def rcvEnd(r:CRes):Res:=
 match r with
 |.ok e _ h=>match e with | .normal=>.ok .und h | .ret=>.ok .und h | .exit _=>.bad
 |.pan _ _=>.bad
 | .bad=>.bad
def CX(A:D9)(m:FM)(nt:Nat)(caps:List AV)(p:AV)(h:Heap):Res:=
 match m with
 |.rcv d d2 rest=>bif Nat.blt d nt then rcvEnd (A rest (((Tr.enter nt caps).set d p).set d2 p) h)else .bad
 |.plain=>.bad
 |.dfr _ _ _=>.bad
 | .itf _=>.bad
def Ko(l:List ResultVar):Bool:=match l with|[]=>zt|_::_=>zf
def Rg(B:D9)(f:Nat)(caps:List AV)(p:AV)(h:Heap):Res:=
 match E.fn f with
 |none=>.bad
 |some A=>bif Nat.ble (lenL caps) A.ntmps&&Ko A.results then CX B A.mode A.ntmps caps p h else .bad
def noneL(l:List AV):Bool:=match l with|[]=>zt|_::_=>zf
def Ep(A:D9)(x:AV)(p:AV)(h:Heap):Res:=
 match x with
 | .fn f first caps=>match f with
  |.func n=>bif noneL first then Rg E A n caps p h else .bad
  |_=>.bad
 |_=>.bad
def k8(rs:List ResultVar)(fr:Tr)(r:Res):Res:=
 match r with
 |.ok _ h=>Kn (E8 E rs fr h) h
 |.pan _ _=>.bad
 | .bad=>.bad
def I0(A:D9)(x:AV)(rs:List ResultVar)(fr:Tr)(r:CRes):Res:=
 match r with
 | .ok e fr2 h=>match e with
  |.normal=>k8 E rs fr2 (Ep E A x .niliface h)
  |.ret=>k8 E rs fr2 (Ep E A x .niliface h)
  |.exit _=>.bad
 |.pan v h=>k8 E rs fr (Ep E A x v h)
 | .bad=>.bad
def r9(A:D9)(g:Operand)(rest:XC)(rs:List ResultVar)(pre:List XC):Tr->Heap->Res:=
 List.rec (motive:=fun _=>Tr->Heap->Res) (fun fr h=>I0 E A (opv E g fr) rs fr (A rest fr h)) (fun p _ k fr h=>Bc k (A p fr h)) pre
def Rh(p s:List UInt8):Bool:=List.rec (motive:=fun _=>List UInt8->Bool) (fun _=>zt) (fun x _ A s=>match s with|[]=>zf|y::s=>bif Iu x y then A s else zf) p s
def contS(p s:List UInt8):Bool:=List.rec (motive:=fun _=>Bool) (Rh p []) (fun y r A=>bif Rh p (y::r)then zt else A) s
def oneB(p:List UInt8):Bool:=match p with|[]=>zf|_::r=>match r with|[]=>zt|_::_=>zf
def toldA(args:List AV)(h:Heap):Res:=
 match args with
 |[]=>.bad
 | x::r=>match r with
  |[]=>.bad
  |y::r=>bif noneL r then x.onStr .bad (fun s=>y.onStr .bad fun p=>bif Nat.ble (r6 s) 4000000000||oneB p then(match contS p s with|true=>.ok (.bool zt) h|false=>.ok (.bool zf) h)else .bad)else .bad
def iK(E:Env)(ih:D9)(ks:List Nat)(args:List AV)(h:Heap):Res:=.bad
def srtA(E:Env)(f:Nat)(args:List AV)(h:Heap):Option Res:=zn
def Oj(B:D9)(A:FI)(args:List AV)(h:Heap):Res:=
 match A.mode with
 |.plain=>H7 E A.results (B A.code (Tr.enter A.ntmps args) h)
 |.dfr pre g rest=>r9 E B g rest A.results pre (Tr.enter A.ntmps args) h
 |.rcv _ _ _=>.bad
 | .itf _=>H7 E A.results (B A.code (Tr.enter A.ntmps args) h)
def P0(A:D9)(f:Nat)(args:List AV)(h:Heap):Res:=
 bif E.told f then toldA args h else
 match E.dlf f with
 |some ks=>iK E A ks args h
 | none=>match srtA E f args h with
  |some r=>r
  | none=>match E.fn f with
   |none=>.bad
   |some B=>bif Nat.ble (lenL args) B.ntmps then Oj E A B args h else .bad
def PU(h:Heap)(r:Res):Res:=
 match r with
 |.ok v h1=>.ok v ⟨h1.next,Bp (H2 h.next h1.tch) h.tch,h.os.trunc h1.os⟩
 |.pan _ _=>.bad
 | .bad=>.bad
def F9(A:D9)(f:Nat)(args:List AV)(h:Heap):Res:=
 bif E.gc f then PU h (P0 E A f args ⟨h.next,[],h.os⟩)else P0 E A f args h
def setPs(ps:List Tmp):List AV->Tr->Tr:=
 List.rec (motive:=fun _=>List AV->Tr->Tr) (fun _ fr=>fr) (fun p _ A l fr=>match l with|[]=>fr|v::l=>A l (fr.set p v)) ps
def HZ(l:List Nat):Nat:=List.rec (motive:=fun _=>Nat) 0 (fun _ _ n=>Nat.succ n) l
def roundY(A:D9)(ps:List Tmp)(a b:XC)(fr:Tr)(args:List AV)(h:Heap):CRes:=
 bif Nat.beq (lenL args) (HZ ps)then Ej (A b) (A a (setPs ps args fr) h)else .bad
inductive IRes where
 |ok (e:Ex) (p:Option Ex) (fr:Tr) (h:Heap)
 |bad
def H8(k:Tr->Heap->IRes)(r:CRes):IRes:=
 match r with
 |.ok e fr h=>match e with | .normal=>k fr h | .exit _=>.bad | .ret=>.bad
 |.pan _ _=>.bad
 | .bad=>.bad
def Kp(b:Option Ex->Tr->Heap->IRes)(r:IRes):IRes:=
 match r with
 |.ok e p fr h=>match e with | .normal=>b p fr h | .exit i=>.ok (.exit i) p fr h | .ret=>.ok .ret p fr h
 | .bad=>.bad
def Iz(id:Nat)(r:IRes):IRes:=
 match r with
 |.ok e p fr h=>match e with | .normal=>.ok .normal p fr h | .exit j=>(bif Nat.beq j id then .ok .normal p fr h else .ok (.exit j) p fr h) | .ret=>.ok .ret p fr h
 | .bad=>.bad
def n9(p:Option Ex)(fr:Tr)(h:Heap):IRes:=.ok .normal p fr h
def Ht(A:D9)(p2:XC)(yd:Tmp)(fr:Tr)(r:CRes):IRes:=
 match r with
 | .ok e _ h=>match e with
  |.normal=>H8 (n9 zn) (A p2 (fr.set yd (.bool zt)) h)
  |.exit i=>H8 (n9 (zs (.exit i))) (A p2 (fr.set yd (.bool zf)) h)
  |.ret=>H8 (n9 (zs .ret)) (A p2 (fr.set yd (.bool zf)) h)
 |.pan _ _=>.bad
 | .bad=>.bad
def cZ(A:D9)(nt:Nat)(Y:List AV->Heap->CRes)(gd:Option (Option Tmp×Bool))(yt:Tmp)(p1:XC)(yd:Tmp)(args:List Operand)(p2:XC)(p:Option Ex)(fr:Tr)(h:Heap):IRes:=
 match p with
 |some _=>.bad
 |none=>bif Nat.blt yt nt then H8 (fun fr h=>onOB (guardOk gd fr) .bad (Ht A p2 yd fr (Y (opvs E args fr) h)) .bad) (A p1 (fr.set yt .any) h)else .bad
def zY(A:D9)(gd:Option (Option Tmp×Bool))(yt:Tmp)(p1:XC)(yd:Tmp)(p2:XC)(p:Option Ex)(fr:Tr)(h:Heap):IRes:=
 H8 (fun fr h=>onOB (guardOk gd fr) .bad .bad (H8 (n9 p) (A p2 (fr.set yd skipped) h))) (A p1 (fr.set yt skipped) h)
abbrev IF:=IC->Option Ex->Tr->Heap->IRes
def dB(B:D9)(nt:Nat)(Y:List AV->Heap->CRes)(A:IF)(c:IC):Option Ex->Tr->Heap->IRes:=
 match c with
 |.skip=>n9
 |.reg x=>fun p fr h=>H8 (n9 p) (B x fr h)
 |.yreg p0 gd yt p1 yd args p2=>fun p fr h=>H8 (fun fr h=>onOB (guardOk gd fr) .bad (cZ E B nt Y gd yt p1 yd args p2 p fr h) (zY B gd yt p1 yd p2 p fr h)) (B p0 fr h)
 |.seq a b=>fun p fr h=>Kp (A b) (A a p fr h)
 |.cond x a b=>fun p fr h=>(opv E x fr).onBool .bad fun t=>match t with|true=>A a p fr h|false=>A b p fr h
 |.block id c=>fun p fr h=>Iz id (A c p fr h)
 |.loop c=>fun p fr h=>Kp (A (.loop c)) (A c p fr h)
 |.exit i=>fun p fr h=>.ok (.exit i) p fr h
 | .ret=>fun p fr h=>.ok .ret p fr h
def evI(A:D9)(nt:Nat)(Y:List AV->Heap->CRes)(m:Nat):IF:=Nat.rec (motive:=fun _=>IF) (fun _ _ _ _=>.bad) (fun _ k=>dB E A nt Y k) m
def itMax:Nat:=65536
def rB(p:Option Ex):Ex:=match p with|none=>.normal|some e=>e
def finI(r:IRes):CRes:=
 match r with
 |.ok e p fr h=>match e with | .normal=>.ok (rB p) fr h | .exit _=>.bad | .ret=>.ok (rB p) fr h
 | .bad=>.bad
def itM(A:D9)(m:FM)(nt:Nat)(caps:List AV)(Y:List AV->Heap->CRes)(h:Heap):CRes:=
 match m with
 |.itf c=>finI (evI E A nt Y itMax c zn (Tr.enter nt (.any::caps)) h)
 |.plain=>.bad
 |.dfr _ _ _=>.bad
 | .rcv _ _ _=>.bad
def itF(B:D9)(f:Nat)(caps:List AV)(Y:List AV->Heap->CRes)(h:Heap):CRes:=
 match E.fn f with
 |none=>.bad
 |some A=>bif Nat.ble (Nat.succ (lenL caps)) A.ntmps then itM E B A.mode A.ntmps caps Y h else .bad
def backA(fr:Tr)(r:CRes):CRes:=
 match r with
 |.ok e _ h=>.ok e fr h
 |.pan _ _=>.bad
 | .bad=>.bad
def rfnA(A:D9)(ps:List Tmp)(a b:XC)(fr:Tr)(h:Heap)(g:AV):CRes:=
 match g with
 | .fn f first caps=>match f with
  |.func n=>bif noneL first then backA fr (itF E A n caps (roundY A ps a b fr) h)else .bad
  |_=>.bad
 |_=>.bad
def Er(b:Tr->Heap->CRes)(r:CRes):CRes:=
 match r with
 |.ok e fr h=>match e with | .normal=>b fr h | .exit i=>.ok (.exit i) fr h | .ret=>.ok .ret fr h
 |.pan v h=>.pan v h
 | .bad=>.bad
def Fl(id:Nat)(r:CRes):CRes:=
 match r with
 |.ok e fr h=>match e with | .normal=>.ok .normal fr h | .exit j=>(bif Nat.beq j id then .ok .normal fr h else .ok (.exit j) fr h) | .ret=>.ok .ret fr h
 |.pan v h=>.pan v h
 | .bad=>.bad
def Ok(t f:Tr->Heap->CRes)(x:AV)(fr:Tr)(h:Heap):CRes:=x.onBool .bad fun b=>match b with|true=>t fr h|false=>f fr h
def Wp(E:Env)(ih:D9)(R:RngD)(y:XC)(fr:Tr)(h:Heap):CRes:=.bad
def xD(c:XC):Env->D9->Tr->Heap->CRes:=
 XC.rec (motive:=fun _=>Env->D9->Tr->Heap->CRes)
  (fun _ _ fr h=>.ok .normal fr h)
  (fun d l E A=>match d with|false=>H1 E (F9 E A) l|true=>fun fr h=>evOpsD E (F9 E A) l fr h [])
  (fun a b _ _ _ A fr h=>Er (A b) (A a fr h))
  (fun x a b _ _ E A fr h=>Ok (A a) (A b) (opv E x fr) fr h)
  (fun id c _ _ A fr h=>Fl id (A c fr h))
  (fun c _ _ A fr h=>Er (A (.loop c)) (A c fr h))
  (fun c _ _ A=>A c)
  (fun g ps a b _ _ E A fr h=>rfnA E A ps a b fr h (opv E g fr))
  (fun id _ _ fr h=>.ok (.exit id) fr h)
  (fun _ _ fr h=>.ok .ret fr h)
  (fun _ _ _ _=>.bad)
  (fun R y _ E A fr h=>Wp E A R y fr h) c
def step(A:D9)(c:XC):Tr->Heap->CRes:=xD c E A
def ev(n:Nat):D9:=Nat.rec (motive:=fun _=>D9) (fun _ _ _=>.bad) (fun _ A=>step E A) n
def run(n:Nat)(f:Nat)(args:List AV)(h:Heap):Res:=F9 E (ev E n) f args h
end
def Hu(o:Op):Nat:=
 match o with
 |.move _=>0 | .assign _=>0 | .pick _ _ _=>0 | .binOp _ _ _ _ _=>0 | .unOp _ _ _=>0 | .convert _ _ _=>0
 |.extract _ _=>0 | .field _ _ _=>0 | .fieldAddr _ _ _=>0 | .indexAddr _ _ _=>0 | .index _ _ _=>0 | .slice _ _ _ _ _=>0 | .nilCheck _=>0
 |.build _ _=>0 | .makeInterface _ _=>0 | .makeFunc _ _ _=>0
 |.load _ _=>1 | .lookup _ _ _ _=>1
 |.call c=>(match c.callee with | .builtin b=>(match b with | .len=>1 | .max=>1 | .min=>1|_=>3)|_=>3)
 |.alloc _=>2 | .box _ _=>2 | .buildSlice _ _ _=>2 | .makeSlice _ _ _=>2
 |_=>3
def bit(m i:Nat):Bool:=Nat.beq (zqa (zqb m i) 1) 1
def directs(o:Oper):List Nat:=(o.after.toList.filter (Region.binds .any)).map (·.on)
def CY(ms:List Nat)(l:List Nat):Nat:=l.foldr (fun e m=>Nat.lor (Nat.lor m (Nat.shiftLeft 1 e)) (ms.getD e 0)) 0
def Fm(ops:List Oper):List Nat:=ops.foldl (fun ms o=>ms++[CY ms (directs o)]) []
def Pf(n:Nat):List Nat:=List.range n
def Qd(ops:List Oper)(ms:List Nat):List Nat:=
 let n:=ops.length;let of (k:Nat):=(Pf n).filter fun i=>match ops[i]? with|some o=>Nat.beq (Hu o.op) k|none=>zf
 let C (A:List Nat) (w:Nat):=(Pf n).filter fun i=>bit (ms.getD w 0) i && !(A.contains i)
 let lay (A:List Nat) (c:Nat):=bif A.contains c then A else A++C A c++[c];let B (A:List Nat) (w:Nat):=((of 2).filter fun i=>bit (ms.getD w 0) i).foldl lay A;let l:=(of 3).foldl (fun A w=>lay (B A w) w) [];let l:=(of 2).foldl lay l
 l++(Pf n).filter fun i=>!(l.contains i)
def looksAt(ops:List Oper)(o:Oper):List Tmp:=
 (o.op.operands.toList.filterMap fun x=>match x with | .tmp t=>zs t|_=>zn) ++
 (match o.guard with
  |some p=>(match ops[p.1]? with|some q=>q.dst.toList|none=>[])
  |none=>[])
def sC(ops:List Oper)(x y:Oper):Bool:=
 (match x.dst with|some d=>!((looksAt ops y).contains d) && !(y.dst==zs d)|none=>zt) &&
 (match y.dst with|some d=>!((looksAt ops x).contains d)|none=>zt)
def clsAt(ops:List Oper)(i:Nat):Nat:=match ops[i]? with|some o=>Hu o.op|none=>3
def apartAt(ops:List Oper)(i j:Nat):Bool:=match ops[i]? with|some x=>(match ops[j]? with|some y=>sC ops x y|none=>zf)|none=>zf
def Yz(ops:List Oper)(ms:List Nat)(i j:Nat):Bool:=
 bit (ms.getD j 0) i||(!(Nat.beq (clsAt ops j) 3)&&apartAt ops i j)
def Qe(ops:List Oper)(ms:List Nat):List Nat->Bool
 |[]=>zt
 |i::r=>r.all (fun j=>Yz ops ms i j && !(bit (ms.getD i 0) j))&&Qe ops ms r
def lF(ops:List Oper)(ms:List Nat):Bool:=
 (Pf ops.length).all fun j=>(Pf ops.length).all fun i =>
   !(bit (ms.getD j 0) i)||(match ops[j]? with|some o=>(directs o).any fun e=>Nat.beq e i||bit (ms.getD e 0) i|none=>zf)
def Za(ops:List Oper)(ms:List Nat):List Nat->List Nat->Bool
 |_,[]=>zt
 |ahead,a::r=>
  (!(Nat.beq (clsAt ops a) 2)||r.all fun j=>!(bit (ms.getD j 0) a)||ahead.all fun i=>bit (ms.getD j 0) i)&&Za ops ms (a::ahead) r
def sD(ops:List Oper)(ms:List Nat):Bool:=
 (Pf ops.length).all fun j=>match ops[j]? with
   |some o=>(match o.guard with|some p=>bit (ms.getD j 0) p.1|none=>zt)
   |none=>zt
def Zb:List Nat->Bool
 |[]=>zt
 |i::r=>!(r.contains i)&&Zb r
def sE(n:Nat)(l:List Nat):Bool:=Nat.beq l.length n&&(Pf n).all (fun i=>l.contains i)&&l.all (fun i=>Nat.blt i n)&&Zb l
def lG(ops:List Oper)(ms:List Nat):Bool:=(Pf ops.length).all fun j=>match ops[j]? with
    |some o=>(directs o).all fun e=>Nat.blt e ops.length&&bit (ms.getD j 0) e && !(Nat.beq e j)
    |none=>zt
def Zc(ops:List Oper):List Nat->Bool
 |[]=>zt
 | i::r=>r.all (fun j=>match ops[i]? with
  |some x=>(match ops[j]? with|some y=>(match x.dst with|some d=>!(y.dst==zs d)|none=>zt)|none=>zt)
  |none=>zt)&&Zc ops r
def Na(ops:List Oper)(ms l:List Nat):Bool:=
 sE ops.length l&&Qe ops ms l&&lF ops ms&&Za ops ms [] l&&sD ops ms&&lG ops ms&&Zc ops l
def F3(ops:List Oper)(o:Oper):Option (Option Tmp×Bool):=
 match o.guard with
 |none=>zn
 |some p=>zs ((match ops[p.1]? with|some q=>q.dst|none=>zn),p.2)
def cD(ops:List Oper)(quiet:Bool)(late:List Bool)(careful:Bool)(o:Oper):XOp:=⟨o.dst,o.op,F3 ops o,quiet,late,careful⟩
def m7(ops:List Oper)(ms:List Nat)(i:Nat)(r:List Nat):Bool:=Nat.beq (clsAt ops i) 3&&r.any fun j=>Nat.beq (clsAt ops j) 1 && !(bit (ms.getD j 0) i)
def Nb(ops:List Oper)(ms:List Nat)(i:Nat)(r:List Nat):List Bool:=bif Nat.beq (clsAt ops i) 3 then r.map fun j=>bit (ms.getD j 0) i else []
def k9(ops:List Oper)(ms:List Nat)(i:Nat)(A:List Nat):Bool:=Nat.beq (clsAt ops i) 1&&A.any fun j=>Nat.beq (clsAt ops j) 3 && !(bit (ms.getD i 0) j)
def Av(ops:List Oper)(ms:List Nat):List Nat->List Nat->List XOp
 |_,[]=>[]
 |ahead,i::r=>(match ops[i]? with|some o=>[cD ops (m7 ops ms i r) (Nb ops ms i r) (k9 ops ms i ahead) o]|none=>[])++Av ops ms (i::ahead) r
def IA(ops:List Oper)(ms l:List Nat):XC:=bif Na ops ms l then .reg zt (Av ops ms [] l)else .bad
def IB(o:Op):Bool:=match o with | .defer _=>zt|_=>zf
def Ia(l:List Oper):Bool:=l.all fun o=>!(IB o.op)
def xregP(ops l:List Oper):XC:=bif Ia l then .reg zf (l.map (cD ops zf [] zf))else .bad
def SJ(ops:List Oper)(draw:Bool):XC:=match draw with
 |false=>xregP ops ops
 |true=>bif Ia ops then IA ops (Fm ops) (Qd ops (Fm ops))else .bad
def dC{α β:Type}(x:Option α)(f:α->Option β):Option β:=match x with|none=>zn|some a=>f a
def Dq:Code->Option (List Nat)
 |.skip=>zs []
 |.ret=>zs []
 |.exit _=>zs []
 |.region _ ops _=>zs (ops.toList.filterMap (·.dst))
 |.seq a b=>dC (Dq a) fun x=>dC (Dq b) fun y=>zs (x++y)
 |.cond _ a b=>dC (Dq a) fun x=>dC (Dq b) fun y=>zs (x++y)
 |.block _ a=>Dq a
 |.loop a=>Dq a
 |_=>zn
def CZ(A B p1 p2 C D G:Oper)(c:Operand)(e i0 i1:Nat)(ws:List Nat):Option RngD:=
 match A.guard,B.guard,p1.guard,p2.guard,C.guard,D.guard,G.guard with
 |none,zn,zn,zn,zn,zn,zn=>
  match A.dst,B.dst,p1.dst,p2.dst,C.dst,D.dst,G.dst with
  |some d1,zs d2,zs d3,zs d4,zs d5,zs d6,zs d7=>
   match A.op,B.op,p1.op,p2.op,C.op,D.op,G.op,c with
   |.move m,.range ty (.tmp e1),.next (.tmp e2) zf,.extract (.tmp e3) 0,.entry (.tmp e4),.extract (.tmp e5) 0,.assign (.tmp e6),.tmp e7=>
    match(Nat.beq e1 d1&&Nat.beq e2 d2&&Nat.beq e3 d3&&Nat.beq e4 d2&&Nat.beq e5 d5&&Nat.beq e6 d6&&Nat.beq e7 d4&&Nat.beq e i0 && !((d3::d4::d5::d6::d7::ws).contains d2))with
    |true=>zs ⟨m,d1,d2,d3,d4,d5,d6,d7,i0,i1,ty,d1::d2::d3::d4::d5::d6::d7::ws⟩
    |false=>zn
   |_,_,_,_,_,_,_,_=>zn
  |_,_,_,_,_,_,_=>zn
 |_,_,_,_,_,_,_=>zn
def rngC(a b:Code):Option RngD:=
 match a with
 | .region _ ops1 zf=>match b with
  |.block i0 (.loop (.seq (.region _ ops2 zf) (.seq (.cond c .skip (.exit e)) (.block i1 (.seq (.region _ ops3 zf) B)))))=>
   match ops1.toList,ops2.toList,ops3.toList with
   |[o1,o2],[p1,p2],[q1,q2,q3]=>dC (Dq B) fun ws=>CZ o1 o2 p1 p2 q1 q2 q3 c e i0 i1 ws
   |_,_,_=>zn
  |_=>zn
 |_=>zn
def xc:Code->XC
 |.skip=>.skip
 |.region _ ops draw=>SJ ops.toList draw
 |.seq a b=>(match rngC a b with|some R=>.rngm R (xc b)|none=>.seq (xc a) (xc b))
 |.cond c a b=>.cond c (xc a) (xc b)
 |.block id c=>.block id (xc c)
 |.loop c=>.loop (xc c)
 |.scope c=>.scope (xc c)
 |.rangeFunc g ps a b=>.rfn g ps.toList (xc a) (xc b)
 |.label _=>.skip
 |.exit id=>.exit id
 |.ret=>.ret
 |_=>.bad
def isNone{α:Type}(o:Option α):Bool:=match o with|none=>zt|some _=>zf
def lH(ts:List Tmp)(l:List Oper):Bool:=l.all fun o=>isNone o.guard&&(match o.dst with|none=>zt|some d=>!(ts.contains d))
def X1(ts:List Tmp)(l:List Oper):Bool:=l.all fun o=>(match o.dst with|none=>zt|some d=>!(ts.contains d))
def isY(yt:Tmp)(o:Oper):Option (Tmp×List Operand):=
 match o.op with
 | .call c=>match c.callee with
  |.value x=>(match x with | .tmp t=>bif Nat.beq t yt then(match o.dst with|some d=>zs (d,c.args.toList)|none=>zn)else zn|_=>zn)
  |_=>zn
 |_=>zn
def splitY(yt:Tmp):List Oper->Option (List Oper×Oper×List Oper)
 |[]=>zn
 | o::r=>match isY yt o with
  |some _=>zs ([],o,r)
  | none=>match splitY yt r with
   |some p=>zs (o::p.1,p.2.1,p.2.2)
   |none=>zn
def isMv0(o:Oper):Option Tmp:=
 match o.op with
 |.move x=>(match x with | .tmp t=>bif Nat.beq t 0 then o.dst else zn|_=>zn)
 |_=>zn
def splitM:List Oper->Option (List Oper×Oper×List Oper)
 |[]=>zn
 | o::r=>match isMv0 o with
  |some _=>zs ([],o,r)
  | none=>match splitM r with
   |some p=>zs (o::p.1,p.2.1,p.2.2)
   |none=>zn
def xE(a b:Option (Nat×Bool)):Bool:=
 match a with
 |none=>(match b with|none=>zt|some _=>zf)
 |some p=>(match b with|none=>zf|some q=>Nat.beq p.1 q.1&&(match p.2 with|true=>q.2|false=>!q.2))
def DA(ops:List Oper)(q:List Oper×Oper×List Oper):Option IC:=
 match isMv0 q.2.1 with
 |none=>zn
 | some yt=>match splitY yt q.2.2 with
  |none=>zn
  | some p=>match isY yt p.2.1 with
   |none=>zn
   | some y=>bif xE q.2.1.guard p.2.1.guard && !(Nat.beq yt 0)&&X1 [0] q.1&&X1 [0,yt] p.1&&X1 [0] [p.2.1]&&X1 [0] p.2.2 then
    zs (.yreg (xregP ops q.1) (F3 ops q.2.1) yt (xregP ops p.1) y.1 y.2 (xregP ops p.2.2))else zn
def z8(ops:List Oper):Option IC:=
 match splitM ops with
 |none=>bif X1 [0] ops then zs (.reg (xregP ops ops))else zn
 |some q=>DA ops q
def sF(f:IC->IC->IC)(a b:Option IC):Option IC:=match a with|none=>zn|some a=>(match b with|none=>zn|some b=>zs (f a b))
def parseI:Code->Option IC
 |.skip=>zs .skip
 |.region id ops draw=>(match draw with|false=>z8 ops.toList|true=>bif X1 [0] ops.toList then zs (.reg (xc (.region id ops zt)))else zn)
 |.seq a b=>sF .seq (parseI a) (parseI b)
 |.cond c a b=>sF (.cond c) (parseI a) (parseI b)
 |.block id c=>(parseI c).map (.block id)
 |.loop c=>(parseI c).map .loop
 |.exit id=>zs (.exit id)
 |.ret=>zs .ret
 |_=>zn
def handsI:IC->Bool
 |.yreg _ _ _ _ _ _ _=>zt
 |.seq a b=>handsI a||handsI b
 |.cond _ a b=>handsI a||handsI b
 |.block _ c=>handsI c
 |.loop c=>handsI c
 |_=>zf
structure DfC where
 pre:List Code
 id:Nat
 ops:Array Oper
 rest:Code
def DfC.code(x:DfC):Code:=x.pre.foldr .seq (.seq (.region x.id x.ops zf) x.rest)
def iL(l:List Oper):Bool:=!(Ia l)
def parseD:Code->Option DfC
 | .seq a b=>match a with
  |.region id ops zf=>bif iL ops.toList then zs ⟨[],id,ops,b⟩else(parseD b).map fun x=>⟨.region id ops zf::x.pre,x.id,x.ops,x.rest⟩
  |a=>(parseD b).map fun x=>⟨a::x.pre,x.id,x.ops,x.rest⟩
 |_=>zn
def isDf(o:Oper):Option Operand:=
 match o.op with
 | .defer c=>match c.callee with
  |.value x=>bif isNone o.guard&&isNone o.dst&&(match c.args.toList with|[]=>zt|_=>zf)then zs x else zn
  |_=>zn
 |_=>zn
def X2(ts:List Tmp):Code->Bool
 |.skip=>zt
 |.region _ ops _=>ops.toList.all fun o=>(match o.dst with|none=>zt|some d=>!(ts.contains d))
 |.seq a b=>X2 ts a&&X2 ts b
 |.cond _ a b=>X2 ts a&&X2 ts b
 |.block _ c=>X2 ts c
 |.loop c=>X2 ts c
 |.scope c=>X2 ts c
 |.exit _=>zt
 |.ret=>zt
 |_=>zf
def Dr(x:ResultVar):Tmp:=match x with | .tmp t=>t | .cell a _=>a
def Ri(rs:List ResultVar)(x:DfC):Option FM:=
 match x.ops.toList.reverse with
 |[]=>zn
 | o::r=>match isDf o with
  |none=>zn
  |some g=>bif lH [] r.reverse&&x.pre.all (X2 [])&&X2 (rs.map Dr) x.rest then zs (.dfr (x.pre.map xc++[xregP x.ops.toList r.reverse]) g (xc x.rest))else zn
def isRc(o:Oper):Option Tmp:=
 match o.op with
 | .call c=>match c.callee with
  |.builtin b=>(match b with | .recover=>bif isNone o.guard&&(match c.args.toList with|[]=>zt|_=>zf)then o.dst else zn|_=>zn)
  |_=>zn
 |_=>zn
def isAs(d:Tmp)(o:Oper):Option Tmp:=
 match o.op with
 |.assign x=>(match x with | .tmp t=>bif Nat.beq t d&&isNone o.guard then o.dst else zn|_=>zn)
 |_=>zn
def Rj(c:Code):Option FM:=
 match c with
 | .seq (.region _ ops zf) rest=>match ops.toList with
  | [o,o']=>match isRc o with
   |none=>zn
   | some d=>match isAs d o' with
    |none=>zn
    |some d2=>bif X2 [] rest then zs (.rcv d d2 (xc rest))else zn
  |_=>zn
 |_=>zn
def PV(x:Option FM)(y:FM):FM:=match x with|some m=>m|none=>y
def fmOf(rs:List ResultVar)(c:Code):FM:=
 PV (bif Ko rs then Rj c else zn) (PV (match parseD c with|some x=>Ri rs x|none=>zn) (PV (match parseI c with|some x=>bif Ko rs&&handsI x then zs (.itf x)else zn|none=>zn) .plain))
end
end Go.AM
/-
 The abstract machine: what abstract values,frames and heaps say of the model's values,slots and worlds.
-/
namespace Go.AM
namespace Tr
theorem Kq(l:Tr)(v:AV)(r:Tr)(k:Nat):(Tr.node l v r).get (k+1)=bif Nat.beq (zqa k 1) 0 then l.get (zqb k 1)else r.get (zqb k 1):=by
 show Nat.rec (motive:=fun _=>AV) (l.get (zqb k 1)) (fun _ _=>r.get (zqb k 1)) (zqa k 1)=_
 generalize zqa k 1=m;cases m<;>rfl
theorem Fo(l:Tr)(v:AV)(r:Tr)(k:Nat)(x:AV):(Tr.node l v r).set (k+1) x=bif Nat.beq (zqa k 1) 0 then .node (l.set (zqb k 1) x) v r else .node l v (r.set (zqb k 1) x):=by
 show Nat.rec (motive:=fun _=>Tr) (.node (l.set (zqb k 1) x) v r) (fun _ _=>.node l v (r.set (zqb k 1) x)) (zqa k 1)=_
 generalize zqa k 1=m;cases m<;>rfl
theorem has_succ(l:Tr)(v:AV)(r:Tr)(k:Nat):(Tr.node l v r).has (k+1)=bif Nat.beq (zqa k 1) 0 then l.has (zqb k 1)else r.has (zqb k 1):=rfl
theorem has_zero(l:Tr)(v:AV)(r:Tr):(Tr.node l v r).has 0=zt:=rfl
theorem half_inj{k m:Nat}(h:zqb k 1=zqb m 1)(C:Nat.beq (zqa k 1) 0=Nat.beq (zqa m 1) 0):k=m:=by
 have e1:∀n,zqb n 1=n/2:=fun n=>zqg n 1
 have e2:∀n,zqa n 1=n%2:=fun n=>zqk n
 rw[e1,e1]at h;rw[e2,e2]at C;have A:=zqi k;have B:=zqi m;rcases A with A|A<;>rcases B with B|B<;>rw[A,B]at C<;>first|omega|simp_all
theorem get_set_ne:∀(t:Tr)(i j:Nat)(x:AV),i≠j->(t.set i x).get j=t.get j
 |.nil,_,_,_,_=>rfl
 |.node l v r,0,0,_,h=>absurd rfl h
 |.node l v r,0,j+1,_,_=>rfl
 |.node l v r,i+1,0,x,_=>by
  rw[Fo];cases Nat.beq (zqa i 1) 0<;>rfl
 |.node l v r,i+1,j+1,x,h=>by
  rw[Fo,Kq];cases hi:Nat.beq (zqa i 1) 0<;>cases A:Nat.beq (zqa j 1) 0<;>simp only[cond_true,cond_false,Kq,A]
  . exact get_set_ne r _ _ x (by grind[Go.AM.Tr.half_inj])
  . exact get_set_ne l _ _ x (by grind[Go.AM.Tr.half_inj])
theorem get_set_eq:∀(t:Tr)(i:Nat)(x:AV),(t.set i x).get i=if t.has i then x else .und
 |.nil,_,_=>rfl
 |.node l v r,0,_=>rfl
 |.node l v r,i+1,x=>by
  rw[Fo,has_succ];cases hi:Nat.beq (zqa i 1) 0<;>simp only[cond_true,cond_false,Kq,hi]
  . exact get_set_eq r _ x
  . exact get_set_eq l _ x
theorem has_set:∀(t:Tr)(i j:Nat)(x:AV),(t.set i x).has j=t.has j
 |.nil,_,_,_=>rfl
 |.node l v r,0,0,_=>rfl
 |.node l v r,0,j+1,_=>rfl
 |.node l v r,i+1,0,x=>by
  rw[Fo];cases Nat.beq (zqa i 1) 0<;>rfl
 |.node l v r,i+1,j+1,x=>by
  rw[Fo,has_succ];cases hi:Nat.beq (zqa i 1) 0<;>cases A:Nat.beq (zqa j 1) 0<;>simp only[cond_true,cond_false,has_succ,A]
  . exact has_set r _ _ x
  . exact has_set l _ _ x
theorem mk_zero(n:Nat):mk 0 n=.nil:=rfl
theorem mk_succ_zero(f:Nat):mk (f+1) 0=.nil:=rfl
theorem mk_succ(f k:Nat):mk (f+1) (k+1)=.node (mk f (zqe (k+1) 2)) .und (mk f (zqe k 2)):=rfl
theorem has_mk:∀(f n i:Nat),(mk f n).has i=zt->i<n
 |0,_,_,h=>by simp[mk_zero]at h;cases h
 |f+1,0,i,h=>by simp[mk_succ_zero]at h;cases h
 |f+1,k+1,0,_=>Nat.succ_pos _
 |f+1,k+1,i+1,h=>by
  rw[mk_succ,has_succ]at h;have e1:zqb i 1=i/2:=zqg i 1;have e2:zqa i 1=i%2:=zqk i;have A:zqe (k+1) 2=(k+1)/2:=rfl;have B:zqe k 2=k/2:=rfl;rw[e1,e2,A,B]at h;rcases zqi i with hi|hi<;>rw[hi]at h
  . have:=has_mk f _ _ h;omega
  . have:=has_mk f _ _ h;omega
theorem get_mk:∀(f n i:Nat),(mk f n).get i=.und
 |0,_,_=>rfl
 |f+1,0,_=>rfl
 |f+1,k+1,0=>rfl
 |f+1,k+1,i+1=>by
  rw[mk_succ,Kq];cases Nat.beq (zqa i 1) 0<;>simp only[cond_true,cond_false]<;>exact get_mk f _ _
end Tr
theorem R2:∀(l:List AV)(i:Nat),Fg l i=l[i]?
 |[],_=>rfl
 |_::_,0=>rfl
 |_::r,i+1=>R2 r i
theorem G3:∀(l:List AV)(i:Nat),dropL l i=l.drop i
 |[],i=>by cases i<;>rfl
 |_::_,0=>rfl
 |_::r,i+1=>G3 r i
theorem G4:∀(l:List AV)(i:Nat),takeL l i=l.take i
 |[],i=>by cases i<;>rfl
 |_::_,0=>rfl
 |v::r,i+1=>congrArg (v:: ·) (G4 r i)
theorem Bd:∀(l:List AV)(i:Nat)(x:AV),setL l i x=l.set i x
 |[],i,_=>by cases i<;>rfl
 |_::_,0,_=>rfl
 |v::r,i+1,x=>congrArg (v:: ·) (Bd r i x)
theorem A3:∀(l:List AV),lenL l=l.length
 |[]=>rfl
 |_::r=>congrArg Nat.succ (A3 r)
theorem Qf:∀(l:List (AV×AV)),oP l=l.length
 |[]=>rfl
 |_::r=>congrArg Nat.succ (Qf r)
theorem x4:∀(l:List UInt8),r6 l=l.length
 |[]=>rfl
 |_::r=>congrArg Nat.succ (x4 r)
theorem L7:∀(a b:List AV),appL a b=a++b
 |[],_=>rfl
 |v::r,b=>congrArg (v:: ·) (L7 r b)
theorem Bw{α:Type}:∀(l:List AV)(f:List AV->α),Re l f=f l
 |[],_=>rfl
 |v::r,f=>Bw r fun r=>f (v::r)
theorem Ja(te:TI)(es:List AV)(full:Bool)(xs:List AV)(h:Heap):Ay te es full xs h=M2 (Nat.add (lenL es) (lenL xs)) fun n =>
 A9 (full&&Nat.ble (Nat.mul n te.bytes) 140737488355328&&k7 te.size es) (zs (.msl h.next 0 n te.size,h.push (.row (appL es xs) te.size))):=by
 grind[Ay,Bw]
theorem Rk(te:TI)(id off n:Nat)(xs:List AV)(h:Heap)(es:List AV)(sz:Nat):Ki te id off n xs h es sz=M2 (Nat.add n (lenL xs)) fun m =>
 A9 (Nat.ble (Nat.add off n) (lenL es)&&Nat.beq sz te.size&&Nat.ble (Nat.mul m te.bytes) 140737488355328) (zs (.msl h.next 0 m sz,(h.del id).push (.row (appL (takeL (dropL es off) n) xs) sz))):=by
 grind[Ki,Bw]
theorem m8:∀(n:Nat)(v:AV),repL n v=List.replicate n v
 |0,_=>rfl
 |n+1,v=>congrArg (v:: ·) (m8 n v)
theorem lI:∀(l:List UInt8)(i:Nat),CW l i=l[i]?
 |[],_=>rfl
 |_::_,0=>rfl
 |_::r,i+1=>lI r i
theorem Zd:∀(l:List (Nat×Nat))(i:Nat),Yv l i=l[i]?
 |[],_=>rfl
 |_::_,0=>rfl
 |_::r,i+1=>Zd r i
theorem G0:∀(l:List AV),D1 l=zt↔∀c∈l,okCell c=zt
 |[]=>by simp[D1]
 |v::r=>by
  show(bif okCell v then D1 r else zf)=zt↔_
  cases h:okCell v<;>simp[h,G0 r]
theorem o5(sz:Nat):∀(l:List AV),F2 sz l=zt↔∀c∈l,c.cells.length=sz
 |[]=>by simp[F2]
 |v :: r=>by
  show(bif Nat.beq (lenL v.cells) sz then F2 sz r else zf)=zt↔_
  rw[A3];cases h:Nat.beq v.cells.length sz
  . have:v.cells.length≠sz:=fun e=>by simp_all
    simp[this]
  . have:v.cells.length=sz:=zqj h
    simp[this,o5 sz r]
theorem A0{α β:Type}{x:Option α}{f:α->Option β}{b:β}(h:A4 x f=zs b):∃a,x=zs a/\f a=zs b:=by
 cases x with
 |none=>cases h
 |some a=>exact⟨a,rfl,h⟩
theorem A6{α:Type}{b:Bool}{x:Option α}{a:α}(h:A9 b x=zs a):b=zt/\x=zs a:=by
 cases b with
 |false=>cases h
 |true=>exact⟨rfl,h⟩
theorem C4{a b:Nat}(h:Nat.beq a b=zt):a=b:=zqj h
theorem B9{a b:Nat}(h:Nat.ble a b=zt):a<=b:=zqh h
theorem I5{a b:Nat}(h:Nat.blt a b=zt):a<b:=zqh h
theorem lJ(k:IntKind):(pow2 k:Int)=2^k.bits:=by cases k<;>rfl
theorem oW(k:IntKind):J2 k=k.bits:=by cases k<;>rfl
theorem Bx(k:IntKind):0<pow2 k:=by cases k<;>decide
theorem Kr(n:Int)(m:Nat)(h:0<m):(modN n m:Int)=n%(m:Int):=by
 cases n with
 |ofNat a=>rfl
 |negSucc a=>
  show((m-(a%m+1):Nat):Int)=_
  have hl:a%m<m:=Nat.mod_lt _ h;rw[Int.negSucc_emod a (by grind)];grind
theorem sG(k:IntKind)(m:Nat)(h:m<pow2 k):Ax k m=(let m:Int:=m;if k.signed&&m>=(2^(k.bits-1):Int)then m-(2^k.bits:Int)else m):=by
 have A:∀(hf p:Nat),m<p->(bif Nat.ble hf m then Int.negSucc (Nat.sub (Nat.sub p m) 1)else zqn m)=if(hf:Int)<=(m:Int)then(m:Int)-(p:Int)else(m:Int):=by
  intro hf p hp;cases hb:Nat.ble hf m with
  |true=>
   have:=zqh hb
   grind
  |false=>
   have:¬hf<=m:=(by grind[zql])
   grind
 unfold Ax;rw[A _ _ h];cases k<;>simp[half,pow2,IntKind.signed,IntKind.bits]at h|- <;> omega
theorem Rl(k:IntKind)(n:Int):lD k n=k.wrap n:=by
 have A:=Bx k;have hm:=Kr n (pow2 k) A;have hlt:modN n (pow2 k)<pow2 k:=by
  have:=zqo n (show(0:Int)<(pow2 k:Int) by omega)
  omega
 grind[lD,IntKind.wrap,sG,lJ]
theorem Y2(j k:IntKind):kindEq j k=zt↔j=k:=by cases j<;>cases k<;>simp[kindEq,iG]
theorem o6(a b:Int):intEq a b=(a==b):=by
 rw[zqq,beq_iff_eq];cases a<;>cases b<;>simp only[intEq,Nat.beq_eq,zqp,zqr,false_iff]<;>omega
theorem N7(a b:Int):intLe a b=decide (a<=b):=by
 rw[zqq,decide_eq_true_iff];cases a<;>cases b<;>simp only[intLe,Nat.ble_eq,zqp,zqr,false_iff,true_iff]<;>omega
theorem Nc(a b:UInt8):Iu a b=(a==b):=by
 unfold Iu;rw[zqq];simp_all[UInt8.toNat_inj]
theorem Fp:∀(a b:List UInt8),Oh a b=(a==b)
 |[],[]=>rfl
 |[],_::_=>rfl
 |_::_,[]=>rfl
 |x::a,y::b=>by
  show(bif Iu x y then Oh a b else zf)=_
  rw[Nc,Fp a b];grind
end Go.AM
/-
 The abstract machine: 'Rep': a value of the model reads as an abstract value; 'Ext': a later world; 'Sat': a world holds an abstract heap's objects.
-/
namespace Go.AM
structure Cx where
 μ:Nat->Nat×Nat×Nat
 nx:Nat
 own:Nat->Prop
 held:Nat->Prop
def _root_.Go.Value.oneC(v:Value):Bool:=match v with | .agg _=>zf | .tuple _=>zf|_=>zt
def szOf(W:World)(b:Nat):Nat:=match W.heap[b]? with|some (.cells c _ _)=>c.size|_=>0
inductive Rep(W:World)(cx:Cx):Value->AV->Prop
 |int (k:IntKind) (n:Int):Rep W cx (.int k n) (.int k n)
 |bool (b:Bool):Rep W cx (.bool b) (.bool b)
 |str (s:ByteArray):Rep W cx (.string s) (.str s.data.toList)
 |agg (vs:Array Value) (cs:List AV) (hl:vs.size=cs.length) (h:∀(i:Nat) v c,vs[i]?=zs v->cs[i]?=zs c->Rep W cx v c):Rep W cx (.agg vs) (.agg cs)
 |tup (vs:Array Value) (cs:List AV) (hl:vs.size=cs.length) (h:∀(i:Nat) v c,vs[i]?=zs v->cs[i]?=zs c->Rep W cx v c):Rep W cx (.tuple vs) (.tup cs)
 | fsl (a:Option Addr) (b o n cap:Nat) (es:List AV) (full:Bool) (sz:Nat) (g:Nat->Nat->Value)
  (hn:es.length=n) (hc:n<=cap) (hf:full=zt->cap=n)
  (ha:es≠[]->a=zs ⟨b,o,zn⟩/\¬cx.own b/\b<W.heap.size)
  (hsz:∀(i:Nat) e,es[i]?=zs e->e.cells.length=sz)
  (hcell:∀(i:Nat) e (j:Nat) c,es[i]?=zs e->e.cells[j]?=zs c->W.cell? ⟨b,o+i*sz+j,zn⟩=zs (g i j))
  (hone:∀(i:Nat) e (j:Nat) c,es[i]?=zs e->e.cells[j]?=zs c->(g i j).oneC=zt)
  (hrep:∀(i:Nat) e (j:Nat) c,es[i]?=zs e->e.cells[j]?=zs c->Rep W cx (g i j) c)
  (hnn:es=[]->full=zf->a≠zn):Rep W cx (.slice a n cap) (.fsl es full)
 | fptr (b o off:Nat) (v:AV) (g:Nat->Value) (ho:¬cx.own b) (hb:b<W.heap.size)
  (hcell:∀(j:Nat) c,v.cells[j]?=zs c->W.cell? ⟨b,o+j,zn⟩=zs (g j))
  (hone:∀(j:Nat) c,v.cells[j]?=zs c->(g j).oneC=zt)
  (hrep:∀(j:Nat) c,v.cells[j]?=zs c->Rep W cx (g j) c):Rep W cx (.pointer (zs ⟨b,o+off,zn⟩)) (.fptr v off)
 | msl (a:Option Addr) (n cap id off sz:Nat) (hid:id<cx.nx) (hz:(cx.μ id).2.2=sz) (hb:(cx.μ id).1<W.heap.size) (hc:n<=cap)
  (ha:cap≠0->a=zs ⟨(cx.μ id).1,(cx.μ id).2.1+off*sz,zn⟩/\(cx.μ id).2.1+(off+cap)*sz<=szOf W (cx.μ id).1)
  (hnn:a≠zn):Rep W cx (.slice a n cap) (.msl id off n sz)
 |nilsl:Rep W cx (.slice zn 0 0) .nilsl
 | ptr (id i off:Nat) (hid:id<cx.nx) (hb:(cx.μ id).1<W.heap.size):
  Rep W cx (.pointer (zs ⟨(cx.μ id).1,(cx.μ id).2.1+i*(cx.μ id).2.2+off,zn⟩)) (.ptr id i off)
 |nilptr:Rep W cx (.pointer zn) .nilptr
 |nilmap:Rep W cx (.map zn) .nilmap
 |map (id:Nat) (hid:id<cx.nx) (hb:(cx.μ id).1<W.heap.size):Rep W cx (.map (zs (cx.μ id).1)) (.map id)
 | fn (f:Fn) (vs ws:Array Value) (cs ds:List AV) (hl:vs.size=cs.length) (hl':ws.size=ds.length)
  (h:∀(i:Nat) v c,vs[i]?=zs v->cs[i]?=zs c->Rep W cx v c) (h':∀(i:Nat) v c,ws[i]?=zs v->ds[i]?=zs c->Rep W cx v c):Rep W cx (.func f vs ws) (.fn f cs ds)
 |nilfn:Rep W cx .nilFunc .nilfn
 |iface (t:TypeId) (v:Value) (a:AV) (h:Rep W cx v a):Rep W cx (.iface t v) (.iface t a)
 |niliface:Rep W cx .nilIface .niliface
 |any (v:Value) (h:v.oneC=zt):Rep W cx v .any
 |und (v:Value):Rep W cx v .und
theorem Rep.nil_fsl{W:World}{cx:Cx}{v:Value}(h:Rep W cx v .nilsl):Rep W cx v (.fsl [] zt):=by
 cases h;exact .fsl zn 0 0 0 0 [] zt 0 (fun _ _=>undef) rfl (zqf _) (fun _=>rfl) (fun h=>absurd rfl h) (by simp) (by simp) (by simp) (by simp) (fun _ e=>by cases e)
def RepL(W:World)(cx:Cx)(vs:List Value)(cs:List AV):Prop:=vs.length=cs.length/\∀(i:Nat) v c,vs[i]?=zs v->cs[i]?=zs c->Rep W cx v c
structure Ext0(W:World)(cx:Cx)(W':World)(cx':Cx):Prop where
 nx:cx.nx<=cx'.nx
 mu:∀id,id<cx.nx->cx'.μ id=cx.μ id
 sz:W.heap.size<=W'.heap.size
 keep:∀b,b<W.heap.size->¬cx.own b->W'.heap[b]?=W.heap[b]?
 shape:∀b,b<W.heap.size->szOf W' b=szOf W b
 own:∀b,b<W.heap.size->cx'.own b->cx.own b
structure Ext(W:World)(cx:Cx)(W':World)(cx':Cx):Prop extends Ext0 W cx W' cx' where
 hold:∀b,b<W.heap.size->cx.held b->cx'.held b/\W'.heap[b]?=W.heap[b]?
 out:W'.os=W.os/\W'.tape=W.tape/\W'.output=W.output
theorem Ext0.refl(W:World)(cx:Cx):Ext0 W cx W cx:=⟨zqf _,fun _ _=>rfl,zqf _,fun _ _ _=>rfl,fun _ _=>rfl,fun _ _ h=>h⟩
theorem Ext0.trans{W B W₂:World}{cx A cx₂:Cx}(h:Ext0 W cx B A)(h':Ext0 B A W₂ cx₂):Ext0 W cx W₂ cx₂ where
 nx:=Nat.le_trans h.nx h'.nx
 mu id hi:=(h'.mu id (zqc hi h.nx)).trans (h.mu id hi)
 sz:=Nat.le_trans h.sz h'.sz
 keep b hb ho:=(h'.keep b (zqc hb h.sz) fun C=>ho (h.own b hb C)).trans (h.keep b hb ho)
 shape b hb:=(h'.shape b (zqc hb h.sz)).trans (h.shape b hb)
 own b hb C:=h.own b hb (h'.own b (zqc hb h.sz) C)
theorem Ext.refl(W:World)(cx:Cx):Ext W cx W cx:=⟨Ext0.refl W cx,fun _ _ h=>⟨h,rfl⟩,rfl,rfl,rfl⟩
theorem Ext.trans{W B W₂:World}{cx A cx₂:Cx}(h:Ext W cx B A)(h':Ext B A W₂ cx₂):Ext W cx W₂ cx₂ where
 toExt0:=h.toExt0.trans h'.toExt0
 hold b hb hw:=by
  obtain⟨h1,h2⟩:=h.hold b hb hw;obtain⟨h3,h4⟩:=h'.hold b (zqc hb h.sz) h1;grind
 out:=⟨h'.out.1.trans h.out.1,h'.out.2.1.trans h.out.2.1,h'.out.2.2.trans h.out.2.2⟩
theorem Ds{W W':World}{b:Nat}(h:W'.heap[b]?=W.heap[b]?)(o:Nat):W'.cell? ⟨b,o,zn⟩=W.cell? ⟨b,o,zn⟩:=by
 unfold World.cell?;rw[h]
theorem Rep.mono0{W W':World}{cx cx':Cx}(A:Ext0 W cx W' cx'){v:Value}{a:AV}(h:Rep W cx v a):Rep W' cx' v a:=by
 induction h with
 |int k n=>exact .int k n
 |bool b=>exact .bool b
 |str s=>exact .str s
 |agg vs cs hl _ B=>exact .agg vs cs hl B
 |tup vs cs hl _ B=>exact .tup vs cs hl B
 |fsl a b o n cap es full sz g hn hc hf ha hsz hcell hone _ hnn B=>
  refine .fsl a b o n cap es full sz g hn hc hf (fun C=>?_) hsz (fun i e j c h1 h2=>?_) hone B hnn
  . obtain⟨h1,h2,G⟩:=ha C
    exact⟨h1,fun H=>h2 (A.own _ G H),zqc G A.sz⟩
  . have C:es≠[]:=fun e0=>by grind
    obtain⟨_,J,G⟩:=ha C;rw[Ds (A.keep b G J)];grind
 |fptr b o off v g ho hb hcell hone _ B=>
  refine .fptr b o off v g (fun H=>ho (A.own _ hb H)) (zqc hb A.sz) (fun j c h1=>?_) hone B;rw[Ds (A.keep b hb ho)];grind
 |nilsl=>exact .nilsl
 |msl a n cap id off sz hid hz hb hc ha hnn=>
  refine .msl a n cap id off sz (zqc hid A.nx) ?_ ?_ hc ?_ hnn
  . rw[A.mu id hid];exact hz
  . rw[A.mu id hid];exact zqc hb A.sz
  . rw[A.mu id hid];intro h0;obtain⟨h1,h2⟩:=ha h0
    exact⟨h1,by rw[A.shape _ hb];exact h2⟩
 |ptr id i off hid hb=>
  have D:=A.mu id hid;rw[<-D];exact .ptr id i off (zqc hid A.nx) (by rw[D];exact zqc hb A.sz)
 |nilptr=>exact .nilptr
 |nilmap=>exact .nilmap
 |map id hid hb=>
  have D:=A.mu id hid;rw[<-D];exact .map id (zqc hid A.nx) (by rw[D];exact zqc hb A.sz)
 |fn f vs ws cs ds hl hl' _ _ B I=>exact .fn f vs ws cs ds hl hl' B I
 |nilfn=>exact .nilfn
 |iface t v a _ B=>exact .iface t v a B
 |niliface=>exact .niliface
 |any v h=>exact .any v h
 |und v=>exact .und v
theorem Rep.mono{W W':World}{cx cx':Cx}(A:Ext W cx W' cx'){v:Value}{a:AV}(h:Rep W cx v a):Rep W' cx' v a:=h.mono0 A.toExt0
theorem RepL.mono{W W':World}{cx cx':Cx}(A:Ext W cx W' cx'){vs:List Value}{cs:List AV}(h:RepL W cx vs cs):RepL W' cx' vs cs:=
 ⟨h.1,fun i v c h1 h2=>(h.2 i v c h1 h2).mono A⟩
theorem RepL.nil{W:World}{cx:Cx}:RepL W cx [] []:=⟨rfl,fun i v c h=>by simp at h⟩
theorem RepL.cons{W:World}{cx:Cx}{v:Value}{c:AV}{vs:List Value}{cs:List AV}(h:Rep W cx v c)(h':RepL W cx vs cs):RepL W cx (v::vs) (c::cs):=
 ⟨by simp[h'.1],fun i u d h1 h2=>by
   cases i with
   |zero=>grind
   |succ i=>simp at h1 h2;exact h'.2 i u d h1 h2⟩
theorem RepL.append{W:World}{cx:Cx}:∀{vs:List Value}{cs:List AV}{vs':List Value}{A:List AV},RepL W cx vs cs->RepL W cx vs' A->RepL W cx (vs++vs') (cs++A)
 |[],[],_,_,_,h'=>h'
 |[],_::_,_,_,h,_=>by have:=h.1;simp at this
 |_::_,[],_,_,h,_=>by have:=h.1;simp at this
 |v::vs,c::cs,_,_,h,h'=>by
  refine .cons (h.2 0 v c rfl rfl) (RepL.append ⟨by have:=h.1;grind,fun i u d h1 h2=>h.2 (i+1) u d (by grind) (by grind)⟩ h')
theorem RepL.take{W:World}{cx:Cx}{vs:List Value}{cs:List AV}(h:RepL W cx vs cs)(n:Nat):RepL W cx (vs.take n) (cs.take n):=
 ⟨by simp[h.1],fun i v c h1 h2=>by
   rw[List.getElem?_take]at h1 h2;split at h1
   . rename_i hi;rw[if_pos hi]at h2;exact h.2 i v c h1 h2
   . cases h1⟩
theorem RepL.drop{W:World}{cx:Cx}{vs:List Value}{cs:List AV}(h:RepL W cx vs cs)(n:Nat):RepL W cx (vs.drop n) (cs.drop n):=
 ⟨by simp[h.1],fun i v c h1 h2=>by rw[List.getElem?_drop]at h1 h2;exact h.2 _ v c h1 h2⟩
theorem RepL.get{W:World}{cx:Cx}{vs:List Value}{cs:List AV}(h:RepL W cx vs cs){i:Nat}{c:AV}(hc:cs[i]?=zs c):∃v,vs[i]?=zs v/\Rep W cx v c:=by
 have hi:i<cs.length:=by
  grind
 have A:vs[i]?=zs (vs[i]'(h.1▸hi)):=zqt _;exact⟨_,A,h.2 i _ c A hc⟩
def Vj(vs:List Value):Prop:=∀v∈vs,v.oneC=zt
theorem Rep.cells{W:World}{cx:Cx}{v:Value}{a:AV}(h:Rep W cx v a)(hu:a≠.und):RepL W cx v.cells.toList a.cells:=by
 have one:∀{v:Value}{a:AV},Rep W cx v a->(∀cs,v≠.agg cs)->(∀cs,a≠.agg cs)->RepL W cx v.cells.toList a.cells:=by
  intro v a h hv ha;have e1:v.cells=#[v]:=by cases v<;>first|rfl|grind
  have e2:a.cells=[a]:=by cases a<;>first|rfl|grind
  rw[e1,e2];exact .cons h .nil
 cases h with
 |agg vs cs hl h=>exact⟨by grind[Value.cells,AV.cells],fun i v c h1 h2=>h i v c (by grind[Value.cells]) h2⟩
 |any v h=>exact one (.any v h) (fun cs e=>by subst e;cases h) (fun _ e=>by cases e)
 |und v=>grind
 |int k n=>exact one (.int k n) (fun _ e=>by cases e) (fun _ e=>by cases e)
 |bool b=>exact one (.bool b) (fun _ e=>by cases e) (fun _ e=>by cases e)
 |str s=>exact one (.str s) (fun _ e=>by cases e) (fun _ e=>by cases e)
 |tup vs cs hl h=>exact one (.tup vs cs hl h) (fun _ e=>by cases e) (fun _ e=>by cases e)
 |fsl a b o n cap es full sz g hn hc hf ha hsz hcell hone hrep hnn=>exact one (.fsl a b o n cap es full sz g hn hc hf ha hsz hcell hone hrep hnn) (fun _ e=>by cases e) (fun _ e=>by cases e)
 |fptr b o off v g ho hb hcell hone hrep=>exact one (.fptr b o off v g ho hb hcell hone hrep) (fun _ e=>by cases e) (fun _ e=>by cases e)
 |nilsl=>exact one .nilsl (fun _ e=>by cases e) (fun _ e=>by cases e)
 |msl a n cap id off sz hid hz hb hc ha hnn=>exact one (.msl a n cap id off sz hid hz hb hc ha hnn) (fun _ e=>by cases e) (fun _ e=>by cases e)
 |ptr id i off hid hb=>exact one (.ptr id i off hid hb) (fun _ e=>by cases e) (fun _ e=>by cases e)
 |nilptr=>exact one .nilptr (fun _ e=>by cases e) (fun _ e=>by cases e)
 |nilmap=>exact one .nilmap (fun _ e=>by cases e) (fun _ e=>by cases e)
 |map id hid hb=>exact one (.map id hid hb) (fun _ e=>by cases e) (fun _ e=>by cases e)
 |fn f vs ws cs ds hl hl' h h'=>exact one (.fn f vs ws cs ds hl hl' h h') (fun _ e=>by cases e) (fun _ e=>by cases e)
 |nilfn=>exact one .nilfn (fun _ e=>by cases e) (fun _ e=>by cases e)
 |iface t v a h=>exact one (.iface t v a h) (fun _ e=>by cases e) (fun _ e=>by cases e)
 |niliface=>exact one .niliface (fun _ e=>by cases e) (fun _ e=>by cases e)
theorem Rep.oneC{W:World}{cx:Cx}{v:Value}{a:AV}(h:Rep W cx v a)(ho:okCell a=zt):v.oneC=zt:=by
 cases h<;>first|rfl|assumption|(exact absurd ho (by decide))|(exact absurd ho (by simp[okCell]))
theorem RepL.one{W:World}{cx:Cx}{vs:List Value}{cs:List AV}(h:RepL W cx vs cs)(ho:∀c∈cs,okCell c=zt):Vj vs:=by
 intro v A;obtain⟨i,hi⟩:=List.getElem?_of_mem A;have hl:i<cs.length:=by
  rw[<-h.1];grind
 exact(h.2 i v _ hi (zqt hl)).oneC (ho _ (List.getElem_mem hl))
def SK(es:List (AV×AV)):Prop:=∀q∈es,∀A∈es,HU q.1 A.1≠zn
def N8(W:World)(cx:Cx)(p:Nat×Nat×Nat):AObj->Prop
 | .row es sz=>p.2.2=sz/\∃(c:Array Value)(t:TypeId)(g:Nat->Nat->Value),W.heap[p.1]?=zs (.cells c t (0,0))/\p.2.1+es.length*sz<=c.size/\
  (∀(i:Nat) e,es[i]?=zs e->e.cells.length=sz)/\
  (∀(i:Nat) e (j:Nat) C,es[i]?=zs e->e.cells[j]?=zs C->c[p.2.1+i*sz+j]?=zs (g i j)/\(g i j).oneC=zt/\Rep W cx (g i j) C)
 | .mapo es=>∃(A:Array MapEntry)(B:Nat)(l:List MapEntry),W.heap[p.1]?=zs (.map A B)/\l.Perm A.toList/\l.length=es.length/\
  (∀(i:Nat) e q,l[i]?=zs e->es[i]?=zs q->Rep W cx e.key q.1/\Rep W cx e.val q.2)/\MapKept.Stamped A B/\SK es
structure GlOk(E:Env)(W:World)(cx:Cx):Prop where
 rep:∀g v,E.gl g=zs v->Rep W cx (.pointer (zs ⟨g,0,zn⟩)) (.fptr v 0)
 int:∀g,E.mx=zs g->(∃m,W.cell? ⟨g,0,zn⟩=zs (.int .i64 m))/\¬cx.own g/\g<W.heap.size
theorem GlOk.mono0{E:Env}{W W':World}{cx cx':Cx}(h:GlOk E W cx)(A:Ext0 W cx W' cx'):GlOk E W' cx':=
 ⟨fun g v hg=>(h.rep g v hg).mono0 A,fun g hg=>by
   obtain⟨⟨m,h1⟩,h2,B⟩:=h.int g hg;exact⟨⟨m,by rw[Ds (A.keep g B h2)];exact h1⟩,fun C=>h2 (A.own g B C),zqc B A.sz⟩⟩
theorem GlOk.mono{E:Env}{W W':World}{cx cx':Cx}(h:GlOk E W cx)(A:Ext W cx W' cx'):GlOk E W' cx':=h.mono0 A.toExt0
structure Sat(E:Env)(W:World)(cx:Cx)(h:Heap):Prop where
 nx:h.next=cx.nx
 objs:∀id o,h.get id=zs o->id<cx.nx/\cx.own (cx.μ id).1/\(cx.μ id).1<W.heap.size/\N8 W cx (cx.μ id) o
 inj:∀id id' o o',h.get id=zs o->h.get id'=zs o'->(cx.μ id).1=(cx.μ id').1->id=id'
 gl:GlOk E W cx
 held:∀b,cx.held b->b<W.heap.size/\cx.own b
 free:∀id o,h.get id=zs o->¬cx.held (cx.μ id).1
structure FrRep(W:World)(cx:Cx)(tmps:Array Value)(fr:Tr):Prop where
 rep:∀i,Rep W cx (tmps.getD i undef) (fr.get i)
 has:∀i,fr.has i=zt->i<tmps.size
theorem FrRep.mono{W W':World}{cx cx':Cx}(A:Ext W cx W' cx'){tmps:Array Value}{fr:Tr}(h:FrRep W cx tmps fr):FrRep W' cx' tmps fr:=
 ⟨fun i=>(h.rep i).mono A,h.has⟩
theorem FrRep.mono0{W W':World}{cx cx':Cx}(A:Ext0 W cx W' cx'){tmps:Array Value}{fr:Tr}(h:FrRep W cx tmps fr):FrRep W' cx' tmps fr:=
 ⟨fun i=>(h.rep i).mono0 A,h.has⟩
theorem FrRep.put{W:World}{cx:Cx}{a:Act}{fr:Tr}(h:FrRep W cx a.tmps fr)(d:Option Tmp){v:Value}{x:AV}(hv:Rep W cx v x):FrRep W cx (a.put d v).tmps (setDst d x fr):=by
 cases d with
 |none=>exact h
 |some d=>
  refine⟨fun i=>?_,fun i hi=>?_⟩
  . show Rep W cx ((a.tmps.setIfInBounds d v).getD i undef) ((fr.set d x).get i)
    by_cases hid:d=i
    . subst hid
      rw[Tr.get_set_eq];split
      . rename_i hh
        have hlt:=h.has _ hh;simp_all
      . exact .und _
    . rw[Tr.get_set_ne _ _ _ _ hid]
      have:=h.rep i
      simp_all
  . have A:(fr.set d x).has i=zt:=hi
    rw[Tr.has_set]at A;show i<(a.tmps.setIfInBounds d v).size
    simpa using h.has i A
namespace Heap
theorem beq_false{a b:Nat}(h:a≠b):Nat.beq a b=zf:=by
 grind[zqj]
theorem beq_refl(a:Nat):Nat.beq a a=zt:=by simp
theorem _root_.Go.AM.HT.get_node(l:HT)(v:Option AObj)(r:HT)(k:Nat):(HT.node l v r).get (k+1)=bif Nat.beq (zqa k 1) 0 then l.get (zqb k 1)else r.get (zqb k 1):=by
 show Nat.rec (motive:=fun _=>Option AObj) (l.get (zqb k 1)) (fun _ _=>r.get (zqb k 1)) (zqa k 1)=_
 generalize zqa k 1=m;cases m<;>rfl
theorem _root_.Go.AM.HT.path_succ(x:Option AObj)(f k:Nat):HT.path x (f+1) (k+1)=bif Nat.beq (zqa k 1) 0 then .node (HT.path x f (zqb k 1)) zn .nil else .node .nil zn (HT.path x f (zqb k 1)):=by
 show Nat.rec (motive:=fun _=>HT) (.node (HT.path x f (zqb k 1)) zn .nil) (fun _ _=>.node .nil zn (HT.path x f (zqb k 1))) (zqa k 1)=_
 generalize zqa k 1=m;cases m<;>rfl
theorem _root_.Go.AM.HT.put_succ(x:Option AObj)(f:Nat)(l:HT)(v:Option AObj)(r:HT)(k:Nat):(HT.node l v r).put x f (k+1)=bif Nat.beq (zqa k 1) 0 then .node (l.put x f (zqb k 1)) v r else .node l v (r.put x f (zqb k 1)):=by
 show Nat.rec (motive:=fun _=>HT) (.node (l.put x f (zqb k 1)) v r) (fun _ _=>.node l v (r.put x f (zqb k 1))) (zqa k 1)=_
 generalize zqa k 1=m;cases m<;>rfl
theorem _root_.Go.AM.HT.get_path(x:Option AObj):∀(f i j:Nat),i<f->(HT.path x f i).get j=if i=j then x else zn
 |0,i,j,h=>absurd h (Nat.not_lt_zero _)
 |f+1,0,0,_=>rfl
 |f+1,0,j+1,_=>by
  show(HT.node .nil x .nil).get (j+1)=_
  rw[HT.get_node,if_neg (by omega)];cases Nat.beq (zqa j 1) 0<;>rfl
 |f + 1,k+1,j,h=>by
  have e1:zqb k 1=k/2:=zqg k 1;have B:zqb k 1<f:=by grind
  rw[HT.path_succ];cases j with
  |zero=>
   rw[if_neg (by omega)];cases Nat.beq (zqa k 1) 0<;>rfl
  |succ j=>
   cases hb:Nat.beq (zqa k 1) 0<;>cases A:Nat.beq (zqa j 1) 0<;>simp only[cond_true,cond_false]<;>rw[HT.get_node,A]<;>simp only[cond_true,cond_false]
   . rw[HT.get_path x f _ _ B]
     by_cases C:k=j
     . grind
     . rw[if_neg (by grind[Go.AM.Tr.half_inj]),if_neg (by omega)]
   . rw [if_neg (fun e=>by
      have:k=j:=by omega
      subst this;rw[hb]at A;cases A)]
     rfl
   . rw [if_neg (fun e=>by
      have:k=j:=by omega
      subst this;rw[hb]at A;cases A)]
     rfl
   . rw[HT.get_path x f _ _ B]
     by_cases C:k=j
     . grind
     . rw[if_neg (by grind[Go.AM.Tr.half_inj]),if_neg (by omega)]
theorem _root_.Go.AM.HT.get_put(x:Option AObj)(f:Nat):∀(t:HT)(i j:Nat),i<f->(t.put x f i).get j=if i=j then x else t.get j
 |.nil,i,j,h=>HT.get_path x f i j h
 |.node l v r,0,0,_=>rfl
 |.node l v r,0,j+1,_=>by
  show(HT.node l x r).get (j+1)=_
  simp_all[HT.get_node]
 |.node l v r,k+1,j,h=>by
  have e1:zqb k 1=k/2:=zqg k 1;have A:zqb k 1<f:=by grind
  rw[HT.put_succ];cases j with
  |zero=>
   rw[if_neg (by omega)];cases Nat.beq (zqa k 1) 0<;>rfl
  |succ j=>
   rw[HT.get_node l v r];by_cases B:k=j
   . subst B
     rw[if_pos rfl];cases hb:Nat.beq (zqa k 1) 0<;>simp only[cond_true,cond_false]<;>rw[HT.get_node,hb]<;>simp only[cond_true,cond_false]
     . rw[HT.get_put x f r _ _ A,if_pos rfl]
     . rw[HT.get_put x f l _ _ A,if_pos rfl]
   . rw[if_neg (by omega)]
     cases hb:Nat.beq (zqa k 1) 0<;>cases C:Nat.beq (zqa j 1) 0<;>simp only[cond_true,cond_false]<;>rw[HT.get_node,C]<;>simp only[cond_true,cond_false]
     . rw[HT.get_put x f r _ _ A,if_neg (by grind[Go.AM.Tr.half_inj])]
     . rw[HT.get_put x f l _ _ A,if_neg (by grind[Go.AM.Tr.half_inj])]
theorem _root_.Go.AM.HT.get_trunc:∀(o n:HT)(i:Nat),(o.trunc n).get i=n.get i\/((o.trunc n).get i=zn/\o.get i=zn)
 |.nil,n,i=>.inr ⟨rfl,rfl⟩
 |.node l v r,n,0=>.inl (by cases n<;>rfl)
 |.node l v r,n,k+1=>by
  show(HT.node (l.trunc n.left) n.mid (r.trunc n.right)).get (k+1)=_\/((HT.node (l.trunc n.left) n.mid (r.trunc n.right)).get (k+1)=_/\_)
  have e:n.get (k+1)=bif Nat.beq (zqa k 1) 0 then n.left.get (zqb k 1)else n.right.get (zqb k 1):=by
   cases n with
   |nil=>cases Nat.beq (zqa k 1) 0<;>rfl
   |node a b c=>exact HT.get_node a b c k
  rw[HT.get_node,HT.get_node,e];cases Nat.beq (zqa k 1) 0
  . exact HT.get_trunc r n.right _
  . exact HT.get_trunc l n.left _
theorem get_set_ne(h:Heap){i j:Nat}(x:AObj)(hn:i≠j):(h.set i x).get j=h.get j:=(HT.get_put _ _ _ _ _ (zqd i)).trans (if_neg hn)
theorem get_set_eq(h:Heap){i:Nat}(x:AObj){o:AObj}(ho:h.get i=zs o):(h.set i x).get i=zs x:=(HT.get_put _ _ _ _ _ (zqd i)).trans (if_pos rfl)
theorem get_del_ne(h:Heap){i j:Nat}(hn:i≠j):(h.del i).get j=h.get j:=(HT.get_put _ _ _ _ _ (zqd i)).trans (if_neg hn)
theorem get_del_eq(h:Heap)(i:Nat):(h.del i).get i=zn:=(HT.get_put _ _ _ _ _ (zqd i)).trans (if_pos rfl)
theorem get_push_eq(h:Heap)(x:AObj):(h.push x).get h.next=zs x:=(HT.get_put _ _ _ _ _ (zqd h.next)).trans (if_pos rfl)
theorem get_push_ne(h:Heap)(x:AObj){j:Nat}(hn:j≠h.next):(h.push x).get j=h.get j:=(HT.get_put _ _ _ _ _ (zqd h.next)).trans (if_neg fun e=>hn e.symm)
theorem onRow_some{β:Type}{h:Heap}{i:Nat}{f:List AV->Nat->Option β}{x:β}(A:h.onRow i zn f=zs x):∃es sz,h.get i=zs (.row es sz)/\f es sz=zs x:=by
 unfold onRow at A;grind
theorem onMapo_some{β:Type}{h:Heap}{i:Nat}{f:List (AV×AV)->Option β}{x:β}(A:h.onMapo i zn f=zs x):∃es,h.get i=zs (.mapo es)/\f es=zs x:=by
 unfold onMapo at A;grind
end Heap
end Go.AM
/-
 The abstract machine: steps of worlds: a new object,a turned one,one that is let go.
-/
namespace Go.AM
theorem Q0{W:World}{b:Nat}{o:Obj}(h:W.heap[b]?=zs o):b<W.heap.size:=by
 grind
theorem N8.mono0{W W':World}{cx cx':Cx}(C:Ext0 W cx W' cx'){p:Nat×Nat×Nat}{o:AObj}(hb:W'.heap[p.1]?=W.heap[p.1]?)(h:N8 W cx p o):N8 W' cx' p o:=by
 cases o with
 |row es sz=>
  obtain⟨h1,c,t,g,h2,D,G,H⟩:=h;exact⟨h1,c,t,g,by grind,D,G,fun i e j I a b=>let⟨x,y,z⟩:=H i e j I a b;⟨x,y,z.mono0 C⟩⟩
 |mapo es=>
  obtain⟨B,A,l,h1,J,h2,D,G,H⟩:=h;exact⟨B,A,l,by grind,J,h2,fun i e q a b=>let⟨x,y⟩:=D i e q a b;⟨x.mono0 C,y.mono0 C⟩,G,H⟩
theorem N8.mono{W W':World}{cx cx':Cx}(A:Ext W cx W' cx'){p:Nat×Nat×Nat}{o:AObj}(hb:W'.heap[p.1]?=W.heap[p.1]?)(h:N8 W cx p o):N8 W' cx' p o:=h.mono0 A.toExt0 hb
def Cx.push(cx:Cx)(b sz:Nat):Cx:=⟨fun i=>if i=cx.nx then(b,0,sz)else cx.μ i,cx.nx+1,fun x=>cx.own x\/x=b,cx.held⟩
theorem Cx.push_new(cx:Cx)(b sz:Nat):(cx.push b sz).μ cx.nx=(b,0,sz):=by simp[Cx.push]
theorem Cx.push_old(cx:Cx)(b sz:Nat){i:Nat}(h:i<cx.nx):(cx.push b sz).μ i=cx.μ i:=by
 grind[Cx.push]
theorem heap_alloc_old(W:World)(o:Obj){b:Nat}(h:b<W.heap.size):(W.alloc o).heap[b]?=W.heap[b]?:=by
 show(W.heap.push o)[b]?=_
 grind
theorem J6(W:World)(o:Obj):(W.alloc o).heap[W.heap.size]?=zs o:=by
 show(W.heap.push o)[W.heap.size]?=_
 simp
theorem Ext.alloc(W:World)(cx:Cx)(o:Obj)(sz:Nat):Ext W cx (W.alloc o) (cx.push W.heap.size sz) where
 nx:=Nat.le_succ _
 mu id h:=cx.push_old _ _ h
 sz:=by simp
 keep b hb _:=heap_alloc_old W o hb
 shape b hb:=by grind[szOf,heap_alloc_old]
 own b hb h:=by rcases h with h|h;exact h;omega
 hold b hb h:=⟨h,heap_alloc_old W o hb⟩
 out:=⟨rfl,rfl,rfl⟩
theorem Sat.push{E:Env}{W:World}{cx:Cx}{h:Heap}(A:Sat E W cx h)(o:Obj)(x:AObj)(sz:Nat)
 (hx:N8 (W.alloc o) (cx.push W.heap.size sz) (W.heap.size,0,sz) x):Sat E (W.alloc o) (cx.push W.heap.size sz) (h.push x) where
 nx:=by show h.next+1=cx.nx+1;rw[A.nx]
 objs id y hy:=by
  have G:=Ext.alloc W cx o sz;by_cases hid:id=h.next
  . subst hid
    rw[Heap.get_push_eq]at hy;cases hy;rw[A.nx,Cx.push_new];exact⟨zqd _,Or.inr rfl,by simp,hx⟩
  . rw[Heap.get_push_ne _ _ hid]at hy
    obtain⟨h1,h2,D,H⟩:=A.objs id y hy;rw[Cx.push_old _ _ _ h1];exact⟨zqm h1,Or.inl h2,by simp;omega,H.mono G (heap_alloc_old W o D)⟩
 inj id id' y y' hy hy' heq:=by
  by_cases hid:id=h.next<;>by_cases B:id'=h.next
  . grind
  . rw[Heap.get_push_ne _ _ B]at hy'
    obtain⟨h1,_,D,_⟩:=A.objs id' y' hy';rw[hid,A.nx,Cx.push_new,Cx.push_old _ _ _ h1]at heq;grind
  . rw[Heap.get_push_ne _ _ hid]at hy
    obtain⟨h1,_,D,_⟩:=A.objs id y hy;rw[B,A.nx,Cx.push_new,Cx.push_old _ _ _ h1]at heq;grind
  . rw[Heap.get_push_ne _ _ hid]at hy
    rw[Heap.get_push_ne _ _ B]at hy';have h1:=(A.objs id y hy).1;have C:=(A.objs id' y' hy').1;rw[Cx.push_old _ _ _ h1,Cx.push_old _ _ _ C]at heq;exact A.inj id id' y y' hy hy' heq
 gl:=A.gl.mono (Ext.alloc W cx o sz)
 held b hb:=⟨zqc (A.held b hb).1 (Ext.alloc W cx o sz).sz,Or.inl (A.held b hb).2⟩
 free id y hy:=by
  by_cases hid:id=h.next
  . subst hid
    rw[A.nx,Cx.push_new];exact fun hh=>Nat.lt_irrefl _ (A.held _ hh).1
  . rw[Heap.get_push_ne _ _ hid]at hy
    rw[Cx.push_old _ _ _ (A.objs id y hy).1];exact A.free id y hy
def setBlock(W:World)(b:Nat)(o:Obj):World:={W with heap:=W.heap.setIfInBounds b o}
theorem Ib(W:World)(b:Nat)(o:Obj):(setBlock W b o).heap.size=W.heap.size:=by simp[setBlock]
theorem setBlock_ne(W:World){b A:Nat}(o:Obj)(h:b≠A):(setBlock W b o).heap[A]?=W.heap[A]?:=by
 grind[setBlock]
theorem o7(W:World){b:Nat}(o:Obj)(h:b<W.heap.size):(setBlock W b o).heap[b]?=zs o:=by
 simp[setBlock,h]
theorem Rm(W:World)(b:Nat)(o o':Obj):setBlock (setBlock W b o) b o'=setBlock W b o':=by
 simp[setBlock]
theorem Ext.set{W:World}{cx:Cx}{b:Nat}(o:Obj)(ho:cx.own b)(hh:¬cx.held b)(hs:∀c t f,W.heap[b]?=zs (.cells c t f)->∃A t' f',o=.cells A t' f'/\A.size=c.size)
 (hs':(∀c t f,W.heap[b]?≠zs (.cells c t f))->(∀c t f,o≠.cells c t f)):Ext W cx (setBlock W b o) cx where
 nx:=zqf _
 mu _ _:=rfl
 sz:=by simp_all[Ib]
 keep b' _ hno:=setBlock_ne W o fun e=>hno (e▸ho)
 shape b' hb':=by
  by_cases e:b=b'
  . subst e
    unfold szOf;rw[o7 W o hb'];grind
  grind[szOf,setBlock_ne]
 own _ _ h:=h
 hold b' _ h:=(by grind[Go.AM.setBlock_ne])
 out:=⟨rfl,rfl,rfl⟩
theorem Sat.set{E:Env}{W W':World}{cx:Cx}{h:Heap}(B:Sat E W cx h)(C:Ext W cx W' cx){id:Nat}{A:AObj}(hg:h.get id=zs A)(x:AObj)
 (hk:∀b,b≠(cx.μ id).1->W'.heap[b]?=W.heap[b]?)(hx:N8 W' cx (cx.μ id) x):Sat E W' cx (h.set id x) where
 nx:=B.nx
 objs i y hy:=by
  by_cases hid:i=id
  . subst hid
    rw[Heap.get_set_eq _ _ hg]at hy;cases hy;obtain⟨h1,h2,G,_⟩:=B.objs i A hg;exact⟨h1,h2,zqc G C.sz,hx⟩
  . rw[Heap.get_set_ne _ _ (fun e=>hid e.symm)]at hy
    obtain⟨h1,h2,G,I⟩:=B.objs i y hy;exact⟨h1,h2,zqc G C.sz,I.mono C (hk _ fun e=>hid (B.inj i id y A hy hg e))⟩
 inj i j y y' hy hy' heq:=by
  have ex:∀k z,(h.set id x).get k=zs z->∃D,h.get k=zs D:=by
   grind[Heap.get_set_ne]
  obtain⟨z,hz⟩:=ex i y hy;obtain⟨D,H⟩:=ex j y' hy';exact B.inj i j z D hz H heq
 gl:=B.gl.mono C
 held b hb:=⟨zqc (B.held b hb).1 C.sz,(B.held b hb).2⟩
 free i y hy:=by
  by_cases hid:i=id
  . subst hid;exact B.free i A hg
  . rw[Heap.get_set_ne _ _ (fun e=>hid e.symm)]at hy;exact B.free i y hy
theorem Ext0.of_heap{W W':World}{cx:Cx}(hh:W'.heap=W.heap):Ext0 W cx W' cx:=
 ⟨zqf _,fun _ _=>rfl,by grind,fun _ _ _=>by rw[hh],fun _ _=>by grind[szOf],fun _ _ h=>h⟩
theorem Sat.mono{E:Env}{W W':World}{cx:Cx}{h:Heap}(A:Sat E W cx h)(hh:W'.heap=W.heap):Sat E W' cx h:=by
 have B:Ext0 W cx W' cx:=Ext0.of_heap hh;exact⟨A.nx,fun id o ho=>let⟨a,b,c,d⟩:=A.objs id o ho;⟨a,b,by grind,d.mono0 B (by rw[hh])⟩,A.inj,A.gl.mono0 B,fun b hb=>by rw[hh];exact A.held b hb,A.free⟩
theorem Ext.of_heap{W W':World}{cx:Cx}(hh:W'.heap=W.heap)(ho:W'.os=W.os/\W'.tape=W.tape/\W'.output=W.output):Ext W cx W' cx:=
 ⟨Ext0.of_heap hh,fun _ _ h=>⟨h,by rw[hh]⟩,ho⟩
theorem Sat.low{E:Env}{W:World}{cx:Cx}{h:Heap}(A:Sat E W cx h)(l:List Nat):Sat E W cx {h with tch:=l}:=⟨A.nx,A.objs,A.inj,A.gl,A.held,A.free⟩
theorem Sat.del{E:Env}{W:World}{cx:Cx}{h:Heap}(A:Sat E W cx h)(id:Nat):Sat E W cx (h.del id) where
 nx:=A.nx
 objs i y hy:=by
  by_cases hid:i=id
  . grind[Heap.get_del_eq]
  . rw[Heap.get_del_ne _ (fun e=>hid e.symm)]at hy;exact A.objs i y hy
 inj i j y y' hy hy' heq:=by
  by_cases hi:i=id
  . grind[Heap.get_del_eq]
  . by_cases B:j=id
    . grind[Heap.get_del_eq]
    . rw[Heap.get_del_ne _ (fun e=>hi e.symm)]at hy
      rw[Heap.get_del_ne _ (fun e=>B e.symm)]at hy';exact A.inj i j y y' hy hy' heq
 gl:=A.gl
 held:=A.held
 free i y hy:=by
  by_cases hid:i=id
  . grind[Heap.get_del_eq]
  . rw[Heap.get_del_ne _ (fun e=>hid e.symm)]at hy;exact A.free i y hy
def Cx.move(cx:Cx)(b o sz:Nat):Cx:=⟨fun i=>if i=cx.nx then(b,o,sz)else cx.μ i,cx.nx+1,cx.own,cx.held⟩
theorem Cx.move_new(cx:Cx)(b o sz:Nat):(cx.move b o sz).μ cx.nx=(b,o,sz):=by simp[Cx.move]
theorem Cx.move_old(cx:Cx)(b o sz:Nat){i:Nat}(h:i<cx.nx):(cx.move b o sz).μ i=cx.μ i:=by
 grind[Cx.move]
theorem Ext.move{W W':World}{cx:Cx}(A:Ext W cx W' cx)(b o sz:Nat):Ext W cx W' (cx.move b o sz) where
 nx:=Nat.le_succ _
 mu _ h:=cx.move_old _ _ _ h
 sz:=A.sz
 keep:=A.keep
 shape:=A.shape
 own:=A.own
 hold:=A.hold
 out:=A.out
theorem Sat.move{E:Env}{W W':World}{cx:Cx}{h:Heap}(A:Sat E W cx h)(C:Ext W cx W' cx){id:Nat}{B:AObj}(hg:h.get id=zs B)(x:AObj)(o sz:Nat)
 (H:∀b,b≠(cx.μ id).1->W'.heap[b]?=W.heap[b]?)(hx:N8 W' (cx.move (cx.μ id).1 o sz) ((cx.μ id).1,o,sz) x):
 Sat E W' (cx.move (cx.μ id).1 o sz) ((h.del id).push x) where
 nx:=by show h.next+1=cx.nx+1;rw[A.nx]
 objs i y hy:=by
  by_cases hi:i=h.next
  . subst hi
    have:((h.del id).push x).get (h.del id).next=zs x:=Heap.get_push_eq _ _
    rw[show(h.del id).next=h.next from rfl]at this;rw[this]at hy;cases hy;obtain⟨h1,h2,I,_⟩:=A.objs id B hg;rw[A.nx,Cx.move_new];exact⟨zqd _,h2,zqc I C.sz,hx⟩
  . rw [Heap.get_push_ne (h.del id) x hi]at hy
    by_cases hid:i=id
    . grind[Heap.get_del_eq]
    . rw[Heap.get_del_ne _ (fun e=>hid e.symm)]at hy
      obtain⟨h1,h2,I,J⟩:=A.objs i y hy;rw[Cx.move_old _ _ _ _ h1];exact⟨zqm h1,h2,zqc I C.sz,J.mono (C.move _ _ _) (H _ fun e=>hid (A.inj i id y B hy hg e))⟩
 inj i j y y' hy hy' heq:=by
  have old:∀k z,k≠h.next->((h.del id).push x).get k=zs z->h.get k=zs z/\k≠id:=by
   intro k z H hz;rw[Heap.get_push_ne (h.del id) x H]at hz;grind[Heap.get_del_eq,Heap.get_del_ne]
  by_cases hi:i=h.next<;>by_cases G:j=h.next
  . rw[hi,G]
  . obtain⟨h1,h2⟩:=old j y' G hy'
    rw[hi,A.nx,Cx.move_new,Cx.move_old _ _ _ _ (A.objs j y' h1).1]at heq;exact absurd (A.inj id j B y' hg h1 heq).symm h2
  . obtain⟨h1,h2⟩:=old i y hi hy
    rw[G,A.nx,Cx.move_new,Cx.move_old _ _ _ _ (A.objs i y h1).1]at heq;exact absurd (A.inj id i B y hg h1 heq.symm).symm h2
  . obtain⟨h1,_⟩:=old i y hi hy
    obtain⟨D,_⟩:=old j y' G hy';rw[Cx.move_old _ _ _ _ (A.objs i y h1).1,Cx.move_old _ _ _ _ (A.objs j y' D).1]at heq;exact A.inj i j y y' h1 D heq
 gl:=A.gl.mono (C.move _ _ _)
 held b hb:=⟨zqc (A.held b hb).1 C.sz,(A.held b hb).2⟩
 free i y hy:=by
  by_cases hi:i=h.next
  . subst hi;rw[A.nx,Cx.move_new];exact A.free id B hg
  . rw [Heap.get_push_ne (h.del id) x hi]at hy
    by_cases hid:i=id
    . grind[Heap.get_del_eq]
    . rw[Heap.get_del_ne _ (fun e=>hid e.symm)]at hy
      rw[Cx.move_old _ _ _ _ (A.objs i y hy).1];exact A.free i y hy
theorem add_addr(b o i:Nat):(⟨b,o,zn⟩:Addr).add i=⟨b,o+i,zn⟩:=by
 grind[Addr.add]
theorem Nd{W:World}{b o:Nat}{c:Array Value}{t:TypeId}{f:Nat×Nat}(h:W.heap[b]?=zs (.cells c t f)):W.cell? ⟨b,o,zn⟩=c[o]?:=by
 grind[World.cell?]
theorem dD{W:World}{b o:Nat}{c:Array Value}{t:TypeId}(h:W.heap[b]?=zs (.cells c t (0,0))):W.frozen? ⟨b,o,zn⟩=zf:=by
 grind[World.frozen?]
def putC(c:Array Value)(o:Nat):List Value->Array Value
 |[]=>c
 |v::r=>putC (c.setIfInBounds o v) (o+1) r
theorem Y9:∀(vs:List Value)(c:Array Value)(o:Nat),(putC c o vs).size=c.size
 |[],_,_=>rfl
 |v::r,c,o=>by rw[putC,Y9 r];simp
theorem Ks:∀(vs:List Value)(c:Array Value)(o k:Nat),k<o\/o+vs.length<=k->(putC c o vs)[k]?=c[k]?
 |[],_,_,_,_=>rfl
 |v::r,c,o,k,h=>by
  rw[putC,Ks r _ (o+1) k (by simp at h;omega),Array.getElem?_setIfInBounds_ne (by simp at h;omega)]
theorem lK:∀(vs:List Value)(c:Array Value)(o k:Nat),o+vs.length<=c.size->k<vs.length->(putC c o vs)[o+k]?=vs[k]?
 |[],_,_,_,_,h=>by simp at h
 |v::r,c,o,0,hs,_=>by
  grind[putC,Ks]
 |v::r,c,o,k+1,hs,hk=>by
  rw[putC,show o+(k+1)=(o+1)+k by omega,lK r _ (o+1) k (by grind) (by grind)];simp
theorem xF(v:Value):v.oneCell'=v.oneC:=by cases v<;>rfl
theorem Vk{W:World}{b o:Nat}{c:Array Value}{t:TypeId}{f:Nat×Nat}(h:W.heap[b]?=zs (.cells c t f))(v:Value):
 W.setCell ⟨b,o,zn⟩ v=setBlock W b (.cells (c.setIfInBounds o v) t f):=by
 have hb:=Q0 h;have hg:W.heap[b]=.cells c t f:=by grind
 unfold World.setCell setBlock
 congr 1
 grind
theorem g8{P:Program}{b:Nat}{t:TypeId}:∀(vs:List Value)(o i:Nat)(c:Array Value)(W:World),W.heap[b]?=zs (.cells c t (0,0))->Vj vs->o+i+vs.length<=c.size ->
 (storeCells ⟨b,o,zn⟩ vs i).run P W=.ok () (setBlock W b (.cells (putC c (o+i) vs) t (0,0)))
 |[],o,i,c,W,h,_,_=>by
  have hb:=Q0 h;have hg:W.heap[b]=.cells c t (0,0):=by grind
  have:setBlock W b (.cells c t (0,0))=W:=by
   unfold setBlock
   have:W.heap.setIfInBounds b (.cells c t (0,0))=W.heap:=by
    grind
   rw[this]
  simp[storeCells,putC,this]
 |v::r,o,i,c,W,h,h1,h2=>by
  have hone:v.oneCell'=zt:=by rw[xF];exact h1 v (List.mem_cons_self ..)
  have h2:o+i+(r.length+1)<=c.size:=h2;have hc:W.cell? ⟨b,o+i,zn⟩=zs c[o+i]:=by rw[Nd h];grind
  have A:=run_store P W ⟨b,o+i,zn⟩ v .plain hone;rw[hc,dD h]at A;simp only[zqr,if_false]at A;have hb:=Q0 h;have C:=g8 (P:=P) r o (i+1) (c.setIfInBounds (o+i) v) (setBlock W b (.cells (c.setIfInBounds (o+i) v) t (0,0)))
   (o7 W _ hb) (fun u B=>h1 u (List.mem_cons_of_mem _ B)) (by simp;omega)
  rw[storeCells,Sem.run_bind,add_addr,A,Result.andThen_ok,Vk h,C,Rm];rfl
end Go.AM
/-
 The abstract machine: operations that only reckon are sound.
-/
namespace Go.AM
structure ZeroOk(z:Value)(a:AV):Prop where
 rep:∀W cx,Rep W cx z a
 one:Vj z.cells.toList
 und:a≠.und
def H3(P:Program)(t:Nat)(x:TI):Prop:=
 match x.desc with
 |.int k=>P.underlying t=zs (.int k)
 |.bool=>P.underlying t=zs .bool
 |.string=>P.underlying t=zs .string
 |.ptr e=>P.underlying t=zs (.pointer e)
 |.slice e=>P.underlying t=zs (.slice e)
 |.array n e=>P.underlying t=zs (.array n e)
 |.map k e=>P.underlying t=zs (.map k e)
 | .struct fs fl=>∃fields,P.underlying t=zs (.struct fields)/\fields.toList.map (fun f=>(f.type,f.offset))=fs/\(∀f∈fields.toList,∃i,P.info? f.type=zs i)/\
  (fl=zt->P.eqGuardType P.depth t=zf/\P.stoodInHeld t=zf/\x.zero.cells.length=fields.size/\
    ∀ (i : Nat) f, fields[i]? = zs f -> f.name ≠ "_" ∧ f.offset = i ∧ ∃ z, x.zero.cells[i]? = zs z ∧
      ((∃k n,z=.int k n/\P.underlying f.type=zs (.int k))\/(∃b,z=.bool b/\P.underlying f.type=zs .bool)\/(∃s,z=.str s/\P.underlying f.type=zs .string)))
 |.iface=>P.underlying t=zs (.interface #[])
 |.func=>∃d,P.underlying t=zs d/\(∀fs,d≠.struct fs)/\(∀n e,d≠.array n e)/\(∀k,d≠.int k)
 | .other=>∃d,P.underlying t=zs d/\(∀fs,d≠.struct fs)/\(∀n e,d≠.array n e)/\(∀k,d≠.int k)
structure TyOk(P:Program)(t:Nat)(x:TI):Prop where
 info:∃i z,P.info? t=zs i/\i.size=x.size/\i.bytes=x.bytes/\i.zero=zs z/\ZeroOk z x.zero
 zsz:x.zero.cells.length=x.size
 pos:0<x.size->0<x.bytes
 desc:H3 P t x
def Kt (P : Program) (f : Nat) : Prop := ∃ fn c, P.funcs[f]? = zs fn ∧ fn.body = zs c ∧ (fn.name == "runtime.NumGoroutine") = zf
def ID(k:Nat)(v:Value):Prop:=(k=0/\∃b,v=.bool b)\/(k=1/\∃n,v=.int .i64 n)\/(k=2/\∃s,v=.string s)
def sH:List Nat->List Value->Prop
 |[],vs=>vs=[]
 |k::ks,vs=>∃v r,vs=v::r/\ID k v/\sH ks r
def DB(ks:List Nat)(e:MapEntry):Prop:=(∃n,e.key=.int .i64 n/\(Lit.int .i64 n).wf=zt)/\∃vs,e.val=.agg vs/\sH ks vs.toList
def zZ(P:Program)(f:Nat)(ks:List Nat):Prop:=Kt P f/\
 ∀ (J:World->Prop) (H:MapEntry->Bool) (W:World) (b g:Nat) (I:Array Value) (A:Array MapEntry) (C:Nat),
   W.heap[b]?=zs (.map A C)->MapKept.Stamped A C->A.size<=maxLen->(∀e∈A.toList,DB ks e) ->
   (∀B D,J B->B.heap.size<=D.heap.size->(∀i,i≠b->i≠W.heap.size->i<B.heap.size->D.heap[i]?=B.heap[i]?)->(∀i,i<B.heap.size->szOf D i=szOf B i)->D.os=B.os->D.tape=B.tape->D.output=B.output->J D) ->
   (∀B e,e∈A.toList->J B->W.heap.size<B.heap.size->Kt P g/\Calls P g (#[e.key,e.val]++I) B fun x D=>x=.returned (.bool (H e))/\J D/\B.heap.size<=D.heap.size/\D.heap[b]?=B.heap[b]?/\D.heap[W.heap.size]?=B.heap[W.heap.size]?) ->
   J W->Calls P f #[.map (zs b),.func (.func g) #[] I] W fun x W'=>x=.returned (.tuple #[])/\J W'/\∃G,W'.heap[b]?=zs (.map G C)/\G.toList=A.toList.filter fun e=>!H e
def AA(P:Program)(f k:Nat):Prop:=Kt P f/\
 ∀ (W:World) (p o b:Nat) (A:Array MapEntry) (B:Nat) (ks:List Int),
   W.cell? ⟨p,o,zn⟩=zs (.map (zs b))->W.heap[b]?=zs (.map A B)->MapKept.Stamped A B->A.size<=1000000->A.toList.map (·.key)=ks.map (Value.int .i64)->(∀n∈ks,(Lit.int .i64 n).wf=zt) ->
   Calls P f #[.func (.func k) #[] #[.pointer (zs ⟨p,o,zn⟩)]] W fun x W'=>∃v,x=.returned v/\RowKit.Below W.heap.size W W'/\
    ((ks=[]/\v=.slice zn 0 0)\/ks≠[]/\∃D cap C t,v=.slice (zs ⟨D,0,zn⟩) ks.length cap/\W.heap.size<=D/\W'.heap[D]?=zs (.cells C t (0,0))/\ks.length<=cap/\cap<=C.size/\
      ∀(i:Nat) n,(ks.mergeSort fun x y=>decide (x<=y))[i]?=zs n->C[i]?=zs (.int .i64 n))
structure EnvOk(E:Env)(P:Program):Prop where
 ti:∀t x,E.ti t=zs x->TyOk P t x
 fn : ∀ f x, E.fn f = zs x -> ∃ fn c, P.funcs[f]? = zs fn ∧ fn.body = zs c ∧ (fn.name == "runtime.NumGoroutine") = zf ∧ x.code = xc c ∧ x.ntmps = fn.ntmps ∧ x.results = fn.results.toList ∧ x.mode = fmOf fn.results.toList c
 told : ∀ f, E.told f = zt -> ∃ g fn c, E.mx = zs g ∧ P.funcs[f]? = zs fn ∧ fn.body = zs c ∧ (fn.name == "runtime.NumGoroutine") = zf ∧
  ∀(s sub:ByteArray)(m:Int)(w:World),(s.size<4294967281\/sub.size=1)->w.cell? ⟨g,0,zn⟩=zs (.int .i64 m)->Calls P f #[.string s,.string sub] w fun e w'=>e=.returned (.bool (contS sub.data.toList s.data.toList))/\w'=w
 dlf:∀f ks,E.dlf f=zs ks->zZ P f ks
 srt:∀f k,E.srt f k=zt->AA P f k
 mixed:P.follows .mixedOrders=zt
section
variable {P:Program}{E:Env}{W:World}{cx:Cx}{h:Heap}
theorem A2{t:Nat}{d:TypeDesc}(A:P.underlying t=zs d):(underlying t).run P W=.ok d W:=by
 simp[underlying,A]
theorem TyOk.under{t:Nat}{x:TI}(h:TyOk P t x):∃d,P.underlying t=zs d:=by
 have:=h.desc
 grind[H3]
theorem TyOk.run_info{t:Nat}{x:TI}(h:TyOk P t x):∃i,(typeInfo t).run P W=.ok i W/\i.size=x.size/\i.bytes=x.bytes:=by
 obtain⟨i,z,h1,h2,h3,_⟩:=h.info;simp_all[typeInfo]
theorem TyOk.run_sizeOf{t:Nat}{x:TI}(h:TyOk P t x):(sizeOf t).run P W=.ok x.size W:=by
 obtain⟨i,h1,h2,_⟩:=h.run_info (W:=W);simp[sizeOf,h1,h2]
theorem TyOk.run_zero{t:Nat}{x:TI}(h:TyOk P t x):∃z,(zeroValue t).run P W=.ok z W/\ZeroOk z x.zero:=by
 obtain⟨i,z,h1,_,_,h4,h5⟩:=h.info;simp_all[zeroValue,typeInfo]
theorem TyOk.run_isAgg{t:Nat}{x:TI}(h:TyOk P t x):(isAgg t).run P W=.ok (r7 x.desc) W:=by
 have A:=h.desc;unfold H3 at A;split at A<;>rename_i B<;>rw[B]
 all_goals first
  |(simp[isAgg,underlying,A,r7];done)
  | (obtain⟨d,h1,h2⟩:=A
     first
      |simp_all[isAgg,underlying,r7]
      | (obtain⟨h2,h3,_⟩:=h2
         have:(underlying t).run P W=.ok d W:=A2 h1
         simp only[isAgg,Sem.run_bind,this,Result.andThen_ok,r7];simp_all))
theorem D7{α:Type}{t:Nat}{f:TI->Option α}{x:α}(A:onTI E t zn f=zs x):∃ti,E.ti t=zs ti/\f ti=zs x:=by
 unfold onTI at A;cases ht:E.ti t with
 |_=>simp_all
theorem E2{t:Nat}{f:TI->Res}{v:AV}{h':Heap}(A:onTI E t .bad f=.ok v h'):∃ti,E.ti t=zs ti/\f ti=.ok v h':=by
 unfold onTI at A;cases ht:E.ti t with
 |_=>simp_all
theorem Ku(v:Value):Rep W cx v (Ff v):=by
 cases v with
 |int k n=>exact .int k n
 |bool b=>exact .bool b
 |string s=>exact .str s
 | pointer a=>cases a with
  |none=>exact .nilptr
  |some a=>exact .any _ rfl
 |slice a n c=>
  cases a with
  |some a=>exact .any _ rfl
  |none=>
   cases n with
   |succ n=>exact .any _ rfl
   |zero=>
    cases c with
    |succ c=>exact .any _ rfl
    |zero=>exact .nilsl
 | map r=>cases r with
  |none=>exact .nilmap
  |some r=>exact .any _ rfl
 |nilFunc=>exact .nilfn
 |nilIface=>exact .niliface
 |agg cs=>exact .und _
 |tuple cs=>exact .und _
 |_=>exact .any _ rfl
theorem Ol(v:Value):Rep W cx v (ofValue v):=by
 cases v with
 |agg cs=>
  refine .agg cs _ (by simp) fun i v c h1 h2=>?_
  grind[Ku]
 |_=>exact Ku _
theorem X5(A:Sat E W cx h){a:Act}{fr:Tr}(hf:FrRep W cx a.tmps fr)(x:Operand):Rep W cx (a.eval x) (opv E x fr):=by
 cases x with
 |tmp t=>exact hf.rep t
 |const v=>exact Ol v
 |global g=>
  show Rep W cx _ (match E.gl g with|some v=>AV.fptr v 0|none=>.any)
  cases hg:E.gl g with
  |none=>exact .any _ rfl
  |some v=>exact A.gl.rep g v hg
 |func f=>exact .fn (.func f) #[] #[] [] [] rfl rfl (by simp) (by simp)
theorem By(A:Sat E W cx h){a:Act}{fr:Tr}(hf:FrRep W cx a.tmps fr):∀(l:List Operand),RepL W cx (l.map a.eval) (opvs E l fr)
 |[]=>.nil
 |x::r=>.cons (X5 A hf x) (By A hf r)
theorem Rep.int_inv{v:Value}{k:IntKind}{n:Int}(h:Rep W cx v (.int k n)):v=.int k n:=by cases h;rfl
theorem Rep.bool_inv{v:Value}{b:Bool}(h:Rep W cx v (.bool b)):v=.bool b:=by cases h;rfl
theorem Rep.str_inv{v:Value}{l:List UInt8}(h:Rep W cx v (.str l)):∃s,v=.string s/\s.data.toList=l:=by cases h;grind
theorem Rep.agg_inv{v:Value}{cs:List AV}(h:Rep W cx v (.agg cs)):∃vs,v=.agg vs/\RepL W cx vs.toList cs:=by
 cases h with
 |agg vs cs hl h=>exact⟨vs,rfl,by grind,(by grind)⟩
theorem Rep.tup_inv{v:Value}{cs:List AV}(h:Rep W cx v (.tup cs)):∃vs,v=.tuple vs/\RepL W cx vs.toList cs:=by
 cases h with
 |tup vs cs hl h=>exact⟨vs,rfl,by grind,(by grind)⟩
theorem Rep.agg_mk{vs:List Value}{cs:List AV}(h:RepL W cx vs cs):Rep W cx (.agg vs.toArray) (.agg cs):=
 .agg _ _ (by simpa using h.1) fun i v c h1 h2=>h.2 i v c (by grind) h2
theorem Rep.tup_mk{vs:List Value}{cs:List AV}(h:RepL W cx vs cs):Rep W cx (.tuple vs.toArray) (.tup cs):=
 .tup _ _ (by simpa using h.1) fun i v c h1 h2=>h.2 i v c (by grind) h2
theorem B4{α:Type}{v:AV}{f:IntKind->Int->Option α}{x:α}(h:v.onInt zn f=zs x):∃k n,v=.int k n/\f k n=zs x:=by
 cases v<;>first|exact⟨_,_,rfl,h⟩|cases h
theorem Be{α:Type}{v:AV}{f:Bool->Option α}{x:α}(h:v.onBool zn f=zs x):∃b,v=.bool b/\f b=zs x:=by
 cases v<;>first|exact⟨_,rfl,h⟩|cases h
theorem J7{α:Type}{v:AV}{f:List UInt8->Option α}{x:α}(h:v.onStr zn f=zs x):∃b,v=.str b/\f b=zs x:=by
 cases v<;>first|exact⟨_,rfl,h⟩|cases h
theorem Aa{α:Type}{v:AV}{f:List AV->Option α}{x:α}(h:v.onAgg zn f=zs x):∃b,v=.agg b/\f b=zs x:=by
 cases v<;>first|exact⟨_,rfl,h⟩|cases h
theorem sJ{v:AV}{f:List AV->Res}{x:AV}{h':Heap}(h:v.onTup .bad f=.ok x h'):∃b,v=.tup b/\f b=.ok x h':=by
 cases v<;>first|exact⟨_,rfl,h⟩|cases h
theorem oX{v:AV}{f:Bool->Res}{x:AV}{h':Heap}(h:v.onBool .bad f=.ok x h'):∃b,v=.bool b/\f b=.ok x h':=by
 cases v<;>first|exact⟨_,rfl,h⟩|cases h
theorem Bz{x y:AV}{f:IntKind->Int->Int->Option AV}{r:AV}(h:d8 x y f=zs r):∃k a b,x=.int k a/\y=.int k b/\f k a b=zs r:=by
 obtain⟨k,a,e1,h1⟩:=B4 h;grind[B4,Y2]
theorem Dt{k:IntKind}{n:Int}{r:AV}(h:z6 k n=zs r):r=.int k n:=by
 grind[z6,Mv]
theorem o8{k:IntKind}{n:Int}{r:AV}(h:O8 k n=zs r):r=.int k (k.wrap n):=by
 rw[Dt h,Rl]
theorem Bf{b:Bool}{r:AV}(h:E7 b=zs r):r=.bool b:=by cases b<;>(cases h;rfl)
theorem R7{v:AV}{n:Nat}(h:asNat v=zs n):∃k,v=.int k (n:Int):=by
 obtain⟨k,m,e,h⟩:=B4 h;subst e;cases m with
 |ofNat m=>grind
 |negSucc m=>cases h
theorem lL(n:Int)(k:IntKind):modN n (pow2 k)<pow2 k:=by
 have:=Kr n (pow2 k) (Bx k)
 have h2:=zqo n (show(0:Int)<(pow2 k:Int) by have:=Bx k;omega);omega
theorem iM(k:IntKind)(m:Nat)(h:m<pow2 k):Ax k m=k.wrap m:=by
 rw[<-Rl];unfold lD
 have:modN (m:Int) (pow2 k)=m:=Nat.mod_eq_of_lt h
 rw[this]
theorem sK(k:IntKind):pow2 k=2^k.bits:=by cases k<;>rfl
theorem L8{op:BinOp}{t:Nat}{A B:Operand}{k k':IntKind}{a b:Int}:(eqGuard op t A B (.int k a) (.int k' b)).run P W=.ok () W:=by
 simp_all[eqGuard]
theorem Fq{op:BinOp}{t:Nat}{A B:Operand}{a b:ByteArray}:(eqGuard op t A B (.string a) (.string b)).run P W=.ok () W:=by
 simp_all[eqGuard]
theorem Kv{op:BinOp}{t:Nat}{A B:Operand}{a b:Bool}:(eqGuard op t A B (.bool a) (.bool b)).run P W=.ok () W:=by
 simp_all[eqGuard]
def V4(P:Program)(W:World)(op:BinOp)(t:Nat)(A B:Operand)(x y v:Value):Prop:=
 (do eqGuard op t A B x y;binOp op t x y:Sem Value).run P W=.ok v W
theorem V4.mk{op:BinOp}{t:Nat}{A B:Operand}{x y v:Value}(h1:(eqGuard op t A B x y).run P W=.ok () W)(h2:(binOp op t x y).run P W=.ok v W):V4 P W op t A B x y v:=by
 simp_all[V4]
theorem Rn(s:ByteArray):s.toList=s.data.toList:=ByteArray.toList_eq s
theorem Fr{f:Nat}{d:TypeDesc}(A:P.underlying f=zs d)(hs:∀fs,d≠.struct fs)(ha:∀n e,d≠.array n e){cs:Array Value}{i:Nat}{v:Value}(B:cs[i]?=zs v):
 (part f cs i).run P W=.ok v W:=by
 have h1:(isAgg f).run P W=.ok zf W:=by
  have:(underlying f).run P W=.ok d W:=A2 A
  simp only[isAgg,Sem.run_bind,this,Result.andThen_ok];simp_all
 simp[part,h1,B]
theorem Ze{xs ys:Array Value}{z as bs:List AV}(d:Nat)(hx:RepL W cx xs.toList as)(hy:RepL W cx ys.toList bs)(hla:Ei z as=zt)(hlb:Ei z bs=zt):
 ∀ (fs:List Field) (k:Nat) (r:Bool),z.length=k+fs.length ->
   (∀ (i : Nat) f, fs[i]? = zs f -> f.name ≠ "_" ∧ f.offset = k + i ∧ ∃ y, z[k + i]? = zs y ∧
       ((∃k n,y=.int k n/\P.underlying f.type=zs (.int k))\/(∃b,y=.bool b/\P.underlying f.type=zs .bool)\/(∃s,y=.str s/\P.underlying f.type=zs .string))) ->
   PS (as.drop k) (bs.drop k)=zs r->(Op.eqFields (d+1) xs ys fs).run P W=.ok r W:=by
 have like:∀(z l:List AV),Ei z l=zt->l.length=z.length/\∀(i:Nat) y,z[i]?=zs y->∃c,l[i]?=zs c/\Wo y c=zt:=by
  intro z
  induction z with
  | nil=>intro l h;cases l with
   |nil=>grind
   |cons _ _=>cases h
  |cons y z ih=>
   intro l h;cases l with
   |nil=>cases h
   |cons c l=>
    have h:(bif Wo y c then Ei z l else zf)=zt:=h;grind
 obtain⟨la,ha⟩:=like z as hla;obtain⟨lb,hb⟩:=like z bs hlb;intro fs
 induction fs with
 |nil=>
  intro k r hk _ hr;rw[zqu (by simp at hk;omega),zqu (by simp at hk;omega)]at hr;cases hr;simp[Op.eqFields]
 |cons f fs ih=>
  intro k r hk hf hr;obtain⟨hn,ho,y,hy1,hy2⟩:=hf 0 f rfl;simp only[Nat.add_zero]at ho hy1;obtain⟨a,ea,ka⟩:=ha k y hy1;obtain⟨b,eb,kb⟩:=hb k y hy1;have e1:as.drop k=a::as.drop (k+1):=by
   have hl:k<as.length:=by
    rcases Nat.lt_or_ge k as.length with h'|h'
    . exact h'
    . rw[List.getElem?_eq_none h']at ea;cases ea
   rw[zqv hl];rw[zqt hl]at ea;cases ea;rfl
  have e2:bs.drop k=b::bs.drop (k+1):=by
   grind[zqv]
  rw[e1,e2]at hr;have hr:onOB (HV a b) zn (PS (as.drop (k+1)) (bs.drop (k+1))) (zs zf)=zs r:=hr;obtain⟨u,hu,ru⟩:=hx.get ea;obtain⟨v,hv,rv⟩:=hy.get eb;have hu':xs[k]?=zs u:=by grind
  have hv':ys[k]?=zs v:=by grind
  have heq:∃t,HV a b=zs t/\(part f.type xs f.offset).run P W=.ok u W/\(part f.type ys f.offset).run P W=.ok v W/\(Op.equalIn (d+1) f.type u v).run P W=.ok t W:=by
   rw[ho];rcases hy2 with⟨kk,n,rfl,hd⟩|⟨b0,rfl,hd⟩|⟨s0,rfl,hd⟩
   . have ka':a.onInt zf (fun k _=>kindEq kk k)=zt:=ka
     have kb':b.onInt zf (fun k _=>kindEq kk k)=zt:=kb;cases a<;>first|cases ka'|skip
     cases b<;>first|cases kb'|skip
     rename_i k1 n1 k2 n2;have q1:=(Y2 _ _).1 ka';have q2:=(Y2 _ _).1 kb';subst q1;subst q2;cases ru.int_inv;cases rv.int_inv;exact⟨_,by simp[HV,AV.onInt,(Y2 _ _).2 rfl,o6],Fr hd (by simp) (by simp) hu',Fr hd (by simp) (by simp) hv',run_equalIn_int W d f.type _ _ _ _ hd⟩
   . have ka':a.onBool zf (fun _=>zt)=zt:=ka
     have kb':b.onBool zf (fun _=>zt)=zt:=kb;cases a<;>first|cases ka'|skip
     cases b<;>first|cases kb'|skip
     cases ru.bool_inv;cases rv.bool_inv;exact⟨_,rfl,Fr hd (by simp) (by simp) hu',Fr hd (by simp) (by simp) hv',run_equalIn_bool' W d f.type _ _ hd⟩
   . have ka':a.onStr zf (fun _=>zt)=zt:=ka
     have kb':b.onStr zf (fun _=>zt)=zt:=kb;cases a<;>first|cases ka'|skip
     cases b<;>first|cases kb'|skip
     obtain⟨s1,rfl,q1⟩:=ru.str_inv;obtain⟨s2,rfl,q2⟩:=rv.str_inv;simp_all[HV,AV.onStr,Fp,Fr,run_equalIn_string,Rn]
  obtain⟨t,ht,p1,p2,p3⟩:=heq;rw[ht]at hr;simp only[Op.eqFields];rw[if_pos hn,Sem.run_bind,p1,Result.andThen_ok,Sem.run_bind,p2,Result.andThen_ok,Sem.run_bind,p3,Result.andThen_ok];cases t with
  |false=>cases hr;simp
  |true=>
   simp only[Bool.not_true,zqr,if_false];refine ih (k+1) r (by grind) (fun i f' hf'=>?_) hr
   have:=hf (i+1) f' (by grind)
   grind
theorem flatOf_cases(E:Env)(t:Nat):N6 E t=.none\/∃ti,E.ti t=zs ti/\N6 E t=cX ti:=by
 unfold N6 onTI;cases ht:E.ti t with
 |_=>grind
theorem Wq{v:Value}{a:AV}(h:Rep W cx v a){r:Bool}(hn:rT a=zs r):∃A n c,v=.slice A n c/\A.isNone=r:=by
 cases h with
 |nilsl=>cases hn;grind
 |msl A n cap id off sz hid hz hb hc ha hnn=>
  cases hn;refine⟨A,n,cap,rfl,?_⟩;cases A with
  |none=>grind
  |some x=>rfl
 |fsl A b o n cap es full sz g hn' hc hf ha hsz hcell hone hrep hnn=>
  cases es with
  |nil=>
   cases full with
   |true=>cases hn
   |false=>
    cases hn;refine⟨_,_,_,rfl,?_⟩;cases A with
    |none=>grind
    |some x=>rfl
  |cons e r'=>cases hn;grind
 |_=>cases hn
theorem Wr{v:Value}{a:AV}(h:Rep W cx v a){r:Bool}(hn:rU a=zs r):∃A,v=.pointer A/\A.isNone=r:=by
 cases h<;>first|(cases hn;exact⟨_,rfl,rfl⟩)|cases hn
theorem Ws{v:Value}{a:AV}(h:Rep W cx v a){r:Bool}(hn:rV a=zs r):∃A,v=.map A/\A.isNone=r:=by
 cases h<;>first|(cases hn;exact⟨_,rfl,rfl⟩)|cases hn
theorem nilI_real{v:Value}{a:AV}(h:Rep W cx v a){r:Bool}(hn:rW a=zs r):(v=.nilIface/\r=zt)\/∃t u,v=.iface t u/\r=zf:=by
 cases h<;>first|(cases hn;done)|(cases hn;grind)|(cases hn;grind)
theorem dE{k:EqK}{a b:AV}{r:Bool}(h:Fh k a b=zs r):∃p q,r8 k a=zs p/\r8 k b=zs q/\((q=zt/\r=p)\/(q=zf/\p=zt/\r=zf)):=by
 unfold Fh at h;cases hb:r8 k b with
 |none=>rw[hb]at h;cases h
 |some q=>
  rw[hb]at h;cases ha:r8 k a with
  |none=>rw[ha]at h;cases q<;>cases h
  |some p=>
   rw[ha]at h;cases q with
   |true=>cases h;grind
   |false=>
    cases p with
    |true=>cases h;grind
    |false=>cases h
theorem Zf{t:Nat}{e B c1 C c2:Nat}(dd:Nat){A a2:Option Addr}{r:Bool}(D:P.underlying t=zs (.slice e))(h:(a2.isNone=zt/\r=A.isNone)\/(a2.isNone=zf/\A.isNone=zt/\r=zf)):
 (Op.equalIn (dd+1) t (.slice A B c1) (.slice a2 C c2)).run P W=.ok r W:=by
 have G:∀W:World,(underlying t).run P W=.ok (.slice e) W:=fun W=>A2 D
 unfold Op.equalIn;simp only[Sem.run_bind,G,Result.andThen_ok];cases A<;>cases a2<;>rcases h with⟨h1,h2⟩|⟨h1,h2,H⟩<;>first|(subst h2;rfl)|(subst H;rfl)|grind|grind
theorem iN{t:Nat}{e:Nat}(dd:Nat){A a2:Option Addr}{r:Bool}(B:P.underlying t=zs (.pointer e))(h:(a2.isNone=zt/\r=A.isNone)\/(a2.isNone=zf/\A.isNone=zt/\r=zf)):
 (Op.equalIn (dd+1) t (.pointer A) (.pointer a2)).run P W=.ok r W:=by
 have C:∀W:World,(underlying t).run P W=.ok (.pointer e) W:=fun W=>A2 B
 unfold Op.equalIn;simp only[Sem.run_bind,C,Result.andThen_ok];cases A<;>cases a2<;>rcases h with⟨h1,h2⟩|⟨h1,h2,D⟩<;>first|(subst h2;rfl)|(subst D;rfl)|grind|grind
theorem iO{t:Nat}{k e:Nat}(dd:Nat){A a2:Option Nat}{r:Bool}(B:P.underlying t=zs (.map k e))(h:(a2.isNone=zt/\r=A.isNone)\/(a2.isNone=zf/\A.isNone=zt/\r=zf)):
 (Op.equalIn (dd+1) t (.map A) (.map a2)).run P W=.ok r W:=by
 have C:∀W:World,(underlying t).run P W=.ok (.map k e) W:=fun W=>A2 B
 unfold Op.equalIn;simp only[Sem.run_bind,C,Result.andThen_ok];cases A<;>cases a2<;>rcases h with⟨h1,h2⟩|⟨h1,h2,D⟩<;>first|(subst h2;rfl)|(subst D;rfl)|grind|grind
theorem dF(hE:EnvOk E P){t:Nat}{x y:Value}{a b:AV}{r:Bool}(D:Rep W cx x a)(G:Rep W cx y b)(h:Fh (N6 E t) a b=zs r)(J N:Operand):
 (V4 P W .eql t J N x y (.bool r))/\(V4 P W .neq t J N x y (.bool !r)):=by
 obtain⟨p,q,ha,hb,V⟩:=dE h;rcases flatOf_cases E t with I|⟨ti,ht,I⟩<;>rw[I]at ha hb
 . cases ha
 . unfold cX at ha hb
   have C:=(hE.ti t ti ht).desc;unfold H3 at C;cases A:ti.desc with
   |slice e=>
    rw [A]at ha hb C;obtain⟨H,n1,c1,rfl,h1⟩:=Wq D ha;obtain⟨a2,n2,c2,rfl,h2⟩:=Wq G hb;have B:(Op.equal t (.slice H n1 c1) (.slice a2 n2 c2)).run P W=.ok r W:=by
     refine Zf 9999 C ?_;grind
    exact⟨.mk (by simp[eqGuard]) (by simp[binOp,B]),.mk (by simp[eqGuard]) (by simp[binOp,B])⟩
   |ptr e=>
    rw [A]at ha hb C;obtain⟨H,rfl,h1⟩:=Wr D ha;obtain⟨a2,rfl,h2⟩:=Wr G hb;have B:(Op.equal t (.pointer H) (.pointer a2)).run P W=.ok r W:=by
     refine iN 9999 C ?_;grind
    exact⟨.mk (by simp[eqGuard]) (by simp[binOp,B]),.mk (by simp[eqGuard]) (by simp[binOp,B])⟩
   |map k e=>
    rw [A]at ha hb C;obtain⟨H,rfl,h1⟩:=Ws D ha;obtain⟨a2,rfl,h2⟩:=Ws G hb;have B:(Op.equal t (.map H) (.map a2)).run P W=.ok r W:=by
     refine iO 9999 C ?_;grind
    exact⟨.mk (by simp[eqGuard]) (by simp[binOp,B]),.mk (by simp[eqGuard]) (by simp[binOp,B])⟩
   |iface=>
    rw[A]at ha hb C;have r1:∀W:World,(underlying t).run P W=.ok (.interface #[]) W:=fun W=>A2 C
    have B:(Op.equal t x y).run P W=.ok r W:=by
     show(Op.equalIn (9999+1) t x y).run P W=_
     unfold Op.equalIn;simp only[Sem.run_bind,r1,Result.andThen_ok];rcases nilI_real D ha with⟨rfl,rfl⟩|⟨X,Y,rfl,rfl⟩<;>rcases nilI_real G hb with⟨rfl,rfl⟩|⟨t2,u2,rfl,rfl⟩<;>rcases V with⟨h1,h2⟩|⟨h1,h2,h3⟩<;>first|(cases h1;done)|simp_all|(subst h2;rfl)|(subst h3;rfl)
    have r2:(Op.eqGuardIn Op.maxDepth t .nilIface .nilIface).run P W=.ok zf W:=by
     show(Op.eqGuardIn (9999+1) t .nilIface .nilIface).run P W=_
     unfold Op.eqGuardIn;simp[r1]
    have hg:∀op,op=BinOp.eql\/op=BinOp.neq->(eqGuard op t J N x y).run P W=.ok () W:=by
     intro op O;rcases nilI_real D ha with⟨rfl,_⟩|⟨X,Y,rfl,_⟩<;>rcases nilI_real G hb with⟨rfl,_⟩|⟨t2,u2,rfl,_⟩<;>rcases O with rfl|rfl<;>simp[eqGuard,r2]<;>(try split)<;>simp
    have Q:(binOp .eql t x y).run P W=.ok (.bool r) W:=by
     rcases nilI_real D ha with⟨rfl,_⟩|⟨X,Y,rfl,_⟩<;>rcases nilI_real G hb with⟨rfl,_⟩|⟨t2,u2,rfl,_⟩<;>simp[binOp,B]
    have U:(binOp .neq t x y).run P W=.ok (.bool !r) W:=by
     rcases nilI_real D ha with⟨rfl,_⟩|⟨X,Y,rfl,_⟩<;>rcases nilI_real G hb with⟨rfl,_⟩|⟨t2,u2,rfl,_⟩<;>simp[binOp,B]
    exact⟨.mk (hg _ (.inl rfl)) Q,.mk (hg _ (.inr rfl)) U⟩
   |struct fs fl=>rw[A]at ha;cases fl<;>cases ha
   |_=>rw[A]at ha;cases ha
theorem Ic(hE:EnvOk E P){t:Nat}{x y:Value}{a b:AV}{r:Bool}(G:Rep W cx x a)(H:Rep W cx y b)(h:rX (N6 E t) a b=zs r)(N O:Operand):
 (V4 P W .eql t N O x y (.bool r))/\(V4 P W .neq t N O x y (.bool !r)):=by
 cases a with
 |agg as=>
  obtain⟨bs,D,g⟩:=Aa (v:=b) h;clear h;have h:=g;clear g;subst D;obtain⟨xs,rfl,V⟩:=G.agg_inv;obtain⟨ys,rfl,X⟩:=H.agg_inv;rcases flatOf_cases E t with C|⟨ti,ht,C⟩<;>rw[C]at h
  . cases h
  . have Q:=hE.ti t ti ht
    unfold cX at h;have I:=Q.desc;cases A:ti.desc with
    |struct fs fl=>
     rw[A]at h;cases fl with
     |false=>cases h
     |true=>
      obtain⟨hl,h⟩:=A6 (b:=Ei ti.zero.cells as&&Ei ti.zero.cells bs) h;rw[zqs]at hl;unfold H3 at I;rw[A]at I;obtain⟨fields,U,_,_,Y⟩:=I;obtain⟨g1,g2,g3,g4⟩:=Y rfl;have J:P.fieldsOf t=fields:=by grind[Program.fieldsOf]
      have B:(Op.equalIn 10000 t (.agg xs) (.agg ys)).run P W=.ok r W:=by
       rw[run_equalIn_agg W 9999 t xs ys (by rw[J];exact U) g2,J];exact Ze 9998 V X hl.1 hl.2 fields.toList 0 r (by grind) (by grind) h
      exact⟨.mk (run_eqGuard_agg W _ _ _ _ _ _ g1) (by rw[run_eql_struct,B];rfl),.mk (run_eqGuard_agg W _ _ _ _ _ _ g1) (by rw[run_neq_struct,B];rfl)⟩
    |_=>rw[A]at h;cases h
 |int k n=>
  obtain⟨k',m,D,g⟩:=B4 (v:=b) h;clear h;have h:=g;clear g;subst D;cases hk:kindEq k k' with
  |false=>grind
  |true=>
   rw[hk]at h;cases h
   have:=(Y2 _ _).1 hk;subst this
   cases G.int_inv;cases H.int_inv;rw[o6];exact⟨.mk L8 (by simp[binOp,Op.intCmp]),.mk L8 (by simp[binOp,Op.intCmp];rfl)⟩
 |bool c=>
  obtain ⟨c',D,g⟩:=Be (v:=b) h;clear h;have h:=g;clear g;subst D;obtain⟨hb,h⟩:=A6 h;cases h;cases G.bool_inv;cases H.bool_inv;have U:P.underlying t=zs .bool:=by
   rcases flatOf_cases E t with C|⟨ti,ht,C⟩<;>rw[C]at hb
   . cases hb
   . unfold cX at hb
     have I:=(hE.ti t ti ht).desc;unfold H3 at I;cases A:ti.desc with
     |bool=>grind
     |struct fs fl=>rw[A]at hb;cases fl<;>cases hb
     |_=>rw[A]at hb;cases hb
  have B:(Op.equal t (.bool c) (.bool c')).run P W=.ok (c==c') W:=run_equalIn_bool' W 9999 t c c' U;exact⟨.mk Kv (by simp[binOp,B]),.mk Kv (by simp[binOp,B])⟩
 |str l=>
  obtain⟨l',D,g⟩:=J7 (v:=b) h;clear h;have h:=g;clear g;subst D;cases h;obtain⟨s1,rfl,q1⟩:=G.str_inv;obtain⟨s2,rfl,q2⟩:=H.str_inv;rw[Fp,<-q1,<-q2,<-Rn,<-Rn];exact⟨.mk Fq (by simp[binOp,Op.stringOp]),.mk Fq (by simp[binOp,Op.stringOp])⟩
 |_=>exact dF hE G H h N O
theorem orO_some{a b:Option AV}{v:AV}(h:SH a b=zs v):a=zs v\/b=zs v:=by
 cases a with
 |none=>exact .inr h
 |some x=>exact .inl h
theorem Kw(hE:EnvOk E P){t:Nat}{x y:Value}{a b:AV}{r:Bool}(J:Rep W cx x a)(N:Rep W cx y b)(h:Iy E t a b=zs r)(H I:Operand):
 (V4 P W .eql t H I x y (.bool r))/\(V4 P W .neq t H I x y (.bool !r)):=by
 cases a with
 |ptr i k o=>
  cases b with
  |ptr i' k' o'=>
   obtain⟨ti,U,h⟩:=D7 h;have C:=(hE.ti t ti U).desc;unfold H3 at C;cases A:ti.desc with
   |ptr e=>
    rw[A]at h C;obtain⟨te,G,h⟩:=D7 h;obtain⟨hc,hh⟩:=A6 (b:=Nat.blt 0 te.size&&(Nat.beq i i'&&Nat.beq k k')) (x:=zs (Nat.beq o o')) h;rw[zqs,zqs]at hc;have hp:0<te.size:=zqh hc.1;have h1:=C4 hc.2.1;have h2:=C4 hc.2.2;subst h1 h2;cases hh;have O:=(hE.ti e te G).run_sizeOf (W:=W);cases J;cases N;have Q:∀W:World,(underlying t).run P W=.ok (.pointer e) W:=fun W=>A2 C
    have D:te.size≠0:=by omega
    have B:∀p q:Nat,(Op.equal t (.pointer (zs ⟨(cx.μ i).1,p+o,zn⟩)) (.pointer (zs ⟨(cx.μ i).1,p+o',zn⟩))).run P W=.ok (Nat.beq o o') W:=by
     intro p q;show(Op.equalIn (9999+1) t _ _).run P W=_
     unfold Op.equalIn;simp only[Sem.run_bind,Q,Result.andThen_ok];simp only[O,Sem.run_bind,Result.andThen_ok,D,ne_eq,not_false_eq_true,if_true]
     have:(Nat.beq o o')=((⟨(cx.μ i).1,p+o,zn⟩:Addr)==⟨(cx.μ i).1,p+o',zn⟩):=by
      rw[zqq,beq_iff_eq];simp_all
     simp_all[sameAddr]
    exact⟨.mk (by simp[eqGuard]) (by simp[binOp,B _ 0]),.mk (by simp[eqGuard]) (by simp[binOp,B _ 0])⟩
   |_=>grind
  |_=>cases h
 |_=>cases h
theorem iP(hE:EnvOk E P){op:BinOp}{t:Nat}{x y:Value}{a b r:AV}(C:Rep W cx x a)(D:Rep W cx y b)(h:sA E op t a b=zs r)(A B:Operand):
 ∃v,V4 P W op t A B x y v/\Rep W cx v r:=by
 cases op with
 |eql=>
  obtain⟨q,h1,h2⟩:=A0 (show A4 (Iy E t a b) E7=zs r from h)
  have:=(Kw hE C D h1 A B).1
  cases q<;>cases h2<;>exact⟨_,this,.bool _⟩
 |neq=>
  obtain⟨q,h1,h2⟩:=A0 (show A4 (Iy E t a b) (fun b=>E7 (!b))=zs r from h)
  have:=(Kw hE C D h1 A B).2
  cases q<;>cases h2<;>exact⟨_,this,.bool _⟩
 |_=>cases h
theorem Ro(m n:Int):(!decide (n<=m))=decide (m<n):=by
 grind
theorem Jb(k:IntKind)(m:Int):(m%(2:Int)^k.bits).toNat=modN m (pow2 k):=by
 grind[lJ,Kr,Bx]
theorem Vl{f:Nat->Nat->Nat}{a b r:AV}(h:Kg f a b=zs r):∃k m n,a=.int k m/\b=.int k n/\r=.int k (Ax k (f (modN m (pow2 k)) (modN n (pow2 k)))):=by
 obtain⟨k,m,n,ea,eb,g⟩:=Bz h;grind[Dt]
theorem Fs{x y:Value}{k:IntKind}{m n:Int}(A:Rep W cx x (.int k m))(B:Rep W cx y (.int k n)):x=.int k m/\y=.int k n:=⟨A.int_inv,B.int_inv⟩
theorem iQ{op:BinOp}{t:Nat}{x y:Value}{a b r:AV}(A:Rep W cx x a)(B:Rep W cx y b)(C D:Operand)(f:Int->Int->Int)
 (hf:∀k m n,(binOp op t (.int k m) (.int k n)).run P W=.ok (.int k (k.wrap (f m n))) W)(h:(d8 a b fun k m n=>O8 k (f m n))=zs r):
 ∃v,V4 P W op t C D x y v/\Rep W cx v r:=by
 obtain⟨k,m,n,G,H,g⟩:=Bz h;subst G H;obtain⟨rfl,rfl⟩:=Fs A B;rw[o8 g];exact⟨_,.mk L8 (hf k m n),.int _ _⟩
theorem Zg{op:BinOp}{t:Nat}{x y:Value}{a b r:AV}(A:Rep W cx x a)(B:Rep W cx y b)(C D:Operand)(f:Int->Int->Bool)
 (hf:∀k m n,(binOp op t (.int k m) (.int k n)).run P W=.ok (.bool (f m n)) W)(h:(d8 a b fun _ m n=>E7 (f m n))=zs r):
 ∃v,V4 P W op t C D x y v/\Rep W cx v r:=by
 obtain⟨k,m,n,G,H,g⟩:=Bz h;subst G H;obtain⟨rfl,rfl⟩:=Fs A B;rw[Bf g];exact⟨_,.mk L8 (hf k m n),.bool _⟩
theorem iR{op:BinOp}{t:Nat}{x y:Value}{a b r:AV}(A:Rep W cx x a)(B:Rep W cx y b)(C D:Operand)(f:Nat->Nat->Nat)
 (hl:∀(w m n:Nat),m<2^w->n<2^w->f m n<2^w)
 (hf:∀k m n,(binOp op t (.int k m) (.int k n)).run P W=.ok (.int k (k.wrap (f (modN m (pow2 k)) (modN n (pow2 k)):Nat))) W)(h:Kg f a b=zs r):
 ∃v,V4 P W op t C D x y v/\Rep W cx v r:=by
 obtain⟨k,m,n,G,H,g⟩:=Vl h;subst G H g;obtain⟨rfl,rfl⟩:=Fs A B;have h1:=lL m k;have h2:=lL n k;rw[iM k _ (by rw[sK]at *;exact hl _ _ _ h1 h2)];exact⟨_,.mk L8 (hf k m n),.int _ _⟩
theorem Wu(k:IntKind)(n:Nat):zqn (Nat.pow 2 (bif Nat.ble n (J2 k)then n else J2 k))=(2:Int)^(min n k.bits):=by
 have e:(bif Nat.ble n (J2 k)then n else J2 k)=min n k.bits:=by
  grind[oW,B9,zql]
 simp_all
theorem dG(hE:EnvOk E P){op:BinOp}{t:Nat}{x y:Value}{a b r:AV}(A:Rep W cx x a)(B:Rep W cx y b)(h:J3 op (N6 E t) a b=zs r)(C D:Operand):
 ∃v,V4 P W op t C D x y v/\Rep W cx v r:=by
 cases op with
 |add=>
  have key:(∀l,a≠.str l)->∃v,V4 P W .add t C D x y v/\Rep W cx v r:=by
   intro hn;refine iQ A B C D (fun m n=>m+n) (fun k m n=>by simp[binOp,Op.intArith]) ?_;cases a<;>first|exact h|grind
  cases a with
  |str l=>
   obtain⟨O,G,g⟩:=J7 (v:=b) h;subst G;cases hl:Nat.ble (Nat.add (r6 l) (r6 O)) 4611686018427387904 with
   |false=>grind
   |true=>
    rw [hl]at g;cases g;obtain⟨I,rfl,Q⟩:=A.str_inv;obtain⟨s2,rfl,U⟩:=B.str_inv;have hl:=B9 hl;rw[x4,x4,<-Q,<-U]at hl;have e1:I.size=I.data.toList.length:=Array.length_toList.symm;have e2:s2.size=s2.data.toList.length:=Array.length_toList.symm;have hl:I.data.toList.length+s2.data.toList.length<=4611686018427387904:=hl;have hlt:¬(((I.size+s2.size:Nat):Int)>IntKind.i64.max):=by
     rw[show IntKind.i64.max=9223372036854775807 from rfl];omega
    refine⟨.string (I++s2),.mk Fq ?_,?_⟩
    . simp_all[binOp,Op.stringOp]
    . have:(I++s2).data.toList=l++O:=by simp_all
      rw[<-this];exact .str _
  |_=>simp_all
 |sub=>exact iQ A B C D (fun m n=>m-n) (fun k m n=>by simp[binOp,Op.intArith]) h
 |mul=>exact iQ A B C D (fun m n=>m*n) (fun k m n=>by simp[binOp,Op.intArith]) h
 |quo=>
  obtain⟨k,m,n,H,G,g⟩:=Bz h;subst H G;obtain⟨rfl,rfl⟩:=Fs A B;rw[o6]at g;cases hn:n==0 with
  |true=>grind
  |false=>
   rw[hn]at g;rw[o8 g]
   have:¬n=0:=by grind
   exact⟨_,.mk L8 (by simp[binOp,Op.intDiv,this]),.int _ _⟩
 |rem=>
  obtain⟨k,m,n,H,G,g⟩:=Bz h;subst H G;obtain⟨rfl,rfl⟩:=Fs A B;rw[o6]at g;cases hn:n==0 with
  |true=>grind
  |false=>
   rw[hn]at g;rw[Dt g]
   have:¬n=0:=by grind
   exact⟨_,.mk L8 (by simp[binOp,Op.intDiv,this]),.int _ _⟩
 |and=>exact iR A B C D zqa (fun w m n _ hn=>Nat.and_lt_two_pow m hn) (fun k m n=>by simp[binOp,Op.intBits,Jb]) h
 |or=>exact iR A B C D Nat.lor (fun w m n N hn=>Nat.or_lt_two_pow N hn) (fun k m n=>by simp[binOp,Op.intBits,Jb]) h
 |xor=>exact iR A B C D Nat.xor (fun w m n N hn=>Nat.xor_lt_two_pow N hn) (fun k m n=>by simp[binOp,Op.intBits,Jb]) h
 |shl=>
  obtain⟨k,m,H,g⟩:=B4 (v:=a) h;subst H;obtain⟨k',n,G,J⟩:=B4 (v:=b) g;subst G;cases n with
  |negSucc n=>cases J
  |ofNat n=>
   rw[o8 J,Wu];cases A.int_inv;cases B.int_inv;refine⟨_,.mk L8 ?_,.int _ _⟩;simp_all[binOp,Op.shift,if_neg]
 |shr=>
  obtain⟨k,m,H,g⟩:=B4 (v:=a) h;subst H;obtain⟨k',n,G,J⟩:=B4 (v:=b) g;subst G;cases n with
  |negSucc n=>cases J
  |ofNat n=>
   rw[Dt J,Wu];cases A.int_inv;cases B.int_inv;refine⟨_,.mk L8 ?_,.int _ _⟩;simp_all[binOp,Op.shift,if_neg]
 |eql=>
  obtain⟨c,hc,g⟩:=A0 h;rw[Bf g];exact⟨_,(Ic hE A B hc C D).1,.bool _⟩
 |neq=>
  obtain⟨c,hc,g⟩:=A0 h;rw[Bf g];exact⟨_,(Ic hE A B hc C D).2,.bool _⟩
 |lss=>exact Zg A B C D (fun m n=>!(intLe n m)) (fun k m n=>by simp[binOp,Op.intCmp,N7,Ro]) h
 |leq=>exact Zg A B C D (fun m n=>intLe m n) (fun k m n=>by simp[binOp,Op.intCmp,N7]) h
 |gtr=>exact Zg A B C D (fun m n=>!(intLe m n)) (fun k m n=>by simp[binOp,Op.intCmp,N7,Ro]) h
 |geq=>exact Zg A B C D (fun m n=>intLe n m) (fun k m n=>by simp[binOp,Op.intCmp,N7]) h
 |andNot=>cases h
end
end Go.AM
