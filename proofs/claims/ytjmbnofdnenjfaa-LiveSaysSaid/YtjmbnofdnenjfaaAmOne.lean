/- The abstract machine, part one: definitions, lists, what a value of the model is told as, worlds. Conditions: none. -/
import GoSem.Dispatch
import Derived.Calls
import Derived.Laws.World
import Derived.Laws.Sem
import Derived.MapKept
import Derived.Laws.Cells
import Derived.Laws.StructEq
import Derived.Below
set_option linter.unusedVariables false
set_option linter.unusedSectionVars false
set_option linter.unusedSimpArgs false
/-
 The abstract machine: an evaluator for the model's code over abstract values. Definitions alone. (Each function is small and takes the state last: so the kernel runs it quickly.)
set_option maxHeartbeats 4000000
-/
open Nat renaming land→zqa,shiftRight→zqb,lt_of_lt_of_le→zqc,lt_succ_self→zqd,div→zqe,le_refl→zqf,shiftRight_eq_div_pow→zqg,le_of_ble_eq_true→zqh,mod_two_eq_zero_or_one→zqi,eq_of_beq_eq_true→zqj,and_one_is_mod→zqk,lt_succ_of_lt→zql
open Bool renaming eq_iff_iff→zqm,false_eq_true→zqn,and_eq_true→zqo
open List renaming getElem?_eq_getElem→zqp,drop_eq_nil_of_le→zqq,drop_eq_getElem_cons→zqr
namespace Go.AM
noncomputable section
inductive AV where
 |int (k:IntKind) (n:Int)
 |bool (b:Bool)
 |str (s:List UInt8)
 |agg (cs:List AV)
 |tup (vs:List AV)
 |fsl (es:List AV) (full:Bool)
 |fptr (v:AV) (off:Nat)
 |msl (id off n sz:Nat)
 |ptr (id i off:Nat)
 |nilsl
 |nilptr
 |nilmap
 |map (id:Nat)
 |fn (f:Fn) (first caps:List AV)
 |nilfn
 |iface (t:TypeId) (v:AV)
 |niliface
 |any
 |und
 deriving Inhabited
inductive AObj where
 |row (es:List AV) (sz:Nat)
 |mapo (es:List (AV×AV))
 deriving Inhabited
inductive HT where
 |nil
 |node (l:HT) (v:Option AObj) (r:HT)
 deriving Inhabited
structure Heap where
 next:Nat
 tch:List Nat
 os:HT
inductive Tr where
 |nil
 |node (l:Tr) (v:AV) (r:Tr)
 deriving Inhabited
inductive TD where
 |int (k:IntKind)|bool|string
 |ptr (e:Nat)|slice (e:Nat)|array (n e:Nat)|map (k e:Nat)
 |struct (fields:List (Nat×Nat)) (flat:Bool)
 |func|iface|other
structure TI where
 desc:TD
 size:Nat
 bytes:Nat
 zero:AV
structure XOp where
 dst:Option Tmp
 op:Op
 gd:Option (Option Tmp×Bool)
 quiet:Bool
 late:List Bool
 careful:Bool
structure RngD where
 m:Operand
 d1:Nat
 d2:Nat
 d3:Nat
 d4:Nat
 d5:Nat
 d6:Nat
 d7:Nat
 i0:Nat
 i1:Nat
 ty:Nat
 ws:List Nat
inductive XC where
 |skip
 |reg (draw:Bool) (l:List XOp)
 |seq (a b:XC)
 |cond (c:Operand) (a b:XC)
 |block (id:Nat) (c:XC)
 |loop (c:XC)
 |scope (c:XC)
 |rfn (g:Operand) (ps:List Tmp) (a b:XC)
 |exit (id:Nat)
 |ret
 |bad
 |rngm (R:RngD) (y:XC)
inductive IC where
 |skip
 |reg (x:XC)
 |yreg (p0:XC) (gd:Option (Option Tmp×Bool)) (yt:Tmp) (p1:XC) (yd:Tmp) (args:List Operand) (p2:XC)
 |seq (a b:IC)
 |cond (c:Operand) (a b:IC)
 |block (id:Nat) (c:IC)
 |loop (c:IC)
 |exit (id:Nat)
 |ret
inductive FM where
 |plain
 |dfr (pre:List XC) (g:Operand) (rest:XC)
 |rcv (d d2:Tmp) (rest:XC)
 |itf (c:IC)
structure FI where
 code:XC
 ntmps:Nat
 results:List ResultVar
 mode:FM
structure Env where
 ti:Nat->Option TI
 fn:Nat->Option FI
 gl:Nat->Option AV
 told:Nat->Bool
 mx:Option Nat
 gc:Nat->Bool:=fun _=>false
 dlf:Nat->Option (List Nat):=fun _=>none
 srt:Nat->Nat->Bool:=fun _ _=>false
inductive Res where
 |ok (a:AV) (h:Heap)
 |pan (v:AV) (h:Heap)
 |bad
inductive Ex where
 |normal|exit (id:Nat)|ret
inductive CRes where
 |ok (e:Ex) (fr:Tr) (h:Heap)
 |pan (v:AV) (h:Heap)
 |bad
def N7{α:Type}(n:Nat)(f:Nat->α):α:=match n with|0=>f 0|m+1=>f (m+1)
def forceI{α:Type}(n:Int)(f:Int->α):α:=match n with | .ofNat a=>N7 a fun a=>f (.ofNat a) | .negSucc a=>N7 a fun a=>f (.negSucc a)
theorem C9{α:Type}(n:Nat)(f:Nat->α):N7 n f=f n:=by cases n<;>rfl
theorem Na{α:Type}(n:Int)(f:Int->α):forceI n f=f n:=by cases n<;>simp[forceI,C9]
def pow2:IntKind->Nat
 | .i8 | .u8=>256
 | .i16 | .u16=>65536
 | .i32 | .u32=>4294967296
 | .i64 | .u64=>18446744073709551616
def half:IntKind->Nat
 | .i8=>128
 | .i16=>32768
 | .i32=>2147483648
 | .i64=>9223372036854775808
 | .u8=>256
 | .u16=>65536
 | .u32=>4294967296
 | .u64=>18446744073709551616
def modN(n:Int)(m:Nat):Nat:=
 match n with
 | .ofNat a=>Nat.mod a m
 | .negSucc a=>Nat.sub m (Nat.succ (Nat.mod a m))
def sC(k:IntKind)(m:Nat):Int:=
 bif Nat.ble (half k) m then Int.negSucc (Nat.sub (Nat.sub (pow2 k) m) 1)else Int.ofNat m
def sE(k:IntKind)(n:Int):Int:=sC k (modN n (pow2 k))
def jO:IntKind->Nat
 | .i8=>0 | .i16=>1 | .i32=>2 | .i64=>3 | .u8=>4 | .u16=>5 | .u32=>6 | .u64=>7
def kindEq(j k:IntKind):Bool:=Nat.beq (jO j) (jO k)
def intEq(a b:Int):Bool:=
 match a with
 | .ofNat a=>match b with | .ofNat b=>Nat.beq a b | .negSucc _=>false
 | .negSucc a=>match b with | .ofNat _=>false | .negSucc b=>Nat.beq a b
def intLe(a b:Int):Bool:=
 match a with
 | .ofNat a=>match b with | .ofNat b=>Nat.ble a b | .negSucc _=>false
 | .negSucc a=>match b with | .ofNat _=>true | .negSucc b=>Nat.ble b a
def Jh(a b:UInt8):Bool:=Nat.beq a.toNat b.toNat
def Pj:List UInt8->List UInt8->Bool
 |[],b=>match b with|[]=>true|_::_=>false
 |x::a,b=>match b with|[]=>false|y::b=>bif Jh x y then Pj a b else false
def AV.cells(v:AV):List AV:=AV.rec (motive_1:=fun _=>List AV) (motive_2:=fun _=>Unit)
    (fun x0 x1=>[(.int x0 x1)])
    (fun x0=>[(.bool x0)])
    (fun x0=>[(.str x0)])
    (fun cs _=>cs)
    (fun x0 _=>[(.tup x0)])
    (fun x0 x1 _=>[(.fsl x0 x1)])
    (fun x0 x1 _=>[(.fptr x0 x1)])
    (fun x0 x1 x2 x3=>[(.msl x0 x1 x2 x3)])
    (fun x0 x1 x2=>[(.ptr x0 x1 x2)])
    ([(.nilsl)])
    ([(.nilptr)])
    ([(.nilmap)])
    (fun x0=>[(.map x0)])
    (fun x0 x1 x2 _ _=>[(.fn x0 x1 x2)])
    ([(.nilfn)])
    (fun x0 x1 _=>[(.iface x0 x1)])
    ([(.niliface)])
    ([(.any)])
    ([(.und)])
    () (fun _ _ _ _=>()) v
namespace AV
section
variable {α:Type}
def onInt(v:AV)(d:α)(f:IntKind->Int->α):α:=AV.rec (motive_1:=fun _=>α->(IntKind->Int->α)->α) (motive_2:=fun _=>Unit)
    (fun k n p0 p1=>p1 k n)
    (fun _ p0 p1=>p0)
    (fun _ p0 p1=>p0)
    (fun _ _ p0 p1=>p0)
    (fun _ _ p0 p1=>p0)
    (fun _ _ _ p0 p1=>p0)
    (fun _ _ _ p0 p1=>p0)
    (fun _ _ _ _ p0 p1=>p0)
    (fun _ _ _ p0 p1=>p0)
    (fun p0 p1=>p0)
    (fun p0 p1=>p0)
    (fun p0 p1=>p0)
    (fun _ p0 p1=>p0)
    (fun _ _ _ _ _ p0 p1=>p0)
    (fun p0 p1=>p0)
    (fun _ _ _ p0 p1=>p0)
    (fun p0 p1=>p0)
    (fun p0 p1=>p0)
    (fun p0 p1=>p0)
    () (fun _ _ _ _=>()) v d f
def onBool(v:AV)(d:α)(f:Bool->α):α:=AV.rec (motive_1:=fun _=>α->(Bool->α)->α) (motive_2:=fun _=>Unit)
    (fun _ _ p0 p1=>p0)
    (fun b p0 p1=>p1 b)
    (fun _ p0 p1=>p0)
    (fun _ _ p0 p1=>p0)
    (fun _ _ p0 p1=>p0)
    (fun _ _ _ p0 p1=>p0)
    (fun _ _ _ p0 p1=>p0)
    (fun _ _ _ _ p0 p1=>p0)
    (fun _ _ _ p0 p1=>p0)
    (fun p0 p1=>p0)
    (fun p0 p1=>p0)
    (fun p0 p1=>p0)
    (fun _ p0 p1=>p0)
    (fun _ _ _ _ _ p0 p1=>p0)
    (fun p0 p1=>p0)
    (fun _ _ _ p0 p1=>p0)
    (fun p0 p1=>p0)
    (fun p0 p1=>p0)
    (fun p0 p1=>p0)
    () (fun _ _ _ _=>()) v d f
def onStr(v:AV)(d:α)(f:List UInt8->α):α:=AV.rec (motive_1:=fun _=>α->(List UInt8->α)->α) (motive_2:=fun _=>Unit)
    (fun _ _ p0 p1=>p0)
    (fun _ p0 p1=>p0)
    (fun s p0 p1=>p1 s)
    (fun _ _ p0 p1=>p0)
    (fun _ _ p0 p1=>p0)
    (fun _ _ _ p0 p1=>p0)
    (fun _ _ _ p0 p1=>p0)
    (fun _ _ _ _ p0 p1=>p0)
    (fun _ _ _ p0 p1=>p0)
    (fun p0 p1=>p0)
    (fun p0 p1=>p0)
    (fun p0 p1=>p0)
    (fun _ p0 p1=>p0)
    (fun _ _ _ _ _ p0 p1=>p0)
    (fun p0 p1=>p0)
    (fun _ _ _ p0 p1=>p0)
    (fun p0 p1=>p0)
    (fun p0 p1=>p0)
    (fun p0 p1=>p0)
    () (fun _ _ _ _=>()) v d f
def onAgg(v:AV)(d:α)(f:List AV->α):α:=AV.rec (motive_1:=fun _=>α->(List AV->α)->α) (motive_2:=fun _=>Unit)
    (fun _ _ p0 p1=>p0)
    (fun _ p0 p1=>p0)
    (fun _ p0 p1=>p0)
    (fun s _ p0 p1=>p1 s)
    (fun _ _ p0 p1=>p0)
    (fun _ _ _ p0 p1=>p0)
    (fun _ _ _ p0 p1=>p0)
    (fun _ _ _ _ p0 p1=>p0)
    (fun _ _ _ p0 p1=>p0)
    (fun p0 p1=>p0)
    (fun p0 p1=>p0)
    (fun p0 p1=>p0)
    (fun _ p0 p1=>p0)
    (fun _ _ _ _ _ p0 p1=>p0)
    (fun p0 p1=>p0)
    (fun _ _ _ p0 p1=>p0)
    (fun p0 p1=>p0)
    (fun p0 p1=>p0)
    (fun p0 p1=>p0)
    () (fun _ _ _ _=>()) v d f
def onTup(v:AV)(d:α)(f:List AV->α):α:=AV.rec (motive_1:=fun _=>α->(List AV->α)->α) (motive_2:=fun _=>Unit)
    (fun _ _ p0 p1=>p0)
    (fun _ p0 p1=>p0)
    (fun _ p0 p1=>p0)
    (fun _ _ p0 p1=>p0)
    (fun s _ p0 p1=>p1 s)
    (fun _ _ _ p0 p1=>p0)
    (fun _ _ _ p0 p1=>p0)
    (fun _ _ _ _ p0 p1=>p0)
    (fun _ _ _ p0 p1=>p0)
    (fun p0 p1=>p0)
    (fun p0 p1=>p0)
    (fun p0 p1=>p0)
    (fun _ p0 p1=>p0)
    (fun _ _ _ _ _ p0 p1=>p0)
    (fun p0 p1=>p0)
    (fun _ _ _ p0 p1=>p0)
    (fun p0 p1=>p0)
    (fun p0 p1=>p0)
    (fun p0 p1=>p0)
    () (fun _ _ _ _=>()) v d f
end
end AV
namespace HT
def get(t:HT):Nat->Option AObj:=
 HT.rec (motive:=fun _=>Nat->Option AObj) (fun _=>none)
  (fun _ v _ gl gr i=>Nat.rec (motive:=fun _=>Option AObj) v (fun k _=>Nat.rec (motive:=fun _=>Option AObj) (gl (zqb k 1)) (fun _ _=>gr (zqb k 1)) (zqa k 1)) i) t
def left(t:HT):HT:=HT.rec (motive:=fun _=>HT) .nil (fun l _ _ _ _=>l) t
def mid(t:HT):Option AObj:=HT.rec (motive:=fun _=>Option AObj) none (fun _ v _ _ _=>v) t
def right(t:HT):HT:=HT.rec (motive:=fun _=>HT) .nil (fun _ _ r _ _=>r) t
def path(x:Option AObj)(f:Nat):Nat->HT:=
 Nat.rec (motive:=fun _=>Nat->HT) (fun _=>.nil)
  (fun _ ih i=>Nat.rec (motive:=fun _=>HT) (.node .nil x .nil) (fun k _=>Nat.rec (motive:=fun _=>HT) (.node (ih (zqb k 1)) none .nil) (fun _ _=>.node .nil none (ih (zqb k 1))) (zqa k 1)) i) f
def put(x:Option AObj)(f:Nat)(t:HT):Nat->HT:=
 HT.rec (motive:=fun _=>Option AObj->Nat->Nat->HT) (fun x f i=>path x f i)
  (fun l v r pl pr x f i=>Nat.rec (motive:=fun _=>HT) (.node l x r) (fun k _=>Nat.rec (motive:=fun _=>HT) (.node (pl x f (zqb k 1)) v r) (fun _ _=>.node l v (pr x f (zqb k 1))) (zqa k 1)) i) t x f
def trunc(o:HT):HT->HT:=
 HT.rec (motive:=fun _=>HT->HT) (fun _=>.nil) (fun _ _ _ tl tr n=>.node (tl n.left) n.mid (tr n.right)) o
end HT
namespace Heap
def empty:Heap:=⟨0,[],.nil⟩
def get(h:Heap)(i:Nat):Option AObj:=h.os.get i
def set(h:Heap)(i:Nat)(x:AObj):Heap:=⟨h.next,i::h.tch,h.os.put (some x) (i+1) i⟩
def del(h:Heap)(i:Nat):Heap:=⟨h.next,i::h.tch,h.os.put none (i+1) i⟩
def push(h:Heap)(x:AObj):Heap:=⟨h.next+1,h.tch,h.os.put (some x) (h.next+1) h.next⟩
def onRow{α:Type}(h:Heap)(i:Nat)(d:α)(f:List AV->Nat->α):α:=
 match h.get i with
 |none=>d
 |some o=>match o with | .row es sz=>f es sz | .mapo _=>d
def onMapo{α:Type}(h:Heap)(i:Nat)(d:α)(f:List (AV×AV)->α):α:=
 match h.get i with
 |none=>d
 |some o=>match o with | .row _ _=>d | .mapo es=>f es
end Heap
namespace Tr
def get(t:Tr):Nat->AV:=
 Tr.rec (motive:=fun _=>Nat->AV) (fun _=>.und)
  (fun _ v _ gl gr i=>Nat.rec (motive:=fun _=>AV) v (fun k _=>Nat.rec (motive:=fun _=>AV) (gl (zqb k 1)) (fun _ _=>gr (zqb k 1)) (zqa k 1)) i) t
def set(t:Tr):Nat->AV->Tr:=
 Tr.rec (motive:=fun _=>Nat->AV->Tr) (fun _ _=>.nil)
  (fun l v r sl sr i x=>Nat.rec (motive:=fun _=>Tr) (.node l x r) (fun k _=>Nat.rec (motive:=fun _=>Tr) (.node (sl (zqb k 1) x) v r) (fun _ _=>.node l v (sr (zqb k 1) x)) (zqa k 1)) i) t
noncomputable def has(t:Tr):Nat->Bool:=
 Tr.rec (motive:=fun _=>Nat->Bool) (fun _=>false)
  (fun _ _ _ gl gr i=>Nat.rec (motive:=fun _=>Bool) true (fun k _=>bif Nat.beq (zqa k 1) 0 then gl (zqb k 1)else gr (zqb k 1)) i) t
def mk(f:Nat):Nat->Tr:=
 Nat.rec (motive:=fun _=>Nat->Tr) (fun _=>.nil) (fun _ ih n=>Nat.rec (motive:=fun _=>Tr) .nil (fun k _=>.node (ih (zqe (k+1) 2)) .und (ih (zqe k 2))) n) f
def setAll(l:List AV):Nat->Tr->Tr:=
 List.rec (motive:=fun _=>Nat->Tr->Tr) (fun _ t=>t) (fun v _ ih i t=>ih (i+1) (t.set i v)) l
def enter(n:Nat)(args:List AV):Tr:=setAll args 0 (mk 20 n)
end Tr
def Eo:Value->AV
 | .int k n=>.int k n
 | .bool b=>.bool b
 | .string s=>.str s.data.toList
 | .pointer a=>match a with|none=>.nilptr|some _=>.any
 | .slice a n c=>match a with|none=>(match n with|0=>(match c with|0=>.nilsl|_=>.any)|_=>.any)|some _=>.any
 | .map r=>match r with|none=>.nilmap|some _=>.any
 | .nilFunc=>.nilfn
 | .nilIface=>.niliface
 | .agg _=>.und
 | .tuple _=>.und
 |_=>.any
def ofValue(v:Value):AV:=match v with | .agg cs=>.agg (cs.toList.map Eo)|v=>Eo v
def A7{α β:Type}(x:Option α)(f:α->Option β):Option β:=Option.rec (motive:=fun _=>Option β) none f x
def B6{α:Type}(b:Bool)(x:Option α):Option α:=Bool.rec (motive:=fun _=>Option α) none x b
def Ep(l:List AV):Nat->Option AV:=
 List.rec (motive:=fun _=>Nat->Option AV) (fun _=>none) (fun v _ ih i=>Nat.rec (motive:=fun _=>Option AV) (some v) (fun k _=>ih k) i) l
def Er(l:List AV):Nat->List AV:=
 List.rec (motive:=fun _=>Nat->List AV) (fun _=>[]) (fun v r ih i=>Nat.rec (motive:=fun _=>List AV) (v::r) (fun k _=>ih k) i) l
def Es(l:List AV):Nat->List AV:=
 List.rec (motive:=fun _=>Nat->List AV) (fun _=>[]) (fun v _ ih i=>Nat.rec (motive:=fun _=>List AV) [] (fun k _=>v::ih k) i) l
def setL(l:List AV):Nat->AV->List AV:=
 List.rec (motive:=fun _=>Nat->AV->List AV) (fun _ _=>[]) (fun v r ih i x=>Nat.rec (motive:=fun _=>List AV) (x::r) (fun k _=>v::ih k x) i) l
def lenL(l:List AV):Nat:=List.rec (motive:=fun _=>Nat) 0 (fun _ _ n=>Nat.succ n) l
def Sp{α:Type}(l:List AV)(f:List AV->α):α:=List.rec (motive:=fun _=>(List AV->α)->α) (fun f=>f []) (fun x _ ih f=>ih fun r=>f (x::r)) l f
def appL(a b:List AV):List AV:=List.rec (motive:=fun _=>List AV) b (fun v _ ih=>v::ih) a
def repL(n:Nat)(v:AV):List AV:=Nat.rec (motive:=fun _=>List AV) [] (fun _ ih=>v::ih) n
def o8(l:List UInt8):Nat:=List.rec (motive:=fun _=>Nat) 0 (fun _ _ n=>Nat.succ n) l
def o9:TD->Bool
 | .struct _ _=>true
 | .array _ _=>true
 |_=>false
def partOf(t:TI)(cs:List AV)(off:Nat):Option AV:=
 bif o9 t.desc then(bif Nat.ble (Nat.add off t.size) (lenL cs)then some (.agg (Es (Er cs off) t.size))else none)else Ep cs off
def O8(cs:List AV)(off:Nat)(new:List AV):List AV:=appL (Es cs off) (appL new (Er cs (Nat.add off (lenL new))))
def AV.withCells(v:AV)(off:Nat)(new:List AV):AV:=
 match v with
 | .agg cs=>.agg (O8 cs off new)
 |_=>match new with|[]=>.und|x::r=>match r with|[]=>x|_::_=>.und
def okCell(v:AV):Bool:=match v with | .agg _=>false | .tup _=>false | .und=>false|_=>true
def E8(l:List AV):Bool:=List.rec (motive:=fun _=>Bool) true (fun v _ ih=>bif okCell v then ih else false) l
def elems(x:AV)(h:Heap):Option (List AV):=AV.rec (motive_1:=fun _=>Heap->Option (List AV)) (motive_2:=fun _=>Unit)
    (fun _ _ p0=>none)
    (fun _ p0=>none)
    (fun _ p0=>none)
    (fun _ _ p0=>none)
    (fun _ _ p0=>none)
    (fun es _ _ p0=>some es)
    (fun _ _ _ p0=>none)
    (fun id off n _ p0=>p0.onRow id none fun es _=>bif Nat.ble (Nat.add off n) (lenL es)then some (Es (Er es off) n)else none)
    (fun _ _ _ p0=>none)
    (fun p0=>some [])
    (fun p0=>none)
    (fun p0=>none)
    (fun _ p0=>none)
    (fun _ _ _ _ _ p0=>none)
    (fun p0=>none)
    (fun _ _ _ p0=>none)
    (fun p0=>none)
    (fun p0=>none)
    (fun p0=>none)
    () (fun _ _ _ _=>()) x h
def GQ(x y:AV):Option Bool:=
 match x with
 | .int j a=>y.onInt none fun k b=>bif kindEq j k then some (intEq a b)else none
 | .str a=>y.onStr none fun b=>some (Pj a b)
 |_=>none
def R0{α:Type}(b:Option Bool)(d:α)(t f:α):α:=Option.rec (motive:=fun _=>α) d (fun b=>Bool.rec (motive:=fun _=>α) f t b) b
def pA(l:List (AV×AV)):Nat:=List.rec (motive:=fun _=>Nat) 0 (fun _ _ n=>Nat.succ n) l
def Kr(k:IntKind)(n:Int):Option AV:=forceI n fun n=>some (.int k n)
def j0(k:IntKind)(n:Int):Option AV:=Kr k (sE k n)
def F8(b:Bool):Option AV:=match b with|true=>some (.bool true)|false=>some (.bool false)
def xL(x y:AV):Option Bool:=
 match x with
 | .int j a=>y.onInt none fun k b=>bif kindEq j k then some (intEq a b)else none
 | .bool a=>y.onBool none fun b=>some (a==b)
 | .str a=>y.onStr none fun b=>some (Pj a b)
 |_=>none
def Ya(z x:AV):Bool:=
 match z with
 | .int j _=>x.onInt false fun k _=>kindEq j k
 | .bool _=>x.onBool false fun _=>true
 | .str _=>x.onStr false fun _=>true
 |_=>false
def Dv(z:List AV):List AV->Bool:=
 List.rec (motive:=fun _=>List AV->Bool) (fun m=>match m with|[]=>true|_::_=>false)
  (fun x _ ih m=>match m with|[]=>false|y::m=>bif Ya x y then ih m else false) z
def MX(l:List AV):List AV->Option Bool:=
 List.rec (motive:=fun _=>List AV->Option Bool) (fun m=>match m with|[]=>some true|_::_=>none)
  (fun x _ ih m=>match m with|[]=>none|y::m=>R0 (xL x y) none (ih m) (some false)) l
inductive EqK where
 |none|bool|slc|ptr|map|ifc|flat (z:List AV)
def sF(flat:EqK)(a b:List AV):Option Bool:=
 match flat with
 | .flat z=>B6 (Dv z a&&Dv z b) (MX a b)
 |_=>none
def xT(flat:EqK):Bool:=match flat with | .bool=>true|_=>false
def sG(x:AV):Option Bool:=match x with | .nilsl=>some true | .msl _ _ _ _=>some false | .fsl es f=>(match es with|[]=>bif f then none else some false|_::_=>some false)|_=>none
def sH(x:AV):Option Bool:=match x with | .nilptr=>some true | .ptr _ _ _=>some false | .fptr _ _=>some false|_=>none
def sI(x:AV):Option Bool:=match x with | .nilmap=>some true | .map _=>some false|_=>none
def sJ(x:AV):Option Bool:=match x with | .niliface=>some true | .iface _ _=>some false|_=>none
def q0(k:EqK)(x:AV):Option Bool:=match k with | .slc=>sG x | .ptr=>sH x | .map=>sI x | .ifc=>sJ x|_=>none
def Et(k:EqK)(x y:AV):Option Bool:=R0 (q0 k y) none (q0 k x) (R0 (q0 k x) none (some false) none)
def sK(flat:EqK)(x y:AV):Option Bool:=
 match x with
 | .agg a=>y.onAgg none fun b=>sF flat a b
 | .bool a=>y.onBool none fun b=>B6 (xT flat) (some (a==b))
 | .int j a=>y.onInt none fun k b=>bif kindEq j k then some (intEq a b)else none
 | .str a=>y.onStr none fun b=>some (Pj a b)
 |x=>Et flat x y
def PZ(flat:EqK)(x y:AV):Option AV:=A7 (sK flat x y) F8
def QA(flat:EqK)(x y:AV):Option AV:=A7 (sK flat x y) fun b=>F8 (!b)
def Ap(x y:AV)(f:IntKind->Int->Int->Option AV):Option AV:=
 x.onInt none fun k a=>y.onInt none fun k' b=>bif kindEq k k' then f k a b else none
def DG(x y:AV):Option AV:=
 match x with
 | .str a=>y.onStr none fun b=>bif Nat.ble (Nat.add (o8 a) (o8 b)) 4611686018427387904 then some (.str (a++b))else none
 |x=>Ap x y fun k a b=>j0 k (a+b)
def QB(x y:AV):Option AV:=Ap x y fun k a b=>bif intEq b 0 then none else Kr k (a.tmod b)
def O9(op:BinOp)(flat:EqK):AV->AV->Option AV:=
 match op with
 | .add=>DG
 | .sub=>fun x y=>Ap x y fun k a b=>j0 k (a-b)
 | .rem=>QB
 | .eql=>PZ flat
 | .neq=>QA flat
 | .lss=>fun x y=>Ap x y fun _ a b=>F8 (!(intLe b a))
 | .leq=>fun x y=>Ap x y fun _ a b=>F8 (intLe a b)
 | .gtr=>fun x y=>Ap x y fun _ a b=>F8 (!(intLe a b))
 | .geq=>fun x y=>Ap x y fun _ a b=>F8 (intLe b a)
 |_=>fun _ _=>none
def Pk(op:UnOp)(x:AV):Option AV:=
 match op with
 | .neg=>x.onInt none fun k n=>j0 k (0-n)
 | .not=>x.onBool none fun b=>F8 (!b)
 |_=>none
def S4(dst:TD)(x:AV):Option AV:=
 match dst with
 | .int k=>x.onInt none fun _ n=>j0 k n
 | .string=>x.onStr none fun s=>some (.str s)
 |_=>none
def asNat(v:AV):Option Nat:=v.onInt none fun _ n=>match n with | .ofNat n=>some n | .negSucc _=>none
def F3(o:Option AV)(d:Nat):Option Nat:=match o with|none=>some d|some v=>asNat v
def Nb(l:List AV):AV->Option AV:=
 List.rec (motive:=fun _=>AV->Option AV) some (fun y _ ih x=>x.onInt none fun k a=>y.onInt none fun _ b=>ih (.int k (bif intLe b a then a else b))) l
def Qq(l:List AV):AV->Option AV:=
 List.rec (motive:=fun _=>AV->Option AV) some (fun y _ ih x=>x.onInt none fun k a=>y.onInt none fun _ b=>ih (.int k (bif intLe a b then a else b))) l
def Eu(s:List UInt8)(lo hi mx:Option AV):Option AV:=
 A7 (F3 lo 0) fun l=>A7 (F3 hi (o8 s)) fun r =>
  B6 (Nat.ble l r&&Nat.ble r (o8 s)&&mx.isNone) (some (.str ((s.drop l).take (Nat.sub r l))))
def j1(sz:Nat)(es:List AV):Bool:=match es with|[]=>true|e::_=>Nat.beq (lenL e.cells) sz
def Nc(sz:Nat)(es:List AV)(full:Bool)(lo hi mx:Option AV):Option AV:=
 A7 (F3 lo 0) fun l=>A7 (F3 hi (lenL es)) fun r=>A7 (F3 mx (lenL es)) fun m =>
  B6 (Nat.ble l r&&Nat.ble r m&&Nat.ble m (lenL es)&&j1 sz es)
   (some (.fsl (Es (Er es l) (Nat.sub r l)) (match mx with|some _=>Nat.beq m r|none=>full&&Nat.beq r (lenL es))))
def Ji(ts id off n sz:Nat)(lo hi mx:Option AV):Option AV:=
 A7 (F3 lo 0) fun l=>A7 (F3 hi n) fun r=>A7 (F3 mx n) fun m =>
  B6 (Nat.ble l r&&Nat.ble r m&&Nat.ble m n&&Nat.beq sz ts) (N7 (Nat.add off l) fun o=>N7 (Nat.sub r l) fun c=>some (.msl id o c sz))
def aL(lo hi mx:Option AV):Option AV:=
 A7 (F3 lo 0) fun l=>A7 (F3 hi 0) fun r=>A7 (F3 mx 0) fun m=>B6 (Nat.ble l r&&Nat.ble r m&&Nat.ble m 0) (some .nilsl)
def Nd(ts:Nat)(lo hi mx:Option AV)(x:AV):Option AV:=AV.rec (motive_1:=fun _=>Nat->Option AV->Option AV->Option AV->Option AV) (motive_2:=fun _=>Unit)
    (fun _ _ p0 p1 p2 p3=>none)
    (fun _ p0 p1 p2 p3=>none)
    (fun _ p0 p1 p2 p3=>none)
    (fun _ _ p0 p1 p2 p3=>none)
    (fun _ _ p0 p1 p2 p3=>none)
    (fun es full _ p0 p1 p2 p3=>Nc p0 es full p1 p2 p3)
    (fun _ _ _ p0 p1 p2 p3=>none)
    (fun id off n sz p0 p1 p2 p3=>Ji p0 id off n sz p1 p2 p3)
    (fun _ _ _ p0 p1 p2 p3=>none)
    (fun _ p1 p2 p3=>aL p1 p2 p3)
    (fun p0 p1 p2 p3=>none)
    (fun p0 p1 p2 p3=>none)
    (fun _ p0 p1 p2 p3=>none)
    (fun _ _ _ _ _ p0 p1 p2 p3=>none)
    (fun p0 p1 p2 p3=>none)
    (fun _ _ _ p0 p1 p2 p3=>none)
    (fun p0 p1 p2 p3=>none)
    (fun p0 p1 p2 p3=>none)
    (fun p0 p1 p2 p3=>none)
    () (fun _ _ _ _=>()) x ts lo hi mx
def C4(x:AV)(d:Nat):Option AV:=AV.rec (motive_1:=fun _=>Nat->Option AV) (motive_2:=fun _=>Unit)
    (fun _ _ p0=>none)
    (fun _ p0=>none)
    (fun _ p0=>none)
    (fun _ _ p0=>none)
    (fun _ _ p0=>none)
    (fun _ _ _ p0=>none)
    (fun v off _ p0=>N7 (Nat.add off p0) fun o=>some (.fptr v o))
    (fun _ _ _ _ p0=>none)
    (fun id i off p0=>N7 (Nat.add off p0) fun o=>some (.ptr id i o))
    (fun p0=>none)
    (fun p0=>none)
    (fun p0=>none)
    (fun _ p0=>none)
    (fun _ _ _ _ _ p0=>none)
    (fun p0=>none)
    (fun _ _ _ p0=>none)
    (fun p0=>none)
    (fun p0=>none)
    (fun p0=>none)
    () (fun _ _ _ _=>()) x d
def Ev(t:TI)(x:AV)(h:Heap):Option AV:=AV.rec (motive_1:=fun _=>TI->Heap->Option AV) (motive_2:=fun _=>Unit)
    (fun _ _ p0 p1=>none)
    (fun _ p0 p1=>none)
    (fun _ p0 p1=>none)
    (fun _ _ p0 p1=>none)
    (fun _ _ p0 p1=>none)
    (fun _ _ _ p0 p1=>none)
    (fun v off _ p0 p1=>partOf p0 v.cells off)
    (fun _ _ _ _ p0 p1=>none)
    (fun id i off p0 p1=>p1.onRow id none fun es _=>A7 (Ep es i) fun v=>partOf p0 v.cells off)
    (fun p0 p1=>none)
    (fun p0 p1=>none)
    (fun p0 p1=>none)
    (fun _ p0 p1=>none)
    (fun _ _ _ _ _ p0 p1=>none)
    (fun p0 p1=>none)
    (fun _ _ _ p0 p1=>none)
    (fun p0 p1=>none)
    (fun p0 p1=>none)
    (fun p0 p1=>none)
    () (fun _ _ _ _=>()) x t h
def Sq(t:TI)(id i off:Nat)(cs:List AV)(h:Heap)(es:List AV)(sz:Nat):Option Heap:=
 A7 (Ep es i) fun old=>B6 (Nat.beq (lenL cs) t.size&&Nat.blt 0 t.size&&Nat.ble (Nat.add off t.size) sz&&E8 cs) (some (h.set id (.row (setL es i (old.withCells off cs)) sz)))
def Cu(t:TI)(p v:AV)(h:Heap):Option Heap:=AV.rec (motive_1:=fun _=>TI->AV->Heap->Option Heap) (motive_2:=fun _=>Unit)
    (fun _ _ p0 p1 p2=>none)
    (fun _ p0 p1 p2=>none)
    (fun _ p0 p1 p2=>none)
    (fun _ _ p0 p1 p2=>none)
    (fun _ _ p0 p1 p2=>none)
    (fun _ _ _ p0 p1 p2=>none)
    (fun _ _ _ p0 p1 p2=>none)
    (fun _ _ _ _ p0 p1 p2=>none)
    (fun id i off p0 p1 p2=>p2.onRow id none (Sq p0 id i off p1.cells p2))
    (fun p0 p1 p2=>none)
    (fun p0 p1 p2=>none)
    (fun p0 p1 p2=>none)
    (fun _ p0 p1 p2=>none)
    (fun _ _ _ _ _ p0 p1 p2=>none)
    (fun p0 p1 p2=>none)
    (fun _ _ _ p0 p1 p2=>none)
    (fun p0 p1 p2=>none)
    (fun p0 p1 p2=>none)
    (fun p0 p1 p2=>none)
    () (fun _ _ _ _=>()) p t v h
def Au(te:TI)(es:List AV)(full:Bool)(xs:List AV)(h:Heap):Option (AV×Heap):=
 N7 (Nat.add (lenL es) (lenL xs)) fun n =>
  B6 (full&&Nat.ble (Nat.mul n te.bytes) 140737488355328&&j1 te.size es) (Sp (appL es xs) fun l=>some (.msl h.next 0 n te.size,h.push (.row l te.size)))
def Ks(te:TI)(id off n:Nat)(xs:List AV)(h:Heap)(es:List AV)(sz:Nat):Option (AV×Heap):=
 N7 (Nat.add n (lenL xs)) fun m =>
  B6 (Nat.ble (Nat.add off n) (lenL es)&&Nat.beq sz te.size&&Nat.ble (Nat.mul m te.bytes) 140737488355328)
   (Sp (appL (Es (Er es off) n) xs) fun l=>some (.msl h.next 0 m sz,(h.del id).push (.row l sz)))
def I2(te:TI)(s:AV)(xs:List AV)(h:Heap):Option (AV×Heap):=
 match xs with
 | []=>match s with
  | .nilsl=>some (.nilsl,h)
  | .fsl es f=>some (.fsl es f,h)
  | .msl i o n z=>some (.msl i o n z,h)
  |_=>none
 | x::r=>match s with
  | .nilsl=>Au te [] true (x::r) h
  | .fsl es full=>Au te es full (x::r) h
  | .msl id off n _=>h.onRow id none (Ks te id off n (x::r) h)
  |_=>none
def eF(x:AV):Option Nat:=AV.rec (motive_1:=fun _=>Option Nat) (motive_2:=fun _=>Unit)
    (fun _ _=>none)
    (fun _=>none)
    (fun _=>none)
    (fun _ _=>none)
    (fun _ _=>none)
    (fun es _ _=>some (lenL es))
    (fun _ _ _=>none)
    (fun _ _ n _=>some n)
    (fun _ _ _=>none)
    (some 0)
    (none)
    (none)
    (fun _=>none)
    (fun _ _ _ _ _=>none)
    (none)
    (fun _ _ _=>none)
    (none)
    (none)
    (none)
    () (fun _ _ _ _=>()) x
def sL(x:AV)(h:Heap):Option Nat:=
 match x with
 | .nilmap=>some 0
 | .map id=>h.onMapo id none fun es=>some (pA es)
 |_=>none
def jP(d:TD)(x:AV)(h:Heap):Option Nat:=
 match d with
 | .string=>x.onStr none fun s=>some (o8 s)
 | .slice _=>eF x
 | .map _ _=>sL x h
 |_=>none
def L8(sz:Nat)(l:List AV):Bool:=List.rec (motive:=fun _=>Bool) true (fun v _ ih=>bif Nat.beq (lenL v.cells) sz then ih else false) l
section
variable (E:Env)
def opv(x:Operand)(fr:Tr):AV:=Operand.rec (motive:=fun _=>Env->Tr->AV)
    (fun t _ fr=>fr.get t)
    (fun v _ _=>ofValue v)
    (fun g E _=>match E.gl g with|some v=>.fptr v 0|none=>.any)
    (fun f _ _=>.fn (.func f) [] []) x E fr
def opvs(l:List Operand)(fr:Tr):List AV:=List.rec (motive:=fun _=>List AV) [] (fun x _ ih=>opv E x fr::ih) l
def Nf(o:Option Operand)(fr:Tr):Option AV:=match o with|none=>none|some x=>some (opv E x fr)
def onTI{α:Type}(t:Nat)(d:α)(f:TI->α):α:=Option.rec (motive:=fun _=>α) d f (E.ti t)
def elemOfT(d:TD):Option TI:=
 match d with
 | .slice e=>E.ti e
 |_=>none
def Kt(ts:List TypeId)(args:List AV)(h:Heap):Option (AV×Heap):=
 match ts with
 |[]=>none
 | t :: ts=>match ts with
  |[]=>none
  | tx::_=>match args with
   |[]=>none
   | s::args=>match args with
    |[]=>none
    | x::_=>onTI E t none fun ti=>A7 (elemOfT E ti.desc) fun te=>B6 (Nat.blt 0 te.size) (onTI E tx none fun tix =>
     match tix.desc with
     | .int _=>A7 (asNat x) fun n=>B6 (Nat.ble (Nat.mul n te.bytes) 140737488355328) (I2 te s (repL n te.zero) h)
     |_=>A7 (elems x h) fun xs=>B6 (L8 te.size xs) (I2 te s xs h))
def Wu(ts:List TypeId)(args:List AV)(h:Heap):Option (AV×Heap):=
 match ts with
 |[]=>none
 | t::_=>match args with
  |[]=>none
  |x::_=>onTI E t none fun ti=>A7 (jP ti.desc x h) fun n=>N7 n fun n=>some (.int .i64 (Int.ofNat n),h)
def pB(args:List AV)(h:Heap):Option (AV×Heap):=match args with|[]=>none|x::r=>(Nb r x).map (·,h)
def pC(args:List AV)(h:Heap):Option (AV×Heap):=match args with|[]=>none|x::r=>(Qq r x).map (·,h)
def G1(b:Builtin)(ts:List TypeId):List AV->Heap->Option (AV×Heap):=
 match b with
 | .len=>Wu E ts
 | .append=>Kt E ts
 | .max=>pB
 | .min=>pC
 |_=>fun _ _=>none
def lift(v:Option AV)(h:Heap):Res:=Option.rec (motive:=fun _=>Heap->Res) (fun _=>.bad) (fun v h=>.ok v h) v h
def lift2(v:Option (AV×Heap)):Res:=match v with|some p=>.ok p.1 p.2|none=>.bad
def liftH(v:Option Heap):Res:=match v with|some h=>.ok .und h|none=>.bad
abbrev Jj:=Tr->Heap->Res
def sM(x:Operand):Jj:=fun fr h=>.ok (opv E x fr) h
def aM(c a b:Operand):Jj:=fun fr h=>(opv E c fr).onBool .bad fun t=>match t with|true=>.ok (opv E a fr) h|false=>.ok (opv E b fr) h
def jQ(sz:Nat)(v:AV)(h:Heap):Res:=.ok (.ptr h.next 0 0) (h.push (.row [v] sz))
def xU(t:Nat):Jj:=fun _ h=>onTI E t .bad fun ti=>jQ ti.size ti.zero h
def mJ(t:Nat)(x:Operand):Jj:=fun fr h=>onTI E t .bad fun ti=>bif Nat.beq (lenL (opv E x fr).cells) ti.size&&E8 (opv E x fr).cells then jQ ti.size (opv E x fr) h else .bad
def V3(place:Nat->Option (Nat×Nat))(ps:List (Nat×AV)):List AV->Option (List AV):=
 List.rec (motive:=fun _=>List AV->Option (List AV)) some
  (fun p _ ih cells=>A7 (place p.1) fun q=>B6 (Nat.beq (lenL p.2.cells) q.2&&Nat.ble (Nat.add q.1 q.2) (lenL cells)&&E8 p.2.cells) (ih (O8 cells q.1 p.2.cells))) ps
def Wv(l:List (Nat×Nat)):Nat->Option (Nat×Nat):=
 List.rec (motive:=fun _=>Nat->Option (Nat×Nat)) (fun _=>none) (fun v _ ih i=>Nat.rec (motive:=fun _=>Option (Nat×Nat)) (some v) (fun k _=>ih k) i) l
def X5(ti:TI)(ps:List (Nat×AV)):Option AV:=
 match ti.desc with
 | .struct fields _=>(V3 (fun i=>A7 (Wv fields i) fun f=>onTI E f.1 none fun g=>some (f.2,g.size)) ps ti.zero.cells).map .agg
 | .array _ e=>onTI E e none fun te=>(V3 (fun i=>some (Nat.mul i te.size,te.size)) ps ti.zero.cells).map .agg
 |_=>none
def opvps(l:List (Nat×Operand))(fr:Tr):List (Nat×AV):=List.rec (motive:=fun _=>List (Nat×AV)) [] (fun p _ ih=>(p.1,opv E p.2 fr)::ih) l
def Rm(t:Nat)(ps:Array (Nat×Operand)):Jj:=fun fr h=>onTI E t .bad fun ti=>lift (X5 E ti (opvps E ps.toList fr)) h
def placeL(sz:Nat)(ps:List (Nat×AV)):List AV->Option (List AV):=
 List.rec (motive:=fun _=>List AV->Option (List AV)) some
  (fun p _ ih es=>B6 (Nat.blt p.1 (lenL es)&&Nat.beq (lenL p.2.cells) sz&&E8 p.2.cells) (ih (setL es p.1 p.2))) ps
def M2(t n:Nat)(ps:Array (Nat×Operand)):Jj:=fun fr h =>
 onTI E t .bad fun ti=>match elemOfT E ti.desc with
  |none=>.bad
  | some te=>bif Nat.ble (Nat.mul n te.size) 65536&&Nat.blt 0 te.size then
   (match placeL te.size (opvps E ps.toList fr) (repL n te.zero)with
   |none=>.bad
   |some es=>.ok (.msl h.next 0 n te.size) (h.push (.row es te.size)))else .bad
def aN(t:Nat)(a:Operand):Jj:=fun fr h=>onTI E t .bad fun ti=>lift (Ev ti (opv E a fr) h) h
def Rn(t:Nat)(a x:Operand):Jj:=fun fr h=>onTI E t .bad fun ti=>liftH (Cu ti (opv E a fr) (opv E x fr) h)
def Bx(x:AV):Option AV:=AV.rec (motive_1:=fun _=>Option AV) (motive_2:=fun _=>Unit)
    (fun _ _=>none)
    (fun _=>none)
    (fun _=>none)
    (fun _ _=>none)
    (fun _ _=>none)
    (fun _ _ _=>none)
    (fun v o _=>some (.fptr v o))
    (fun _ _ _ _=>none)
    (fun i j o=>some (.ptr i j o))
    (none)
    (none)
    (none)
    (fun i=>some (.map i))
    (fun f a b _ _=>match f with | .func f=>some (.fn (.func f) a b)|_=>none)
    (none)
    (fun _ _ _=>none)
    (none)
    (none)
    (none)
    () (fun _ _ _ _=>()) x
def Cv(x:Operand):Jj:=fun fr h=>lift (Bx (opv E x fr)) h
def eG(ti:TI):EqK:=match ti.desc with | .struct _ f=>(match f with|true=>.flat ti.zero.cells|false=>.none) | .bool=>.bool | .slice _=>.slc | .ptr _=>.ptr | .map _ _=>.map | .iface=>.ifc|_=>.none
def N8(t:Nat):EqK:=onTI E t .none eG
def Jk(t:Nat)(x y:AV):Option Bool:=
 match x with
 | .ptr i k o=>(match y with
  | .ptr i' k' o'=>onTI E t none fun ti=>match ti.desc with
   | .ptr e=>onTI E e none fun te=>B6 (Nat.blt 0 te.size&&(Nat.beq i i'&&Nat.beq k k')) (some (Nat.beq o o'))
   |_=>none
  |_=>none)
 |_=>none
def sN(op:BinOp)(t:Nat)(x y:AV):Option AV:=
 match op with
 | .eql=>A7 (Jk E t x y) F8
 | .neq=>A7 (Jk E t x y) fun b=>F8 (!b)
 |_=>none
def QC(a b:Option AV):Option AV:=match a with|some v=>some v|none=>b
def Ro(op:BinOp)(t:Nat)(x y:Operand):Jj:=fun fr h=>lift (QC (sN E op t (opv E x fr) (opv E y fr)) (O9 op (N8 E t) (opv E x fr) (opv E y fr))) h
def aO(op:UnOp)(x:Operand):Jj:=fun fr h=>lift (Pk op (opv E x fr)) h
def Gw(s d:Nat)(x:Operand):Jj:=fun fr h=>onTI E s .bad fun _=>onTI E d .bad fun td=>lift (S4 td.desc (opv E x fr)) h
def Cw(f:Fn)(first caps:Array Operand):Jj:=fun fr h=>.ok (.fn f (opvs E first.toList fr) (opvs E caps.toList fr)) h
def pD(r:Option Operand):Jj:=fun _ h=>match r with|none=>.ok (.map h.next) (h.push (.mapo []))|some _=>.bad
def V6(d:TD):Bool:=match d with | .func=>false | .iface=>false | .other=>false|_=>true
def W7(t:Nat)(x:Operand):Jj:=fun fr h=>onTI E t .bad fun ti=>bif V6 ti.desc then .ok (.iface t (opv E x fr)) h else .bad
def O5(t:Nat)(l c:Operand):Jj:=fun fr h =>
 onTI E t .bad fun ti=>match elemOfT E ti.desc with
  |none=>.bad
  | some te=>match asNat (opv E l fr)with
   |none=>.bad
   | some n=>match asNat (opv E c fr)with
    |none=>.bad
    |some m=>bif Nat.ble n m&&Nat.ble (Nat.mul m te.bytes) 140737488355328&&Nat.blt 0 te.size then .ok (.msl h.next 0 n te.size) (h.push (.row (repL n te.zero) te.size))else .bad
def sliceA(d:TD)(lo hi mx:Option AV)(x:AV):Option AV:=
 match d with
 | .string=>x.onStr none fun s=>Eu s lo hi mx
 | .slice e=>onTI E e none fun te=>Nd te.size lo hi mx x
 |_=>none
def Gx(t:Nat)(x:Operand)(lo hi mx:Option Operand):Jj:=fun fr h=>onTI E t .bad fun ti=>bif hi.isNone&&mx.isSome then .bad else lift (sliceA E ti.desc (Nf E lo fr) (Nf E hi fr) (Nf E mx fr) (opv E x fr)) h
def fieldAt(ti:TI)(f:Nat):Option (TI×Nat):=
 match ti.desc with
 | .struct fields _=>A7 (Wv fields f) fun p=>onTI E p.1 none fun ft=>some (ft,p.2)
 |_=>none
def Av(t:Nat)(x:Operand)(f:Nat):Jj:=fun fr h =>
 onTI E t .bad fun ti=>lift (A7 (fieldAt E ti f) fun p=>B6 (Nat.blt 0 p.1.size) (C4 (opv E x fr) p.2)) h
def Rp(t:Nat)(x:Operand)(f:Nat):Jj:=fun fr h =>
 onTI E t .bad fun ti=>lift (A7 (fieldAt E ti f) fun p=>(opv E x fr).onAgg none fun cs=>partOf p.1 cs p.2) h
def eH(te:TI)(i:Nat)(x:AV):Option AV:=AV.rec (motive_1:=fun _=>TI->Nat->Option AV) (motive_2:=fun _=>Unit)
    (fun _ _ p0 p1=>none)
    (fun _ p0 p1=>none)
    (fun _ p0 p1=>none)
    (fun _ _ p0 p1=>none)
    (fun _ _ p0 p1=>none)
    (fun es _ _ p0 p1=>A7 (Ep es p1) fun v=>B6 (Nat.beq (lenL v.cells) p0.size) (some (.fptr v 0)))
    (fun _ _ _ p0 p1=>none)
    (fun id off n sz p0 p1=>B6 (Nat.blt p1 n&&Nat.beq sz p0.size) (N7 (Nat.add off p1) fun o=>some (.ptr id o 0)))
    (fun _ _ _ p0 p1=>none)
    (fun p0 p1=>none)
    (fun p0 p1=>none)
    (fun p0 p1=>none)
    (fun _ p0 p1=>none)
    (fun _ _ _ _ _ p0 p1=>none)
    (fun p0 p1=>none)
    (fun _ _ _ p0 p1=>none)
    (fun p0 p1=>none)
    (fun p0 p1=>none)
    (fun p0 p1=>none)
    () (fun _ _ _ _=>()) x te i
def S5(d:TD)(i:Nat)(x:AV):Option AV:=
 match d with
 | .slice e=>onTI E e none fun te=>eH te i x
 | .array len e=>onTI E e none fun te=>B6 (Nat.blt i len&&Nat.blt 0 te.size) (C4 x (Nat.mul i te.size))
 |_=>none
def Aw(t:Nat)(x ix:Operand):Jj:=fun fr h=>onTI E t .bad fun ti=>lift (A7 (asNat (opv E ix fr)) fun i=>S5 E ti.desc i (opv E x fr)) h
def DH(l:List UInt8):Nat->Option UInt8:=
 List.rec (motive:=fun _=>Nat->Option UInt8) (fun _=>none) (fun v _ ih i=>Nat.rec (motive:=fun _=>Option UInt8) (some v) (fun k _=>ih k) i) l
def Ew(d:TD)(i:Nat)(x:AV):Option AV:=
 match d with
 | .string=>x.onStr none fun s=>A7 (DH s i) fun b=>some (.int .u8 (Int.ofNat b.toNat))
 | .array len e=>onTI E e none fun te=>B6 (Nat.blt i len) (x.onAgg none fun cs=>partOf te cs (Nat.mul i te.size))
 |_=>none
def Rq(t:Nat)(x ix:Operand):Jj:=fun fr h=>onTI E t .bad fun ti=>lift (A7 (asNat (opv E ix fr)) fun i=>Ew E ti.desc i (opv E x fr)) h
def sO(E:Env)(t:Nat)(m k:Operand)(ok:Bool):Jj:=fun _ _=>.bad
def Pl(E:Env)(t:Nat)(m k x:Operand):Jj:=fun _ _=>.bad
def Gy(t:Operand)(i:Nat):Jj:=fun fr h=>(opv E t fr).onTup .bad fun vs=>lift (Ep vs i) h
def aP(t:Nat)(x:AV):Option AV:=match x with | .iface u v=>bif Nat.beq u t then some v else none|_=>none
def t7(t:Nat)(ok:Bool)(x:Operand):Jj:=fun fr h=>onTI E t .bad fun ti=>bif V6 ti.desc && !ok then lift (aP t (opv E x fr)) h else .bad
abbrev E7:=Nat->List AV->Heap->Res
def b9(call:E7)(g:AV)(args:List AV)(h:Heap):Res:=AV.rec (motive_1:=fun _=>E7->List AV->Heap->Res) (motive_2:=fun _=>Unit)
    (fun _ _ p0 p1 p2=>.bad)
    (fun _ p0 p1 p2=>.bad)
    (fun _ p0 p1 p2=>.bad)
    (fun _ _ p0 p1 p2=>.bad)
    (fun _ _ p0 p1 p2=>.bad)
    (fun _ _ _ p0 p1 p2=>.bad)
    (fun _ _ _ p0 p1 p2=>.bad)
    (fun _ _ _ _ p0 p1 p2=>.bad)
    (fun _ _ _ p0 p1 p2=>.bad)
    (fun p0 p1 p2=>.bad)
    (fun p0 p1 p2=>.bad)
    (fun p0 p1 p2=>.bad)
    (fun _ p0 p1 p2=>.bad)
    (fun f first caps _ _ p0 p1 p2=>match f with | .func n=>p0 n (appL first (appL p1 caps)) p2|_=>.bad)
    (fun p0 p1 p2=>.bad)
    (fun _ _ _ p0 p1 p2=>.bad)
    (fun p0 p1 p2=>.bad)
    (fun p0 p1 p2=>.bad)
    (fun p0 p1 p2=>.bad)
    () (fun _ _ _ _=>()) g call args h
def jR(call:E7)(c:Call):Jj:=
 match c.callee with
 | .builtin b=>fun fr h=>lift2 (G1 E b c.argTypes.toList (opvs E c.args.toList fr) h)
 | .value f=>fun fr h=>b9 call (opv E f fr) (opvs E c.args.toList fr) h
 | .invoke _ _=>fun _ _=>.bad
def pE(x:AV)(h:Heap):Res:=match x with | .iface t v=>.pan (.iface t v) h|_=>.bad
def Rr(x:Operand):Jj:=fun fr h=>pE (opv E x fr) h
def Ax:Jj:=fun _ _=>.bad
def GR(op:Op):Env->E7->Jj:=
 Op.rec (motive:=fun _=>Env->E7->Jj)
  (fun x E _=>sM E x)
  (fun x E _=>sM E x)
  (fun c a b E _=>aM E c a b)
  (fun t E _=>xU E t)
  (fun t x E _=>mJ E t x)
  (fun t ps E _=>Rm E t ps)
  (fun t n ps E _=>M2 E t n ps)
  (fun t m k x E _=>Pl E t m k x)
  (fun t a E _=>aN E t a)
  (fun t a x E _=>Rn E t a x)
  (fun _ _ _=>Ax)
  (fun _ _ _=>Ax)
  (fun x E _=>Cv E x)
  (fun op t x y _ E _=>Ro E op t x y)
  (fun op _ x E _=>aO E op x)
  (fun s d x E _=>Gw E s d x)
  (fun _ _ _ _=>Ax)
  (fun t x E _=>W7 E t x)
  (fun f first caps E _=>Cw E f first caps)
  (fun _ r _ _=>pD r)
  (fun _ _ _ _=>Ax)
  (fun t l c E _=>O5 E t l c)
  (fun t x lo hi mx E _=>Gx E t x lo hi mx)
  (fun t x f E _=>Av E t x f)
  (fun t x f E _=>Rp E t x f)
  (fun t x i E _=>Aw E t x i)
  (fun t x i E _=>Rq E t x i)
  (fun t m k ok E _=>sO E t m k ok)
  (fun t m k x E _=>Pl E t m k x)
  (fun _ _ _ _ _=>Ax)
  (fun _ _ _ _ _ _=>Ax)
  (fun _ _ _ _=>Ax)
  (fun _ _ _ _=>Ax)
  (fun _ _ _=>Ax)
  (fun x _ t ok E _=>t7 E t ok x)
  (fun t i E _=>Gy E t i)
  (fun c E call=>jR E call c)
  (fun _ _ _=>Ax)
  (fun _ _ _=>Ax)
  (fun x E _=>Rr E x)
  (fun _ _ _ _=>Ax)
  (fun _ _ _ _ _=>Ax)
  (fun _ _ _ _=>Ax) op
def evOp(call:E7)(op:Op):Jj:=GR op E call
def setDst(d:Option Tmp)(v:AV)(fr:Tr):Tr:=Option.rec (motive:=fun _=>AV->Tr->Tr) (fun _ fr=>fr) (fun t v fr=>fr.set t v) d v fr
def skipped:AV:=.tup []
def j2(want:Bool)(v:AV):Option Bool:=AV.rec (motive_1:=fun _=>Bool->Option Bool) (motive_2:=fun _=>Unit)
    (fun _ _ p0=>none)
    (fun b p0=>match p0 with|true=>some b|false=>some (!b))
    (fun _ p0=>none)
    (fun _ _ p0=>none)
    (fun l _ p0=>match l with|[]=>some false|_::_=>none)
    (fun _ _ _ p0=>none)
    (fun _ _ _ p0=>none)
    (fun _ _ _ _ p0=>none)
    (fun _ _ _ p0=>none)
    (fun p0=>none)
    (fun p0=>none)
    (fun p0=>none)
    (fun _ p0=>none)
    (fun _ _ _ _ _ p0=>none)
    (fun p0=>none)
    (fun _ _ _ p0=>none)
    (fun p0=>none)
    (fun p0=>none)
    (fun p0=>none)
    () (fun _ _ _ _=>()) v want
def Ku(p:Option Tmp×Bool)(fr:Tr):Option Bool:=
 match p.1 with
 |none=>some false
 |some t=>j2 p.2 (fr.get t)
def guardOk(g:Option (Option Tmp×Bool))(fr:Tr):Option Bool:=Option.rec (motive:=fun _=>Tr->Option Bool) (fun _=>some true) (fun p fr=>Ku p fr) g fr
def X6(d:Option Tmp)(k:Tr->Heap->CRes)(fr:Tr)(r:Res):CRes:=
 Res.rec (motive:=fun _=>Option Tmp->(Tr->Heap->CRes)->Tr->CRes) (fun v h d k fr=>k (setDst d v fr) h) (fun v h _ _ _=>.pan v h) (fun _ _ _=>.bad) r d k fr
def I5(call:E7)(l:List XOp):Tr->Heap->CRes:=
 List.rec (motive:=fun _=>Tr->Heap->CRes) (fun fr h=>.ok .normal fr h)
  (fun o _ ih fr h=>R0 (guardOk o.gd fr) .bad (X6 o.dst ih fr (evOp E call o.op fr h)) (ih (setDst o.dst skipped fr) h)) l
inductive DRes where
 |ok (a:AV) (h:Heap) (d:List Nat)
 |pan (v:AV) (h:Heap)
 |bad
def I6(n:Nat)(l:List Nat):List Nat:=List.rec (motive:=fun _=>List Nat) [] (fun i _ ih=>bif Nat.blt i n then i::ih else ih) l
def Bn(a b:List Nat):List Nat:=List.rec (motive:=fun _=>List Nat) b (fun i _ ih=>i::ih) a
def rK(i:Nat)(l:List Nat):Bool:=List.rec (motive:=fun _=>Bool) false (fun j _ ih=>bif Nat.beq j i then true else ih) l
def n8(x:AV):Option Nat:=AV.rec (motive_1:=fun _=>Option Nat) (motive_2:=fun _=>Unit)
    (fun _ _=>none)
    (fun _=>none)
    (fun _=>none)
    (fun _ _=>none)
    (fun _ _=>none)
    (fun _ _ _=>none)
    (fun _ _ _=>none)
    (fun _ _ _ _=>none)
    (fun id _ _=>some id)
    (none)
    (none)
    (none)
    (fun id=>some id)
    (fun _ _ _ _ _=>none)
    (none)
    (fun _ _ _=>none)
    (none)
    (none)
    (none)
    () (fun _ _ _ _=>()) x
def readO(op:Op)(fr:Tr):Option Nat:=
 match op with
 | .load _ x=>n8 (opv E x fr)
 | .lookup _ m _ _=>n8 (opv E m fr)
 | .call c=>(match c.args.toList with|[]=>none|x::_=>n8 (opv E x fr))
 |_=>none
def readOk(r:Option Nat)(d:List Nat):Bool:=match r with|none=>true|some i=>!(rK i d)
def x4(next:Nat)(tch d:List Nat)(r:Res):DRes:=
 match r with
 | .ok v h=>.ok v {h with tch:=Bn (I6 next h.tch) tch} (Bn (I6 next h.tch) d)
 | .pan v h=>.pan v {h with tch:=Bn (I6 next h.tch) tch}
 | .bad=>.bad
def t8(d:List Nat)(r:Res):DRes:=
 match r with
 | .ok v h=>.ok v h d
 | .pan v h=>.pan v h
 | .bad=>.bad
def evOpD(call:E7)(o:XOp)(fr:Tr)(h:Heap)(d:List Nat):DRes:=
 bif o.quiet then x4 h.next h.tch d (evOp E call o.op fr {h with tch:=[]})else
  bif o.careful then(bif readOk (readO E o.op fr) d then t8 d (evOp E call o.op fr h)else .bad)else t8 d (evOp E call o.op fr h)
def c7(E:Env)(call:E7)(l:List XOp):List Bool->Tr->Heap->List Nat->Bool:=fun _ _ _ _=>false
def P0(dst:Option Tmp)(k:Tr->Heap->List Nat->CRes)(w:Bool)(fr:Tr)(r:DRes):CRes:=
 match r with
 | .ok v h d=>k (setDst dst v fr) h d
 | .pan v h=>bif w then .pan v h else .bad
 | .bad=>.bad
def evOpsD(call:E7)(l:List XOp):Tr->Heap->List Nat->CRes:=
 List.rec (motive:=fun _=>Tr->Heap->List Nat->CRes) (fun fr h _=>.ok .normal fr h)
  (fun o r ih fr h d=>R0 (guardOk o.gd fr) .bad (P0 o.dst ih (c7 E call r o.late (setDst o.dst skipped fr) h d) fr (evOpD E call o fr h d)) (ih (setDst o.dst skipped fr) h d)) l
def J5(l:List ResultVar)(fr:Tr)(h:Heap):Option (List AV):=
 List.rec (motive:=fun _=>Option (List AV)) (some [])
  (fun x _ ih=>match x with
    | .tmp t=>A7 ih fun vs=>some (fr.get t::vs)
    | .cell a t=>onTI E t none fun ti=>A7 (Ev ti (fr.get a) h) fun v=>A7 ih fun vs=>some (v::vs)) l
def oneOrTup(vs:List AV):AV:=match vs with|[]=>.tup []|v::r=>match r with|[]=>v|w::r=>.tup (v::w::r)
def Pm(vs:Option (List AV))(h:Heap):Res:=match vs with|some vs=>.ok (oneOrTup vs) h|none=>.bad
def M0(rs:List ResultVar)(r:CRes):Res:=
 match r with
 | .ok e fr h=>match e with
  | .exit _=>.bad
  | .normal=>Pm (J5 E rs fr h) h
  | .ret=>Pm (J5 E rs fr h) h
 | .pan v h=>.pan v h
 | .bad=>.bad
abbrev G8:=XC->Tr->Heap->CRes
def Dw(k:Tr->Heap->CRes)(r:CRes):CRes:=
 match r with
 | .ok e fr h=>match e with | .normal=>k fr h | .exit _=>.bad | .ret=>.bad
 | .pan _ _=>.bad
 | .bad=>.bad
def Yb(l:List ResultVar):Bool:=match l with|[]=>true|_::_=>false
def noneL(l:List AV):Bool:=match l with|[]=>true|_::_=>false
def pF(E:Env)(ih:G8)(g:Operand)(rest:XC)(rs:List ResultVar)(pre:List XC):Tr->Heap->Res:=fun _ _=>.bad
def Sr(p s:List UInt8):Bool:=List.rec (motive:=fun _=>List UInt8->Bool) (fun _=>true) (fun x _ ih s=>match s with|[]=>false|y::s=>bif Jh x y then ih s else false) p s
def contS(p s:List UInt8):Bool:=List.rec (motive:=fun _=>Bool) (Sr p []) (fun y r ih=>bif Sr p (y::r)then true else ih) s
def oneB(p:List UInt8):Bool:=match p with|[]=>false|_::r=>match r with|[]=>true|_::_=>false
def toldA(args:List AV)(h:Heap):Res:=
 match args with
 |[]=>.bad
 | x::r=>match r with
  |[]=>.bad
  |y::r=>bif noneL r then x.onStr .bad (fun s=>y.onStr .bad fun p=>bif Nat.ble (o8 s) 4000000000||oneB p then(match contS p s with|true=>.ok (.bool true) h|false=>.ok (.bool false) h)else .bad)else .bad
def jS(E:Env)(ih:G8)(ks:List Nat)(args:List AV)(h:Heap):Res:=.bad
def srtA(E:Env)(f:Nat)(args:List AV)(h:Heap):Option Res:=none
def Ss(ih:G8)(fi:FI)(args:List AV)(h:Heap):Res:=
 match fi.mode with
 | .plain=>M0 E fi.results (ih fi.code (Tr.enter fi.ntmps args) h)
 | .dfr pre g rest=>pF E ih g rest fi.results pre (Tr.enter fi.ntmps args) h
 | .rcv _ _ _=>.bad
 | .itf _=>M0 E fi.results (ih fi.code (Tr.enter fi.ntmps args) h)
def R5(ih:G8)(f:Nat)(args:List AV)(h:Heap):Res:=
 bif E.told f then toldA args h else
 match E.dlf f with
 |some ks=>jS E ih ks args h
 | none=>match srtA E f args h with
  |some r=>r
  | none=>match E.fn f with
   |none=>.bad
   |some fi=>bif Nat.ble (lenL args) fi.ntmps then Ss E ih fi args h else .bad
def MY(h:Heap)(r:Res):Res:=
 match r with
 | .ok v h1=>.ok v ⟨h1.next,Bn (I6 h.next h1.tch) h.tch,h.os.trunc h1.os⟩
 | .pan _ _=>.bad
 | .bad=>.bad
def J8(ih:G8)(f:Nat)(args:List AV)(h:Heap):Res:=
 bif E.gc f then MY h (R5 E ih f args ⟨h.next,[],h.os⟩)else R5 E ih f args h
def setPs(ps:List Tmp):List AV->Tr->Tr:=
 List.rec (motive:=fun _=>List AV->Tr->Tr) (fun _ fr=>fr) (fun p _ ih l fr=>match l with|[]=>fr|v::l=>ih l (fr.set p v)) ps
def GS(l:List Nat):Nat:=List.rec (motive:=fun _=>Nat) 0 (fun _ _ n=>Nat.succ n) l
def roundY(ih:G8)(ps:List Tmp)(a b:XC)(fr:Tr)(args:List AV)(h:Heap):CRes:=
 bif Nat.beq (lenL args) (GS ps)then Dw (ih b) (ih a (setPs ps args fr) h)else .bad
inductive IRes where
 |ok (e:Ex) (p:Option Ex) (fr:Tr) (h:Heap)
 |bad
def I9(k:Tr->Heap->IRes)(r:CRes):IRes:=
 match r with
 | .ok e fr h=>match e with | .normal=>k fr h | .exit _=>.bad | .ret=>.bad
 | .pan _ _=>.bad
 | .bad=>.bad
def Kv(b:Option Ex->Tr->Heap->IRes)(r:IRes):IRes:=
 match r with
 | .ok e p fr h=>match e with | .normal=>b p fr h | .exit i=>.ok (.exit i) p fr h | .ret=>.ok .ret p fr h
 | .bad=>.bad
def Jl(id:Nat)(r:IRes):IRes:=
 match r with
 | .ok e p fr h=>match e with | .normal=>.ok .normal p fr h | .exit j=>(bif Nat.beq j id then .ok .normal p fr h else .ok (.exit j) p fr h) | .ret=>.ok .ret p fr h
 | .bad=>.bad
def n9(p:Option Ex)(fr:Tr)(h:Heap):IRes:=.ok .normal p fr h
def Ib(ih:G8)(p2:XC)(yd:Tmp)(fr:Tr)(r:CRes):IRes:=
 match r with
 | .ok e _ h=>match e with
  | .normal=>I9 (n9 none) (ih p2 (fr.set yd (.bool true)) h)
  | .exit i=>I9 (n9 (some (.exit i))) (ih p2 (fr.set yd (.bool false)) h)
  | .ret=>I9 (n9 (some .ret)) (ih p2 (fr.set yd (.bool false)) h)
 | .pan _ _=>.bad
 | .bad=>.bad
def eI(ih:G8)(nt:Nat)(Y:List AV->Heap->CRes)(gd:Option (Option Tmp×Bool))(yt:Tmp)(p1:XC)(yd:Tmp)(args:List Operand)(p2:XC)(p:Option Ex)(fr:Tr)(h:Heap):IRes:=
 match p with
 |some _=>.bad
 |none=>bif Nat.blt yt nt then I9 (fun fr h=>R0 (guardOk gd fr) .bad (Ib ih p2 yd fr (Y (opvs E args fr) h)) .bad) (ih p1 (fr.set yt .any) h)else .bad
def AE(ih:G8)(gd:Option (Option Tmp×Bool))(yt:Tmp)(p1:XC)(yd:Tmp)(p2:XC)(p:Option Ex)(fr:Tr)(h:Heap):IRes:=
 I9 (fun fr h=>R0 (guardOk gd fr) .bad .bad (I9 (n9 p) (ih p2 (fr.set yd skipped) h))) (ih p1 (fr.set yt skipped) h)
abbrev IF:=IC->Option Ex->Tr->Heap->IRes
def eJ(ih:G8)(nt:Nat)(Y:List AV->Heap->CRes)(ihI:IF)(c:IC):Option Ex->Tr->Heap->IRes:=
 match c with
 | .skip=>n9
 | .reg x=>fun p fr h=>I9 (n9 p) (ih x fr h)
 | .yreg p0 gd yt p1 yd args p2=>fun p fr h=>I9 (fun fr h=>R0 (guardOk gd fr) .bad (eI E ih nt Y gd yt p1 yd args p2 p fr h) (AE ih gd yt p1 yd p2 p fr h)) (ih p0 fr h)
 | .seq a b=>fun p fr h=>Kv (ihI b) (ihI a p fr h)
 | .cond x a b=>fun p fr h=>(opv E x fr).onBool .bad fun t=>match t with|true=>ihI a p fr h|false=>ihI b p fr h
 | .block id c=>fun p fr h=>Jl id (ihI c p fr h)
 | .loop c=>fun p fr h=>Kv (ihI (.loop c)) (ihI c p fr h)
 | .exit i=>fun p fr h=>.ok (.exit i) p fr h
 | .ret=>fun p fr h=>.ok .ret p fr h
def evI(ih:G8)(nt:Nat)(Y:List AV->Heap->CRes)(m:Nat):IF:=Nat.rec (motive:=fun _=>IF) (fun _ _ _ _=>.bad) (fun _ k=>eJ E ih nt Y k) m
def itMax:Nat:=65536
def rL(p:Option Ex):Ex:=match p with|none=>.normal|some e=>e
def finI(r:IRes):CRes:=
 match r with
 | .ok e p fr h=>match e with | .normal=>.ok (rL p) fr h | .exit _=>.bad | .ret=>.ok (rL p) fr h
 | .bad=>.bad
def itM(ih:G8)(m:FM)(nt:Nat)(caps:List AV)(Y:List AV->Heap->CRes)(h:Heap):CRes:=
 match m with
 | .itf c=>finI (evI E ih nt Y itMax c none (Tr.enter nt (.any::caps)) h)
 | .plain=>.bad
 | .dfr _ _ _=>.bad
 | .rcv _ _ _=>.bad
def itF(ih:G8)(f:Nat)(caps:List AV)(Y:List AV->Heap->CRes)(h:Heap):CRes:=
 match E.fn f with
 |none=>.bad
 |some fi=>bif Nat.ble (Nat.succ (lenL caps)) fi.ntmps then itM E ih fi.mode fi.ntmps caps Y h else .bad
def backA(fr:Tr)(r:CRes):CRes:=
 match r with
 | .ok e _ h=>.ok e fr h
 | .pan _ _=>.bad
 | .bad=>.bad
def rfnA(ih:G8)(ps:List Tmp)(a b:XC)(fr:Tr)(h:Heap)(g:AV):CRes:=
 match g with
 | .fn f first caps=>match f with
  | .func n=>bif noneL first then backA fr (itF E ih n caps (roundY ih ps a b fr) h)else .bad
  |_=>.bad
 |_=>.bad
def Ec(b:Tr->Heap->CRes)(r:CRes):CRes:=
 match r with
 | .ok e fr h=>match e with | .normal=>b fr h | .exit i=>.ok (.exit i) fr h | .ret=>.ok .ret fr h
 | .pan v h=>.pan v h
 | .bad=>.bad
def Ey(id:Nat)(r:CRes):CRes:=
 match r with
 | .ok e fr h=>match e with | .normal=>.ok .normal fr h | .exit j=>(bif Nat.beq j id then .ok .normal fr h else .ok (.exit j) fr h) | .ret=>.ok .ret fr h
 | .pan v h=>.pan v h
 | .bad=>.bad
def Pn(t f:Tr->Heap->CRes)(x:AV)(fr:Tr)(h:Heap):CRes:=x.onBool .bad fun b=>match b with|true=>t fr h|false=>f fr h
def Yc(E:Env)(ih:G8)(R:RngD)(y:XC)(fr:Tr)(h:Heap):CRes:=.bad
def xV(c:XC):Env->G8->Tr->Heap->CRes:=
 XC.rec (motive:=fun _=>Env->G8->Tr->Heap->CRes)
  (fun _ _ fr h=>.ok .normal fr h)
  (fun d l E ih=>match d with|false=>I5 E (J8 E ih) l|true=>fun fr h=>evOpsD E (J8 E ih) l fr h [])
  (fun a b _ _ _ ih fr h=>Ec (ih b) (ih a fr h))
  (fun x a b _ _ E ih fr h=>Pn (ih a) (ih b) (opv E x fr) fr h)
  (fun id c _ _ ih fr h=>Ey id (ih c fr h))
  (fun c _ _ ih fr h=>Ec (ih (.loop c)) (ih c fr h))
  (fun c _ _ ih=>ih c)
  (fun g ps a b _ _ E ih fr h=>rfnA E ih ps a b fr h (opv E g fr))
  (fun id _ _ fr h=>.ok (.exit id) fr h)
  (fun _ _ fr h=>.ok .ret fr h)
  (fun _ _ _ _=>.bad)
  (fun R y _ E ih fr h=>Yc E ih R y fr h) c
def step(ih:G8)(c:XC):Tr->Heap->CRes:=xV c E ih
def ev(n:Nat):G8:=Nat.rec (motive:=fun _=>G8) (fun _ _ _=>.bad) (fun _ ih=>step E ih) n
def run(n:Nat)(f:Nat)(args:List AV)(h:Heap):Res:=J8 E (ev E n) f args h
end
def Ic(o:Op):Nat:=
 match o with
 | .move _=>0 | .assign _=>0 | .pick _ _ _=>0 | .binOp _ _ _ _ _=>0 | .unOp _ _ _=>0 | .convert _ _ _=>0
 | .extract _ _=>0 | .field _ _ _=>0 | .fieldAddr _ _ _=>0 | .indexAddr _ _ _=>0 | .index _ _ _=>0 | .slice _ _ _ _ _=>0 | .nilCheck _=>0
 | .build _ _=>0 | .makeInterface _ _=>0 | .makeFunc _ _ _=>0
 | .load _ _=>1 | .lookup _ _ _ _=>1
 | .call c=>(match c.callee with | .builtin b=>(match b with | .len=>1 | .max=>1 | .min=>1|_=>3)|_=>3)
 | .alloc _=>2 | .box _ _=>2 | .buildSlice _ _ _=>2 | .makeSlice _ _ _=>2
 |_=>3
def bit(m i:Nat):Bool:=Nat.beq (zqa (zqb m i) 1) 1
def directs(o:Oper):List Nat:=(o.after.toList.filter (Region.binds .any)).map (·.on)
def DI(ms:List Nat)(l:List Nat):Nat:=l.foldr (fun e m=>Nat.lor (Nat.lor m (Nat.shiftLeft 1 e)) (ms.getD e 0)) 0
def Ez(ops:List Oper):List Nat:=ops.foldl (fun ms o=>ms++[DI ms (directs o)]) []
def Qr(n:Nat):List Nat:=List.range n
def Rs(ops:List Oper)(ms:List Nat):List Nat:=
 let n:=ops.length;let of (k:Nat):=(Qr n).filter fun i=>match ops[i]? with|some o=>Nat.beq (Ic o.op) k|none=>false
 let need (acc:List Nat) (w:Nat):=(Qr n).filter fun i=>bit (ms.getD w 0) i && !(acc.contains i)
 let lay (acc:List Nat) (c:Nat):=bif acc.contains c then acc else acc++need acc c++[c];let with2 (acc:List Nat) (w:Nat):=((of 2).filter fun i=>bit (ms.getD w 0) i).foldl lay acc;let l:=(of 3).foldl (fun acc w=>lay (with2 acc w) w) [];let l:=(of 2).foldl lay l
 l++(Qr n).filter fun i=>!(l.contains i)
def looksAt(ops:List Oper)(o:Oper):List Tmp:=
 (o.op.operands.toList.filterMap fun x=>match x with | .tmp t=>some t|_=>none) ++
 (match o.guard with
  |some p=>(match ops[p.1]? with|some q=>q.dst.toList|none=>[])
  |none=>[])
def sP(ops:List Oper)(x y:Oper):Bool:=
 (match x.dst with|some d=>!((looksAt ops y).contains d) && !(y.dst==some d)|none=>true) &&
 (match y.dst with|some d=>!((looksAt ops x).contains d)|none=>true)
def clsAt(ops:List Oper)(i:Nat):Nat:=match ops[i]? with|some o=>Ic o.op|none=>3
def apartAt(ops:List Oper)(i j:Nat):Bool:=match ops[i]? with|some x=>(match ops[j]? with|some y=>sP ops x y|none=>false)|none=>false
def aQ(ops:List Oper)(ms:List Nat)(i j:Nat):Bool:=
 bit (ms.getD j 0) i||(!(Nat.beq (clsAt ops j) 3)&&apartAt ops i j)
def Rt(ops:List Oper)(ms:List Nat):List Nat->Bool
 |[]=>true
 |i::r=>r.all (fun j=>aQ ops ms i j && !(bit (ms.getD i 0) j))&&Rt ops ms r
def mK(ops:List Oper)(ms:List Nat):Bool:=
 (Qr ops.length).all fun j=>(Qr ops.length).all fun i =>
   !(bit (ms.getD j 0) i)||(match ops[j]? with|some o=>(directs o).any fun e=>Nat.beq e i||bit (ms.getD e 0) i|none=>false)
def aR(ops:List Oper)(ms:List Nat):List Nat->List Nat->Bool
 |_,[]=>true
 | ahead,a::r =>
  (!(Nat.beq (clsAt ops a) 2)||r.all fun j=>!(bit (ms.getD j 0) a)||ahead.all fun i=>bit (ms.getD j 0) i)&&aR ops ms (a::ahead) r
def sQ(ops:List Oper)(ms:List Nat):Bool:=
 (Qr ops.length).all fun j=>match ops[j]? with
   |some o=>(match o.guard with|some p=>bit (ms.getD j 0) p.1|none=>true)
   |none=>true
def aS:List Nat->Bool
 |[]=>true
 |i::r=>!(r.contains i)&&aS r
def sR(n:Nat)(l:List Nat):Bool:=Nat.beq l.length n&&(Qr n).all (fun i=>l.contains i)&&l.all (fun i=>Nat.blt i n)&&aS l
def mL(ops:List Oper)(ms:List Nat):Bool:=(Qr ops.length).all fun j=>match ops[j]? with
    |some o=>(directs o).all fun e=>Nat.blt e ops.length&&bit (ms.getD j 0) e && !(Nat.beq e j)
    |none=>true
def aT(ops:List Oper):List Nat->Bool
 |[]=>true
 | i::r=>r.all (fun j=>match ops[i]? with
  |some x=>(match ops[j]? with|some y=>(match x.dst with|some d=>!(y.dst==some d)|none=>true)|none=>true)
  |none=>true)&&aT ops r
def Ng(ops:List Oper)(ms l:List Nat):Bool:=
 sR ops.length l&&Rt ops ms l&&mK ops ms&&aR ops ms [] l&&sQ ops ms&&mL ops ms&&aT ops l
def G4(ops:List Oper)(o:Oper):Option (Option Tmp×Bool):=
 match o.guard with
 |none=>none
 |some p=>some ((match ops[p.1]? with|some q=>q.dst|none=>none),p.2)
def dM(ops:List Oper)(quiet:Bool)(late:List Bool)(careful:Bool)(o:Oper):XOp:=⟨o.dst,o.op,G4 ops o,quiet,late,careful⟩
def m5(ops:List Oper)(ms:List Nat)(i:Nat)(r:List Nat):Bool:=Nat.beq (clsAt ops i) 3&&r.any fun j=>Nat.beq (clsAt ops j) 1 && !(bit (ms.getD j 0) i)
def Nh(ops:List Oper)(ms:List Nat)(i:Nat)(r:List Nat):List Bool:=bif Nat.beq (clsAt ops i) 3 then r.map fun j=>bit (ms.getD j 0) i else []
def j3(ops:List Oper)(ms:List Nat)(i:Nat)(ahead:List Nat):Bool:=Nat.beq (clsAt ops i) 1&&ahead.any fun j=>Nat.beq (clsAt ops j) 3 && !(bit (ms.getD i 0) j)
def Aq(ops:List Oper)(ms:List Nat):List Nat->List Nat->List XOp
 |_,[]=>[]
 |ahead,i::r=>(match ops[i]? with|some o=>[dM ops (m5 ops ms i r) (Nh ops ms i r) (j3 ops ms i ahead) o]|none=>[])++Aq ops ms (i::ahead) r
def GT(ops:List Oper)(ms l:List Nat):XC:=bif Ng ops ms l then .reg true (Aq ops ms [] l)else .bad
def GU(o:Op):Bool:=match o with | .defer _=>true|_=>false
def Im(l:List Oper):Bool:=l.all fun o=>!(GU o.op)
def xregP(ops l:List Oper):XC:=bif Im l then .reg false (l.map (dM ops false [] false))else .bad
def QD(ops:List Oper)(draw:Bool):XC:=match draw with
 |false=>xregP ops ops
 |true=>bif Im ops then GT ops (Ez ops) (Rs ops (Ez ops))else .bad
def eK{α β:Type}(x:Option α)(f:α->Option β):Option β:=match x with|none=>none|some a=>f a
def Cy:Code->Option (List Nat)
 | .skip=>some []
 | .ret=>some []
 | .exit _=>some []
 | .region _ ops _=>some (ops.toList.filterMap (·.dst))
 | .seq a b=>eK (Cy a) fun x=>eK (Cy b) fun y=>some (x++y)
 | .cond _ a b=>eK (Cy a) fun x=>eK (Cy b) fun y=>some (x++y)
 | .block _ a=>Cy a
 | .loop a=>Cy a
 |_=>none
def DJ(o1 o2 p1 p2 q1 q2 q3:Oper)(c:Operand)(e i0 i1:Nat)(ws:List Nat):Option RngD:=
 match o1.guard,o2.guard,p1.guard,p2.guard,q1.guard,q2.guard,q3.guard with
 | none,none,none,none,none,none,none =>
  match o1.dst,o2.dst,p1.dst,p2.dst,q1.dst,q2.dst,q3.dst with
  | some d1,some d2,some d3,some d4,some d5,some d6,some d7 =>
   match o1.op,o2.op,p1.op,p2.op,q1.op,q2.op,q3.op,c with
   | .move m,.range ty (.tmp e1),.next (.tmp e2) false,.extract (.tmp e3) 0,.entry (.tmp e4),.extract (.tmp e5) 0,.assign (.tmp e6),.tmp e7 =>
    match(Nat.beq e1 d1&&Nat.beq e2 d2&&Nat.beq e3 d3&&Nat.beq e4 d2&&Nat.beq e5 d5&&Nat.beq e6 d6&&Nat.beq e7 d4&&Nat.beq e i0 && !((d3::d4::d5::d6::d7::ws).contains d2))with
    |true=>some ⟨m,d1,d2,d3,d4,d5,d6,d7,i0,i1,ty,d1::d2::d3::d4::d5::d6::d7::ws⟩
    |false=>none
   |_,_,_,_,_,_,_,_=>none
  |_,_,_,_,_,_,_=>none
 |_,_,_,_,_,_,_=>none
def rngC(a b:Code):Option RngD:=
 match a with
 | .region _ ops1 false=>match b with
  | .block i0 (.loop (.seq (.region _ ops2 false) (.seq (.cond c .skip (.exit e)) (.block i1 (.seq (.region _ ops3 false) B))))) =>
   match ops1.toList,ops2.toList,ops3.toList with
   |[o1,o2],[p1,p2],[q1,q2,q3]=>eK (Cy B) fun ws=>DJ o1 o2 p1 p2 q1 q2 q3 c e i0 i1 ws
   |_,_,_=>none
  |_=>none
 |_=>none
def xc:Code->XC
 | .skip=>.skip
 | .region _ ops draw=>QD ops.toList draw
 | .seq a b=>(match rngC a b with|some R=>.rngm R (xc b)|none=>.seq (xc a) (xc b))
 | .cond c a b=>.cond c (xc a) (xc b)
 | .block id c=>.block id (xc c)
 | .loop c=>.loop (xc c)
 | .scope c=>.scope (xc c)
 | .rangeFunc g ps a b=>.rfn g ps.toList (xc a) (xc b)
 | .label _=>.skip
 | .exit id=>.exit id
 | .ret=>.ret
 |_=>.bad
def isNone{α:Type}(o:Option α):Bool:=match o with|none=>true|some _=>false
def sS(ts:List Tmp)(l:List Oper):Bool:=l.all fun o=>isNone o.guard&&(match o.dst with|none=>true|some d=>!(ts.contains d))
def W6(ts:List Tmp)(l:List Oper):Bool:=l.all fun o=>(match o.dst with|none=>true|some d=>!(ts.contains d))
def isY(yt:Tmp)(o:Oper):Option (Tmp×List Operand):=
 match o.op with
 | .call c=>match c.callee with
  | .value x=>(match x with | .tmp t=>bif Nat.beq t yt then(match o.dst with|some d=>some (d,c.args.toList)|none=>none)else none|_=>none)
  |_=>none
 |_=>none
def splitY(yt:Tmp):List Oper->Option (List Oper×Oper×List Oper)
 |[]=>none
 | o::r=>match isY yt o with
  |some _=>some ([],o,r)
  | none=>match splitY yt r with
   |some p=>some (o::p.1,p.2.1,p.2.2)
   |none=>none
def isMv0(o:Oper):Option Tmp:=
 match o.op with
 | .move x=>(match x with | .tmp t=>bif Nat.beq t 0 then o.dst else none|_=>none)
 |_=>none
def splitM:List Oper->Option (List Oper×Oper×List Oper)
 |[]=>none
 | o::r=>match isMv0 o with
  |some _=>some ([],o,r)
  | none=>match splitM r with
   |some p=>some (o::p.1,p.2.1,p.2.2)
   |none=>none
def xW(a b:Option (Nat×Bool)):Bool:=
 match a with
 |none=>(match b with|none=>true|some _=>false)
 |some p=>(match b with|none=>false|some q=>Nat.beq p.1 q.1&&(match p.2 with|true=>q.2|false=>!q.2))
def DK(ops:List Oper)(q:List Oper×Oper×List Oper):Option IC:=
 match isMv0 q.2.1 with
 |none=>none
 | some yt=>match splitY yt q.2.2 with
  |none=>none
  | some p=>match isY yt p.2.1 with
   |none=>none
   | some y=>bif xW q.2.1.guard p.2.1.guard && !(Nat.beq yt 0)&&W6 [0] q.1&&W6 [0,yt] p.1&&W6 [0] [p.2.1]&&W6 [0] p.2.2 then
    some (.yreg (xregP ops q.1) (G4 ops q.2.1) yt (xregP ops p.1) y.1 y.2 (xregP ops p.2.2))else none
def x5(ops:List Oper):Option IC:=
 match splitM ops with
 |none=>bif W6 [0] ops then some (.reg (xregP ops ops))else none
 |some q=>DK ops q
def sT(f:IC->IC->IC)(a b:Option IC):Option IC:=match a with|none=>none|some a=>(match b with|none=>none|some b=>some (f a b))
def parseI:Code->Option IC
 | .skip=>some .skip
 | .region id ops draw=>(match draw with|false=>x5 ops.toList|true=>bif W6 [0] ops.toList then some (.reg (xc (.region id ops true)))else none)
 | .seq a b=>sT .seq (parseI a) (parseI b)
 | .cond c a b=>sT (.cond c) (parseI a) (parseI b)
 | .block id c=>(parseI c).map (.block id)
 | .loop c=>(parseI c).map .loop
 | .exit id=>some (.exit id)
 | .ret=>some .ret
 |_=>none
def handsI:IC->Bool
 | .yreg _ _ _ _ _ _ _=>true
 | .seq a b=>handsI a||handsI b
 | .cond _ a b=>handsI a||handsI b
 | .block _ c=>handsI c
 | .loop c=>handsI c
 |_=>false
structure DfC where
 pre:List Code
 id:Nat
 ops:Array Oper
 rest:Code
def DfC.code(x:DfC):Code:=x.pre.foldr .seq (.seq (.region x.id x.ops false) x.rest)
def jT(l:List Oper):Bool:=!(Im l)
def parseD:Code->Option DfC
 | .seq a b=>match a with
  | .region id ops false=>bif jT ops.toList then some ⟨[],id,ops,b⟩else(parseD b).map fun x=>⟨.region id ops false::x.pre,x.id,x.ops,x.rest⟩
  |a=>(parseD b).map fun x=>⟨a::x.pre,x.id,x.ops,x.rest⟩
 |_=>none
def isDf(o:Oper):Option Operand:=
 match o.op with
 | .defer c=>match c.callee with
  | .value x=>bif isNone o.guard&&isNone o.dst&&(match c.args.toList with|[]=>true|_=>false)then some x else none
  |_=>none
 |_=>none
def x6(ts:List Tmp):Code->Bool
 | .skip=>true
 | .region _ ops _=>ops.toList.all fun o=>(match o.dst with|none=>true|some d=>!(ts.contains d))
 | .seq a b=>x6 ts a&&x6 ts b
 | .cond _ a b=>x6 ts a&&x6 ts b
 | .block _ c=>x6 ts c
 | .loop c=>x6 ts c
 | .scope c=>x6 ts c
 | .exit _=>true
 | .ret=>true
 |_=>false
def Jm(x:ResultVar):Tmp:=match x with | .tmp t=>t | .cell a _=>a
def Su(rs:List ResultVar)(x:DfC):Option FM:=
 match x.ops.toList.reverse with
 |[]=>none
 | o::r=>match isDf o with
  |none=>none
  |some g=>bif sS [] r.reverse&&x.pre.all (x6 [])&&x6 (rs.map Jm) x.rest then some (.dfr (x.pre.map xc++[xregP x.ops.toList r.reverse]) g (xc x.rest))else none
def isRc(o:Oper):Option Tmp:=
 match o.op with
 | .call c=>match c.callee with
  | .builtin b=>(match b with | .recover=>bif isNone o.guard&&(match c.args.toList with|[]=>true|_=>false)then o.dst else none|_=>none)
  |_=>none
 |_=>none
def isAs(d:Tmp)(o:Oper):Option Tmp:=
 match o.op with
 | .assign x=>(match x with | .tmp t=>bif Nat.beq t d&&isNone o.guard then o.dst else none|_=>none)
 |_=>none
def aU(c:Code):Option FM:=
 match c with
 | .seq (.region _ ops false) rest=>match ops.toList with
  | [o,o']=>match isRc o with
   |none=>none
   | some d=>match isAs d o' with
    |none=>none
    |some d2=>bif x6 [] rest then some (.rcv d d2 (xc rest))else none
  |_=>none
 |_=>none
def MZ(x:Option FM)(y:FM):FM:=match x with|some m=>m|none=>y
def fmOf(rs:List ResultVar)(c:Code):FM:=
 MZ (bif Yb rs then aU c else none) (MZ (match parseD c with|some x=>Su rs x|none=>none) (MZ (match parseI c with|some x=>bif Yb rs&&handsI x then some (.itf x)else none|none=>none) .plain))
end
end Go.AM
/-
 The abstract machine: what abstract values,frames and heaps say of the model's values,slots and worlds.
-/
namespace Go.AM
namespace Tr
theorem Kw(l:Tr)(v:AV)(r:Tr)(k:Nat):(Tr.node l v r).get (k+1)=bif Nat.beq (zqa k 1) 0 then l.get (zqb k 1)else r.get (zqb k 1):=by
 show Nat.rec (motive:=fun _=>AV) (l.get (zqb k 1)) (fun _ _=>r.get (zqb k 1)) (zqa k 1)=_
 generalize zqa k 1=m;cases m<;>rfl
theorem Fa(l:Tr)(v:AV)(r:Tr)(k:Nat)(x:AV):(Tr.node l v r).set (k+1) x=bif Nat.beq (zqa k 1) 0 then .node (l.set (zqb k 1) x) v r else .node l v (r.set (zqb k 1) x):=by
 show Nat.rec (motive:=fun _=>Tr) (.node (l.set (zqb k 1) x) v r) (fun _ _=>.node l v (r.set (zqb k 1) x)) (zqa k 1)=_
 generalize zqa k 1=m;cases m<;>rfl
theorem has_succ(l:Tr)(v:AV)(r:Tr)(k:Nat):(Tr.node l v r).has (k+1)=bif Nat.beq (zqa k 1) 0 then l.has (zqb k 1)else r.has (zqb k 1):=rfl
theorem has_zero(l:Tr)(v:AV)(r:Tr):(Tr.node l v r).has 0=true:=rfl
theorem half_inj{k m:Nat}(h:zqb k 1=zqb m 1)(hp:Nat.beq (zqa k 1) 0=Nat.beq (zqa m 1) 0):k=m:=by
 have e1:∀n,zqb n 1=n/2:=fun n=>zqg n 1
 have e2:∀n,zqa n 1=n%2:=fun n=>zqk n
 rw[e1,e1]at h;rw[e2,e2]at hp;have hk:=zqi k;have hm:=zqi m;rcases hk with hk|hk<;>rcases hm with hm|hm<;>rw[hk,hm]at hp<;>first|omega|simp_all
theorem get_set_ne:∀(t:Tr)(i j:Nat)(x:AV),i≠j->(t.set i x).get j=t.get j
 | .nil,_,_,_,_=>rfl
 | .node l v r,0,0,_,h=>absurd rfl h
 | .node l v r,0,j+1,_,_=>rfl
 | .node l v r,i+1,0,x,_=>by
  rw[Fa];cases Nat.beq (zqa i 1) 0<;>rfl
 | .node l v r,i+1,j+1,x,h=>by
  rw[Fa,Kw];cases hi:Nat.beq (zqa i 1) 0<;>cases hj:Nat.beq (zqa j 1) 0<;>simp only[cond_true,cond_false,Kw,hj]
  . exact get_set_ne r _ _ x (by grind[Go.AM.Tr.half_inj])
  . exact get_set_ne l _ _ x (by grind[Go.AM.Tr.half_inj])
theorem get_set_eq:∀(t:Tr)(i:Nat)(x:AV),(t.set i x).get i=if t.has i then x else .und
 | .nil,_,_=>rfl
 | .node l v r,0,_=>rfl
 | .node l v r,i+1,x=>by
  rw[Fa,has_succ];cases hi:Nat.beq (zqa i 1) 0<;>simp only[cond_true,cond_false,Kw,hi]
  . exact get_set_eq r _ x
  . exact get_set_eq l _ x
theorem has_set:∀(t:Tr)(i j:Nat)(x:AV),(t.set i x).has j=t.has j
 | .nil,_,_,_=>rfl
 | .node l v r,0,0,_=>rfl
 | .node l v r,0,j+1,_=>rfl
 | .node l v r,i+1,0,x=>by
  rw[Fa];cases Nat.beq (zqa i 1) 0<;>rfl
 | .node l v r,i+1,j+1,x=>by
  rw[Fa,has_succ];cases hi:Nat.beq (zqa i 1) 0<;>cases hj:Nat.beq (zqa j 1) 0<;>simp only[cond_true,cond_false,has_succ,hj]
  . exact has_set r _ _ x
  . exact has_set l _ _ x
theorem mk_zero(n:Nat):mk 0 n=.nil:=rfl
theorem mk_succ_zero(f:Nat):mk (f+1) 0=.nil:=rfl
theorem mk_succ(f k:Nat):mk (f+1) (k+1)=.node (mk f (zqe (k+1) 2)) .und (mk f (zqe k 2)):=rfl
theorem has_mk:∀(f n i:Nat),(mk f n).has i=true->i<n
 |0,_,_,h=>by simp[mk_zero]at h;cases h
 |f+1,0,i,h=>by simp[mk_succ_zero]at h;cases h
 |f+1,k+1,0,_=>Nat.succ_pos _
 | f+1,k+1,i+1,h=>by
  rw[mk_succ,has_succ]at h;have e1:zqb i 1=i/2:=zqg i 1;have e2:zqa i 1=i%2:=zqk i;have e3:zqe (k+1) 2=(k+1)/2:=rfl;have e4:zqe k 2=k/2:=rfl;rw[e1,e2,e3,e4]at h;rcases zqi i with hi|hi<;>rw[hi]at h
  . have:=has_mk f _ _ h;omega
  . have:=has_mk f _ _ h;omega
theorem get_mk:∀(f n i:Nat),(mk f n).get i=.und
 |0,_,_=>rfl
 |f+1,0,_=>rfl
 |f+1,k+1,0=>rfl
 | f+1,k+1,i+1=>by
  rw[mk_succ,Kw];cases Nat.beq (zqa i 1) 0<;>simp only[cond_true,cond_false]<;>exact get_mk f _ _
end Tr
theorem S3:∀(l:List AV)(i:Nat),Ep l i=l[i]?
 |[],_=>rfl
 |_::_,0=>rfl
 |_::r,i+1=>S3 r i
theorem K5:∀(l:List AV)(i:Nat),Er l i=l.drop i
 |[],i=>by cases i<;>rfl
 |_::_,0=>rfl
 |_::r,i+1=>K5 r i
theorem K6:∀(l:List AV)(i:Nat),Es l i=l.take i
 |[],i=>by cases i<;>rfl
 |_::_,0=>rfl
 |v::r,i+1=>congrArg (v:: ·) (K6 r i)
theorem Ay:∀(l:List AV)(i:Nat)(x:AV),setL l i x=l.set i x
 |[],i,_=>by cases i<;>rfl
 |_::_,0,_=>rfl
 |v::r,i+1,x=>congrArg (v:: ·) (Ay r i x)
theorem A9:∀(l:List AV),lenL l=l.length
 |[]=>rfl
 |_::r=>congrArg Nat.succ (A9 r)
theorem Ru:∀(l:List (AV×AV)),pA l=l.length
 |[]=>rfl
 |_::r=>congrArg Nat.succ (Ru r)
theorem u3:∀(l:List UInt8),o8 l=l.length
 |[]=>rfl
 |_::r=>congrArg Nat.succ (u3 r)
theorem Q0:∀(a b:List AV),appL a b=a++b
 |[],_=>rfl
 |v::r,b=>congrArg (v:: ·) (Q0 r b)
theorem By{α:Type}:∀(l:List AV)(f:List AV->α),Sp l f=f l
 |[],_=>rfl
 |v::r,f=>By r fun r=>f (v::r)
theorem Jn(te:TI)(es:List AV)(full:Bool)(xs:List AV)(h:Heap):Au te es full xs h=N7 (Nat.add (lenL es) (lenL xs)) fun n =>
 B6 (full&&Nat.ble (Nat.mul n te.bytes) 140737488355328&&j1 te.size es) (some (.msl h.next 0 n te.size,h.push (.row (appL es xs) te.size))):=by
 grind[Au,By]
theorem Sv(te:TI)(id off n:Nat)(xs:List AV)(h:Heap)(es:List AV)(sz:Nat):Ks te id off n xs h es sz=N7 (Nat.add n (lenL xs)) fun m =>
 B6 (Nat.ble (Nat.add off n) (lenL es)&&Nat.beq sz te.size&&Nat.ble (Nat.mul m te.bytes) 140737488355328) (some (.msl h.next 0 m sz,(h.del id).push (.row (appL (Es (Er es off) n) xs) sz))):=by
 grind[Ks,By]
theorem m6:∀(n:Nat)(v:AV),repL n v=List.replicate n v
 |0,_=>rfl
 |n+1,v=>congrArg (v:: ·) (m6 n v)
theorem mM:∀(l:List UInt8)(i:Nat),DH l i=l[i]?
 |[],_=>rfl
 |_::_,0=>rfl
 |_::r,i+1=>mM r i
theorem aV:∀(l:List (Nat×Nat))(i:Nat),Wv l i=l[i]?
 |[],_=>rfl
 |_::_,0=>rfl
 |_::r,i+1=>aV r i
theorem G9:∀(l:List AV),E8 l=true↔∀c∈l,okCell c=true
 |[]=>by simp[E8]
 | v::r=>by
  show(bif okCell v then E8 r else false)=true↔_
  cases h:okCell v<;>simp[h,G9 r]
theorem Az(sz:Nat):∀(l:List AV),L8 sz l=true↔∀c∈l,c.cells.length=sz
 |[]=>by simp[L8]
 | v :: r=>by
  show(bif Nat.beq (lenL v.cells) sz then L8 sz r else false)=true↔_
  rw[A9];cases h:Nat.beq v.cells.length sz
  . have:v.cells.length≠sz:=fun e=>by simp_all
    simp[this]
  . have:v.cells.length=sz:=zqj h
    simp[this,Az sz r]
theorem A1{α β:Type}{x:Option α}{f:α->Option β}{b:β}(h:A7 x f=some b):∃a,x=some a/\f a=some b:=by
 cases x with
 |none=>cases h
 |some a=>exact⟨a,rfl,h⟩
theorem B0{α:Type}{b:Bool}{x:Option α}{a:α}(h:B6 b x=some a):b=true/\x=some a:=by
 cases b with
 |false=>cases h
 |true=>exact⟨rfl,h⟩
theorem E5{a b:Nat}(h:Nat.beq a b=true):a=b:=zqj h
theorem E3{a b:Nat}(h:Nat.ble a b=true):a<=b:=zqh h
theorem M3{a b:Nat}(h:Nat.blt a b=true):a<b:=zqh h
theorem xX(k:IntKind):(pow2 k:Int)=2^k.bits:=by cases k<;>rfl
theorem sU(k:IntKind):0<pow2 k:=by cases k<;>decide
theorem xY(n:Int)(m:Nat)(h:0<m):(modN n m:Int)=n%(m:Int):=by
 cases n with
 |ofNat a=>rfl
 | negSucc a =>
  show((m-(a%m+1):Nat):Int)=_
  have hl:a%m<m:=Nat.mod_lt _ h;rw[Int.negSucc_emod a (by grind)];grind
theorem sV(k:IntKind)(m:Nat)(h:m<pow2 k):sC k m=(let m:Int:=m;if k.signed&&m>=(2^(k.bits-1):Int)then m-(2^k.bits:Int)else m):=by
 have key:∀(hf p:Nat),m<p->(bif Nat.ble hf m then Int.negSucc (Nat.sub (Nat.sub p m) 1)else Int.ofNat m)=if(hf:Int)<=(m:Int)then(m:Int)-(p:Int)else(m:Int):=by
  intro hf p hp;cases hb:Nat.ble hf m with
  | true =>
   have:=zqh hb
   grind
  | false =>
   have:¬hf<=m:=(by grind[Nat.ble_eq_true_of_le])
   grind
 unfold sC;rw[key _ _ h];cases k<;>simp[half,pow2,IntKind.signed,IntKind.bits]at h|- <;> omega
theorem eL(k:IntKind)(n:Int):sE k n=k.wrap n:=by
 have hp:=sU k;have hm:=xY n (pow2 k) hp;have hlt:modN n (pow2 k)<pow2 k:=by
  have:=Int.emod_lt_of_pos n (show(0:Int)<(pow2 k:Int) by omega)
  omega
 grind[sE,IntKind.wrap,sV,xX]
theorem X7(j k:IntKind):kindEq j k=true↔j=k:=by cases j<;>cases k<;>simp[kindEq,jO]
theorem x7(a b:Int):intEq a b=(a==b):=by
 rw[zqm,beq_iff_eq];cases a<;>cases b<;>simp only[intEq,Nat.beq_eq,Int.ofNat_eq_natCast,zqn,false_iff]<;>omega
theorem S6(a b:Int):intLe a b=decide (a<=b):=by
 rw[zqm,decide_eq_true_iff];cases a<;>cases b<;>simp only[intLe,Nat.ble_eq,Int.ofNat_eq_natCast,zqn,false_iff,true_iff]<;>omega
theorem Ni(a b:UInt8):Jh a b=(a==b):=by
 unfold Jh;rw[zqm];simp_all[UInt8.toNat_inj]
theorem Fb:∀(a b:List UInt8),Pj a b=(a==b)
 |[],[]=>rfl
 |[],_::_=>rfl
 |_::_,[]=>rfl
 | x::a,y::b=>by
  show(bif Jh x y then Pj a b else false)=_
  rw[Ni,Fb a b];grind
end Go.AM
/-
 The abstract machine: 'Rep': a value of the model reads as an abstract value; 'Ext': a later world; 'Sat': a world holds an abstract heap's objects.
-/
namespace Go.AM
structure Cx where
 μ:Nat->Nat×Nat×Nat
 nx:Nat
 own:Nat->Prop
 held:Nat->Prop
def _root_.Go.Value.oneC(v:Value):Bool:=match v with | .agg _=>false | .tuple _=>false|_=>true
def szOf(W:World)(b:Nat):Nat:=match W.heap[b]? with|some (.cells c _ _)=>c.size|_=>0
inductive Rep(W:World)(cx:Cx):Value->AV->Prop
 |int (k:IntKind) (n:Int):Rep W cx (.int k n) (.int k n)
 |bool (b:Bool):Rep W cx (.bool b) (.bool b)
 |str (s:ByteArray):Rep W cx (.string s) (.str s.data.toList)
 |agg (vs:Array Value) (cs:List AV) (hl:vs.size=cs.length) (h:∀(i:Nat) v c,vs[i]?=some v->cs[i]?=some c->Rep W cx v c):Rep W cx (.agg vs) (.agg cs)
 |tup (vs:Array Value) (cs:List AV) (hl:vs.size=cs.length) (h:∀(i:Nat) v c,vs[i]?=some v->cs[i]?=some c->Rep W cx v c):Rep W cx (.tuple vs) (.tup cs)
 | fsl (a:Option Addr) (b o n cap:Nat) (es:List AV) (full:Bool) (sz:Nat) (g:Nat->Nat->Value)
  (hn:es.length=n) (hc:n<=cap) (hf:full=true->cap=n)
  (ha:es≠[]->a=some ⟨b,o,none⟩/\¬cx.own b/\b<W.heap.size)
  (hsz:∀(i:Nat) e,es[i]?=some e->e.cells.length=sz)
  (hcell:∀(i:Nat) e (j:Nat) c,es[i]?=some e->e.cells[j]?=some c->W.cell? ⟨b,o+i*sz+j,none⟩=some (g i j))
  (hone:∀(i:Nat) e (j:Nat) c,es[i]?=some e->e.cells[j]?=some c->(g i j).oneC=true)
  (hrep:∀(i:Nat) e (j:Nat) c,es[i]?=some e->e.cells[j]?=some c->Rep W cx (g i j) c)
  (hnn:es=[]->full=false->a≠none):Rep W cx (.slice a n cap) (.fsl es full)
 | fptr (b o off:Nat) (v:AV) (g:Nat->Value) (ho:¬cx.own b) (hb:b<W.heap.size)
  (hcell:∀(j:Nat) c,v.cells[j]?=some c->W.cell? ⟨b,o+j,none⟩=some (g j))
  (hone:∀(j:Nat) c,v.cells[j]?=some c->(g j).oneC=true)
  (hrep:∀(j:Nat) c,v.cells[j]?=some c->Rep W cx (g j) c):Rep W cx (.pointer (some ⟨b,o+off,none⟩)) (.fptr v off)
 | msl (a:Option Addr) (n cap id off sz:Nat) (hid:id<cx.nx) (hz:(cx.μ id).2.2=sz) (hb:(cx.μ id).1<W.heap.size) (hc:n<=cap)
  (ha:cap≠0->a=some ⟨(cx.μ id).1,(cx.μ id).2.1+off*sz,none⟩/\(cx.μ id).2.1+(off+cap)*sz<=szOf W (cx.μ id).1)
  (hnn:a≠none):Rep W cx (.slice a n cap) (.msl id off n sz)
 |nilsl:Rep W cx (.slice none 0 0) .nilsl
 | ptr (id i off:Nat) (hid:id<cx.nx) (hb:(cx.μ id).1<W.heap.size):
  Rep W cx (.pointer (some ⟨(cx.μ id).1,(cx.μ id).2.1+i*(cx.μ id).2.2+off,none⟩)) (.ptr id i off)
 |nilptr:Rep W cx (.pointer none) .nilptr
 |nilmap:Rep W cx (.map none) .nilmap
 |map (id:Nat) (hid:id<cx.nx) (hb:(cx.μ id).1<W.heap.size):Rep W cx (.map (some (cx.μ id).1)) (.map id)
 | fn (f:Fn) (vs ws:Array Value) (cs ds:List AV) (hl:vs.size=cs.length) (hl':ws.size=ds.length)
  (h:∀(i:Nat) v c,vs[i]?=some v->cs[i]?=some c->Rep W cx v c) (h':∀(i:Nat) v c,ws[i]?=some v->ds[i]?=some c->Rep W cx v c):Rep W cx (.func f vs ws) (.fn f cs ds)
 |nilfn:Rep W cx .nilFunc .nilfn
 |iface (t:TypeId) (v:Value) (a:AV) (h:Rep W cx v a):Rep W cx (.iface t v) (.iface t a)
 |niliface:Rep W cx .nilIface .niliface
 |any (v:Value) (h:v.oneC=true):Rep W cx v .any
 |und (v:Value):Rep W cx v .und
theorem Rep.nil_fsl{W:World}{cx:Cx}{v:Value}(h:Rep W cx v .nilsl):Rep W cx v (.fsl [] true):=by
 cases h;exact .fsl none 0 0 0 0 [] true 0 (fun _ _=>undef) rfl (zqf _) (fun _=>rfl) (fun h=>absurd rfl h) (by simp) (by simp) (by simp) (by simp) (fun _ e=>by cases e)
def RepL(W:World)(cx:Cx)(vs:List Value)(cs:List AV):Prop:=vs.length=cs.length/\∀(i:Nat) v c,vs[i]?=some v->cs[i]?=some c->Rep W cx v c
structure Ext0(W:World)(cx:Cx)(W':World)(cx':Cx):Prop where
 nx:cx.nx<=cx'.nx
 mu:∀id,id<cx.nx->cx'.μ id=cx.μ id
 sz:W.heap.size<=W'.heap.size
 keep:∀b,b<W.heap.size->¬cx.own b->W'.heap[b]?=W.heap[b]?
 shape:∀b,b<W.heap.size->szOf W' b=szOf W b
 own:∀b,b<W.heap.size->cx'.own b->cx.own b
structure Ext(W:World)(cx:Cx)(W':World)(cx':Cx):Prop extends Ext0 W cx W' cx' where
 hold:∀b,b<W.heap.size->cx.held b->cx'.held b/\W'.heap[b]?=W.heap[b]?
 out:W'.os=W.os/\W'.tape=W.tape/\W'.output=W.output
theorem Ext0.refl(W:World)(cx:Cx):Ext0 W cx W cx:=⟨zqf _,fun _ _=>rfl,zqf _,fun _ _ _=>rfl,fun _ _=>rfl,fun _ _ h=>h⟩
theorem Ext0.trans{W W₁ W₂:World}{cx cx₁ cx₂:Cx}(h:Ext0 W cx W₁ cx₁)(h':Ext0 W₁ cx₁ W₂ cx₂):Ext0 W cx W₂ cx₂ where
 nx:=Nat.le_trans h.nx h'.nx
 mu id hi:=(h'.mu id (zqc hi h.nx)).trans (h.mu id hi)
 sz:=Nat.le_trans h.sz h'.sz
 keep b hb ho:=(h'.keep b (zqc hb h.sz) fun hw=>ho (h.own b hb hw)).trans (h.keep b hb ho)
 shape b hb:=(h'.shape b (zqc hb h.sz)).trans (h.shape b hb)
 own b hb hw:=h.own b hb (h'.own b (zqc hb h.sz) hw)
theorem Ext.refl(W:World)(cx:Cx):Ext W cx W cx:=⟨Ext0.refl W cx,fun _ _ h=>⟨h,rfl⟩,rfl,rfl,rfl⟩
theorem Ext.trans{W W₁ W₂:World}{cx cx₁ cx₂:Cx}(h:Ext W cx W₁ cx₁)(h':Ext W₁ cx₁ W₂ cx₂):Ext W cx W₂ cx₂ where
 toExt0:=h.toExt0.trans h'.toExt0
 hold b hb hw:=by
  obtain⟨h1,h2⟩:=h.hold b hb hw;obtain⟨h3,h4⟩:=h'.hold b (zqc hb h.sz) h1;grind
 out:=⟨h'.out.1.trans h.out.1,h'.out.2.1.trans h.out.2.1,h'.out.2.2.trans h.out.2.2⟩
theorem Cz{W W':World}{b:Nat}(h:W'.heap[b]?=W.heap[b]?)(o:Nat):W'.cell? ⟨b,o,none⟩=W.cell? ⟨b,o,none⟩:=by
 unfold World.cell?;rw[h]
theorem Rep.mono0{W W':World}{cx cx':Cx}(he:Ext0 W cx W' cx'){v:Value}{a:AV}(h:Rep W cx v a):Rep W' cx' v a:=by
 induction h with
 |int k n=>exact .int k n
 |bool b=>exact .bool b
 |str s=>exact .str s
 |agg vs cs hl _ ih=>exact .agg vs cs hl ih
 |tup vs cs hl _ ih=>exact .tup vs cs hl ih
 | fsl a b o n cap es full sz g hn hc hf ha hsz hcell hone _ hnn ih =>
  refine .fsl a b o n cap es full sz g hn hc hf (fun hne=>?_) hsz (fun i e j c h1 h2=>?_) hone ih hnn
  . obtain⟨h1,h2,h3⟩:=ha hne
    exact⟨h1,fun hw=>h2 (he.own _ h3 hw),zqc h3 he.sz⟩
  . have hne:es≠[]:=fun e0=>by grind
    obtain⟨_,h4,h3⟩:=ha hne;rw[Cz (he.keep b h3 h4)];grind
 | fptr b o off v g ho hb hcell hone _ ih =>
  refine .fptr b o off v g (fun hw=>ho (he.own _ hb hw)) (zqc hb he.sz) (fun j c h1=>?_) hone ih;rw[Cz (he.keep b hb ho)];grind
 |nilsl=>exact .nilsl
 | msl a n cap id off sz hid hz hb hc ha hnn =>
  refine .msl a n cap id off sz (zqc hid he.nx) ?_ ?_ hc ?_ hnn
  . rw[he.mu id hid];exact hz
  . rw[he.mu id hid];exact zqc hb he.sz
  . rw[he.mu id hid];intro h0;obtain⟨h1,h2⟩:=ha h0
    exact⟨h1,by rw[he.shape _ hb];exact h2⟩
 | ptr id i off hid hb =>
  have hm:=he.mu id hid;rw[<-hm];exact .ptr id i off (zqc hid he.nx) (by rw[hm];exact zqc hb he.sz)
 |nilptr=>exact .nilptr
 |nilmap=>exact .nilmap
 | map id hid hb =>
  have hm:=he.mu id hid;rw[<-hm];exact .map id (zqc hid he.nx) (by rw[hm];exact zqc hb he.sz)
 |fn f vs ws cs ds hl hl' _ _ ih ih'=>exact .fn f vs ws cs ds hl hl' ih ih'
 |nilfn=>exact .nilfn
 |iface t v a _ ih=>exact .iface t v a ih
 |niliface=>exact .niliface
 |any v h=>exact .any v h
 |und v=>exact .und v
theorem Rep.mono{W W':World}{cx cx':Cx}(he:Ext W cx W' cx'){v:Value}{a:AV}(h:Rep W cx v a):Rep W' cx' v a:=h.mono0 he.toExt0
theorem RepL.mono{W W':World}{cx cx':Cx}(he:Ext W cx W' cx'){vs:List Value}{cs:List AV}(h:RepL W cx vs cs):RepL W' cx' vs cs:=
 ⟨h.1,fun i v c h1 h2=>(h.2 i v c h1 h2).mono he⟩
theorem RepL.nil{W:World}{cx:Cx}:RepL W cx [] []:=⟨rfl,fun i v c h=>by simp at h⟩
theorem RepL.cons{W:World}{cx:Cx}{v:Value}{c:AV}{vs:List Value}{cs:List AV}(h:Rep W cx v c)(h':RepL W cx vs cs):RepL W cx (v::vs) (c::cs):=
 ⟨by simp[h'.1],fun i u d h1 h2=>by
   cases i with
   |zero=>grind
   |succ i=>simp at h1 h2;exact h'.2 i u d h1 h2⟩
theorem RepL.append{W:World}{cx:Cx}:∀{vs:List Value}{cs:List AV}{vs':List Value}{cs':List AV},RepL W cx vs cs->RepL W cx vs' cs'->RepL W cx (vs++vs') (cs++cs')
 |[],[],_,_,_,h'=>h'
 |[],_::_,_,_,h,_=>by have:=h.1;simp at this
 |_::_,[],_,_,h,_=>by have:=h.1;simp at this
 | v::vs,c::cs,_,_,h,h'=>by
  refine .cons (h.2 0 v c rfl rfl) (RepL.append ⟨by have:=h.1;grind,fun i u d h1 h2=>h.2 (i+1) u d (by grind) (by grind)⟩ h')
theorem RepL.take{W:World}{cx:Cx}{vs:List Value}{cs:List AV}(h:RepL W cx vs cs)(n:Nat):RepL W cx (vs.take n) (cs.take n):=
 ⟨by simp[h.1],fun i v c h1 h2=>by
   rw[List.getElem?_take]at h1 h2;split at h1
   . rename_i hi;rw[if_pos hi]at h2;exact h.2 i v c h1 h2
   . cases h1⟩
theorem RepL.drop{W:World}{cx:Cx}{vs:List Value}{cs:List AV}(h:RepL W cx vs cs)(n:Nat):RepL W cx (vs.drop n) (cs.drop n):=
 ⟨by simp[h.1],fun i v c h1 h2=>by rw[List.getElem?_drop]at h1 h2;exact h.2 _ v c h1 h2⟩
theorem RepL.get{W:World}{cx:Cx}{vs:List Value}{cs:List AV}(h:RepL W cx vs cs){i:Nat}{c:AV}(hc:cs[i]?=some c):∃v,vs[i]?=some v/\Rep W cx v c:=by
 have hi:i<cs.length:=by
  grind
 have hv:vs[i]?=some (vs[i]'(h.1▸hi)):=zqp _;exact⟨_,hv,h.2 i _ c hv hc⟩
def Ww(vs:List Value):Prop:=∀v∈vs,v.oneC=true
theorem Rep.cells{W:World}{cx:Cx}{v:Value}{a:AV}(h:Rep W cx v a)(hu:a≠.und):RepL W cx v.cells.toList a.cells:=by
 have one:∀{v:Value}{a:AV},Rep W cx v a->(∀cs,v≠.agg cs)->(∀cs,a≠.agg cs)->RepL W cx v.cells.toList a.cells:=by
  intro v a h hv ha;have e1:v.cells=#[v]:=by cases v<;>first|rfl|grind
  have e2:a.cells=[a]:=by cases a<;>first|rfl|grind
  rw[e1,e2];exact .cons h .nil
 cases h with
 |agg vs cs hl h=>exact⟨by grind[Value.cells,AV.cells],fun i v c h1 h2=>h i v c (by grind[Value.cells]) h2⟩
 |any v h=>exact one (.any v h) (fun cs e=>by subst e;cases h) (fun _ e=>by cases e)
 |und v=>grind
 |int k n=>exact one (.int k n) (fun _ e=>by cases e) (fun _ e=>by cases e)
 |bool b=>exact one (.bool b) (fun _ e=>by cases e) (fun _ e=>by cases e)
 |str s=>exact one (.str s) (fun _ e=>by cases e) (fun _ e=>by cases e)
 |tup vs cs hl h=>exact one (.tup vs cs hl h) (fun _ e=>by cases e) (fun _ e=>by cases e)
 |fsl a b o n cap es full sz g hn hc hf ha hsz hcell hone hrep hnn=>exact one (.fsl a b o n cap es full sz g hn hc hf ha hsz hcell hone hrep hnn) (fun _ e=>by cases e) (fun _ e=>by cases e)
 |fptr b o off v g ho hb hcell hone hrep=>exact one (.fptr b o off v g ho hb hcell hone hrep) (fun _ e=>by cases e) (fun _ e=>by cases e)
 |nilsl=>exact one .nilsl (fun _ e=>by cases e) (fun _ e=>by cases e)
 |msl a n cap id off sz hid hz hb hc ha hnn=>exact one (.msl a n cap id off sz hid hz hb hc ha hnn) (fun _ e=>by cases e) (fun _ e=>by cases e)
 |ptr id i off hid hb=>exact one (.ptr id i off hid hb) (fun _ e=>by cases e) (fun _ e=>by cases e)
 |nilptr=>exact one .nilptr (fun _ e=>by cases e) (fun _ e=>by cases e)
 |nilmap=>exact one .nilmap (fun _ e=>by cases e) (fun _ e=>by cases e)
 |map id hid hb=>exact one (.map id hid hb) (fun _ e=>by cases e) (fun _ e=>by cases e)
 |fn f vs ws cs ds hl hl' h h'=>exact one (.fn f vs ws cs ds hl hl' h h') (fun _ e=>by cases e) (fun _ e=>by cases e)
 |nilfn=>exact one .nilfn (fun _ e=>by cases e) (fun _ e=>by cases e)
 |iface t v a h=>exact one (.iface t v a h) (fun _ e=>by cases e) (fun _ e=>by cases e)
 |niliface=>exact one .niliface (fun _ e=>by cases e) (fun _ e=>by cases e)
theorem Rep.oneC{W:World}{cx:Cx}{v:Value}{a:AV}(h:Rep W cx v a)(ho:okCell a=true):v.oneC=true:=by
 cases h<;>first|rfl|assumption|(exact absurd ho (by decide))|(exact absurd ho (by simp[okCell]))
theorem RepL.one{W:World}{cx:Cx}{vs:List Value}{cs:List AV}(h:RepL W cx vs cs)(ho:∀c∈cs,okCell c=true):Ww vs:=by
 intro v hv;obtain⟨i,hi⟩:=List.getElem?_of_mem hv;have hl:i<cs.length:=by
  rw[<-h.1];grind
 exact(h.2 i v _ hi (zqp hl)).oneC (ho _ (List.getElem_mem hl))
def QE(es:List (AV×AV)):Prop:=∀q∈es,∀q'∈es,GQ q.1 q'.1≠none
def Q1(W:World)(cx:Cx)(p:Nat×Nat×Nat):AObj->Prop
 | .row es sz=>p.2.2=sz/\∃(c:Array Value)(t:TypeId)(g:Nat->Nat->Value),W.heap[p.1]?=some (.cells c t (0,0))/\p.2.1+es.length*sz<=c.size/\
  (∀(i:Nat) e,es[i]?=some e->e.cells.length=sz)/\
  (∀(i:Nat) e (j:Nat) c',es[i]?=some e->e.cells[j]?=some c'->c[p.2.1+i*sz+j]?=some (g i j)/\(g i j).oneC=true/\Rep W cx (g i j) c')
 | .mapo es=>∃(ents:Array MapEntry)(clock:Nat)(l:List MapEntry),W.heap[p.1]?=some (.map ents clock)/\l.Perm ents.toList/\l.length=es.length/\
  (∀(i:Nat) e q,l[i]?=some e->es[i]?=some q->Rep W cx e.key q.1/\Rep W cx e.val q.2)/\MapKept.Stamped ents clock/\QE es
structure GlOk(E:Env)(W:World)(cx:Cx):Prop where
 rep:∀g v,E.gl g=some v->Rep W cx (.pointer (some ⟨g,0,none⟩)) (.fptr v 0)
 int:∀g,E.mx=some g->(∃m,W.cell? ⟨g,0,none⟩=some (.int .i64 m))/\¬cx.own g/\g<W.heap.size
theorem GlOk.mono0{E:Env}{W W':World}{cx cx':Cx}(h:GlOk E W cx)(he:Ext0 W cx W' cx'):GlOk E W' cx':=
 ⟨fun g v hg=>(h.rep g v hg).mono0 he,fun g hg=>by
   obtain⟨⟨m,h1⟩,h2,h3⟩:=h.int g hg;exact⟨⟨m,by rw[Cz (he.keep g h3 h2)];exact h1⟩,fun hw=>h2 (he.own g h3 hw),zqc h3 he.sz⟩⟩
theorem GlOk.mono{E:Env}{W W':World}{cx cx':Cx}(h:GlOk E W cx)(he:Ext W cx W' cx'):GlOk E W' cx':=h.mono0 he.toExt0
structure Sat(E:Env)(W:World)(cx:Cx)(h:Heap):Prop where
 nx:h.next=cx.nx
 objs:∀id o,h.get id=some o->id<cx.nx/\cx.own (cx.μ id).1/\(cx.μ id).1<W.heap.size/\Q1 W cx (cx.μ id) o
 inj:∀id id' o o',h.get id=some o->h.get id'=some o'->(cx.μ id).1=(cx.μ id').1->id=id'
 gl:GlOk E W cx
 held:∀b,cx.held b->b<W.heap.size/\cx.own b
 free:∀id o,h.get id=some o->¬cx.held (cx.μ id).1
structure FrRep(W:World)(cx:Cx)(tmps:Array Value)(fr:Tr):Prop where
 rep:∀i,Rep W cx (tmps.getD i undef) (fr.get i)
 has:∀i,fr.has i=true->i<tmps.size
theorem FrRep.mono{W W':World}{cx cx':Cx}(he:Ext W cx W' cx'){tmps:Array Value}{fr:Tr}(h:FrRep W cx tmps fr):FrRep W' cx' tmps fr:=
 ⟨fun i=>(h.rep i).mono he,h.has⟩
theorem FrRep.mono0{W W':World}{cx cx':Cx}(he:Ext0 W cx W' cx'){tmps:Array Value}{fr:Tr}(h:FrRep W cx tmps fr):FrRep W' cx' tmps fr:=
 ⟨fun i=>(h.rep i).mono0 he,h.has⟩
theorem FrRep.put{W:World}{cx:Cx}{a:Act}{fr:Tr}(h:FrRep W cx a.tmps fr)(d:Option Tmp){v:Value}{x:AV}(hv:Rep W cx v x):FrRep W cx (a.put d v).tmps (setDst d x fr):=by
 cases d with
 |none=>exact h
 | some d =>
  refine⟨fun i=>?_,fun i hi=>?_⟩
  . show Rep W cx ((a.tmps.setIfInBounds d v).getD i undef) ((fr.set d x).get i)
    by_cases hid:d=i
    . subst hid
      rw[Tr.get_set_eq];split
      . rename_i hh
        have hlt:=h.has _ hh;simp_all
      . exact .und _
    . rw[Tr.get_set_ne _ _ _ _ hid]
      have:=h.rep i
      simp_all
  . have hi':(fr.set d x).has i=true:=hi
    rw[Tr.has_set]at hi';show i<(a.tmps.setIfInBounds d v).size
    simpa using h.has i hi'
namespace Heap
theorem beq_false{a b:Nat}(h:a≠b):Nat.beq a b=false:=by
 grind[zqj]
theorem beq_refl(a:Nat):Nat.beq a a=true:=by simp
theorem _root_.Go.AM.HT.get_node(l:HT)(v:Option AObj)(r:HT)(k:Nat):(HT.node l v r).get (k+1)=bif Nat.beq (zqa k 1) 0 then l.get (zqb k 1)else r.get (zqb k 1):=by
 show Nat.rec (motive:=fun _=>Option AObj) (l.get (zqb k 1)) (fun _ _=>r.get (zqb k 1)) (zqa k 1)=_
 generalize zqa k 1=m;cases m<;>rfl
theorem _root_.Go.AM.HT.path_succ(x:Option AObj)(f k:Nat):HT.path x (f+1) (k+1)=bif Nat.beq (zqa k 1) 0 then .node (HT.path x f (zqb k 1)) none .nil else .node .nil none (HT.path x f (zqb k 1)):=by
 show Nat.rec (motive:=fun _=>HT) (.node (HT.path x f (zqb k 1)) none .nil) (fun _ _=>.node .nil none (HT.path x f (zqb k 1))) (zqa k 1)=_
 generalize zqa k 1=m;cases m<;>rfl
theorem _root_.Go.AM.HT.put_succ(x:Option AObj)(f:Nat)(l:HT)(v:Option AObj)(r:HT)(k:Nat):(HT.node l v r).put x f (k+1)=bif Nat.beq (zqa k 1) 0 then .node (l.put x f (zqb k 1)) v r else .node l v (r.put x f (zqb k 1)):=by
 show Nat.rec (motive:=fun _=>HT) (.node (l.put x f (zqb k 1)) v r) (fun _ _=>.node l v (r.put x f (zqb k 1))) (zqa k 1)=_
 generalize zqa k 1=m;cases m<;>rfl
theorem _root_.Go.AM.HT.get_path(x:Option AObj):∀(f i j:Nat),i<f->(HT.path x f i).get j=if i=j then x else none
 |0,i,j,h=>absurd h (Nat.not_lt_zero _)
 |f+1,0,0,_=>rfl
 | f+1,0,j+1,_=>by
  show(HT.node .nil x .nil).get (j+1)=_
  rw[HT.get_node,if_neg (by omega)];cases Nat.beq (zqa j 1) 0<;>rfl
 | f + 1,k+1,j,h=>by
  have e1:zqb k 1=k/2:=zqg k 1;have hlt:zqb k 1<f:=by grind
  rw[HT.path_succ];cases j with
  | zero =>
   rw[if_neg (by omega)];cases Nat.beq (zqa k 1) 0<;>rfl
  | succ j =>
   cases hb:Nat.beq (zqa k 1) 0<;>cases hb':Nat.beq (zqa j 1) 0<;>simp only[cond_true,cond_false]<;>rw[HT.get_node,hb']<;>simp only[cond_true,cond_false]
   . rw[HT.get_path x f _ _ hlt]
     by_cases hkj:k=j
     . grind
     . rw[if_neg (by grind[Go.AM.Tr.half_inj]),if_neg (by omega)]
   . rw [if_neg (fun e=>by
      have:k=j:=by omega
      subst this;rw[hb]at hb';cases hb')]
     rfl
   . rw [if_neg (fun e=>by
      have:k=j:=by omega
      subst this;rw[hb]at hb';cases hb')]
     rfl
   . rw[HT.get_path x f _ _ hlt]
     by_cases hkj:k=j
     . grind
     . rw[if_neg (by grind[Go.AM.Tr.half_inj]),if_neg (by omega)]
theorem _root_.Go.AM.HT.get_put(x:Option AObj)(f:Nat):∀(t:HT)(i j:Nat),i<f->(t.put x f i).get j=if i=j then x else t.get j
 | .nil,i,j,h=>HT.get_path x f i j h
 | .node l v r,0,0,_=>rfl
 | .node l v r,0,j+1,_=>by
  show(HT.node l x r).get (j+1)=_
  simp_all[HT.get_node]
 | .node l v r,k+1,j,h=>by
  have e1:zqb k 1=k/2:=zqg k 1;have hlt:zqb k 1<f:=by grind
  rw[HT.put_succ];cases j with
  | zero =>
   rw[if_neg (by omega)];cases Nat.beq (zqa k 1) 0<;>rfl
  | succ j =>
   rw[HT.get_node l v r];by_cases hkj:k=j
   . subst hkj
     rw[if_pos rfl];cases hb:Nat.beq (zqa k 1) 0<;>simp only[cond_true,cond_false]<;>rw[HT.get_node,hb]<;>simp only[cond_true,cond_false]
     . rw[HT.get_put x f r _ _ hlt,if_pos rfl]
     . rw[HT.get_put x f l _ _ hlt,if_pos rfl]
   . rw[if_neg (by omega)]
     cases hb:Nat.beq (zqa k 1) 0<;>cases hb':Nat.beq (zqa j 1) 0<;>simp only[cond_true,cond_false]<;>rw[HT.get_node,hb']<;>simp only[cond_true,cond_false]
     . rw[HT.get_put x f r _ _ hlt,if_neg (by grind[Go.AM.Tr.half_inj])]
     . rw[HT.get_put x f l _ _ hlt,if_neg (by grind[Go.AM.Tr.half_inj])]
theorem _root_.Go.AM.HT.get_trunc:∀(o n:HT)(i:Nat),(o.trunc n).get i=n.get i\/((o.trunc n).get i=none/\o.get i=none)
 | .nil,n,i=>.inr ⟨rfl,rfl⟩
 | .node l v r,n,0=>.inl (by cases n<;>rfl)
 | .node l v r,n,k+1=>by
  show(HT.node (l.trunc n.left) n.mid (r.trunc n.right)).get (k+1)=_\/((HT.node (l.trunc n.left) n.mid (r.trunc n.right)).get (k+1)=_/\_)
  have e:n.get (k+1)=bif Nat.beq (zqa k 1) 0 then n.left.get (zqb k 1)else n.right.get (zqb k 1):=by
   cases n with
   |nil=>cases Nat.beq (zqa k 1) 0<;>rfl
   |node a b c=>exact HT.get_node a b c k
  rw[HT.get_node,HT.get_node,e];cases Nat.beq (zqa k 1) 0
  . exact HT.get_trunc r n.right _
  . exact HT.get_trunc l n.left _
theorem get_set_ne(h:Heap){i j:Nat}(x:AObj)(hn:i≠j):(h.set i x).get j=h.get j:=(HT.get_put _ _ _ _ _ (zqd i)).trans (if_neg hn)
theorem get_set_eq(h:Heap){i:Nat}(x:AObj){o:AObj}(ho:h.get i=some o):(h.set i x).get i=some x:=(HT.get_put _ _ _ _ _ (zqd i)).trans (if_pos rfl)
theorem get_del_ne(h:Heap){i j:Nat}(hn:i≠j):(h.del i).get j=h.get j:=(HT.get_put _ _ _ _ _ (zqd i)).trans (if_neg hn)
theorem get_del_eq(h:Heap)(i:Nat):(h.del i).get i=none:=(HT.get_put _ _ _ _ _ (zqd i)).trans (if_pos rfl)
theorem get_push_eq(h:Heap)(x:AObj):(h.push x).get h.next=some x:=(HT.get_put _ _ _ _ _ (zqd h.next)).trans (if_pos rfl)
theorem get_push_ne(h:Heap)(x:AObj){j:Nat}(hn:j≠h.next):(h.push x).get j=h.get j:=(HT.get_put _ _ _ _ _ (zqd h.next)).trans (if_neg fun e=>hn e.symm)
theorem onRow_some{β:Type}{h:Heap}{i:Nat}{f:List AV->Nat->Option β}{x:β}(hx:h.onRow i none f=some x):∃es sz,h.get i=some (.row es sz)/\f es sz=some x:=by
 unfold onRow at hx;grind
theorem onMapo_some{β:Type}{h:Heap}{i:Nat}{f:List (AV×AV)->Option β}{x:β}(hx:h.onMapo i none f=some x):∃es,h.get i=some (.mapo es)/\f es=some x:=by
 unfold onMapo at hx;grind
end Heap
end Go.AM
/-
 The abstract machine: steps of worlds: a new object,a turned one,one that is let go.
-/
namespace Go.AM
theorem Q2{W:World}{b:Nat}{o:Obj}(h:W.heap[b]?=some o):b<W.heap.size:=by
 grind
theorem Q1.mono0{W W':World}{cx cx':Cx}(he:Ext0 W cx W' cx'){p:Nat×Nat×Nat}{o:AObj}(hb:W'.heap[p.1]?=W.heap[p.1]?)(h:Q1 W cx p o):Q1 W' cx' p o:=by
 cases o with
 | row es sz =>
  obtain⟨h1,c,t,g,h2,h3,h4,h5⟩:=h;exact⟨h1,c,t,g,by grind,h3,h4,fun i e j c' a b=>let⟨x,y,z⟩:=h5 i e j c' a b;⟨x,y,z.mono0 he⟩⟩
 | mapo es =>
  obtain⟨ents,clock,l,h1,hp,h2,h3,h4,h5⟩:=h;exact⟨ents,clock,l,by grind,hp,h2,fun i e q a b=>let⟨x,y⟩:=h3 i e q a b;⟨x.mono0 he,y.mono0 he⟩,h4,h5⟩
theorem Q1.mono{W W':World}{cx cx':Cx}(he:Ext W cx W' cx'){p:Nat×Nat×Nat}{o:AObj}(hb:W'.heap[p.1]?=W.heap[p.1]?)(h:Q1 W cx p o):Q1 W' cx' p o:=h.mono0 he.toExt0 hb
def Cx.push(cx:Cx)(b sz:Nat):Cx:=⟨fun i=>if i=cx.nx then(b,0,sz)else cx.μ i,cx.nx+1,fun x=>cx.own x\/x=b,cx.held⟩
theorem Cx.push_new(cx:Cx)(b sz:Nat):(cx.push b sz).μ cx.nx=(b,0,sz):=by simp[Cx.push]
theorem Cx.push_old(cx:Cx)(b sz:Nat){i:Nat}(h:i<cx.nx):(cx.push b sz).μ i=cx.μ i:=by
 grind[Cx.push]
theorem heap_alloc_old(W:World)(o:Obj){b:Nat}(h:b<W.heap.size):(W.alloc o).heap[b]?=W.heap[b]?:=by
 show(W.heap.push o)[b]?=_
 grind
theorem K7(W:World)(o:Obj):(W.alloc o).heap[W.heap.size]?=some o:=by
 show(W.heap.push o)[W.heap.size]?=_
 simp
theorem Ext.alloc(W:World)(cx:Cx)(o:Obj)(sz:Nat):Ext W cx (W.alloc o) (cx.push W.heap.size sz) where
 nx:=Nat.le_succ _
 mu id h:=cx.push_old _ _ h
 sz:=by simp
 keep b hb _:=heap_alloc_old W o hb
 shape b hb:=by grind[szOf,heap_alloc_old]
 own b hb h:=by rcases h with h|h;exact h;omega
 hold b hb h:=⟨h,heap_alloc_old W o hb⟩
 out:=⟨rfl,rfl,rfl⟩
theorem Sat.push{E:Env}{W:World}{cx:Cx}{h:Heap}(hs:Sat E W cx h)(o:Obj)(x:AObj)(sz:Nat)
 (hx:Q1 (W.alloc o) (cx.push W.heap.size sz) (W.heap.size,0,sz) x):Sat E (W.alloc o) (cx.push W.heap.size sz) (h.push x) where
 nx:=by show h.next+1=cx.nx+1;rw[hs.nx]
 objs id y hy:=by
  have he:=Ext.alloc W cx o sz;by_cases hid:id=h.next
  . subst hid
    rw[Heap.get_push_eq]at hy;cases hy;rw[hs.nx,Cx.push_new];exact⟨zqd _,Or.inr rfl,by simp,hx⟩
  . rw[Heap.get_push_ne _ _ hid]at hy
    obtain⟨h1,h2,h3,h4⟩:=hs.objs id y hy;rw[Cx.push_old _ _ _ h1];exact⟨zql h1,Or.inl h2,by simp;omega,h4.mono he (heap_alloc_old W o h3)⟩
 inj id id' y y' hy hy' heq:=by
  by_cases hid:id=h.next<;>by_cases hid':id'=h.next
  . grind
  . rw[Heap.get_push_ne _ _ hid']at hy'
    obtain⟨h1,_,h3,_⟩:=hs.objs id' y' hy';rw[hid,hs.nx,Cx.push_new,Cx.push_old _ _ _ h1]at heq;grind
  . rw[Heap.get_push_ne _ _ hid]at hy
    obtain⟨h1,_,h3,_⟩:=hs.objs id y hy;rw[hid',hs.nx,Cx.push_new,Cx.push_old _ _ _ h1]at heq;grind
  . rw[Heap.get_push_ne _ _ hid]at hy
    rw[Heap.get_push_ne _ _ hid']at hy';have h1:=(hs.objs id y hy).1;have h1':=(hs.objs id' y' hy').1;rw[Cx.push_old _ _ _ h1,Cx.push_old _ _ _ h1']at heq;exact hs.inj id id' y y' hy hy' heq
 gl:=hs.gl.mono (Ext.alloc W cx o sz)
 held b hb:=⟨zqc (hs.held b hb).1 (Ext.alloc W cx o sz).sz,Or.inl (hs.held b hb).2⟩
 free id y hy:=by
  by_cases hid:id=h.next
  . subst hid
    rw[hs.nx,Cx.push_new];exact fun hh=>Nat.lt_irrefl _ (hs.held _ hh).1
  . rw[Heap.get_push_ne _ _ hid]at hy
    rw[Cx.push_old _ _ _ (hs.objs id y hy).1];exact hs.free id y hy
def setBlock(W:World)(b:Nat)(o:Obj):World:={W with heap:=W.heap.setIfInBounds b o}
theorem In(W:World)(b:Nat)(o:Obj):(setBlock W b o).heap.size=W.heap.size:=by simp[setBlock]
theorem setBlock_ne(W:World){b b':Nat}(o:Obj)(h:b≠b'):(setBlock W b o).heap[b']?=W.heap[b']?:=by
 grind[setBlock]
theorem Ba(W:World){b:Nat}(o:Obj)(h:b<W.heap.size):(setBlock W b o).heap[b]?=some o:=by
 simp[setBlock,h]
theorem Sw(W:World)(b:Nat)(o o':Obj):setBlock (setBlock W b o) b o'=setBlock W b o':=by
 simp[setBlock]
theorem Ext.set{W:World}{cx:Cx}{b:Nat}(o:Obj)(ho:cx.own b)(hh:¬cx.held b)(hs:∀c t f,W.heap[b]?=some (.cells c t f)->∃c' t' f',o=.cells c' t' f'/\c'.size=c.size)
 (hs':(∀c t f,W.heap[b]?≠some (.cells c t f))->(∀c t f,o≠.cells c t f)):Ext W cx (setBlock W b o) cx where
 nx:=zqf _
 mu _ _:=rfl
 sz:=by simp_all[In]
 keep b' _ hno:=setBlock_ne W o fun e=>hno (e▸ho)
 shape b' hb':=by
  by_cases e:b=b'
  . subst e
    unfold szOf;rw[Ba W o hb'];grind
  grind[szOf,setBlock_ne]
 own _ _ h:=h
 hold b' _ h:=(by grind[Go.AM.setBlock_ne])
 out:=⟨rfl,rfl,rfl⟩
theorem Sat.set{E:Env}{W W':World}{cx:Cx}{h:Heap}(hs:Sat E W cx h)(he:Ext W cx W' cx){id:Nat}{x₀:AObj}(hg:h.get id=some x₀)(x:AObj)
 (hk:∀b,b≠(cx.μ id).1->W'.heap[b]?=W.heap[b]?)(hx:Q1 W' cx (cx.μ id) x):Sat E W' cx (h.set id x) where
 nx:=hs.nx
 objs i y hy:=by
  by_cases hid:i=id
  . subst hid
    rw[Heap.get_set_eq _ _ hg]at hy;cases hy;obtain⟨h1,h2,h3,_⟩:=hs.objs i x₀ hg;exact⟨h1,h2,zqc h3 he.sz,hx⟩
  . rw[Heap.get_set_ne _ _ (fun e=>hid e.symm)]at hy
    obtain⟨h1,h2,h3,h4⟩:=hs.objs i y hy;exact⟨h1,h2,zqc h3 he.sz,h4.mono he (hk _ fun e=>hid (hs.inj i id y x₀ hy hg e))⟩
 inj i j y y' hy hy' heq:=by
  have ex:∀k z,(h.set id x).get k=some z->∃z',h.get k=some z':=by
   grind[Heap.get_set_ne]
  obtain⟨z,hz⟩:=ex i y hy;obtain⟨z',hz'⟩:=ex j y' hy';exact hs.inj i j z z' hz hz' heq
 gl:=hs.gl.mono he
 held b hb:=⟨zqc (hs.held b hb).1 he.sz,(hs.held b hb).2⟩
 free i y hy:=by
  by_cases hid:i=id
  . subst hid;exact hs.free i x₀ hg
  . rw[Heap.get_set_ne _ _ (fun e=>hid e.symm)]at hy;exact hs.free i y hy
theorem Ext0.of_heap{W W':World}{cx:Cx}(hh:W'.heap=W.heap):Ext0 W cx W' cx:=
 ⟨zqf _,fun _ _=>rfl,by grind,fun _ _ _=>by rw[hh],fun _ _=>by grind[szOf],fun _ _ h=>h⟩
theorem Sat.mono{E:Env}{W W':World}{cx:Cx}{h:Heap}(hs:Sat E W cx h)(hh:W'.heap=W.heap):Sat E W' cx h:=by
 have he:Ext0 W cx W' cx:=Ext0.of_heap hh;exact⟨hs.nx,fun id o ho=>let⟨a,b,c,d⟩:=hs.objs id o ho;⟨a,b,by grind,d.mono0 he (by rw[hh])⟩,hs.inj,hs.gl.mono0 he,fun b hb=>by rw[hh];exact hs.held b hb,hs.free⟩
theorem Ext.of_heap{W W':World}{cx:Cx}(hh:W'.heap=W.heap)(ho:W'.os=W.os/\W'.tape=W.tape/\W'.output=W.output):Ext W cx W' cx:=
 ⟨Ext0.of_heap hh,fun _ _ h=>⟨h,by rw[hh]⟩,ho⟩
theorem Sat.low{E:Env}{W:World}{cx:Cx}{h:Heap}(hs:Sat E W cx h)(l:List Nat):Sat E W cx {h with tch:=l}:=⟨hs.nx,hs.objs,hs.inj,hs.gl,hs.held,hs.free⟩
theorem Sat.del{E:Env}{W:World}{cx:Cx}{h:Heap}(hs:Sat E W cx h)(id:Nat):Sat E W cx (h.del id) where
 nx:=hs.nx
 objs i y hy:=by
  by_cases hid:i=id
  . grind[Heap.get_del_eq]
  . rw[Heap.get_del_ne _ (fun e=>hid e.symm)]at hy;exact hs.objs i y hy
 inj i j y y' hy hy' heq:=by
  by_cases hi:i=id
  . grind[Heap.get_del_eq]
  . by_cases hj:j=id
    . grind[Heap.get_del_eq]
    . rw[Heap.get_del_ne _ (fun e=>hi e.symm)]at hy
      rw[Heap.get_del_ne _ (fun e=>hj e.symm)]at hy';exact hs.inj i j y y' hy hy' heq
 gl:=hs.gl
 held:=hs.held
 free i y hy:=by
  by_cases hid:i=id
  . grind[Heap.get_del_eq]
  . rw[Heap.get_del_ne _ (fun e=>hid e.symm)]at hy;exact hs.free i y hy
def Cx.move(cx:Cx)(b o sz:Nat):Cx:=⟨fun i=>if i=cx.nx then(b,o,sz)else cx.μ i,cx.nx+1,cx.own,cx.held⟩
theorem Cx.move_new(cx:Cx)(b o sz:Nat):(cx.move b o sz).μ cx.nx=(b,o,sz):=by simp[Cx.move]
theorem Cx.move_old(cx:Cx)(b o sz:Nat){i:Nat}(h:i<cx.nx):(cx.move b o sz).μ i=cx.μ i:=by
 grind[Cx.move]
theorem Ext.move{W W':World}{cx:Cx}(he:Ext W cx W' cx)(b o sz:Nat):Ext W cx W' (cx.move b o sz) where
 nx:=Nat.le_succ _
 mu _ h:=cx.move_old _ _ _ h
 sz:=he.sz
 keep:=he.keep
 shape:=he.shape
 own:=he.own
 hold:=he.hold
 out:=he.out
theorem Sat.move{E:Env}{W W':World}{cx:Cx}{h:Heap}(hs:Sat E W cx h)(he:Ext W cx W' cx){id:Nat}{x₀:AObj}(hg:h.get id=some x₀)(x:AObj)(o sz:Nat)
 (hk:∀b,b≠(cx.μ id).1->W'.heap[b]?=W.heap[b]?)(hx:Q1 W' (cx.move (cx.μ id).1 o sz) ((cx.μ id).1,o,sz) x):
 Sat E W' (cx.move (cx.μ id).1 o sz) ((h.del id).push x) where
 nx:=by show h.next+1=cx.nx+1;rw[hs.nx]
 objs i y hy:=by
  by_cases hi:i=h.next
  . subst hi
    have:((h.del id).push x).get (h.del id).next=some x:=Heap.get_push_eq _ _
    rw[show(h.del id).next=h.next from rfl]at this;rw[this]at hy;cases hy;obtain⟨h1,h2,h3,_⟩:=hs.objs id x₀ hg;rw[hs.nx,Cx.move_new];exact⟨zqd _,h2,zqc h3 he.sz,hx⟩
  . rw [Heap.get_push_ne (h.del id) x hi]at hy
    by_cases hid:i=id
    . grind[Heap.get_del_eq]
    . rw[Heap.get_del_ne _ (fun e=>hid e.symm)]at hy
      obtain⟨h1,h2,h3,h4⟩:=hs.objs i y hy;rw[Cx.move_old _ _ _ _ h1];exact⟨zql h1,h2,zqc h3 he.sz,h4.mono (he.move _ _ _) (hk _ fun e=>hid (hs.inj i id y x₀ hy hg e))⟩
 inj i j y y' hy hy' heq:=by
  have old:∀k z,k≠h.next->((h.del id).push x).get k=some z->h.get k=some z/\k≠id:=by
   intro k z hk hz;rw[Heap.get_push_ne (h.del id) x hk]at hz;grind[Heap.get_del_eq,Heap.get_del_ne]
  by_cases hi:i=h.next<;>by_cases hj:j=h.next
  . rw[hi,hj]
  . obtain⟨h1,h2⟩:=old j y' hj hy'
    rw[hi,hs.nx,Cx.move_new,Cx.move_old _ _ _ _ (hs.objs j y' h1).1]at heq;exact absurd (hs.inj id j x₀ y' hg h1 heq).symm h2
  . obtain⟨h1,h2⟩:=old i y hi hy
    rw[hj,hs.nx,Cx.move_new,Cx.move_old _ _ _ _ (hs.objs i y h1).1]at heq;exact absurd (hs.inj id i x₀ y hg h1 heq.symm).symm h2
  . obtain⟨h1,_⟩:=old i y hi hy
    obtain⟨h1',_⟩:=old j y' hj hy';rw[Cx.move_old _ _ _ _ (hs.objs i y h1).1,Cx.move_old _ _ _ _ (hs.objs j y' h1').1]at heq;exact hs.inj i j y y' h1 h1' heq
 gl:=hs.gl.mono (he.move _ _ _)
 held b hb:=⟨zqc (hs.held b hb).1 he.sz,(hs.held b hb).2⟩
 free i y hy:=by
  by_cases hi:i=h.next
  . subst hi;rw[hs.nx,Cx.move_new];exact hs.free id x₀ hg
  . rw [Heap.get_push_ne (h.del id) x hi]at hy
    by_cases hid:i=id
    . grind[Heap.get_del_eq]
    . rw[Heap.get_del_ne _ (fun e=>hid e.symm)]at hy
      rw[Cx.move_old _ _ _ _ (hs.objs i y hy).1];exact hs.free i y hy
theorem add_addr(b o i:Nat):(⟨b,o,none⟩:Addr).add i=⟨b,o+i,none⟩:=by
 grind[Addr.add]
theorem Nj{W:World}{b o:Nat}{c:Array Value}{t:TypeId}{f:Nat×Nat}(h:W.heap[b]?=some (.cells c t f)):W.cell? ⟨b,o,none⟩=c[o]?:=by
 grind[World.cell?]
theorem eM{W:World}{b o:Nat}{c:Array Value}{t:TypeId}(h:W.heap[b]?=some (.cells c t (0,0))):W.frozen? ⟨b,o,none⟩=false:=by
 grind[World.frozen?]
def putC(c:Array Value)(o:Nat):List Value->Array Value
 |[]=>c
 |v::r=>putC (c.setIfInBounds o v) (o+1) r
theorem v7:∀(vs:List Value)(c:Array Value)(o:Nat),(putC c o vs).size=c.size
 |[],_,_=>rfl
 |v::r,c,o=>by rw[putC,v7 r];simp
theorem Kx:∀(vs:List Value)(c:Array Value)(o k:Nat),k<o\/o+vs.length<=k->(putC c o vs)[k]?=c[k]?
 |[],_,_,_,_=>rfl
 | v::r,c,o,k,h=>by
  rw[putC,Kx r _ (o+1) k (by simp at h;omega),Array.getElem?_setIfInBounds_ne (by simp at h;omega)]
theorem mN:∀(vs:List Value)(c:Array Value)(o k:Nat),o+vs.length<=c.size->k<vs.length->(putC c o vs)[o+k]?=vs[k]?
 |[],_,_,_,_,h=>by simp at h
 | v::r,c,o,0,hs,_=>by
  grind[putC,Kx]
 | v::r,c,o,k+1,hs,hk=>by
  rw[putC,show o+(k+1)=(o+1)+k by omega,mN r _ (o+1) k (by grind) (by grind)];simp
theorem xZ(v:Value):v.oneCell'=v.oneC:=by cases v<;>rfl
theorem Wx{W:World}{b o:Nat}{c:Array Value}{t:TypeId}{f:Nat×Nat}(h:W.heap[b]?=some (.cells c t f))(v:Value):
 W.setCell ⟨b,o,none⟩ v=setBlock W b (.cells (c.setIfInBounds o v) t f):=by
 have hb:=Q2 h;have hg:W.heap[b]=.cells c t f:=by grind
 unfold World.setCell setBlock
 congr 1
 grind
theorem x8{P:Program}{b:Nat}{t:TypeId}:∀(vs:List Value)(o i:Nat)(c:Array Value)(W:World),W.heap[b]?=some (.cells c t (0,0))->Ww vs->o+i+vs.length<=c.size ->
 (storeCells ⟨b,o,none⟩ vs i).run P W=.ok () (setBlock W b (.cells (putC c (o+i) vs) t (0,0)))
 | [],o,i,c,W,h,_,_=>by
  have hb:=Q2 h;have hg:W.heap[b]=.cells c t (0,0):=by grind
  have:setBlock W b (.cells c t (0,0))=W:=by
   unfold setBlock
   have:W.heap.setIfInBounds b (.cells c t (0,0))=W.heap:=by
    grind
   rw[this]
  simp[storeCells,putC,this]
 | v::r,o,i,c,W,h,h1,h2=>by
  have hone:v.oneCell'=true:=by rw[xZ];exact h1 v (List.mem_cons_self ..)
  have h2:o+i+(r.length+1)<=c.size:=h2;have hc:W.cell? ⟨b,o+i,none⟩=some c[o+i]:=by rw[Nj h];grind
  have hs:=run_store P W ⟨b,o+i,none⟩ v .plain hone;rw[hc,eM h]at hs;simp only[zqn,if_false]at hs;have hb:=Q2 h;have ih:=x8 (P:=P) r o (i+1) (c.setIfInBounds (o+i) v) (setBlock W b (.cells (c.setIfInBounds (o+i) v) t (0,0)))
   (Ba W _ hb) (fun u hu=>h1 u (List.mem_cons_of_mem _ hu)) (by simp;omega)
  rw[storeCells,Sem.run_bind,add_addr,hs,Result.andThen_ok,Wx h,ih,Sw];rfl
end Go.AM
/-
 The abstract machine: operations that only reckon are sound.
-/
namespace Go.AM
structure ZeroOk(z:Value)(a:AV):Prop where
 rep:∀W cx,Rep W cx z a
 one:Ww z.cells.toList
 und:a≠.und
def J1(P:Program)(t:Nat)(x:TI):Prop:=
 match x.desc with
 | .int k=>P.underlying t=some (.int k)
 | .bool=>P.underlying t=some .bool
 | .string=>P.underlying t=some .string
 | .ptr e=>P.underlying t=some (.pointer e)
 | .slice e=>P.underlying t=some (.slice e)
 | .array n e=>P.underlying t=some (.array n e)
 | .map k e=>P.underlying t=some (.map k e)
 | .struct fs fl=>∃fields,P.underlying t=some (.struct fields)/\fields.toList.map (fun f=>(f.type,f.offset))=fs/\(∀f∈fields.toList,∃i,P.info? f.type=some i)/\
  (fl=true->P.eqGuardType P.depth t=false/\P.stoodInHeld t=false/\x.zero.cells.length=fields.size/\
    ∀ (i : Nat) f, fields[i]? = some f -> f.name ≠ "_" ∧ f.offset = i ∧ ∃ z, x.zero.cells[i]? = some z ∧
      ((∃k n,z=.int k n/\P.underlying f.type=some (.int k))\/(∃b,z=.bool b/\P.underlying f.type=some .bool)\/(∃s,z=.str s/\P.underlying f.type=some .string)))
 | .iface=>P.underlying t=some (.interface #[])
 | .func=>∃d,P.underlying t=some d/\(∀fs,d≠.struct fs)/\(∀n e,d≠.array n e)/\(∀k,d≠.int k)
 | .other=>∃d,P.underlying t=some d/\(∀fs,d≠.struct fs)/\(∀n e,d≠.array n e)/\(∀k,d≠.int k)
structure TyOk(P:Program)(t:Nat)(x:TI):Prop where
 info:∃i z,P.info? t=some i/\i.size=x.size/\i.bytes=x.bytes/\i.zero=some z/\ZeroOk z x.zero
 zsz:x.zero.cells.length=x.size
 pos:0<x.size->0<x.bytes
 desc:J1 P t x
def Ky (P : Program) (f : Nat) : Prop := ∃ fn c, P.funcs[f]? = some fn ∧ fn.body = some c ∧ (fn.name == "runtime.NumGoroutine") = false
def GV(k:Nat)(v:Value):Prop:=(k=0/\∃b,v=.bool b)\/(k=1/\∃n,v=.int .i64 n)\/(k=2/\∃s,v=.string s)
def sW:List Nat->List Value->Prop
 |[],vs=>vs=[]
 |k::ks,vs=>∃v r,vs=v::r/\GV k v/\sW ks r
def DL(ks:List Nat)(e:MapEntry):Prop:=(∃n,e.key=.int .i64 n/\(Lit.int .i64 n).wf=true)/\∃vs,e.val=.agg vs/\sW ks vs.toList
def AF(P:Program)(f:Nat)(ks:List Nat):Prop:=Ky P f/\
 ∀ (J:World->Prop) (pd:MapEntry->Bool) (W:World) (b g:Nat) (cb:Array Value) (ents:Array MapEntry) (clock:Nat),
   W.heap[b]?=some (.map ents clock)->MapKept.Stamped ents clock->ents.size<=maxLen->(∀e∈ents.toList,DL ks e) ->
   (∀W1 W2,J W1->W1.heap.size<=W2.heap.size->(∀i,i≠b->i≠W.heap.size->i<W1.heap.size->W2.heap[i]?=W1.heap[i]?)->(∀i,i<W1.heap.size->szOf W2 i=szOf W1 i)->W2.os=W1.os->W2.tape=W1.tape->W2.output=W1.output->J W2) ->
   (∀W1 e,e∈ents.toList->J W1->W.heap.size<W1.heap.size->Ky P g/\Calls P g (#[e.key,e.val]++cb) W1 fun x W2=>x=.returned (.bool (pd e))/\J W2/\W1.heap.size<=W2.heap.size/\W2.heap[b]?=W1.heap[b]?/\W2.heap[W.heap.size]?=W1.heap[W.heap.size]?) ->
   J W->Calls P f #[.map (some b),.func (.func g) #[] cb] W fun x W'=>x=.returned (.tuple #[])/\J W'/\∃ents',W'.heap[b]?=some (.map ents' clock)/\ents'.toList=ents.toList.filter fun e=>!pd e
def AG(P:Program)(f k:Nat):Prop:=Ky P f/\
 ∀ (W:World) (p o b:Nat) (ents:Array MapEntry) (clock:Nat) (ks:List Int),
   W.cell? ⟨p,o,none⟩=some (.map (some b))->W.heap[b]?=some (.map ents clock)->MapKept.Stamped ents clock->ents.size<=1000000->ents.toList.map (·.key)=ks.map (Value.int .i64)->(∀n∈ks,(Lit.int .i64 n).wf=true) ->
   Calls P f #[.func (.func k) #[] #[.pointer (some ⟨p,o,none⟩)]] W fun x W'=>∃v,x=.returned v/\RowKit.Below W.heap.size W W'/\
    ((ks=[]/\v=.slice none 0 0)\/ks≠[]/\∃gb cap cur t,v=.slice (some ⟨gb,0,none⟩) ks.length cap/\W.heap.size<=gb/\W'.heap[gb]?=some (.cells cur t (0,0))/\ks.length<=cap/\cap<=cur.size/\
      ∀(i:Nat) n,(ks.mergeSort fun x y=>decide (x<=y))[i]?=some n->cur[i]?=some (.int .i64 n))
structure EnvOk(E:Env)(P:Program):Prop where
 ti:∀t x,E.ti t=some x->TyOk P t x
 fn : ∀ f x, E.fn f = some x -> ∃ fn c, P.funcs[f]? = some fn ∧ fn.body = some c ∧ (fn.name == "runtime.NumGoroutine") = false ∧ x.code = xc c ∧ x.ntmps = fn.ntmps ∧ x.results = fn.results.toList ∧ x.mode = fmOf fn.results.toList c
 told : ∀ f, E.told f = true -> ∃ g fn c, E.mx = some g ∧ P.funcs[f]? = some fn ∧ fn.body = some c ∧ (fn.name == "runtime.NumGoroutine") = false ∧
  ∀(s sub:ByteArray)(m:Int)(w:World),(s.size<4294967281\/sub.size=1)->w.cell? ⟨g,0,none⟩=some (.int .i64 m)->Calls P f #[.string s,.string sub] w fun e w'=>e=.returned (.bool (contS sub.data.toList s.data.toList))/\w'=w
 dlf:∀f ks,E.dlf f=some ks->AF P f ks
 srt:∀f k,E.srt f k=true->AG P f k
 mixed:P.follows .mixedOrders=true
section
variable {P:Program}{E:Env}{W:World}{cx:Cx}{h:Heap}
theorem A4{t:Nat}{d:TypeDesc}(hd:P.underlying t=some d):(underlying t).run P W=.ok d W:=by
 simp[underlying,hd]
theorem TyOk.under{t:Nat}{x:TI}(h:TyOk P t x):∃d,P.underlying t=some d:=by
 have:=h.desc
 grind[J1]
theorem TyOk.run_info{t:Nat}{x:TI}(h:TyOk P t x):∃i,(typeInfo t).run P W=.ok i W/\i.size=x.size/\i.bytes=x.bytes:=by
 obtain⟨i,z,h1,h2,h3,_⟩:=h.info;simp_all[typeInfo]
theorem TyOk.run_sizeOf{t:Nat}{x:TI}(h:TyOk P t x):(sizeOf t).run P W=.ok x.size W:=by
 obtain⟨i,h1,h2,_⟩:=h.run_info (W:=W);simp[sizeOf,h1,h2]
theorem TyOk.run_zero{t:Nat}{x:TI}(h:TyOk P t x):∃z,(zeroValue t).run P W=.ok z W/\ZeroOk z x.zero:=by
 obtain⟨i,z,h1,_,_,h4,h5⟩:=h.info;simp_all[zeroValue,typeInfo]
theorem TyOk.run_isAgg{t:Nat}{x:TI}(h:TyOk P t x):(isAgg t).run P W=.ok (o9 x.desc) W:=by
 have hd:=h.desc;unfold J1 at hd;split at hd<;>rename_i hx<;>rw[hx]
 all_goals first
  |(simp[isAgg,underlying,hd,o9];done)
  | (obtain⟨d,h1,h2⟩:=hd
     first
      |simp_all[isAgg,underlying,o9]
      | (obtain⟨h2,h3,_⟩:=h2
         have:(underlying t).run P W=.ok d W:=A4 h1
         simp only[isAgg,Sem.run_bind,this,Result.andThen_ok,o9];simp_all))
theorem F7{α:Type}{t:Nat}{f:TI->Option α}{x:α}(hx:onTI E t none f=some x):∃ti,E.ti t=some ti/\f ti=some x:=by
 unfold onTI at hx;cases ht:E.ti t with
 |none=>simp_all
 |some i=>simp_all
theorem F6{t:Nat}{f:TI->Res}{v:AV}{h':Heap}(hx:onTI E t .bad f=.ok v h'):∃ti,E.ti t=some ti/\f ti=.ok v h':=by
 unfold onTI at hx;cases ht:E.ti t with
 |none=>simp_all
 |some i=>simp_all
theorem Kz(v:Value):Rep W cx v (Eo v):=by
 cases v with
 |int k n=>exact .int k n
 |bool b=>exact .bool b
 |string s=>exact .str s
 | pointer a=>cases a with
  |none=>exact .nilptr
  |some a=>exact .any _ rfl
 | slice a n c =>
  cases a with
  |some a=>exact .any _ rfl
  | none =>
   cases n with
   |succ n=>exact .any _ rfl
   | zero =>
    cases c with
    |succ c=>exact .any _ rfl
    |zero=>exact .nilsl
 | map r=>cases r with
  |none=>exact .nilmap
  |some r=>exact .any _ rfl
 |nilFunc=>exact .nilfn
 |nilIface=>exact .niliface
 |agg cs=>exact .und _
 |tuple cs=>exact .und _
 |float k b=>exact .any _ rfl
 |complex k a b=>exact .any _ rfl
 |chan r=>exact .any _ rfl
 |func f a b=>exact .any _ rfl
 |iface t v=>exact .any _ rfl
theorem Po(v:Value):Rep W cx v (ofValue v):=by
 cases v with
 | agg cs =>
  refine .agg cs _ (by simp) fun i v c h1 h2=>?_
  grind[Kz]
 |_=>exact Kz _
theorem c8(hs:Sat E W cx h){a:Act}{fr:Tr}(hf:FrRep W cx a.tmps fr)(x:Operand):Rep W cx (a.eval x) (opv E x fr):=by
 cases x with
 |tmp t=>exact hf.rep t
 |const v=>exact Po v
 | global g =>
  show Rep W cx _ (match E.gl g with|some v=>AV.fptr v 0|none=>.any)
  cases hg:E.gl g with
  |none=>exact .any _ rfl
  |some v=>exact hs.gl.rep g v hg
 |func f=>exact .fn (.func f) #[] #[] [] [] rfl rfl (by simp) (by simp)
theorem Bz(hs:Sat E W cx h){a:Act}{fr:Tr}(hf:FrRep W cx a.tmps fr):∀(l:List Operand),RepL W cx (l.map a.eval) (opvs E l fr)
 |[]=>.nil
 |x::r=>.cons (c8 hs hf x) (Bz hs hf r)
theorem Rep.int_inv{v:Value}{k:IntKind}{n:Int}(h:Rep W cx v (.int k n)):v=.int k n:=by cases h;rfl
theorem Rep.bool_inv{v:Value}{b:Bool}(h:Rep W cx v (.bool b)):v=.bool b:=by cases h;rfl
theorem Rep.str_inv{v:Value}{l:List UInt8}(h:Rep W cx v (.str l)):∃s,v=.string s/\s.data.toList=l:=by cases h;grind
theorem Rep.agg_inv{v:Value}{cs:List AV}(h:Rep W cx v (.agg cs)):∃vs,v=.agg vs/\RepL W cx vs.toList cs:=by
 cases h with
 |agg vs cs hl h=>exact⟨vs,rfl,by grind,(by grind)⟩
theorem Rep.tup_inv{v:Value}{cs:List AV}(h:Rep W cx v (.tup cs)):∃vs,v=.tuple vs/\RepL W cx vs.toList cs:=by
 cases h with
 |tup vs cs hl h=>exact⟨vs,rfl,by grind,(by grind)⟩
theorem Rep.agg_mk{vs:List Value}{cs:List AV}(h:RepL W cx vs cs):Rep W cx (.agg vs.toArray) (.agg cs):=
 .agg _ _ (by simpa using h.1) fun i v c h1 h2=>h.2 i v c (by grind) h2
theorem Rep.tup_mk{vs:List Value}{cs:List AV}(h:RepL W cx vs cs):Rep W cx (.tuple vs.toArray) (.tup cs):=
 .tup _ _ (by simpa using h.1) fun i v c h1 h2=>h.2 i v c (by grind) h2
theorem D4{α:Type}{v:AV}{f:IntKind->Int->Option α}{x:α}(h:v.onInt none f=some x):∃k n,v=.int k n/\f k n=some x:=by
 cases v<;>first|exact⟨_,_,rfl,h⟩|cases h
theorem Bb{α:Type}{v:AV}{f:Bool->Option α}{x:α}(h:v.onBool none f=some x):∃b,v=.bool b/\f b=some x:=by
 cases v<;>first|exact⟨_,rfl,h⟩|cases h
theorem K8{α:Type}{v:AV}{f:List UInt8->Option α}{x:α}(h:v.onStr none f=some x):∃b,v=.str b/\f b=some x:=by
 cases v<;>first|exact⟨_,rfl,h⟩|cases h
theorem x9{α:Type}{v:AV}{f:List AV->Option α}{x:α}(h:v.onAgg none f=some x):∃b,v=.agg b/\f b=some x:=by
 cases v<;>first|exact⟨_,rfl,h⟩|cases h
theorem sX{v:AV}{f:List AV->Res}{x:AV}{h':Heap}(h:v.onTup .bad f=.ok x h'):∃b,v=.tup b/\f b=.ok x h':=by
 cases v<;>first|exact⟨_,rfl,h⟩|cases h
theorem pG{v:AV}{f:Bool->Res}{x:AV}{h':Heap}(h:v.onBool .bad f=.ok x h'):∃b,v=.bool b/\f b=.ok x h':=by
 cases v<;>first|exact⟨_,rfl,h⟩|cases h
theorem Nk{x y:AV}{f:IntKind->Int->Int->Option AV}{r:AV}(h:Ap x y f=some r):∃k a b,x=.int k a/\y=.int k b/\f k a b=some r:=by
 obtain⟨k,a,e1,h1⟩:=D4 h;grind[D4,X7]
theorem Sx{k:IntKind}{n:Int}{r:AV}(h:Kr k n=some r):r=.int k n:=by
 grind[Kr,Na]
theorem Fc{k:IntKind}{n:Int}{r:AV}(h:j0 k n=some r):r=.int k (k.wrap n):=by
 rw[Sx h,eL]
theorem Bc{b:Bool}{r:AV}(h:F8 b=some r):r=.bool b:=by cases b<;>(cases h;rfl)
theorem S7{v:AV}{n:Nat}(h:asNat v=some n):∃k,v=.int k (n:Int):=by
 obtain⟨k,m,e,h⟩:=D4 h;subst e;cases m with
 |ofNat m=>grind
 |negSucc m=>cases h
theorem o4{op:BinOp}{t:Nat}{o1 o2:Operand}{k k':IntKind}{a b:Int}:(eqGuard op t o1 o2 (.int k a) (.int k' b)).run P W=.ok () W:=by
 simp_all[eqGuard]
theorem Fd{op:BinOp}{t:Nat}{o1 o2:Operand}{a b:ByteArray}:(eqGuard op t o1 o2 (.string a) (.string b)).run P W=.ok () W:=by
 simp_all[eqGuard]
theorem La{op:BinOp}{t:Nat}{o1 o2:Operand}{a b:Bool}:(eqGuard op t o1 o2 (.bool a) (.bool b)).run P W=.ok () W:=by
 simp_all[eqGuard]
def X8(P:Program)(W:World)(op:BinOp)(t:Nat)(o1 o2:Operand)(x y v:Value):Prop:=
 (do eqGuard op t o1 o2 x y;binOp op t x y:Sem Value).run P W=.ok v W
theorem X8.mk{op:BinOp}{t:Nat}{o1 o2:Operand}{x y v:Value}(h1:(eqGuard op t o1 o2 x y).run P W=.ok () W)(h2:(binOp op t x y).run P W=.ok v W):X8 P W op t o1 o2 x y v:=by
 simp_all[X8]
theorem Sy(s:ByteArray):s.toList=s.data.toList:=ByteArray.toList_eq s
theorem Fe{f:Nat}{d:TypeDesc}(hd:P.underlying f=some d)(hs:∀fs,d≠.struct fs)(ha:∀n e,d≠.array n e){cs:Array Value}{i:Nat}{v:Value}(hv:cs[i]?=some v):
 (part f cs i).run P W=.ok v W:=by
 have h1:(isAgg f).run P W=.ok false W:=by
  have:(underlying f).run P W=.ok d W:=A4 hd
  simp only[isAgg,Sem.run_bind,this,Result.andThen_ok];simp_all
 simp[part,h1,hv]
theorem aW{xs ys:Array Value}{z as bs:List AV}(d:Nat)(hx:RepL W cx xs.toList as)(hy:RepL W cx ys.toList bs)(hla:Dv z as=true)(hlb:Dv z bs=true):
 ∀ (fs:List Field) (k:Nat) (r:Bool),z.length=k+fs.length ->
   (∀ (i : Nat) f, fs[i]? = some f -> f.name ≠ "_" ∧ f.offset = k + i ∧ ∃ y, z[k + i]? = some y ∧
       ((∃k n,y=.int k n/\P.underlying f.type=some (.int k))\/(∃b,y=.bool b/\P.underlying f.type=some .bool)\/(∃s,y=.str s/\P.underlying f.type=some .string))) ->
   MX (as.drop k) (bs.drop k)=some r->(Op.eqFields (d+1) xs ys fs).run P W=.ok r W:=by
 have like:∀(z l:List AV),Dv z l=true->l.length=z.length/\∀(i:Nat) y,z[i]?=some y->∃c,l[i]?=some c/\Ya y c=true:=by
  intro z
  induction z with
  | nil=>intro l h;cases l with
   |nil=>grind
   |cons _ _=>cases h
  | cons y z ih =>
   intro l h;cases l with
   |nil=>cases h
   | cons c l =>
    have h:(bif Ya y c then Dv z l else false)=true:=h;grind
 obtain⟨la,ha⟩:=like z as hla;obtain⟨lb,hb⟩:=like z bs hlb;intro fs
 induction fs with
 | nil =>
  intro k r hk _ hr;rw[zqq (by simp at hk;omega),zqq (by simp at hk;omega)]at hr;cases hr;simp[Op.eqFields]
 | cons f fs ih =>
  intro k r hk hf hr;obtain⟨hn,ho,y,hy1,hy2⟩:=hf 0 f rfl;simp only[Nat.add_zero]at ho hy1;obtain⟨a,ea,ka⟩:=ha k y hy1;obtain⟨b,eb,kb⟩:=hb k y hy1;have e1:as.drop k=a::as.drop (k+1):=by
   have hl:k<as.length:=by
    rcases Nat.lt_or_ge k as.length with h'|h'
    . exact h'
    . rw[List.getElem?_eq_none h']at ea;cases ea
   rw[zqr hl];rw[zqp hl]at ea;cases ea;rfl
  have e2:bs.drop k=b::bs.drop (k+1):=by
   grind[zqr]
  rw[e1,e2]at hr;have hr:R0 (xL a b) none (MX (as.drop (k+1)) (bs.drop (k+1))) (some false)=some r:=hr;obtain⟨u,hu,ru⟩:=hx.get ea;obtain⟨v,hv,rv⟩:=hy.get eb;have hu':xs[k]?=some u:=by grind
  have hv':ys[k]?=some v:=by grind
  have heq:∃t,xL a b=some t/\(part f.type xs f.offset).run P W=.ok u W/\(part f.type ys f.offset).run P W=.ok v W/\(Op.equalIn (d+1) f.type u v).run P W=.ok t W:=by
   rw[ho];rcases hy2 with⟨kk,n,rfl,hd⟩|⟨b0,rfl,hd⟩|⟨s0,rfl,hd⟩
   . have ka':a.onInt false (fun k _=>kindEq kk k)=true:=ka
     have kb':b.onInt false (fun k _=>kindEq kk k)=true:=kb;cases a<;>first|cases ka'|skip
     cases b<;>first|cases kb'|skip
     rename_i k1 n1 k2 n2;have q1:=(X7 _ _).1 ka';have q2:=(X7 _ _).1 kb';subst q1;subst q2;cases ru.int_inv;cases rv.int_inv;exact⟨_,by simp[xL,AV.onInt,(X7 _ _).2 rfl,x7],Fe hd (by simp) (by simp) hu',Fe hd (by simp) (by simp) hv',run_equalIn_int W d f.type _ _ _ _ hd⟩
   . have ka':a.onBool false (fun _=>true)=true:=ka
     have kb':b.onBool false (fun _=>true)=true:=kb;cases a<;>first|cases ka'|skip
     cases b<;>first|cases kb'|skip
     cases ru.bool_inv;cases rv.bool_inv;exact⟨_,rfl,Fe hd (by simp) (by simp) hu',Fe hd (by simp) (by simp) hv',run_equalIn_bool' W d f.type _ _ hd⟩
   . have ka':a.onStr false (fun _=>true)=true:=ka
     have kb':b.onStr false (fun _=>true)=true:=kb;cases a<;>first|cases ka'|skip
     cases b<;>first|cases kb'|skip
     obtain⟨s1,rfl,q1⟩:=ru.str_inv;obtain⟨s2,rfl,q2⟩:=rv.str_inv;simp_all[xL,AV.onStr,Fb,Fe,run_equalIn_string,Sy]
  obtain⟨t,ht,p1,p2,p3⟩:=heq;rw[ht]at hr;simp only[Op.eqFields];rw[if_pos hn,Sem.run_bind,p1,Result.andThen_ok,Sem.run_bind,p2,Result.andThen_ok,Sem.run_bind,p3,Result.andThen_ok];cases t with
  |false=>cases hr;simp
  | true =>
   simp only[Bool.not_true,zqn,if_false];refine ih (k+1) r (by grind) (fun i f' hf'=>?_) hr
   have:=hf (i+1) f' (by grind)
   grind
theorem flatOf_cases(E:Env)(t:Nat):N8 E t=.none\/∃ti,E.ti t=some ti/\N8 E t=eG ti:=by
 unfold N8 onTI;cases ht:E.ti t with
 |none=>grind
 |some ti=>grind
theorem Yd{v:Value}{a:AV}(h:Rep W cx v a){r:Bool}(hn:sG a=some r):∃ad n c,v=.slice ad n c/\ad.isNone=r:=by
 cases h with
 |nilsl=>cases hn;grind
 | msl ad n cap id off sz hid hz hb hc ha hnn =>
  cases hn;refine⟨ad,n,cap,rfl,?_⟩;cases ad with
  |none=>grind
  |some x=>rfl
 | fsl ad b o n cap es full sz g hn' hc hf ha hsz hcell hone hrep hnn =>
  cases es with
  | nil =>
   cases full with
   |true=>cases hn
   | false =>
    cases hn;refine⟨_,_,_,rfl,?_⟩;cases ad with
    |none=>grind
    |some x=>rfl
  |cons e r'=>cases hn;grind
 |_=>cases hn
theorem Ye{v:Value}{a:AV}(h:Rep W cx v a){r:Bool}(hn:sH a=some r):∃ad,v=.pointer ad/\ad.isNone=r:=by
 cases h<;>first|(cases hn;exact⟨_,rfl,rfl⟩)|cases hn
theorem Yf{v:Value}{a:AV}(h:Rep W cx v a){r:Bool}(hn:sI a=some r):∃ad,v=.map ad/\ad.isNone=r:=by
 cases h<;>first|(cases hn;exact⟨_,rfl,rfl⟩)|cases hn
theorem nilI_real{v:Value}{a:AV}(h:Rep W cx v a){r:Bool}(hn:sJ a=some r):(v=.nilIface/\r=true)\/∃t u,v=.iface t u/\r=false:=by
 cases h<;>first|(cases hn;done)|(cases hn;grind)|(cases hn;grind)
theorem eN{k:EqK}{a b:AV}{r:Bool}(h:Et k a b=some r):∃p q,q0 k a=some p/\q0 k b=some q/\((q=true/\r=p)\/(q=false/\p=true/\r=false)):=by
 unfold Et at h;cases hb:q0 k b with
 |none=>rw[hb]at h;cases h
 | some q =>
  rw[hb]at h;cases ha:q0 k a with
  |none=>rw[ha]at h;cases q<;>cases h
  | some p =>
   rw[ha]at h;cases q with
   |true=>cases h;grind
   | false =>
    cases p with
    |true=>cases h;grind
    |false=>cases h
theorem aX{t:Nat}{e n1 c1 n2 c2:Nat}(dd:Nat){a1 a2:Option Addr}{r:Bool}(hu:P.underlying t=some (.slice e))(h:(a2.isNone=true/\r=a1.isNone)\/(a2.isNone=false/\a1.isNone=true/\r=false)):
 (Op.equalIn (dd+1) t (.slice a1 n1 c1) (.slice a2 n2 c2)).run P W=.ok r W:=by
 have r1:∀W:World,(underlying t).run P W=.ok (.slice e) W:=fun W=>A4 hu
 unfold Op.equalIn;simp only[Sem.run_bind,r1,Result.andThen_ok];cases a1<;>cases a2<;>rcases h with⟨h1,h2⟩|⟨h1,h2,h3⟩<;>first|(subst h2;rfl)|(subst h3;rfl)|grind|grind
theorem jU{t:Nat}{e:Nat}(dd:Nat){a1 a2:Option Addr}{r:Bool}(hu:P.underlying t=some (.pointer e))(h:(a2.isNone=true/\r=a1.isNone)\/(a2.isNone=false/\a1.isNone=true/\r=false)):
 (Op.equalIn (dd+1) t (.pointer a1) (.pointer a2)).run P W=.ok r W:=by
 have r1:∀W:World,(underlying t).run P W=.ok (.pointer e) W:=fun W=>A4 hu
 unfold Op.equalIn;simp only[Sem.run_bind,r1,Result.andThen_ok];cases a1<;>cases a2<;>rcases h with⟨h1,h2⟩|⟨h1,h2,h3⟩<;>first|(subst h2;rfl)|(subst h3;rfl)|grind|grind
theorem jV{t:Nat}{k e:Nat}(dd:Nat){a1 a2:Option Nat}{r:Bool}(hu:P.underlying t=some (.map k e))(h:(a2.isNone=true/\r=a1.isNone)\/(a2.isNone=false/\a1.isNone=true/\r=false)):
 (Op.equalIn (dd+1) t (.map a1) (.map a2)).run P W=.ok r W:=by
 have r1:∀W:World,(underlying t).run P W=.ok (.map k e) W:=fun W=>A4 hu
 unfold Op.equalIn;simp only[Sem.run_bind,r1,Result.andThen_ok];cases a1<;>cases a2<;>rcases h with⟨h1,h2⟩|⟨h1,h2,h3⟩<;>first|(subst h2;rfl)|(subst h3;rfl)|grind|grind
theorem eO(hE:EnvOk E P){t:Nat}{x y:Value}{a b:AV}{r:Bool}(hx:Rep W cx x a)(hy:Rep W cx y b)(h:Et (N8 E t) a b=some r)(o1 o2:Operand):
 (X8 P W .eql t o1 o2 x y (.bool r))/\(X8 P W .neq t o1 o2 x y (.bool !r)):=by
 obtain⟨p,q,ha,hb,hpq⟩:=eN h;rcases flatOf_cases E t with hfo|⟨ti,ht,hfo⟩<;>rw[hfo]at ha hb
 . cases ha
 . unfold eG at ha hb
   have hd:=(hE.ti t ti ht).desc;unfold J1 at hd;cases hdesc:ti.desc with
   | slice e =>
    rw [hdesc]at ha hb hd;obtain⟨a1,n1,c1,rfl,h1⟩:=Yd hx ha;obtain⟨a2,n2,c2,rfl,h2⟩:=Yd hy hb;have key:(Op.equal t (.slice a1 n1 c1) (.slice a2 n2 c2)).run P W=.ok r W:=by
     refine aX 9999 hd ?_;grind
    exact⟨.mk (by simp[eqGuard]) (by simp[binOp,key]),.mk (by simp[eqGuard]) (by simp[binOp,key])⟩
   | ptr e =>
    rw [hdesc]at ha hb hd;obtain⟨a1,rfl,h1⟩:=Ye hx ha;obtain⟨a2,rfl,h2⟩:=Ye hy hb;have key:(Op.equal t (.pointer a1) (.pointer a2)).run P W=.ok r W:=by
     refine jU 9999 hd ?_;grind
    exact⟨.mk (by simp[eqGuard]) (by simp[binOp,key]),.mk (by simp[eqGuard]) (by simp[binOp,key])⟩
   | map k e =>
    rw [hdesc]at ha hb hd;obtain⟨a1,rfl,h1⟩:=Yf hx ha;obtain⟨a2,rfl,h2⟩:=Yf hy hb;have key:(Op.equal t (.map a1) (.map a2)).run P W=.ok r W:=by
     refine jV 9999 hd ?_;grind
    exact⟨.mk (by simp[eqGuard]) (by simp[binOp,key]),.mk (by simp[eqGuard]) (by simp[binOp,key])⟩
   | iface =>
    rw[hdesc]at ha hb hd;have r1:∀W:World,(underlying t).run P W=.ok (.interface #[]) W:=fun W=>A4 hd
    have key:(Op.equal t x y).run P W=.ok r W:=by
     show(Op.equalIn (9999+1) t x y).run P W=_
     unfold Op.equalIn;simp only[Sem.run_bind,r1,Result.andThen_ok];rcases nilI_real hx ha with⟨rfl,rfl⟩|⟨t1,u1,rfl,rfl⟩<;>rcases nilI_real hy hb with⟨rfl,rfl⟩|⟨t2,u2,rfl,rfl⟩<;>rcases hpq with⟨h1,h2⟩|⟨h1,h2,h3⟩<;>first|(cases h1;done)|simp_all|(subst h2;rfl)|(subst h3;rfl)
    have r2:(Op.eqGuardIn Op.maxDepth t .nilIface .nilIface).run P W=.ok false W:=by
     show(Op.eqGuardIn (9999+1) t .nilIface .nilIface).run P W=_
     unfold Op.eqGuardIn;simp[r1]
    have hg:∀op,op=BinOp.eql\/op=BinOp.neq->(eqGuard op t o1 o2 x y).run P W=.ok () W:=by
     intro op hop;rcases nilI_real hx ha with⟨rfl,_⟩|⟨t1,u1,rfl,_⟩<;>rcases nilI_real hy hb with⟨rfl,_⟩|⟨t2,u2,rfl,_⟩<;>rcases hop with rfl|rfl<;>simp[eqGuard,r2]<;>(try split)<;>simp
    have hb1:(binOp .eql t x y).run P W=.ok (.bool r) W:=by
     rcases nilI_real hx ha with⟨rfl,_⟩|⟨t1,u1,rfl,_⟩<;>rcases nilI_real hy hb with⟨rfl,_⟩|⟨t2,u2,rfl,_⟩<;>simp[binOp,key]
    have hb2:(binOp .neq t x y).run P W=.ok (.bool !r) W:=by
     rcases nilI_real hx ha with⟨rfl,_⟩|⟨t1,u1,rfl,_⟩<;>rcases nilI_real hy hb with⟨rfl,_⟩|⟨t2,u2,rfl,_⟩<;>simp[binOp,key]
    exact⟨.mk (hg _ (.inl rfl)) hb1,.mk (hg _ (.inr rfl)) hb2⟩
   |struct fs fl=>rw[hdesc]at ha;cases fl<;>cases ha
   |_=>rw[hdesc]at ha;cases ha
theorem Ip(hE:EnvOk E P){t:Nat}{x y:Value}{a b:AV}{r:Bool}(hx:Rep W cx x a)(hy:Rep W cx y b)(h:sK (N8 E t) a b=some r)(o1 o2:Operand):
 (X8 P W .eql t o1 o2 x y (.bool r))/\(X8 P W .neq t o1 o2 x y (.bool !r)):=by
 cases a with
 | agg as =>
  obtain⟨bs,eb,g⟩:=x9 (v:=b) h;clear h;have h:=g;clear g;subst eb;obtain⟨xs,rfl,hxs⟩:=hx.agg_inv;obtain⟨ys,rfl,hys⟩:=hy.agg_inv;rcases flatOf_cases E t with hfo|⟨ti,ht,hfo⟩<;>rw[hfo]at h
  . cases h
  . have hty:=hE.ti t ti ht
    unfold eG at h;have hd:=hty.desc;cases hdesc:ti.desc with
    | struct fs fl =>
     rw[hdesc]at h;cases fl with
     |false=>cases h
     | true =>
      obtain⟨hl,h⟩:=B0 (b:=Dv ti.zero.cells as&&Dv ti.zero.cells bs) h;rw[zqo]at hl;unfold J1 at hd;rw[hdesc]at hd;obtain⟨fields,hu,_,_,hfl⟩:=hd;obtain⟨g1,g2,g3,g4⟩:=hfl rfl;have hff:P.fieldsOf t=fields:=by grind[Program.fieldsOf]
      have key:(Op.equalIn 10000 t (.agg xs) (.agg ys)).run P W=.ok r W:=by
       rw[run_equalIn_agg W 9999 t xs ys (by rw[hff];exact hu) g2,hff];exact aW 9998 hxs hys hl.1 hl.2 fields.toList 0 r (by grind) (by grind) h
      exact⟨.mk (run_eqGuard_agg W _ _ _ _ _ _ g1) (by rw[run_eql_struct,key];rfl),.mk (run_eqGuard_agg W _ _ _ _ _ _ g1) (by rw[run_neq_struct,key];rfl)⟩
    |_=>rw[hdesc]at h;cases h
 | int k n =>
  obtain⟨k',m,eb,g⟩:=D4 (v:=b) h;clear h;have h:=g;clear g;subst eb;cases hk:kindEq k k' with
  |false=>grind
  | true =>
   rw[hk]at h;cases h
   have:=(X7 _ _).1 hk;subst this
   cases hx.int_inv;cases hy.int_inv;rw[x7];exact⟨.mk o4 (by simp[binOp,Op.intCmp]),.mk o4 (by simp[binOp,Op.intCmp];rfl)⟩
 | bool c =>
  obtain ⟨c',eb,g⟩:=Bb (v:=b) h;clear h;have h:=g;clear g;subst eb;obtain⟨hb,h⟩:=B0 h;cases h;cases hx.bool_inv;cases hy.bool_inv;have hu:P.underlying t=some .bool:=by
   rcases flatOf_cases E t with hfo|⟨ti,ht,hfo⟩<;>rw[hfo]at hb
   . cases hb
   . unfold eG at hb
     have hd:=(hE.ti t ti ht).desc;unfold J1 at hd;cases hdesc:ti.desc with
     |bool=>grind
     |struct fs fl=>rw[hdesc]at hb;cases fl<;>cases hb
     |_=>rw[hdesc]at hb;cases hb
  have key:(Op.equal t (.bool c) (.bool c')).run P W=.ok (c==c') W:=run_equalIn_bool' W 9999 t c c' hu;exact⟨.mk La (by simp[binOp,key]),.mk La (by simp[binOp,key])⟩
 | str l =>
  obtain⟨l',eb,g⟩:=K8 (v:=b) h;clear h;have h:=g;clear g;subst eb;cases h;obtain⟨s1,rfl,q1⟩:=hx.str_inv;obtain⟨s2,rfl,q2⟩:=hy.str_inv;rw[Fb,<-q1,<-q2,<-Sy,<-Sy];exact⟨.mk Fd (by simp[binOp,Op.stringOp]),.mk Fd (by simp[binOp,Op.stringOp])⟩
 |_=>exact eO hE hx hy h o1 o2
theorem orO_some{a b:Option AV}{v:AV}(h:QC a b=some v):a=some v\/b=some v:=by
 cases a with
 |none=>exact .inr h
 |some x=>exact .inl h
theorem Lb(hE:EnvOk E P){t:Nat}{x y:Value}{a b:AV}{r:Bool}(hx:Rep W cx x a)(hy:Rep W cx y b)(h:Jk E t a b=some r)(o1 o2:Operand):
 (X8 P W .eql t o1 o2 x y (.bool r))/\(X8 P W .neq t o1 o2 x y (.bool !r)):=by
 cases a with
 | ptr i k o =>
  cases b with
  | ptr i' k' o' =>
   obtain⟨ti,ht,h⟩:=F7 h;have hd:=(hE.ti t ti ht).desc;unfold J1 at hd;cases hdesc:ti.desc with
   | ptr e =>
    rw[hdesc]at h hd;obtain⟨te,hte,h⟩:=F7 h;obtain⟨hc,hh⟩:=B0 (b:=Nat.blt 0 te.size&&(Nat.beq i i'&&Nat.beq k k')) (x:=some (Nat.beq o o')) h;rw[zqo,zqo]at hc;have hp:0<te.size:=zqh hc.1;have h1:=E5 hc.2.1;have h2:=E5 hc.2.2;subst h1 h2;cases hh;have hs:=(hE.ti e te hte).run_sizeOf (W:=W);cases hx;cases hy;have r1:∀W:World,(underlying t).run P W=.ok (.pointer e) W:=fun W=>A4 hd
    have hne:te.size≠0:=by omega
    have key:∀p q:Nat,(Op.equal t (.pointer (some ⟨(cx.μ i).1,p+o,none⟩)) (.pointer (some ⟨(cx.μ i).1,p+o',none⟩))).run P W=.ok (Nat.beq o o') W:=by
     intro p q;show(Op.equalIn (9999+1) t _ _).run P W=_
     unfold Op.equalIn;simp only[Sem.run_bind,r1,Result.andThen_ok];simp only[hs,Sem.run_bind,Result.andThen_ok,hne,ne_eq,not_false_eq_true,if_true]
     have:(Nat.beq o o')=((⟨(cx.μ i).1,p+o,none⟩:Addr)==⟨(cx.μ i).1,p+o',none⟩):=by
      rw[zqm,beq_iff_eq];simp_all
     simp_all[sameAddr]
    exact⟨.mk (by simp[eqGuard]) (by simp[binOp,key _ 0]),.mk (by simp[eqGuard]) (by simp[binOp,key _ 0])⟩
   |_=>grind
  |_=>cases h
 |_=>cases h
theorem jW(hE:EnvOk E P){op:BinOp}{t:Nat}{x y:Value}{a b r:AV}(hx:Rep W cx x a)(hy:Rep W cx y b)(h:sN E op t a b=some r)(o1 o2:Operand):
 ∃v,X8 P W op t o1 o2 x y v/\Rep W cx v r:=by
 cases op with
 | eql =>
  obtain⟨q,h1,h2⟩:=A1 (show A7 (Jk E t a b) F8=some r from h)
  have:=(Lb hE hx hy h1 o1 o2).1
  cases q<;>cases h2<;>exact⟨_,this,.bool _⟩
 | neq =>
  obtain⟨q,h1,h2⟩:=A1 (show A7 (Jk E t a b) (fun b=>F8 (!b))=some r from h)
  have:=(Lb hE hx hy h1 o1 o2).2
  cases q<;>cases h2<;>exact⟨_,this,.bool _⟩
 |_=>cases h
theorem Sz(m n:Int):(!decide (n<=m))=decide (m<n):=by
 grind
theorem Ta{x y:Value}{k:IntKind}{m n:Int}(hx:Rep W cx x (.int k m))(hy:Rep W cx y (.int k n)):x=.int k m/\y=.int k n:=⟨hx.int_inv,hy.int_inv⟩
theorem sY{op:BinOp}{t:Nat}{x y:Value}{a b r:AV}(hx:Rep W cx x a)(hy:Rep W cx y b)(o1 o2:Operand)(f:Int->Int->Int)
 (hf:∀k m n,(binOp op t (.int k m) (.int k n)).run P W=.ok (.int k (k.wrap (f m n))) W)(h:(Ap a b fun k m n=>j0 k (f m n))=some r):
 ∃v,X8 P W op t o1 o2 x y v/\Rep W cx v r:=by
 obtain⟨k,m,n,ea,eb,g⟩:=Nk h;subst ea eb;obtain⟨rfl,rfl⟩:=Ta hx hy;rw[Fc g];exact⟨_,.mk o4 (hf k m n),.int _ _⟩
theorem aY{op:BinOp}{t:Nat}{x y:Value}{a b r:AV}(hx:Rep W cx x a)(hy:Rep W cx y b)(o1 o2:Operand)(f:Int->Int->Bool)
 (hf:∀k m n,(binOp op t (.int k m) (.int k n)).run P W=.ok (.bool (f m n)) W)(h:(Ap a b fun _ m n=>F8 (f m n))=some r):
 ∃v,X8 P W op t o1 o2 x y v/\Rep W cx v r:=by
 obtain⟨k,m,n,ea,eb,g⟩:=Nk h;subst ea eb;obtain⟨rfl,rfl⟩:=Ta hx hy;rw[Bc g];exact⟨_,.mk o4 (hf k m n),.bool _⟩
theorem eP(hE:EnvOk E P){op:BinOp}{t:Nat}{x y:Value}{a b r:AV}(hx:Rep W cx x a)(hy:Rep W cx y b)(h:O9 op (N8 E t) a b=some r)(o1 o2:Operand):
 ∃v,X8 P W op t o1 o2 x y v/\Rep W cx v r:=by
 cases op with
 | add =>
  have key:(∀l,a≠.str l)->∃v,X8 P W .add t o1 o2 x y v/\Rep W cx v r:=by
   intro hn;refine sY hx hy o1 o2 (fun m n=>m+n) (fun k m n=>by simp[binOp,Op.intArith]) ?_;cases a<;>first|exact h|exact absurd rfl (hn _)
  cases a with
  | str l =>
   obtain⟨l',eb,g⟩:=K8 (v:=b) h;subst eb;cases hl:Nat.ble (Nat.add (o8 l) (o8 l')) 4611686018427387904 with
   |false=>rw[hl]at g;cases g
   | true =>
    rw [hl]at g;cases g;obtain⟨s1,rfl,q1⟩:=hx.str_inv;obtain⟨s2,rfl,q2⟩:=hy.str_inv;have hl:=E3 hl;rw[u3,u3,<-q1,<-q2]at hl;have e1:s1.size=s1.data.toList.length:=Array.length_toList.symm;have e2:s2.size=s2.data.toList.length:=Array.length_toList.symm;have hl:s1.data.toList.length+s2.data.toList.length<=4611686018427387904:=hl;have hlt:¬(((s1.size+s2.size:Nat):Int)>IntKind.i64.max):=by
     rw[show IntKind.i64.max=9223372036854775807 from rfl];omega
    refine⟨.string (s1++s2),.mk Fd ?_,?_⟩
    . simp only[binOp,Op.stringOp]
      rw[if_neg hlt];rfl
    . have:(s1++s2).data.toList=l++l':=by rw[<-q1,<-q2];simp[ByteArray.data_append]
      rw[<-this];exact .str _
  |_=>exact key (by simp)
 |sub=>exact sY hx hy o1 o2 (fun m n=>m-n) (fun k m n=>by simp[binOp,Op.intArith]) h
 |mul=>cases h
 |quo=>cases h
 | rem =>
  obtain⟨k,m,n,ea,eb,g⟩:=Nk h;subst ea eb;obtain⟨rfl,rfl⟩:=Ta hx hy;rw[x7]at g;cases hn:n==0 with
  |true=>rw[hn]at g;cases g
  | false =>
   rw[hn]at g;rw[Sx g]
   have:¬n=0:=by simpa using hn
   exact⟨_,.mk o4 (by simp[binOp,Op.intDiv,this]),.int _ _⟩
 |and=>cases h
 |or=>cases h
 |xor=>cases h
 |shl=>cases h
 |shr=>cases h
 | eql =>
  obtain⟨c,hc,g⟩:=A1 h;rw[Bc g];exact⟨_,(Ip hE hx hy hc o1 o2).1,.bool _⟩
 | neq =>
  obtain⟨c,hc,g⟩:=A1 h;rw[Bc g];exact⟨_,(Ip hE hx hy hc o1 o2).2,.bool _⟩
 |lss=>exact aY hx hy o1 o2 (fun m n=>!(intLe n m)) (fun k m n=>by simp[binOp,Op.intCmp,S6,Sz]) h
 |leq=>exact aY hx hy o1 o2 (fun m n=>intLe m n) (fun k m n=>by simp[binOp,Op.intCmp,S6]) h
 |gtr=>exact aY hx hy o1 o2 (fun m n=>!(intLe m n)) (fun k m n=>by simp[binOp,Op.intCmp,S6,Sz]) h
 |geq=>exact aY hx hy o1 o2 (fun m n=>intLe n m) (fun k m n=>by simp[binOp,Op.intCmp,S6]) h
 |andNot=>cases h
end
end Go.AM
