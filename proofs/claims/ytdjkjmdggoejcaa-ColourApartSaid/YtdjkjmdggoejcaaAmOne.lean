/- The abstract machine, part one: definitions, lists, what a value of the model is told as, worlds. Conditions: none. -/
import GoSem.Dispatch
import Derived.Calls
import Derived.Laws.World
import Derived.Laws.Sem
import Derived.MapKept
import Derived.Laws.Cells
import Derived.Laws.StructEq
import Derived.Below
set_option linter.unusedVariables false
set_option linter.unusedSectionVars false
set_option linter.unusedSimpArgs false
/-
 The abstract machine: an evaluator for the model's code over abstract values. Definitions alone. (Each function is small and takes the state last: so the kernel runs it quickly.)
set_option maxHeartbeats 4000000
-/
open List renaming length→lz
open Option renaming some→zs,none→zn
open Bool renaming true→zt,false→zf
open Nat renaming land→zqa,shiftRight→zqb,lt_of_lt_of_le→zqc,lt_succ_self→zqd,div→zqe,le_refl→zqf,shiftRight_eq_div_pow→zqg,le_of_ble_eq_true→zqh,mod_two_eq_zero_or_one→zqi,eq_of_beq_eq_true→zqj,and_one_is_mod→zqk,ble_eq_true_of_le→zql,lt_succ_of_lt→zqm
open Int renaming ofNat→zqn,emod_lt_of_pos→zqo,ofNat_eq_natCast→zqp
open Bool renaming eq_iff_iff→zqq,false_eq_true→zqr,and_eq_true→zqs
open List renaming getElem?_eq_getElem→zqt,drop_eq_nil_of_le→zqu,drop_eq_getElem_cons→zqv
namespace Go.AM
noncomputable section
inductive AV where
 |int (k:IntKind) (n:Int)
 |bool (b:Bool)
 |str (s:List UInt8)
 |agg (cs:List AV)
 |tup (vs:List AV)
 |fsl (es:List AV) (full:Bool)
 |fptr (v:AV) (off:Nat)
 |msl (id off n sz:Nat)
 |ptr (id i off:Nat)
 |x0a
 |x0c
 |x0d
 |map (id:Nat)
 |fn (f:Fn) (first caps:List AV)
 |x0e
 |iface (t:TypeId) (v:AV)
 |x0b
 |any
 |und
 deriving Inhabited
inductive io where
 |row (es:List AV) (sz:Nat)
 |mapo (es:List (AV×AV))
 deriving Inhabited
inductive HT where
 |nil
 |node (l:HT) (v:Option io) (r:HT)
 deriving Inhabited
structure Vg where
 next:Nat
 tch:List Nat
 os:HT
inductive Tr where
 |nil
 |node (l:Tr) (v:AV) (r:Tr)
 deriving Inhabited
inductive TD where
 |int (k:IntKind)|bool|string
 |ptr (e:Nat)|slice (e:Nat)|array (n e:Nat)|map (k e:Nat)
 |struct (fields:List (Nat×Nat)) (flat:Bool)
 |func|iface|other
structure TI where
 desc:TD
 size:Nat
 bytes:Nat
 zero:AV
structure XOp where
 dst:Option Tmp
 op:Op
 gd:Option (Option Tmp×Bool)
 quiet:Bool
 late:List Bool
 careful:Bool
structure a01 where
 m:Operand
 d1:Nat
 d2:Nat
 d3:Nat
 d4:Nat
 d5:Nat
 d6:Nat
 d7:Nat
 i0:Nat
 i1:Nat
 ty:Nat
 ws:List Nat
inductive XC where
 |skip
 |reg (draw:Bool) (l:List XOp)
 |seq (a b:XC)
 |cond (c:Operand) (a b:XC)
 |block (id:Nat) (c:XC)
 |loop (c:XC)
 |scope (c:XC)
 |rfn (g:Operand) (ps:List Tmp) (a b:XC)
 |exit (id:Nat)
 |ret
 |bad
 |rngm (R:a01) (y:XC)
inductive IC where
 |skip
 |reg (x:XC)
 |yreg (p0:XC) (gd:Option (Option Tmp×Bool)) (yt:Tmp) (p1:XC) (yd:Tmp) (args:List Operand) (p2:XC)
 |seq (a b:IC)
 |cond (c:Operand) (a b:IC)
 |block (id:Nat) (c:IC)
 |loop (c:IC)
 |exit (id:Nat)
 |ret
inductive FM where
 |plain
 |dfr (pre:List XC) (g:Operand) (rest:XC)
 |rcv (d d2:Tmp) (rest:XC)
 |itf (c:IC)
structure FI where
 code:XC
 ntmps:Nat
 results:List ResultVar
 mode:FM
structure Env where
 ti:Nat->Option TI
 fn:Nat->Option FI
 gl:Nat->Option AV
 told:Nat->Bool
 mx:Option Nat
 gc:Nat->Bool:=fun _=>zf
 dlf:Nat->Option (List Nat):=fun _=>zn
 srt:Nat->Nat->Bool:=fun _ _=>zf
inductive Res where
 |ok (a:AV) (h:Vg)
 |pan (v:AV) (h:Vg)
 |bad
inductive Ex where
 |normal|exit (id:Nat)|ret
inductive cz where
 |ok (e:Ex) (fr:Tr) (h:Vg)
 |pan (v:AV) (h:Vg)
 |bad
def M6{α:Type}(n:Nat)(f:Nat->α):α:=match n with|0=>f 0|m+1=>f (m+1)
def qt{α:Type}(n:Int)(f:Int->α):α:=match n with | .ofNat a=>M6 a fun a=>f (.ofNat a) | .negSucc a=>M6 a fun a=>f (.negSucc a)
theorem C1{α:Type}(n:Nat)(f:Nat->α):M6 n f=f n:=by cases n<;>rfl
theorem Ns{α:Type}(n:Int)(f:Int->α):qt n f=f n:=by cases n<;>simp[qt,C1]
def me:IntKind->Nat
 |.i8 | .u8=>256
 |.i16 | .u16=>65536
 |.i32 | .u32=>4294967296
 | .i64 | .u64=>18446744073709551616
def g0b:IntKind->Nat
 |.i8=>128
 |.i16=>32768
 |.i32=>2147483648
 |.i64=>9223372036854775808
 |.u8=>256
 |.u16=>65536
 |.u32=>4294967296
 | .u64=>18446744073709551616
def qo(n:Int)(m:Nat):Nat:=
 match n with
 |.ofNat a=>Nat.mod a m
 | .negSucc a=>Nat.sub m (Nat.succ (Nat.mod a m))
def Xt(k:IntKind)(m:Nat):Int:=
 bif Nat.ble (g0b k) m then Int.negSucc (Nat.sub (Nat.sub (me k) m) 1)else zqn m
def mB(k:IntKind)(n:Int):Int:=Xt k (qo n (me k))
def iV:IntKind->Nat
 | .i8=>0 | .i16=>1 | .i32=>2 | .i64=>3 | .u8=>4 | .u16=>5 | .u32=>6 | .u64=>7
def gy(j k:IntKind):Bool:=Nat.beq (iV j) (iV k)
def Co:IntKind->Nat
 |.i8 | .u8=>8
 |.i16 | .u16=>16
 |.i32 | .u32=>32
 | .i64 | .u64=>64
def mj(a b:Int):Bool:=
 match a with
 |.ofNat a=>match b with | .ofNat b=>Nat.beq a b | .negSucc _=>zf
 | .negSucc a=>match b with | .ofNat _=>zf | .negSucc b=>Nat.beq a b
def il(a b:Int):Bool:=
 match a with
 |.ofNat a=>match b with | .ofNat b=>Nat.ble a b | .negSucc _=>zf
 | .negSucc a=>match b with | .ofNat _=>zt | .negSucc b=>Nat.ble b a
def Jp(a b:UInt8):Bool:=Nat.beq a.toNat b.toNat
def Pp:List UInt8->List UInt8->Bool
 |[],b=>match b with|[]=>zt|_::_=>zf
 |x::a,b=>match b with|[]=>zf|y::b=>bif Jp x y then Pp a b else zf
def AV.cells(v:AV):List AV:=AV.rec (motive_1:=fun _=>List AV) (motive_2:=fun _=>Unit)
    (fun B C=>[(.int B C)])
    (fun B=>[(.bool B)])
    (fun B=>[(.str B)])
    (fun cs _=>cs)
    (fun B _=>[(.tup B)])
    (fun B C _=>[(.fsl B C)])
    (fun B C _=>[(.fptr B C)])
    (fun B C D G=>[(.msl B C D G)])
    (fun B C D=>[(.ptr B C D)])
    ([(.x0a)])
    ([(.x0c)])
    ([(.x0d)])
    (fun B=>[(.map B)])
    (fun B C D _ _=>[(.fn B C D)])
    ([(.x0e)])
    (fun B C _=>[(.iface B C)])
    ([(.x0b)])
    ([(.any)])
    ([(.und)])
    () (fun _ _ _ _=>()) v
namespace AV
section
variable {α:Type}
def onInt(v:AV)(d:α)(f:IntKind->Int->α):α:=AV.rec (motive_1:=fun _=>α->(IntKind->Int->α)->α) (motive_2:=fun _=>Unit)
    (fun k n p0 p1=>p1 k n)
    (fun _ p0 p1=>p0)
    (fun _ p0 p1=>p0)
    (fun _ _ p0 p1=>p0)
    (fun _ _ p0 p1=>p0)
    (fun _ _ _ p0 p1=>p0)
    (fun _ _ _ p0 p1=>p0)
    (fun _ _ _ _ p0 p1=>p0)
    (fun _ _ _ p0 p1=>p0)
    (fun p0 p1=>p0)
    (fun p0 p1=>p0)
    (fun p0 p1=>p0)
    (fun _ p0 p1=>p0)
    (fun _ _ _ _ _ p0 p1=>p0)
    (fun p0 p1=>p0)
    (fun _ _ _ p0 p1=>p0)
    (fun p0 p1=>p0)
    (fun p0 p1=>p0)
    (fun p0 p1=>p0)
    () (fun _ _ _ _=>()) v d f
def onBool(v:AV)(d:α)(f:Bool->α):α:=AV.rec (motive_1:=fun _=>α->(Bool->α)->α) (motive_2:=fun _=>Unit)
    (fun _ _ p0 p1=>p0)
    (fun b p0 p1=>p1 b)
    (fun _ p0 p1=>p0)
    (fun _ _ p0 p1=>p0)
    (fun _ _ p0 p1=>p0)
    (fun _ _ _ p0 p1=>p0)
    (fun _ _ _ p0 p1=>p0)
    (fun _ _ _ _ p0 p1=>p0)
    (fun _ _ _ p0 p1=>p0)
    (fun p0 p1=>p0)
    (fun p0 p1=>p0)
    (fun p0 p1=>p0)
    (fun _ p0 p1=>p0)
    (fun _ _ _ _ _ p0 p1=>p0)
    (fun p0 p1=>p0)
    (fun _ _ _ p0 p1=>p0)
    (fun p0 p1=>p0)
    (fun p0 p1=>p0)
    (fun p0 p1=>p0)
    () (fun _ _ _ _=>()) v d f
def onStr(v:AV)(d:α)(f:List UInt8->α):α:=AV.rec (motive_1:=fun _=>α->(List UInt8->α)->α) (motive_2:=fun _=>Unit)
    (fun _ _ p0 p1=>p0)
    (fun _ p0 p1=>p0)
    (fun s p0 p1=>p1 s)
    (fun _ _ p0 p1=>p0)
    (fun _ _ p0 p1=>p0)
    (fun _ _ _ p0 p1=>p0)
    (fun _ _ _ p0 p1=>p0)
    (fun _ _ _ _ p0 p1=>p0)
    (fun _ _ _ p0 p1=>p0)
    (fun p0 p1=>p0)
    (fun p0 p1=>p0)
    (fun p0 p1=>p0)
    (fun _ p0 p1=>p0)
    (fun _ _ _ _ _ p0 p1=>p0)
    (fun p0 p1=>p0)
    (fun _ _ _ p0 p1=>p0)
    (fun p0 p1=>p0)
    (fun p0 p1=>p0)
    (fun p0 p1=>p0)
    () (fun _ _ _ _=>()) v d f
def onAgg(v:AV)(d:α)(f:List AV->α):α:=AV.rec (motive_1:=fun _=>α->(List AV->α)->α) (motive_2:=fun _=>Unit)
    (fun _ _ p0 p1=>p0)
    (fun _ p0 p1=>p0)
    (fun _ p0 p1=>p0)
    (fun s _ p0 p1=>p1 s)
    (fun _ _ p0 p1=>p0)
    (fun _ _ _ p0 p1=>p0)
    (fun _ _ _ p0 p1=>p0)
    (fun _ _ _ _ p0 p1=>p0)
    (fun _ _ _ p0 p1=>p0)
    (fun p0 p1=>p0)
    (fun p0 p1=>p0)
    (fun p0 p1=>p0)
    (fun _ p0 p1=>p0)
    (fun _ _ _ _ _ p0 p1=>p0)
    (fun p0 p1=>p0)
    (fun _ _ _ p0 p1=>p0)
    (fun p0 p1=>p0)
    (fun p0 p1=>p0)
    (fun p0 p1=>p0)
    () (fun _ _ _ _=>()) v d f
def onTup(v:AV)(d:α)(f:List AV->α):α:=AV.rec (motive_1:=fun _=>α->(List AV->α)->α) (motive_2:=fun _=>Unit)
    (fun _ _ p0 p1=>p0)
    (fun _ p0 p1=>p0)
    (fun _ p0 p1=>p0)
    (fun _ _ p0 p1=>p0)
    (fun s _ p0 p1=>p1 s)
    (fun _ _ _ p0 p1=>p0)
    (fun _ _ _ p0 p1=>p0)
    (fun _ _ _ _ p0 p1=>p0)
    (fun _ _ _ p0 p1=>p0)
    (fun p0 p1=>p0)
    (fun p0 p1=>p0)
    (fun p0 p1=>p0)
    (fun _ p0 p1=>p0)
    (fun _ _ _ _ _ p0 p1=>p0)
    (fun p0 p1=>p0)
    (fun _ _ _ p0 p1=>p0)
    (fun p0 p1=>p0)
    (fun p0 p1=>p0)
    (fun p0 p1=>p0)
    () (fun _ _ _ _=>()) v d f
end
end AV
namespace HT
def get(t:HT):Nat->Option io:=
 HT.rec (motive:=fun _=>Nat->Option io) (fun _=>zn)
  (fun _ v _ gl B i=>Nat.rec (motive:=fun _=>Option io) v (fun k _=>Nat.rec (motive:=fun _=>Option io) (gl (zqb k 1)) (fun _ _=>B (zqb k 1)) (zqa k 1)) i) t
def left(t:HT):HT:=HT.rec (motive:=fun _=>HT) .nil (fun l _ _ _ _=>l) t
def mid(t:HT):Option io:=HT.rec (motive:=fun _=>Option io) zn (fun _ v _ _ _=>v) t
def right(t:HT):HT:=HT.rec (motive:=fun _=>HT) .nil (fun _ _ r _ _=>r) t
def path(x:Option io)(f:Nat):Nat->HT:=
 Nat.rec (motive:=fun _=>Nat->HT) (fun _=>.nil)
  (fun _ B i=>Nat.rec (motive:=fun _=>HT) (.node .nil x .nil) (fun k _=>Nat.rec (motive:=fun _=>HT) (.node (B (zqb k 1)) zn .nil) (fun _ _=>.node .nil zn (B (zqb k 1))) (zqa k 1)) i) f
def put(x:Option io)(f:Nat)(t:HT):Nat->HT:=
 HT.rec (motive:=fun _=>Option io->Nat->Nat->HT) (fun x f i=>path x f i)
  (fun l v r B C x f i=>Nat.rec (motive:=fun _=>HT) (.node l x r) (fun k _=>Nat.rec (motive:=fun _=>HT) (.node (B x f (zqb k 1)) v r) (fun _ _=>.node l v (C x f (zqb k 1))) (zqa k 1)) i) t x f
def trunc(o:HT):HT->HT:=
 HT.rec (motive:=fun _=>HT->HT) (fun _=>.nil) (fun _ _ _ B tr n=>.node (B n.left) n.mid (tr n.right)) o
end HT
namespace Vg
def empty:Vg:=⟨0,[],.nil⟩
def get(h:Vg)(i:Nat):Option io:=h.os.get i
def set(h:Vg)(i:Nat)(x:io):Vg:=⟨h.next,i::h.tch,h.os.put (zs x) (i+1) i⟩
def del(h:Vg)(i:Nat):Vg:=⟨h.next,i::h.tch,h.os.put zn (i+1) i⟩
def push(h:Vg)(x:io):Vg:=⟨h.next+1,h.tch,h.os.put (zs x) (h.next+1) h.next⟩
def onRow{α:Type}(h:Vg)(i:Nat)(d:α)(f:List AV->Nat->α):α:=
 match h.get i with
 |none=>d
 |some o=>match o with | .row es sz=>f es sz | .mapo _=>d
def onMapo{α:Type}(h:Vg)(i:Nat)(d:α)(f:List (AV×AV)->α):α:=
 match h.get i with
 |none=>d
 |some o=>match o with | .row _ _=>d | .mapo es=>f es
end Vg
namespace Tr
def get(t:Tr):Nat->AV:=
 Tr.rec (motive:=fun _=>Nat->AV) (fun _=>.und)
  (fun _ v _ gl B i=>Nat.rec (motive:=fun _=>AV) v (fun k _=>Nat.rec (motive:=fun _=>AV) (gl (zqb k 1)) (fun _ _=>B (zqb k 1)) (zqa k 1)) i) t
def set(t:Tr):Nat->AV->Tr:=
 Tr.rec (motive:=fun _=>Nat->AV->Tr) (fun _ _=>.nil)
  (fun l v r B C i x=>Nat.rec (motive:=fun _=>Tr) (.node l x r) (fun k _=>Nat.rec (motive:=fun _=>Tr) (.node (B (zqb k 1) x) v r) (fun _ _=>.node l v (C (zqb k 1) x)) (zqa k 1)) i) t
noncomputable def has(t:Tr):Nat->Bool:=
 Tr.rec (motive:=fun _=>Nat->Bool) (fun _=>zf)
  (fun _ _ _ gl B i=>Nat.rec (motive:=fun _=>Bool) zt (fun k _=>bif Nat.beq (zqa k 1) 0 then gl (zqb k 1)else B (zqb k 1)) i) t
def mk(f:Nat):Nat->Tr:=
 Nat.rec (motive:=fun _=>Nat->Tr) (fun _=>.nil) (fun _ B n=>Nat.rec (motive:=fun _=>Tr) .nil (fun k _=>.node (B (zqe (k+1) 2)) .und (B (zqe k 2))) n) f
def setAll(l:List AV):Nat->Tr->Tr:=
 List.rec (motive:=fun _=>Nat->Tr->Tr) (fun _ t=>t) (fun v _ B i t=>B (i+1) (t.set i v)) l
def enter(n:Nat)(args:List AV):Tr:=setAll args 0 (mk 20 n)
end Tr
def Eg:Value->AV
 |.int k n=>.int k n
 |.bool b=>.bool b
 |.string s=>.str s.data.toList
 |.pointer a=>match a with|none=>.x0c|some _=>.any
 |.slice a n c=>match a with|none=>(match n with|0=>(match c with|0=>.x0a|_=>.any)|_=>.any)|some _=>.any
 |.map r=>match r with|none=>.x0d|some _=>.any
 |.nilFunc=>.x0e
 |.nilIface=>.x0b
 |.agg _=>.und
 |.tuple _=>.und
 |_=>.any
def ofValue(v:Value):AV:=match v with | .agg cs=>.agg (cs.toList.map Eg)|v=>Eg v
def A5{α β:Type}(x:Option α)(f:α->Option β):Option β:=Option.rec (motive:=fun _=>Option β) zn f x
def B5{α:Type}(b:Bool)(x:Option α):Option α:=Bool.rec (motive:=fun _=>Option α) zn x b
def Eh(l:List AV):Nat->Option AV:=
 List.rec (motive:=fun _=>Nat->Option AV) (fun _=>zn) (fun v _ B i=>Nat.rec (motive:=fun _=>Option AV) (zs v) (fun k _=>B k) i) l
def ls(l:List AV):Nat->List AV:=
 List.rec (motive:=fun _=>Nat->List AV) (fun _=>[]) (fun v r B i=>Nat.rec (motive:=fun _=>List AV) (v::r) (fun k _=>B k) i) l
def kh(l:List AV):Nat->List AV:=
 List.rec (motive:=fun _=>Nat->List AV) (fun _=>[]) (fun v _ B i=>Nat.rec (motive:=fun _=>List AV) [] (fun k _=>v::B k) i) l
def we(l:List AV):Nat->AV->List AV:=
 List.rec (motive:=fun _=>Nat->AV->List AV) (fun _ _=>[]) (fun v r B i x=>Nat.rec (motive:=fun _=>List AV) (x::r) (fun k _=>v::B k x) i) l
def dw(l:List AV):Nat:=List.rec (motive:=fun _=>Nat) 0 (fun _ _ n=>Nat.succ n) l
def Sn{α:Type}(l:List AV)(f:List AV->α):α:=List.rec (motive:=fun _=>(List AV->α)->α) (fun f=>f []) (fun x _ B f=>B fun r=>f (x::r)) l f
def ma(a b:List AV):List AV:=List.rec (motive:=fun _=>List AV) b (fun v _ B=>v::B) a
def oi(n:Nat)(v:AV):List AV:=Nat.rec (motive:=fun _=>List AV) [] (fun _ B=>v::B) n
def r8(l:List UInt8):Nat:=List.rec (motive:=fun _=>Nat) 0 (fun _ _ n=>Nat.succ n) l
def r9:TD->Bool
 |.struct _ _=>zt
 |.array _ _=>zt
 |_=>zf
def ct(t:TI)(cs:List AV)(off:Nat):Option AV:=
 bif r9 t.desc then(bif Nat.ble (Nat.add off t.size) (dw cs)then zs (.agg (kh (ls cs off) t.size))else zn)else Eh cs off
def O5(cs:List AV)(off:Nat)(new:List AV):List AV:=ma (kh cs off) (ma new (ls cs (Nat.add off (dw new))))
def AV.x0f(v:AV)(off:Nat)(new:List AV):AV:=
 match v with
 |.agg cs=>.agg (O5 cs off new)
 |_=>match new with|[]=>.und|x::r=>match r with|[]=>x|_::_=>.und
def ff(v:AV):Bool:=match v with | .agg _=>zf | .tup _=>zf | .und=>zf|_=>zt
def E4(l:List AV):Bool:=List.rec (motive:=fun _=>Bool) zt (fun v _ B=>bif ff v then B else zf) l
def elems(x:AV)(h:Vg):Option (List AV):=AV.rec (motive_1:=fun _=>Vg->Option (List AV)) (motive_2:=fun _=>Unit)
    (fun _ _ p0=>zn)
    (fun _ p0=>zn)
    (fun _ p0=>zn)
    (fun _ _ p0=>zn)
    (fun _ _ p0=>zn)
    (fun es _ _ p0=>zs es)
    (fun _ _ _ p0=>zn)
    (fun id off n _ p0=>p0.onRow id zn fun es _=>bif Nat.ble (Nat.add off n) (dw es)then zs (kh (ls es off) n)else zn)
    (fun _ _ _ p0=>zn)
    (fun p0=>zs [])
    (fun p0=>zn)
    (fun p0=>zn)
    (fun _ p0=>zn)
    (fun _ _ _ _ _ p0=>zn)
    (fun p0=>zn)
    (fun _ _ _ p0=>zn)
    (fun p0=>zn)
    (fun p0=>zn)
    (fun p0=>zn)
    () (fun _ _ _ _=>()) x h
def HH(x y:AV):Option Bool:=
 match x with
 |.int j a=>y.onInt zn fun k b=>bif gy j k then zs (mj a b)else zn
 |.str a=>y.onStr zn fun b=>zs (Pp a b)
 |_=>zn
def iw{α:Type}(b:Option Bool)(d:α)(t f:α):α:=Option.rec (motive:=fun _=>α) d (fun b=>Bool.rec (motive:=fun _=>α) f t b) b
def oO(l:List (AV×AV)):Nat:=List.rec (motive:=fun _=>Nat) 0 (fun _ _ n=>Nat.succ n) l
def Im(k:IntKind)(n:Int):Option AV:=qt n fun n=>zs (.int k n)
def R3(k:IntKind)(n:Int):Option AV:=Im k (mB k n)
def F8(b:Bool):Option AV:=match b with|true=>zs (.bool zt)|false=>zs (.bool zf)
def HI(x y:AV):Option Bool:=
 match x with
 |.int j a=>y.onInt zn fun k b=>bif gy j k then zs (mj a b)else zn
 |.bool a=>y.onBool zn fun b=>zs (a==b)
 |.str a=>y.onStr zn fun b=>zs (Pp a b)
 |_=>zn
def Xu(z x:AV):Bool:=
 match z with
 |.int j _=>x.onInt zf fun k _=>gy j k
 |.bool _=>x.onBool zf fun _=>zt
 |.str _=>x.onStr zf fun _=>zt
 |_=>zf
def Dk(z:List AV):List AV->Bool:=
 List.rec (motive:=fun _=>List AV->Bool) (fun m=>match m with|[]=>zt|_::_=>zf)
  (fun x _ B m=>match m with|[]=>zf|y::m=>bif Xu x y then B m else zf) z
def NS(l:List AV):List AV->Option Bool:=
 List.rec (motive:=fun _=>List AV->Option Bool) (fun m=>match m with|[]=>zs zt|_::_=>zn)
  (fun x _ B m=>match m with|[]=>zn|y::m=>iw (HI x y) zn (B m) (zs zf)) l
inductive EqK where
 |none|bool|slc|ptr|map|ifc|flat (z:List AV)
def rB(flat:EqK)(a b:List AV):Option Bool:=
 match flat with
 |.flat z=>B5 (Dk z a&&Dk z b) (NS a b)
 |_=>zn
def wU(flat:EqK):Bool:=match flat with | .bool=>zt|_=>zf
def rC(x:AV):Option Bool:=match x with | .x0a=>zs zt | .msl _ _ _ _=>zs zf | .fsl es f=>(match es with|[]=>bif f then zn else zs zf|_::_=>zs zf)|_=>zn
def rD(x:AV):Option Bool:=match x with | .x0c=>zs zt | .ptr _ _ _=>zs zf | .fptr _ _=>zs zf|_=>zn
def rE(x:AV):Option Bool:=match x with | .x0d=>zs zt | .map _=>zs zf|_=>zn
def rF(x:AV):Option Bool:=match x with | .x0b=>zs zt | .iface _ _=>zs zf|_=>zn
def s4(k:EqK)(x:AV):Option Bool:=match k with | .slc=>rC x | .ptr=>rD x | .map=>rE x | .ifc=>rF x|_=>zn
def Ei(k:EqK)(x y:AV):Option Bool:=iw (s4 k y) zn (s4 k x) (iw (s4 k x) zn (zs zf) zn)
def rG(flat:EqK)(x y:AV):Option Bool:=
 match x with
 |.agg a=>y.onAgg zn fun b=>rB flat a b
 |.bool a=>y.onBool zn fun b=>B5 (wU flat) (zs (a==b))
 |.int j a=>y.onInt zn fun k b=>bif gy j k then zs (mj a b)else zn
 |.str a=>y.onStr zn fun b=>zs (Pp a b)
 |x=>Ei flat x y
def QH(flat:EqK)(x y:AV):Option AV:=A5 (rG flat x y) F8
def QI(flat:EqK)(x y:AV):Option AV:=A5 (rG flat x y) fun b=>F8 (!b)
def u4(x y:AV)(f:IntKind->Int->Int->Option AV):Option AV:=
 x.onInt zn fun k a=>y.onInt zn fun k' b=>bif gy k k' then f k a b else zn
def DB(x y:AV):Option AV:=
 match x with
 |.str a=>y.onStr zn fun b=>bif Nat.ble (Nat.add (r8 a) (r8 b)) 4611686018427387904 then zs (.str (a++b))else zn
 |x=>u4 x y fun k a b=>R3 k (a+b)
def Lc(f:Nat->Nat->Nat)(x y:AV):Option AV:=u4 x y fun k a b=>Im k (Xt k (f (qo a (me k)) (qo b (me k))))
def HJ(x y:AV):Option AV:=x.onInt zn fun k a=>y.onInt zn fun _ b=>match b with
 |.negSucc _=>zn
 | .ofNat n=>R3 k (a*zqn (Nat.pow 2 (bif Nat.ble n (Co k)then n else Co k)))
def HK(x y:AV):Option AV:=x.onInt zn fun k a=>y.onInt zn fun _ b=>match b with
 |.negSucc _=>zn
 | .ofNat n=>Im k (a.fdiv (zqn (Nat.pow 2 (bif Nat.ble n (Co k)then n else Co k))))
def QJ(x y:AV):Option AV:=u4 x y fun k a b=>bif mj b 0 then zn else R3 k (a.tdiv b)
def QK(x y:AV):Option AV:=u4 x y fun k a b=>bif mj b 0 then zn else Im k (a.tmod b)
def Q7(op:BinOp)(flat:EqK):AV->AV->Option AV:=
 match op with
 |.add=>DB
 |.sub=>fun x y=>u4 x y fun k a b=>R3 k (a-b)
 |.mul=>fun x y=>u4 x y fun k a b=>R3 k (a*b)
 |.quo=>QJ
 |.rem=>QK
 |.and=>Lc zqa
 |.or=>Lc Nat.lor
 |.xor=>Lc Nat.xor
 |.shl=>HJ
 |.shr=>HK
 |.eql=>QH flat
 |.neq=>QI flat
 |.lss=>fun x y=>u4 x y fun _ a b=>F8 (!(il b a))
 |.leq=>fun x y=>u4 x y fun _ a b=>F8 (il a b)
 |.gtr=>fun x y=>u4 x y fun _ a b=>F8 (!(il a b))
 |.geq=>fun x y=>u4 x y fun _ a b=>F8 (il b a)
 |_=>fun _ _=>zn
def Pq(op:UnOp)(x:AV):Option AV:=
 match op with
 |.neg=>x.onInt zn fun k n=>R3 k (0-n)
 |.not=>x.onBool zn fun b=>F8 (!b)
 |_=>zn
def R4(dst:TD)(x:AV):Option AV:=
 match dst with
 |.int k=>x.onInt zn fun _ n=>R3 k n
 |.string=>x.onStr zn fun s=>zs (.str s)
 |_=>zn
def ew(v:AV):Option Nat:=v.onInt zn fun _ n=>match n with | .ofNat n=>zs n | .negSucc _=>zn
def E7(o:Option AV)(d:Nat):Option Nat:=match o with|none=>zs d|some v=>ew v
def Nt(l:List AV):AV->Option AV:=
 List.rec (motive:=fun _=>AV->Option AV) zs (fun y _ B x=>x.onInt zn fun k a=>y.onInt zn fun _ b=>B (.int k (bif il b a then a else b))) l
def Qm(l:List AV):AV->Option AV:=
 List.rec (motive:=fun _=>AV->Option AV) zs (fun y _ B x=>x.onInt zn fun k a=>y.onInt zn fun _ b=>B (.int k (bif il a b then a else b))) l
def Ej(s:List UInt8)(lo hi mx:Option AV):Option AV:=
 A5 (E7 lo 0) fun l=>A5 (E7 hi (r8 s)) fun r =>
  B5 (Nat.ble l r&&Nat.ble r (r8 s)&&mx.isNone) (zs (.str ((s.drop l).take (Nat.sub r l))))
def i6(sz:Nat)(es:List AV):Bool:=match es with|[]=>zt|e::_=>Nat.beq (dw e.cells) sz
def Nu(sz:Nat)(es:List AV)(full:Bool)(lo hi mx:Option AV):Option AV:=
 A5 (E7 lo 0) fun l=>A5 (E7 hi (dw es)) fun r=>A5 (E7 mx (dw es)) fun m =>
  B5 (Nat.ble l r&&Nat.ble r m&&Nat.ble m (dw es)&&i6 sz es)
   (zs (.fsl (kh (ls es l) (Nat.sub r l)) (match mx with|some _=>Nat.beq m r|none=>full&&Nat.beq r (dw es))))
def Nv(ts id off n sz:Nat)(lo hi mx:Option AV):Option AV:=
 A5 (E7 lo 0) fun l=>A5 (E7 hi n) fun r=>A5 (E7 mx n) fun m =>
  B5 (Nat.ble l r&&Nat.ble r m&&Nat.ble m n&&Nat.beq sz ts) (M6 (Nat.add off l) fun o=>M6 (Nat.sub r l) fun c=>zs (.msl id o c sz))
def aS(lo hi mx:Option AV):Option AV:=
 A5 (E7 lo 0) fun l=>A5 (E7 hi 0) fun r=>A5 (E7 mx 0) fun m=>B5 (Nat.ble l r&&Nat.ble r m&&Nat.ble m 0) (zs .x0a)
def Nw(ts:Nat)(lo hi mx:Option AV)(x:AV):Option AV:=AV.rec (motive_1:=fun _=>Nat->Option AV->Option AV->Option AV->Option AV) (motive_2:=fun _=>Unit)
    (fun _ _ p0 p1 p2 p3=>zn)
    (fun _ p0 p1 p2 p3=>zn)
    (fun _ p0 p1 p2 p3=>zn)
    (fun _ _ p0 p1 p2 p3=>zn)
    (fun _ _ p0 p1 p2 p3=>zn)
    (fun es full _ p0 p1 p2 p3=>Nu p0 es full p1 p2 p3)
    (fun _ _ _ p0 p1 p2 p3=>zn)
    (fun id off n sz p0 p1 p2 p3=>Nv p0 id off n sz p1 p2 p3)
    (fun _ _ _ p0 p1 p2 p3=>zn)
    (fun _ p1 p2 p3=>aS p1 p2 p3)
    (fun p0 p1 p2 p3=>zn)
    (fun p0 p1 p2 p3=>zn)
    (fun _ p0 p1 p2 p3=>zn)
    (fun _ _ _ _ _ p0 p1 p2 p3=>zn)
    (fun p0 p1 p2 p3=>zn)
    (fun _ _ _ p0 p1 p2 p3=>zn)
    (fun p0 p1 p2 p3=>zn)
    (fun p0 p1 p2 p3=>zn)
    (fun p0 p1 p2 p3=>zn)
    () (fun _ _ _ _=>()) x ts lo hi mx
def C0(x:AV)(d:Nat):Option AV:=AV.rec (motive_1:=fun _=>Nat->Option AV) (motive_2:=fun _=>Unit)
    (fun _ _ p0=>zn)
    (fun _ p0=>zn)
    (fun _ p0=>zn)
    (fun _ _ p0=>zn)
    (fun _ _ p0=>zn)
    (fun _ _ _ p0=>zn)
    (fun v off _ p0=>M6 (Nat.add off p0) fun o=>zs (.fptr v o))
    (fun _ _ _ _ p0=>zn)
    (fun id i off p0=>M6 (Nat.add off p0) fun o=>zs (.ptr id i o))
    (fun p0=>zn)
    (fun p0=>zn)
    (fun p0=>zn)
    (fun _ p0=>zn)
    (fun _ _ _ _ _ p0=>zn)
    (fun p0=>zn)
    (fun _ _ _ p0=>zn)
    (fun p0=>zn)
    (fun p0=>zn)
    (fun p0=>zn)
    () (fun _ _ _ _=>()) x d
def Ek(t:TI)(x:AV)(h:Vg):Option AV:=AV.rec (motive_1:=fun _=>TI->Vg->Option AV) (motive_2:=fun _=>Unit)
    (fun _ _ p0 p1=>zn)
    (fun _ p0 p1=>zn)
    (fun _ p0 p1=>zn)
    (fun _ _ p0 p1=>zn)
    (fun _ _ p0 p1=>zn)
    (fun _ _ _ p0 p1=>zn)
    (fun v off _ p0 p1=>ct p0 v.cells off)
    (fun _ _ _ _ p0 p1=>zn)
    (fun id i off p0 p1=>p1.onRow id zn fun es _=>A5 (Eh es i) fun v=>ct p0 v.cells off)
    (fun p0 p1=>zn)
    (fun p0 p1=>zn)
    (fun p0 p1=>zn)
    (fun _ p0 p1=>zn)
    (fun _ _ _ _ _ p0 p1=>zn)
    (fun p0 p1=>zn)
    (fun _ _ _ p0 p1=>zn)
    (fun p0 p1=>zn)
    (fun p0 p1=>zn)
    (fun p0 p1=>zn)
    () (fun _ _ _ _=>()) x t h
def So(t:TI)(id i off:Nat)(cs:List AV)(h:Vg)(es:List AV)(sz:Nat):Option Vg:=
 A5 (Eh es i) fun old=>B5 (Nat.beq (dw cs) t.size&&Nat.blt 0 t.size&&Nat.ble (Nat.add off t.size) sz&&E4 cs) (zs (h.set id (.row (we es i (old.x0f off cs)) sz)))
def Cp(t:TI)(p v:AV)(h:Vg):Option Vg:=AV.rec (motive_1:=fun _=>TI->AV->Vg->Option Vg) (motive_2:=fun _=>Unit)
    (fun _ _ p0 p1 p2=>zn)
    (fun _ p0 p1 p2=>zn)
    (fun _ p0 p1 p2=>zn)
    (fun _ _ p0 p1 p2=>zn)
    (fun _ _ p0 p1 p2=>zn)
    (fun _ _ _ p0 p1 p2=>zn)
    (fun _ _ _ p0 p1 p2=>zn)
    (fun _ _ _ _ p0 p1 p2=>zn)
    (fun id i off p0 p1 p2=>p2.onRow id zn (So p0 id i off p1.cells p2))
    (fun p0 p1 p2=>zn)
    (fun p0 p1 p2=>zn)
    (fun p0 p1 p2=>zn)
    (fun _ p0 p1 p2=>zn)
    (fun _ _ _ _ _ p0 p1 p2=>zn)
    (fun p0 p1 p2=>zn)
    (fun _ _ _ p0 p1 p2=>zn)
    (fun p0 p1 p2=>zn)
    (fun p0 p1 p2=>zn)
    (fun p0 p1 p2=>zn)
    () (fun _ _ _ _=>()) p t v h
def Ad(te:TI)(es:List AV)(full:Bool)(xs:List AV)(h:Vg):Option (AV×Vg):=
 M6 (Nat.add (dw es) (dw xs)) fun n =>
  B5 (full&&Nat.ble (Nat.mul n te.bytes) 140737488355328&&i6 te.size es) (Sn (ma es xs) fun l=>zs (.msl h.next 0 n te.size,h.push (.row l te.size)))
def Ld(te:TI)(id off n:Nat)(xs:List AV)(h:Vg)(es:List AV)(sz:Nat):Option (AV×Vg):=
 M6 (Nat.add n (dw xs)) fun m =>
  B5 (Nat.ble (Nat.add off n) (dw es)&&Nat.beq sz te.size&&Nat.ble (Nat.mul m te.bytes) 140737488355328)
   (Sn (ma (kh (ls es off) n) xs) fun l=>zs (.msl h.next 0 m sz,(h.del id).push (.row l sz)))
def I1(te:TI)(s:AV)(xs:List AV)(h:Vg):Option (AV×Vg):=
 match xs with
 | []=>match s with
  |.x0a=>zs (.x0a,h)
  |.fsl es f=>zs (.fsl es f,h)
  |.msl i o n z=>zs (.msl i o n z,h)
  |_=>zn
 | x::r=>match s with
  |.x0a=>Ad te [] zt (x::r) h
  |.fsl es full=>Ad te es full (x::r) h
  |.msl id off n _=>h.onRow id zn (Ld te id off n (x::r) h)
  |_=>zn
def dT(x:AV):Option Nat:=AV.rec (motive_1:=fun _=>Option Nat) (motive_2:=fun _=>Unit)
    (fun _ _=>zn)
    (fun _=>zn)
    (fun _=>zn)
    (fun _ _=>zn)
    (fun _ _=>zn)
    (fun es _ _=>zs (dw es))
    (fun _ _ _=>zn)
    (fun _ _ n _=>zs n)
    (fun _ _ _=>zn)
    (zs 0)
    (zn)
    (zn)
    (fun _=>zn)
    (fun _ _ _ _ _=>zn)
    (zn)
    (fun _ _ _=>zn)
    (zn)
    (zn)
    (zn)
    () (fun _ _ _ _=>()) x
def rH(x:AV)(h:Vg):Option Nat:=
 match x with
 |.x0d=>zs 0
 |.map id=>h.onMapo id zn fun es=>zs (oO es)
 |_=>zn
def iW(d:TD)(x:AV)(h:Vg):Option Nat:=
 match d with
 |.string=>x.onStr zn fun s=>zs (r8 s)
 |.slice _=>dT x
 |.map _ _=>rH x h
 |_=>zn
def Lf(te:TI)(id off n:Nat)(xs:List AV)(h:Vg)(es:List AV)(sz:Nat):Option (AV×Vg):=
 M6 (bif Nat.ble n (dw xs)then n else dw xs) fun k =>
  B5 (Nat.ble (Nat.add off n) (dw es)&&Nat.beq sz te.size) (zs (.int .i64 (zqn k),h.set id (.row (ma (kh es off) (ma (kh xs k) (ls es (Nat.add off k)))) sz)))
def dU(te:TI)(d:AV)(xs:List AV)(h:Vg):Option (AV×Vg):=
 match d with
 |.msl id off n _=>h.onRow id zn (Lf te id off n xs h)
 |.x0a=>zs (.int .i64 (zqn 0),h)
 |_=>zn
def G1(sz:Nat)(l:List AV):Bool:=List.rec (motive:=fun _=>Bool) zt (fun v _ B=>bif Nat.beq (dw v.cells) sz then B else zf) l
section
variable (E:Env)
def opv(x:Operand)(fr:Tr):AV:=Operand.rec (motive:=fun _=>Env->Tr->AV)
    (fun t _ fr=>fr.get t)
    (fun v _ _=>ofValue v)
    (fun g E _=>match E.gl g with|some v=>.fptr v 0|none=>.any)
    (fun f _ _=>.fn (.func f) [] []) x E fr
def fk(l:List Operand)(fr:Tr):List AV:=List.rec (motive:=fun _=>List AV) [] (fun x _ B=>opv E x fr::B) l
def Nx(o:Option Operand)(fr:Tr):Option AV:=match o with|none=>zn|some x=>zs (opv E x fr)
def onTI{α:Type}(t:Nat)(d:α)(f:TI->α):α:=Option.rec (motive:=fun _=>α) d f (E.ti t)
def cu(d:TD):Option TI:=
 match d with
 |.slice e=>E.ti e
 |_=>zn
def Lg(ts:List TypeId)(args:List AV)(h:Vg):Option (AV×Vg):=
 match ts with
 |[]=>zn
 | t :: ts=>match ts with
  |[]=>zn
  | tx::_=>match args with
   |[]=>zn
   | s::args=>match args with
    |[]=>zn
    |x::_=>onTI E t zn fun ti=>A5 (cu E ti.desc) fun te=>B5 (Nat.blt 0 te.size) (onTI E tx zn fun B =>
     match B.desc with
     |.int _=>A5 (ew x) fun n=>B5 (Nat.ble (Nat.mul n te.bytes) 140737488355328) (I1 te s (oi n te.zero) h)
     |_=>A5 (elems x h) fun xs=>B5 (G1 te.size xs) (I1 te s xs h))
def Wi(ts:List TypeId)(args:List AV)(h:Vg):Option (AV×Vg):=
 match ts with
 |[]=>zn
 | t::_=>match args with
  |[]=>zn
  |x::_=>onTI E t zn fun ti=>A5 (iW ti.desc x h) fun n=>M6 n fun n=>zs (.int .i64 (zqn n),h)
def dV(ts:List TypeId)(args:List AV)(h:Vg):Option (AV×Vg):=
 match ts with
 |[]=>zn
 | t::_=>match args with
  |[]=>zn
  | d::r=>match r with
   |[]=>zn
   |s::_=>onTI E t zn fun ti=>A5 (cu E ti.desc) fun te=>A5 (elems s h) fun xs=>B5 (G1 te.size xs) (dU te d xs h)
def oP(args:List AV)(h:Vg):Option (AV×Vg):=match args with|[]=>zn|x::r=>(Nt r x).map (·,h)
def oQ(args:List AV)(h:Vg):Option (AV×Vg):=match args with|[]=>zn|x::r=>(Qm r x).map (·,h)
def F5(b:Builtin)(ts:List TypeId):List AV->Vg->Option (AV×Vg):=
 match b with
 |.len=>Wi E ts
 |.append=>Lg E ts
 |.copy=>dV E ts
 |.max=>oP
 |.min=>oQ
 |_=>fun _ _=>zn
def lift(v:Option AV)(h:Vg):Res:=Option.rec (motive:=fun _=>Vg->Res) (fun _=>.bad) (fun v h=>.ok v h) v h
def lift2(v:Option (AV×Vg)):Res:=match v with|some p=>.ok p.1 p.2|none=>.bad
def liftH(v:Option Vg):Res:=match v with|some h=>.ok .und h|none=>.bad
abbrev Jq:=Tr->Vg->Res
def rI(x:Operand):Jq:=fun fr h=>.ok (opv E x fr) h
def aT(c a b:Operand):Jq:=fun fr h=>(opv E c fr).onBool .bad fun t=>match t with|true=>.ok (opv E a fr) h|false=>.ok (opv E b fr) h
def iX(sz:Nat)(v:AV)(h:Vg):Res:=.ok (.ptr h.next 0 0) (h.push (.row [v] sz))
def wV(t:Nat):Jq:=fun _ h=>onTI E t .bad fun ti=>iX ti.size ti.zero h
def mC(t:Nat)(x:Operand):Jq:=fun fr h=>onTI E t .bad fun ti=>bif Nat.beq (dw (opv E x fr).cells) ti.size&&E4 (opv E x fr).cells then iX ti.size (opv E x fr) h else .bad
def U9(place:Nat->Option (Nat×Nat))(ps:List (Nat×AV)):List AV->Option (List AV):=
 List.rec (motive:=fun _=>List AV->Option (List AV)) zs
  (fun p _ B cells=>A5 (place p.1) fun q=>B5 (Nat.beq (dw p.2.cells) q.2&&Nat.ble (Nat.add q.1 q.2) (dw cells)&&E4 p.2.cells) (B (O5 cells q.1 p.2.cells))) ps
def Wj(l:List (Nat×Nat)):Nat->Option (Nat×Nat):=
 List.rec (motive:=fun _=>Nat->Option (Nat×Nat)) (fun _=>zn) (fun v _ B i=>Nat.rec (motive:=fun _=>Option (Nat×Nat)) (zs v) (fun k _=>B k) i) l
def X3(ti:TI)(ps:List (Nat×AV)):Option AV:=
 match ti.desc with
 |.struct fields _=>(U9 (fun i=>A5 (Wj fields i) fun f=>onTI E f.1 zn fun g=>zs (f.2,g.size)) ps ti.zero.cells).map .agg
 |.array _ e=>onTI E e zn fun te=>(U9 (fun i=>zs (Nat.mul i te.size,te.size)) ps ti.zero.cells).map .agg
 |_=>zn
def iz(l:List (Nat×Operand))(fr:Tr):List (Nat×AV):=List.rec (motive:=fun _=>List (Nat×AV)) [] (fun p _ B=>(p.1,opv E p.2 fr)::B) l
def Rf(t:Nat)(ps:Array (Nat×Operand)):Jq:=fun fr h=>onTI E t .bad fun ti=>lift (X3 E ti (iz E ps.toList fr)) h
def gi(sz:Nat)(ps:List (Nat×AV)):List AV->Option (List AV):=
 List.rec (motive:=fun _=>List AV->Option (List AV)) zs
  (fun p _ B es=>B5 (Nat.blt p.1 (dw es)&&Nat.beq (dw p.2.cells) sz&&E4 p.2.cells) (B (we es p.1 p.2))) ps
def L9(t n:Nat)(ps:Array (Nat×Operand)):Jq:=fun fr h =>
 onTI E t .bad fun ti=>match cu E ti.desc with
  |none=>.bad
  | some te=>bif Nat.ble (Nat.mul n te.size) 65536&&Nat.blt 0 te.size then
   (match gi te.size (iz E ps.toList fr) (oi n te.zero)with
   |none=>.bad
   |some es=>.ok (.msl h.next 0 n te.size) (h.push (.row es te.size)))else .bad
def aU(t:Nat)(a:Operand):Jq:=fun fr h=>onTI E t .bad fun ti=>lift (Ek ti (opv E a fr) h) h
def Rg(t:Nat)(a x:Operand):Jq:=fun fr h=>onTI E t .bad fun ti=>liftH (Cp ti (opv E a fr) (opv E x fr) h)
def Bk(x:AV):Option AV:=AV.rec (motive_1:=fun _=>Option AV) (motive_2:=fun _=>Unit)
    (fun _ _=>zn)
    (fun _=>zn)
    (fun _=>zn)
    (fun _ _=>zn)
    (fun _ _=>zn)
    (fun _ _ _=>zn)
    (fun v o _=>zs (.fptr v o))
    (fun _ _ _ _=>zn)
    (fun i j o=>zs (.ptr i j o))
    (zn)
    (zn)
    (zn)
    (fun i=>zs (.map i))
    (fun f a b _ _=>match f with | .func f=>zs (.fn (.func f) a b)|_=>zn)
    (zn)
    (fun _ _ _=>zn)
    (zn)
    (zn)
    (zn)
    () (fun _ _ _ _=>()) x
def Cq(x:Operand):Jq:=fun fr h=>lift (Bk (opv E x fr)) h
def dW(ti:TI):EqK:=match ti.desc with | .struct _ f=>(match f with|true=>.flat ti.zero.cells|false=>.none) | .bool=>.bool | .slice _=>.slc | .ptr _=>.ptr | .map _ _=>.map | .iface=>.ifc|_=>.none
def N1(t:Nat):EqK:=onTI E t .none dW
def Jr(t:Nat)(x y:AV):Option Bool:=
 match x with
 | .ptr i k o=>(match y with
  | .ptr i' k' o'=>onTI E t zn fun ti=>match ti.desc with
   |.ptr e=>onTI E e zn fun te=>B5 (Nat.blt 0 te.size&&(Nat.beq i i'&&Nat.beq k k')) (zs (Nat.beq o o'))
   |_=>zn
  |_=>zn)
 |_=>zn
def rJ(op:BinOp)(t:Nat)(x y:AV):Option AV:=
 match op with
 |.eql=>A5 (Jr E t x y) F8
 |.neq=>A5 (Jr E t x y) fun b=>F8 (!b)
 |_=>zn
def QL(a b:Option AV):Option AV:=match a with|some v=>zs v|none=>b
def Rh(op:BinOp)(t:Nat)(x y:Operand):Jq:=fun fr h=>lift (QL (rJ E op t (opv E x fr) (opv E y fr)) (Q7 op (N1 E t) (opv E x fr) (opv E y fr))) h
def aV(op:UnOp)(x:Operand):Jq:=fun fr h=>lift (Pq op (opv E x fr)) h
def Gw(s d:Nat)(x:Operand):Jq:=fun fr h=>onTI E s .bad fun _=>onTI E d .bad fun B=>lift (R4 B.desc (opv E x fr)) h
def Cr(f:Fn)(first caps:Array Operand):Jq:=fun fr h=>.ok (.fn f (fk E first.toList fr) (fk E caps.toList fr)) h
def oR(r:Option Operand):Jq:=fun _ h=>match r with|none=>.ok (.map h.next) (h.push (.mapo []))|some _=>.bad
def V0(d:TD):Bool:=match d with | .func=>zf | .iface=>zf | .other=>zf|_=>zt
def W6(t:Nat)(x:Operand):Jq:=fun fr h=>onTI E t .bad fun ti=>bif V0 ti.desc then .ok (.iface t (opv E x fr)) h else .bad
def O0(t:Nat)(l c:Operand):Jq:=fun fr h =>
 onTI E t .bad fun ti=>match cu E ti.desc with
  |none=>.bad
  | some te=>match ew (opv E l fr)with
   |none=>.bad
   | some n=>match ew (opv E c fr)with
    |none=>.bad
    |some m=>bif Nat.ble n m&&Nat.ble (Nat.mul m te.bytes) 140737488355328&&Nat.blt 0 te.size then .ok (.msl h.next 0 n te.size) (h.push (.row (oi n te.zero) te.size))else .bad
def jd(d:TD)(lo hi mx:Option AV)(x:AV):Option AV:=
 match d with
 |.string=>x.onStr zn fun s=>Ej s lo hi mx
 |.slice e=>onTI E e zn fun te=>Nw te.size lo hi mx x
 |_=>zn
def Gx(t:Nat)(x:Operand)(lo hi mx:Option Operand):Jq:=fun fr h=>onTI E t .bad fun ti=>bif hi.isNone&&mx.isSome then .bad else lift (jd E ti.desc (Nx E lo fr) (Nx E hi fr) (Nx E mx fr) (opv E x fr)) h
def fieldAt(ti:TI)(f:Nat):Option (TI×Nat):=
 match ti.desc with
 |.struct fields _=>A5 (Wj fields f) fun p=>onTI E p.1 zn fun B=>zs (B,p.2)
 |_=>zn
def Ae(t:Nat)(x:Operand)(f:Nat):Jq:=fun fr h =>
 onTI E t .bad fun ti=>lift (A5 (fieldAt E ti f) fun p=>B5 (Nat.blt 0 p.1.size) (C0 (opv E x fr) p.2)) h
def Ri(t:Nat)(x:Operand)(f:Nat):Jq:=fun fr h =>
 onTI E t .bad fun ti=>lift (A5 (fieldAt E ti f) fun p=>(opv E x fr).onAgg zn fun cs=>ct p.1 cs p.2) h
def dX(te:TI)(i:Nat)(x:AV):Option AV:=AV.rec (motive_1:=fun _=>TI->Nat->Option AV) (motive_2:=fun _=>Unit)
    (fun _ _ p0 p1=>zn)
    (fun _ p0 p1=>zn)
    (fun _ p0 p1=>zn)
    (fun _ _ p0 p1=>zn)
    (fun _ _ p0 p1=>zn)
    (fun es _ _ p0 p1=>A5 (Eh es p1) fun v=>B5 (Nat.beq (dw v.cells) p0.size) (zs (.fptr v 0)))
    (fun _ _ _ p0 p1=>zn)
    (fun id off n sz p0 p1=>B5 (Nat.blt p1 n&&Nat.beq sz p0.size) (M6 (Nat.add off p1) fun o=>zs (.ptr id o 0)))
    (fun _ _ _ p0 p1=>zn)
    (fun p0 p1=>zn)
    (fun p0 p1=>zn)
    (fun p0 p1=>zn)
    (fun _ p0 p1=>zn)
    (fun _ _ _ _ _ p0 p1=>zn)
    (fun p0 p1=>zn)
    (fun _ _ _ p0 p1=>zn)
    (fun p0 p1=>zn)
    (fun p0 p1=>zn)
    (fun p0 p1=>zn)
    () (fun _ _ _ _=>()) x te i
def R5(d:TD)(i:Nat)(x:AV):Option AV:=
 match d with
 |.slice e=>onTI E e zn fun te=>dX te i x
 |.array len e=>onTI E e zn fun te=>B5 (Nat.blt i len&&Nat.blt 0 te.size) (C0 x (Nat.mul i te.size))
 |_=>zn
def Af(t:Nat)(x B:Operand):Jq:=fun fr h=>onTI E t .bad fun ti=>lift (A5 (ew (opv E B fr)) fun i=>R5 E ti.desc i (opv E x fr)) h
def DC(l:List UInt8):Nat->Option UInt8:=
 List.rec (motive:=fun _=>Nat->Option UInt8) (fun _=>zn) (fun v _ B i=>Nat.rec (motive:=fun _=>Option UInt8) (zs v) (fun k _=>B k) i) l
def El(d:TD)(i:Nat)(x:AV):Option AV:=
 match d with
 |.string=>x.onStr zn fun s=>A5 (DC s i) fun b=>zs (.int .u8 (zqn b.toNat))
 |.array len e=>onTI E e zn fun te=>B5 (Nat.blt i len) (x.onAgg zn fun cs=>ct te cs (Nat.mul i te.size))
 |_=>zn
def Rj(t:Nat)(x B:Operand):Jq:=fun fr h=>onTI E t .bad fun ti=>lift (A5 (ew (opv E B fr)) fun i=>El E ti.desc i (opv E x fr)) h
def rK(E:Env)(t:Nat)(m k:Operand)(ok:Bool):Jq:=fun _ _=>.bad
def Pr(E:Env)(t:Nat)(m k x:Operand):Jq:=fun _ _=>.bad
def Gy(t:Operand)(i:Nat):Jq:=fun fr h=>(opv E t fr).onTup .bad fun vs=>lift (Eh vs i) h
def aW(t:Nat)(x:AV):Option AV:=match x with | .iface u v=>bif Nat.beq u t then zs v else zn|_=>zn
def u5(t:Nat)(ok:Bool)(x:Operand):Jq:=fun fr h=>onTI E t .bad fun ti=>bif V0 ti.desc && !ok then lift (aW t (opv E x fr)) h else .bad
abbrev E3:=Nat->List AV->Vg->Res
def Y9(call:E3)(g:AV)(args:List AV)(h:Vg):Res:=AV.rec (motive_1:=fun _=>E3->List AV->Vg->Res) (motive_2:=fun _=>Unit)
    (fun _ _ p0 p1 p2=>.bad)
    (fun _ p0 p1 p2=>.bad)
    (fun _ p0 p1 p2=>.bad)
    (fun _ _ p0 p1 p2=>.bad)
    (fun _ _ p0 p1 p2=>.bad)
    (fun _ _ _ p0 p1 p2=>.bad)
    (fun _ _ _ p0 p1 p2=>.bad)
    (fun _ _ _ _ p0 p1 p2=>.bad)
    (fun _ _ _ p0 p1 p2=>.bad)
    (fun p0 p1 p2=>.bad)
    (fun p0 p1 p2=>.bad)
    (fun p0 p1 p2=>.bad)
    (fun _ p0 p1 p2=>.bad)
    (fun f first caps _ _ p0 p1 p2=>match f with | .func n=>p0 n (ma first (ma p1 caps)) p2|_=>.bad)
    (fun p0 p1 p2=>.bad)
    (fun _ _ _ p0 p1 p2=>.bad)
    (fun p0 p1 p2=>.bad)
    (fun p0 p1 p2=>.bad)
    (fun p0 p1 p2=>.bad)
    () (fun _ _ _ _=>()) g call args h
def iY(call:E3)(c:Call):Jq:=
 match c.callee with
 |.builtin b=>fun fr h=>lift2 (F5 E b c.argTypes.toList (fk E c.args.toList fr) h)
 |.value f=>fun fr h=>Y9 call (opv E f fr) (fk E c.args.toList fr) h
 | .invoke _ _=>fun _ _=>.bad
def oS(x:AV)(h:Vg):Res:=match x with | .iface t v=>.pan (.iface t v) h|_=>.bad
def Rk(x:Operand):Jq:=fun fr h=>oS (opv E x fr) h
def Ag:Jq:=fun _ _=>.bad
def HL(op:Op):Env->E3->Jq:=
 Op.rec (motive:=fun _=>Env->E3->Jq)
  (fun x E _=>rI E x)
  (fun x E _=>rI E x)
  (fun c a b E _=>aT E c a b)
  (fun t E _=>wV E t)
  (fun t x E _=>mC E t x)
  (fun t ps E _=>Rf E t ps)
  (fun t n ps E _=>L9 E t n ps)
  (fun t m k x E _=>Pr E t m k x)
  (fun t a E _=>aU E t a)
  (fun t a x E _=>Rg E t a x)
  (fun _ _ _=>Ag)
  (fun _ _ _=>Ag)
  (fun x E _=>Cq E x)
  (fun op t x y _ E _=>Rh E op t x y)
  (fun op _ x E _=>aV E op x)
  (fun s d x E _=>Gw E s d x)
  (fun _ _ _ _=>Ag)
  (fun t x E _=>W6 E t x)
  (fun f first caps E _=>Cr E f first caps)
  (fun _ r _ _=>oR r)
  (fun _ _ _ _=>Ag)
  (fun t l c E _=>O0 E t l c)
  (fun t x lo hi mx E _=>Gx E t x lo hi mx)
  (fun t x f E _=>Ae E t x f)
  (fun t x f E _=>Ri E t x f)
  (fun t x i E _=>Af E t x i)
  (fun t x i E _=>Rj E t x i)
  (fun t m k ok E _=>rK E t m k ok)
  (fun t m k x E _=>Pr E t m k x)
  (fun _ _ _ _ _=>Ag)
  (fun _ _ _ _ _ _=>Ag)
  (fun _ _ _ _=>Ag)
  (fun _ _ _ _=>Ag)
  (fun _ _ _=>Ag)
  (fun x _ t ok E _=>u5 E t ok x)
  (fun t i E _=>Gy E t i)
  (fun c E call=>iY E call c)
  (fun _ _ _=>Ag)
  (fun _ _ _=>Ag)
  (fun x E _=>Rk E x)
  (fun _ _ _ _=>Ag)
  (fun _ _ _ _ _=>Ag)
  (fun _ _ _ _=>Ag) op
def fg(call:E3)(op:Op):Jq:=HL op E call
def co(d:Option Tmp)(v:AV)(fr:Tr):Tr:=Option.rec (motive:=fun _=>AV->Tr->Tr) (fun _ fr=>fr) (fun t v fr=>fr.set t v) d v fr
def Yw:AV:=.tup []
def i7(B:Bool)(v:AV):Option Bool:=AV.rec (motive_1:=fun _=>Bool->Option Bool) (motive_2:=fun _=>Unit)
    (fun _ _ p0=>zn)
    (fun b p0=>match p0 with|true=>zs b|false=>zs (!b))
    (fun _ p0=>zn)
    (fun _ _ p0=>zn)
    (fun l _ p0=>match l with|[]=>zs zf|_::_=>zn)
    (fun _ _ _ p0=>zn)
    (fun _ _ _ p0=>zn)
    (fun _ _ _ _ p0=>zn)
    (fun _ _ _ p0=>zn)
    (fun p0=>zn)
    (fun p0=>zn)
    (fun p0=>zn)
    (fun _ p0=>zn)
    (fun _ _ _ _ _ p0=>zn)
    (fun p0=>zn)
    (fun _ _ _ p0=>zn)
    (fun p0=>zn)
    (fun p0=>zn)
    (fun p0=>zn)
    () (fun _ _ _ _=>()) v B
def Lh(p:Option Tmp×Bool)(fr:Tr):Option Bool:=
 match p.1 with
 |none=>zs zf
 |some t=>i7 p.2 (fr.get t)
def cm(g:Option (Option Tmp×Bool))(fr:Tr):Option Bool:=Option.rec (motive:=fun _=>Tr->Option Bool) (fun _=>zs zt) (fun p fr=>Lh p fr) g fr
def X4(d:Option Tmp)(k:Tr->Vg->cz)(fr:Tr)(r:Res):cz:=
 Res.rec (motive:=fun _=>Option Tmp->(Tr->Vg->cz)->Tr->cz) (fun v h d k fr=>k (co d v fr) h) (fun v h _ _ _=>.pan v h) (fun _ _ _=>.bad) r d k fr
def I3(call:E3)(l:List XOp):Tr->Vg->cz:=
 List.rec (motive:=fun _=>Tr->Vg->cz) (fun fr h=>.ok .normal fr h)
  (fun o _ B fr h=>iw (cm o.gd fr) .bad (X4 o.dst B fr (fg E call o.op fr h)) (B (co o.dst Yw fr) h)) l
inductive qp where
 |ok (a:AV) (h:Vg) (d:List Nat)
 |pan (v:AV) (h:Vg)
 |bad
def I4(n:Nat)(l:List Nat):List Nat:=List.rec (motive:=fun _=>List Nat) [] (fun i _ B=>bif Nat.blt i n then i::B else B) l
def Au(a b:List Nat):List Nat:=List.rec (motive:=fun _=>List Nat) b (fun i _ B=>i::B) a
def qJ(i:Nat)(l:List Nat):Bool:=List.rec (motive:=fun _=>Bool) zf (fun j _ B=>bif Nat.beq j i then zt else B) l
def n7(x:AV):Option Nat:=AV.rec (motive_1:=fun _=>Option Nat) (motive_2:=fun _=>Unit)
    (fun _ _=>zn)
    (fun _=>zn)
    (fun _=>zn)
    (fun _ _=>zn)
    (fun _ _=>zn)
    (fun _ _ _=>zn)
    (fun _ _ _=>zn)
    (fun _ _ _ _=>zn)
    (fun id _ _=>zs id)
    (zn)
    (zn)
    (zn)
    (fun id=>zs id)
    (fun _ _ _ _ _=>zn)
    (zn)
    (fun _ _ _=>zn)
    (zn)
    (zn)
    (zn)
    () (fun _ _ _ _=>()) x
def lu(op:Op)(fr:Tr):Option Nat:=
 match op with
 |.load _ x=>n7 (opv E x fr)
 |.lookup _ m _ _=>n7 (opv E m fr)
 |.call c=>(match c.args.toList with|[]=>zn|x::_=>n7 (opv E x fr))
 |_=>zn
def ly(r:Option Nat)(d:List Nat):Bool:=match r with|none=>zt|some i=>!(qJ i d)
def w8(next:Nat)(tch d:List Nat)(r:Res):qp:=
 match r with
 |.ok v h=>.ok v {h with tch:=Au (I4 next h.tch) tch} (Au (I4 next h.tch) d)
 |.pan v h=>.pan v {h with tch:=Au (I4 next h.tch) tch}
 | .bad=>.bad
def u6(d:List Nat)(r:Res):qp:=
 match r with
 |.ok v h=>.ok v h d
 |.pan v h=>.pan v h
 | .bad=>.bad
def dq(call:E3)(o:XOp)(fr:Tr)(h:Vg)(d:List Nat):qp:=
 bif o.quiet then w8 h.next h.tch d (fg E call o.op fr {h with tch:=[]})else
  bif o.careful then(bif ly (lu E o.op fr) d then u6 d (fg E call o.op fr h)else .bad)else u6 d (fg E call o.op fr h)
def fw(dst:Option Tmp)(k:Tr->Vg->List Nat->Bool)(fr:Tr)(r:qp):Bool:=
 match r with
 |.ok v h d=>k (co dst v fr) h d
 |.pan _ _=>zf
 | .bad=>zf
def fb(call:E3)(l:List XOp):List Bool->Tr->Vg->List Nat->Bool:=
 List.rec (motive:=fun _=>List Bool->Tr->Vg->List Nat->Bool) (fun _ _ _ _=>zt)
  (fun o _ B late fr h d=>match late with
    |[]=>zf
    | b::late=>match b with
     |true=>B late (co o.dst Yw fr) h d
     |false=>iw (cm o.gd fr) zf (fw o.dst (B late) fr (dq E call o fr h d)) (B late (co o.dst Yw fr) h d)) l
def O6(dst:Option Tmp)(k:Tr->Vg->List Nat->cz)(w:Bool)(fr:Tr)(r:qp):cz:=
 match r with
 |.ok v h d=>k (co dst v fr) h d
 |.pan v h=>bif w then .pan v h else .bad
 | .bad=>.bad
def dm(call:E3)(l:List XOp):Tr->Vg->List Nat->cz:=
 List.rec (motive:=fun _=>Tr->Vg->List Nat->cz) (fun fr h _=>.ok .normal fr h)
  (fun o r B fr h d=>iw (cm o.gd fr) .bad (O6 o.dst B (fb E call r o.late (co o.dst Yw fr) h d) fr (dq E call o fr h d)) (B (co o.dst Yw fr) h d)) l
def G0(l:List ResultVar)(fr:Tr)(h:Vg):Option (List AV):=
 List.rec (motive:=fun _=>Option (List AV)) (zs [])
  (fun x _ B=>match x with
    |.tmp t=>A5 B fun vs=>zs (fr.get t::vs)
    | .cell a t=>onTI E t zn fun ti=>A5 (Ek ti (fr.get a) h) fun v=>A5 B fun vs=>zs (v::vs)) l
def cj(vs:List AV):AV:=match vs with|[]=>.tup []|v::r=>match r with|[]=>v|w::r=>.tup (v::w::r)
def Li(vs:Option (List AV))(h:Vg):Res:=match vs with|some vs=>.ok (cj vs) h|none=>.bad
def J0(rs:List ResultVar)(r:cz):Res:=
 match r with
 | .ok e fr h=>match e with
  |.exit _=>.bad
  |.normal=>Li (G0 E rs fr h) h
  |.ret=>Li (G0 E rs fr h) h
 |.pan v h=>.pan v h
 | .bad=>.bad
abbrev E9:=XC->Tr->Vg->cz
def Dm(k:Tr->Vg->cz)(r:cz):cz:=
 match r with
 |.ok e fr h=>match e with | .normal=>k fr h | .exit _=>.bad | .ret=>.bad
 |.pan _ _=>.bad
 | .bad=>.bad
def Ah(k:Tr->Vg->Res)(r:cz):Res:=
 match r with
 |.ok e fr h=>match e with | .normal=>k fr h | .exit _=>.bad | .ret=>.bad
 |.pan v h=>.pan v h
 | .bad=>.bad
def om(r:cz):Res:=
 match r with
 |.ok e _ h=>match e with | .normal=>.ok .und h | .ret=>.ok .und h | .exit _=>.bad
 |.pan _ _=>.bad
 | .bad=>.bad
def DD(B:E9)(m:FM)(nt:Nat)(caps:List AV)(p:AV)(h:Vg):Res:=
 match m with
 |.rcv d d2 rest=>bif Nat.blt d nt then om (B rest (((Tr.enter nt caps).set d p).set d2 p) h)else .bad
 |.plain=>.bad
 |.dfr _ _ _=>.bad
 | .itf _=>.bad
def Lj(l:List ResultVar):Bool:=match l with|[]=>zt|_::_=>zf
def Sp(C:E9)(f:Nat)(caps:List AV)(p:AV)(h:Vg):Res:=
 match E.fn f with
 |none=>.bad
 |some B=>bif Nat.ble (dw caps) B.ntmps&&Lj B.results then DD C B.mode B.ntmps caps p h else .bad
def gv(l:List AV):Bool:=match l with|[]=>zt|_::_=>zf
def Du(B:E9)(x:AV)(p:AV)(h:Vg):Res:=
 match x with
 | .fn f first caps=>match f with
  |.func n=>bif gv first then Sp E B n caps p h else .bad
  |_=>.bad
 |_=>.bad
def j8(rs:List ResultVar)(fr:Tr)(r:Res):Res:=
 match r with
 |.ok _ h=>Li (G0 E rs fr h) h
 |.pan _ _=>.bad
 | .bad=>.bad
def J4(B:E9)(x:AV)(rs:List ResultVar)(fr:Tr)(r:cz):Res:=
 match r with
 | .ok e fr2 h=>match e with
  |.normal=>j8 E rs fr2 (Du E B x .x0b h)
  |.ret=>j8 E rs fr2 (Du E B x .x0b h)
  |.exit _=>.bad
 |.pan v h=>j8 E rs fr (Du E B x v h)
 | .bad=>.bad
def s5(B:E9)(g:Operand)(rest:XC)(rs:List ResultVar)(pre:List XC):Tr->Vg->Res:=
 List.rec (motive:=fun _=>Tr->Vg->Res) (fun fr h=>J4 E B (opv E g fr) rs fr (B rest fr h)) (fun p _ k fr h=>Ah k (B p fr h)) pre
def Sq(p s:List UInt8):Bool:=List.rec (motive:=fun _=>List UInt8->Bool) (fun _=>zt) (fun x _ B s=>match s with|[]=>zf|y::s=>bif Jp x y then B s else zf) p s
def gw(p s:List UInt8):Bool:=List.rec (motive:=fun _=>Bool) (Sq p []) (fun y r B=>bif Sq p (y::r)then zt else B) s
def sn(p:List UInt8):Bool:=match p with|[]=>zf|_::r=>match r with|[]=>zt|_::_=>zf
def pi(args:List AV)(h:Vg):Res:=
 match args with
 |[]=>.bad
 | x::r=>match r with
  |[]=>.bad
  |y::r=>bif gv r then x.onStr .bad (fun s=>y.onStr .bad fun p=>bif Nat.ble (r8 s) 4000000000||sn p then(match gw p s with|true=>.ok (.bool zt) h|false=>.ok (.bool zf) h)else .bad)else .bad
def iZ(E:Env)(ih:E9)(ks:List Nat)(args:List AV)(h:Vg):Res:=.bad
def wg(E:Env)(f:Nat)(args:List AV)(h:Vg):Option Res:=zn
def Ps(C:E9)(B:FI)(args:List AV)(h:Vg):Res:=
 match B.mode with
 |.plain=>J0 E B.results (C B.code (Tr.enter B.ntmps args) h)
 |.dfr pre g rest=>s5 E C g rest B.results pre (Tr.enter B.ntmps args) h
 |.rcv _ _ _=>.bad
 | .itf _=>J0 E B.results (C B.code (Tr.enter B.ntmps args) h)
def O7(B:E9)(f:Nat)(args:List AV)(h:Vg):Res:=
 bif E.told f then pi args h else
 match E.dlf f with
 |some ks=>iZ E B ks args h
 | none=>match wg E f args h with
  |some r=>r
  | none=>match E.fn f with
   |none=>.bad
   |some C=>bif Nat.ble (dw args) C.ntmps then Ps E B C args h else .bad
def NT(h:Vg)(r:Res):Res:=
 match r with
 |.ok v h1=>.ok v ⟨h1.next,Au (I4 h.next h1.tch) h.tch,h.os.trunc h1.os⟩
 |.pan _ _=>.bad
 | .bad=>.bad
def G8(B:E9)(f:Nat)(args:List AV)(h:Vg):Res:=
 bif E.gc f then NT h (O7 E B f args ⟨h.next,[],h.os⟩)else O7 E B f args h
def pj(ps:List Tmp):List AV->Tr->Tr:=
 List.rec (motive:=fun _=>List AV->Tr->Tr) (fun _ fr=>fr) (fun p _ B l fr=>match l with|[]=>fr|v::l=>B l (fr.set p v)) ps
def HM(l:List Nat):Nat:=List.rec (motive:=fun _=>Nat) 0 (fun _ _ n=>Nat.succ n) l
def ee(B:E9)(ps:List Tmp)(a b:XC)(fr:Tr)(args:List AV)(h:Vg):cz:=
 bif Nat.beq (dw args) (HM ps)then Dm (B b) (B a (pj ps args fr) h)else .bad
inductive gn where
 |ok (e:Ex) (p:Option Ex) (fr:Tr) (h:Vg)
 |bad
def J1(k:Tr->Vg->gn)(r:cz):gn:=
 match r with
 |.ok e fr h=>match e with | .normal=>k fr h | .exit _=>.bad | .ret=>.bad
 |.pan _ _=>.bad
 | .bad=>.bad
def Ll(b:Option Ex->Tr->Vg->gn)(r:gn):gn:=
 match r with
 |.ok e p fr h=>match e with | .normal=>b p fr h | .exit i=>.ok (.exit i) p fr h | .ret=>.ok .ret p fr h
 | .bad=>.bad
def Js(id:Nat)(r:gn):gn:=
 match r with
 |.ok e p fr h=>match e with | .normal=>.ok .normal p fr h | .exit j=>(bif Nat.beq j id then .ok .normal p fr h else .ok (.exit j) p fr h) | .ret=>.ok .ret p fr h
 | .bad=>.bad
def n8(p:Option Ex)(fr:Tr)(h:Vg):gn:=.ok .normal p fr h
def Ia(B:E9)(p2:XC)(yd:Tmp)(fr:Tr)(r:cz):gn:=
 match r with
 | .ok e _ h=>match e with
  |.normal=>J1 (n8 zn) (B p2 (fr.set yd (.bool zt)) h)
  |.exit i=>J1 (n8 (zs (.exit i))) (B p2 (fr.set yd (.bool zf)) h)
  |.ret=>J1 (n8 (zs .ret)) (B p2 (fr.set yd (.bool zf)) h)
 |.pan _ _=>.bad
 | .bad=>.bad
def dY(B:E9)(nt:Nat)(Y:List AV->Vg->cz)(gd:Option (Option Tmp×Bool))(yt:Tmp)(p1:XC)(yd:Tmp)(args:List Operand)(p2:XC)(p:Option Ex)(fr:Tr)(h:Vg):gn:=
 match p with
 |some _=>.bad
 |none=>bif Nat.blt yt nt then J1 (fun fr h=>iw (cm gd fr) .bad (Ia B p2 yd fr (Y (fk E args fr) h)) .bad) (B p1 (fr.set yt .any) h)else .bad
def zJ(B:E9)(gd:Option (Option Tmp×Bool))(yt:Tmp)(p1:XC)(yd:Tmp)(p2:XC)(p:Option Ex)(fr:Tr)(h:Vg):gn:=
 J1 (fun fr h=>iw (cm gd fr) .bad .bad (J1 (n8 p) (B p2 (fr.set yd Yw) h))) (B p1 (fr.set yt Yw) h)
abbrev IF:=IC->Option Ex->Tr->Vg->gn
def dZ(C:E9)(nt:Nat)(Y:List AV->Vg->cz)(B:IF)(c:IC):Option Ex->Tr->Vg->gn:=
 match c with
 |.skip=>n8
 |.reg x=>fun p fr h=>J1 (n8 p) (C x fr h)
 |.yreg p0 gd yt p1 yd args p2=>fun p fr h=>J1 (fun fr h=>iw (cm gd fr) .bad (dY E C nt Y gd yt p1 yd args p2 p fr h) (zJ C gd yt p1 yd p2 p fr h)) (C p0 fr h)
 |.seq a b=>fun p fr h=>Ll (B b) (B a p fr h)
 |.cond x a b=>fun p fr h=>(opv E x fr).onBool .bad fun t=>match t with|true=>B a p fr h|false=>B b p fr h
 |.block id c=>fun p fr h=>Js id (B c p fr h)
 |.loop c=>fun p fr h=>Ll (B (.loop c)) (B c p fr h)
 |.exit i=>fun p fr h=>.ok (.exit i) p fr h
 | .ret=>fun p fr h=>.ok .ret p fr h
def evI(B:E9)(nt:Nat)(Y:List AV->Vg->cz)(m:Nat):IF:=Nat.rec (motive:=fun _=>IF) (fun _ _ _ _=>.bad) (fun _ k=>dZ E B nt Y k) m
def je:Nat:=281474976710656
def qK(p:Option Ex):Ex:=match p with|none=>.normal|some e=>e
def wh(r:gn):cz:=
 match r with
 |.ok e p fr h=>match e with | .normal=>.ok (qK p) fr h | .exit _=>.bad | .ret=>.ok (qK p) fr h
 | .bad=>.bad
def itM(B:E9)(m:FM)(nt:Nat)(caps:List AV)(Y:List AV->Vg->cz)(h:Vg):cz:=
 match m with
 |.itf c=>wh (evI E B nt Y je c zn (Tr.enter nt (.any::caps)) h)
 |.plain=>.bad
 |.dfr _ _ _=>.bad
 | .rcv _ _ _=>.bad
def itF(C:E9)(f:Nat)(caps:List AV)(Y:List AV->Vg->cz)(h:Vg):cz:=
 match E.fn f with
 |none=>.bad
 |some B=>bif Nat.ble (Nat.succ (dw caps)) B.ntmps then itM E C B.mode B.ntmps caps Y h else .bad
def mz(fr:Tr)(r:cz):cz:=
 match r with
 |.ok e _ h=>.ok e fr h
 |.pan _ _=>.bad
 | .bad=>.bad
def qq(B:E9)(ps:List Tmp)(a b:XC)(fr:Tr)(h:Vg)(g:AV):cz:=
 match g with
 | .fn f first caps=>match f with
  |.func n=>bif gv first then mz fr (itF E B n caps (ee B ps a b fr) h)else .bad
  |_=>.bad
 |_=>.bad
def Dv(b:Tr->Vg->cz)(r:cz):cz:=
 match r with
 |.ok e fr h=>match e with | .normal=>b fr h | .exit i=>.ok (.exit i) fr h | .ret=>.ok .ret fr h
 |.pan v h=>.pan v h
 | .bad=>.bad
def Em(id:Nat)(r:cz):cz:=
 match r with
 |.ok e fr h=>match e with | .normal=>.ok .normal fr h | .exit j=>(bif Nat.beq j id then .ok .normal fr h else .ok (.exit j) fr h) | .ret=>.ok .ret fr h
 |.pan v h=>.pan v h
 | .bad=>.bad
def Pt(t f:Tr->Vg->cz)(x:AV)(fr:Tr)(h:Vg):cz:=x.onBool .bad fun b=>match b with|true=>t fr h|false=>f fr h
def Xv(E:Env)(ih:E9)(R:a01)(y:XC)(fr:Tr)(h:Vg):cz:=.bad
def wW(c:XC):Env->E9->Tr->Vg->cz:=
 XC.rec (motive:=fun _=>Env->E9->Tr->Vg->cz)
  (fun _ _ fr h=>.ok .normal fr h)
  (fun d l E B=>match d with|false=>I3 E (G8 E B) l|true=>fun fr h=>dm E (G8 E B) l fr h [])
  (fun a b _ _ _ B fr h=>Dv (B b) (B a fr h))
  (fun x a b _ _ E B fr h=>Pt (B a) (B b) (opv E x fr) fr h)
  (fun id c _ _ B fr h=>Em id (B c fr h))
  (fun c _ _ B fr h=>Dv (B (.loop c)) (B c fr h))
  (fun c _ _ B=>B c)
  (fun g ps a b _ _ E B fr h=>qq E B ps a b fr h (opv E g fr))
  (fun id _ _ fr h=>.ok (.exit id) fr h)
  (fun _ _ fr h=>.ok .ret fr h)
  (fun _ _ _ _=>.bad)
  (fun R y _ E B fr h=>Xv E B R y fr h) c
def step(B:E9)(c:XC):Tr->Vg->cz:=wW c E B
def ev(n:Nat):E9:=Nat.rec (motive:=fun _=>E9) (fun _ _ _=>.bad) (fun _ B=>step E B) n
def run(n:Nat)(f:Nat)(args:List AV)(h:Vg):Res:=G8 E (ev E n) f args h
end
def Ib(o:Op):Nat:=
 match o with
 |.move _=>0 | .assign _=>0 | .pick _ _ _=>0 | .binOp _ _ _ _ _=>0 | .unOp _ _ _=>0 | .convert _ _ _=>0
 |.extract _ _=>0 | .field _ _ _=>0 | .fieldAddr _ _ _=>0 | .indexAddr _ _ _=>0 | .index _ _ _=>0 | .slice _ _ _ _ _=>0 | .nilCheck _=>0
 |.build _ _=>0 | .makeInterface _ _=>0 | .makeFunc _ _ _=>0
 |.load _ _=>1 | .lookup _ _ _ _=>1
 |.call c=>(match c.callee with | .builtin b=>(match b with | .len=>1 | .max=>1 | .min=>1|_=>3)|_=>3)
 |.alloc _=>2 | .box _ _=>2 | .buildSlice _ _ _=>2 | .makeSlice _ _ _=>2
 |_=>3
def bit(m i:Nat):Bool:=Nat.beq (zqa (zqb m i) 1) 1
def jk(o:Oper):List Nat:=(o.after.toList.filter (Region.binds .any)).map (·.on)
def DF(ms:List Nat)(l:List Nat):Nat:=l.foldr (fun e m=>Nat.lor (Nat.lor m (Nat.shiftLeft 1 e)) (ms.getD e 0)) 0
def En(ops:List Oper):List Nat:=ops.foldl (fun ms o=>ms++[DF ms (jk o)]) []
def Qn(n:Nat):List Nat:=List.range n
def Rl(ops:List Oper)(ms:List Nat):List Nat:=
 let n:=lz ops;let of (k:Nat):=(Qn n).filter fun i=>match ops[i]? with|some o=>Nat.beq (Ib o.op) k|none=>zf
 let D (B:List Nat) (w:Nat):=(Qn n).filter fun i=>bit (ms.getD w 0) i && !(B.contains i)
 let lay (B:List Nat) (c:Nat):=bif B.contains c then B else B++D B c++[c];let C (B:List Nat) (w:Nat):=((of 2).filter fun i=>bit (ms.getD w 0) i).foldl lay B;let l:=(of 3).foldl (fun B w=>lay (C B w) w) [];let l:=(of 2).foldl lay l
 l++(Qn n).filter fun i=>!(l.contains i)
def i2(ops:List Oper)(o:Oper):List Tmp:=
 (o.op.operands.toList.filterMap fun x=>match x with | .tmp t=>zs t|_=>zn) ++
 (match o.guard with
  |some p=>(match ops[p.1]? with|some q=>q.dst.toList|none=>[])
  |none=>[])
def rL(ops:List Oper)(x y:Oper):Bool:=
 (match x.dst with|some d=>!((i2 ops y).contains d) && !(y.dst==zs d)|none=>zt) &&
 (match y.dst with|some d=>!((i2 ops x).contains d)|none=>zt)
def gq(ops:List Oper)(i:Nat):Nat:=match ops[i]? with|some o=>Ib o.op|none=>3
def qu(ops:List Oper)(i j:Nat):Bool:=match ops[i]? with|some x=>(match ops[j]? with|some y=>rL ops x y|none=>zf)|none=>zf
def aX(ops:List Oper)(ms:List Nat)(i j:Nat):Bool:=
 bit (ms.getD j 0) i||(!(Nat.beq (gq ops j) 3)&&qu ops i j)
def Rm(ops:List Oper)(ms:List Nat):List Nat->Bool
 |[]=>zt
 |i::r=>r.all (fun j=>aX ops ms i j && !(bit (ms.getD i 0) j))&&Rm ops ms r
def mD(ops:List Oper)(ms:List Nat):Bool:=
 (Qn (lz ops)).all fun j=>(Qn (lz ops)).all fun i =>
   !(bit (ms.getD j 0) i)||(match ops[j]? with|some o=>(jk o).any fun e=>Nat.beq e i||bit (ms.getD e 0) i|none=>zf)
def aY(ops:List Oper)(ms:List Nat):List Nat->List Nat->Bool
 |_,[]=>zt
 |ahead,a::r=>
  (!(Nat.beq (gq ops a) 2)||r.all fun j=>!(bit (ms.getD j 0) a)||ahead.all fun i=>bit (ms.getD j 0) i)&&aY ops ms (a::ahead) r
def rM(ops:List Oper)(ms:List Nat):Bool:=
 (Qn (lz ops)).all fun j=>match ops[j]? with
   |some o=>(match o.guard with|some p=>bit (ms.getD j 0) p.1|none=>zt)
   |none=>zt
def aZ:List Nat->Bool
 |[]=>zt
 |i::r=>!(r.contains i)&&aZ r
def rN(n:Nat)(l:List Nat):Bool:=Nat.beq (lz l) n&&(Qn n).all (fun i=>l.contains i)&&l.all (fun i=>Nat.blt i n)&&aZ l
def mE(ops:List Oper)(ms:List Nat):Bool:=(Qn (lz ops)).all fun j=>match ops[j]? with
    |some o=>(jk o).all fun e=>Nat.blt e (lz ops)&&bit (ms.getD j 0) e && !(Nat.beq e j)
    |none=>zt
def bA(ops:List Oper):List Nat->Bool
 |[]=>zt
 | i::r=>r.all (fun j=>match ops[i]? with
  |some x=>(match ops[j]? with|some y=>(match x.dst with|some d=>!(y.dst==zs d)|none=>zt)|none=>zt)
  |none=>zt)&&bA ops r
def Ny(ops:List Oper)(ms l:List Nat):Bool:=
 rN (lz ops) l&&Rm ops ms l&&mD ops ms&&aY ops ms [] l&&rM ops ms&&mE ops ms&&bA ops l
def G3(ops:List Oper)(o:Oper):Option (Option Tmp×Bool):=
 match o.guard with
 |none=>zn
 |some p=>zs ((match ops[p.1]? with|some q=>q.dst|none=>zn),p.2)
def dD(ops:List Oper)(quiet:Bool)(late:List Bool)(careful:Bool)(o:Oper):XOp:=⟨o.dst,o.op,G3 ops o,quiet,late,careful⟩
def m6(ops:List Oper)(ms:List Nat)(i:Nat)(r:List Nat):Bool:=Nat.beq (gq ops i) 3&&r.any fun j=>Nat.beq (gq ops j) 1 && !(bit (ms.getD j 0) i)
def Nz(ops:List Oper)(ms:List Nat)(i:Nat)(r:List Nat):List Bool:=bif Nat.beq (gq ops i) 3 then r.map fun j=>bit (ms.getD j 0) i else []
def j9(ops:List Oper)(ms:List Nat)(i:Nat)(B:List Nat):Bool:=Nat.beq (gq ops i) 1&&B.any fun j=>Nat.beq (gq ops j) 3 && !(bit (ms.getD i 0) j)
def Ac(ops:List Oper)(ms:List Nat):List Nat->List Nat->List XOp
 |_,[]=>[]
 |ahead,i::r=>(match ops[i]? with|some o=>[dD ops (m6 ops ms i r) (Nz ops ms i r) (j9 ops ms i ahead) o]|none=>[])++Ac ops ms (i::ahead) r
def HN(ops:List Oper)(ms l:List Nat):XC:=bif Ny ops ms l then .reg zt (Ac ops ms [] l)else .bad
def HO(o:Op):Bool:=match o with | .defer _=>zt|_=>zf
def In(l:List Oper):Bool:=l.all fun o=>!(HO o.op)
def eq(ops l:List Oper):XC:=bif In l then .reg zf (l.map (dD ops zf [] zf))else .bad
def QM(ops:List Oper)(draw:Bool):XC:=match draw with
 |false=>eq ops ops
 |true=>bif In ops then HN ops (En ops) (Rl ops (En ops))else .bad
def eA{α β:Type}(x:Option α)(f:α->Option β):Option β:=match x with|none=>zn|some a=>f a
def Cs:Code->Option (List Nat)
 |.skip=>zs []
 |.ret=>zs []
 |.exit _=>zs []
 |.region _ ops _=>zs (ops.toList.filterMap (·.dst))
 |.seq a b=>eA (Cs a) fun x=>eA (Cs b) fun y=>zs (x++y)
 |.cond _ a b=>eA (Cs a) fun x=>eA (Cs b) fun y=>zs (x++y)
 |.block _ a=>Cs a
 |.loop a=>Cs a
 |_=>zn
def DG(B C p1 p2 D G H:Oper)(c:Operand)(e i0 i1:Nat)(ws:List Nat):Option a01:=
 match B.guard,C.guard,p1.guard,p2.guard,D.guard,G.guard,H.guard with
 |none,zn,zn,zn,zn,zn,zn=>
  match B.dst,C.dst,p1.dst,p2.dst,D.dst,G.dst,H.dst with
  |some d1,zs d2,zs d3,zs d4,zs d5,zs d6,zs d7=>
   match B.op,C.op,p1.op,p2.op,D.op,G.op,H.op,c with
   |.move m,.range ty (.tmp e1),.next (.tmp e2) zf,.extract (.tmp e3) 0,.entry (.tmp e4),.extract (.tmp e5) 0,.assign (.tmp e6),.tmp e7=>
    match(Nat.beq e1 d1&&Nat.beq e2 d2&&Nat.beq e3 d3&&Nat.beq e4 d2&&Nat.beq e5 d5&&Nat.beq e6 d6&&Nat.beq e7 d4&&Nat.beq e i0 && !((d3::d4::d5::d6::d7::ws).contains d2))with
    |true=>zs ⟨m,d1,d2,d3,d4,d5,d6,d7,i0,i1,ty,d1::d2::d3::d4::d5::d6::d7::ws⟩
    |false=>zn
   |_,_,_,_,_,_,_,_=>zn
  |_,_,_,_,_,_,_=>zn
 |_,_,_,_,_,_,_=>zn
def xp(a b:Code):Option a01:=
 match a with
 | .region _ ops1 zf=>match b with
  |.block i0 (.loop (.seq (.region _ ops2 zf) (.seq (.cond c .skip (.exit e)) (.block i1 (.seq (.region _ ops3 zf) B)))))=>
   match ops1.toList,ops2.toList,ops3.toList with
   |[o1,o2],[p1,p2],[q1,q2,q3]=>eA (Cs B) fun ws=>DG o1 o2 p1 p2 q1 q2 q3 c e i0 i1 ws
   |_,_,_=>zn
  |_=>zn
 |_=>zn
def xc:Code->XC
 |.skip=>.skip
 |.region _ ops draw=>QM ops.toList draw
 |.seq a b=>(match xp a b with|some R=>.rngm R (xc b)|none=>.seq (xc a) (xc b))
 |.cond c a b=>.cond c (xc a) (xc b)
 |.block id c=>.block id (xc c)
 |.loop c=>.loop (xc c)
 |.scope c=>.scope (xc c)
 |.rangeFunc g ps a b=>.rfn g ps.toList (xc a) (xc b)
 |.label _=>.skip
 |.exit id=>.exit id
 |.ret=>.ret
 |_=>.bad
def isNone{α:Type}(o:Option α):Bool:=match o with|none=>zt|some _=>zf
def mF(ts:List Tmp)(l:List Oper):Bool:=l.all fun o=>isNone o.guard&&(match o.dst with|none=>zt|some d=>!(ts.contains d))
def V6(ts:List Tmp)(l:List Oper):Bool:=l.all fun o=>(match o.dst with|none=>zt|some d=>!(ts.contains d))
def isY(yt:Tmp)(o:Oper):Option (Tmp×List Operand):=
 match o.op with
 | .call c=>match c.callee with
  |.value x=>(match x with | .tmp t=>bif Nat.beq t yt then(match o.dst with|some d=>zs (d,c.args.toList)|none=>zn)else zn|_=>zn)
  |_=>zn
 |_=>zn
def nl(yt:Tmp):List Oper->Option (List Oper×Oper×List Oper)
 |[]=>zn
 | o::r=>match isY yt o with
  |some _=>zs ([],o,r)
  | none=>match nl yt r with
   |some p=>zs (o::p.1,p.2.1,p.2.2)
   |none=>zn
def pm(o:Oper):Option Tmp:=
 match o.op with
 |.move x=>(match x with | .tmp t=>bif Nat.beq t 0 then o.dst else zn|_=>zn)
 |_=>zn
def nq:List Oper->Option (List Oper×Oper×List Oper)
 |[]=>zn
 | o::r=>match pm o with
  |some _=>zs ([],o,r)
  | none=>match nq r with
   |some p=>zs (o::p.1,p.2.1,p.2.2)
   |none=>zn
def wX(a b:Option (Nat×Bool)):Bool:=
 match a with
 |none=>(match b with|none=>zt|some _=>zf)
 |some p=>(match b with|none=>zf|some q=>Nat.beq p.1 q.1&&(match p.2 with|true=>q.2|false=>!q.2))
def DH(ops:List Oper)(q:List Oper×Oper×List Oper):Option IC:=
 match pm q.2.1 with
 |none=>zn
 | some yt=>match nl yt q.2.2 with
  |none=>zn
  | some p=>match isY yt p.2.1 with
   |none=>zn
   | some y=>bif wX q.2.1.guard p.2.1.guard && !(Nat.beq yt 0)&&V6 [0] q.1&&V6 [0,yt] p.1&&V6 [0] [p.2.1]&&V6 [0] p.2.2 then
    zs (.yreg (eq ops q.1) (G3 ops q.2.1) yt (eq ops p.1) y.1 y.2 (eq ops p.2.2))else zn
def w9(ops:List Oper):Option IC:=
 match nq ops with
 |none=>bif V6 [0] ops then zs (.reg (eq ops ops))else zn
 |some q=>DH ops q
def rO(f:IC->IC->IC)(a b:Option IC):Option IC:=match a with|none=>zn|some a=>(match b with|none=>zn|some b=>zs (f a b))
def fx:Code->Option IC
 |.skip=>zs .skip
 |.region id ops draw=>(match draw with|false=>w9 ops.toList|true=>bif V6 [0] ops.toList then zs (.reg (xc (.region id ops zt)))else zn)
 |.seq a b=>rO .seq (fx a) (fx b)
 |.cond c a b=>rO (.cond c) (fx a) (fx b)
 |.block id c=>(fx c).map (.block id)
 |.loop c=>(fx c).map .loop
 |.exit id=>zs (.exit id)
 |.ret=>zs .ret
 |_=>zn
def ml:IC->Bool
 |.yreg _ _ _ _ _ _ _=>zt
 |.seq a b=>ml a||ml b
 |.cond _ a b=>ml a||ml b
 |.block _ c=>ml c
 |.loop c=>ml c
 |_=>zf
structure DfC where
 pre:List Code
 id:Nat
 ops:Array Oper
 rest:Code
def DfC.code(x:DfC):Code:=x.pre.foldr .seq (.seq (.region x.id x.ops zf) x.rest)
def jA(l:List Oper):Bool:=!(In l)
def ku:Code->Option DfC
 | .seq a b=>match a with
  |.region id ops zf=>bif jA ops.toList then zs ⟨[],id,ops,b⟩else(ku b).map fun x=>⟨.region id ops zf::x.pre,x.id,x.ops,x.rest⟩
  |a=>(ku b).map fun x=>⟨a::x.pre,x.id,x.ops,x.rest⟩
 |_=>zn
def a02(o:Oper):Option Operand:=
 match o.op with
 | .defer c=>match c.callee with
  |.value x=>bif isNone o.guard&&isNone o.dst&&(match c.args.toList with|[]=>zt|_=>zf)then zs x else zn
  |_=>zn
 |_=>zn
def V7(ts:List Tmp):Code->Bool
 |.skip=>zt
 |.region _ ops _=>ops.toList.all fun o=>(match o.dst with|none=>zt|some d=>!(ts.contains d))
 |.seq a b=>V7 ts a&&V7 ts b
 |.cond _ a b=>V7 ts a&&V7 ts b
 |.block _ c=>V7 ts c
 |.loop c=>V7 ts c
 |.scope c=>V7 ts c
 |.exit _=>zt
 |.ret=>zt
 |_=>zf
def Ct(x:ResultVar):Tmp:=match x with | .tmp t=>t | .cell a _=>a
def Sr(rs:List ResultVar)(x:DfC):Option FM:=
 match x.ops.toList.reverse with
 |[]=>zn
 | o::r=>match a02 o with
  |none=>zn
  |some g=>bif mF [] r.reverse&&x.pre.all (V7 [])&&V7 (rs.map Ct) x.rest then zs (.dfr (x.pre.map xc++[eq x.ops.toList r.reverse]) g (xc x.rest))else zn
def e0w(o:Oper):Option Tmp:=
 match o.op with
 | .call c=>match c.callee with
  |.builtin b=>(match b with | .recover=>bif isNone o.guard&&(match c.args.toList with|[]=>zt|_=>zf)then o.dst else zn|_=>zn)
  |_=>zn
 |_=>zn
def e0x(d:Tmp)(o:Oper):Option Tmp:=
 match o.op with
 |.assign x=>(match x with | .tmp t=>bif Nat.beq t d&&isNone o.guard then o.dst else zn|_=>zn)
 |_=>zn
def Ss(c:Code):Option FM:=
 match c with
 | .seq (.region _ ops zf) rest=>match ops.toList with
  | [o,o']=>match e0w o with
   |none=>zn
   | some d=>match e0x d o' with
    |none=>zn
    |some d2=>bif V7 [] rest then zs (.rcv d d2 (xc rest))else zn
  |_=>zn
 |_=>zn
def NU(x:Option FM)(y:FM):FM:=match x with|some m=>m|none=>y
def a04(rs:List ResultVar)(c:Code):FM:=
 NU (bif Lj rs then Ss c else zn) (NU (match ku c with|some x=>Sr rs x|none=>zn) (NU (match fx c with|some x=>bif Lj rs&&ml x then zs (.itf x)else zn|none=>zn) .plain))
end
end Go.AM
/-
 The abstract machine: what abstract values,frames and heaps say of the model's values,slots and worlds.
-/
namespace Go.AM
namespace Tr
theorem Lm(l:Tr)(v:AV)(r:Tr)(k:Nat):(Tr.node l v r).get (k+1)=bif Nat.beq (zqa k 1) 0 then l.get (zqb k 1)else r.get (zqb k 1):=by
 show Nat.rec (motive:=fun _=>AV) (l.get (zqb k 1)) (fun _ _=>r.get (zqb k 1)) (zqa k 1)=_
 generalize zqa k 1=m;cases m<;>rfl
theorem Eo(l:Tr)(v:AV)(r:Tr)(k:Nat)(x:AV):(Tr.node l v r).set (k+1) x=bif Nat.beq (zqa k 1) 0 then .node (l.set (zqb k 1) x) v r else .node l v (r.set (zqb k 1) x):=by
 show Nat.rec (motive:=fun _=>Tr) (.node (l.set (zqb k 1) x) v r) (fun _ _=>.node l v (r.set (zqb k 1) x)) (zqa k 1)=_
 generalize zqa k 1=m;cases m<;>rfl
theorem has_succ(l:Tr)(v:AV)(r:Tr)(k:Nat):(Tr.node l v r).has (k+1)=bif Nat.beq (zqa k 1) 0 then l.has (zqb k 1)else r.has (zqb k 1):=rfl
theorem has_zero(l:Tr)(v:AV)(r:Tr):(Tr.node l v r).has 0=zt:=rfl
theorem half_inj{k m:Nat}(h:zqb k 1=zqb m 1)(D:Nat.beq (zqa k 1) 0=Nat.beq (zqa m 1) 0):k=m:=by
 have e1:∀n,zqb n 1=n/2:=fun n=>zqg n 1
 have e2:∀n,zqa n 1=n%2:=fun n=>zqk n
 rw[e1,e1]at h;rw[e2,e2]at D;have B:=zqi k;have C:=zqi m;rcases B with B|B<;>rcases C with C|C<;>rw[B,C]at D<;>first|omega|simp_all
theorem get_set_ne:∀(t:Tr)(i j:Nat)(x:AV),i≠j->(t.set i x).get j=t.get j
 |.nil,_,_,_,_=>rfl
 |.node l v r,0,0,_,h=>absurd rfl h
 |.node l v r,0,j+1,_,_=>rfl
 |.node l v r,i+1,0,x,_=>by
  rw[Eo];cases Nat.beq (zqa i 1) 0<;>rfl
 |.node l v r,i+1,j+1,x,h=>by
  rw[Eo,Lm];cases hi:Nat.beq (zqa i 1) 0<;>cases B:Nat.beq (zqa j 1) 0<;>simp only[cond_true,cond_false,Lm,B]
  . exact get_set_ne r _ _ x (by grind[Go.AM.Tr.half_inj])
  . exact get_set_ne l _ _ x (by grind[Go.AM.Tr.half_inj])
theorem get_set_eq:∀(t:Tr)(i:Nat)(x:AV),(t.set i x).get i=if t.has i then x else .und
 |.nil,_,_=>rfl
 |.node l v r,0,_=>rfl
 |.node l v r,i+1,x=>by
  rw[Eo,has_succ];cases hi:Nat.beq (zqa i 1) 0<;>simp only[cond_true,cond_false,Lm,hi]
  . exact get_set_eq r _ x
  . exact get_set_eq l _ x
theorem has_set:∀(t:Tr)(i j:Nat)(x:AV),(t.set i x).has j=t.has j
 |.nil,_,_,_=>rfl
 |.node l v r,0,0,_=>rfl
 |.node l v r,0,j+1,_=>rfl
 |.node l v r,i+1,0,x=>by
  rw[Eo];cases Nat.beq (zqa i 1) 0<;>rfl
 |.node l v r,i+1,j+1,x=>by
  rw[Eo,has_succ];cases hi:Nat.beq (zqa i 1) 0<;>cases B:Nat.beq (zqa j 1) 0<;>simp only[cond_true,cond_false,has_succ,B]
  . exact has_set r _ _ x
  . exact has_set l _ _ x
theorem mk_zero(n:Nat):mk 0 n=.nil:=rfl
theorem mk_succ_zero(f:Nat):mk (f+1) 0=.nil:=rfl
theorem mk_succ(f k:Nat):mk (f+1) (k+1)=.node (mk f (zqe (k+1) 2)) .und (mk f (zqe k 2)):=rfl
theorem has_mk:∀(f n i:Nat),(mk f n).has i=zt->i<n
 |0,_,_,h=>by simp[mk_zero]at h;cases h
 |f+1,0,i,h=>by simp[mk_succ_zero]at h;cases h
 |f+1,k+1,0,_=>Nat.succ_pos _
 |f+1,k+1,i+1,h=>by
  rw[mk_succ,has_succ]at h;have e1:zqb i 1=i/2:=zqg i 1;have e2:zqa i 1=i%2:=zqk i;have e3:zqe (k+1) 2=(k+1)/2:=rfl;have e4:zqe k 2=k/2:=rfl;rw[e1,e2,e3,e4]at h;rcases zqi i with hi|hi<;>rw[hi]at h
  . have:=has_mk f _ _ h;omega
  . have:=has_mk f _ _ h;omega
theorem get_mk:∀(f n i:Nat),(mk f n).get i=.und
 |0,_,_=>rfl
 |f+1,0,_=>rfl
 |f+1,k+1,0=>rfl
 |f+1,k+1,i+1=>by
  rw[mk_succ,Lm];cases Nat.beq (zqa i 1) 0<;>simp only[cond_true,cond_false]<;>exact get_mk f _ _
end Tr
theorem R1:∀(l:List AV)(i:Nat),Eh l i=l[i]?
 |[],_=>rfl
 |_::_,0=>rfl
 |_::r,i+1=>R1 r i
theorem I5:∀(l:List AV)(i:Nat),ls l i=l.drop i
 |[],i=>by cases i<;>rfl
 |_::_,0=>rfl
 |_::r,i+1=>I5 r i
theorem I6:∀(l:List AV)(i:Nat),kh l i=l.take i
 |[],i=>by cases i<;>rfl
 |_::_,0=>rfl
 |v::r,i+1=>congrArg (v:: ·) (I6 r i)
theorem Ai:∀(l:List AV)(i:Nat)(x:AV),we l i x=l.set i x
 |[],i,_=>by cases i<;>rfl
 |_::_,0,_=>rfl
 |v::r,i+1,x=>congrArg (v:: ·) (Ai r i x)
theorem A4:∀(l:List AV),dw l=lz l
 |[]=>rfl
 |_::r=>congrArg Nat.succ (A4 r)
theorem Rn:∀(l:List (AV×AV)),oO l=lz l
 |[]=>rfl
 |_::r=>congrArg Nat.succ (Rn r)
theorem u7:∀(l:List UInt8),r8 l=lz l
 |[]=>rfl
 |_::r=>congrArg Nat.succ (u7 r)
theorem M0:∀(a b:List AV),ma a b=a++b
 |[],_=>rfl
 |v::r,b=>congrArg (v:: ·) (M0 r b)
theorem Bl{α:Type}:∀(l:List AV)(f:List AV->α),Sn l f=f l
 |[],_=>rfl
 |v::r,f=>Bl r fun r=>f (v::r)
theorem Jt(te:TI)(es:List AV)(full:Bool)(xs:List AV)(h:Vg):Ad te es full xs h=M6 (Nat.add (dw es) (dw xs)) fun n =>
 B5 (full&&Nat.ble (Nat.mul n te.bytes) 140737488355328&&i6 te.size es) (zs (.msl h.next 0 n te.size,h.push (.row (ma es xs) te.size))):=by
 grind[Ad,Bl]
theorem Su(te:TI)(id off n:Nat)(xs:List AV)(h:Vg)(es:List AV)(sz:Nat):Ld te id off n xs h es sz=M6 (Nat.add n (dw xs)) fun m =>
 B5 (Nat.ble (Nat.add off n) (dw es)&&Nat.beq sz te.size&&Nat.ble (Nat.mul m te.bytes) 140737488355328) (zs (.msl h.next 0 m sz,(h.del id).push (.row (ma (kh (ls es off) n) xs) sz))):=by
 grind[Ld,Bl]
theorem m7:∀(n:Nat)(v:AV),oi n v=List.replicate n v
 |0,_=>rfl
 |n+1,v=>congrArg (v:: ·) (m7 n v)
theorem mG:∀(l:List UInt8)(i:Nat),DC l i=l[i]?
 |[],_=>rfl
 |_::_,0=>rfl
 |_::r,i+1=>mG r i
theorem bB:∀(l:List (Nat×Nat))(i:Nat),Wj l i=l[i]?
 |[],_=>rfl
 |_::_,0=>rfl
 |_::r,i+1=>bB r i
theorem G9:∀(l:List AV),E4 l=zt↔∀c∈l,ff c=zt
 |[]=>by simp[E4]
 |v::r=>by
  show(bif ff v then E4 r else zf)=zt↔_
  cases h:ff v<;>simp[h,G9 r]
theorem n9(sz:Nat):∀(l:List AV),G1 sz l=zt↔∀c∈l,lz c.cells=sz
 |[]=>by simp[G1]
 |v :: r=>by
  show(bif Nat.beq (dw v.cells) sz then G1 sz r else zf)=zt↔_
  rw[A4];cases h:Nat.beq (lz v.cells) sz
  . have:lz v.cells≠sz:=fun e=>by simp_all
    simp[this]
  . have:lz v.cells=sz:=zqj h
    simp[this,n9 sz r]
theorem A1{α β:Type}{x:Option α}{f:α->Option β}{b:β}(h:A5 x f=zs b):∃a,x=zs a/\f a=zs b:=by
 cases x with
 |none=>cases h
 |some a=>exact⟨a,rfl,h⟩
theorem A6{α:Type}{b:Bool}{x:Option α}{a:α}(h:B5 b x=zs a):b=zt/\x=zs a:=by
 cases b with
 |false=>cases h
 |true=>exact⟨rfl,h⟩
theorem D8{a b:Nat}(h:Nat.beq a b=zt):a=b:=zqj h
theorem C5{a b:Nat}(h:Nat.ble a b=zt):a<=b:=zqh h
theorem K5{a b:Nat}(h:Nat.blt a b=zt):a<b:=zqh h
theorem mH(k:IntKind):(me k:Int)=2^k.bits:=by cases k<;>rfl
theorem oT(k:IntKind):Co k=k.bits:=by cases k<;>rfl
theorem Ln(k:IntKind):0<me k:=by cases k<;>decide
theorem bC(n:Int)(m:Nat)(h:0<m):(qo n m:Int)=n%(m:Int):=by
 cases n with
 |ofNat a=>rfl
 |negSucc a=>
  show((m-(a%m+1):Nat):Int)=_
  have hl:a%m<m:=Nat.mod_lt _ h;rw[Int.negSucc_emod a (by grind)];grind
theorem rP(k:IntKind)(m:Nat)(h:m<me k):Xt k m=(let m:Int:=m;if k.signed&&m>=(2^(k.bits-1):Int)then m-(2^k.bits:Int)else m):=by
 have B:∀(hf p:Nat),m<p->(bif Nat.ble hf m then Int.negSucc (Nat.sub (Nat.sub p m) 1)else zqn m)=if(hf:Int)<=(m:Int)then(m:Int)-(p:Int)else(m:Int):=by
  intro hf p hp;cases hb:Nat.ble hf m with
  |true=>
   have:=zqh hb
   grind
  |false=>
   have:¬hf<=m:=(by grind[zql])
   grind
 unfold Xt;rw[B _ _ h];cases k<;>simp[g0b,me,IntKind.signed,IntKind.bits]at h|- <;> omega
theorem Sv(k:IntKind)(n:Int):mB k n=k.wrap n:=by
 have B:=Ln k;have hm:=bC n (me k) B;have hlt:qo n (me k)<me k:=by
  have:=zqo n (show(0:Int)<(me k:Int) by omega)
  omega
 grind[mB,IntKind.wrap,rP,mH]
theorem X5(j k:IntKind):gy j k=zt↔j=k:=by cases j<;>cases k<;>simp[gy,iV]
theorem Bm(a b:Int):mj a b=(a==b):=by
 rw[zqq,beq_iff_eq];cases a<;>cases b<;>simp only[mj,Nat.beq_eq,zqp,zqr,false_iff]<;>omega
theorem R6(a b:Int):il a b=decide (a<=b):=by
 rw[zqq,decide_eq_true_iff];cases a<;>cases b<;>simp only[il,Nat.ble_eq,zqp,zqr,false_iff,true_iff]<;>omega
theorem Oa(a b:UInt8):Jp a b=(a==b):=by
 unfold Jp;rw[zqq];simp_all[UInt8.toNat_inj]
theorem Ep:∀(a b:List UInt8),Pp a b=(a==b)
 |[],[]=>rfl
 |[],_::_=>rfl
 |_::_,[]=>rfl
 |x::a,y::b=>by
  show(bif Jp x y then Pp a b else zf)=_
  rw[Oa,Ep a b];grind
end Go.AM
/-
 The abstract machine: 'Rep': a value of the model reads as an abstract value; 'Ext': a later world; 'Sat': a world holds an abstract heap's objects.
-/
namespace Go.AM
structure Cx where
 μ:Nat->Nat×Nat×Nat
 nx:Nat
 own:Nat->Prop
 held:Nat->Prop
def _root_.Go.Value.oneC(v:Value):Bool:=match v with | .agg _=>zf | .tuple _=>zf|_=>zt
def mm(W:World)(b:Nat):Nat:=match W.heap[b]? with|some (.cells c _ _)=>c.size|_=>0
inductive Rep(W:World)(cx:Cx):Value->AV->Prop
 |int (k:IntKind) (n:Int):Rep W cx (.int k n) (.int k n)
 |bool (b:Bool):Rep W cx (.bool b) (.bool b)
 |str (s:ByteArray):Rep W cx (.string s) (.str s.data.toList)
 |agg (vs:Array Value) (cs:List AV) (hl:vs.size=lz cs) (h:∀(i:Nat) v c,vs[i]?=zs v->cs[i]?=zs c->Rep W cx v c):Rep W cx (.agg vs) (.agg cs)
 |tup (vs:Array Value) (cs:List AV) (hl:vs.size=lz cs) (h:∀(i:Nat) v c,vs[i]?=zs v->cs[i]?=zs c->Rep W cx v c):Rep W cx (.tuple vs) (.tup cs)
 | fsl (a:Option Addr) (b o n cap:Nat) (es:List AV) (full:Bool) (sz:Nat) (g:Nat->Nat->Value)
  (hn:lz es=n) (hc:n<=cap) (hf:full=zt->cap=n)
  (ha:es≠[]->a=zs ⟨b,o,zn⟩/\¬cx.own b/\b<W.heap.size)
  (hsz:∀(i:Nat) e,es[i]?=zs e->lz e.cells=sz)
  (hcell:∀(i:Nat) e (j:Nat) c,es[i]?=zs e->e.cells[j]?=zs c->W.cell? ⟨b,o+i*sz+j,zn⟩=zs (g i j))
  (hone:∀(i:Nat) e (j:Nat) c,es[i]?=zs e->e.cells[j]?=zs c->(g i j).oneC=zt)
  (hrep:∀(i:Nat) e (j:Nat) c,es[i]?=zs e->e.cells[j]?=zs c->Rep W cx (g i j) c)
  (hnn:es=[]->full=zf->a≠zn):Rep W cx (.slice a n cap) (.fsl es full)
 | fptr (b o off:Nat) (v:AV) (g:Nat->Value) (ho:¬cx.own b) (hb:b<W.heap.size)
  (hcell:∀(j:Nat) c,v.cells[j]?=zs c->W.cell? ⟨b,o+j,zn⟩=zs (g j))
  (hone:∀(j:Nat) c,v.cells[j]?=zs c->(g j).oneC=zt)
  (hrep:∀(j:Nat) c,v.cells[j]?=zs c->Rep W cx (g j) c):Rep W cx (.pointer (zs ⟨b,o+off,zn⟩)) (.fptr v off)
 | msl (a:Option Addr) (n cap id off sz:Nat) (hid:id<cx.nx) (hz:(cx.μ id).2.2=sz) (hb:(cx.μ id).1<W.heap.size) (hc:n<=cap)
  (ha:cap≠0->a=zs ⟨(cx.μ id).1,(cx.μ id).2.1+off*sz,zn⟩/\(cx.μ id).2.1+(off+cap)*sz<=mm W (cx.μ id).1)
  (hnn:a≠zn):Rep W cx (.slice a n cap) (.msl id off n sz)
 |x0a:Rep W cx (.slice zn 0 0) .x0a
 | ptr (id i off:Nat) (hid:id<cx.nx) (hb:(cx.μ id).1<W.heap.size):
  Rep W cx (.pointer (zs ⟨(cx.μ id).1,(cx.μ id).2.1+i*(cx.μ id).2.2+off,zn⟩)) (.ptr id i off)
 |x0c:Rep W cx (.pointer zn) .x0c
 |x0d:Rep W cx (.map zn) .x0d
 |map (id:Nat) (hid:id<cx.nx) (hb:(cx.μ id).1<W.heap.size):Rep W cx (.map (zs (cx.μ id).1)) (.map id)
 | fn (f:Fn) (vs ws:Array Value) (cs ds:List AV) (hl:vs.size=lz cs) (hl':ws.size=lz ds)
  (h:∀(i:Nat) v c,vs[i]?=zs v->cs[i]?=zs c->Rep W cx v c) (h':∀(i:Nat) v c,ws[i]?=zs v->ds[i]?=zs c->Rep W cx v c):Rep W cx (.func f vs ws) (.fn f cs ds)
 |x0e:Rep W cx .nilFunc .x0e
 |iface (t:TypeId) (v:Value) (a:AV) (h:Rep W cx v a):Rep W cx (.iface t v) (.iface t a)
 |x0b:Rep W cx .nilIface .x0b
 |any (v:Value) (h:v.oneC=zt):Rep W cx v .any
 |und (v:Value):Rep W cx v .und
theorem Rep.nil_fsl{W:World}{cx:Cx}{v:Value}(h:Rep W cx v .x0a):Rep W cx v (.fsl [] zt):=by
 cases h;exact .fsl zn 0 0 0 0 [] zt 0 (fun _ _=>undef) rfl (zqf _) (fun _=>rfl) (fun h=>absurd rfl h) (by simp) (by simp) (by simp) (by simp) (fun _ e=>by cases e)
def fc(W:World)(cx:Cx)(vs:List Value)(cs:List AV):Prop:=lz vs=lz cs/\∀(i:Nat) v c,vs[i]?=zs v->cs[i]?=zs c->Rep W cx v c
structure Ext0(W:World)(cx:Cx)(W':World)(cx':Cx):Prop where
 nx:cx.nx<=cx'.nx
 mu:∀id,id<cx.nx->cx'.μ id=cx.μ id
 sz:W.heap.size<=W'.heap.size
 keep:∀b,b<W.heap.size->¬cx.own b->W'.heap[b]?=W.heap[b]?
 shape:∀b,b<W.heap.size->mm W' b=mm W b
 own:∀b,b<W.heap.size->cx'.own b->cx.own b
structure Ext(W:World)(cx:Cx)(W':World)(cx':Cx):Prop extends Ext0 W cx W' cx' where
 hold:∀b,b<W.heap.size->cx.held b->cx'.held b/\W'.heap[b]?=W.heap[b]?
 out:W'.os=W.os/\W'.tape=W.tape/\W'.output=W.output
theorem Ext0.refl(W:World)(cx:Cx):Ext0 W cx W cx:=⟨zqf _,fun _ _=>rfl,zqf _,fun _ _ _=>rfl,fun _ _=>rfl,fun _ _ h=>h⟩
theorem Ext0.trans{W C W₂:World}{cx B cx₂:Cx}(h:Ext0 W cx C B)(h':Ext0 C B W₂ cx₂):Ext0 W cx W₂ cx₂ where
 nx:=Nat.le_trans h.nx h'.nx
 mu id hi:=(h'.mu id (zqc hi h.nx)).trans (h.mu id hi)
 sz:=Nat.le_trans h.sz h'.sz
 keep b hb ho:=(h'.keep b (zqc hb h.sz) fun D=>ho (h.own b hb D)).trans (h.keep b hb ho)
 shape b hb:=(h'.shape b (zqc hb h.sz)).trans (h.shape b hb)
 own b hb D:=h.own b hb (h'.own b (zqc hb h.sz) D)
theorem Ext.refl(W:World)(cx:Cx):Ext W cx W cx:=⟨Ext0.refl W cx,fun _ _ h=>⟨h,rfl⟩,rfl,rfl,rfl⟩
theorem Ext.trans{W C W₂:World}{cx B cx₂:Cx}(h:Ext W cx C B)(h':Ext C B W₂ cx₂):Ext W cx W₂ cx₂ where
 toExt0:=h.toExt0.trans h'.toExt0
 hold b hb hw:=by
  obtain⟨D,h2⟩:=h.hold b hb hw;obtain⟨h3,h4⟩:=h'.hold b (zqc hb h.sz) D;grind
 out:=⟨h'.out.1.trans h.out.1,h'.out.2.1.trans h.out.2.1,h'.out.2.2.trans h.out.2.2⟩
theorem Cu{W W':World}{b:Nat}(h:W'.heap[b]?=W.heap[b]?)(o:Nat):W'.cell? ⟨b,o,zn⟩=W.cell? ⟨b,o,zn⟩:=by
 unfold World.cell?;rw[h]
theorem Rep.mono0{W W':World}{cx cx':Cx}(B:Ext0 W cx W' cx'){v:Value}{a:AV}(h:Rep W cx v a):Rep W' cx' v a:=by
 induction h with
 |int k n=>exact .int k n
 |bool b=>exact .bool b
 |str s=>exact .str s
 |agg vs cs hl _ C=>exact .agg vs cs hl C
 |tup vs cs hl _ C=>exact .tup vs cs hl C
 |fsl a b o n cap es full sz g hn hc hf ha hsz hcell hone _ hnn C=>
  refine .fsl a b o n cap es full sz g hn hc hf (fun D=>?_) hsz (fun i e j c G I=>?_) hone C hnn
  . obtain⟨G,I,J⟩:=ha D
    exact⟨G,fun N=>I (B.own _ J N),zqc J B.sz⟩
  . have D:es≠[]:=fun e0=>by grind
    obtain⟨_,U,J⟩:=ha D;rw[Cu (B.keep b J U)];grind
 |fptr b o off v g ho hb hcell hone _ C=>
  refine .fptr b o off v g (fun N=>ho (B.own _ hb N)) (zqc hb B.sz) (fun j c G=>?_) hone C;rw[Cu (B.keep b hb ho)];grind
 |x0a=>exact .x0a
 |msl a n cap id off sz hid hz hb hc ha hnn=>
  refine .msl a n cap id off sz (zqc hid B.nx) ?_ ?_ hc ?_ hnn
  . rw[B.mu id hid];exact hz
  . rw[B.mu id hid];exact zqc hb B.sz
  . rw[B.mu id hid];intro h0;obtain⟨G,I⟩:=ha h0
    exact⟨G,by rw[B.shape _ hb];exact I⟩
 |ptr id i off hid hb=>
  have H:=B.mu id hid;rw[<-H];exact .ptr id i off (zqc hid B.nx) (by rw[H];exact zqc hb B.sz)
 |x0c=>exact .x0c
 |x0d=>exact .x0d
 |map id hid hb=>
  have H:=B.mu id hid;rw[<-H];exact .map id (zqc hid B.nx) (by rw[H];exact zqc hb B.sz)
 |fn f vs ws cs ds hl hl' _ _ C Q=>exact .fn f vs ws cs ds hl hl' C Q
 |x0e=>exact .x0e
 |iface t v a _ C=>exact .iface t v a C
 |x0b=>exact .x0b
 |any v h=>exact .any v h
 |und v=>exact .und v
theorem Rep.mono{W W':World}{cx cx':Cx}(B:Ext W cx W' cx'){v:Value}{a:AV}(h:Rep W cx v a):Rep W' cx' v a:=h.mono0 B.toExt0
theorem fc.mono{W W':World}{cx cx':Cx}(B:Ext W cx W' cx'){vs:List Value}{cs:List AV}(h:fc W cx vs cs):fc W' cx' vs cs:=
 ⟨h.1,fun i v c C D=>(h.2 i v c C D).mono B⟩
theorem fc.nil{W:World}{cx:Cx}:fc W cx [] []:=⟨rfl,fun i v c h=>by simp at h⟩
theorem fc.cons{W:World}{cx:Cx}{v:Value}{c:AV}{vs:List Value}{cs:List AV}(h:Rep W cx v c)(h':fc W cx vs cs):fc W cx (v::vs) (c::cs):=
 ⟨by simp[h'.1],fun i u d B C=>by
   cases i with
   |zero=>grind
   |succ i=>simp at B C;exact h'.2 i u d B C⟩
theorem fc.append{W:World}{cx:Cx}:∀{vs:List Value}{cs:List AV}{vs':List Value}{B:List AV},fc W cx vs cs->fc W cx vs' B->fc W cx (vs++vs') (cs++B)
 |[],[],_,_,_,h'=>h'
 |[],_::_,_,_,h,_=>by have:=h.1;simp at this
 |_::_,[],_,_,h,_=>by have:=h.1;simp at this
 |v::vs,c::cs,_,_,h,h'=>by
  refine .cons (h.2 0 v c rfl rfl) (fc.append ⟨by have:=h.1;grind,fun i u d h1 h2=>h.2 (i+1) u d (by grind) (by grind)⟩ h')
theorem fc.take{W:World}{cx:Cx}{vs:List Value}{cs:List AV}(h:fc W cx vs cs)(n:Nat):fc W cx (vs.take n) (cs.take n):=
 ⟨by simp[h.1],fun i v c B C=>by
   rw[List.getElem?_take]at B C;split at B
   . rename_i hi;rw[if_pos hi]at C;exact h.2 i v c B C
   . cases B⟩
theorem fc.drop{W:World}{cx:Cx}{vs:List Value}{cs:List AV}(h:fc W cx vs cs)(n:Nat):fc W cx (vs.drop n) (cs.drop n):=
 ⟨by simp[h.1],fun i v c B C=>by rw[List.getElem?_drop]at B C;exact h.2 _ v c B C⟩
theorem fc.get{W:World}{cx:Cx}{vs:List Value}{cs:List AV}(h:fc W cx vs cs){i:Nat}{c:AV}(hc:cs[i]?=zs c):∃v,vs[i]?=zs v/\Rep W cx v c:=by
 have hi:i<lz cs:=by
  grind
 have B:vs[i]?=zs (vs[i]'(h.1▸hi)):=zqt _;exact⟨_,B,h.2 i _ c B hc⟩
def Wl(vs:List Value):Prop:=∀v∈vs,v.oneC=zt
theorem Rep.cells{W:World}{cx:Cx}{v:Value}{a:AV}(h:Rep W cx v a)(hu:a≠.und):fc W cx v.cells.toList a.cells:=by
 have one:∀{v:Value}{a:AV},Rep W cx v a->(∀cs,v≠.agg cs)->(∀cs,a≠.agg cs)->fc W cx v.cells.toList a.cells:=by
  intro v a h hv ha;have e1:v.cells=#[v]:=by cases v<;>first|rfl|grind
  have e2:a.cells=[a]:=by cases a<;>first|rfl|grind
  rw[e1,e2];exact .cons h .nil
 cases h with
 |agg vs cs hl h=>exact⟨by grind[Value.cells,AV.cells],fun i v c h1 B=>h i v c (by grind[Value.cells]) B⟩
 |any v h=>exact one (.any v h) (fun cs e=>by subst e;cases h) (fun _ e=>by cases e)
 |und v=>grind
 |int k n=>exact one (.int k n) (fun _ e=>by cases e) (fun _ e=>by cases e)
 |bool b=>exact one (.bool b) (fun _ e=>by cases e) (fun _ e=>by cases e)
 |str s=>exact one (.str s) (fun _ e=>by cases e) (fun _ e=>by cases e)
 |tup vs cs hl h=>exact one (.tup vs cs hl h) (fun _ e=>by cases e) (fun _ e=>by cases e)
 |fsl a b o n cap es full sz g hn hc hf ha hsz hcell hone hrep hnn=>exact one (.fsl a b o n cap es full sz g hn hc hf ha hsz hcell hone hrep hnn) (fun _ e=>by cases e) (fun _ e=>by cases e)
 |fptr b o off v g ho hb hcell hone hrep=>exact one (.fptr b o off v g ho hb hcell hone hrep) (fun _ e=>by cases e) (fun _ e=>by cases e)
 |x0a=>exact one .x0a (fun _ e=>by cases e) (fun _ e=>by cases e)
 |msl a n cap id off sz hid hz hb hc ha hnn=>exact one (.msl a n cap id off sz hid hz hb hc ha hnn) (fun _ e=>by cases e) (fun _ e=>by cases e)
 |ptr id i off hid hb=>exact one (.ptr id i off hid hb) (fun _ e=>by cases e) (fun _ e=>by cases e)
 |x0c=>exact one .x0c (fun _ e=>by cases e) (fun _ e=>by cases e)
 |x0d=>exact one .x0d (fun _ e=>by cases e) (fun _ e=>by cases e)
 |map id hid hb=>exact one (.map id hid hb) (fun _ e=>by cases e) (fun _ e=>by cases e)
 |fn f vs ws cs ds hl hl' h h'=>exact one (.fn f vs ws cs ds hl hl' h h') (fun _ e=>by cases e) (fun _ e=>by cases e)
 |x0e=>exact one .x0e (fun _ e=>by cases e) (fun _ e=>by cases e)
 |iface t v a h=>exact one (.iface t v a h) (fun _ e=>by cases e) (fun _ e=>by cases e)
 |x0b=>exact one .x0b (fun _ e=>by cases e) (fun _ e=>by cases e)
theorem Rep.oneC{W:World}{cx:Cx}{v:Value}{a:AV}(h:Rep W cx v a)(ho:ff a=zt):v.oneC=zt:=by
 cases h<;>first|rfl|assumption|(exact absurd ho (by decide))|(exact absurd ho (by simp[ff]))
theorem fc.one{W:World}{cx:Cx}{vs:List Value}{cs:List AV}(h:fc W cx vs cs)(ho:∀c∈cs,ff c=zt):Wl vs:=by
 intro v B;obtain⟨i,hi⟩:=List.getElem?_of_mem B;have hl:i<lz cs:=by
  rw[<-h.1];grind
 exact(h.2 i v _ hi (zqt hl)).oneC (ho _ (List.getElem_mem hl))
def QN(es:List (AV×AV)):Prop:=∀q∈es,∀B∈es,HH q.1 B.1≠zn
def N2(W:World)(cx:Cx)(p:Nat×Nat×Nat):io->Prop
 | .row es sz=>p.2.2=sz/\∃(c:Array Value)(t:TypeId)(g:Nat->Nat->Value),W.heap[p.1]?=zs (.cells c t (0,0))/\p.2.1+lz es*sz<=c.size/\
  (∀(i:Nat) e,es[i]?=zs e->lz e.cells=sz)/\
  (∀(i:Nat) e (j:Nat) D,es[i]?=zs e->e.cells[j]?=zs D->c[p.2.1+i*sz+j]?=zs (g i j)/\(g i j).oneC=zt/\Rep W cx (g i j) D)
 | .mapo es=>∃(B:Array MapEntry)(C:Nat)(l:List MapEntry),W.heap[p.1]?=zs (.map B C)/\l.Perm B.toList/\lz l=lz es/\
  (∀(i:Nat) e q,l[i]?=zs e->es[i]?=zs q->Rep W cx e.key q.1/\Rep W cx e.val q.2)/\MapKept.Stamped B C/\QN es
structure qw(E:Env)(W:World)(cx:Cx):Prop where
 rep:∀g v,E.gl g=zs v->Rep W cx (.pointer (zs ⟨g,0,zn⟩)) (.fptr v 0)
 int:∀g,E.mx=zs g->(∃m,W.cell? ⟨g,0,zn⟩=zs (.int .i64 m))/\¬cx.own g/\g<W.heap.size
theorem qw.mono0{E:Env}{W W':World}{cx cx':Cx}(h:qw E W cx)(B:Ext0 W cx W' cx'):qw E W' cx':=
 ⟨fun g v hg=>(h.rep g v hg).mono0 B,fun g hg=>by
   obtain⟨⟨m,H⟩,D,C⟩:=h.int g hg;exact⟨⟨m,by rw[Cu (B.keep g C D)];exact H⟩,fun G=>D (B.own g C G),zqc C B.sz⟩⟩
theorem qw.mono{E:Env}{W W':World}{cx cx':Cx}(h:qw E W cx)(B:Ext W cx W' cx'):qw E W' cx':=h.mono0 B.toExt0
structure Sat(E:Env)(W:World)(cx:Cx)(h:Vg):Prop where
 nx:h.next=cx.nx
 objs:∀id o,h.get id=zs o->id<cx.nx/\cx.own (cx.μ id).1/\(cx.μ id).1<W.heap.size/\N2 W cx (cx.μ id) o
 inj:∀id id' o o',h.get id=zs o->h.get id'=zs o'->(cx.μ id).1=(cx.μ id').1->id=id'
 gl:qw E W cx
 held:∀b,cx.held b->b<W.heap.size/\cx.own b
 free:∀id o,h.get id=zs o->¬cx.held (cx.μ id).1
structure dh(W:World)(cx:Cx)(tmps:Array Value)(fr:Tr):Prop where
 rep:∀i,Rep W cx (tmps.getD i undef) (fr.get i)
 has:∀i,fr.has i=zt->i<tmps.size
theorem dh.mono{W W':World}{cx cx':Cx}(B:Ext W cx W' cx'){tmps:Array Value}{fr:Tr}(h:dh W cx tmps fr):dh W' cx' tmps fr:=
 ⟨fun i=>(h.rep i).mono B,h.has⟩
theorem dh.mono0{W W':World}{cx cx':Cx}(B:Ext0 W cx W' cx'){tmps:Array Value}{fr:Tr}(h:dh W cx tmps fr):dh W' cx' tmps fr:=
 ⟨fun i=>(h.rep i).mono0 B,h.has⟩
theorem dh.put{W:World}{cx:Cx}{a:Act}{fr:Tr}(h:dh W cx a.tmps fr)(d:Option Tmp){v:Value}{x:AV}(hv:Rep W cx v x):dh W cx (a.put d v).tmps (co d x fr):=by
 cases d with
 |none=>exact h
 |some d=>
  refine⟨fun i=>?_,fun i hi=>?_⟩
  . show Rep W cx ((a.tmps.setIfInBounds d v).getD i undef) ((fr.set d x).get i)
    by_cases hid:d=i
    . subst hid
      rw[Tr.get_set_eq];split
      . rename_i hh
        have hlt:=h.has _ hh;simp_all
      . exact .und _
    . rw[Tr.get_set_ne _ _ _ _ hid]
      have:=h.rep i
      simp_all
  . have B:(fr.set d x).has i=zt:=hi
    rw[Tr.has_set]at B;show i<(a.tmps.setIfInBounds d v).size
    simpa using h.has i B
namespace Vg
theorem beq_false{a b:Nat}(h:a≠b):Nat.beq a b=zf:=by
 grind[zqj]
theorem beq_refl(a:Nat):Nat.beq a a=zt:=by simp
theorem _root_.Go.AM.HT.get_node(l:HT)(v:Option io)(r:HT)(k:Nat):(HT.node l v r).get (k+1)=bif Nat.beq (zqa k 1) 0 then l.get (zqb k 1)else r.get (zqb k 1):=by
 show Nat.rec (motive:=fun _=>Option io) (l.get (zqb k 1)) (fun _ _=>r.get (zqb k 1)) (zqa k 1)=_
 generalize zqa k 1=m;cases m<;>rfl
theorem _root_.Go.AM.HT.path_succ(x:Option io)(f k:Nat):HT.path x (f+1) (k+1)=bif Nat.beq (zqa k 1) 0 then .node (HT.path x f (zqb k 1)) zn .nil else .node .nil zn (HT.path x f (zqb k 1)):=by
 show Nat.rec (motive:=fun _=>HT) (.node (HT.path x f (zqb k 1)) zn .nil) (fun _ _=>.node .nil zn (HT.path x f (zqb k 1))) (zqa k 1)=_
 generalize zqa k 1=m;cases m<;>rfl
theorem _root_.Go.AM.HT.put_succ(x:Option io)(f:Nat)(l:HT)(v:Option io)(r:HT)(k:Nat):(HT.node l v r).put x f (k+1)=bif Nat.beq (zqa k 1) 0 then .node (l.put x f (zqb k 1)) v r else .node l v (r.put x f (zqb k 1)):=by
 show Nat.rec (motive:=fun _=>HT) (.node (l.put x f (zqb k 1)) v r) (fun _ _=>.node l v (r.put x f (zqb k 1))) (zqa k 1)=_
 generalize zqa k 1=m;cases m<;>rfl
theorem _root_.Go.AM.HT.get_path(x:Option io):∀(f i j:Nat),i<f->(HT.path x f i).get j=if i=j then x else zn
 |0,i,j,h=>absurd h (Nat.not_lt_zero _)
 |f+1,0,0,_=>rfl
 |f+1,0,j+1,_=>by
  show(HT.node .nil x .nil).get (j+1)=_
  rw[HT.get_node,if_neg (by omega)];cases Nat.beq (zqa j 1) 0<;>rfl
 |f + 1,k+1,j,h=>by
  have e1:zqb k 1=k/2:=zqg k 1;have C:zqb k 1<f:=by grind
  rw[HT.path_succ];cases j with
  |zero=>
   rw[if_neg (by omega)];cases Nat.beq (zqa k 1) 0<;>rfl
  |succ j=>
   cases hb:Nat.beq (zqa k 1) 0<;>cases B:Nat.beq (zqa j 1) 0<;>simp only[cond_true,cond_false]<;>rw[HT.get_node,B]<;>simp only[cond_true,cond_false]
   . rw[HT.get_path x f _ _ C]
     by_cases D:k=j
     . grind
     . rw[if_neg (by grind[Go.AM.Tr.half_inj]),if_neg (by omega)]
   . rw [if_neg (fun e=>by
      have:k=j:=by omega
      subst this;rw[hb]at B;cases B)]
     rfl
   . rw [if_neg (fun e=>by
      have:k=j:=by omega
      subst this;rw[hb]at B;cases B)]
     rfl
   . rw[HT.get_path x f _ _ C]
     by_cases D:k=j
     . grind
     . rw[if_neg (by grind[Go.AM.Tr.half_inj]),if_neg (by omega)]
theorem _root_.Go.AM.HT.get_put(x:Option io)(f:Nat):∀(t:HT)(i j:Nat),i<f->(t.put x f i).get j=if i=j then x else t.get j
 |.nil,i,j,h=>HT.get_path x f i j h
 |.node l v r,0,0,_=>rfl
 |.node l v r,0,j+1,_=>by
  show(HT.node l x r).get (j+1)=_
  simp_all[HT.get_node]
 |.node l v r,k+1,j,h=>by
  have e1:zqb k 1=k/2:=zqg k 1;have B:zqb k 1<f:=by grind
  rw[HT.put_succ];cases j with
  |zero=>
   rw[if_neg (by omega)];cases Nat.beq (zqa k 1) 0<;>rfl
  |succ j=>
   rw[HT.get_node l v r];by_cases C:k=j
   . subst C
     rw[if_pos rfl];cases hb:Nat.beq (zqa k 1) 0<;>simp only[cond_true,cond_false]<;>rw[HT.get_node,hb]<;>simp only[cond_true,cond_false]
     . rw[HT.get_put x f r _ _ B,if_pos rfl]
     . rw[HT.get_put x f l _ _ B,if_pos rfl]
   . rw[if_neg (by omega)]
     cases hb:Nat.beq (zqa k 1) 0<;>cases D:Nat.beq (zqa j 1) 0<;>simp only[cond_true,cond_false]<;>rw[HT.get_node,D]<;>simp only[cond_true,cond_false]
     . rw[HT.get_put x f r _ _ B,if_neg (by grind[Go.AM.Tr.half_inj])]
     . rw[HT.get_put x f l _ _ B,if_neg (by grind[Go.AM.Tr.half_inj])]
theorem _root_.Go.AM.HT.get_trunc:∀(o n:HT)(i:Nat),(o.trunc n).get i=n.get i\/((o.trunc n).get i=zn/\o.get i=zn)
 |.nil,n,i=>.inr ⟨rfl,rfl⟩
 |.node l v r,n,0=>.inl (by cases n<;>rfl)
 |.node l v r,n,k+1=>by
  show(HT.node (l.trunc n.left) n.mid (r.trunc n.right)).get (k+1)=_\/((HT.node (l.trunc n.left) n.mid (r.trunc n.right)).get (k+1)=_/\_)
  have e:n.get (k+1)=bif Nat.beq (zqa k 1) 0 then n.left.get (zqb k 1)else n.right.get (zqb k 1):=by
   cases n with
   |nil=>cases Nat.beq (zqa k 1) 0<;>rfl
   |node a b c=>exact HT.get_node a b c k
  rw[HT.get_node,HT.get_node,e];cases Nat.beq (zqa k 1) 0
  . exact HT.get_trunc r n.right _
  . exact HT.get_trunc l n.left _
theorem get_set_ne(h:Vg){i j:Nat}(x:io)(hn:i≠j):(h.set i x).get j=h.get j:=(HT.get_put _ _ _ _ _ (zqd i)).trans (if_neg hn)
theorem get_set_eq(h:Vg){i:Nat}(x:io){o:io}(ho:h.get i=zs o):(h.set i x).get i=zs x:=(HT.get_put _ _ _ _ _ (zqd i)).trans (if_pos rfl)
theorem get_del_ne(h:Vg){i j:Nat}(hn:i≠j):(h.del i).get j=h.get j:=(HT.get_put _ _ _ _ _ (zqd i)).trans (if_neg hn)
theorem get_del_eq(h:Vg)(i:Nat):(h.del i).get i=zn:=(HT.get_put _ _ _ _ _ (zqd i)).trans (if_pos rfl)
theorem get_push_eq(h:Vg)(x:io):(h.push x).get h.next=zs x:=(HT.get_put _ _ _ _ _ (zqd h.next)).trans (if_pos rfl)
theorem get_push_ne(h:Vg)(x:io){j:Nat}(hn:j≠h.next):(h.push x).get j=h.get j:=(HT.get_put _ _ _ _ _ (zqd h.next)).trans (if_neg fun e=>hn e.symm)
theorem onRow_some{β:Type}{h:Vg}{i:Nat}{f:List AV->Nat->Option β}{x:β}(B:h.onRow i zn f=zs x):∃es sz,h.get i=zs (.row es sz)/\f es sz=zs x:=by
 unfold onRow at B;grind
theorem onMapo_some{β:Type}{h:Vg}{i:Nat}{f:List (AV×AV)->Option β}{x:β}(B:h.onMapo i zn f=zs x):∃es,h.get i=zs (.mapo es)/\f es=zs x:=by
 unfold onMapo at B;grind
end Vg
end Go.AM
/-
 The abstract machine: steps of worlds: a new object,a turned one,one that is let go.
-/
namespace Go.AM
theorem O8{W:World}{b:Nat}{o:Obj}(h:W.heap[b]?=zs o):b<W.heap.size:=by
 grind
theorem N2.mono0{W W':World}{cx cx':Cx}(D:Ext0 W cx W' cx'){p:Nat×Nat×Nat}{o:io}(hb:W'.heap[p.1]?=W.heap[p.1]?)(h:N2 W cx p o):N2 W' cx' p o:=by
 cases o with
 |row es sz=>
  obtain⟨J,c,t,g,N,G,H,I⟩:=h;exact⟨J,c,t,g,by grind,G,H,fun i e j Q a b=>let⟨x,y,z⟩:=I i e j Q a b;⟨x,y,z.mono0 D⟩⟩
 |mapo es=>
  obtain⟨C,B,l,J,U,N,G,H,I⟩:=h;exact⟨C,B,l,by grind,U,N,fun i e q a b=>let⟨x,y⟩:=G i e q a b;⟨x.mono0 D,y.mono0 D⟩,H,I⟩
theorem N2.mono{W W':World}{cx cx':Cx}(B:Ext W cx W' cx'){p:Nat×Nat×Nat}{o:io}(hb:W'.heap[p.1]?=W.heap[p.1]?)(h:N2 W cx p o):N2 W' cx' p o:=h.mono0 B.toExt0 hb
def Cx.push(cx:Cx)(b sz:Nat):Cx:=⟨fun i=>if i=cx.nx then(b,0,sz)else cx.μ i,cx.nx+1,fun x=>cx.own x\/x=b,cx.held⟩
theorem Cx.push_new(cx:Cx)(b sz:Nat):(cx.push b sz).μ cx.nx=(b,0,sz):=by simp[Cx.push]
theorem Cx.push_old(cx:Cx)(b sz:Nat){i:Nat}(h:i<cx.nx):(cx.push b sz).μ i=cx.μ i:=by
 grind[Cx.push]
theorem cw(W:World)(o:Obj){b:Nat}(h:b<W.heap.size):(W.alloc o).heap[b]?=W.heap[b]?:=by
 show(W.heap.push o)[b]?=_
 grind
theorem K7(W:World)(o:Obj):(W.alloc o).heap[W.heap.size]?=zs o:=by
 show(W.heap.push o)[W.heap.size]?=_
 simp
theorem Ext.alloc(W:World)(cx:Cx)(o:Obj)(sz:Nat):Ext W cx (W.alloc o) (cx.push W.heap.size sz) where
 nx:=Nat.le_succ _
 mu id h:=cx.push_old _ _ h
 sz:=by simp
 keep b hb _:=cw W o hb
 shape b hb:=by grind[mm,cw]
 own b hb h:=by rcases h with h|h;exact h;omega
 hold b hb h:=⟨h,cw W o hb⟩
 out:=⟨rfl,rfl,rfl⟩
theorem Sat.push{E:Env}{W:World}{cx:Cx}{h:Vg}(B:Sat E W cx h)(o:Obj)(x:io)(sz:Nat)
 (hx:N2 (W.alloc o) (cx.push W.heap.size sz) (W.heap.size,0,sz) x):Sat E (W.alloc o) (cx.push W.heap.size sz) (h.push x) where
 nx:=by show h.next+1=cx.nx+1;rw[B.nx]
 objs id y hy:=by
  have I:=Ext.alloc W cx o sz;by_cases hid:id=h.next
  . subst hid
    rw[Vg.get_push_eq]at hy;cases hy;rw[B.nx,Cx.push_new];exact⟨zqd _,Or.inr rfl,by simp,hx⟩
  . rw[Vg.get_push_ne _ _ hid]at hy
    obtain⟨D,J,H,N⟩:=B.objs id y hy;rw[Cx.push_old _ _ _ D];exact⟨zqm D,Or.inl J,by simp;omega,N.mono I (cw W o H)⟩
 inj id id' y y' hy hy' heq:=by
  by_cases hid:id=h.next<;>by_cases C:id'=h.next
  . grind
  . rw[Vg.get_push_ne _ _ C]at hy'
    obtain⟨D,_,H,_⟩:=B.objs id' y' hy';rw[hid,B.nx,Cx.push_new,Cx.push_old _ _ _ D]at heq;grind
  . rw[Vg.get_push_ne _ _ hid]at hy
    obtain⟨D,_,H,_⟩:=B.objs id y hy;rw[C,B.nx,Cx.push_new,Cx.push_old _ _ _ D]at heq;grind
  . rw[Vg.get_push_ne _ _ hid]at hy
    rw[Vg.get_push_ne _ _ C]at hy';have D:=(B.objs id y hy).1;have G:=(B.objs id' y' hy').1;rw[Cx.push_old _ _ _ D,Cx.push_old _ _ _ G]at heq;exact B.inj id id' y y' hy hy' heq
 gl:=B.gl.mono (Ext.alloc W cx o sz)
 held b hb:=⟨zqc (B.held b hb).1 (Ext.alloc W cx o sz).sz,Or.inl (B.held b hb).2⟩
 free id y hy:=by
  by_cases hid:id=h.next
  . subst hid
    rw[B.nx,Cx.push_new];exact fun hh=>Nat.lt_irrefl _ (B.held _ hh).1
  . rw[Vg.get_push_ne _ _ hid]at hy
    rw[Cx.push_old _ _ _ (B.objs id y hy).1];exact B.free id y hy
def dl(W:World)(b:Nat)(o:Obj):World:={W with heap:=W.heap.setIfInBounds b o}
theorem Ip(W:World)(b:Nat)(o:Obj):(dl W b o).heap.size=W.heap.size:=by simp[dl]
theorem gj(W:World){b B:Nat}(o:Obj)(h:b≠B):(dl W b o).heap[B]?=W.heap[B]?:=by
 grind[dl]
theorem o5(W:World){b:Nat}(o:Obj)(h:b<W.heap.size):(dl W b o).heap[b]?=zs o:=by
 simp[dl,h]
theorem Sw(W:World)(b:Nat)(o o':Obj):dl (dl W b o) b o'=dl W b o':=by
 simp[dl]
theorem Ext.set{W:World}{cx:Cx}{b:Nat}(o:Obj)(ho:cx.own b)(hh:¬cx.held b)(hs:∀c t f,W.heap[b]?=zs (.cells c t f)->∃B t' f',o=.cells B t' f'/\B.size=c.size)
 (hs':(∀c t f,W.heap[b]?≠zs (.cells c t f))->(∀c t f,o≠.cells c t f)):Ext W cx (dl W b o) cx where
 nx:=zqf _
 mu _ _:=rfl
 sz:=by simp_all[Ip]
 keep b' _ hno:=gj W o fun e=>hno (e▸ho)
 shape b' hb':=by
  by_cases e:b=b'
  . subst e
    unfold mm;rw[o5 W o hb'];grind
  grind[mm,gj]
 own _ _ h:=h
 hold b' _ h:=(by grind[Go.AM.gj])
 out:=⟨rfl,rfl,rfl⟩
theorem Sat.set{E:Env}{W W':World}{cx:Cx}{h:Vg}(C:Sat E W cx h)(D:Ext W cx W' cx){id:Nat}{B:io}(hg:h.get id=zs B)(x:io)
 (hk:∀b,b≠(cx.μ id).1->W'.heap[b]?=W.heap[b]?)(hx:N2 W' cx (cx.μ id) x):Sat E W' cx (h.set id x) where
 nx:=C.nx
 objs i y hy:=by
  by_cases hid:i=id
  . subst hid
    rw[Vg.get_set_eq _ _ hg]at hy;cases hy;obtain⟨H,I,J,_⟩:=C.objs i B hg;exact⟨H,I,zqc J D.sz,hx⟩
  . rw[Vg.get_set_ne _ _ (fun e=>hid e.symm)]at hy
    obtain⟨H,I,J,Q⟩:=C.objs i y hy;exact⟨H,I,zqc J D.sz,Q.mono D (hk _ fun e=>hid (C.inj i id y B hy hg e))⟩
 inj i j y y' hy hy' heq:=by
  have ex:∀k z,(h.set id x).get k=zs z->∃G,h.get k=zs G:=by
   grind[Vg.get_set_ne]
  obtain⟨z,hz⟩:=ex i y hy;obtain⟨G,N⟩:=ex j y' hy';exact C.inj i j z G hz N heq
 gl:=C.gl.mono D
 held b hb:=⟨zqc (C.held b hb).1 D.sz,(C.held b hb).2⟩
 free i y hy:=by
  by_cases hid:i=id
  . subst hid;exact C.free i B hg
  . rw[Vg.get_set_ne _ _ (fun e=>hid e.symm)]at hy;exact C.free i y hy
theorem Ext0.of_heap{W W':World}{cx:Cx}(hh:W'.heap=W.heap):Ext0 W cx W' cx:=
 ⟨zqf _,fun _ _=>rfl,by grind,fun _ _ _=>by rw[hh],fun _ _=>by grind[mm],fun _ _ h=>h⟩
theorem Sat.mono{E:Env}{W W':World}{cx:Cx}{h:Vg}(B:Sat E W cx h)(hh:W'.heap=W.heap):Sat E W' cx h:=by
 have C:Ext0 W cx W' cx:=Ext0.of_heap hh;exact⟨B.nx,fun id o ho=>let⟨a,b,c,d⟩:=B.objs id o ho;⟨a,b,by grind,d.mono0 C (by rw[hh])⟩,B.inj,B.gl.mono0 C,fun b hb=>by rw[hh];exact B.held b hb,B.free⟩
theorem Ext.of_heap{W W':World}{cx:Cx}(hh:W'.heap=W.heap)(ho:W'.os=W.os/\W'.tape=W.tape/\W'.output=W.output):Ext W cx W' cx:=
 ⟨Ext0.of_heap hh,fun _ _ h=>⟨h,by rw[hh]⟩,ho⟩
theorem Sat.low{E:Env}{W:World}{cx:Cx}{h:Vg}(B:Sat E W cx h)(l:List Nat):Sat E W cx {h with tch:=l}:=⟨B.nx,B.objs,B.inj,B.gl,B.held,B.free⟩
theorem Sat.del{E:Env}{W:World}{cx:Cx}{h:Vg}(B:Sat E W cx h)(id:Nat):Sat E W cx (h.del id) where
 nx:=B.nx
 objs i y hy:=by
  by_cases hid:i=id
  . grind[Vg.get_del_eq]
  . rw[Vg.get_del_ne _ (fun e=>hid e.symm)]at hy;exact B.objs i y hy
 inj i j y y' hy hy' heq:=by
  by_cases hi:i=id
  . grind[Vg.get_del_eq]
  . by_cases C:j=id
    . grind[Vg.get_del_eq]
    . rw[Vg.get_del_ne _ (fun e=>hi e.symm)]at hy
      rw[Vg.get_del_ne _ (fun e=>C e.symm)]at hy';exact B.inj i j y y' hy hy' heq
 gl:=B.gl
 held:=B.held
 free i y hy:=by
  by_cases hid:i=id
  . grind[Vg.get_del_eq]
  . rw[Vg.get_del_ne _ (fun e=>hid e.symm)]at hy;exact B.free i y hy
def Cx.move(cx:Cx)(b o sz:Nat):Cx:=⟨fun i=>if i=cx.nx then(b,o,sz)else cx.μ i,cx.nx+1,cx.own,cx.held⟩
theorem Cx.move_new(cx:Cx)(b o sz:Nat):(cx.move b o sz).μ cx.nx=(b,o,sz):=by simp[Cx.move]
theorem Cx.move_old(cx:Cx)(b o sz:Nat){i:Nat}(h:i<cx.nx):(cx.move b o sz).μ i=cx.μ i:=by
 grind[Cx.move]
theorem Ext.move{W W':World}{cx:Cx}(B:Ext W cx W' cx)(b o sz:Nat):Ext W cx W' (cx.move b o sz) where
 nx:=Nat.le_succ _
 mu _ h:=cx.move_old _ _ _ h
 sz:=B.sz
 keep:=B.keep
 shape:=B.shape
 own:=B.own
 hold:=B.hold
 out:=B.out
theorem Sat.move{E:Env}{W W':World}{cx:Cx}{h:Vg}(B:Sat E W cx h)(H:Ext W cx W' cx){id:Nat}{C:io}(hg:h.get id=zs C)(x:io)(o sz:Nat)
 (N:∀b,b≠(cx.μ id).1->W'.heap[b]?=W.heap[b]?)(hx:N2 W' (cx.move (cx.μ id).1 o sz) ((cx.μ id).1,o,sz) x):
 Sat E W' (cx.move (cx.μ id).1 o sz) ((h.del id).push x) where
 nx:=by show h.next+1=cx.nx+1;rw[B.nx]
 objs i y hy:=by
  by_cases hi:i=h.next
  . subst hi
    have:((h.del id).push x).get (h.del id).next=zs x:=Vg.get_push_eq _ _
    rw[show(h.del id).next=h.next from rfl]at this;rw[this]at hy;cases hy;obtain⟨D,G,Q,_⟩:=B.objs id C hg;rw[B.nx,Cx.move_new];exact⟨zqd _,G,zqc Q H.sz,hx⟩
  . rw [Vg.get_push_ne (h.del id) x hi]at hy
    by_cases hid:i=id
    . grind[Vg.get_del_eq]
    . rw[Vg.get_del_ne _ (fun e=>hid e.symm)]at hy
      obtain⟨D,G,Q,U⟩:=B.objs i y hy;rw[Cx.move_old _ _ _ _ D];exact⟨zqm D,G,zqc Q H.sz,U.mono (H.move _ _ _) (N _ fun e=>hid (B.inj i id y C hy hg e))⟩
 inj i j y y' hy hy' heq:=by
  have old:∀k z,k≠h.next->((h.del id).push x).get k=zs z->h.get k=zs z/\k≠id:=by
   intro k z N hz;rw[Vg.get_push_ne (h.del id) x N]at hz;grind[Vg.get_del_eq,Vg.get_del_ne]
  by_cases hi:i=h.next<;>by_cases J:j=h.next
  . rw[hi,J]
  . obtain⟨D,G⟩:=old j y' J hy'
    rw[hi,B.nx,Cx.move_new,Cx.move_old _ _ _ _ (B.objs j y' D).1]at heq;exact absurd (B.inj id j C y' hg D heq).symm G
  . obtain⟨D,G⟩:=old i y hi hy
    rw[J,B.nx,Cx.move_new,Cx.move_old _ _ _ _ (B.objs i y D).1]at heq;exact absurd (B.inj id i C y hg D heq.symm).symm G
  . obtain⟨D,_⟩:=old i y hi hy
    obtain⟨I,_⟩:=old j y' J hy';rw[Cx.move_old _ _ _ _ (B.objs i y D).1,Cx.move_old _ _ _ _ (B.objs j y' I).1]at heq;exact B.inj i j y y' D I heq
 gl:=B.gl.mono (H.move _ _ _)
 held b hb:=⟨zqc (B.held b hb).1 H.sz,(B.held b hb).2⟩
 free i y hy:=by
  by_cases hi:i=h.next
  . subst hi;rw[B.nx,Cx.move_new];exact B.free id C hg
  . rw [Vg.get_push_ne (h.del id) x hi]at hy
    by_cases hid:i=id
    . grind[Vg.get_del_eq]
    . rw[Vg.get_del_ne _ (fun e=>hid e.symm)]at hy
      rw[Cx.move_old _ _ _ _ (B.objs i y hy).1];exact B.free i y hy
theorem fy(b o i:Nat):(⟨b,o,zn⟩:Addr).add i=⟨b,o+i,zn⟩:=by
 grind[Addr.add]
theorem Ob{W:World}{b o:Nat}{c:Array Value}{t:TypeId}{f:Nat×Nat}(h:W.heap[b]?=zs (.cells c t f)):W.cell? ⟨b,o,zn⟩=c[o]?:=by
 grind[World.cell?]
theorem eB{W:World}{b o:Nat}{c:Array Value}{t:TypeId}(h:W.heap[b]?=zs (.cells c t (0,0))):W.frozen? ⟨b,o,zn⟩=zf:=by
 grind[World.frozen?]
def ko(c:Array Value)(o:Nat):List Value->Array Value
 |[]=>c
 |v::r=>ko (c.setIfInBounds o v) (o+1) r
theorem Y1:∀(vs:List Value)(c:Array Value)(o:Nat),(ko c o vs).size=c.size
 |[],_,_=>rfl
 |v::r,c,o=>by rw[ko,Y1 r];simp
theorem Lo:∀(vs:List Value)(c:Array Value)(o k:Nat),k<o\/o+lz vs<=k->(ko c o vs)[k]?=c[k]?
 |[],_,_,_,_=>rfl
 |v::r,c,o,k,h=>by
  rw[ko,Lo r _ (o+1) k (by simp at h;omega),Array.getElem?_setIfInBounds_ne (by simp at h;omega)]
theorem mI:∀(vs:List Value)(c:Array Value)(o k:Nat),o+lz vs<=c.size->k<lz vs->(ko c o vs)[o+k]?=vs[k]?
 |[],_,_,_,_,h=>by simp at h
 |v::r,c,o,0,hs,_=>by
  grind[ko,Lo]
 |v::r,c,o,k+1,hs,hk=>by
  rw[ko,show o+(k+1)=(o+1)+k by omega,mI r _ (o+1) k (by grind) (by grind)];simp
theorem wY(v:Value):v.oneCell'=v.oneC:=by cases v<;>rfl
theorem Wm{W:World}{b o:Nat}{c:Array Value}{t:TypeId}{f:Nat×Nat}(h:W.heap[b]?=zs (.cells c t f))(v:Value):
 W.setCell ⟨b,o,zn⟩ v=dl W b (.cells (c.setIfInBounds o v) t f):=by
 have hb:=O8 h;have hg:W.heap[b]=.cells c t f:=by grind
 unfold World.setCell dl
 congr 1
 grind
theorem Z5{P:Program}{b:Nat}{t:TypeId}:∀(vs:List Value)(o i:Nat)(c:Array Value)(W:World),W.heap[b]?=zs (.cells c t (0,0))->Wl vs->o+i+lz vs<=c.size ->
 (storeCells ⟨b,o,zn⟩ vs i).run P W=.ok () (dl W b (.cells (ko c (o+i) vs) t (0,0)))
 |[],o,i,c,W,h,_,_=>by
  have hb:=O8 h;have hg:W.heap[b]=.cells c t (0,0):=by grind
  have:dl W b (.cells c t (0,0))=W:=by
   unfold dl
   have:W.heap.setIfInBounds b (.cells c t (0,0))=W.heap:=by
    grind
   rw[this]
  simp[storeCells,ko,this]
 |v::r,o,i,c,W,h,h1,C=>by
  have hone:v.oneCell'=zt:=by rw[wY];exact h1 v (List.mem_cons_self ..)
  have C:o+i+(lz r+1)<=c.size:=C;have hc:W.cell? ⟨b,o+i,zn⟩=zs c[o+i]:=by rw[Ob h];grind
  have B:=run_store P W ⟨b,o+i,zn⟩ v .plain hone;rw[hc,eB h]at B;simp only[zqr,if_false]at B;have hb:=O8 h;have G:=Z5 (P:=P) r o (i+1) (c.setIfInBounds (o+i) v) (dl W b (.cells (c.setIfInBounds (o+i) v) t (0,0)))
   (o5 W _ hb) (fun u D=>h1 u (List.mem_cons_of_mem _ D)) (by simp;omega)
  rw[storeCells,Sem.run_bind,fy,B,Result.andThen_ok,Wm h,G,Sw];rfl
end Go.AM
/-
 The abstract machine: operations that only reckon are sound.
-/
namespace Go.AM
structure qx(z:Value)(a:AV):Prop where
 rep:∀W cx,Rep W cx z a
 one:Wl z.cells.toList
 und:a≠.und
def I7(P:Program)(t:Nat)(x:TI):Prop:=
 match x.desc with
 |.int k=>P.underlying t=zs (.int k)
 |.bool=>P.underlying t=zs .bool
 |.string=>P.underlying t=zs .string
 |.ptr e=>P.underlying t=zs (.pointer e)
 |.slice e=>P.underlying t=zs (.slice e)
 |.array n e=>P.underlying t=zs (.array n e)
 |.map k e=>P.underlying t=zs (.map k e)
 | .struct fs fl=>∃fields,P.underlying t=zs (.struct fields)/\fields.toList.map (fun f=>(f.type,f.offset))=fs/\(∀f∈fields.toList,∃i,P.info? f.type=zs i)/\
  (fl=zt->P.eqGuardType P.depth t=zf/\P.stoodInHeld t=zf/\lz x.zero.cells=fields.size/\
    ∀ (i : Nat) f, fields[i]? = zs f -> f.name ≠ "_" ∧ f.offset = i ∧ ∃ z, x.zero.cells[i]? = zs z ∧
      ((∃k n,z=.int k n/\P.underlying f.type=zs (.int k))\/(∃b,z=.bool b/\P.underlying f.type=zs .bool)\/(∃s,z=.str s/\P.underlying f.type=zs .string)))
 |.iface=>P.underlying t=zs (.interface #[])
 |.func=>∃d,P.underlying t=zs d/\(∀fs,d≠.struct fs)/\(∀n e,d≠.array n e)/\(∀k,d≠.int k)
 | .other=>∃d,P.underlying t=zs d/\(∀fs,d≠.struct fs)/\(∀n e,d≠.array n e)/\(∀k,d≠.int k)
structure qf(P:Program)(t:Nat)(x:TI):Prop where
 info:∃i z,P.info? t=zs i/\i.size=x.size/\i.bytes=x.bytes/\i.zero=zs z/\qx z x.zero
 zsz:lz x.zero.cells=x.size
 pos:0<x.size->0<x.bytes
 desc:I7 P t x
def Lr (P : Program) (f : Nat) : Prop := ∃ fn c, P.funcs[f]? = zs fn ∧ fn.body = zs c ∧ (fn.name == "runtime.NumGoroutine") = zf
def HP(k:Nat)(v:Value):Prop:=(k=0/\∃b,v=.bool b)\/(k=1/\∃n,v=.int .i64 n)\/(k=2/\∃s,v=.string s)
def rQ:List Nat->List Value->Prop
 |[],vs=>vs=[]
 |k::ks,vs=>∃v r,vs=v::r/\HP k v/\rQ ks r
def DI(ks:List Nat)(e:MapEntry):Prop:=(∃n,e.key=.int .i64 n/\(Lit.int .i64 n).wf=zt)/\∃vs,e.val=.agg vs/\rQ ks vs.toList
def zK(P:Program)(f:Nat)(ks:List Nat):Prop:=Lr P f/\
 ∀ (J:World->Prop) (I:MapEntry->Bool) (W:World) (b g:Nat) (cb:Array Value) (B:Array MapEntry) (D:Nat),
   W.heap[b]?=zs (.map B D)->MapKept.Stamped B D->B.size<=maxLen->(∀e∈B.toList,DI ks e) ->
   (∀C G,J C->C.heap.size<=G.heap.size->(∀i,i≠b->i≠W.heap.size->i<C.heap.size->G.heap[i]?=C.heap[i]?)->(∀i,i<C.heap.size->mm G i=mm C i)->G.os=C.os->G.tape=C.tape->G.output=C.output->J G) ->
   (∀C e,e∈B.toList->J C->W.heap.size<C.heap.size->Lr P g/\Calls P g (#[e.key,e.val]++cb) C fun x G=>x=.returned (.bool (I e))/\J G/\C.heap.size<=G.heap.size/\G.heap[b]?=C.heap[b]?/\G.heap[W.heap.size]?=C.heap[W.heap.size]?) ->
   J W->Calls P f #[.map (zs b),.func (.func g) #[] cb] W fun x W'=>x=.returned (.tuple #[])/\J W'/\∃H,W'.heap[b]?=zs (.map H D)/\H.toList=B.toList.filter fun e=>!I e
def zL(P:Program)(f k:Nat):Prop:=Lr P f/\
 ∀ (W:World) (p o b:Nat) (B:Array MapEntry) (C:Nat) (ks:List Int),
   W.cell? ⟨p,o,zn⟩=zs (.map (zs b))->W.heap[b]?=zs (.map B C)->MapKept.Stamped B C->B.size<=1000000->B.toList.map (·.key)=ks.map (Value.int .i64)->(∀n∈ks,(Lit.int .i64 n).wf=zt) ->
   Calls P f #[.func (.func k) #[] #[.pointer (zs ⟨p,o,zn⟩)]] W fun x W'=>∃v,x=.returned v/\RowKit.Below W.heap.size W W'/\
    ((ks=[]/\v=.slice zn 0 0)\/ks≠[]/\∃G cap D t,v=.slice (zs ⟨G,0,zn⟩) (lz ks) cap/\W.heap.size<=G/\W'.heap[G]?=zs (.cells D t (0,0))/\lz ks<=cap/\cap<=D.size/\
      ∀(i:Nat) n,(ks.mergeSort fun x y=>decide (x<=y))[i]?=zs n->D[i]?=zs (.int .i64 n))
structure dn(E:Env)(P:Program):Prop where
 ti:∀t x,E.ti t=zs x->qf P t x
 fn : ∀ f x, E.fn f = zs x -> ∃ fn c, P.funcs[f]? = zs fn ∧ fn.body = zs c ∧ (fn.name == "runtime.NumGoroutine") = zf ∧ x.code = xc c ∧ x.ntmps = fn.ntmps ∧ x.results = fn.results.toList ∧ x.mode = a04 fn.results.toList c
 told : ∀ f, E.told f = zt -> ∃ g fn c, E.mx = zs g ∧ P.funcs[f]? = zs fn ∧ fn.body = zs c ∧ (fn.name == "runtime.NumGoroutine") = zf ∧
  ∀(s sub:ByteArray)(m:Int)(w:World),(s.size<4294967281\/sub.size=1)->w.cell? ⟨g,0,zn⟩=zs (.int .i64 m)->Calls P f #[.string s,.string sub] w fun e w'=>e=.returned (.bool (gw sub.data.toList s.data.toList))/\w'=w
 dlf:∀f ks,E.dlf f=zs ks->zK P f ks
 srt:∀f k,E.srt f k=zt->zL P f k
 mixed:P.follows .mixedOrders=zt
section
variable {P:Program}{E:Env}{W:World}{cx:Cx}{h:Vg}
theorem A3{t:Nat}{d:TypeDesc}(B:P.underlying t=zs d):(underlying t).run P W=.ok d W:=by
 simp[underlying,B]
theorem qf.under{t:Nat}{x:TI}(h:qf P t x):∃d,P.underlying t=zs d:=by
 have:=h.desc
 grind[I7]
theorem qf.run_info{t:Nat}{x:TI}(h:qf P t x):∃i,(typeInfo t).run P W=.ok i W/\i.size=x.size/\i.bytes=x.bytes:=by
 obtain⟨i,z,h1,h2,h3,_⟩:=h.info;simp_all[typeInfo]
theorem qf.run_sizeOf{t:Nat}{x:TI}(h:qf P t x):(sizeOf t).run P W=.ok x.size W:=by
 obtain⟨i,B,C,_⟩:=h.run_info (W:=W);simp[sizeOf,B,C]
theorem qf.run_zero{t:Nat}{x:TI}(h:qf P t x):∃z,(zeroValue t).run P W=.ok z W/\qx z x.zero:=by
 obtain⟨i,z,h1,_,_,h4,h5⟩:=h.info;simp_all[zeroValue,typeInfo]
theorem qf.run_isAgg{t:Nat}{x:TI}(h:qf P t x):(isAgg t).run P W=.ok (r9 x.desc) W:=by
 have B:=h.desc;unfold I7 at B;split at B<;>rename_i D<;>rw[D]
 all_goals first
  |(simp[isAgg,underlying,B,r9];done)
  | (obtain⟨d,G,C⟩:=B
     first
      |simp_all[isAgg,underlying,r9]
      | (obtain⟨C,h3,_⟩:=C
         have:(underlying t).run P W=.ok d W:=A3 G
         simp only[isAgg,Sem.run_bind,this,Result.andThen_ok,r9];simp_all))
theorem E8{α:Type}{t:Nat}{f:TI->Option α}{x:α}(B:onTI E t zn f=zs x):∃ti,E.ti t=zs ti/\f ti=zs x:=by
 unfold onTI at B;cases ht:E.ti t with
 |_=>simp_all
theorem F4{t:Nat}{f:TI->Res}{v:AV}{h':Vg}(B:onTI E t .bad f=.ok v h'):∃ti,E.ti t=zs ti/\f ti=.ok v h':=by
 unfold onTI at B;cases ht:E.ti t with
 |_=>simp_all
theorem Ls(v:Value):Rep W cx v (Eg v):=by
 cases v with
 |int k n=>exact .int k n
 |bool b=>exact .bool b
 |string s=>exact .str s
 | pointer a=>cases a with
  |none=>exact .x0c
  |some a=>exact .any _ rfl
 |slice a n c=>
  cases a with
  |some a=>exact .any _ rfl
  |none=>
   cases n with
   |succ n=>exact .any _ rfl
   |zero=>
    cases c with
    |succ c=>exact .any _ rfl
    |zero=>exact .x0a
 | map r=>cases r with
  |none=>exact .x0d
  |some r=>exact .any _ rfl
 |nilFunc=>exact .x0e
 |nilIface=>exact .x0b
 |agg cs=>exact .und _
 |tuple cs=>exact .und _
 |_=>exact .any _ rfl
theorem Pu(v:Value):Rep W cx v (ofValue v):=by
 cases v with
 |agg cs=>
  refine .agg cs _ (by simp) fun i v c h1 h2=>?_
  grind[Ls]
 |_=>exact Ls _
theorem W7(B:Sat E W cx h){a:Act}{fr:Tr}(hf:dh W cx a.tmps fr)(x:Operand):Rep W cx (a.eval x) (opv E x fr):=by
 cases x with
 |tmp t=>exact hf.rep t
 |const v=>exact Pu v
 |global g=>
  show Rep W cx _ (match E.gl g with|some v=>AV.fptr v 0|none=>.any)
  cases hg:E.gl g with
  |none=>exact .any _ rfl
  |some v=>exact B.gl.rep g v hg
 |func f=>exact .fn (.func f) #[] #[] [] [] rfl rfl (by simp) (by simp)
theorem Bn(B:Sat E W cx h){a:Act}{fr:Tr}(hf:dh W cx a.tmps fr):∀(l:List Operand),fc W cx (l.map a.eval) (fk E l fr)
 |[]=>.nil
 |x::r=>.cons (W7 B hf x) (Bn B hf r)
theorem Rep.int_inv{v:Value}{k:IntKind}{n:Int}(h:Rep W cx v (.int k n)):v=.int k n:=by cases h;rfl
theorem Rep.bool_inv{v:Value}{b:Bool}(h:Rep W cx v (.bool b)):v=.bool b:=by cases h;rfl
theorem Rep.str_inv{v:Value}{l:List UInt8}(h:Rep W cx v (.str l)):∃s,v=.string s/\s.data.toList=l:=by cases h;grind
theorem Rep.agg_inv{v:Value}{cs:List AV}(h:Rep W cx v (.agg cs)):∃vs,v=.agg vs/\fc W cx vs.toList cs:=by
 cases h with
 |agg vs cs hl h=>exact⟨vs,rfl,by grind,(by grind)⟩
theorem Rep.tup_inv{v:Value}{cs:List AV}(h:Rep W cx v (.tup cs)):∃vs,v=.tuple vs/\fc W cx vs.toList cs:=by
 cases h with
 |tup vs cs hl h=>exact⟨vs,rfl,by grind,(by grind)⟩
theorem Rep.agg_mk{vs:List Value}{cs:List AV}(h:fc W cx vs cs):Rep W cx (.agg vs.toArray) (.agg cs):=
 .agg _ _ (by simpa using h.1) fun i v c h1 B=>h.2 i v c (by grind) B
theorem Rep.tup_mk{vs:List Value}{cs:List AV}(h:fc W cx vs cs):Rep W cx (.tuple vs.toArray) (.tup cs):=
 .tup _ _ (by simpa using h.1) fun i v c h1 B=>h.2 i v c (by grind) B
theorem B6{α:Type}{v:AV}{f:IntKind->Int->Option α}{x:α}(h:v.onInt zn f=zs x):∃k n,v=.int k n/\f k n=zs x:=by
 cases v<;>first|exact⟨_,_,rfl,h⟩|cases h
theorem Aj{α:Type}{v:AV}{f:Bool->Option α}{x:α}(h:v.onBool zn f=zs x):∃b,v=.bool b/\f b=zs x:=by
 cases v<;>first|exact⟨_,rfl,h⟩|cases h
theorem K8{α:Type}{v:AV}{f:List UInt8->Option α}{x:α}(h:v.onStr zn f=zs x):∃b,v=.str b/\f b=zs x:=by
 cases v<;>first|exact⟨_,rfl,h⟩|cases h
theorem x4{α:Type}{v:AV}{f:List AV->Option α}{x:α}(h:v.onAgg zn f=zs x):∃b,v=.agg b/\f b=zs x:=by
 cases v<;>first|exact⟨_,rfl,h⟩|cases h
theorem rR{v:AV}{f:List AV->Res}{x:AV}{h':Vg}(h:v.onTup .bad f=.ok x h'):∃b,v=.tup b/\f b=.ok x h':=by
 cases v<;>first|exact⟨_,rfl,h⟩|cases h
theorem oU{v:AV}{f:Bool->Res}{x:AV}{h':Vg}(h:v.onBool .bad f=.ok x h'):∃b,v=.bool b/\f b=.ok x h':=by
 cases v<;>first|exact⟨_,rfl,h⟩|cases h
theorem Bo{x y:AV}{f:IntKind->Int->Int->Option AV}{r:AV}(h:u4 x y f=zs r):∃k a b,x=.int k a/\y=.int k b/\f k a b=zs r:=by
 obtain⟨k,a,e1,h1⟩:=B6 h;grind[B6,X5]
theorem Cv{k:IntKind}{n:Int}{r:AV}(h:Im k n=zs r):r=.int k n:=by
 grind[Im,Ns]
theorem o6{k:IntKind}{n:Int}{r:AV}(h:R3 k n=zs r):r=.int k (k.wrap n):=by
 rw[Cv h,Sv]
theorem Ak{b:Bool}{r:AV}(h:F8 b=zs r):r=.bool b:=by cases b<;>(cases h;rfl)
theorem R7{v:AV}{n:Nat}(h:ew v=zs n):∃k,v=.int k (n:Int):=by
 obtain⟨k,m,e,h⟩:=B6 h;subst e;cases m with
 |ofNat m=>grind
 |negSucc m=>cases h
theorem mJ(n:Int)(k:IntKind):qo n (me k)<me k:=by
 have:=bC n (me k) (Ln k)
 have h2:=zqo n (show(0:Int)<(me k:Int) by have:=Ln k;omega);omega
theorem jB(k:IntKind)(m:Nat)(h:m<me k):Xt k m=k.wrap m:=by
 rw[<-Sv];unfold mB
 have:qo (m:Int) (me k)=m:=Nat.mod_eq_of_lt h
 rw[this]
theorem rS(k:IntKind):me k=2^k.bits:=by cases k<;>rfl
theorem M1{op:BinOp}{t:Nat}{B C:Operand}{k k':IntKind}{a b:Int}:(eqGuard op t B C (.int k a) (.int k' b)).run P W=.ok () W:=by
 simp_all[eqGuard]
theorem Er{op:BinOp}{t:Nat}{B C:Operand}{a b:ByteArray}:(eqGuard op t B C (.string a) (.string b)).run P W=.ok () W:=by
 simp_all[eqGuard]
theorem Lt{op:BinOp}{t:Nat}{B C:Operand}{a b:Bool}:(eqGuard op t B C (.bool a) (.bool b)).run P W=.ok () W:=by
 simp_all[eqGuard]
def V1(P:Program)(W:World)(op:BinOp)(t:Nat)(B C:Operand)(x y v:Value):Prop:=
 (do eqGuard op t B C x y;binOp op t x y:Sem Value).run P W=.ok v W
theorem V1.mk{op:BinOp}{t:Nat}{B C:Operand}{x y v:Value}(h1:(eqGuard op t B C x y).run P W=.ok () W)(h2:(binOp op t x y).run P W=.ok v W):V1 P W op t B C x y v:=by
 simp_all[V1]
theorem Sx(s:ByteArray):s.toList=s.data.toList:=ByteArray.toList_eq s
theorem Es{f:Nat}{d:TypeDesc}(B:P.underlying f=zs d)(hs:∀fs,d≠.struct fs)(ha:∀n e,d≠.array n e){cs:Array Value}{i:Nat}{v:Value}(C:cs[i]?=zs v):
 (part f cs i).run P W=.ok v W:=by
 have D:(isAgg f).run P W=.ok zf W:=by
  have:(underlying f).run P W=.ok d W:=A3 B
  simp only[isAgg,Sem.run_bind,this,Result.andThen_ok];simp_all
 simp[part,D,C]
theorem bD{xs ys:Array Value}{z as bs:List AV}(d:Nat)(hx:fc W cx xs.toList as)(hy:fc W cx ys.toList bs)(hla:Dk z as=zt)(hlb:Dk z bs=zt):
 ∀ (fs:List Field) (k:Nat) (r:Bool),lz z=k+lz fs ->
   (∀ (i : Nat) f, fs[i]? = zs f -> f.name ≠ "_" ∧ f.offset = k + i ∧ ∃ y, z[k + i]? = zs y ∧
       ((∃k n,y=.int k n/\P.underlying f.type=zs (.int k))\/(∃b,y=.bool b/\P.underlying f.type=zs .bool)\/(∃s,y=.str s/\P.underlying f.type=zs .string))) ->
   NS (as.drop k) (bs.drop k)=zs r->(Op.eqFields (d+1) xs ys fs).run P W=.ok r W:=by
 have like:∀(z l:List AV),Dk z l=zt->lz l=lz z/\∀(i:Nat) y,z[i]?=zs y->∃c,l[i]?=zs c/\Xu y c=zt:=by
  intro z
  induction z with
  | nil=>intro l h;cases l with
   |nil=>grind
   |cons _ _=>cases h
  |cons y z ih=>
   intro l h;cases l with
   |nil=>cases h
   |cons c l=>
    have h:(bif Xu y c then Dk z l else zf)=zt:=h;grind
 obtain⟨la,ha⟩:=like z as hla;obtain⟨lb,hb⟩:=like z bs hlb;intro fs
 induction fs with
 |nil=>
  intro k r hk _ hr;rw[zqu (by simp at hk;omega),zqu (by simp at hk;omega)]at hr;cases hr;simp[Op.eqFields]
 |cons f fs ih=>
  intro k r hk hf hr;obtain⟨hn,ho,y,hy1,hy2⟩:=hf 0 f rfl;simp only[Nat.add_zero]at ho hy1;obtain⟨a,ea,ka⟩:=ha k y hy1;obtain⟨b,eb,kb⟩:=hb k y hy1;have e1:as.drop k=a::as.drop (k+1):=by
   have hl:k<lz as:=by
    rcases Nat.lt_or_ge k (lz as) with h'|h'
    . exact h'
    . rw[List.getElem?_eq_none h']at ea;cases ea
   rw[zqv hl];rw[zqt hl]at ea;cases ea;rfl
  have e2:bs.drop k=b::bs.drop (k+1):=by
   grind[zqv]
  rw[e1,e2]at hr;have hr:iw (HI a b) zn (NS (as.drop (k+1)) (bs.drop (k+1))) (zs zf)=zs r:=hr;obtain⟨u,hu,ru⟩:=hx.get ea;obtain⟨v,hv,rv⟩:=hy.get eb;have hu':xs[k]?=zs u:=by grind
  have hv':ys[k]?=zs v:=by grind
  have heq:∃t,HI a b=zs t/\(part f.type xs f.offset).run P W=.ok u W/\(part f.type ys f.offset).run P W=.ok v W/\(Op.equalIn (d+1) f.type u v).run P W=.ok t W:=by
   rw[ho];rcases hy2 with⟨kk,n,rfl,hd⟩|⟨b0,rfl,hd⟩|⟨s0,rfl,hd⟩
   . have ka':a.onInt zf (fun k _=>gy kk k)=zt:=ka
     have kb':b.onInt zf (fun k _=>gy kk k)=zt:=kb;cases a<;>first|cases ka'|skip
     cases b<;>first|cases kb'|skip
     rename_i k1 n1 k2 n2;have q1:=(X5 _ _).1 ka';have q2:=(X5 _ _).1 kb';subst q1;subst q2;cases ru.int_inv;cases rv.int_inv;exact⟨_,by simp[HI,AV.onInt,(X5 _ _).2 rfl,Bm],Es hd (by simp) (by simp) hu',Es hd (by simp) (by simp) hv',run_equalIn_int W d f.type _ _ _ _ hd⟩
   . have ka':a.onBool zf (fun _=>zt)=zt:=ka
     have kb':b.onBool zf (fun _=>zt)=zt:=kb;cases a<;>first|cases ka'|skip
     cases b<;>first|cases kb'|skip
     cases ru.bool_inv;cases rv.bool_inv;exact⟨_,rfl,Es hd (by simp) (by simp) hu',Es hd (by simp) (by simp) hv',run_equalIn_bool' W d f.type _ _ hd⟩
   . have ka':a.onStr zf (fun _=>zt)=zt:=ka
     have kb':b.onStr zf (fun _=>zt)=zt:=kb;cases a<;>first|cases ka'|skip
     cases b<;>first|cases kb'|skip
     obtain⟨s1,rfl,q1⟩:=ru.str_inv;obtain⟨s2,rfl,q2⟩:=rv.str_inv;simp_all[HI,AV.onStr,Ep,Es,run_equalIn_string,Sx]
  obtain⟨t,ht,p1,p2,p3⟩:=heq;rw[ht]at hr;simp only[Op.eqFields];rw[if_pos hn,Sem.run_bind,p1,Result.andThen_ok,Sem.run_bind,p2,Result.andThen_ok,Sem.run_bind,p3,Result.andThen_ok];cases t with
  |false=>cases hr;simp
  |true=>
   simp only[Bool.not_true,zqr,if_false];refine ih (k+1) r (by grind) (fun i f' hf'=>?_) hr
   have:=hf (i+1) f' (by grind)
   grind
theorem jl(E:Env)(t:Nat):N1 E t=.none\/∃ti,E.ti t=zs ti/\N1 E t=dW ti:=by
 unfold N1 onTI;cases ht:E.ti t with
 |_=>grind
theorem Xw{v:Value}{a:AV}(h:Rep W cx v a){r:Bool}(hn:rC a=zs r):∃B n c,v=.slice B n c/\B.isNone=r:=by
 cases h with
 |x0a=>cases hn;grind
 |msl B n cap id off sz hid hz hb hc ha hnn=>
  cases hn;refine⟨B,n,cap,rfl,?_⟩;cases B with
  |none=>grind
  |some x=>rfl
 |fsl B b o n cap es full sz g hn' hc hf ha hsz hcell hone hrep hnn=>
  cases es with
  |nil=>
   cases full with
   |true=>cases hn
   |false=>
    cases hn;refine⟨_,_,_,rfl,?_⟩;cases B with
    |none=>grind
    |some x=>rfl
  |cons e r'=>cases hn;grind
 |_=>cases hn
theorem Xx{v:Value}{a:AV}(h:Rep W cx v a){r:Bool}(hn:rD a=zs r):∃B,v=.pointer B/\B.isNone=r:=by
 cases h<;>first|(cases hn;exact⟨_,rfl,rfl⟩)|cases hn
theorem Xy{v:Value}{a:AV}(h:Rep W cx v a){r:Bool}(hn:rE a=zs r):∃B,v=.map B/\B.isNone=r:=by
 cases h<;>first|(cases hn;exact⟨_,rfl,rfl⟩)|cases hn
theorem gr{v:Value}{a:AV}(h:Rep W cx v a){r:Bool}(hn:rF a=zs r):(v=.nilIface/\r=zt)\/∃t u,v=.iface t u/\r=zf:=by
 cases h<;>first|(cases hn;done)|(cases hn;grind)|(cases hn;grind)
theorem eC{k:EqK}{a b:AV}{r:Bool}(h:Ei k a b=zs r):∃p q,s4 k a=zs p/\s4 k b=zs q/\((q=zt/\r=p)\/(q=zf/\p=zt/\r=zf)):=by
 unfold Ei at h;cases hb:s4 k b with
 |none=>rw[hb]at h;cases h
 |some q=>
  rw[hb]at h;cases ha:s4 k a with
  |none=>rw[ha]at h;cases q<;>cases h
  |some p=>
   rw[ha]at h;cases q with
   |true=>cases h;grind
   |false=>
    cases p with
    |true=>cases h;grind
    |false=>cases h
theorem bE{t:Nat}{e G c1 H c2:Nat}(I:Nat){B C:Option Addr}{r:Bool}(J:P.underlying t=zs (.slice e))(h:(C.isNone=zt/\r=B.isNone)\/(C.isNone=zf/\B.isNone=zt/\r=zf)):
 (Op.equalIn (I+1) t (.slice B G c1) (.slice C H c2)).run P W=.ok r W:=by
 have N:∀W:World,(underlying t).run P W=.ok (.slice e) W:=fun W=>A3 J
 unfold Op.equalIn;simp only[Sem.run_bind,N,Result.andThen_ok];cases B<;>cases C<;>rcases h with⟨Q,D⟩|⟨Q,D,U⟩<;>first|(subst D;rfl)|(subst U;rfl)|grind|grind
theorem jC{t:Nat}{e:Nat}(G:Nat){B C:Option Addr}{r:Bool}(H:P.underlying t=zs (.pointer e))(h:(C.isNone=zt/\r=B.isNone)\/(C.isNone=zf/\B.isNone=zt/\r=zf)):
 (Op.equalIn (G+1) t (.pointer B) (.pointer C)).run P W=.ok r W:=by
 have I:∀W:World,(underlying t).run P W=.ok (.pointer e) W:=fun W=>A3 H
 unfold Op.equalIn;simp only[Sem.run_bind,I,Result.andThen_ok];cases B<;>cases C<;>rcases h with⟨J,D⟩|⟨J,D,N⟩<;>first|(subst D;rfl)|(subst N;rfl)|grind|grind
theorem jD{t:Nat}{k e:Nat}(G:Nat){B C:Option Nat}{r:Bool}(H:P.underlying t=zs (.map k e))(h:(C.isNone=zt/\r=B.isNone)\/(C.isNone=zf/\B.isNone=zt/\r=zf)):
 (Op.equalIn (G+1) t (.map B) (.map C)).run P W=.ok r W:=by
 have I:∀W:World,(underlying t).run P W=.ok (.map k e) W:=fun W=>A3 H
 unfold Op.equalIn;simp only[Sem.run_bind,I,Result.andThen_ok];cases B<;>cases C<;>rcases h with⟨J,D⟩|⟨J,D,N⟩<;>first|(subst D;rfl)|(subst N;rfl)|grind|grind
theorem eD(hE:dn E P){t:Nat}{x y:Value}{a b:AV}{r:Bool}(G:Rep W cx x a)(H:Rep W cx y b)(h:Ei (N1 E t) a b=zs r)(V X:Operand):
 (V1 P W .eql t V X x y (.bool r))/\(V1 P W .neq t V X x y (.bool !r)):=by
 obtain⟨p,q,ha,hb,ac⟩:=eC h;rcases jl E t with U|⟨ti,ht,U⟩<;>rw[U]at ha hb
 . cases ha
 . unfold dW at ha hb
   have D:=(hE.ti t ti ht).desc;unfold I7 at D;cases B:ti.desc with
   |slice e=>
    rw [B]at ha hb D;obtain⟨I,n1,c1,rfl,J⟩:=Xw G ha;obtain⟨N,n2,c2,rfl,Q⟩:=Xw H hb;have C:(Op.equal t (.slice I n1 c1) (.slice N n2 c2)).run P W=.ok r W:=by
     refine bE 9999 D ?_;grind
    exact⟨.mk (by simp[eqGuard]) (by simp[binOp,C]),.mk (by simp[eqGuard]) (by simp[binOp,C])⟩
   |ptr e=>
    rw [B]at ha hb D;obtain⟨I,rfl,J⟩:=Xx G ha;obtain⟨N,rfl,Q⟩:=Xx H hb;have C:(Op.equal t (.pointer I) (.pointer N)).run P W=.ok r W:=by
     refine jC 9999 D ?_;grind
    exact⟨.mk (by simp[eqGuard]) (by simp[binOp,C]),.mk (by simp[eqGuard]) (by simp[binOp,C])⟩
   |map k e=>
    rw [B]at ha hb D;obtain⟨I,rfl,J⟩:=Xy G ha;obtain⟨N,rfl,Q⟩:=Xy H hb;have C:(Op.equal t (.map I) (.map N)).run P W=.ok r W:=by
     refine jD 9999 D ?_;grind
    exact⟨.mk (by simp[eqGuard]) (by simp[binOp,C]),.mk (by simp[eqGuard]) (by simp[binOp,C])⟩
   |iface=>
    rw[B]at ha hb D;have r1:∀W:World,(underlying t).run P W=.ok (.interface #[]) W:=fun W=>A3 D
    have C:(Op.equal t x y).run P W=.ok r W:=by
     show(Op.equalIn (9999+1) t x y).run P W=_
     unfold Op.equalIn;simp only[Sem.run_bind,r1,Result.andThen_ok];rcases gr G ha with⟨rfl,rfl⟩|⟨t1,u1,rfl,rfl⟩<;>rcases gr H hb with⟨rfl,rfl⟩|⟨t2,u2,rfl,rfl⟩<;>rcases ac with⟨J,Q⟩|⟨J,Q,h3⟩<;>first|(cases J;done)|simp_all|(subst Q;rfl)|(subst h3;rfl)
    have r2:(Op.eqGuardIn Op.maxDepth t .nilIface .nilIface).run P W=.ok zf W:=by
     show(Op.eqGuardIn (9999+1) t .nilIface .nilIface).run P W=_
     unfold Op.eqGuardIn;simp[r1]
    have hg:∀op,op=BinOp.eql\/op=BinOp.neq->(eqGuard op t V X x y).run P W=.ok () W:=by
     intro op Y;rcases gr G ha with⟨rfl,_⟩|⟨t1,u1,rfl,_⟩<;>rcases gr H hb with⟨rfl,_⟩|⟨t2,u2,rfl,_⟩<;>rcases Y with rfl|rfl<;>simp[eqGuard,r2]<;>(try split)<;>simp
    have aa:(binOp .eql t x y).run P W=.ok (.bool r) W:=by
     rcases gr G ha with⟨rfl,_⟩|⟨t1,u1,rfl,_⟩<;>rcases gr H hb with⟨rfl,_⟩|⟨t2,u2,rfl,_⟩<;>simp[binOp,C]
    have ab:(binOp .neq t x y).run P W=.ok (.bool !r) W:=by
     rcases gr G ha with⟨rfl,_⟩|⟨t1,u1,rfl,_⟩<;>rcases gr H hb with⟨rfl,_⟩|⟨t2,u2,rfl,_⟩<;>simp[binOp,C]
    exact⟨.mk (hg _ (.inl rfl)) aa,.mk (hg _ (.inr rfl)) ab⟩
   |struct fs fl=>rw[B]at ha;cases fl<;>cases ha
   |_=>rw[B]at ha;cases ha
theorem Iq(Q:dn E P){t:Nat}{x y:Value}{a b:AV}{r:Bool}(H:Rep W cx x a)(I:Rep W cx y b)(h:rG (N1 E t) a b=zs r)(U V:Operand):
 (V1 P W .eql t U V x y (.bool r))/\(V1 P W .neq t U V x y (.bool !r)):=by
 cases a with
 |agg as=>
  obtain⟨bs,G,g⟩:=x4 (v:=b) h;clear h;have h:=g;clear g;subst G;obtain⟨xs,rfl,aa⟩:=H.agg_inv;obtain⟨ys,rfl,ab⟩:=I.agg_inv;rcases jl E t with D|⟨ti,ht,D⟩<;>rw[D]at h
  . cases h
  . have X:=Q.ti t ti ht
    unfold dW at h;have J:=X.desc;cases B:ti.desc with
    |struct fs fl=>
     rw[B]at h;cases fl with
     |false=>cases h
     |true=>
      obtain⟨hl,h⟩:=A6 (b:=Dk ti.zero.cells as&&Dk ti.zero.cells bs) h;rw[zqs]at hl;unfold I7 at J;rw[B]at J;obtain⟨fields,Y,_,_,ac⟩:=J;obtain⟨g1,g2,g3,g4⟩:=ac rfl;have N:P.fieldsOf t=fields:=by grind[Program.fieldsOf]
      have C:(Op.equalIn 10000 t (.agg xs) (.agg ys)).run P W=.ok r W:=by
       rw[run_equalIn_agg W 9999 t xs ys (by rw[N];exact Y) g2,N];exact bD 9998 aa ab hl.1 hl.2 fields.toList 0 r (by grind) (by grind) h
      exact⟨.mk (run_eqGuard_agg W _ _ _ _ _ _ g1) (by rw[run_eql_struct,C];rfl),.mk (run_eqGuard_agg W _ _ _ _ _ _ g1) (by rw[run_neq_struct,C];rfl)⟩
    |_=>rw[B]at h;cases h
 |int k n=>
  obtain⟨k',m,G,g⟩:=B6 (v:=b) h;clear h;have h:=g;clear g;subst G;cases hk:gy k k' with
  |false=>grind
  |true=>
   rw[hk]at h;cases h
   have:=(X5 _ _).1 hk;subst this
   cases H.int_inv;cases I.int_inv;rw[Bm];exact⟨.mk M1 (by simp[binOp,Op.intCmp]),.mk M1 (by simp[binOp,Op.intCmp];rfl)⟩
 |bool c=>
  obtain ⟨c',G,g⟩:=Aj (v:=b) h;clear h;have h:=g;clear g;subst G;obtain⟨hb,h⟩:=A6 h;cases h;cases H.bool_inv;cases I.bool_inv;have Y:P.underlying t=zs .bool:=by
   rcases jl E t with D|⟨ti,ht,D⟩<;>rw[D]at hb
   . cases hb
   . unfold dW at hb
     have J:=(Q.ti t ti ht).desc;unfold I7 at J;cases B:ti.desc with
     |bool=>grind
     |struct fs fl=>rw[B]at hb;cases fl<;>cases hb
     |_=>rw[B]at hb;cases hb
  have C:(Op.equal t (.bool c) (.bool c')).run P W=.ok (c==c') W:=run_equalIn_bool' W 9999 t c c' Y;exact⟨.mk Lt (by simp[binOp,C]),.mk Lt (by simp[binOp,C])⟩
 |str l=>
  obtain⟨l',G,g⟩:=K8 (v:=b) h;clear h;have h:=g;clear g;subst G;cases h;obtain⟨s1,rfl,q1⟩:=H.str_inv;obtain⟨s2,rfl,q2⟩:=I.str_inv;rw[Ep,<-q1,<-q2,<-Sx,<-Sx];exact⟨.mk Er (by simp[binOp,Op.stringOp]),.mk Er (by simp[binOp,Op.stringOp])⟩
 |_=>exact eD Q H I h U V
theorem sr{a b:Option AV}{v:AV}(h:QL a b=zs v):a=zs v\/b=zs v:=by
 cases a with
 |none=>exact .inr h
 |some x=>exact .inl h
theorem Lu(I:dn E P){t:Nat}{x y:Value}{a b:AV}{r:Bool}(Q:Rep W cx x a)(U:Rep W cx y b)(h:Jr E t a b=zs r)(J N:Operand):
 (V1 P W .eql t J N x y (.bool r))/\(V1 P W .neq t J N x y (.bool !r)):=by
 cases a with
 |ptr i k o=>
  cases b with
  |ptr i' k' o'=>
   obtain⟨ti,ht,h⟩:=E8 h;have D:=(I.ti t ti ht).desc;unfold I7 at D;cases B:ti.desc with
   |ptr e=>
    rw[B]at h D;obtain⟨te,H,h⟩:=E8 h;obtain⟨hc,hh⟩:=A6 (b:=Nat.blt 0 te.size&&(Nat.beq i i'&&Nat.beq k k')) (x:=zs (Nat.beq o o')) h;rw[zqs,zqs]at hc;have hp:0<te.size:=zqh hc.1;have V:=D8 hc.2.1;have X:=D8 hc.2.2;subst V X;cases hh;have Y:=(I.ti e te H).run_sizeOf (W:=W);cases Q;cases U;have r1:∀W:World,(underlying t).run P W=.ok (.pointer e) W:=fun W=>A3 D
    have G:te.size≠0:=by omega
    have C:∀p q:Nat,(Op.equal t (.pointer (zs ⟨(cx.μ i).1,p+o,zn⟩)) (.pointer (zs ⟨(cx.μ i).1,p+o',zn⟩))).run P W=.ok (Nat.beq o o') W:=by
     intro p q;show(Op.equalIn (9999+1) t _ _).run P W=_
     unfold Op.equalIn;simp only[Sem.run_bind,r1,Result.andThen_ok];simp only[Y,Sem.run_bind,Result.andThen_ok,G,ne_eq,not_false_eq_true,if_true]
     have:(Nat.beq o o')=((⟨(cx.μ i).1,p+o,zn⟩:Addr)==⟨(cx.μ i).1,p+o',zn⟩):=by
      rw[zqq,beq_iff_eq];simp_all
     simp_all[sameAddr]
    exact⟨.mk (by simp[eqGuard]) (by simp[binOp,C _ 0]),.mk (by simp[eqGuard]) (by simp[binOp,C _ 0])⟩
   |_=>grind
  |_=>cases h
 |_=>cases h
theorem jE(H:dn E P){op:BinOp}{t:Nat}{x y:Value}{a b r:AV}(I:Rep W cx x a)(J:Rep W cx y b)(h:rJ E op t a b=zs r)(B C:Operand):
 ∃v,V1 P W op t B C x y v/\Rep W cx v r:=by
 cases op with
 |eql=>
  obtain⟨q,D,G⟩:=A1 (show A5 (Jr E t a b) F8=zs r from h)
  have:=(Lu H I J D B C).1
  cases q<;>cases G<;>exact⟨_,this,.bool _⟩
 |neq=>
  obtain⟨q,D,G⟩:=A1 (show A5 (Jr E t a b) (fun b=>F8 (!b))=zs r from h)
  have:=(Lu H I J D B C).2
  cases q<;>cases G<;>exact⟨_,this,.bool _⟩
 |_=>cases h
theorem Sy(m n:Int):(!decide (n<=m))=decide (m<n):=by
 grind
theorem Ju(k:IntKind)(m:Int):(m%(2:Int)^k.bits).toNat=qo m (me k):=by
 grind[mH,bC,Ln]
theorem Wn{f:Nat->Nat->Nat}{a b r:AV}(h:Lc f a b=zs r):∃k m n,a=.int k m/\b=.int k n/\r=.int k (Xt k (f (qo m (me k)) (qo n (me k)))):=by
 obtain⟨k,m,n,ea,eb,g⟩:=Bo h;grind[Cv]
theorem Et{x y:Value}{k:IntKind}{m n:Int}(B:Rep W cx x (.int k m))(C:Rep W cx y (.int k n)):x=.int k m/\y=.int k n:=⟨B.int_inv,C.int_inv⟩
theorem jF{op:BinOp}{t:Nat}{x y:Value}{a b r:AV}(B:Rep W cx x a)(C:Rep W cx y b)(D G:Operand)(f:Int->Int->Int)
 (hf:∀k m n,(binOp op t (.int k m) (.int k n)).run P W=.ok (.int k (k.wrap (f m n))) W)(h:(u4 a b fun k m n=>R3 k (f m n))=zs r):
 ∃v,V1 P W op t D G x y v/\Rep W cx v r:=by
 obtain⟨k,m,n,ea,H,g⟩:=Bo h;subst ea H;obtain⟨rfl,rfl⟩:=Et B C;rw[o6 g];exact⟨_,.mk M1 (hf k m n),.int _ _⟩
theorem bF{op:BinOp}{t:Nat}{x y:Value}{a b r:AV}(B:Rep W cx x a)(C:Rep W cx y b)(D G:Operand)(f:Int->Int->Bool)
 (hf:∀k m n,(binOp op t (.int k m) (.int k n)).run P W=.ok (.bool (f m n)) W)(h:(u4 a b fun _ m n=>F8 (f m n))=zs r):
 ∃v,V1 P W op t D G x y v/\Rep W cx v r:=by
 obtain⟨k,m,n,ea,H,g⟩:=Bo h;subst ea H;obtain⟨rfl,rfl⟩:=Et B C;rw[Ak g];exact⟨_,.mk M1 (hf k m n),.bool _⟩
theorem jG{op:BinOp}{t:Nat}{x y:Value}{a b r:AV}(B:Rep W cx x a)(C:Rep W cx y b)(D G:Operand)(f:Nat->Nat->Nat)
 (hl:∀(w m n:Nat),m<2^w->n<2^w->f m n<2^w)
 (hf:∀k m n,(binOp op t (.int k m) (.int k n)).run P W=.ok (.int k (k.wrap (f (qo m (me k)) (qo n (me k)):Nat))) W)(h:Lc f a b=zs r):
 ∃v,V1 P W op t D G x y v/\Rep W cx v r:=by
 obtain⟨k,m,n,ea,J,g⟩:=Wn h;subst ea J g;obtain⟨rfl,rfl⟩:=Et B C;have H:=mJ m k;have I:=mJ n k;rw[jB k _ (by rw[rS]at *;exact hl _ _ _ H I)];exact⟨_,.mk M1 (hf k m n),.int _ _⟩
theorem Xz(k:IntKind)(n:Nat):zqn (Nat.pow 2 (bif Nat.ble n (Co k)then n else Co k))=(2:Int)^(min n k.bits):=by
 have e:(bif Nat.ble n (Co k)then n else Co k)=min n k.bits:=by
  grind[oT,C5,zql]
 simp_all
theorem eE(U:dn E P){op:BinOp}{t:Nat}{x y:Value}{a b r:AV}(B:Rep W cx x a)(C:Rep W cx y b)(h:Q7 op (N1 E t) a b=zs r)(D G:Operand):
 ∃v,V1 P W op t D G x y v/\Rep W cx v r:=by
 cases op with
 |add=>
  have key:(∀l,a≠.str l)->∃v,V1 P W .add t D G x y v/\Rep W cx v r:=by
   intro hn;refine jF B C D G (fun m n=>m+n) (fun k m n=>by simp[binOp,Op.intArith]) ?_;cases a<;>first|exact h|grind
  cases a with
  |str l=>
   obtain⟨V,H,g⟩:=K8 (v:=b) h;subst H;cases hl:Nat.ble (Nat.add (r8 l) (r8 V)) 4611686018427387904 with
   |false=>grind
   |true=>
    rw [hl]at g;cases g;obtain⟨I,rfl,X⟩:=B.str_inv;obtain⟨J,rfl,Y⟩:=C.str_inv;have hl:=C5 hl;rw[u7,u7,<-X,<-Y]at hl;have e1:I.size=lz I.data.toList:=Array.length_toList.symm;have e2:J.size=lz J.data.toList:=Array.length_toList.symm;have hl:lz I.data.toList+lz J.data.toList<=4611686018427387904:=hl;have hlt:¬(((I.size+J.size:Nat):Int)>IntKind.i64.max):=by
     rw[show IntKind.i64.max=9223372036854775807 from rfl];omega
    refine⟨.string (I++J),.mk Er ?_,?_⟩
    . simp_all[binOp,Op.stringOp]
    . have:(I++J).data.toList=l++V:=by simp_all
      rw[<-this];exact .str _
  |_=>simp_all
 |sub=>exact jF B C D G (fun m n=>m-n) (fun k m n=>by simp[binOp,Op.intArith]) h
 |mul=>exact jF B C D G (fun m n=>m*n) (fun k m n=>by simp[binOp,Op.intArith]) h
 |quo=>
  obtain⟨k,m,n,ea,H,g⟩:=Bo h;subst ea H;obtain⟨rfl,rfl⟩:=Et B C;rw[Bm]at g;cases hn:n==0 with
  |true=>grind
  |false=>
   rw[hn]at g;rw[o6 g]
   have:¬n=0:=by grind
   exact⟨_,.mk M1 (by simp[binOp,Op.intDiv,this]),.int _ _⟩
 |rem=>
  obtain⟨k,m,n,ea,H,g⟩:=Bo h;subst ea H;obtain⟨rfl,rfl⟩:=Et B C;rw[Bm]at g;cases hn:n==0 with
  |true=>grind
  |false=>
   rw[hn]at g;rw[Cv g]
   have:¬n=0:=by grind
   exact⟨_,.mk M1 (by simp[binOp,Op.intDiv,this]),.int _ _⟩
 |and=>exact jG B C D G zqa (fun w m n _ hn=>Nat.and_lt_two_pow m hn) (fun k m n=>by simp[binOp,Op.intBits,Ju]) h
 |or=>exact jG B C D G Nat.lor (fun w m n Q hn=>Nat.or_lt_two_pow Q hn) (fun k m n=>by simp[binOp,Op.intBits,Ju]) h
 |xor=>exact jG B C D G Nat.xor (fun w m n Q hn=>Nat.xor_lt_two_pow Q hn) (fun k m n=>by simp[binOp,Op.intBits,Ju]) h
 |shl=>
  obtain⟨k,m,ea,g⟩:=B6 (v:=a) h;subst ea;obtain⟨k',n,H,N⟩:=B6 (v:=b) g;subst H;cases n with
  |negSucc n=>cases N
  |ofNat n=>
   rw[o6 N,Xz];cases B.int_inv;cases C.int_inv;refine⟨_,.mk M1 ?_,.int _ _⟩;simp_all[binOp,Op.shift,if_neg]
 |shr=>
  obtain⟨k,m,ea,g⟩:=B6 (v:=a) h;subst ea;obtain⟨k',n,H,N⟩:=B6 (v:=b) g;subst H;cases n with
  |negSucc n=>cases N
  |ofNat n=>
   rw[Cv N,Xz];cases B.int_inv;cases C.int_inv;refine⟨_,.mk M1 ?_,.int _ _⟩;simp_all[binOp,Op.shift,if_neg]
 |eql=>
  obtain⟨c,hc,g⟩:=A1 h;rw[Ak g];exact⟨_,(Iq U B C hc D G).1,.bool _⟩
 |neq=>
  obtain⟨c,hc,g⟩:=A1 h;rw[Ak g];exact⟨_,(Iq U B C hc D G).2,.bool _⟩
 |lss=>exact bF B C D G (fun m n=>!(il n m)) (fun k m n=>by simp[binOp,Op.intCmp,R6,Sy]) h
 |leq=>exact bF B C D G (fun m n=>il m n) (fun k m n=>by simp[binOp,Op.intCmp,R6]) h
 |gtr=>exact bF B C D G (fun m n=>!(il m n)) (fun k m n=>by simp[binOp,Op.intCmp,R6,Sy]) h
 |geq=>exact bF B C D G (fun m n=>il n m) (fun k m n=>by simp[binOp,Op.intCmp,R6]) h
 |andNot=>cases h
end
end Go.AM
