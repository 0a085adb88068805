/- What this program's functions do, at any data. Conditions: none. -/
import Derived.Test.YthgknegndpoebaaDoorFacts
set_option linter.unusedVariables false
set_option linter.unusedSimpArgs false
namespace Go.Proofs.AmEnv
open Go Go.AM
theorem cmpInt:CmpOk env IntR ⟨some 25,.binOp .eql 3 (.tmp 20) (.tmp 24) 3,none,false,[],false⟩:=by
 intro h l r x y X Y hx hy k1 k2
 refine⟨h,.refl h,?_⟩
 cases hx; cases hy
 simp -implicitDefEqProofs (maxSteps:=1000000) only[k1,k2,XS,Nat.reduceAdd,Nat.reduceLT,Nat.reduceEqDiff,↓reduceIte]
theorem partInt {h:Heap} {x:AV} {n:Int} (hx:IntR h x n):partOf ty3 x.cells 0=some x:=by cases hx; rfl
theorem SameInts_ok {h:Heap} {a b:AV} {la lb:List Int} (ha:IntsR h a la) (hb:IntsR h b lb):∃h',Grow h h'∧callω env 12 [a,b] h=.ok (.bool (decide (la=lb))) h' :=
 same_ok (cmp:=⟨some 25,.binOp .eql 3 (.tmp 20) (.tmp 24) 3,none,false,[],false⟩) (ts:=28) pl12 ti28 rfl ti3 partInt IntR.stays cmpInt ha hb
set_option maxHeartbeats 2000000 in
theorem SameInstr_ok {h:Heap} {x y:AV} {X Y:MInstr} (hx:InstrR h x X) (hy:InstrR h y Y):∃h',Grow h h'∧callω env 13 [x,y] h=.ok (.bool (decide (X=Y))) h':=by
 obtain⟨av,rfl,hav⟩:=hx
 obtain⟨bv,rfl,hbv⟩:=hy
 have o1:=hav.ok
 have o2:=hbv.ok
 rw[pl13.call h (by simp)]
 unfold c13
 have G:∀a b,Grow h ((h.push a).push b):=fun a b=>(Grow.push h a).trans (Grow.push _ b)
 simp -implicitDefEqProofs (maxSteps:=1000000) only[o1,o2,XS,XT,XF,AV.cells,Nat.reduceAdd,Nat.reduceLT,Nat.reduceEqDiff,↓reduceIte,Nat.reduceLeDiff]
 by_cases e0:X.op=Y.op
 rotate_left
 · rw[decide_eq_false (show ¬ X=Y from fun e=>e0 (by rw[e]))]
   simp -implicitDefEqProofs (maxSteps:=1000000) only[eq_false e0,XS,XT,XF,AV.cells,Nat.reduceAdd,Nat.reduceLT,Nat.reduceEqDiff,↓reduceIte,Nat.reduceLeDiff]
   exact⟨_,G _ _,rfl⟩
 simp -implicitDefEqProofs (maxSteps:=1000000) only[eq_true e0,XS,XT,XF,AV.cells,Nat.reduceAdd,Nat.reduceLT,Nat.reduceEqDiff,↓reduceIte,Nat.reduceLeDiff]
 by_cases e1:X.ty=Y.ty
 rotate_left
 · rw[decide_eq_false (show ¬ X=Y from fun e=>e1 (by rw[e]))]
   simp -implicitDefEqProofs (maxSteps:=1000000) only[eq_false e1,XS,XT,XF,AV.cells,Nat.reduceAdd,Nat.reduceLT,Nat.reduceEqDiff,↓reduceIte,Nat.reduceLeDiff]
   exact⟨_,G _ _,rfl⟩
 simp -implicitDefEqProofs (maxSteps:=1000000) only[eq_true e1,XS,XT,XF,AV.cells,Nat.reduceAdd,Nat.reduceLT,Nat.reduceEqDiff,↓reduceIte,Nat.reduceLeDiff]
 by_cases e2:X.dst=Y.dst
 rotate_left
 · rw[decide_eq_false (show ¬ X=Y from fun e=>e2 (by rw[e]))]
   simp -implicitDefEqProofs (maxSteps:=1000000) only[eq_false e2,XS,XT,XF,AV.cells,Nat.reduceAdd,Nat.reduceLT,Nat.reduceEqDiff,↓reduceIte,Nat.reduceLeDiff]
   exact⟨_,G _ _,rfl⟩
 simp -implicitDefEqProofs (maxSteps:=1000000) only[eq_true e2,XS,XT,XF,AV.cells,Nat.reduceAdd,Nat.reduceLT,Nat.reduceEqDiff,↓reduceIte,Nat.reduceLeDiff]
 by_cases e3:X.a=Y.a
 rotate_left
 · rw[decide_eq_false (show ¬ X=Y from fun e=>e3 (by rw[e]))]
   simp -implicitDefEqProofs (maxSteps:=1000000) only[eq_false e3,XS,XT,XF,AV.cells,Nat.reduceAdd,Nat.reduceLT,Nat.reduceEqDiff,↓reduceIte,Nat.reduceLeDiff]
   exact⟨_,G _ _,rfl⟩
 simp -implicitDefEqProofs (maxSteps:=1000000) only[eq_true e3,XS,XT,XF,AV.cells,Nat.reduceAdd,Nat.reduceLT,Nat.reduceEqDiff,↓reduceIte,Nat.reduceLeDiff]
 by_cases e4:X.b=Y.b
 rotate_left
 · rw[decide_eq_false (show ¬ X=Y from fun e=>e4 (by rw[e]))]
   simp -implicitDefEqProofs (maxSteps:=1000000) only[eq_false e4,XS,XT,XF,AV.cells,Nat.reduceAdd,Nat.reduceLT,Nat.reduceEqDiff,↓reduceIte,Nat.reduceLeDiff]
   exact⟨_,G _ _,rfl⟩
 simp -implicitDefEqProofs (maxSteps:=1000000) only[eq_true e4,XS,XT,XF,AV.cells,Nat.reduceAdd,Nat.reduceLT,Nat.reduceEqDiff,↓reduceIte,Nat.reduceLeDiff]
 by_cases e5:X.n=Y.n
 rotate_left
 · rw[decide_eq_false (show ¬ X=Y from fun e=>e5 (by rw[e]))]
   simp -implicitDefEqProofs (maxSteps:=1000000) only[eq_false e5,XS,XT,XF,AV.cells,Nat.reduceAdd,Nat.reduceLT,Nat.reduceEqDiff,↓reduceIte,Nat.reduceLeDiff]
   exact⟨_,G _ _,rfl⟩
 simp -implicitDefEqProofs (maxSteps:=1000000) only[eq_true e5,XS,XT,XF,AV.cells,Nat.reduceAdd,Nat.reduceLT,Nat.reduceEqDiff,↓reduceIte,Nat.reduceLeDiff]
 by_cases e6:X.s=Y.s
 rotate_left
 · rw[decide_eq_false (show ¬ X=Y from fun e=>e6 (by rw[e]))]
   simp -implicitDefEqProofs (maxSteps:=1000000) only[eq_false e6,XS,XT,XF,AV.cells,Nat.reduceAdd,Nat.reduceLT,Nat.reduceEqDiff,↓reduceIte,Nat.reduceLeDiff]
   exact⟨_,G _ _,rfl⟩
 simp -implicitDefEqProofs (maxSteps:=1000000) only[eq_true e6,XS,XT,XF,AV.cells,Nat.reduceAdd,Nat.reduceLT,Nat.reduceEqDiff,↓reduceIte,Nat.reduceLeDiff]
 obtain⟨h1,g1,e⟩:=SameInts_ok (IntsR.stays (G (.row [AV.agg [.int .i64 X.op,.int .i64 X.ty,.int .i64 X.dst,.int .i64 X.a,.int .i64 X.b,.int .i64 X.n,.str X.s,av]] 8) (.row [AV.agg [.int .i64 Y.op,.int .i64 Y.ty,.int .i64 Y.dst,.int .i64 Y.a,.int .i64 Y.b,.int .i64 Y.n,.str Y.s,bv]] 8)).kp hav) (IntsR.stays (G _ _).kp hbv)
 refine⟨h1,(G _ _).trans g1,?_⟩
 have hd:decide (X=Y)=decide (X.args=Y.args):=by
   cases X; cases Y; simp_all
 rw[hd]
 simp -implicitDefEqProofs (maxSteps:=1000000) only[e,XS,XT,XF,AV.cells,Nat.reduceAdd,Nat.reduceLT,Nat.reduceEqDiff,↓reduceIte,Nat.reduceLeDiff]
theorem partInstr {h:Heap} {x:AV} {n:MInstr} (hx:InstrR h x n):partOf ty42 x.cells 0=some x:=by obtain⟨av,rfl,_⟩:=hx; rfl
theorem flatEnd:flatOf env 38=.flat [.int .i64 0,.int .i64 0,.int .i64 0,.int .i64 0]:=rfl
theorem partCode {h:Heap} {x:AV} {n:MCode} (hx:CodeR h x n):partOf ty31 x.cells 0=some x:=by obtain⟨_,_,rfl,_⟩:=hx; rfl
end Go.Proofs.AmEnv
namespace Go.Proofs.AmEnv
open Go Go.AM
theorem buildBlock {v:AV} {a b c d:Int} (hv:v.cells=[v]) (ho:okCell v=true):buildD env ty40 [(0,v),(1,.agg [.int .i64 a,.int .i64 b,.int .i64 c,.int .i64 d])]=some (.agg [v,.int .i64 a,.int .i64 b,.int .i64 c,.int .i64 d]):=by
 refine congrArg (Option.map AV.agg) (a₂:=some _) ?_
 refine (fill_cons (q:=(0,1)) rfl (by rw[hv]; rfl) (by decide) (by rw[hv,okCells_cons,ho]; rfl)).trans ?_
 rw[hv]
 exact (fill_cons (cells:=[v,.int .i64 0,.int .i64 0,.int .i64 0,.int .i64 0]) (q:=(1,4)) rfl rfl (Nat.le_refl 5) rfl).trans rfl
end Go.Proofs.AmEnv
namespace Go.Proofs.AmEnv
open Go Go.AM
theorem IntO.whole:Whole IntO:=by rintro F h x X F' h' x' X' ⟨_,rfl⟩ ⟨_,rfl⟩; rfl
theorem InstrO.whole:Whole InstrO:=by rintro F h x X F' h' x' X' ⟨_,rfl,_⟩ ⟨_,rfl,_⟩; rfl
theorem BlockO.whole:Whole BlockO:=by rintro F h x X F' h' x' X' ⟨_,rfl,_⟩ ⟨_,rfl,_⟩; rfl
end Go.Proofs.AmEnv
namespace Go.Proofs.AmEnv
open Go Go.AM
end Go.Proofs.AmEnv
namespace Go.Proofs.AmEnv
open Go Go.AM
def mirror (s:List UInt8):List UInt8 :=
 if s=[43] then s else
 if s=[42] then s else
 if s=[38] then s else
 if s=[124] then s else
 if s=[94] then s else
 if s=[61,61] then s else
 if s=[33,61] then s else
 if s=[60] then [62] else
 if s=[62] then [60] else
 if s=[60,61] then [62,61] else
 if s=[62,61] then [60,61] else
 []
end Go.Proofs.AmEnv
namespace Go.Proofs.AmEnv
open Go Go.AM
def canonI (i:MInstr):MInstr:=if i.op=3∧¬ mirror i.s=[]∧i.b < i.a then ⟨i.op,i.ty,i.dst,i.b,i.a,i.n,mirror i.s,i.args⟩ else i
def canonB (b:MBlock):MBlock:=⟨b.code.map canonI,b.kind,b.a,b.to,b.el⟩
def canonC (c:MCode):MCode:=⟨c.name,c.ty,c.params,c.regs,c.blocks.map canonB⟩
def upTo {α:Type} (f:α→α) (k:Nat) (l:List α):List α:=(l.take k).map f++l.drop k
def CvAt (bv cv:AV) (i n:Nat) (h:Heap):Prop:=∃id es r,bv=.msl id 0 n 5∧h.get id=some (.row es 5)∧es[i]?=some (.agg (cv::r))
theorem CvAt.of {bv cv:AV} {i n:Nat} {h h':Heap} {F S:List Nat} {bs:List MBlock} {B:MBlock} {id:Nat} {es:List AV} {r:List AV} (hn:bs.length=n) (e:Elt BlockO 5 56 F h bv bs i B id es S (.agg (cv::r))) (hg:h'.get id=h.get id):CvAt bv cv i n h' :=
 ⟨id,es,r,by rw[← hn]; exact e.hv,hg.trans e.get,e.at_⟩
def MapOk (f:Nat) (g:MCode→MCode):Prop:=∀{h:Heap} {x:AV} {X:MCode},CodeR h x X→∃x' h' F,callω env f [x] h=.ok x' h'∧CodeO F h' x' (g X)∧Grow h h'∧New h h' F
end Go.Proofs.AmEnv
namespace Go.Proofs.AmEnv
open Go Go.AM
theorem bs0 {fr:Tr} {h:Heap} {call:CallF}:evOp env call (.buildSlice 28 0 #[]) fr h=.ok (.msl h.next 0 0 1) (h.push (.row [] 1)):=rfl
theorem IntsR.toO {es:List AV} {l:List Int} {h:Heap} {id:Nat} (h2:All2 (IntR h) es l) (hg:h.get id=some (.row es 1)) (hid:id < h.next) (sm:l.length * 8≤140737488355328) (le:l.length≤140737488355328):IntsO [id] h (.msl id 0 l.length 1) l:=by
 refine⟨.inr ⟨id,es,List.replicate l.length [],rfl,hg,hid,h2.len,by simp,?_,by simp,by simp⟩,sm,le⟩
 intro i S x X h3 h4 h5
 have:S=[]:=by
   rw[List.getElem?_replicate] at h3
   split at h3
   · cases h3; rfl
   · cases h3
 subst this
 have hx:=h2.2 i x X h4 h5
 exact⟨⟨rfl,hx⟩,by cases hx; rfl⟩
set_option maxHeartbeats 2000000 in
theorem cloneSome {h:Heap} {a:AV} {l:List Int} {es:List AV} (hs:SlH h 1 a es) (h2:All2 (IntR h) es l) (sm:l.length * 8≤140737488355328) (le:l.length≤140737488355328) (hne:binO env .eql 28 a .nilsl=some (.bool false)) :
   ∃x' h' F,callω env 20 [a] h=.ok x' h'∧IntsO F h' x' l∧Grow h h'∧New h h' F:=by
 have g1:Grow h (h.push (.row [] 1)):=Grow.push h _
 have hel:elems a (h.push (.row [] 1))=some es:=(g1.sl hs).el
 have hal:allSize 1 es=true:=by
   have:∀(m:List AV),(∀x∈m,x.cells.length=1)→allSize 1 m=true:=by
     intro m
     induction m with
     | nil=>intro _; rfl
     | cons x m ih =>
       intro hm
       show (bif Nat.beq (lenL x.cells) 1 then allSize 1 m else false)=true
       rw[lenL_eq,hm x (List.mem_cons_self ..),Nat.beq_refl]
       exact ih fun y hy=>hm y (List.mem_cons_of_mem _ hy)
   refine this es fun x hx=>?_
   obtain⟨i,hi⟩:=List.getElem?_of_mem hx
   exact hs.cl i x hi
 have hn:=h2.len
 have ap:∃v' h',appR ty3 (.msl h.next 0 0 1) a (h.push (.row [] 1))=.ok v' h'∧(∃F,IntsO F h' v' l∧New h h' F)∧Grow h h':=by
   cases es with
   | nil =>
     have hl:l=[]:=by cases l <;> simp_all
     subst hl
     refine⟨.msl h.next 0 0 1,h.push (.row [] 1),?_,⟨[h.next],IntsR.toO (l:=[]) All2.nil (Heap.get_push_eq h _) (Nat.lt_succ_self _) sm le,fun i hi=>?_⟩,g1⟩
     · unfold appR; rw[hel]; rfl
     · have:i=h.next:=by simpa using hi
       subst this; exact⟨Nat.le_refl _,Nat.lt_succ_self _⟩
   | cons x r =>
     have hd:(h.push (.row [] 1)).get h.next=some (.row [] 1):=Heap.get_push_eq h _
     refine⟨.msl (h.next+1) 0 l.length 1,((h.push (.row [] 1)).del h.next).push (.row (x::r) 1),?_,⟨[h.next+1],IntsR.toO (es:=x::r) (id:=h.next+1) ⟨hn,fun i x y hx hy=>h2.2 i x y hx hy⟩ (Heap.get_push_eq _ _) (Nat.lt_succ_self _) sm le,fun i hi=>?_⟩,((g1.del (Nat.le_refl _)).trans (Grow.push _ _))⟩
     · unfold appR
       rw[hel]
       show lift2 (guardO (allSize 1 (x::r)) (Heap.onRow (h.push (.row [] 1)) h.next none (appendM ty3 h.next 0 0 (x::r) (h.push (.row [] 1)))))=_
       rw[hal,onRow_eq hd]
       show lift2 (forceN (Nat.add 0 (lenL (x::r))) fun m=>guardO (true && true && Nat.ble (Nat.mul m 8) 140737488355328) (forceL (appL (takeL (dropL [] 0) 0) (x::r)) fun l=>some (AV.msl (h.next+1) 0 m 1,((h.push (.row [] 1)).del h.next).push (.row l 1))))=_
       rw[forceN_eq,lenL_eq,hn,show Nat.add 0 l.length=l.length from Nat.zero_add _]
       have:Nat.ble (Nat.mul l.length 8) 140737488355328=true:=Nat.ble_eq_true_of_le sm
       rw[this,forceL_eq]; rfl
     · have:i=h.next+1:=by simpa using hi
       subst this; exact⟨Nat.le_succ _,Nat.lt_succ_self _⟩
 obtain⟨v',h',ea,⟨F,ho,hnw⟩,hg⟩:=ap
 refine⟨v',h',F,?_,ho,hg,hnw⟩
 rw[pl20.call h (by simp)]
 unfold c20
 simp -implicitDefEqProofs (maxSteps:=1000000) only[bs0,hne,p_app ti28 rfl ti3 (by decide),ea,XS,XT,XF,AV.cells,Nat.reduceAdd,Nat.reduceLT,Nat.reduceEqDiff,↓reduceIte,Nat.reduceLeDiff]
theorem Clone_ok:CopyOk env IntsR IntsO 20:=by
 intro h a L hL
 obtain⟨es,hs,h2⟩:=hL.ex
 rcases hs.cases with ⟨rfl,rfl⟩ | ⟨b,rfl⟩ | ⟨id,off,n,row,z,rfl,_,hg,hn,rfl⟩
 · have:L=[]:=by have:=h2.len; cases L <;> simp_all
   subst this
   refine⟨.nilsl,h,[],?_,OwnL.nil,.refl h,fun i hi=>by cases hi⟩
   have hne:binO env .eql 28 .nilsl .nilsl=some (.bool true):=rfl
   rw[pl20.call h (by simp)]
   unfold c20
   simp -implicitDefEqProofs (maxSteps:=1000000) only[hne,XS,XT,XF,AV.cells,Nat.reduceAdd,Nat.reduceLT,Nat.reduceEqDiff,↓reduceIte,Nat.reduceLeDiff]
 · have:=hs.part
   subst this
   exact cloneSome hs h2 hL.sm hL.le (by cases es <;> rfl)
 · exact cloneSome hs h2 hL.sm hL.le rfl
end Go.Proofs.AmEnv
namespace Go.Proofs.AmEnv
open Go Go.AM
def tab:List (List UInt8 × List UInt8):=[([43],[43]),([42],[42]),([38],[38]),([124],[124]),([94],[94]),([61,61],[61,61]),([33,61],[33,61]),([60],[62]),([62],[60]),([60,61],[62,61]),([62,61],[60,61])]
noncomputable def glob:AV:=AV.agg [.str [43],.str [43],.str [42],.str [42],.str [38],.str [38],.str [124],.str [124],.str [94],.str [94],.str [61,61],.str [61,61],.str [33,61],.str [33,61],.str [60],.str [62],.str [62],.str [60],.str [60,61],.str [62,61],.str [62,61],.str [60,61]]
theorem tabGet {k:Nat} {a b:List UInt8} (hk:tab[k]?=some (a,b)):mirror a=b∧¬ b=[]∧indexA env ty64.desc k glob=some (.agg [.str a,.str b]):=by
 have h11:k < 11:=(List.getElem?_eq_some_iff.1 hk).1
 rcases k with _ | _ | _ | _ | _ | _ | _ | _ | _ | _ | _ | k
 all_goals first | (cases hk; exact⟨by decide,by decide,rfl⟩) | omega
theorem tabNone {s:List UInt8} (hn:∀(j:Nat) a b,tab[j]?=some (a,b)→¬ a=s):mirror s=[]:=by
 have h:∀j a b,tab[j]?=some (a,b)→¬ s=a:=fun j a b h e=>hn j a b h e.symm
 unfold mirror
 rw[if_neg (h 0 [43] [43] rfl)]
 rw[if_neg (h 1 [42] [42] rfl)]
 rw[if_neg (h 2 [38] [38] rfl)]
 rw[if_neg (h 3 [124] [124] rfl)]
 rw[if_neg (h 4 [94] [94] rfl)]
 rw[if_neg (h 5 [61,61] [61,61] rfl)]
 rw[if_neg (h 6 [33,61] [33,61] rfl)]
 rw[if_neg (h 7 [60] [62] rfl)]
 rw[if_neg (h 8 [62] [60] rfl)]
 rw[if_neg (h 9 [60,61] [62,61] rfl)]
 rw[if_neg (h 10 [62,61] [60,61] rfl)]
theorem v_gl {fr:Tr}:opv env (.global 0) fr=.fptr glob 0:=rfl
theorem ldGl (h:Heap):loadA ty64 (.fptr glob 0) h=some glob:=rfl
noncomputable def indexR (x i:AV) (h:Heap):Res:=lift (obind (asNat i) fun i=>indexA env ty64.desc i x) h
theorem p_index {fr:Tr} {h:Heap} {call:CallF} (x i:Operand):evOp env call (.index 64 x i) fr h=indexR (opv env x fr) (opv env i fr) h:=rfl
theorem indexR_nat {k:Nat} {x:AV} {h:Heap}:indexR x (.int .i64 (k:Int)) h=lift (indexA env ty64.desc k x) h:=rfl
theorem p_ia0 {fr:Tr} {h:Heap} {call:CallF} (x:Operand):evOp env call (.indexAddr 63 x (.const (.int .i64 0))) fr h=lift (indexAddrA env ty63.desc 0 (opv env x fr)) h:=rfl
theorem p_ia1 {fr:Tr} {h:Heap} {call:CallF} (x:Operand):evOp env call (.indexAddr 63 x (.const (.int .i64 1))) fr h=lift (indexAddrA env ty63.desc 1 (opv env x fr)) h:=rfl
theorem ia0 (id:Nat):indexAddrA env ty63.desc 0 (.ptr id 0 0)=some (.ptr id 0 0):=rfl
theorem ia1 (id:Nat):indexAddrA env ty63.desc 1 (.ptr id 0 0)=some (.ptr id 0 1):=rfl
structure TuAt (X:MInstr) (av':AV) (p r k:Nat) (hb:Heap) (l:List (Nat × AV)) (h:Heap):Prop where
 l1:AM.look l 1=.ptr p 0 0
 l2:AM.look l 2=.ptr r 0 0
 l20:AM.look l 20=glob
 l21:AM.look l 21=.int .i64 (k:Int)
 cell:h.get p=some (.row [(AV.agg [.int .i64 X.op,.int .i64 X.ty,.int .i64 X.dst,.int .i64 X.a,.int .i64 X.b,.int .i64 X.n,.str X.s,av'])] 8)
 g:Grow hb h
 no:∀(j:Nat) a b,j < k→tab[j]?=some (a,b)→¬ a=X.s
set_option maxHeartbeats 8000000 in
theorem tuLoop {X:MInstr} {av':AV} {p r:Nat} {hb:Heap} (hp:p < hb.next) (oka:okCell av'=true) {l:List (Nat × AV)} {h:Heap} (h0:TuAt X av' p r 0 hb l h) :
   ∃h' l',evω env (.loop lp21_0) (fset 40 l) h=.ok (.exit 0) (fset 40 l') h'∧AM.look l' 1=.ptr p 0 0∧AM.look l' 2=.ptr r 0 0∧AM.Mod [p] hb h'∧((mirror X.s=[]∧h'.get p=some (.row [(AV.agg [.int .i64 X.op,.int .i64 X.ty,.int .i64 X.dst,.int .i64 X.a,.int .i64 X.b,.int .i64 X.n,.str X.s,av'])] 8))∨(¬ mirror X.s=[]∧h'.get p=some (.row [(AV.agg [.int .i64 X.op,.int .i64 X.ty,.int .i64 X.dst,.int .i64 X.b,.int .i64 X.a,.int .i64 X.n,.str (mirror X.s),av'])] 8))):=by
 refine loop_ind (E:=env) (nt:=40) (body:=lp21_0) 11 (fun k l h=>TuAt X av' p r k hb l h)
   (fun r'=>∃h' l',r'=.ok (.exit 0) (fset 40 l') h'∧AM.look l' 1=.ptr p 0 0∧AM.look l' 2=.ptr r 0 0∧AM.Mod [p] hb h'∧((mirror X.s=[]∧h'.get p=some (.row [(AV.agg [.int .i64 X.op,.int .i64 X.ty,.int .i64 X.dst,.int .i64 X.a,.int .i64 X.b,.int .i64 X.n,.str X.s,av'])] 8))∨(¬ mirror X.s=[]∧h'.get p=some (.row [(AV.agg [.int .i64 X.op,.int .i64 X.ty,.int .i64 X.dst,.int .i64 X.b,.int .i64 X.a,.int .i64 X.n,.str (mirror X.s),av'])] 8)))) ?_ ?_ 11 0 l h (by omega) h0
 · rintro k l h hk ⟨l1,l2,l20,l21,cell,g,no⟩
   obtain⟨⟨a,b⟩,hab⟩:∃ab,tab[k]?=some ab:=⟨_,List.getElem?_eq_getElem (show k < tab.length from hk)⟩
   obtain⟨hm,hb',hix⟩:=tabGet hab
   have hc:((k:Int) < 11):=by omega
   have w1:IntKind.wrap .i64 ((k:Int)+1)=((k+1:Nat):Int):=AM.wrap_small (n:=k+1) (by omega)
   have hpl:p < h.next:=Nat.lt_of_lt_of_le hp g.nx
   have c1:(h.push (.row [AV.agg [.str [],.str []]] 2)).get h.next=some (.row [AV.agg [.str [],.str []]] 2):=Heap.get_push_eq h _
   have s1:storeA ty63 (.ptr h.next 0 0) (AV.agg [.str a,.str b]) (h.push (.row [AV.agg [.str [],.str []]] 2))=some ((h.push (.row [AV.agg [.str [],.str []]] 2)).set h.next (.row [AV.agg [.str a,.str b]] 2)):=by
     rw[store_old c1 rfl (by decide) (by decide) rfl]; rfl
   have c2:((h.push (.row [AV.agg [.str [],.str []]] 2)).set h.next (.row [AV.agg [.str a,.str b]] 2)).get h.next=some (.row [AV.agg [.str a,.str b]] 2):=Heap.get_set_eq _ _ c1
   have cp2:((h.push (.row [AV.agg [.str [],.str []]] 2)).set h.next (.row [AV.agg [.str a,.str b]] 2)).get p=some (.row [(AV.agg [.int .i64 X.op,.int .i64 X.ty,.int .i64 X.dst,.int .i64 X.a,.int .i64 X.b,.int .i64 X.n,.str X.s,av'])] 8):=(Heap.get_set_ne _ _ (by omega)).trans ((Heap.get_push_ne _ _ (by omega)).trans cell)
   have L2:∀o,loadA ty9 (.ptr h.next 0 o) ((h.push (.row [AV.agg [.str [],.str []]] 2)).set h.next (.row [AV.agg [.str a,.str b]] 2))=[AV.str a,.str b][o]?:=fun o=>(load_set c1 _).trans (po9 _ _)
   have P2:∀t o,loadA t (.ptr p 0 o) ((h.push (.row [AV.agg [.str [],.str []]] 2)).set h.next (.row [AV.agg [.str a,.str b]] 2))=partOf t [.int .i64 X.op,.int .i64 X.ty,.int .i64 X.dst,.int .i64 X.a,.int .i64 X.b,.int .i64 X.n,.str X.s,av'] o:=fun t o=>load_old cp2 t o
   have g2:Grow hb ((h.push (.row [AV.agg [.str [],.str []]] 2)).set h.next (.row [AV.agg [.str a,.str b]] 2)):=(g.trans (Grow.push h _)).set _ g.nx
   by_cases he:a=X.s
   · right
     have ok1:okCells (AV.agg [.int .i64 X.op,.int .i64 X.ty,.int .i64 X.dst,.int .i64 X.a,.int .i64 X.b,.int .i64 X.n,.str X.s,av']).cells=true:=by
       show okCells [_,_,_,_,_,_,_,av']=true
       simp only[okCells_cons,okCells_nil,ok_int,ok_str,oka,Bool.and_self]
     have lt2:p < (((h.push (.row [AV.agg [.str [],.str []]] 2)).set h.next (.row [AV.agg [.str a,.str b]] 2))).next:=by show p < h.next+1; omega
     have key1:∃l4,AM.look l4 1=.ptr p 0 0∧AM.look l4 2=.ptr r 0 0∧AM.look l4 4=.ptr h.next 0 0∧AM.look l4 30=.int .i64 X.b∧AM.look l4 32=.int .i64 X.a∧AM.look l4 35=.ptr p 0 3 ∧
         evω env (.loop lp21_0) (fset 40 l) h=seqA (evω env (.loop lp21_0)) (seqA (evω env kt21_0) (blockA 1 (seqA (evω env (.exit 0)) (evOpsD env (callω env) (⟨none,.store 3 (.tmp 35) (.tmp 30),none,true,[true,true,false,false,true,true],false⟩::qt21_1) (fset 40 l4) ((h.push (.row [AV.agg [.str [],.str []]] 2)).set h.next (.row [AV.agg [.str a,.str b]] 2)) [])))):=by
       refine⟨?_,?_,?_,?_,?_,?_,?_,?_⟩
       rotate_left 7
       · conv=>lhs; rw[w_loop]; unfold lp21_0
         simp -implicitDefEqProofs (maxSteps:=1000000) only[l1,l2,l20,l21,eq_true hc,p_index,indexR_nat,hix,s1,L2,P2,p_ia0,ia0,eq_true he,liftH_some,Nat.zero_add,XS,XT,XF,AV.cells,Nat.reduceAdd,Nat.reduceLT,Nat.reduceEqDiff,↓reduceIte,Nat.reduceLeDiff]
         rfl
       · simp[AM.look,l1]
       · simp[AM.look,l2]
       all_goals simp[AM.look]
     obtain⟨l4,k1,k2,k4,k30,k32,k35,hgo1⟩:=key1
     have q1:evOp env (callω env) (.store 3 (.tmp 35) (.tmp 30)) (fset 40 l4) { ((h.push (.row [AV.agg [.str [],.str []]] 2)).set h.next (.row [AV.agg [.str a,.str b]] 2)) with tch:=[] }=.ok .und (({ ((h.push (.row [AV.agg [.str [],.str []]] 2)).set h.next (.row [AV.agg [.str a,.str b]] 2)) with tch:=[] }:Heap).set p (.row [(AV.agg [.int .i64 X.op,.int .i64 X.ty,.int .i64 X.dst,.int .i64 X.b,.int .i64 X.b,.int .i64 X.n,.str X.s,av'])] 8)):=by
       have:storeA ty3 (.ptr p 0 3) (.int .i64 X.b) { ((h.push (.row [AV.agg [.str [],.str []]] 2)).set h.next (.row [AV.agg [.str a,.str b]] 2)) with tch:=[] }=some (({ ((h.push (.row [AV.agg [.str [],.str []]] 2)).set h.next (.row [AV.agg [.str a,.str b]] 2)) with tch:=[] }:Heap).set p (.row [(AV.agg [.int .i64 X.op,.int .i64 X.ty,.int .i64 X.dst,.int .i64 X.b,.int .i64 X.b,.int .i64 X.n,.str X.s,av'])] 8)):=by
         rw[store_old (show ({ ((h.push (.row [AV.agg [.str [],.str []]] 2)).set h.next (.row [AV.agg [.str a,.str b]] 2)) with tch:=[] }:Heap).get p=some (.row [(AV.agg [.int .i64 X.op,.int .i64 X.ty,.int .i64 X.dst,.int .i64 X.a,.int .i64 X.b,.int .i64 X.n,.str X.s,av'])] 8) from cp2) rfl (by decide) (by decide) rfl]; rfl
       simp -implicitDefEqProofs (maxSteps:=1000000) only[k35,k30,this,liftH_some,XS,XT,XF,AV.cells,Nat.reduceAdd,Nat.reduceLT,Nat.reduceEqDiff,↓reduceIte,Nat.reduceLeDiff]
     have cp3:(((h.push (.row [AV.agg [.str [],.str []]] 2)).set h.next (.row [AV.agg [.str a,.str b]] 2)).set p (.row [(AV.agg [.int .i64 X.op,.int .i64 X.ty,.int .i64 X.dst,.int .i64 X.b,.int .i64 X.b,.int .i64 X.n,.str X.s,av'])] 8)).get p=some (.row [(AV.agg [.int .i64 X.op,.int .i64 X.ty,.int .i64 X.dst,.int .i64 X.b,.int .i64 X.b,.int .i64 X.n,.str X.s,av'])] 8):=Heap.get_set_eq _ _ cp2
     have key2:∃l5,AM.look l5 1=.ptr p 0 0∧AM.look l5 2=.ptr r 0 0∧AM.look l5 4=.ptr h.next 0 0∧AM.look l5 32=.int .i64 X.a∧AM.look l5 36=.ptr p 0 4 ∧
         evOpsD env (callω env) qt21_1 (setDst none .und (fset 40 l4)) (((h.push (.row [AV.agg [.str [],.str []]] 2)).set h.next (.row [AV.agg [.str a,.str b]] 2)).set p (.row [(AV.agg [.int .i64 X.op,.int .i64 X.ty,.int .i64 X.dst,.int .i64 X.b,.int .i64 X.b,.int .i64 X.n,.str X.s,av'])] 8)) [p]=evOpsD env (callω env) (⟨none,.store 3 (.tmp 36) (.tmp 32),none,true,[false,false,true,true],false⟩::qt21_0) (fset 40 l5) (((h.push (.row [AV.agg [.str [],.str []]] 2)).set h.next (.row [AV.agg [.str a,.str b]] 2)).set p (.row [(AV.agg [.int .i64 X.op,.int .i64 X.ty,.int .i64 X.dst,.int .i64 X.b,.int .i64 X.b,.int .i64 X.n,.str X.s,av'])] 8)) [p]:=by
       refine⟨?_,?_,?_,?_,?_,?_,?_⟩
       rotate_left 6
       · conv=>lhs; unfold qt21_1
         simp -implicitDefEqProofs (maxSteps:=1000000) only[k1,k2,Nat.zero_add,XS,XT,XF,AV.cells,Nat.reduceAdd,Nat.reduceLT,Nat.reduceEqDiff,↓reduceIte,Nat.reduceLeDiff]
         rfl
       · simp[AM.look,k1]
       · simp[AM.look,k2]
       · simp[AM.look,k4]
       · simp[AM.look,k32]
       · simp[AM.look]
     obtain⟨l5,m1,m2,m4,m32,m36,hgo2⟩:=key2
     have q2:evOp env (callω env) (.store 3 (.tmp 36) (.tmp 32)) (fset 40 l5) { (((h.push (.row [AV.agg [.str [],.str []]] 2)).set h.next (.row [AV.agg [.str a,.str b]] 2)).set p (.row [(AV.agg [.int .i64 X.op,.int .i64 X.ty,.int .i64 X.dst,.int .i64 X.b,.int .i64 X.b,.int .i64 X.n,.str X.s,av'])] 8)) with tch:=[] }=.ok .und (({ (((h.push (.row [AV.agg [.str [],.str []]] 2)).set h.next (.row [AV.agg [.str a,.str b]] 2)).set p (.row [(AV.agg [.int .i64 X.op,.int .i64 X.ty,.int .i64 X.dst,.int .i64 X.b,.int .i64 X.b,.int .i64 X.n,.str X.s,av'])] 8)) with tch:=[] }:Heap).set p (.row [(AV.agg [.int .i64 X.op,.int .i64 X.ty,.int .i64 X.dst,.int .i64 X.b,.int .i64 X.a,.int .i64 X.n,.str X.s,av'])] 8)):=by
       have:storeA ty3 (.ptr p 0 4) (.int .i64 X.a) { (((h.push (.row [AV.agg [.str [],.str []]] 2)).set h.next (.row [AV.agg [.str a,.str b]] 2)).set p (.row [(AV.agg [.int .i64 X.op,.int .i64 X.ty,.int .i64 X.dst,.int .i64 X.b,.int .i64 X.b,.int .i64 X.n,.str X.s,av'])] 8)) with tch:=[] }=some (({ (((h.push (.row [AV.agg [.str [],.str []]] 2)).set h.next (.row [AV.agg [.str a,.str b]] 2)).set p (.row [(AV.agg [.int .i64 X.op,.int .i64 X.ty,.int .i64 X.dst,.int .i64 X.b,.int .i64 X.b,.int .i64 X.n,.str X.s,av'])] 8)) with tch:=[] }:Heap).set p (.row [(AV.agg [.int .i64 X.op,.int .i64 X.ty,.int .i64 X.dst,.int .i64 X.b,.int .i64 X.a,.int .i64 X.n,.str X.s,av'])] 8)):=by
         rw[store_old (show ({ (((h.push (.row [AV.agg [.str [],.str []]] 2)).set h.next (.row [AV.agg [.str a,.str b]] 2)).set p (.row [(AV.agg [.int .i64 X.op,.int .i64 X.ty,.int .i64 X.dst,.int .i64 X.b,.int .i64 X.b,.int .i64 X.n,.str X.s,av'])] 8)) with tch:=[] }:Heap).get p=some (.row [(AV.agg [.int .i64 X.op,.int .i64 X.ty,.int .i64 X.dst,.int .i64 X.b,.int .i64 X.b,.int .i64 X.n,.str X.s,av'])] 8) from cp3) rfl (by decide) (by decide) rfl]; rfl
       simp -implicitDefEqProofs (maxSteps:=1000000) only[m36,m32,this,liftH_some,XS,XT,XF,AV.cells,Nat.reduceAdd,Nat.reduceLT,Nat.reduceEqDiff,↓reduceIte,Nat.reduceLeDiff]
     have cp4:((((h.push (.row [AV.agg [.str [],.str []]] 2)).set h.next (.row [AV.agg [.str a,.str b]] 2)).set p (.row [(AV.agg [.int .i64 X.op,.int .i64 X.ty,.int .i64 X.dst,.int .i64 X.b,.int .i64 X.b,.int .i64 X.n,.str X.s,av'])] 8)).set p (.row [(AV.agg [.int .i64 X.op,.int .i64 X.ty,.int .i64 X.dst,.int .i64 X.b,.int .i64 X.a,.int .i64 X.n,.str X.s,av'])] 8)).get p=some (.row [(AV.agg [.int .i64 X.op,.int .i64 X.ty,.int .i64 X.dst,.int .i64 X.b,.int .i64 X.a,.int .i64 X.n,.str X.s,av'])] 8):=Heap.get_set_eq _ _ cp3
     have c4:((((h.push (.row [AV.agg [.str [],.str []]] 2)).set h.next (.row [AV.agg [.str a,.str b]] 2)).set p (.row [(AV.agg [.int .i64 X.op,.int .i64 X.ty,.int .i64 X.dst,.int .i64 X.b,.int .i64 X.b,.int .i64 X.n,.str X.s,av'])] 8)).set p (.row [(AV.agg [.int .i64 X.op,.int .i64 X.ty,.int .i64 X.dst,.int .i64 X.b,.int .i64 X.a,.int .i64 X.n,.str X.s,av'])] 8)).get h.next=some (.row [AV.agg [.str a,.str b]] 2):=(Heap.get_set_ne _ _ (by omega)).trans ((Heap.get_set_ne _ _ (by omega)).trans c2)
     have ld4:loadA ty9 (.ptr h.next 0 1) ((((h.push (.row [AV.agg [.str [],.str []]] 2)).set h.next (.row [AV.agg [.str a,.str b]] 2)).set p (.row [(AV.agg [.int .i64 X.op,.int .i64 X.ty,.int .i64 X.dst,.int .i64 X.b,.int .i64 X.b,.int .i64 X.n,.str X.s,av'])] 8)).set p (.row [(AV.agg [.int .i64 X.op,.int .i64 X.ty,.int .i64 X.dst,.int .i64 X.b,.int .i64 X.a,.int .i64 X.n,.str X.s,av'])] 8))=some (.str (mirror X.s)):=by rw[load_old c4,← he,hm]; rfl
     have s5:storeA ty9 (.ptr p 0 6) (.str (mirror X.s)) ((((h.push (.row [AV.agg [.str [],.str []]] 2)).set h.next (.row [AV.agg [.str a,.str b]] 2)).set p (.row [(AV.agg [.int .i64 X.op,.int .i64 X.ty,.int .i64 X.dst,.int .i64 X.b,.int .i64 X.b,.int .i64 X.n,.str X.s,av'])] 8)).set p (.row [(AV.agg [.int .i64 X.op,.int .i64 X.ty,.int .i64 X.dst,.int .i64 X.b,.int .i64 X.a,.int .i64 X.n,.str X.s,av'])] 8))=some (((((h.push (.row [AV.agg [.str [],.str []]] 2)).set h.next (.row [AV.agg [.str a,.str b]] 2)).set p (.row [(AV.agg [.int .i64 X.op,.int .i64 X.ty,.int .i64 X.dst,.int .i64 X.b,.int .i64 X.b,.int .i64 X.n,.str X.s,av'])] 8)).set p (.row [(AV.agg [.int .i64 X.op,.int .i64 X.ty,.int .i64 X.dst,.int .i64 X.b,.int .i64 X.a,.int .i64 X.n,.str X.s,av'])] 8)).set p (.row [(AV.agg [.int .i64 X.op,.int .i64 X.ty,.int .i64 X.dst,.int .i64 X.b,.int .i64 X.a,.int .i64 X.n,.str (mirror X.s),av'])] 8)):=by
       rw[store_old cp4 rfl (by decide) (by decide) rfl]; rfl
     have ro:readOk (some h.next) [p,p]=true:=by
       have:Nat.beq p h.next=false:=by
         cases hbq:Nat.beq p h.next with
         | false=>rfl
         | true=>have:=Nat.eq_of_beq_eq_true hbq; omega
       simp[readOk,inN,this]
     have hro:∀{t:Nat} {x:Operand} {fr:Tr},readO env (.load t x) fr=readV (opv env x fr):=rfl
     have hrv:readV (.ptr h.next 0 1)=some h.next:=rfl
     have key3:∃l6,AM.look l6 1=.ptr p 0 0∧AM.look l6 2=.ptr r 0 0∧evOpsD env (callω env) qt21_0 (setDst none .und (fset 40 l5)) ((((h.push (.row [AV.agg [.str [],.str []]] 2)).set h.next (.row [AV.agg [.str a,.str b]] 2)).set p (.row [(AV.agg [.int .i64 X.op,.int .i64 X.ty,.int .i64 X.dst,.int .i64 X.b,.int .i64 X.b,.int .i64 X.n,.str X.s,av'])] 8)).set p (.row [(AV.agg [.int .i64 X.op,.int .i64 X.ty,.int .i64 X.dst,.int .i64 X.b,.int .i64 X.a,.int .i64 X.n,.str X.s,av'])] 8)) [p,p]=.ok .normal (fset 40 l6) (((((h.push (.row [AV.agg [.str [],.str []]] 2)).set h.next (.row [AV.agg [.str a,.str b]] 2)).set p (.row [(AV.agg [.int .i64 X.op,.int .i64 X.ty,.int .i64 X.dst,.int .i64 X.b,.int .i64 X.b,.int .i64 X.n,.str X.s,av'])] 8)).set p (.row [(AV.agg [.int .i64 X.op,.int .i64 X.ty,.int .i64 X.dst,.int .i64 X.b,.int .i64 X.a,.int .i64 X.n,.str X.s,av'])] 8)).set p (.row [(AV.agg [.int .i64 X.op,.int .i64 X.ty,.int .i64 X.dst,.int .i64 X.b,.int .i64 X.a,.int .i64 X.n,.str (mirror X.s),av'])] 8)):=by
       refine⟨?_,?_,?_,?_⟩
       rotate_left 3
       · conv=>lhs; unfold qt21_0
         simp -implicitDefEqProofs (maxSteps:=1000000) only[m1,m2,m4,p_ia1,ia1,d_careD,hro,hrv,ro,ld4,s5,liftH_some,Nat.zero_add,XS,XT,XF,AV.cells,Nat.reduceAdd,Nat.reduceLT,Nat.reduceEqDiff,↓reduceIte,Nat.reduceLeDiff]
         rfl
       · simp[AM.look,m1]
       · simp[AM.look,m2]
     obtain⟨l6,n1,n2,hgo3⟩:=key3
     have lt3:p < ((((h.push (.row [AV.agg [.str [],.str []]] 2)).set h.next (.row [AV.agg [.str a,.str b]] 2)).set p (.row [(AV.agg [.int .i64 X.op,.int .i64 X.ty,.int .i64 X.dst,.int .i64 X.b,.int .i64 X.b,.int .i64 X.n,.str X.s,av'])] 8))).next:=lt2
     refine⟨(((((h.push (.row [AV.agg [.str [],.str []]] 2)).set h.next (.row [AV.agg [.str a,.str b]] 2)).set p (.row [(AV.agg [.int .i64 X.op,.int .i64 X.ty,.int .i64 X.dst,.int .i64 X.b,.int .i64 X.b,.int .i64 X.n,.str X.s,av'])] 8)).set p (.row [(AV.agg [.int .i64 X.op,.int .i64 X.ty,.int .i64 X.dst,.int .i64 X.b,.int .i64 X.a,.int .i64 X.n,.str X.s,av'])] 8)).set p (.row [(AV.agg [.int .i64 X.op,.int .i64 X.ty,.int .i64 X.dst,.int .i64 X.b,.int .i64 X.a,.int .i64 X.n,.str (mirror X.s),av'])] 8)),l6,?_,n1,n2,((((g2.mod [p]).set _ (.inl (List.mem_cons_self ..))).set _ (.inl (List.mem_cons_self ..))).set _ (.inl (List.mem_cons_self ..))),.inr ⟨by rw[← he,hm]; exact hb',Heap.get_set_eq _ _ cp4⟩⟩
     rw[hgo1,d_quietSet lt2 q1,hgo2,d_quietSet lt3 q2,hgo3]
     simp -implicitDefEqProofs (maxSteps:=1000000) only[XS,XT,XF,AV.cells,Nat.reduceAdd,Nat.reduceLT,Nat.reduceEqDiff,↓reduceIte,Nat.reduceLeDiff]
   · left
     have key:∃l',AM.look l' 1=.ptr p 0 0∧AM.look l' 2=.ptr r 0 0∧AM.look l' 20=glob∧AM.look l' 21=.int .i64 ((k+1:Nat):Int)∧evω env (.loop lp21_0) (fset 40 l) h=evω env (.loop lp21_0) (fset 40 l') ((h.push (.row [AV.agg [.str [],.str []]] 2)).set h.next (.row [AV.agg [.str a,.str b]] 2)):=by
       refine⟨?_,?_,?_,?_,?_,?_⟩
       rotate_left 5
       · conv=>lhs; rw[w_loop]; unfold lp21_0 kt21_0
         simp -implicitDefEqProofs (maxSteps:=1000000) only[l1,l2,l20,l21,eq_true hc,p_index,indexR_nat,hix,s1,L2,P2,p_ia0,ia0,eq_false he,w1,liftH_some,Nat.zero_add,XS,XT,XF,AV.cells,Nat.reduceAdd,Nat.reduceLT,Nat.reduceEqDiff,↓reduceIte,Nat.reduceLeDiff]
         rfl
       · simp[AM.look,l1]
       · simp[AM.look,l2]
       · simp[AM.look,l20]
       · simp[AM.look]
     obtain⟨l',k1,k2,k20,k21,hgo⟩:=key
     refine⟨l',((h.push (.row [AV.agg [.str [],.str []]] 2)).set h.next (.row [AV.agg [.str a,.str b]] 2)),⟨k1,k2,k20,k21,cp2,g2,fun j a' b' hj ht=>?_⟩,hgo⟩
     by_cases hjk:j=k
     · subst hjk
       rw[hab] at ht
       cases ht
       exact he
     · exact no j a' b' (by omega) ht
 · rintro l h ⟨l1,l2,l20,l21,cell,g,no⟩
   have hc:¬ (((11:Nat):Int) < 11):=by omega
   have key:∃l',AM.look l' 1=.ptr p 0 0∧AM.look l' 2=.ptr r 0 0∧evω env (.loop lp21_0) (fset 40 l) h=.ok (.exit 0) (fset 40 l') h:=by
     refine⟨?_,?_,?_,?_⟩
     rotate_left 3
     · conv=>lhs; rw[w_loop]; unfold lp21_0
       simp -implicitDefEqProofs (maxSteps:=1000000) only[l1,l2,l20,l21,eq_false hc,XS,XT,XF,AV.cells,Nat.reduceAdd,Nat.reduceLT,Nat.reduceEqDiff,↓reduceIte,Nat.reduceLeDiff]
       rfl
     · simp[AM.look,l1]
     · simp[AM.look,l2]
   obtain⟨l',k1,k2,hgo⟩:=key
   refine⟨h,l',hgo,k1,k2,g.mod _,.inl ⟨tabNone fun j a b ht=>no j a b ?_ ht,cell⟩⟩
   exact (List.getElem?_eq_some_iff.1 ht).1
end Go.Proofs.AmEnv
namespace Go.Proofs.AmEnv
open Go Go.AM
set_option maxHeartbeats 8000000 in
theorem Turned_ok:MapsOk env InstrR InstrO canonI 21:=by
 rintro h x X ⟨av,rfl,hav⟩
 have o1:=hav.ok
 have g2:Grow h ((h.push (.row [(AV.agg [.int .i64 X.op,.int .i64 X.ty,.int .i64 X.dst,.int .i64 X.a,.int .i64 X.b,.int .i64 X.n,.str X.s,av])] 8)).push (.row [(AV.agg [.int .i64 0,.int .i64 0,.int .i64 0,.int .i64 0,.int .i64 0,.int .i64 0,.str [],.nilsl])] 8)):=(Grow.push h _).trans (Grow.push _ _)
 obtain⟨av',h3,F,ec,ho,g3,hn⟩:=Clone_ok (IntsR.stays g2.kp hav)
 have n1:(h.push (.row [(AV.agg [.int .i64 X.op,.int .i64 X.ty,.int .i64 X.dst,.int .i64 X.a,.int .i64 X.b,.int .i64 X.n,.str X.s,av])] 8)).next=h.next+1:=rfl
 have n2:((h.push (.row [(AV.agg [.int .i64 X.op,.int .i64 X.ty,.int .i64 X.dst,.int .i64 X.a,.int .i64 X.b,.int .i64 X.n,.str X.s,av])] 8)).push (.row [(AV.agg [.int .i64 0,.int .i64 0,.int .i64 0,.int .i64 0,.int .i64 0,.int .i64 0,.str [],.nilsl])] 8)).next=h.next+1+1:=rfl
 have e3:((h.push (.row [(AV.agg [.int .i64 X.op,.int .i64 X.ty,.int .i64 X.dst,.int .i64 X.a,.int .i64 X.b,.int .i64 X.n,.str X.s,av])] 8)).push (.row [(AV.agg [.int .i64 0,.int .i64 0,.int .i64 0,.int .i64 0,.int .i64 0,.int .i64 0,.str [],.nilsl])] 8)).next≤h3.next:=g3.nx
 have k1:h3.get h.next=some (.row [(AV.agg [.int .i64 X.op,.int .i64 X.ty,.int .i64 X.dst,.int .i64 X.a,.int .i64 X.b,.int .i64 X.n,.str X.s,av])] 8):=(g3.get _ (by omega)).trans ((Heap.get_push_ne _ _ (by omega)).trans (Heap.get_push_eq h _))
 have k2:h3.get (h.push (.row [(AV.agg [.int .i64 X.op,.int .i64 X.ty,.int .i64 X.dst,.int .i64 X.a,.int .i64 X.b,.int .i64 X.n,.str X.s,av])] 8)).next=some (.row [(AV.agg [.int .i64 0,.int .i64 0,.int .i64 0,.int .i64 0,.int .i64 0,.int .i64 0,.str [],.nilsl])] 8):=(g3.get _ (by omega)).trans (Heap.get_push_eq _ _)
 have s1:storeA ty28 (.ptr h.next 0 7) av' h3=some (h3.set h.next (.row [(AV.agg [.int .i64 X.op,.int .i64 X.ty,.int .i64 X.dst,.int .i64 X.a,.int .i64 X.b,.int .i64 X.n,.str X.s,av'])] 8)):=by
   rw[store_old k1 (by rw[ho.cells]; rfl) (by decide) (by decide) (by rw[ho.cells,okCells_cons,ho.ok]; rfl),ho.cells]; rfl
 have c4:(h3.set h.next (.row [(AV.agg [.int .i64 X.op,.int .i64 X.ty,.int .i64 X.dst,.int .i64 X.a,.int .i64 X.b,.int .i64 X.n,.str X.s,av'])] 8)).get h.next=some (.row [(AV.agg [.int .i64 X.op,.int .i64 X.ty,.int .i64 X.dst,.int .i64 X.a,.int .i64 X.b,.int .i64 X.n,.str X.s,av'])] 8):=Heap.get_set_eq _ _ k1
 have r4:(h3.set h.next (.row [(AV.agg [.int .i64 X.op,.int .i64 X.ty,.int .i64 X.dst,.int .i64 X.a,.int .i64 X.b,.int .i64 X.n,.str X.s,av'])] 8)).get (h.push (.row [(AV.agg [.int .i64 X.op,.int .i64 X.ty,.int .i64 X.dst,.int .i64 X.a,.int .i64 X.b,.int .i64 X.n,.str X.s,av])] 8)).next=some (.row [(AV.agg [.int .i64 0,.int .i64 0,.int .i64 0,.int .i64 0,.int .i64 0,.int .i64 0,.str [],.nilsl])] 8):=(Heap.get_set_ne _ _ (by omega)).trans k2
 have P4:∀t o,loadA t (.ptr h.next 0 o) (h3.set h.next (.row [(AV.agg [.int .i64 X.op,.int .i64 X.ty,.int .i64 X.dst,.int .i64 X.a,.int .i64 X.b,.int .i64 X.n,.str X.s,av'])] 8))=partOf t [.int .i64 X.op,.int .i64 X.ty,.int .i64 X.dst,.int .i64 X.a,.int .i64 X.b,.int .i64 X.n,.str X.s,av'] o:=fun t o=>load_old c4 t o
 have W4:loadA ty42 (.ptr h.next 0 0) (h3.set h.next (.row [(AV.agg [.int .i64 X.op,.int .i64 X.ty,.int .i64 X.dst,.int .i64 X.a,.int .i64 X.b,.int .i64 X.n,.str X.s,av'])] 8))=some (AV.agg [.int .i64 X.op,.int .i64 X.ty,.int .i64 X.dst,.int .i64 X.a,.int .i64 X.b,.int .i64 X.n,.str X.s,av']):=by rw[P4]; rfl
 have g4:Grow h (h3.set h.next (.row [(AV.agg [.int .i64 X.op,.int .i64 X.ty,.int .i64 X.dst,.int .i64 X.a,.int .i64 X.b,.int .i64 X.n,.str X.s,av'])] 8)):=(g2.trans g3).set _ (Nat.le_refl _)
 have okx:okCells (AV.agg [.int .i64 X.op,.int .i64 X.ty,.int .i64 X.dst,.int .i64 X.a,.int .i64 X.b,.int .i64 X.n,.str X.s,av']).cells=true:=by
   show okCells [_,_,_,_,_,_,_,av']=true
   simp only[okCells_cons,okCells_nil,ok_int,ok_str,ho.ok,Bool.and_self]
 have okx2:okCells (AV.agg [.int .i64 X.op,.int .i64 X.ty,.int .i64 X.dst,.int .i64 X.b,.int .i64 X.a,.int .i64 X.n,.str (mirror X.s),av']).cells=true:=by
   show okCells [_,_,_,_,_,_,_,av']=true
   simp only[okCells_cons,okCells_nil,ok_int,ok_str,ho.ok,Bool.and_self]
 have hFn:∀i∈F,((h.push (.row [(AV.agg [.int .i64 X.op,.int .i64 X.ty,.int .i64 X.dst,.int .i64 X.a,.int .i64 X.b,.int .i64 X.n,.str X.s,av])] 8)).push (.row [(AV.agg [.int .i64 0,.int .i64 0,.int .i64 0,.int .i64 0,.int .i64 0,.int .i64 0,.str [],.nilsl])] 8)).next≤i∧i < h3.next:=fun i hi=>hn i hi
 by_cases hq:X.op=3∧X.b < X.a
 · obtain⟨q1,q3⟩:=hq
   have q3':¬ X.a≤X.b:=by omega
   have key:∃l4,AM.look l4 1=.ptr h.next 0 0∧AM.look l4 2=.ptr (h.push (.row [(AV.agg [.int .i64 X.op,.int .i64 X.ty,.int .i64 X.dst,.int .i64 X.a,.int .i64 X.b,.int .i64 X.n,.str X.s,av])] 8)).next 0 0∧AM.look l4 20=glob∧AM.look l4 21=.int .i64 ((0:Nat):Int)∧callω env 21 [(AV.agg [.int .i64 X.op,.int .i64 X.ty,.int .i64 X.dst,.int .i64 X.a,.int .i64 X.b,.int .i64 X.n,.str X.s,av])] h=afterBody env [.cell 2 42] (seqA (evω env kt21_1) (blockA 0 (evω env (.loop lp21_0) (fset 40 l4) (h3.set h.next (.row [(AV.agg [.int .i64 X.op,.int .i64 X.ty,.int .i64 X.dst,.int .i64 X.a,.int .i64 X.b,.int .i64 X.n,.str X.s,av'])] 8))))):=by
     refine⟨?_,?_,?_,?_,?_,?_⟩
     rotate_left 5
     · rw[pl21.call h (by simp)]; unfold c21
       simp -implicitDefEqProofs (maxSteps:=1000000) only[o1,ec,s1,P4,eq_true q1,eq_false q3',v_gl,ldGl,liftH_some,Nat.zero_add,XS,XT,XF,AV.cells,Nat.reduceAdd,Nat.reduceLT,Nat.reduceEqDiff,↓reduceIte,Nat.reduceLeDiff]
       rfl
     all_goals simp[AM.look]
   obtain⟨l4,l1,l2,l20,l21,hgo⟩:=key
   have hp:h.next < (h3.set h.next (.row [(AV.agg [.int .i64 X.op,.int .i64 X.ty,.int .i64 X.dst,.int .i64 X.a,.int .i64 X.b,.int .i64 X.n,.str X.s,av'])] 8)).next:=by show h.next < h3.next; omega
   have hr:(h.push (.row [(AV.agg [.int .i64 X.op,.int .i64 X.ty,.int .i64 X.dst,.int .i64 X.a,.int .i64 X.b,.int .i64 X.n,.str X.s,av])] 8)).next < (h3.set h.next (.row [(AV.agg [.int .i64 X.op,.int .i64 X.ty,.int .i64 X.dst,.int .i64 X.a,.int .i64 X.b,.int .i64 X.n,.str X.s,av'])] 8)).next:=by show h.next+1 < h3.next; omega
   obtain⟨h5,l5,hin,m1,m2,hm,hcase⟩:=tuLoop (X:=X) (av':=av') (p:=h.next) (r:=(h.push (.row [(AV.agg [.int .i64 X.op,.int .i64 X.ty,.int .i64 X.dst,.int .i64 X.a,.int .i64 X.b,.int .i64 X.n,.str X.s,av])] 8)).next) (hb:=(h3.set h.next (.row [(AV.agg [.int .i64 X.op,.int .i64 X.ty,.int .i64 X.dst,.int .i64 X.a,.int .i64 X.b,.int .i64 X.n,.str X.s,av'])] 8))) hp ho.ok ⟨l1,l2,l20,l21,c4,.refl _,fun j a b hj=>by omega⟩
   have r5:h5.get (h.push (.row [(AV.agg [.int .i64 X.op,.int .i64 X.ty,.int .i64 X.dst,.int .i64 X.a,.int .i64 X.b,.int .i64 X.n,.str X.s,av])] 8)).next=some (.row [(AV.agg [.int .i64 0,.int .i64 0,.int .i64 0,.int .i64 0,.int .i64 0,.int .i64 0,.str [],.nilsl])] 8):=(hm.get _ hr (fun hi=>by have:=List.mem_singleton.1 hi; omega)).trans r4
   have e5:(h3.set h.next (.row [(AV.agg [.int .i64 X.op,.int .i64 X.ty,.int .i64 X.dst,.int .i64 X.a,.int .i64 X.b,.int .i64 X.n,.str X.s,av'])] 8)).next≤h5.next:=hm.nx
   have g5 : Grow h h5 := ((g4.mod []).trans hm fun i hi => .inr (by have:i=h.next:=by simpa using hi
                                                                     omega)).grow
   rcases hcase with ⟨hmi,c5⟩ | ⟨hmi,c5⟩
   · have hcI:canonI X=X:=if_neg fun hh=>hh.2.1 hmi
     rw[hcI]
     have W5:loadA ty42 (.ptr h.next 0 0) h5=some (AV.agg [.int .i64 X.op,.int .i64 X.ty,.int .i64 X.dst,.int .i64 X.a,.int .i64 X.b,.int .i64 X.n,.str X.s,av']):=by rw[load_old c5]; rfl
     have s6:storeA ty42 (.ptr (h.push (.row [(AV.agg [.int .i64 X.op,.int .i64 X.ty,.int .i64 X.dst,.int .i64 X.a,.int .i64 X.b,.int .i64 X.n,.str X.s,av])] 8)).next 0 0) (AV.agg [.int .i64 X.op,.int .i64 X.ty,.int .i64 X.dst,.int .i64 X.a,.int .i64 X.b,.int .i64 X.n,.str X.s,av']) h5=some (h5.set (h.push (.row [(AV.agg [.int .i64 X.op,.int .i64 X.ty,.int .i64 X.dst,.int .i64 X.a,.int .i64 X.b,.int .i64 X.n,.str X.s,av])] 8)).next (.row [(AV.agg [.int .i64 X.op,.int .i64 X.ty,.int .i64 X.dst,.int .i64 X.a,.int .i64 X.b,.int .i64 X.n,.str X.s,av'])] 8)):=by
       rw[store_old r5 rfl (by decide) (by decide) okx]; rfl
     have L6:loadA ty42 (.ptr (h.push (.row [(AV.agg [.int .i64 X.op,.int .i64 X.ty,.int .i64 X.dst,.int .i64 X.a,.int .i64 X.b,.int .i64 X.n,.str X.s,av])] 8)).next 0 0) (h5.set (h.push (.row [(AV.agg [.int .i64 X.op,.int .i64 X.ty,.int .i64 X.dst,.int .i64 X.a,.int .i64 X.b,.int .i64 X.n,.str X.s,av])] 8)).next (.row [(AV.agg [.int .i64 X.op,.int .i64 X.ty,.int .i64 X.dst,.int .i64 X.a,.int .i64 X.b,.int .i64 X.n,.str X.s,av'])] 8))=some (AV.agg [.int .i64 X.op,.int .i64 X.ty,.int .i64 X.dst,.int .i64 X.a,.int .i64 X.b,.int .i64 X.n,.str X.s,av']):=by rw[load_set r5]; rfl
     have on:On F h3 (h5.set (h.push (.row [(AV.agg [.int .i64 X.op,.int .i64 X.ty,.int .i64 X.dst,.int .i64 X.a,.int .i64 X.b,.int .i64 X.n,.str X.s,av])] 8)).next (.row [(AV.agg [.int .i64 X.op,.int .i64 X.ty,.int .i64 X.dst,.int .i64 X.a,.int .i64 X.b,.int .i64 X.n,.str X.s,av'])] 8)):=⟨by show h3.next≤h5.next; exact e5,fun i hi=>by
       have:=hFn i hi
       exact (Heap.get_set_ne _ _ (by omega)).trans ((hm.get i this.2 (fun hi=>by have:=List.mem_singleton.1 hi; omega)).trans (Heap.get_set_ne _ _ (by omega)))⟩
     refine⟨(AV.agg [.int .i64 X.op,.int .i64 X.ty,.int .i64 X.dst,.int .i64 X.a,.int .i64 X.b,.int .i64 X.n,.str X.s,av']),_,F,?_,⟨av',rfl,IntO.good.own on ho⟩,g5.set _ (by omega),fun i hi=>?_⟩
     · rw[hgo,hin]
       unfold kt21_1
       simp -implicitDefEqProofs (maxSteps:=1000000) only[m1,m2,W5,s6,L6,liftH_some,res_cell ti42,XS,XT,XF,AV.cells,Nat.reduceAdd,Nat.reduceLT,Nat.reduceEqDiff,↓reduceIte,Nat.reduceLeDiff]
     · have:=hFn i hi
       exact⟨by omega,Nat.lt_of_lt_of_le this.2 e5⟩
   · have hcI:canonI X=⟨X.op,X.ty,X.dst,X.b,X.a,X.n,mirror X.s,X.args⟩:=if_pos ⟨q1,hmi,q3⟩
     rw[hcI]
     have W5:loadA ty42 (.ptr h.next 0 0) h5=some (AV.agg [.int .i64 X.op,.int .i64 X.ty,.int .i64 X.dst,.int .i64 X.b,.int .i64 X.a,.int .i64 X.n,.str (mirror X.s),av']):=by rw[load_old c5]; rfl
     have s6:storeA ty42 (.ptr (h.push (.row [(AV.agg [.int .i64 X.op,.int .i64 X.ty,.int .i64 X.dst,.int .i64 X.a,.int .i64 X.b,.int .i64 X.n,.str X.s,av])] 8)).next 0 0) (AV.agg [.int .i64 X.op,.int .i64 X.ty,.int .i64 X.dst,.int .i64 X.b,.int .i64 X.a,.int .i64 X.n,.str (mirror X.s),av']) h5=some (h5.set (h.push (.row [(AV.agg [.int .i64 X.op,.int .i64 X.ty,.int .i64 X.dst,.int .i64 X.a,.int .i64 X.b,.int .i64 X.n,.str X.s,av])] 8)).next (.row [(AV.agg [.int .i64 X.op,.int .i64 X.ty,.int .i64 X.dst,.int .i64 X.b,.int .i64 X.a,.int .i64 X.n,.str (mirror X.s),av'])] 8)):=by
       rw[store_old r5 rfl (by decide) (by decide) okx2]; rfl
     have L6:loadA ty42 (.ptr (h.push (.row [(AV.agg [.int .i64 X.op,.int .i64 X.ty,.int .i64 X.dst,.int .i64 X.a,.int .i64 X.b,.int .i64 X.n,.str X.s,av])] 8)).next 0 0) (h5.set (h.push (.row [(AV.agg [.int .i64 X.op,.int .i64 X.ty,.int .i64 X.dst,.int .i64 X.a,.int .i64 X.b,.int .i64 X.n,.str X.s,av])] 8)).next (.row [(AV.agg [.int .i64 X.op,.int .i64 X.ty,.int .i64 X.dst,.int .i64 X.b,.int .i64 X.a,.int .i64 X.n,.str (mirror X.s),av'])] 8))=some (AV.agg [.int .i64 X.op,.int .i64 X.ty,.int .i64 X.dst,.int .i64 X.b,.int .i64 X.a,.int .i64 X.n,.str (mirror X.s),av']):=by rw[load_set r5]; rfl
     have on:On F h3 (h5.set (h.push (.row [(AV.agg [.int .i64 X.op,.int .i64 X.ty,.int .i64 X.dst,.int .i64 X.a,.int .i64 X.b,.int .i64 X.n,.str X.s,av])] 8)).next (.row [(AV.agg [.int .i64 X.op,.int .i64 X.ty,.int .i64 X.dst,.int .i64 X.b,.int .i64 X.a,.int .i64 X.n,.str (mirror X.s),av'])] 8)):=⟨by show h3.next≤h5.next; exact e5,fun i hi=>by
       have:=hFn i hi
       exact (Heap.get_set_ne _ _ (by omega)).trans ((hm.get i this.2 (fun hi=>by have:=List.mem_singleton.1 hi; omega)).trans (Heap.get_set_ne _ _ (by omega)))⟩
     refine⟨(AV.agg [.int .i64 X.op,.int .i64 X.ty,.int .i64 X.dst,.int .i64 X.b,.int .i64 X.a,.int .i64 X.n,.str (mirror X.s),av']),_,F,?_,⟨av',rfl,IntO.good.own on ho⟩,g5.set _ (by omega),fun i hi=>?_⟩
     · rw[hgo,hin]
       unfold kt21_1
       simp -implicitDefEqProofs (maxSteps:=1000000) only[m1,m2,W5,s6,L6,liftH_some,res_cell ti42,XS,XT,XF,AV.cells,Nat.reduceAdd,Nat.reduceLT,Nat.reduceEqDiff,↓reduceIte,Nat.reduceLeDiff]
     · have:=hFn i hi
       exact⟨by omega,Nat.lt_of_lt_of_le this.2 e5⟩
 · have hcI:canonI X=X:=if_neg fun hh=>hq ⟨hh.1,hh.2.2⟩
   rw[hcI]
   have s6:storeA ty42 (.ptr (h.push (.row [(AV.agg [.int .i64 X.op,.int .i64 X.ty,.int .i64 X.dst,.int .i64 X.a,.int .i64 X.b,.int .i64 X.n,.str X.s,av])] 8)).next 0 0) (AV.agg [.int .i64 X.op,.int .i64 X.ty,.int .i64 X.dst,.int .i64 X.a,.int .i64 X.b,.int .i64 X.n,.str X.s,av']) (h3.set h.next (.row [(AV.agg [.int .i64 X.op,.int .i64 X.ty,.int .i64 X.dst,.int .i64 X.a,.int .i64 X.b,.int .i64 X.n,.str X.s,av'])] 8))=some ((h3.set h.next (.row [(AV.agg [.int .i64 X.op,.int .i64 X.ty,.int .i64 X.dst,.int .i64 X.a,.int .i64 X.b,.int .i64 X.n,.str X.s,av'])] 8)).set (h.push (.row [(AV.agg [.int .i64 X.op,.int .i64 X.ty,.int .i64 X.dst,.int .i64 X.a,.int .i64 X.b,.int .i64 X.n,.str X.s,av])] 8)).next (.row [(AV.agg [.int .i64 X.op,.int .i64 X.ty,.int .i64 X.dst,.int .i64 X.a,.int .i64 X.b,.int .i64 X.n,.str X.s,av'])] 8)):=by
     rw[store_old r4 rfl (by decide) (by decide) okx]; rfl
   have L6:loadA ty42 (.ptr (h.push (.row [(AV.agg [.int .i64 X.op,.int .i64 X.ty,.int .i64 X.dst,.int .i64 X.a,.int .i64 X.b,.int .i64 X.n,.str X.s,av])] 8)).next 0 0) ((h3.set h.next (.row [(AV.agg [.int .i64 X.op,.int .i64 X.ty,.int .i64 X.dst,.int .i64 X.a,.int .i64 X.b,.int .i64 X.n,.str X.s,av'])] 8)).set (h.push (.row [(AV.agg [.int .i64 X.op,.int .i64 X.ty,.int .i64 X.dst,.int .i64 X.a,.int .i64 X.b,.int .i64 X.n,.str X.s,av])] 8)).next (.row [(AV.agg [.int .i64 X.op,.int .i64 X.ty,.int .i64 X.dst,.int .i64 X.a,.int .i64 X.b,.int .i64 X.n,.str X.s,av'])] 8))=some (AV.agg [.int .i64 X.op,.int .i64 X.ty,.int .i64 X.dst,.int .i64 X.a,.int .i64 X.b,.int .i64 X.n,.str X.s,av']):=by rw[load_set r4]; rfl
   have on:On F h3 ((h3.set h.next (.row [(AV.agg [.int .i64 X.op,.int .i64 X.ty,.int .i64 X.dst,.int .i64 X.a,.int .i64 X.b,.int .i64 X.n,.str X.s,av'])] 8)).set (h.push (.row [(AV.agg [.int .i64 X.op,.int .i64 X.ty,.int .i64 X.dst,.int .i64 X.a,.int .i64 X.b,.int .i64 X.n,.str X.s,av])] 8)).next (.row [(AV.agg [.int .i64 X.op,.int .i64 X.ty,.int .i64 X.dst,.int .i64 X.a,.int .i64 X.b,.int .i64 X.n,.str X.s,av'])] 8)):=⟨Nat.le_refl _,fun i hi=>by
     have:=hFn i hi
     exact (Heap.get_set_ne _ _ (by omega)).trans (Heap.get_set_ne _ _ (by omega))⟩
   refine⟨(AV.agg [.int .i64 X.op,.int .i64 X.ty,.int .i64 X.dst,.int .i64 X.a,.int .i64 X.b,.int .i64 X.n,.str X.s,av']),((h3.set h.next (.row [(AV.agg [.int .i64 X.op,.int .i64 X.ty,.int .i64 X.dst,.int .i64 X.a,.int .i64 X.b,.int .i64 X.n,.str X.s,av'])] 8)).set (h.push (.row [(AV.agg [.int .i64 X.op,.int .i64 X.ty,.int .i64 X.dst,.int .i64 X.a,.int .i64 X.b,.int .i64 X.n,.str X.s,av])] 8)).next (.row [(AV.agg [.int .i64 X.op,.int .i64 X.ty,.int .i64 X.dst,.int .i64 X.a,.int .i64 X.b,.int .i64 X.n,.str X.s,av'])] 8)),F,?_,⟨av',rfl,IntO.good.own on ho⟩,g4.set _ (by omega),fun i hi=>?_⟩
   · rw[pl21.call h (by simp)]; unfold c21
     by_cases q1:X.op=3
     · have q3:X.a≤X.b:=by
         have:¬ X.b < X.a:=fun hh=>hq ⟨q1,hh⟩
         omega
       simp -implicitDefEqProofs (maxSteps:=1000000) only[o1,ec,s1,P4,W4,eq_true q1,eq_true q3,s6,L6,liftH_some,res_cell ti42,Nat.zero_add,XS,XT,XF,AV.cells,Nat.reduceAdd,Nat.reduceLT,Nat.reduceEqDiff,↓reduceIte,Nat.reduceLeDiff]
     · simp -implicitDefEqProofs (maxSteps:=1000000) only[o1,ec,s1,P4,W4,eq_false q1,s6,L6,liftH_some,res_cell ti42,Nat.zero_add,XS,XT,XF,AV.cells,Nat.reduceAdd,Nat.reduceLT,Nat.reduceEqDiff,↓reduceIte,Nat.reduceLeDiff]
   · have:=hFn i hi
     exact⟨by omega,this.2⟩
end Go.Proofs.AmEnv
namespace Go.Proofs.AmEnv
open Go Go.AM
theorem OwnL.empty {α:Type} {R:OR α} {sz bz:Nat} {h:Heap} {id:Nat} (hg:h.get id=some (.row [] sz)) (hid:id < h.next):OwnL R sz bz [id] h (.msl id 0 0 sz) [] :=
 ⟨.inr ⟨id,[],[],rfl,hg,hid,rfl,rfl,(fun i S x X h1=>by simp at h1),rfl,by simp⟩,by simp,by simp⟩
noncomputable def mksR (x:AV) (h:Heap):Res:=match asNat x with
 | none=>.bad
 | some m=>bif Nat.ble 0 m && Nat.ble (Nat.mul m 88) 140737488355328 && Nat.blt 0 8 then .ok (.msl h.next 0 0 8) (h.push (.row [] 8)) else .bad
theorem p_mks {fr:Tr} {h:Heap} {call:CallF} (x:Operand):evOp env call (.makeSlice 36 (.const (.int .i64 0)) x) fr h=mksR (opv env x fr) h:=rfl
theorem mksR_nat {m:Nat} {h:Heap} (hm:m * 88≤140737488355328):mksR (.int .i64 (m:Int)) h=.ok (.msl h.next 0 0 8) (h.push (.row [] 8)):=by
 show (bif Nat.ble 0 m && Nat.ble (Nat.mul m 88) 140737488355328 && Nat.blt 0 8 then Res.ok (AV.msl h.next 0 0 8) (h.push (.row [] 8)) else .bad)=_
 rw[show Nat.ble 0 m=true from Nat.ble_eq_true_of_le (Nat.zero_le _),show Nat.ble (Nat.mul m 88) 140737488355328=true from Nat.ble_eq_true_of_le hm]; rfl
structure Same6 (l l0:List (Nat × AV)):Prop where
 s2:AM.look l 2=AM.look l0 2
 s3:AM.look l 3=AM.look l0 3
 s5:AM.look l 5=AM.look l0 5
 s20:AM.look l 20=AM.look l0 20
 s21:AM.look l 21=AM.look l0 21
 s22:AM.look l 22=AM.look l0 22
structure CkAt (k n m0:Nat) (cv:AV) (code:List MInstr) (h0 hb:Heap) (l0 l:List (Nat × AV)) (h:Heap) (ov:AV) (F:List Nat):Prop where
 s:Same6 l l0
 l31:AM.look l 31=cv
 l32:AM.look l 32=.int .i64 (n:Int)
 l33:AM.look l 33=.int .i64 (k:Int)
 l6:AM.look l 6=ov
 mod:AM.Mod [m0] hb h
 kp:Grow h0 h
 own:InstrsO F h ov ((code.take k).map canonI)
 sub:∀i∈F,i=m0∨hb.next≤i
set_option maxHeartbeats 8000000 in
theorem ckLoop {m0:Nat} {cv:AV} {code:List MInstr} {h0 hb:Heap} (hm0:h0.next≤m0) (h0i:h0.next≤hb.next) (hcv:InstrsR h0 cv code) {l:List (Nat × AV)} {h:Heap} {ov:AV} {F:List Nat} (hs:CkAt 0 code.length m0 cv code h0 hb l l h ov F) :
   ∃h' l' ov' F',evω env (.loop lp8_1) (fset 54 l) h=.ok (.exit 2) (fset 54 l') h'∧CkAt code.length code.length m0 cv code h0 hb l l' h' ov' F':=by
 have hle:=hcv.le
 have hsm:=hcv.sm
 refine loop_ind (E:=env) (nt:=54) (body:=lp8_1) code.length (fun k lk h=>∃ov F,CkAt k code.length m0 cv code h0 hb l lk h ov F)
   (fun r=>∃h' l' ov' F',r=.ok (.exit 2) (fset 54 l') h'∧CkAt code.length code.length m0 cv code h0 hb l l' h' ov' F') ?_ ?_ code.length 0 l h (by omega) ⟨ov,F,hs⟩
 · rintro k lk h hk ⟨ov,F,⟨s2,s3,s5,s20,s21,s22⟩,l31,l32,l33,l6,mod,kp,own,sub⟩
   left
   obtain⟨I,hI⟩:∃I,code[k]?=some I:=⟨_,List.getElem?_eq_getElem hk⟩
   obtain⟨xs,ha,hxs⟩:=(InstrsR.stays kp.kp hcv).ex
   obtain⟨x,hx,hxS⟩:=hxs.get hI
   have i1:=ha.idx hx ti42 rfl
   have e1:=(ha.at hx).load ty42
   rw[partInstr hxS] at e1
   obtain⟨av,rfl,hav⟩:=hxS
   have oka:=hav.ok
   have ok0:okCells (AV.agg [.int .i64 I.op,.int .i64 I.ty,.int .i64 I.dst,.int .i64 I.a,.int .i64 I.b,.int .i64 I.n,.str I.s,av]).cells=true:=by
     show okCells [_,_,_,_,_,_,_,av]=true
     simp only[okCells_cons,okCells_nil,ok_int,ok_str,oka,Bool.and_self]
   have c1:(h.push (.row [(AV.agg [.int .i64 0,.int .i64 0,.int .i64 0,.int .i64 0,.int .i64 0,.int .i64 0,.str [],.nilsl])] 8)).get h.next=some (.row [(AV.agg [.int .i64 0,.int .i64 0,.int .i64 0,.int .i64 0,.int .i64 0,.int .i64 0,.str [],.nilsl])] 8):=Heap.get_push_eq h _
   have s1:storeA ty42 (.ptr h.next 0 0) (AV.agg [.int .i64 I.op,.int .i64 I.ty,.int .i64 I.dst,.int .i64 I.a,.int .i64 I.b,.int .i64 I.n,.str I.s,av]) (h.push (.row [(AV.agg [.int .i64 0,.int .i64 0,.int .i64 0,.int .i64 0,.int .i64 0,.int .i64 0,.str [],.nilsl])] 8))=some ((h.push (.row [(AV.agg [.int .i64 0,.int .i64 0,.int .i64 0,.int .i64 0,.int .i64 0,.int .i64 0,.str [],.nilsl])] 8)).set h.next (.row [(AV.agg [.int .i64 I.op,.int .i64 I.ty,.int .i64 I.dst,.int .i64 I.a,.int .i64 I.b,.int .i64 I.n,.str I.s,av])] 8)):=by
     rw[store_old c1 rfl (by decide) (by decide) ok0]; rfl
   have L2:loadA ty42 (.ptr h.next 0 0) ((h.push (.row [(AV.agg [.int .i64 0,.int .i64 0,.int .i64 0,.int .i64 0,.int .i64 0,.int .i64 0,.str [],.nilsl])] 8)).set h.next (.row [(AV.agg [.int .i64 I.op,.int .i64 I.ty,.int .i64 I.dst,.int .i64 I.a,.int .i64 I.b,.int .i64 I.n,.str I.s,av])] 8))=some (AV.agg [.int .i64 I.op,.int .i64 I.ty,.int .i64 I.dst,.int .i64 I.a,.int .i64 I.b,.int .i64 I.n,.str I.s,av]):=by rw[load_set c1]; rfl
   have g2:Grow h ((h.push (.row [(AV.agg [.int .i64 0,.int .i64 0,.int .i64 0,.int .i64 0,.int .i64 0,.int .i64 0,.str [],.nilsl])] 8)).set h.next (.row [(AV.agg [.int .i64 I.op,.int .i64 I.ty,.int .i64 I.dst,.int .i64 I.a,.int .i64 I.b,.int .i64 I.n,.str I.s,av])] 8)):=(Grow.push h _).set _ (Nat.le_refl _)
   obtain⟨x',h3,C,ec,hx',g3,hnew⟩:=Turned_ok (InstrR.stays g2.kp ⟨av,rfl,hav⟩:InstrR ((h.push (.row [(AV.agg [.int .i64 0,.int .i64 0,.int .i64 0,.int .i64 0,.int .i64 0,.int .i64 0,.str [],.nilsl])] 8)).set h.next (.row [(AV.agg [.int .i64 I.op,.int .i64 I.ty,.int .i64 I.dst,.int .i64 I.a,.int .i64 I.b,.int .i64 I.n,.str I.s,av])] 8)) (AV.agg [.int .i64 I.op,.int .i64 I.ty,.int .i64 I.dst,.int .i64 I.a,.int .i64 I.b,.int .i64 I.n,.str I.s,av]) I)
   have hold:Old h F:=InstrO.good.old own
   have g23:=g2.trans g3
   have own3:=InstrO.good.own (g23.on hold) own
   have hlen1:((code.take k).map canonI).length+1≤code.length:=by rw[List.length_map]; exact take_len hI
   obtain⟨ov',h4,F',ea,ho,hm4,hF'⟩:=OwnL.app1 (te:=ty42) InstrO.good rfl rfl own3 hx' (fun i hi1 hi2=>by
     have a1:h.next+1≤i:=(hnew i hi1).1
     have:=hold i hi2
     omega) (Nat.le_trans (Nat.mul_le_mul_right _ hlen1) hsm) (Nat.le_trans hlen1 hle)
   have eb:=bsR_ok (h:=h3) (InstrO.good.cl hx') (InstrO.good.ok hx')
   have hc:((k:Int) < (code.length:Int)):=by omega
   have w1:IntKind.wrap .i64 ((k:Int)+1)=((k+1:Nat):Int):=AM.wrap_small (n:=k+1) (by omega)
   have hpre:(code.take k).map canonI++[canonI I]=(code.take (k+1)).map canonI:=by
     rw[← take_snoc hI,List.map_append]; rfl
   rw[hpre] at ho
   have key:∃l',Same6 l' l∧AM.look l' 31=cv∧AM.look l' 32=.int .i64 (code.length:Int)∧AM.look l' 33=.int .i64 ((k+1:Nat):Int)∧AM.look l' 6=ov'∧evω env (.loop lp8_1) (fset 54 lk) h=evω env (.loop lp8_1) (fset 54 l') h4:=by
     refine⟨?_,⟨?_,?_,?_,?_,?_,?_⟩,?_,?_,?_,?_,?_⟩
     rotate_left 11
     · conv=>lhs; rw[w_loop]; unfold lp8_1
       simp -implicitDefEqProofs (maxSteps:=1000000) only[l31,l32,l33,l6,eq_true hc,i1,e1,s1,L2,ec,p_bs1 ti36 rfl ti42 (by decide) (by decide),show ty42.size=8 from rfl,eb,p_app ti36 rfl ti42 (by decide),ea,w1,XS,XT,XF,AV.cells,Nat.reduceAdd,Nat.reduceLT,Nat.reduceEqDiff,↓reduceIte,Nat.reduceLeDiff]
       rfl
     all_goals simp[AM.look,s2,s3,s5,s20,s21,s22,l31,l32]
   obtain⟨l',hs',k31,k32,k33,k6,hgo⟩:=key
   have mh4:AM.Mod F h h4:=(g23.mod F).trans hm4 fun i hi=>.inl hi
   have hF0:∀i∈F,h0.next≤i:=fun i hi=>(sub i hi).elim (fun e=>by omega) fun e=>by omega
   refine⟨l',h4,⟨ov',F',hs',k31,k32,k33,k6,mod.trans mh4 fun i hi=>(sub i hi).imp (fun e=>by simp[e]) id',((kp.mod []).trans mh4 fun i hi=>.inr (hF0 i hi)).grow,ho,fun i hi=>?_⟩,hgo⟩
   have hih:hb.next≤h.next:=mod.nx
   rcases hF' i hi with a | a | a
   · exact sub i a
   · have a1:h.next+1≤i:=(hnew i a).1
     exact .inr (by omega)
   · have a1:h.next≤h3.next:=g23.nx
     exact .inr (by omega)
 · rintro lk h ⟨ov,F,⟨s2,s3,s5,s20,s21,s22⟩,l31,l32,l33,l6,mod,kp,own,sub⟩
   have hc:¬ ((code.length:Int) < (code.length:Int)):=by omega
   have key:∃l',Same6 l' l∧AM.look l' 31=cv∧AM.look l' 32=.int .i64 (code.length:Int)∧AM.look l' 33=.int .i64 (code.length:Int)∧AM.look l' 6=ov∧evω env (.loop lp8_1) (fset 54 lk) h=.ok (.exit 2) (fset 54 l') h:=by
     refine⟨?_,⟨?_,?_,?_,?_,?_,?_⟩,?_,?_,?_,?_,?_⟩
     rotate_left 11
     · conv=>lhs; rw[w_loop]; unfold lp8_1
       simp -implicitDefEqProofs (maxSteps:=1000000) only[l31,l32,l33,l6,eq_false hc,XS,XT,XF,AV.cells,Nat.reduceAdd,Nat.reduceLT,Nat.reduceEqDiff,↓reduceIte,Nat.reduceLeDiff]
       rfl
     all_goals simp[AM.look,s2,s3,s5,s20,s21,s22,l31,l32,l33,l6]
   obtain⟨l',hs',k31,k32,k33,k6,hgo⟩:=key
   exact⟨h,l',ov,F,hgo,hs',k31,k32,k33,k6,mod,kp,own,sub⟩
end Go.Proofs.AmEnv
namespace Go.Proofs.AmEnv
open Go Go.AM
structure CaAt (X:MCode) (rv' bv:AV) (q r k:Nat) (h0 hb:Heap) (l:List (Nat × AV)) (h:Heap) (ov:AV) (F:List Nat):Prop where
 l2:AM.look l 2=.ptr r 0 0
 l3:AM.look l 3=.ptr q 0 0
 l20:AM.look l 20=bv
 l21:AM.look l 21=.int .i64 (X.blocks.length:Int)
 l22:AM.look l 22=.int .i64 (k:Int)
 rc:h.get r=some (.row [(AV.agg [.str [],.int .i64 0,.int .i64 0,.nilsl,.nilsl])] 5)
 mod:AM.Mod [q] hb h
 kp:Grow h0 h
 cell:h.get q=some (.row [(AV.agg [.str X.name,.int .i64 X.ty,.int .i64 X.params,rv',ov])] 5)
 own:BlocksO F h ov ((X.blocks.take k).map canonB)
 sub:∀i∈F,hb.next≤i
set_option maxHeartbeats 16000000 in
theorem caLoop {X:MCode} {rv' bv:AV} {q r:Nat} {h0 hb:Heap} (hq:q < hb.next) (hr:r < hb.next) (hqr:q≠r) (hq0:h0.next≤q) (hb0:h0.next≤hb.next) (okr:okCell rv'=true) (hbv:BlocksR h0 bv X.blocks) {l:List (Nat × AV)} {h:Heap} {ov:AV} {F:List Nat} (hs:CaAt X rv' bv q r 0 h0 hb l h ov F) :
   ∃h' l' ov' F',evω env (.loop lp8_0) (fset 54 l) h=.ok (.exit 0) (fset 54 l') h'∧CaAt X rv' bv q r X.blocks.length h0 hb l' h' ov' F':=by
 have hle:=hbv.le
 have hsm:=hbv.sm
 refine loop_ind (E:=env) (nt:=54) (body:=lp8_0) X.blocks.length (fun k l h=>∃ov F,CaAt X rv' bv q r k h0 hb l h ov F)
   (fun r'=>∃h' l' ov' F',r'=.ok (.exit 0) (fset 54 l') h'∧CaAt X rv' bv q r X.blocks.length h0 hb l' h' ov' F') ?_ ?_ X.blocks.length 0 l h (by omega) ⟨ov,F,hs⟩
 · rintro k l h hk ⟨ov,F,l2,l3,l20,l21,l22,rc,mod,kp,cell,own,sub⟩
   left
   obtain⟨B,hB⟩:∃B,X.blocks[k]?=some B:=⟨_,List.getElem?_eq_getElem hk⟩
   obtain⟨xs,ha,hxs⟩:=(BlocksR.stays kp.kp hbv).ex
   obtain⟨x,hx,hxS⟩:=hxs.get hB
   have i1:=ha.idx hx ti40 rfl
   have e1':=(ha.at hx).load ty40
   rw[show partOf ty40 x.cells 0=some x by obtain⟨_,rfl,_⟩:=hxS; rfl] at e1'
   obtain⟨cv,rfl,hcv⟩:=hxS
   have okc:=hcv.ok
   have ok0:okCells (AV.agg [cv,.int .i64 B.kind,.int .i64 B.a,.int .i64 B.to,.int .i64 B.el]).cells=true:=by
     show okCells [cv,_,_,_,_]=true
     simp only[okCells_cons,okCells_nil,ok_int,okc,Bool.and_self]
   have c1:(h.push (.row [(AV.agg [.nilsl,.int .i64 0,.int .i64 0,.int .i64 0,.int .i64 0])] 5)).get h.next=some (.row [(AV.agg [.nilsl,.int .i64 0,.int .i64 0,.int .i64 0,.int .i64 0])] 5):=Heap.get_push_eq h _
   have s1:storeA ty40 (.ptr h.next 0 0) (AV.agg [cv,.int .i64 B.kind,.int .i64 B.a,.int .i64 B.to,.int .i64 B.el]) (h.push (.row [(AV.agg [.nilsl,.int .i64 0,.int .i64 0,.int .i64 0,.int .i64 0])] 5))=some ((h.push (.row [(AV.agg [.nilsl,.int .i64 0,.int .i64 0,.int .i64 0,.int .i64 0])] 5)).set h.next (.row [(AV.agg [cv,.int .i64 B.kind,.int .i64 B.a,.int .i64 B.to,.int .i64 B.el])] 5)):=by
     rw[store_old c1 rfl (by decide) (by decide) ok0]; rfl
   have c2:((h.push (.row [(AV.agg [.nilsl,.int .i64 0,.int .i64 0,.int .i64 0,.int .i64 0])] 5)).set h.next (.row [(AV.agg [cv,.int .i64 B.kind,.int .i64 B.a,.int .i64 B.to,.int .i64 B.el])] 5)).get h.next=some (.row [(AV.agg [cv,.int .i64 B.kind,.int .i64 B.a,.int .i64 B.to,.int .i64 B.el])] 5):=Heap.get_set_eq _ _ c1
   have c3:(((h.push (.row [(AV.agg [.nilsl,.int .i64 0,.int .i64 0,.int .i64 0,.int .i64 0])] 5)).set h.next (.row [(AV.agg [cv,.int .i64 B.kind,.int .i64 B.a,.int .i64 B.to,.int .i64 B.el])] 5)).push (.row [] 8)).get h.next=some (.row [(AV.agg [cv,.int .i64 B.kind,.int .i64 B.a,.int .i64 B.to,.int .i64 B.el])] 5):=(Heap.get_push_ne _ _ (by show h.next≠h.next+1; omega)).trans c2
   have L2:loadA ty36 (.ptr h.next 0 0) ((h.push (.row [(AV.agg [.nilsl,.int .i64 0,.int .i64 0,.int .i64 0,.int .i64 0])] 5)).set h.next (.row [(AV.agg [cv,.int .i64 B.kind,.int .i64 B.a,.int .i64 B.to,.int .i64 B.el])] 5))=some cv:=by rw[load_set c1]; rfl
   have L3:loadA ty36 (.ptr h.next 0 0) (((h.push (.row [(AV.agg [.nilsl,.int .i64 0,.int .i64 0,.int .i64 0,.int .i64 0])] 5)).set h.next (.row [(AV.agg [cv,.int .i64 B.kind,.int .i64 B.a,.int .i64 B.to,.int .i64 B.el])] 5)).push (.row [] 8))=some cv:=by rw[load_old c3]; rfl
   have em:=mksR_nat (h:=((h.push (.row [(AV.agg [.nilsl,.int .i64 0,.int .i64 0,.int .i64 0,.int .i64 0])] 5)).set h.next (.row [(AV.agg [cv,.int .i64 B.kind,.int .i64 B.a,.int .i64 B.to,.int .i64 B.el])] 5))) hcv.sm
   have hlcv:=hcv.len
   have n2:((h.push (.row [(AV.agg [.nilsl,.int .i64 0,.int .i64 0,.int .i64 0,.int .i64 0])] 5)).set h.next (.row [(AV.agg [cv,.int .i64 B.kind,.int .i64 B.a,.int .i64 B.to,.int .i64 B.el])] 5)).next=h.next+1:=rfl
   have n3:(((h.push (.row [(AV.agg [.nilsl,.int .i64 0,.int .i64 0,.int .i64 0,.int .i64 0])] 5)).set h.next (.row [(AV.agg [cv,.int .i64 B.kind,.int .i64 B.a,.int .i64 B.to,.int .i64 B.el])] 5)).push (.row [] 8)).next=h.next+1+1:=rfl
   have hc:((k:Int) < (X.blocks.length:Int)):=by omega
   have w1:IntKind.wrap .i64 ((k:Int)+1)=((k+1:Nat):Int):=AM.wrap_small (n:=k+1) (by omega)
   have key:∃l4,AM.look l4 2=.ptr r 0 0∧AM.look l4 3=.ptr q 0 0∧AM.look l4 5=.ptr h.next 0 0∧AM.look l4 20=bv∧AM.look l4 21=.int .i64 (X.blocks.length:Int)∧AM.look l4 22=.int .i64 (k:Int)∧AM.look l4 31=cv∧AM.look l4 32=.int .i64 (B.code.length:Int)∧AM.look l4 33=.int .i64 ((0:Nat):Int)∧AM.look l4 6=.msl ((h.push (.row [(AV.agg [.nilsl,.int .i64 0,.int .i64 0,.int .i64 0,.int .i64 0])] 5)).set h.next (.row [(AV.agg [cv,.int .i64 B.kind,.int .i64 B.a,.int .i64 B.to,.int .i64 B.el])] 5)).next 0 0 8 ∧
       evω env (.loop lp8_0) (fset 54 l) h=seqA (evω env (.loop lp8_0)) (seqA (evω env kt8_2) (blockA 1 (seqA (evω env kt8_1) (blockA 2 (evω env (.loop lp8_1) (fset 54 l4) (((h.push (.row [(AV.agg [.nilsl,.int .i64 0,.int .i64 0,.int .i64 0,.int .i64 0])] 5)).set h.next (.row [(AV.agg [cv,.int .i64 B.kind,.int .i64 B.a,.int .i64 B.to,.int .i64 B.el])] 5)).push (.row [] 8))))))):=by
     refine⟨?_,?_,?_,?_,?_,?_,?_,?_,?_,?_,?_,?_⟩
     rotate_left 11
     · conv=>lhs; rw[w_loop]; unfold lp8_0
       simp -implicitDefEqProofs (maxSteps:=1000000) only[l2,l3,l20,l21,l22,eq_true hc,i1,e1',s1,L2,L3,hlcv,p_mks,em,XS,XT,XF,AV.cells,Nat.reduceAdd,Nat.reduceLT,Nat.reduceEqDiff,↓reduceIte,Nat.reduceLeDiff]
       rfl
     all_goals simp[AM.look,l2,l3,l20,l21,l22]
   obtain⟨l4,k2,k3,k5,k20,k21,k22,k31,k32,k33,k6,hgo⟩:=key
   have g3:Grow h (((h.push (.row [(AV.agg [.nilsl,.int .i64 0,.int .i64 0,.int .i64 0,.int .i64 0])] 5)).set h.next (.row [(AV.agg [cv,.int .i64 B.kind,.int .i64 B.a,.int .i64 B.to,.int .i64 B.el])] 5)).push (.row [] 8)):=((Grow.push h _).set _ (Nat.le_refl _)).trans (Grow.push _ _)
   obtain⟨h5,l5,cv6,F6,hin,⟨t2,t3,t5,t20,t21,t22⟩,t31,t32,t33,t6,tmod,tkp,town,tsub⟩:=ckLoop (m0:=((h.push (.row [(AV.agg [.nilsl,.int .i64 0,.int .i64 0,.int .i64 0,.int .i64 0])] 5)).set h.next (.row [(AV.agg [cv,.int .i64 B.kind,.int .i64 B.a,.int .i64 B.to,.int .i64 B.el])] 5)).next) (cv:=cv) (code:=B.code) (h0:=h) (hb:=(((h.push (.row [(AV.agg [.nilsl,.int .i64 0,.int .i64 0,.int .i64 0,.int .i64 0])] 5)).set h.next (.row [(AV.agg [cv,.int .i64 B.kind,.int .i64 B.a,.int .i64 B.to,.int .i64 B.el])] 5)).push (.row [] 8))) (by omega) (by omega) hcv (l:=l4) (h:=(((h.push (.row [(AV.agg [.nilsl,.int .i64 0,.int .i64 0,.int .i64 0,.int .i64 0])] 5)).set h.next (.row [(AV.agg [cv,.int .i64 B.kind,.int .i64 B.a,.int .i64 B.to,.int .i64 B.el])] 5)).push (.row [] 8))) (ov:=.msl ((h.push (.row [(AV.agg [.nilsl,.int .i64 0,.int .i64 0,.int .i64 0,.int .i64 0])] 5)).set h.next (.row [(AV.agg [cv,.int .i64 B.kind,.int .i64 B.a,.int .i64 B.to,.int .i64 B.el])] 5)).next 0 0 8) (F:=[((h.push (.row [(AV.agg [.nilsl,.int .i64 0,.int .i64 0,.int .i64 0,.int .i64 0])] 5)).set h.next (.row [(AV.agg [cv,.int .i64 B.kind,.int .i64 B.a,.int .i64 B.to,.int .i64 B.el])] 5)).next]) ⟨⟨rfl,rfl,rfl,rfl,rfl,rfl⟩,k31,k32,k33,k6,.refl _ _,g3,OwnL.empty (Heap.get_push_eq _ _) (Nat.lt_succ_self _),fun i hi=>.inl (by simpa using hi)⟩
   rw[List.take_length] at town
   rw[hgo,hin]
   have u2:=t2.trans k2
   have u3:=t3.trans k3
   have u5:=t5.trans k5
   have u20:=t20.trans k20
   have u21:=t21.trans k21
   have u22:=t22.trans k22
   have qlt:q < h.next:=Nat.lt_of_lt_of_le hq mod.nx
   have rlt:r < h.next:=Nat.lt_of_lt_of_le hr mod.nx
   have hbn:hb.next≤h.next:=mod.nx
   have hold:Old h F:=BlockO.good.old own
   have e5:(((h.push (.row [(AV.agg [.nilsl,.int .i64 0,.int .i64 0,.int .i64 0,.int .i64 0])] 5)).set h.next (.row [(AV.agg [cv,.int .i64 B.kind,.int .i64 B.a,.int .i64 B.to,.int .i64 B.el])] 5)).push (.row [] 8)).next≤h5.next:=tmod.nx
   have cell5:h5.get q=some (.row [(AV.agg [.str X.name,.int .i64 X.ty,.int .i64 X.params,rv',ov])] 5):=(tkp.get q qlt).trans cell
   have rc5:h5.get r=some (.row [(AV.agg [.str [],.int .i64 0,.int .i64 0,.nilsl,.nilsl])] 5):=(tkp.get r rlt).trans rc
   have p5:h5.get h.next=some (.row [(AV.agg [cv,.int .i64 B.kind,.int .i64 B.a,.int .i64 B.to,.int .i64 B.el])] 5):=(tmod.get _ (by omega) (fun hi=>by have:=List.mem_singleton.1 hi; omega)).trans c3
   have L5:loadA ty29 (.ptr q 0 4) h5=some ov:=by rw[load_old cell5]; rfl
   have L6:loadA ty38 (.ptr h.next 0 1) h5=some (.agg [.int .i64 B.kind,.int .i64 B.a,.int .i64 B.to,.int .i64 B.el]):=by rw[load_old p5]; rfl
   have ebd:=buildBlock (a:=B.kind) (b:=B.a) (c:=B.to) (d:=B.el) town.cells town.ok
   have hb6:BlockO F6 h5 (AV.agg [cv6,.int .i64 B.kind,.int .i64 B.a,.int .i64 B.to,.int .i64 B.el]) (canonB B):=⟨cv6,rfl,town⟩
   have own5:=BlockO.good.own (tkp.on hold) own
   have hlen1:((X.blocks.take k).map canonB).length+1≤X.blocks.length:=by rw[List.length_map]; exact take_len hB
   obtain⟨ov',h6,F',ea,ho,hm6,hF'⟩:=OwnL.app1 (te:=ty40) BlockO.good rfl rfl own5 hb6 (fun i hi1 hi2=>by
     have:=hold i hi2
     rcases tsub i hi1 with a | a <;> omega) (Nat.le_trans (Nat.mul_le_mul_right _ hlen1) hsm) (Nat.le_trans hlen1 hle)
   have eb:=bsR_ok (h:=h5) (BlockO.good.cl hb6) (BlockO.good.ok hb6)
   have hpre:(X.blocks.take k).map canonB++[canonB B]=(X.blocks.take (k+1)).map canonB:=by
     rw[← take_snoc hB,List.map_append]; rfl
   rw[hpre] at ho
   have qF:q ∉ F:=fun hi=>by have:=sub q hi; omega
   have rF:r ∉ F:=fun hi=>by have:=sub r hi; omega
   have qlt5:q < h5.next:=by omega
   have rlt5:r < h5.next:=by omega
   have cell6:h6.get q=some (.row [(AV.agg [.str X.name,.int .i64 X.ty,.int .i64 X.params,rv',ov])] 5):=(hm6.get q qlt5 qF).trans cell5
   have rc6:h6.get r=some (.row [(AV.agg [.str [],.int .i64 0,.int .i64 0,.nilsl,.nilsl])] 5):=(hm6.get r rlt5 rF).trans rc5
   have s7:storeA ty29 (.ptr q 0 4) ov' h6=some (h6.set q (.row [(AV.agg [.str X.name,.int .i64 X.ty,.int .i64 X.params,rv',ov'])] 5)):=by
     rw[store_old cell6 (by rw[ho.cells]; rfl) (by decide) (by decide) (by rw[ho.cells,okCells_cons,ho.ok]; rfl),ho.cells]; rfl
   have hF2:∀i∈F',hb.next≤i:=fun i hi=>by
     rcases hF' i hi with a | a | a
     · exact sub i a
     · rcases tsub i a with b | b <;> omega
     · omega
   have key:∃l',AM.look l' 2=.ptr r 0 0∧AM.look l' 3=.ptr q 0 0∧AM.look l' 20=bv∧AM.look l' 21=.int .i64 (X.blocks.length:Int)∧AM.look l' 22=.int .i64 ((k+1:Nat):Int)∧seqA (evω env (.loop lp8_0)) (seqA (evω env kt8_2) (blockA 1 (seqA (evω env kt8_1) (blockA 2 (.ok (.exit 2) (fset 54 l5) h5)))))=evω env (.loop lp8_0) (fset 54 l') (h6.set q (.row [(AV.agg [.str X.name,.int .i64 X.ty,.int .i64 X.params,rv',ov'])] 5)):=by
     refine⟨?_,?_,?_,?_,?_,?_,?_⟩
     rotate_left 6
     · conv=>lhs; unfold kt8_1 kt8_2
       simp -implicitDefEqProofs (maxSteps:=1000000) only[u2,u3,u5,u20,u21,u22,t6,L5,L6,ebd,p_bs1 ti29 rfl ti40 (by decide) (by decide),show ty40.size=5 from rfl,eb,p_app ti29 rfl ti40 (by decide),ea,s7,w1,XS,XT,XF,AV.cells,Nat.reduceAdd,Nat.reduceLT,Nat.reduceEqDiff,↓reduceIte,Nat.reduceLeDiff]
       rfl
     all_goals simp[AM.look,u2,u3,u20,u21]
   obtain⟨l',v2,v3,v20,v21,v22,hgo2⟩:=key
   have m6:AM.Mod [q] hb h6:=(mod.trans (tkp.mod []) fun i hi=>by cases hi).trans hm6 fun i hi=>.inr (sub i hi)
   have k6':Grow h0 h6:=(((kp.trans tkp).mod []).trans hm6 fun i hi=>.inr (by have:=sub i hi; omega)).grow
   refine⟨l',h6.set q (.row [(AV.agg [.str X.name,.int .i64 X.ty,.int .i64 X.params,rv',ov'])] 5),⟨ov',F',v2,v3,v20,v21,v22,(Heap.get_set_ne _ _ hqr).trans rc6,m6.set _ (.inl (by simp)),k6'.set _ hq0,Heap.get_set_eq _ _ cell6,BlockO.good.own (show On F' h6 (h6.set q (.row [(AV.agg [.str X.name,.int .i64 X.ty,.int .i64 X.params,rv',ov'])] 5)) from ⟨Nat.le_refl _,fun i hi=>Heap.get_set_ne _ _ fun e=>by have:=hF2 i hi; omega⟩) ho,hF2⟩,hgo2⟩
 · rintro l h ⟨ov,F,l2,l3,l20,l21,l22,rc,mod,kp,cell,own,sub⟩
   have hc:¬ ((X.blocks.length:Int) < (X.blocks.length:Int)):=by omega
   have key:∃l',AM.look l' 2=.ptr r 0 0∧AM.look l' 3=.ptr q 0 0∧AM.look l' 20=bv∧AM.look l' 21=.int .i64 (X.blocks.length:Int)∧AM.look l' 22=.int .i64 (X.blocks.length:Int)∧evω env (.loop lp8_0) (fset 54 l) h=.ok (.exit 0) (fset 54 l') h:=by
     refine⟨?_,?_,?_,?_,?_,?_,?_⟩
     rotate_left 6
     · conv=>lhs; rw[w_loop]; unfold lp8_0
       simp -implicitDefEqProofs (maxSteps:=1000000) only[l2,l3,l20,l21,l22,eq_false hc,XS,XT,XF,AV.cells,Nat.reduceAdd,Nat.reduceLT,Nat.reduceEqDiff,↓reduceIte,Nat.reduceLeDiff]
       rfl
     all_goals simp[AM.look,l2,l3,l20,l21,l22]
   obtain⟨l',k2,k3,k20,k21,k22,hgo⟩:=key
   exact⟨h,l',ov,F,hgo,k2,k3,k20,k21,k22,rc,mod,kp,cell,own,sub⟩
end Go.Proofs.AmEnv
namespace Go.Proofs.AmEnv
open Go Go.AM
theorem buildCode {s:List UInt8} {a b:Int} {v:AV} (hv:v.cells=[v]) (ho:okCell v=true):buildD env ty31 [(0,.str s),(1,.int .i64 a),(2,.int .i64 b),(3,v)]=some (.agg [.str s,.int .i64 a,.int .i64 b,v,.nilsl]):=by
 refine congrArg (Option.map AV.agg) (a₂:=some _) ?_
 refine (fill_cons (cells:=[.str [],.int .i64 0,.int .i64 0,.nilsl,.nilsl]) (q:=(0,1)) rfl rfl (by decide) rfl).trans ?_
 refine (fill_cons (cells:=[.str s,.int .i64 0,.int .i64 0,.nilsl,.nilsl]) (q:=(1,1)) rfl rfl (show 1+1≤5 by decide) rfl).trans ?_
 refine (fill_cons (cells:=[.str s,.int .i64 a,.int .i64 0,.nilsl,.nilsl]) (q:=(2,1)) rfl rfl (show 2+1≤5 by decide) rfl).trans ?_
 refine (fill_cons (cells:=[.str s,.int .i64 a,.int .i64 b,.nilsl,.nilsl]) (q:=(3,1)) rfl (by rw[hv]; rfl) (show 3+1≤5 by decide) (by rw[hv,okCells_cons,ho]; rfl)).trans ?_
 rw[hv]; rfl
set_option maxHeartbeats 16000000 in
theorem Canon_ok:MapOk 8 canonC:=by
 rintro h x X ⟨rv,bv,rfl,hrv,hbv⟩
 have o1:=hrv.ok
 have o2:=hbv.ok
 have g2:Grow h ((h.push (.row [(AV.agg [.str X.name,.int .i64 X.ty,.int .i64 X.params,rv,bv])] 5)).push (.row [(AV.agg [.str [],.int .i64 0,.int .i64 0,.nilsl,.nilsl])] 5)):=(Grow.push h _).trans (Grow.push _ _)
 obtain⟨rv',hc,F1,ec,q1,g3,hnew⟩:=Clone_ok (IntsR.stays (g2.kp.trans (Kp.tch ((h.push (.row [(AV.agg [.str X.name,.int .i64 X.ty,.int .i64 X.params,rv,bv])] 5)).push (.row [(AV.agg [.str [],.int .i64 0,.int .i64 0,.nilsl,.nilsl])] 5)) [])) hrv)
 have n1:(h.push (.row [(AV.agg [.str X.name,.int .i64 X.ty,.int .i64 X.params,rv,bv])] 5)).next=h.next+1:=rfl
 have n2:((h.push (.row [(AV.agg [.str X.name,.int .i64 X.ty,.int .i64 X.params,rv,bv])] 5)).push (.row [(AV.agg [.str [],.int .i64 0,.int .i64 0,.nilsl,.nilsl])] 5)).next=h.next+1+1:=rfl
 have e3:((h.push (.row [(AV.agg [.str X.name,.int .i64 X.ty,.int .i64 X.params,rv,bv])] 5)).push (.row [(AV.agg [.str [],.int .i64 0,.int .i64 0,.nilsl,.nilsl])] 5)).next≤hc.next:=g3.nx
 have g23:Grow ((h.push (.row [(AV.agg [.str X.name,.int .i64 X.ty,.int .i64 X.params,rv,bv])] 5)).push (.row [(AV.agg [.str [],.int .i64 0,.int .i64 0,.nilsl,.nilsl])] 5)) ({ hc with tch:=(((h.push (.row [(AV.agg [.str X.name,.int .i64 X.ty,.int .i64 X.params,rv,bv])] 5)).push (.row [(AV.agg [.str [],.int .i64 0,.int .i64 0,.nilsl,.nilsl])] 5))).tch }:Heap):=⟨g3.nx,g3.get,[],rfl,fun _ hi=>by cases hi⟩
 have okr:okCell rv'=true:=q1.ok
 have L2:∀t o,loadA t (.ptr h.next 0 o) ((h.push (.row [(AV.agg [.str X.name,.int .i64 X.ty,.int .i64 X.params,rv,bv])] 5)).push (.row [(AV.agg [.str [],.int .i64 0,.int .i64 0,.nilsl,.nilsl])] 5))=partOf t [.str X.name,.int .i64 X.ty,.int .i64 X.params,rv,bv] o:=fun t o=>load_new2 _ _ _ _ _
 have key1:∃l1,AM.look l1 16=rv∧AM.look l1 1=.ptr h.next 0 0∧AM.look l1 2=.ptr ((h.push (.row [(AV.agg [.str X.name,.int .i64 X.ty,.int .i64 X.params,rv,bv])] 5))).next 0 0∧callω env 8 [(AV.agg [.str X.name,.int .i64 X.ty,.int .i64 X.params,rv,bv])] h=afterBody env [.cell 2 31] (seqA (evω env kt8_0) (evOpsD env (callω env) (⟨some 17,.call ⟨.value (.func 20),#[.tmp 16],#[28]⟩,none,true,[false,false,false,false,false,false,false,true,true],false⟩::qt8_0) (fset 54 l1) ((h.push (.row [(AV.agg [.str X.name,.int .i64 X.ty,.int .i64 X.params,rv,bv])] 5)).push (.row [(AV.agg [.str [],.int .i64 0,.int .i64 0,.nilsl,.nilsl])] 5)) [])):=by
   refine⟨?_,?_,?_,?_,?_⟩
   rotate_left 4
   · rw[pl8.call h (by simp)]; unfold c8
     simp -implicitDefEqProofs (maxSteps:=1000000) only[o1,o2,L2,XS,XT,XF,AV.cells,Nat.reduceAdd,Nat.reduceLT,Nat.reduceEqDiff,↓reduceIte,Nat.reduceLeDiff]
     rfl
   all_goals simp[AM.look]
 obtain⟨l1,k16,k1,k2,hgo1⟩:=key1
 have hcall:evOp env (callω env) (.call ⟨.value (.func 20),#[.tmp 16],#[28]⟩) (fset 54 l1) ({ ((h.push (.row [(AV.agg [.str X.name,.int .i64 X.ty,.int .i64 X.params,rv,bv])] 5)).push (.row [(AV.agg [.str [],.int .i64 0,.int .i64 0,.nilsl,.nilsl])] 5)) with tch:=[] }:Heap)=.ok rv' hc:=by
   simp -implicitDefEqProofs (maxSteps:=1000000) only[k16,ec,XS,XT,XF,AV.cells,Nat.reduceAdd,Nat.reduceLT,Nat.reduceEqDiff,↓reduceIte,Nat.reduceLeDiff]
 have cx:({ hc with tch:=(((h.push (.row [(AV.agg [.str X.name,.int .i64 X.ty,.int .i64 X.params,rv,bv])] 5)).push (.row [(AV.agg [.str [],.int .i64 0,.int .i64 0,.nilsl,.nilsl])] 5))).tch }:Heap).get h.next=some (.row [(AV.agg [.str X.name,.int .i64 X.ty,.int .i64 X.params,rv,bv])] 5):=(g3.get _ (show h.next < ((h.push (.row [(AV.agg [.str X.name,.int .i64 X.ty,.int .i64 X.params,rv,bv])] 5)).push (.row [(AV.agg [.str [],.int .i64 0,.int .i64 0,.nilsl,.nilsl])] 5)).next by omega)).trans ((Heap.get_push_ne _ _ (by omega)).trans (Heap.get_push_eq h _))
 have cz:({ hc with tch:=(((h.push (.row [(AV.agg [.str X.name,.int .i64 X.ty,.int .i64 X.params,rv,bv])] 5)).push (.row [(AV.agg [.str [],.int .i64 0,.int .i64 0,.nilsl,.nilsl])] 5))).tch }:Heap).get (h.push (.row [(AV.agg [.str X.name,.int .i64 X.ty,.int .i64 X.params,rv,bv])] 5)).next=some (.row [(AV.agg [.str [],.int .i64 0,.int .i64 0,.nilsl,.nilsl])] 5):=(g3.get _ (show (h.push (.row [(AV.agg [.str X.name,.int .i64 X.ty,.int .i64 X.params,rv,bv])] 5)).next < ((h.push (.row [(AV.agg [.str X.name,.int .i64 X.ty,.int .i64 X.params,rv,bv])] 5)).push (.row [(AV.agg [.str [],.int .i64 0,.int .i64 0,.nilsl,.nilsl])] 5)).next by omega)).trans (Heap.get_push_eq _ _)
 have n3:({ hc with tch:=(((h.push (.row [(AV.agg [.str X.name,.int .i64 X.ty,.int .i64 X.params,rv,bv])] 5)).push (.row [(AV.agg [.str [],.int .i64 0,.int .i64 0,.nilsl,.nilsl])] 5))).tch }:Heap).next=hc.next:=rfl
 have n4:(Heap.push ({ hc with tch:=(((h.push (.row [(AV.agg [.str X.name,.int .i64 X.ty,.int .i64 X.params,rv,bv])] 5)).push (.row [(AV.agg [.str [],.int .i64 0,.int .i64 0,.nilsl,.nilsl])] 5))).tch }:Heap) (.row [(AV.agg [.str [],.int .i64 0,.int .i64 0,.nilsl,.nilsl])] 5)).next=hc.next+1:=rfl
 have cx4:(Heap.push ({ hc with tch:=(((h.push (.row [(AV.agg [.str X.name,.int .i64 X.ty,.int .i64 X.params,rv,bv])] 5)).push (.row [(AV.agg [.str [],.int .i64 0,.int .i64 0,.nilsl,.nilsl])] 5))).tch }:Heap) (.row [(AV.agg [.str [],.int .i64 0,.int .i64 0,.nilsl,.nilsl])] 5)).get h.next=some (.row [(AV.agg [.str X.name,.int .i64 X.ty,.int .i64 X.params,rv,bv])] 5):=(Heap.get_push_ne _ _ (by omega)).trans cx
 have cz4:(Heap.push ({ hc with tch:=(((h.push (.row [(AV.agg [.str X.name,.int .i64 X.ty,.int .i64 X.params,rv,bv])] 5)).push (.row [(AV.agg [.str [],.int .i64 0,.int .i64 0,.nilsl,.nilsl])] 5))).tch }:Heap) (.row [(AV.agg [.str [],.int .i64 0,.int .i64 0,.nilsl,.nilsl])] 5)).get (h.push (.row [(AV.agg [.str X.name,.int .i64 X.ty,.int .i64 X.params,rv,bv])] 5)).next=some (.row [(AV.agg [.str [],.int .i64 0,.int .i64 0,.nilsl,.nilsl])] 5):=(Heap.get_push_ne _ _ (by omega)).trans cz
 have cq4:(Heap.push ({ hc with tch:=(((h.push (.row [(AV.agg [.str X.name,.int .i64 X.ty,.int .i64 X.params,rv,bv])] 5)).push (.row [(AV.agg [.str [],.int .i64 0,.int .i64 0,.nilsl,.nilsl])] 5))).tch }:Heap) (.row [(AV.agg [.str [],.int .i64 0,.int .i64 0,.nilsl,.nilsl])] 5)).get ({ hc with tch:=(((h.push (.row [(AV.agg [.str X.name,.int .i64 X.ty,.int .i64 X.params,rv,bv])] 5)).push (.row [(AV.agg [.str [],.int .i64 0,.int .i64 0,.nilsl,.nilsl])] 5))).tch }:Heap).next=some (.row [(AV.agg [.str [],.int .i64 0,.int .i64 0,.nilsl,.nilsl])] 5):=Heap.get_push_eq _ _
 have L4:∀t o,loadA t (.ptr h.next 0 o) (Heap.push ({ hc with tch:=(((h.push (.row [(AV.agg [.str X.name,.int .i64 X.ty,.int .i64 X.params,rv,bv])] 5)).push (.row [(AV.agg [.str [],.int .i64 0,.int .i64 0,.nilsl,.nilsl])] 5))).tch }:Heap) (.row [(AV.agg [.str [],.int .i64 0,.int .i64 0,.nilsl,.nilsl])] 5))=partOf t [.str X.name,.int .i64 X.ty,.int .i64 X.params,rv,bv] o:=fun t o=>load_old cx4 t o
 have ebd:=buildCode (s:=X.name) (a:=X.ty) (b:=X.params) q1.cells q1.ok
 have okc:okCells (AV.agg [.str X.name,.int .i64 X.ty,.int .i64 X.params,rv',.nilsl]).cells=true:=by
   show okCells [_,_,_,rv',_]=true
   simp only[okCells_cons,okCells_nil,ok_int,ok_str,okr,Bool.and_self]; rfl
 have s5:storeA ty31 (.ptr ({ hc with tch:=(((h.push (.row [(AV.agg [.str X.name,.int .i64 X.ty,.int .i64 X.params,rv,bv])] 5)).push (.row [(AV.agg [.str [],.int .i64 0,.int .i64 0,.nilsl,.nilsl])] 5))).tch }:Heap).next 0 0) (AV.agg [.str X.name,.int .i64 X.ty,.int .i64 X.params,rv',.nilsl]) (Heap.push ({ hc with tch:=(((h.push (.row [(AV.agg [.str X.name,.int .i64 X.ty,.int .i64 X.params,rv,bv])] 5)).push (.row [(AV.agg [.str [],.int .i64 0,.int .i64 0,.nilsl,.nilsl])] 5))).tch }:Heap) (.row [(AV.agg [.str [],.int .i64 0,.int .i64 0,.nilsl,.nilsl])] 5))=some ((Heap.push ({ hc with tch:=(((h.push (.row [(AV.agg [.str X.name,.int .i64 X.ty,.int .i64 X.params,rv,bv])] 5)).push (.row [(AV.agg [.str [],.int .i64 0,.int .i64 0,.nilsl,.nilsl])] 5))).tch }:Heap) (.row [(AV.agg [.str [],.int .i64 0,.int .i64 0,.nilsl,.nilsl])] 5)).set (({ hc with tch:=(((h.push (.row [(AV.agg [.str X.name,.int .i64 X.ty,.int .i64 X.params,rv,bv])] 5)).push (.row [(AV.agg [.str [],.int .i64 0,.int .i64 0,.nilsl,.nilsl])] 5))).tch }:Heap)).next (.row [(AV.agg [.str X.name,.int .i64 X.ty,.int .i64 X.params,rv',.nilsl])] 5)):=by
   rw[store_old cq4 rfl (by decide) (by decide) okc]; rfl
 have key2:∃l2,AM.look l2 1=.ptr h.next 0 0∧AM.look l2 2=.ptr ((h.push (.row [(AV.agg [.str X.name,.int .i64 X.ty,.int .i64 X.params,rv,bv])] 5))).next 0 0∧AM.look l2 3=.ptr (({ hc with tch:=(((h.push (.row [(AV.agg [.str X.name,.int .i64 X.ty,.int .i64 X.params,rv,bv])] 5)).push (.row [(AV.agg [.str [],.int .i64 0,.int .i64 0,.nilsl,.nilsl])] 5))).tch }:Heap)).next 0 0∧evOpsD env (callω env) qt8_0 (setDst (some 17) rv' (fset 54 l1)) ({ hc with tch:=(((h.push (.row [(AV.agg [.str X.name,.int .i64 X.ty,.int .i64 X.params,rv,bv])] 5)).push (.row [(AV.agg [.str [],.int .i64 0,.int .i64 0,.nilsl,.nilsl])] 5))).tch }:Heap) []=.ok .normal (fset 54 l2) ((Heap.push ({ hc with tch:=(((h.push (.row [(AV.agg [.str X.name,.int .i64 X.ty,.int .i64 X.params,rv,bv])] 5)).push (.row [(AV.agg [.str [],.int .i64 0,.int .i64 0,.nilsl,.nilsl])] 5))).tch }:Heap) (.row [(AV.agg [.str [],.int .i64 0,.int .i64 0,.nilsl,.nilsl])] 5)).set (({ hc with tch:=(((h.push (.row [(AV.agg [.str X.name,.int .i64 X.ty,.int .i64 X.params,rv,bv])] 5)).push (.row [(AV.agg [.str [],.int .i64 0,.int .i64 0,.nilsl,.nilsl])] 5))).tch }:Heap)).next (.row [(AV.agg [.str X.name,.int .i64 X.ty,.int .i64 X.params,rv',.nilsl])] 5)):=by
   refine⟨?_,?_,?_,?_,?_⟩
   rotate_left 4
   · conv=>lhs; unfold qt8_0
     simp -implicitDefEqProofs (maxSteps:=1000000) only[k1,k2,d_care,L4,ebd,s5,XS,XT,XF,AV.cells,Nat.reduceAdd,Nat.reduceLT,Nat.reduceEqDiff,↓reduceIte,Nat.reduceLeDiff]
     rfl
   all_goals simp[AM.look,k1,k2]
 obtain⟨l2,m1,m2,m3,hgo2⟩:=key2
 have cx5:((Heap.push ({ hc with tch:=(((h.push (.row [(AV.agg [.str X.name,.int .i64 X.ty,.int .i64 X.params,rv,bv])] 5)).push (.row [(AV.agg [.str [],.int .i64 0,.int .i64 0,.nilsl,.nilsl])] 5))).tch }:Heap) (.row [(AV.agg [.str [],.int .i64 0,.int .i64 0,.nilsl,.nilsl])] 5)).set (({ hc with tch:=(((h.push (.row [(AV.agg [.str X.name,.int .i64 X.ty,.int .i64 X.params,rv,bv])] 5)).push (.row [(AV.agg [.str [],.int .i64 0,.int .i64 0,.nilsl,.nilsl])] 5))).tch }:Heap)).next (.row [(AV.agg [.str X.name,.int .i64 X.ty,.int .i64 X.params,rv',.nilsl])] 5)).get h.next=some (.row [(AV.agg [.str X.name,.int .i64 X.ty,.int .i64 X.params,rv,bv])] 5):=(Heap.get_set_ne _ _ (by omega)).trans cx4
 have cz5:((Heap.push ({ hc with tch:=(((h.push (.row [(AV.agg [.str X.name,.int .i64 X.ty,.int .i64 X.params,rv,bv])] 5)).push (.row [(AV.agg [.str [],.int .i64 0,.int .i64 0,.nilsl,.nilsl])] 5))).tch }:Heap) (.row [(AV.agg [.str [],.int .i64 0,.int .i64 0,.nilsl,.nilsl])] 5)).set (({ hc with tch:=(((h.push (.row [(AV.agg [.str X.name,.int .i64 X.ty,.int .i64 X.params,rv,bv])] 5)).push (.row [(AV.agg [.str [],.int .i64 0,.int .i64 0,.nilsl,.nilsl])] 5))).tch }:Heap)).next (.row [(AV.agg [.str X.name,.int .i64 X.ty,.int .i64 X.params,rv',.nilsl])] 5)).get (h.push (.row [(AV.agg [.str X.name,.int .i64 X.ty,.int .i64 X.params,rv,bv])] 5)).next=some (.row [(AV.agg [.str [],.int .i64 0,.int .i64 0,.nilsl,.nilsl])] 5):=(Heap.get_set_ne _ _ (by omega)).trans cz4
 have cq5:((Heap.push ({ hc with tch:=(((h.push (.row [(AV.agg [.str X.name,.int .i64 X.ty,.int .i64 X.params,rv,bv])] 5)).push (.row [(AV.agg [.str [],.int .i64 0,.int .i64 0,.nilsl,.nilsl])] 5))).tch }:Heap) (.row [(AV.agg [.str [],.int .i64 0,.int .i64 0,.nilsl,.nilsl])] 5)).set (({ hc with tch:=(((h.push (.row [(AV.agg [.str X.name,.int .i64 X.ty,.int .i64 X.params,rv,bv])] 5)).push (.row [(AV.agg [.str [],.int .i64 0,.int .i64 0,.nilsl,.nilsl])] 5))).tch }:Heap)).next (.row [(AV.agg [.str X.name,.int .i64 X.ty,.int .i64 X.params,rv',.nilsl])] 5)).get ({ hc with tch:=(((h.push (.row [(AV.agg [.str X.name,.int .i64 X.ty,.int .i64 X.params,rv,bv])] 5)).push (.row [(AV.agg [.str [],.int .i64 0,.int .i64 0,.nilsl,.nilsl])] 5))).tch }:Heap).next=some (.row [(AV.agg [.str X.name,.int .i64 X.ty,.int .i64 X.params,rv',.nilsl])] 5):=Heap.get_set_eq _ _ cq4
 have L5:loadA ty29 (.ptr h.next 0 4) ((Heap.push ({ hc with tch:=(((h.push (.row [(AV.agg [.str X.name,.int .i64 X.ty,.int .i64 X.params,rv,bv])] 5)).push (.row [(AV.agg [.str [],.int .i64 0,.int .i64 0,.nilsl,.nilsl])] 5))).tch }:Heap) (.row [(AV.agg [.str [],.int .i64 0,.int .i64 0,.nilsl,.nilsl])] 5)).set (({ hc with tch:=(((h.push (.row [(AV.agg [.str X.name,.int .i64 X.ty,.int .i64 X.params,rv,bv])] 5)).push (.row [(AV.agg [.str [],.int .i64 0,.int .i64 0,.nilsl,.nilsl])] 5))).tch }:Heap)).next (.row [(AV.agg [.str X.name,.int .i64 X.ty,.int .i64 X.params,rv',.nilsl])] 5))=some bv:=by rw[load_old cx5]; rfl
 have hbl:=hbv.len
 have key3:∃l3,AM.look l3 2=.ptr ((h.push (.row [(AV.agg [.str X.name,.int .i64 X.ty,.int .i64 X.params,rv,bv])] 5))).next 0 0∧AM.look l3 3=.ptr (({ hc with tch:=(((h.push (.row [(AV.agg [.str X.name,.int .i64 X.ty,.int .i64 X.params,rv,bv])] 5)).push (.row [(AV.agg [.str [],.int .i64 0,.int .i64 0,.nilsl,.nilsl])] 5))).tch }:Heap)).next 0 0∧AM.look l3 20=bv∧AM.look l3 21=.int .i64 (X.blocks.length:Int)∧AM.look l3 22=.int .i64 ((0:Nat):Int)∧seqA (evω env kt8_0) (.ok .normal (fset 54 l2) ((Heap.push ({ hc with tch:=(((h.push (.row [(AV.agg [.str X.name,.int .i64 X.ty,.int .i64 X.params,rv,bv])] 5)).push (.row [(AV.agg [.str [],.int .i64 0,.int .i64 0,.nilsl,.nilsl])] 5))).tch }:Heap) (.row [(AV.agg [.str [],.int .i64 0,.int .i64 0,.nilsl,.nilsl])] 5)).set (({ hc with tch:=(((h.push (.row [(AV.agg [.str X.name,.int .i64 X.ty,.int .i64 X.params,rv,bv])] 5)).push (.row [(AV.agg [.str [],.int .i64 0,.int .i64 0,.nilsl,.nilsl])] 5))).tch }:Heap)).next (.row [(AV.agg [.str X.name,.int .i64 X.ty,.int .i64 X.params,rv',.nilsl])] 5)))=seqA (evω env kt8_3) (blockA 0 (evω env (.loop lp8_0) (fset 54 l3) ((Heap.push ({ hc with tch:=(((h.push (.row [(AV.agg [.str X.name,.int .i64 X.ty,.int .i64 X.params,rv,bv])] 5)).push (.row [(AV.agg [.str [],.int .i64 0,.int .i64 0,.nilsl,.nilsl])] 5))).tch }:Heap) (.row [(AV.agg [.str [],.int .i64 0,.int .i64 0,.nilsl,.nilsl])] 5)).set (({ hc with tch:=(((h.push (.row [(AV.agg [.str X.name,.int .i64 X.ty,.int .i64 X.params,rv,bv])] 5)).push (.row [(AV.agg [.str [],.int .i64 0,.int .i64 0,.nilsl,.nilsl])] 5))).tch }:Heap)).next (.row [(AV.agg [.str X.name,.int .i64 X.ty,.int .i64 X.params,rv',.nilsl])] 5)))):=by
   refine⟨?_,?_,?_,?_,?_,?_,?_⟩
   rotate_left 6
   · conv=>lhs; unfold kt8_0
     simp -implicitDefEqProofs (maxSteps:=1000000) only[m1,m2,m3,L5,hbl,XS,XT,XF,AV.cells,Nat.reduceAdd,Nat.reduceLT,Nat.reduceEqDiff,↓reduceIte,Nat.reduceLeDiff]
     rfl
   all_goals simp[AM.look,m2,m3]
 obtain⟨l3,t2,t3,t20,t21,t22,hgo3⟩:=key3
 have g5:Grow h ((Heap.push ({ hc with tch:=(((h.push (.row [(AV.agg [.str X.name,.int .i64 X.ty,.int .i64 X.params,rv,bv])] 5)).push (.row [(AV.agg [.str [],.int .i64 0,.int .i64 0,.nilsl,.nilsl])] 5))).tch }:Heap) (.row [(AV.agg [.str [],.int .i64 0,.int .i64 0,.nilsl,.nilsl])] 5)).set (({ hc with tch:=(((h.push (.row [(AV.agg [.str X.name,.int .i64 X.ty,.int .i64 X.params,rv,bv])] 5)).push (.row [(AV.agg [.str [],.int .i64 0,.int .i64 0,.nilsl,.nilsl])] 5))).tch }:Heap)).next (.row [(AV.agg [.str X.name,.int .i64 X.ty,.int .i64 X.params,rv',.nilsl])] 5)):=((g2.trans g23).trans (Grow.push _ _)).set _ (by omega)
 have n5:((Heap.push ({ hc with tch:=(((h.push (.row [(AV.agg [.str X.name,.int .i64 X.ty,.int .i64 X.params,rv,bv])] 5)).push (.row [(AV.agg [.str [],.int .i64 0,.int .i64 0,.nilsl,.nilsl])] 5))).tch }:Heap) (.row [(AV.agg [.str [],.int .i64 0,.int .i64 0,.nilsl,.nilsl])] 5)).set (({ hc with tch:=(((h.push (.row [(AV.agg [.str X.name,.int .i64 X.ty,.int .i64 X.params,rv,bv])] 5)).push (.row [(AV.agg [.str [],.int .i64 0,.int .i64 0,.nilsl,.nilsl])] 5))).tch }:Heap)).next (.row [(AV.agg [.str X.name,.int .i64 X.ty,.int .i64 X.params,rv',.nilsl])] 5)).next=hc.next+1:=rfl
 obtain⟨h6,l6,ov,F2,hin,u2,u3,u20,u21,u22,rc6,mod6,kp6,cell6,own6,sub6⟩:=caLoop (X:=X) (rv':=rv') (bv:=bv) (q:=({ hc with tch:=(((h.push (.row [(AV.agg [.str X.name,.int .i64 X.ty,.int .i64 X.params,rv,bv])] 5)).push (.row [(AV.agg [.str [],.int .i64 0,.int .i64 0,.nilsl,.nilsl])] 5))).tch }:Heap).next) (r:=(h.push (.row [(AV.agg [.str X.name,.int .i64 X.ty,.int .i64 X.params,rv,bv])] 5)).next) (h0:=h) (hb:=((Heap.push ({ hc with tch:=(((h.push (.row [(AV.agg [.str X.name,.int .i64 X.ty,.int .i64 X.params,rv,bv])] 5)).push (.row [(AV.agg [.str [],.int .i64 0,.int .i64 0,.nilsl,.nilsl])] 5))).tch }:Heap) (.row [(AV.agg [.str [],.int .i64 0,.int .i64 0,.nilsl,.nilsl])] 5)).set (({ hc with tch:=(((h.push (.row [(AV.agg [.str X.name,.int .i64 X.ty,.int .i64 X.params,rv,bv])] 5)).push (.row [(AV.agg [.str [],.int .i64 0,.int .i64 0,.nilsl,.nilsl])] 5))).tch }:Heap)).next (.row [(AV.agg [.str X.name,.int .i64 X.ty,.int .i64 X.params,rv',.nilsl])] 5))) (by omega) (by omega) (by omega) (by omega) (by omega) okr hbv (l:=l3) (h:=((Heap.push ({ hc with tch:=(((h.push (.row [(AV.agg [.str X.name,.int .i64 X.ty,.int .i64 X.params,rv,bv])] 5)).push (.row [(AV.agg [.str [],.int .i64 0,.int .i64 0,.nilsl,.nilsl])] 5))).tch }:Heap) (.row [(AV.agg [.str [],.int .i64 0,.int .i64 0,.nilsl,.nilsl])] 5)).set (({ hc with tch:=(((h.push (.row [(AV.agg [.str X.name,.int .i64 X.ty,.int .i64 X.params,rv,bv])] 5)).push (.row [(AV.agg [.str [],.int .i64 0,.int .i64 0,.nilsl,.nilsl])] 5))).tch }:Heap)).next (.row [(AV.agg [.str X.name,.int .i64 X.ty,.int .i64 X.params,rv',.nilsl])] 5))) (ov:=.nilsl) (F:=[]) ⟨t2,t3,t20,t21,t22,cz5,.refl _ _,g5,cq5,OwnL.nil,fun i hi=>by cases hi⟩
 rw[List.take_length] at own6
 have e6:((Heap.push ({ hc with tch:=(((h.push (.row [(AV.agg [.str X.name,.int .i64 X.ty,.int .i64 X.params,rv,bv])] 5)).push (.row [(AV.agg [.str [],.int .i64 0,.int .i64 0,.nilsl,.nilsl])] 5))).tch }:Heap) (.row [(AV.agg [.str [],.int .i64 0,.int .i64 0,.nilsl,.nilsl])] 5)).set (({ hc with tch:=(((h.push (.row [(AV.agg [.str X.name,.int .i64 X.ty,.int .i64 X.params,rv,bv])] 5)).push (.row [(AV.agg [.str [],.int .i64 0,.int .i64 0,.nilsl,.nilsl])] 5))).tch }:Heap)).next (.row [(AV.agg [.str X.name,.int .i64 X.ty,.int .i64 X.params,rv',.nilsl])] 5)).next≤h6.next:=mod6.nx
 have L6:loadA ty31 (.ptr ({ hc with tch:=(((h.push (.row [(AV.agg [.str X.name,.int .i64 X.ty,.int .i64 X.params,rv,bv])] 5)).push (.row [(AV.agg [.str [],.int .i64 0,.int .i64 0,.nilsl,.nilsl])] 5))).tch }:Heap).next 0 0) h6=some (AV.agg [.str X.name,.int .i64 X.ty,.int .i64 X.params,rv',ov]):=by rw[load_old cell6]; rfl
 have ok6:okCells (AV.agg [.str X.name,.int .i64 X.ty,.int .i64 X.params,rv',ov]).cells=true:=by
   show okCells [_,_,_,rv',ov]=true
   simp only[okCells_cons,okCells_nil,ok_int,ok_str,okr,own6.ok,Bool.and_self]
 have s7:storeA ty31 (.ptr (h.push (.row [(AV.agg [.str X.name,.int .i64 X.ty,.int .i64 X.params,rv,bv])] 5)).next 0 0) (AV.agg [.str X.name,.int .i64 X.ty,.int .i64 X.params,rv',ov]) h6=some (h6.set ((h.push (.row [(AV.agg [.str X.name,.int .i64 X.ty,.int .i64 X.params,rv,bv])] 5))).next (.row [(AV.agg [.str X.name,.int .i64 X.ty,.int .i64 X.params,rv',ov])] 5)):=by
   rw[store_old rc6 rfl (by decide) (by decide) ok6]; rfl
 have L7:loadA ty31 (.ptr (h.push (.row [(AV.agg [.str X.name,.int .i64 X.ty,.int .i64 X.params,rv,bv])] 5)).next 0 0) (h6.set ((h.push (.row [(AV.agg [.str X.name,.int .i64 X.ty,.int .i64 X.params,rv,bv])] 5))).next (.row [(AV.agg [.str X.name,.int .i64 X.ty,.int .i64 X.params,rv',ov])] 5))=some (AV.agg [.str X.name,.int .i64 X.ty,.int .i64 X.params,rv',ov]):=by rw[load_set rc6]; rfl
 have hF1:∀i∈F1,h.next+1+1≤i∧i < hc.next:=fun i hi=>hnew i hi
 have on1:On F1 hc (h6.set ((h.push (.row [(AV.agg [.str X.name,.int .i64 X.ty,.int .i64 X.params,rv,bv])] 5))).next (.row [(AV.agg [.str X.name,.int .i64 X.ty,.int .i64 X.params,rv',ov])] 5)):=⟨by show hc.next≤h6.next; omega,fun i hi=>by
   have:=hF1 i hi
   exact (Heap.get_set_ne _ _ (by omega)).trans ((mod6.get i (by omega) (fun hi=>by have:=List.mem_singleton.1 hi; omega)).trans ((Heap.get_set_ne _ _ (by omega)).trans (Heap.get_push_ne _ _ (by omega))))⟩
 have on2:On F2 h6 (h6.set ((h.push (.row [(AV.agg [.str X.name,.int .i64 X.ty,.int .i64 X.params,rv,bv])] 5))).next (.row [(AV.agg [.str X.name,.int .i64 X.ty,.int .i64 X.params,rv',ov])] 5)):=⟨Nat.le_refl _,fun i hi=>Heap.get_set_ne _ _ (by have:=sub6 i hi; omega)⟩
 refine⟨(AV.agg [.str X.name,.int .i64 X.ty,.int .i64 X.params,rv',ov]),(h6.set ((h.push (.row [(AV.agg [.str X.name,.int .i64 X.ty,.int .i64 X.params,rv,bv])] 5))).next (.row [(AV.agg [.str X.name,.int .i64 X.ty,.int .i64 X.params,rv',ov])] 5)),F1++F2,?_,⟨rv',ov,F1,F2,rfl,IntO.good.own on1 q1,BlockO.good.own on2 own6,rfl,?_⟩,kp6.set _ (by omega),fun i hi=>?_⟩
 · rw[hgo1,d_quietG hcall g3,hgo2,hgo3,hin]
   unfold kt8_3
   simp -implicitDefEqProofs (maxSteps:=1000000) only[u2,u3,L6,s7,L7,res_cell ti31,XS,XT,XF,AV.cells,Nat.reduceAdd,Nat.reduceLT,Nat.reduceEqDiff,↓reduceIte,Nat.reduceLeDiff]
 · refine List.nodup_append.2 ⟨q1.nodup,own6.nodup,fun a ha b hb e=>?_⟩
   have:=hF1 a ha
   have:=sub6 b hb
   omega
 · rcases List.mem_append.1 hi with hi | hi
   · have:=hF1 i hi; exact⟨by omega,by show i < h6.next; omega⟩
   · have:=sub6 i hi
     have:i < h6.next:=BlockO.good.old own6 i hi
     exact⟨by omega,this⟩
end Go.Proofs.AmEnv
namespace Go.Proofs.AmEnv
open Go Go.AM
structure CodeAt (h:Heap) (fv:AV) (i:Nat) (C:MCode) (rv bv:AV):Prop where
 regs:IntsR h rv C.regs
 blocks:BlocksR h bv C.blocks
 ix:indexAddrA env (.slice 31) i fv=some (pIx fv i)
 ld:loadA ty31 (pIx fv i) h=some (.agg [.str C.name,.int .i64 C.ty,.int .i64 C.params,rv,bv])
 o:∀d,plusOff (pIx fv i) d=some (pOff (pIx fv i) d)
 l0:loadA ty9 (pOff (pIx fv i) 0) h=some (.str C.name)
 l1:loadA ty3 (pOff (pIx fv i) 1) h=some (.int .i64 C.ty)
 l2:loadA ty3 (pOff (pIx fv i) 2) h=some (.int .i64 C.params)
 l3:loadA ty28 (pOff (pIx fv i) 3) h=some rv
 l4:loadA ty29 (pOff (pIx fv i) 4) h=some bv
theorem codeAt {h:Heap} {fv:AV} {Cs:List MCode} {i:Nat} {C:MCode} (hf:CodesR h fv Cs) (hC:Cs[i]?=some C):∃rv bv,CodeAt h fv i C rv bv:=by
 obtain⟨xs,ha,hxs⟩:=hf.ex
 obtain⟨x,hx,hxS⟩:=hxs.get hC
 have a1:=ha.at hx
 have i1:=ha.idx hx ti31 rfl
 obtain⟨rv,bv,rfl,h1,h2⟩:=hxS
 exact⟨rv,bv,h1,h2,i1,by rw[a1.load]; rfl,fun d=>(a1.off d).1,by rw[(a1.off 0).2.load]; rfl,by rw[(a1.off 1).2.load]; rfl,by rw[(a1.off 2).2.load]; rfl,by rw[(a1.off 3).2.load]; rfl,by rw[(a1.off 4).2.load]; rfl⟩
structure BlockAt (h:Heap) (bv:AV) (i:Nat) (B:MBlock) (cv:AV):Prop where
 code:InstrsR h cv B.code
 ix:indexAddrA env (.slice 40) i bv=some (pIx bv i)
 ld:loadA ty40 (pIx bv i) h=some (.agg [cv,.int .i64 B.kind,.int .i64 B.a,.int .i64 B.to,.int .i64 B.el])
 o:∀d,plusOff (pIx bv i) d=some (pOff (pIx bv i) d)
 l0:loadA ty36 (pOff (pIx bv i) 0) h=some cv
 l1:loadA ty38 (pOff (pIx bv i) 1) h=some (.agg [.int .i64 B.kind,.int .i64 B.a,.int .i64 B.to,.int .i64 B.el])
theorem blockAt {h:Heap} {bv:AV} {Bs:List MBlock} {i:Nat} {B:MBlock} (hf:BlocksR h bv Bs) (hB:Bs[i]?=some B):∃cv,BlockAt h bv i B cv:=by
 obtain⟨xs,ha,hxs⟩:=hf.ex
 obtain⟨x,hx,hxS⟩:=hxs.get hB
 have a1:=ha.at hx
 have i1:=ha.idx hx ti40 rfl
 obtain⟨cv,rfl,h1⟩:=hxS
 exact⟨cv,h1,i1,by rw[a1.load]; rfl,fun d=>(a1.off d).1,by rw[(a1.off 0).2.load]; rfl,by rw[(a1.off 1).2.load]; rfl⟩
structure InstrAt (h:Heap) (cv:AV) (i:Nat) (I:MInstr) (av:AV):Prop where
 args:IntsR h av I.args
 ix:indexAddrA env (.slice 42) i cv=some (pIx cv i)
 ld:loadA ty42 (pIx cv i) h=some (.agg [.int .i64 I.op,.int .i64 I.ty,.int .i64 I.dst,.int .i64 I.a,.int .i64 I.b,.int .i64 I.n,.str I.s,av])
 o:∀d,plusOff (pIx cv i) d=some (pOff (pIx cv i) d)
 l7:loadA ty28 (pOff (pIx cv i) 7) h=some av
theorem instrAt {h:Heap} {cv:AV} {Is:List MInstr} {i:Nat} {I:MInstr} (hf:InstrsR h cv Is) (hI:Is[i]?=some I):∃av,InstrAt h cv i I av:=by
 obtain⟨xs,ha,hxs⟩:=hf.ex
 obtain⟨x,hx,hxS⟩:=hxs.get hI
 have a1:=ha.at hx
 have i1:=ha.idx hx ti42 rfl
 obtain⟨av,rfl,h1⟩:=hxS
 exact⟨av,h1,i1,by rw[a1.load]; rfl,fun d=>(a1.off d).1,by rw[(a1.off 7).2.load]; rfl⟩
structure GlobAt (h:Heap) (gv:AV) (i:Nat) (G:MGlob):Prop where
 ix:indexAddrA env (.slice 56) i gv=some (pIx gv i)
 ld:loadA ty56 (pIx gv i) h=some (.agg [.str G.name,.int .i64 G.ty,.int .i64 G.size,.int .i64 G.at_])
 o:∀d,plusOff (pIx gv i) d=some (pOff (pIx gv i) d)
 l1:loadA ty3 (pOff (pIx gv i) 1) h=some (.int .i64 G.ty)
 l2:loadA ty3 (pOff (pIx gv i) 2) h=some (.int .i64 G.size)
theorem globAt {h:Heap} {gv:AV} {Gs:List MGlob} {i:Nat} {G:MGlob} (hf:GlobsR h gv Gs) (hG:Gs[i]?=some G):GlobAt h gv i G:=by
 obtain⟨xs,ha,hxs⟩:=hf.ex
 obtain⟨x,hx,hxS⟩:=hxs.get hG
 have a1:=ha.at hx
 have i1:=ha.idx hx ti56 rfl
 cases hxS
 exact⟨i1,by rw[a1.load]; rfl,fun d=>(a1.off d).1,by rw[(a1.off 1).2.load]; rfl,by rw[(a1.off 2).2.load]; rfl⟩
def Keep (S:List Nat) (l l0:List (Nat × AV)):Prop:=∀i∈S,AM.look l i=AM.look l0 i
theorem Keep.refl (S:List Nat) (l:List (Nat × AV)):Keep S l l:=fun _ _=>rfl
theorem Keep.trans {S:List Nat} {l l1 l2:List (Nat × AV)} (a:Keep S l l1) (b:Keep S l1 l2):Keep S l l2:=fun i hi=>(a i hi).trans (b i hi)
theorem Keep.sub {S T:List Nat} {l l1:List (Nat × AV)} (a:Keep S l l1) (h:∀i∈T,i∈S):Keep T l l1:=fun i hi=>a i (h i hi)
set_option maxHeartbeats 4000000 in
theorem bgInstrs {h:Heap} {C:MCode} {rv bv:AV} {p k:Nat} {B:MBlock} (cell:h.get p=some (.row [(AV.agg [.str C.name,.int .i64 C.ty,.int .i64 C.params,rv,bv])] 5)) (hbv:BlocksR h bv C.blocks) (hB:C.blocks[k]?=some B) {l:List (Nat × AV)} (l6:AM.look l 6=.ptr p 0 0) (l7:AM.look l 7=.int .i64 (k:Int)) (l8:AM.look l 8=.int .i64 ((0:Nat):Int)) {z:Int} (l3:AM.look l 3=.int .i64 z) :
   ∃l' z',evω env (.loop lp14_3) (fset 96 l) h=.ok (.exit 6) (fset 96 l') h∧Keep [1,4,5,6,7] l' l∧AM.look l' 3=.int .i64 z':=by
 obtain⟨cv,b⟩:=blockAt hbv hB
 have hle:=b.code.le
 have hlen:=b.code.len
 have L:loadA ty29 (.ptr p 0 4) h=some bv:=by rw[load_old cell]; rfl
 have hix:=b.ix
 have ho:=b.o
 have hl0:=b.l0
 refine loop_ind (E:=env) (nt:=96) (body:=lp14_3) B.code.length (fun j lk hk=>hk=h∧Keep [1,4,5,6,7] lk l∧AM.look lk 8=.int .i64 (j:Int)∧∃z,AM.look lk 3=.int .i64 z)
   (fun r=>∃l' z',r=.ok (.exit 6) (fset 96 l') h∧Keep [1,4,5,6,7] l' l∧AM.look l' 3=.int .i64 z') ?_ ?_ B.code.length 0 l h (by omega) ⟨rfl,.refl _ _,l8,z,l3⟩
 · rintro j lk hk hj ⟨rfl,kp,k8,z,k3⟩
   left
   obtain⟨I,hI⟩:∃I,B.code[j]?=some I:=⟨_,List.getElem?_eq_getElem hj⟩
   obtain⟨av,a⟩:=instrAt b.code hI
   have aix:=a.ix
   have ao:=a.o
   have al:=a.l7
   have aln:=a.args.len
   have k6:=(kp 6 (by simp)).trans l6
   have k7:=(kp 7 (by simp)).trans l7
   have hc:((j:Int) < (B.code.length:Int)):=by omega
   have w1:IntKind.wrap .i64 ((j:Int)+1)=((j+1:Nat):Int):=AM.wrap_small (n:=j+1) (by omega)
   have key:∃l',Keep [1,4,5,6,7] l' lk∧AM.look l' 8=.int .i64 ((j+1:Nat):Int)∧(∃z,AM.look l' 3=.int .i64 z)∧evω env (.loop lp14_3) (fset 96 lk) hk=evω env (.loop lp14_3) (fset 96 l') hk:=by
     refine⟨?_,?_,?_,?_,?_⟩
     rotate_left 4
     · conv=>lhs; rw[w_loop]; unfold lp14_3
       simp -implicitDefEqProofs (maxSteps:=1000000) only[k3,k6,k7,k8,L,hix,ho,hl0,hlen,eq_true hc,aix,ao,al,aln,w1,XS,XT,XF,AV.cells,Nat.reduceAdd,Nat.reduceLT,Nat.reduceEqDiff,↓reduceIte,Nat.reduceLeDiff]
       rfl
     · simp[Keep,AM.look]
     · simp[AM.look]
     · simp[AM.look]
   obtain⟨l',q1,q2,q3,hgo⟩:=key
   exact⟨l',hk,⟨rfl,q1.trans kp,q2,q3⟩,hgo⟩
 · rintro lk hk ⟨rfl,kp,k8,z,k3⟩
   have k6:=(kp 6 (by simp)).trans l6
   have k7:=(kp 7 (by simp)).trans l7
   have hc:¬ ((B.code.length:Int) < (B.code.length:Int)):=by omega
   have key:∃l',Keep [1,4,5,6,7] l' lk∧(∃z,AM.look l' 3=.int .i64 z)∧evω env (.loop lp14_3) (fset 96 lk) hk=.ok (.exit 6) (fset 96 l') hk:=by
     refine⟨?_,?_,?_,?_⟩
     rotate_left 3
     · conv=>lhs; rw[w_loop]; unfold lp14_3
       simp -implicitDefEqProofs (maxSteps:=1000000) only[k3,k6,k7,k8,L,hix,ho,hl0,hlen,eq_false hc,XS,XT,XF,AV.cells,Nat.reduceAdd,Nat.reduceLT,Nat.reduceEqDiff,↓reduceIte,Nat.reduceLeDiff]
       rfl
     · simp[Keep,AM.look]
     · simp[AM.look,k3]
   obtain⟨l',q1,⟨z',q3⟩,hgo⟩:=key
   exact⟨l',z',hgo,q1.trans kp,q3⟩
end Go.Proofs.AmEnv
namespace Go.Proofs.AmEnv
open Go Go.AM
set_option maxHeartbeats 4000000 in
theorem bgBlocks {h:Heap} {C:MCode} {rv bv:AV} {p:Nat} (cell:h.get p=some (.row [(AV.agg [.str C.name,.int .i64 C.ty,.int .i64 C.params,rv,bv])] 5)) (hbv:BlocksR h bv C.blocks) {l:List (Nat × AV)} (l6:AM.look l 6=.ptr p 0 0) (l7:AM.look l 7=.int .i64 ((0:Nat):Int)) {z:Int} (l3:AM.look l 3=.int .i64 z) :
   ∃l' z',evω env (.loop lp14_2) (fset 96 l) h=.ok (.exit 4) (fset 96 l') h∧Keep [1,4,5,6] l' l∧AM.look l' 3=.int .i64 z':=by
 have hle:=hbv.le
 have hlen:=hbv.len
 have L:loadA ty29 (.ptr p 0 4) h=some bv:=by rw[load_old cell]; rfl
 refine loop_ind (E:=env) (nt:=96) (body:=lp14_2) C.blocks.length (fun k lk hk=>hk=h∧Keep [1,4,5,6] lk l∧AM.look lk 7=.int .i64 (k:Int)∧∃z,AM.look lk 3=.int .i64 z)
   (fun r=>∃l' z',r=.ok (.exit 4) (fset 96 l') h∧Keep [1,4,5,6] l' l∧AM.look l' 3=.int .i64 z') ?_ ?_ C.blocks.length 0 l h (by omega) ⟨rfl,.refl _ _,l7,z,l3⟩
 · rintro k lk hk hj ⟨rfl,kp,k7,z,k3⟩
   left
   obtain⟨B,hB⟩:∃B,C.blocks[k]?=some B:=⟨_,List.getElem?_eq_getElem hj⟩
   obtain⟨cv,b⟩:=blockAt hbv hB
   have bix:=b.ix
   have bo:=b.o
   have bl:=b.l0
   have bln:=b.code.len
   have k6:=(kp 6 (by simp)).trans l6
   have hc:((k:Int) < (C.blocks.length:Int)):=by omega
   have w1:IntKind.wrap .i64 ((k:Int)+1)=((k+1:Nat):Int):=AM.wrap_small (n:=k+1) (by omega)
   have key:∃l4,Keep [1,4,5,6] l4 lk∧AM.look l4 7=.int .i64 (k:Int)∧AM.look l4 8=.int .i64 ((0:Nat):Int)∧(∃z,AM.look l4 3=.int .i64 z)∧evω env (.loop lp14_2) (fset 96 lk) hk=seqA (evω env (.loop lp14_2)) (seqA (evω env kt14_1) (blockA 5 (blockA 6 (evω env (.loop lp14_3) (fset 96 l4) hk)))):=by
     refine⟨?_,?_,?_,?_,?_,?_⟩
     rotate_left 5
     · conv=>lhs; rw[w_loop]; unfold lp14_2
       simp -implicitDefEqProofs (maxSteps:=1000000) only[k3,k6,k7,L,hlen,eq_true hc,bix,bo,bl,bln,XS,XT,XF,AV.cells,Nat.reduceAdd,Nat.reduceLT,Nat.reduceEqDiff,↓reduceIte,Nat.reduceLeDiff]
       rfl
     · simp[Keep,AM.look]
     · simp[AM.look,k7]
     · simp[AM.look]
     · simp[AM.look]
   obtain⟨l4,q1,q7,q8,⟨z4,q3⟩,hgo⟩:=key
   have q6:=(q1 6 (by simp)).trans k6
   obtain⟨l5,z5,hin,r1,r3⟩:=bgInstrs cell hbv hB q6 q7 q8 q3
   rw[hgo,hin]
   have r7:=(r1 7 (by simp)).trans q7
   have key:∃l',Keep [1,4,5,6] l' l5∧AM.look l' 7=.int .i64 ((k+1:Nat):Int)∧AM.look l' 3=.int .i64 z5∧seqA (evω env (.loop lp14_2)) (seqA (evω env kt14_1) (blockA 5 (blockA 6 (.ok (.exit 6) (fset 96 l5) hk))))=evω env (.loop lp14_2) (fset 96 l') hk:=by
     refine⟨?_,?_,?_,?_,?_⟩
     rotate_left 4
     · conv=>lhs; unfold kt14_1
       simp -implicitDefEqProofs (maxSteps:=1000000) only[r7,w1,XS,XT,XF,AV.cells,Nat.reduceAdd,Nat.reduceLT,Nat.reduceEqDiff,↓reduceIte,Nat.reduceLeDiff]
       rfl
     · simp[Keep,AM.look]
     · simp[AM.look]
     · simp[AM.look,r3]
   obtain⟨l',t1,t7,t3,hgo2⟩:=key
   exact⟨l',hk,⟨rfl,t1.trans ((r1.sub (by simp)).trans (q1.trans kp)),t7,z5,t3⟩,hgo2⟩
 · rintro lk hk ⟨rfl,kp,k7,z,k3⟩
   have k6:=(kp 6 (by simp)).trans l6
   have hc:¬ ((C.blocks.length:Int) < (C.blocks.length:Int)):=by omega
   have key:∃l',Keep [1,4,5,6] l' lk∧AM.look l' 3=.int .i64 z∧evω env (.loop lp14_2) (fset 96 lk) hk=.ok (.exit 4) (fset 96 l') hk:=by
     refine⟨?_,?_,?_,?_⟩
     rotate_left 3
     · conv=>lhs; rw[w_loop]; unfold lp14_2
       simp -implicitDefEqProofs (maxSteps:=1000000) only[k3,k6,k7,L,hlen,eq_false hc,XS,XT,XF,AV.cells,Nat.reduceAdd,Nat.reduceLT,Nat.reduceEqDiff,↓reduceIte,Nat.reduceLeDiff]
       rfl
     · simp[Keep,AM.look]
     · simp[AM.look,k3]
   obtain⟨l',q1,q3,hgo⟩:=key
   exact⟨l',z,hgo,q1.trans kp,q3⟩
set_option maxHeartbeats 8000000 in
theorem bgFuncs {h0 h:Heap} {gv fv:AV} {Cs:List MCode} {p:Nat} (hg:Grow h0 h) (cell:h.get p=some (.row [(AV.agg [gv,fv])] 2)) (hp:p < h.next) (hfv:CodesR h fv Cs) {l:List (Nat × AV)} (l1:AM.look l 1=.ptr p 0 0) (l5:AM.look l 5=.int .i64 ((0:Nat):Int)) {z:Int} (l3:AM.look l 3=.int .i64 z) :
   ∃h',Grow h0 h'∧((∃l',evω env (.loop lp14_1) (fset 96 l) h=.ok (.exit 2) (fset 96 l') h')∨(∃l',evω env (.loop lp14_1) (fset 96 l) h=.ok .ret (fset 96 l') h'∧AM.look l' 2=.bool true)):=by
 have hle:=hfv.le
 have hlen:=hfv.len
 refine loop_ind (E:=env) (nt:=96) (body:=lp14_1) Cs.length (fun k lk hk=>Grow h hk∧AM.look lk 1=.ptr p 0 0∧AM.look lk 5=.int .i64 (k:Int)∧∃z,AM.look lk 3=.int .i64 z)
   (fun r=>∃h',Grow h0 h'∧((∃l',r=.ok (.exit 2) (fset 96 l') h')∨(∃l',r=.ok .ret (fset 96 l') h'∧AM.look l' 2=.bool true))) ?_ ?_ Cs.length 0 l h (by omega) ⟨.refl h,l1,l5,z,l3⟩
 · rintro k lk hk hj ⟨g,k1,k5,z,k3⟩
   obtain⟨C,hC⟩:∃C,Cs[k]?=some C:=⟨_,List.getElem?_eq_getElem hj⟩
   obtain⟨rv,bv,c⟩:=codeAt (CodesR.stays g.kp hfv) hC
   have cix:=c.ix
   have cld:=c.ld
   have cellk:hk.get p=some (.row [(AV.agg [gv,fv])] 2):=(g.get p hp).trans cell
   have L:loadA ty23 (.ptr p 0 1) hk=some fv:=by rw[load_old cellk]; rfl
   have okr:=c.regs.ok
   have okb:=c.blocks.ok
   have ok0:okCells (AV.agg [.str C.name,.int .i64 C.ty,.int .i64 C.params,rv,bv]).cells=true:=by
     show okCells [_,_,_,rv,bv]=true
     simp only[okCells_cons,okCells_nil,ok_int,ok_str,okr,okb,Bool.and_self]
   have c1:(hk.push (.row [(AV.agg [.str [],.int .i64 0,.int .i64 0,.nilsl,.nilsl])] 5)).get hk.next=some (.row [(AV.agg [.str [],.int .i64 0,.int .i64 0,.nilsl,.nilsl])] 5):=Heap.get_push_eq hk _
   have s1:storeA ty31 (.ptr hk.next 0 0) (AV.agg [.str C.name,.int .i64 C.ty,.int .i64 C.params,rv,bv]) (hk.push (.row [(AV.agg [.str [],.int .i64 0,.int .i64 0,.nilsl,.nilsl])] 5))=some ((hk.push (.row [(AV.agg [.str [],.int .i64 0,.int .i64 0,.nilsl,.nilsl])] 5)).set hk.next (.row [(AV.agg [.str C.name,.int .i64 C.ty,.int .i64 C.params,rv,bv])] 5)):=by
     rw[store_old c1 rfl (by decide) (by decide) ok0]; rfl
   have c2:((hk.push (.row [(AV.agg [.str [],.int .i64 0,.int .i64 0,.nilsl,.nilsl])] 5)).set hk.next (.row [(AV.agg [.str C.name,.int .i64 C.ty,.int .i64 C.params,rv,bv])] 5)).get hk.next=some (.row [(AV.agg [.str C.name,.int .i64 C.ty,.int .i64 C.params,rv,bv])] 5):=Heap.get_set_eq _ _ c1
   have L3:loadA ty28 (.ptr hk.next 0 3) ((hk.push (.row [(AV.agg [.str [],.int .i64 0,.int .i64 0,.nilsl,.nilsl])] 5)).set hk.next (.row [(AV.agg [.str C.name,.int .i64 C.ty,.int .i64 C.params,rv,bv])] 5))=some rv:=by rw[load_old c2]; rfl
   have L4:loadA ty29 (.ptr hk.next 0 4) ((hk.push (.row [(AV.agg [.str [],.int .i64 0,.int .i64 0,.nilsl,.nilsl])] 5)).set hk.next (.row [(AV.agg [.str C.name,.int .i64 C.ty,.int .i64 C.params,rv,bv])] 5))=some bv:=by rw[load_old c2]; rfl
   have n3:=c.regs.len
   have n4:=c.blocks.len
   have g2:Grow hk ((hk.push (.row [(AV.agg [.str [],.int .i64 0,.int .i64 0,.nilsl,.nilsl])] 5)).set hk.next (.row [(AV.agg [.str C.name,.int .i64 C.ty,.int .i64 C.params,rv,bv])] 5)):=(Grow.push hk _).set _ (Nat.le_refl _)
   have hc:((k:Int) < (Cs.length:Int)):=by omega
   have w1:IntKind.wrap .i64 ((k:Int)+1)=((k+1:Nat):Int):=AM.wrap_small (n:=k+1) (by omega)
   have key:∃l4,AM.look l4 1=.ptr p 0 0∧AM.look l4 5=.int .i64 (k:Int)∧AM.look l4 6=.ptr hk.next 0 0∧AM.look l4 7=.int .i64 ((0:Nat):Int)∧(∃z,AM.look l4 3=.int .i64 z)∧evω env (.loop lp14_1) (fset 96 lk) hk=seqA (evω env (.loop lp14_1)) (seqA (evω env kt14_3) (blockA 3 (seqA (evω env kt14_2) (blockA 4 (evω env (.loop lp14_2) (fset 96 l4) ((hk.push (.row [(AV.agg [.str [],.int .i64 0,.int .i64 0,.nilsl,.nilsl])] 5)).set hk.next (.row [(AV.agg [.str C.name,.int .i64 C.ty,.int .i64 C.params,rv,bv])] 5))))))):=by
     refine⟨?_,?_,?_,?_,?_,?_,?_⟩
     rotate_left 6
     · conv=>lhs; rw[w_loop]; unfold lp14_1
       simp -implicitDefEqProofs (maxSteps:=1000000) only[k1,k3,k5,L,hlen,eq_true hc,cix,cld,s1,L3,L4,n3,n4,XS,XT,XF,AV.cells,Nat.reduceAdd,Nat.reduceLT,Nat.reduceEqDiff,↓reduceIte,Nat.reduceLeDiff]
       rfl
     all_goals simp[AM.look,k1,k5]
   obtain⟨l4,q1,q5,q6,q7,⟨z4,q3⟩,hgo⟩:=key
   obtain⟨l5',z5,hin,r1,r3⟩:=bgBlocks c2 (BlocksR.stays g2.kp c.blocks) q6 q7 q3
   rw[hgo,hin]
   have t1:=(r1 1 (by simp)).trans q1
   have t5:=(r1 5 (by simp)).trans q5
   by_cases hz:3000 < z5
   · right
     have key:∃l',AM.look l' 2=.bool true∧seqA (evω env (.loop lp14_1)) (seqA (evω env kt14_3) (blockA 3 (seqA (evω env kt14_2) (blockA 4 (.ok (.exit 4) (fset 96 l5') ((hk.push (.row [(AV.agg [.str [],.int .i64 0,.int .i64 0,.nilsl,.nilsl])] 5)).set hk.next (.row [(AV.agg [.str C.name,.int .i64 C.ty,.int .i64 C.params,rv,bv])] 5)))))))=.ok .ret (fset 96 l') ((hk.push (.row [(AV.agg [.str [],.int .i64 0,.int .i64 0,.nilsl,.nilsl])] 5)).set hk.next (.row [(AV.agg [.str C.name,.int .i64 C.ty,.int .i64 C.params,rv,bv])] 5)):=by
       refine⟨?_,?_,?_⟩
       rotate_left 2
       · conv=>lhs; unfold kt14_2
         simp -implicitDefEqProofs (maxSteps:=1000000) only[r3,t1,t5,eq_true hz,XS,XT,XF,AV.cells,Nat.reduceAdd,Nat.reduceLT,Nat.reduceEqDiff,↓reduceIte,Nat.reduceLeDiff]
         rfl
       · simp[AM.look]
     obtain⟨l',u2,hgo2⟩:=key
     exact⟨_,(hg.trans g).trans g2,.inr ⟨l',hgo2,u2⟩⟩
   · left
     have key:∃l',AM.look l' 1=.ptr p 0 0∧AM.look l' 5=.int .i64 ((k+1:Nat):Int)∧AM.look l' 3=.int .i64 z5∧seqA (evω env (.loop lp14_1)) (seqA (evω env kt14_3) (blockA 3 (seqA (evω env kt14_2) (blockA 4 (.ok (.exit 4) (fset 96 l5') ((hk.push (.row [(AV.agg [.str [],.int .i64 0,.int .i64 0,.nilsl,.nilsl])] 5)).set hk.next (.row [(AV.agg [.str C.name,.int .i64 C.ty,.int .i64 C.params,rv,bv])] 5)))))))=evω env (.loop lp14_1) (fset 96 l') ((hk.push (.row [(AV.agg [.str [],.int .i64 0,.int .i64 0,.nilsl,.nilsl])] 5)).set hk.next (.row [(AV.agg [.str C.name,.int .i64 C.ty,.int .i64 C.params,rv,bv])] 5)):=by
       refine⟨?_,?_,?_,?_,?_⟩
       rotate_left 4
       · conv=>lhs; unfold kt14_2 kt14_3
         simp -implicitDefEqProofs (maxSteps:=1000000) only[r3,t1,t5,eq_false hz,w1,XS,XT,XF,AV.cells,Nat.reduceAdd,Nat.reduceLT,Nat.reduceEqDiff,↓reduceIte,Nat.reduceLeDiff]
         rfl
       all_goals simp[AM.look,t1,r3]
     obtain⟨l',u1,u5,u3,hgo2⟩:=key
     exact⟨l',_,⟨g.trans g2,u1,u5,z5,u3⟩,hgo2⟩
 · rintro lk hk ⟨g,k1,k5,z,k3⟩
   have cellk:hk.get p=some (.row [(AV.agg [gv,fv])] 2):=(g.get p hp).trans cell
   have L:loadA ty23 (.ptr p 0 1) hk=some fv:=by rw[load_old cellk]; rfl
   have hc:¬ ((Cs.length:Int) < (Cs.length:Int)):=by omega
   have key:∃l',evω env (.loop lp14_1) (fset 96 lk) hk=.ok (.exit 2) (fset 96 l') hk:=by
     refine⟨?_,?_⟩
     rotate_left 1
     · conv=>lhs; rw[w_loop]; unfold lp14_1
       simp -implicitDefEqProofs (maxSteps:=1000000) only[k1,k3,k5,L,hlen,eq_false hc,XS,XT,XF,AV.cells,Nat.reduceAdd,Nat.reduceLT,Nat.reduceEqDiff,↓reduceIte,Nat.reduceLeDiff]
       rfl
   obtain⟨l',hgo⟩:=key
   exact⟨hk,hg.trans g,.inl ⟨l',hgo⟩⟩
set_option maxHeartbeats 4000000 in
theorem bgGlobals {h:Heap} {gv fv:AV} {Gs:List MGlob} {p:Nat} (cell:h.get p=some (.row [(AV.agg [gv,fv])] 2)) (hgv:GlobsR h gv Gs) {l:List (Nat × AV)} (l1:AM.look l 1=.ptr p 0 0) (l4:AM.look l 4=.int .i64 ((0:Nat):Int)) :
   (∃l',evω env (.loop lp14_0) (fset 96 l) h=.ok (.exit 0) (fset 96 l') h∧Keep [1,3] l' l)∨(∃l',evω env (.loop lp14_0) (fset 96 l) h=.ok .ret (fset 96 l') h∧AM.look l' 2=.bool true):=by
 have hle:=hgv.le
 have hlen:=hgv.len
 have L:loadA ty22 (.ptr p 0 0) h=some gv:=by rw[load_old cell]; rfl
 refine loop_ind (E:=env) (nt:=96) (body:=lp14_0) Gs.length (fun k lk hk=>hk=h∧Keep [1,3] lk l∧AM.look lk 4=.int .i64 (k:Int))
   (fun r=>(∃l',r=.ok (.exit 0) (fset 96 l') h∧Keep [1,3] l' l)∨(∃l',r=.ok .ret (fset 96 l') h∧AM.look l' 2=.bool true)) ?_ ?_ Gs.length 0 l h (by omega) ⟨rfl,.refl _ _,l4⟩
 · rintro k lk hk hj ⟨rfl,kp,k4⟩
   obtain⟨G,hG⟩:∃G,Gs[k]?=some G:=⟨_,List.getElem?_eq_getElem hj⟩
   have a:=globAt hgv hG
   have aix:=a.ix
   have ao:=a.o
   have al:=a.l2
   have k1:=(kp 1 (by simp)).trans l1
   have hc:((k:Int) < (Gs.length:Int)):=by omega
   have w1:IntKind.wrap .i64 ((k:Int)+1)=((k+1:Nat):Int):=AM.wrap_small (n:=k+1) (by omega)
   by_cases hz:1024 < G.size
   · right
     have key:∃l',AM.look l' 2=.bool true∧evω env (.loop lp14_0) (fset 96 lk) hk=.ok .ret (fset 96 l') hk:=by
       refine⟨?_,?_,?_⟩
       rotate_left 2
       · conv=>lhs; rw[w_loop]; unfold lp14_0
         simp -implicitDefEqProofs (maxSteps:=1000000) only[k1,k4,L,hlen,eq_true hc,aix,ao,al,eq_true hz,XS,XT,XF,AV.cells,Nat.reduceAdd,Nat.reduceLT,Nat.reduceEqDiff,↓reduceIte,Nat.reduceLeDiff]
         rfl
       · simp[AM.look]
     obtain⟨l',u2,hgo⟩:=key
     exact .inr ⟨l',hgo,u2⟩
   · left
     have key:∃l',Keep [1,3] l' lk∧AM.look l' 4=.int .i64 ((k+1:Nat):Int)∧evω env (.loop lp14_0) (fset 96 lk) hk=evω env (.loop lp14_0) (fset 96 l') hk:=by
       refine⟨?_,?_,?_,?_⟩
       rotate_left 3
       · conv=>lhs; rw[w_loop]; unfold lp14_0
         simp -implicitDefEqProofs (maxSteps:=1000000) only[k1,k4,L,hlen,eq_true hc,aix,ao,al,eq_false hz,w1,XS,XT,XF,AV.cells,Nat.reduceAdd,Nat.reduceLT,Nat.reduceEqDiff,↓reduceIte,Nat.reduceLeDiff]
         rfl
       · simp[Keep,AM.look]
       · simp[AM.look]
     obtain⟨l',u1,u4,hgo⟩:=key
     exact⟨l',hk,⟨rfl,u1.trans kp,u4⟩,hgo⟩
 · rintro lk hk ⟨rfl,kp,k4⟩
   have k1:=(kp 1 (by simp)).trans l1
   have hc:¬ ((Gs.length:Int) < (Gs.length:Int)):=by omega
   have key:∃l',Keep [1,3] l' lk∧evω env (.loop lp14_0) (fset 96 lk) hk=.ok (.exit 0) (fset 96 l') hk:=by
     refine⟨?_,?_,?_⟩
     rotate_left 2
     · conv=>lhs; rw[w_loop]; unfold lp14_0
       simp -implicitDefEqProofs (maxSteps:=1000000) only[k1,k4,L,hlen,eq_false hc,XS,XT,XF,AV.cells,Nat.reduceAdd,Nat.reduceLT,Nat.reduceEqDiff,↓reduceIte,Nat.reduceLeDiff]
       rfl
     · simp[Keep,AM.look]
   obtain⟨l',u1,hgo⟩:=key
   exact .inl ⟨l',hgo,u1.trans kp⟩
set_option maxHeartbeats 8000000 in
theorem Big06_any {h:Heap} {x:AV} {M:MModu} (hx:ModR h x M):∃b h',callω env 14 [x] h=.ok (.bool b) h'∧Grow h h':=by
 obtain⟨gv,fv,rfl,hgv,hfv⟩:=hx
 have o1:=hgv.ok
 have o2:=hfv.ok
 have n1:=hgv.len
 have n2:=hfv.len
 have g1:Grow h (h.push (.row [(AV.agg [gv,fv])] 2)):=Grow.push h _
 have cell:(h.push (.row [(AV.agg [gv,fv])] 2)).get h.next=some (.row [(AV.agg [gv,fv])] 2):=Heap.get_push_eq h _
 have L0:loadA ty22 (.ptr h.next 0 0) (h.push (.row [(AV.agg [gv,fv])] 2))=some gv:=by rw[load_old cell]; rfl
 have L1:loadA ty23 (.ptr h.next 0 1) (h.push (.row [(AV.agg [gv,fv])] 2))=some fv:=by rw[load_old cell]; rfl
 by_cases q1:(20:Int) < (M.globals.length:Int)
 · refine⟨true,(h.push (.row [(AV.agg [gv,fv])] 2)),?_,g1⟩
   rw[pl14.call h (by simp)]; unfold c14
   simp -implicitDefEqProofs (maxSteps:=1000000) only[o1,o2,n1,n2,L0,L1,eq_true q1,XS,XT,XF,AV.cells,Nat.reduceAdd,Nat.reduceLT,Nat.reduceEqDiff,↓reduceIte,Nat.reduceLeDiff]
 by_cases q2:(12:Int) < (M.funcs.length:Int)
 · refine⟨true,(h.push (.row [(AV.agg [gv,fv])] 2)),?_,g1⟩
   rw[pl14.call h (by simp)]; unfold c14
   simp -implicitDefEqProofs (maxSteps:=1000000) only[o1,o2,n1,n2,L0,L1,eq_false q1,eq_true q2,XS,XT,XF,AV.cells,Nat.reduceAdd,Nat.reduceLT,Nat.reduceEqDiff,↓reduceIte,Nat.reduceLeDiff]
 have key:∃l4,AM.look l4 1=.ptr h.next 0 0∧AM.look l4 4=.int .i64 ((0:Nat):Int)∧AM.look l4 3=.int .i64 0∧callω env 14 [(AV.agg [gv,fv])] h=afterBody env [.tmp 2] (seqA (evω env kt14_0) (blockA 0 (evω env (.loop lp14_0) (fset 96 l4) (h.push (.row [(AV.agg [gv,fv])] 2))))):=by
   refine⟨?_,?_,?_,?_,?_⟩
   rotate_left 4
   · rw[pl14.call h (by simp)]; unfold c14
     simp -implicitDefEqProofs (maxSteps:=1000000) only[o1,o2,n1,n2,L0,L1,eq_false q1,eq_false q2,XS,XT,XF,AV.cells,Nat.reduceAdd,Nat.reduceLT,Nat.reduceEqDiff,↓reduceIte,Nat.reduceLeDiff]
     rfl
   all_goals simp[AM.look]
 obtain⟨l4,k1,k4,k3,hgo⟩:=key
 rcases bgGlobals cell (GlobsR.stays g1.kp hgv) k1 k4 with ⟨l5,hin,kp⟩ | ⟨l5,hin,r2⟩
 · have t1:=(kp 1 (by simp)).trans k1
   have t3:=(kp 3 (by simp)).trans k3
   have key:∃l6,AM.look l6 1=.ptr h.next 0 0∧AM.look l6 5=.int .i64 ((0:Nat):Int)∧AM.look l6 3=.int .i64 0∧callω env 14 [(AV.agg [gv,fv])] h=afterBody env [.tmp 2] (seqA (evω env kt14_4) (blockA 2 (evω env (.loop lp14_1) (fset 96 l6) (h.push (.row [(AV.agg [gv,fv])] 2))))):=by
     refine⟨?_,?_,?_,?_,?_⟩
     rotate_left 4
     · rw[hgo,hin]
       unfold kt14_0
       simp -implicitDefEqProofs (maxSteps:=1000000) only[t1,t3,XS,XT,XF,AV.cells,Nat.reduceAdd,Nat.reduceLT,Nat.reduceEqDiff,↓reduceIte,Nat.reduceLeDiff]
       rfl
     all_goals simp[AM.look,t1,t3]
   obtain⟨l6,u1,u5,u3,hgo2⟩:=key
   obtain⟨h',g',⟨l7,hin2⟩ | ⟨l7,hin2,r2⟩⟩:=bgFuncs g1 cell (Nat.lt_succ_self _) (CodesR.stays g1.kp hfv) u1 u5 u3
   · refine⟨false,h',?_,g'⟩
     rw[hgo2,hin2]
     unfold kt14_4
     simp -implicitDefEqProofs (maxSteps:=1000000) only[XS,XT,XF,AV.cells,Nat.reduceAdd,Nat.reduceLT,Nat.reduceEqDiff,↓reduceIte,Nat.reduceLeDiff]
   · refine⟨true,h',?_,g'⟩
     rw[hgo2,hin2]
     simp -implicitDefEqProofs (maxSteps:=1000000) only[r2,XS,XT,XF,AV.cells,Nat.reduceAdd,Nat.reduceLT,Nat.reduceEqDiff,↓reduceIte,Nat.reduceLeDiff]
 · refine⟨true,(h.push (.row [(AV.agg [gv,fv])] 2)),?_,g1⟩
   rw[hgo,hin]
   simp -implicitDefEqProofs (maxSteps:=1000000) only[r2,XS,XT,XF,AV.cells,Nat.reduceAdd,Nat.reduceLT,Nat.reduceEqDiff,↓reduceIte,Nat.reduceLeDiff]
end Go.Proofs.AmEnv
namespace Go.Proofs.AmEnv
open Go Go.AM
def numberD (n:Int):Bool:=decide (n=1) || decide (n=2)
def thereD (a n:Int):Bool:=decide (0≤a) && decide (a < n)
def wideD (t:Int):Int:=if t=2 then 2 else 1
theorem number_ok (n:Int) (h:Heap):callω env 27 [.int .i64 n] h=.ok (.bool (numberD n)) h:=by
 rw[pl27.call h (by simp)]
 unfold c27 numberD
 by_cases h1:n=1
 · simp -implicitDefEqProofs (maxSteps:=1000000) only[eq_true h1,Bool.true_or,XS,XT,XF,AV.cells,Nat.reduceAdd,Nat.reduceLT,Nat.reduceEqDiff,↓reduceIte,Nat.reduceLeDiff]
 · by_cases h2:n=2
   · simp -implicitDefEqProofs (maxSteps:=1000000) only[eq_false h1,eq_true h2,Bool.false_or,XS,XT,XF,AV.cells,Nat.reduceAdd,Nat.reduceLT,Nat.reduceEqDiff,↓reduceIte,Nat.reduceLeDiff]
   · simp -implicitDefEqProofs (maxSteps:=1000000) only[eq_false h1,eq_false h2,Bool.false_or,XS,XT,XF,AV.cells,Nat.reduceAdd,Nat.reduceLT,Nat.reduceEqDiff,↓reduceIte,Nat.reduceLeDiff]
theorem there_ok (a n:Int) (h:Heap):callω env 46 [.int .i64 a,.int .i64 n] h=.ok (.bool (thereD a n)) h:=by
 rw[pl46.call h (by simp)]
 unfold c46 thereD
 by_cases h1:0≤a
 · simp -implicitDefEqProofs (maxSteps:=1000000) only[eq_true h1,XS,XT,XF,AV.cells,Nat.reduceAdd,Nat.reduceLT,Nat.reduceEqDiff,↓reduceIte,Nat.reduceLeDiff]
 · simp -implicitDefEqProofs (maxSteps:=1000000) only[eq_false h1,Bool.false_and,XS,XT,XF,AV.cells,Nat.reduceAdd,Nat.reduceLT,Nat.reduceEqDiff,↓reduceIte,Nat.reduceLeDiff]
theorem wide_ok (t:Int) (h:Heap):callω env 54 [.int .i64 t] h=.ok (.int .i64 (wideD t)) h:=by
 rw[pl54.call h (by simp)]
 unfold c54 wideD
 by_cases h1:t=2
 · simp -implicitDefEqProofs (maxSteps:=1000000) only[eq_true h1,XS,XT,XF,AV.cells,Nat.reduceAdd,Nat.reduceLT,Nat.reduceEqDiff,↓reduceIte,Nat.reduceLeDiff]
 · simp -implicitDefEqProofs (maxSteps:=1000000) only[eq_false h1,XS,XT,XF,AV.cells,Nat.reduceAdd,Nat.reduceLT,Nat.reduceEqDiff,↓reduceIte,Nat.reduceLeDiff]
theorem p_callv {fr:Tr} {h:Heap} {call:CallF} (x:Tmp) (ys:Array Operand) (ts:Array TypeId):evOp env call (.call ⟨.value (.tmp x),ys,ts⟩) fr h=callFn call (opv env (.tmp x) fr) (opvs env ys.toList fr) h:=rfl
theorem callFn1 {call:CallF} (n:Nat) (a:AV) (h:Heap):callFn call (.fn (.func n) [] []) [a] h=call n [a] h:=rfl
theorem v_func {fr:Tr} (f:Nat):opv env (.func f) fr=.fn (.func f) [] []:=rfl
theorem notNumber_ok (n:Int) (h:Heap):callω env 36 [.int .i64 n] h=.ok (.bool (!numberD n)) h:=by
 rw[pl36.call h (by simp)]
 unfold c36
 simp -implicitDefEqProofs (maxSteps:=1000000) only[number_ok,XS,XT,XF,AV.cells,Nat.reduceAdd,Nat.reduceLT,Nat.reduceEqDiff,↓reduceIte,Nat.reduceLeDiff]
def mainName:List UInt8:=[109,97,105,110]
theorem isMain_ok {h:Heap} {x:AV} {X:MCode} (hx:CodeR h x X):∃h',Grow h h'∧callω env 40 [x] h=.ok (.bool (decide (X.name=mainName))) h':=by
 obtain⟨rv,bv,rfl,h1,h2⟩:=hx
 have o1:=h1.ok
 have o2:=h2.ok
 refine⟨_,Grow.push h (.row [AV.agg [.str X.name,.int .i64 X.ty,.int .i64 X.params,rv,bv]] 5),?_⟩
 rw[pl40.call h (by simp)]
 unfold c40 mainName
 simp -implicitDefEqProofs (maxSteps:=1000000) only[o1,o2,XS,XT,XF,AV.cells,Nat.reduceAdd,Nat.reduceLT,Nat.reduceEqDiff,↓reduceIte,Nat.reduceLeDiff]
theorem IndexFuncInts_ok {f:Nat} {p:Int→Bool} (hf:∀(n:Int) (h:Heap),callω env f [.int .i64 n] h=.ok (.bool (p n)) h) {h:Heap} {a:AV} {L:List Int} (hL:IntsR h a L) :
   ∃r h',callω env 42 [a,.fn (.func f) [] []] h=.ok (.int .i64 r) h'∧Grow h h'∧IdxRes p L r :=
 idx_ok (tie:=ty3) (ts:=28) (te:=3) (cmp:=⟨some 16,.call ⟨.value (.tmp 11),#[.tmp 15],#[3]⟩,none,false,[],false⟩) pl42 ti28 rfl ti3 IntR.stays partInt
   (fun hk l x X g hx k15 k11=>⟨hk,.refl hk,by cases hx; simp -implicitDefEqProofs (maxSteps:=1000000) only[p_callv,k15,k11,callFn1,hf,XS,XT,XF,AV.cells,Nat.reduceAdd,Nat.reduceLT,Nat.reduceEqDiff,↓reduceIte,Nat.reduceLeDiff]⟩) hL
theorem IndexFuncCodes_ok {f:Nat} {p:MCode→Bool} (hf:∀{h:Heap} {x:AV} {X:MCode},CodeR h x X→∃h',Grow h h'∧callω env f [x] h=.ok (.bool (p X)) h') {h:Heap} {a:AV} {L:List MCode} (hL:CodesR h a L) :
   ∃r h',callω env 39 [a,.fn (.func f) [] []] h=.ok (.int .i64 r) h'∧Grow h h'∧IdxRes p L r :=
 idx_ok (tie:=ty31) (ts:=23) (te:=31) (cmp:=⟨some 16,.call ⟨.value (.tmp 11),#[.tmp 15],#[31]⟩,none,false,[],false⟩) pl39 ti23 rfl ti31 CodeR.stays partCode
   (fun hk l x X g hx k15 k11=>by
     obtain⟨h',g',e⟩:=hf hx
     exact⟨h',g',by simp -implicitDefEqProofs (maxSteps:=1000000) only[p_callv,k15,k11,callFn1,e,XS,XT,XF,AV.cells,Nat.reduceAdd,Nat.reduceLT,Nat.reduceEqDiff,↓reduceIte,Nat.reduceLeDiff]⟩) hL
theorem IndexInts_ok {h:Heap} {a:AV} {L:List Int} (hL:IntsR h a L) (v:Int) :
   ∃r h',callω env 57 [a,.int .i64 v] h=.ok (.int .i64 r) h'∧Grow h h'∧IdxRes (fun n=>decide (v=n)) L r :=
 idx_ok (tie:=ty3) (ts:=28) (te:=3) (cmp:=⟨some 16,.binOp .eql 3 (.tmp 11) (.tmp 15) 3,none,false,[],false⟩) pl57 ti28 rfl ti3 IntR.stays partInt
   (fun hk l x X g hx k15 k11=>⟨hk,.refl hk,by cases hx; simp -implicitDefEqProofs (maxSteps:=1000000) only[k15,k11,XS,XT,XF,AV.cells,Nat.reduceAdd,Nat.reduceLT,Nat.reduceEqDiff,↓reduceIte,Nat.reduceLeDiff]⟩) hL
theorem idx_any {α:Type} {p:α→Bool} {L:List α} {r:Int} (hr:IdxRes p L r):decide (0≤r)=L.any p:=by
 rcases hr with ⟨rfl,hn⟩ | ⟨k,X,rfl,hX,hp,_⟩
 · rw[show (decide ((0:Int)≤-1))=false from rfl]
   symm
   rw[List.any_eq_false]
   intro x hx
   obtain⟨i,hi⟩:=List.getElem?_of_mem hx
   rw[hn i x hi]; simp
 · rw[decide_eq_true (by omega)]
   symm
   rw[List.any_eq_true]
   exact⟨X,List.mem_of_getElem? hX,hp⟩
theorem ContainsFunc_ok {f:Nat} {p:Int→Bool} (hf:∀(n:Int) (h:Heap),callω env f [.int .i64 n] h=.ok (.bool (p n)) h) {h:Heap} {a:AV} {L:List Int} (hL:IntsR h a L) :
   ∃h',Grow h h'∧callω env 35 [a,.fn (.func f) [] []] h=.ok (.bool (L.any p)) h':=by
 obtain⟨r,h',e,g,hr⟩:=IndexFuncInts_ok hf hL
 refine⟨h',g,?_⟩
 rw[pl35.call h (by simp),← idx_any hr]
 unfold c35
 simp -implicitDefEqProofs (maxSteps:=1000000) only[e,XS,XT,XF,AV.cells,Nat.reduceAdd,Nat.reduceLT,Nat.reduceEqDiff,↓reduceIte,Nat.reduceLeDiff]
theorem Contains_ok {h:Heap} {a:AV} {L:List Int} (hL:IntsR h a L) (v:Int) :
   ∃h',Grow h h'∧callω env 50 [a,.int .i64 v] h=.ok (.bool (L.any fun n=>decide (v=n))) h':=by
 obtain⟨r,h',e,g,hr⟩:=IndexInts_ok hL v
 refine⟨h',g,?_⟩
 rw[pl50.call h (by simp),← idx_any hr]
 unfold c50
 simp -implicitDefEqProofs (maxSteps:=1000000) only[e,XS,XT,XF,AV.cells,Nat.reduceAdd,Nat.reduceLT,Nat.reduceEqDiff,↓reduceIte,Nat.reduceLeDiff]
end Go.Proofs.AmEnv
namespace Go.AM
theorem toldCall {E:Env} {f:Nat} {args:List AV} {h:Heap} (hg:E.gc f=false) (ht:E.told f=true):callω E f args h=toldA args h:=by
 refine (callA_lim (E:=E) f args h).unique ?_
 have e:∀m,callA E (ev E m) f args h=toldA args h:=fun m=>by
   unfold callA
   rw[hg]
   show callA0 E (ev E m) f args h=_
   unfold callA0
   rw[ht]; rfl
 simp only[e]
 exact .const
theorem told_one {s:List UInt8} {c:UInt8} {h:Heap}:toldA [.str s,.str [c]] h=.ok (.bool (contS [c] s)) h:=by
 show (bif Nat.ble (lenS s) 4000000000 || true then (match contS [c] s with | true=>Res.ok (.bool true) h | false=>.ok (.bool false) h) else .bad)=_
 rw[Bool.or_true]
 cases contS [c] s <;> rfl
theorem told_short {s p:List UInt8} {h:Heap} (hs:Nat.ble (lenS s) 4000000000=true):toldA [.str s,.str p] h=.ok (.bool (contS p s)) h:=by
 show (bif Nat.ble (lenS s) 4000000000 || oneB p then (match contS p s with | true=>Res.ok (.bool true) h | false=>.ok (.bool false) h) else .bad)=_
 rw[hs,Bool.true_or]
 cases contS p s <;> rfl
theorem b_addS (fl:EqK) {a b:List UInt8} (h:a.length+b.length≤4611686018427387904):binOpA .add fl (.str a) (.str b)=some (.str (a++b)):=by
 show (bif Nat.ble (Nat.add (lenS a) (lenS b)) 4611686018427387904 then some (AV.str (a++b)) else none)=_
 rw[lenS_eq,lenS_eq,show Nat.ble (Nat.add a.length b.length) 4611686018427387904=true from Nat.ble_eq_true_of_le h]; rfl
end Go.AM
namespace Go.Proofs.AmEnv
open Go Go.AM
def wrapD (t v:Int):Int:=if t=3 then IntKind.wrap .i64 (IntKind.wrap .i8 v) else if t=1 then IntKind.wrap .i64 (IntKind.wrap .i32 v) else if t=2 then v else 0
theorem conv_int (k j:IntKind) (n:Int):convertA (.int k) (.int j n)=some (.int k (k.wrap n)):=mkWrap_eq k n
theorem Wrap_ok (t v:Int) (h:Heap):callω env 51 [.int .i64 t,.int .i64 v] h=.ok (.int .i64 (wrapD t v)) h:=by
 rw[pl51.call h (by simp)]
 unfold c51 wrapD
 by_cases h1:t=3
 · simp -implicitDefEqProofs (maxSteps:=1000000) only[eq_true h1,show ty86.desc=TD.int .i8 from rfl,show ty3.desc=TD.int .i64 from rfl,conv_int,XS,XT,XF,AV.cells,Nat.reduceAdd,Nat.reduceLT,Nat.reduceEqDiff,↓reduceIte,Nat.reduceLeDiff]
 by_cases h2:t=1
 · simp -implicitDefEqProofs (maxSteps:=1000000) only[eq_false h1,eq_true h2,show ty21.desc=TD.int .i32 from rfl,show ty3.desc=TD.int .i64 from rfl,conv_int,XS,XT,XF,AV.cells,Nat.reduceAdd,Nat.reduceLT,Nat.reduceEqDiff,↓reduceIte,Nat.reduceLeDiff]
 by_cases h3:t=2
 · simp -implicitDefEqProofs (maxSteps:=1000000) only[eq_false h1,eq_false h2,eq_true h3,XS,XT,XF,AV.cells,Nat.reduceAdd,Nat.reduceLT,Nat.reduceEqDiff,↓reduceIte,Nat.reduceLeDiff]
 · simp -implicitDefEqProofs (maxSteps:=1000000) only[eq_false h1,eq_false h2,eq_false h3,XS,XT,XF,AV.cells,Nat.reduceAdd,Nat.reduceLT,Nat.reduceEqDiff,↓reduceIte,Nat.reduceLeDiff]
def writesD (I:MInstr):Int:=if I.op=1∨I.op=2∨I.op=3∨I.op=4∨I.op=5∨I.op=7∨I.op=10 then I.dst else if I.op=9 then (if -1≤I.dst then I.dst else -1) else -1
noncomputable def maxR (x y:AV) (h:Heap):Res:=lift2 ((maxA [y] x).map (·,h))
theorem p_max {fr:Tr} {h:Heap} {call:CallF} (a b:Operand):evOp env call (.call ⟨.builtin .max,#[a,b],#[3,3]⟩) fr h=maxR (opv env a fr) (opv env b fr) h:=rfl
theorem maxR_int (a b:Int) (h:Heap):maxR (.int .i64 a) (.int .i64 b) h=.ok (.int .i64 (if b≤a then a else b)) h:=by
 show lift2 ((some (AV.int .i64 (bif intLe b a then a else b))).map (·,h))=_
 rw[intLe_eq]
 by_cases hb:b≤a
 · rw[if_pos hb,decide_eq_true hb]; rfl
 · rw[if_neg hb,decide_eq_false hb]; rfl
set_option maxHeartbeats 4000000 in
theorem Writes_ok {h:Heap} {x:AV} {I:MInstr} (hx:InstrR h x I):∃h',Grow h h'∧callω env 49 [x] h=.ok (.int .i64 (writesD I)) h':=by
 obtain⟨av,rfl,hav⟩:=hx
 have o1:=hav.ok
 refine⟨(h.push (.row [(AV.agg [.int .i64 I.op,.int .i64 I.ty,.int .i64 I.dst,.int .i64 I.a,.int .i64 I.b,.int .i64 I.n,.str I.s,av])] 8)),Grow.push h _,?_⟩
 rw[pl49.call h (by simp)]
 unfold c49 writesD
 by_cases e1:I.op=1
 · simp -implicitDefEqProofs (maxSteps:=1000000) only[o1,eq_true e1,true_or,XS,XT,XF,AV.cells,Nat.reduceAdd,Nat.reduceLT,Nat.reduceEqDiff,↓reduceIte,Nat.reduceLeDiff]
 by_cases e2:I.op=2
 · simp -implicitDefEqProofs (maxSteps:=1000000) only[o1,eq_false e1,eq_true e2,false_or,true_or,XS,XT,XF,AV.cells,Nat.reduceAdd,Nat.reduceLT,Nat.reduceEqDiff,↓reduceIte,Nat.reduceLeDiff]
 by_cases e3:I.op=3
 · simp -implicitDefEqProofs (maxSteps:=1000000) only[o1,eq_false e1,eq_false e2,eq_true e3,false_or,true_or,XS,XT,XF,AV.cells,Nat.reduceAdd,Nat.reduceLT,Nat.reduceEqDiff,↓reduceIte,Nat.reduceLeDiff]
 by_cases e4:I.op=4
 · simp -implicitDefEqProofs (maxSteps:=1000000) only[o1,eq_false e1,eq_false e2,eq_false e3,eq_true e4,false_or,true_or,XS,XT,XF,AV.cells,Nat.reduceAdd,Nat.reduceLT,Nat.reduceEqDiff,↓reduceIte,Nat.reduceLeDiff]
 by_cases e5:I.op=5
 · simp -implicitDefEqProofs (maxSteps:=1000000) only[o1,eq_false e1,eq_false e2,eq_false e3,eq_false e4,eq_true e5,false_or,true_or,XS,XT,XF,AV.cells,Nat.reduceAdd,Nat.reduceLT,Nat.reduceEqDiff,↓reduceIte,Nat.reduceLeDiff]
 by_cases e7:I.op=7
 · simp -implicitDefEqProofs (maxSteps:=1000000) only[o1,eq_false e1,eq_false e2,eq_false e3,eq_false e4,eq_false e5,eq_true e7,false_or,true_or,XS,XT,XF,AV.cells,Nat.reduceAdd,Nat.reduceLT,Nat.reduceEqDiff,↓reduceIte,Nat.reduceLeDiff]
 by_cases e10:I.op=10
 · simp -implicitDefEqProofs (maxSteps:=1000000) only[o1,eq_false e1,eq_false e2,eq_false e3,eq_false e4,eq_false e5,eq_false e7,eq_true e10,false_or,XS,XT,XF,AV.cells,Nat.reduceAdd,Nat.reduceLT,Nat.reduceEqDiff,↓reduceIte,Nat.reduceLeDiff]
 by_cases e9:I.op=9
 · simp -implicitDefEqProofs (maxSteps:=1000000) only[o1,eq_false e1,eq_false e2,eq_false e3,eq_false e4,eq_false e5,eq_false e7,eq_false e10,eq_true e9,p_max,maxR_int,false_or,XS,XT,XF,AV.cells,Nat.reduceAdd,Nat.reduceLT,Nat.reduceEqDiff,↓reduceIte,Nat.reduceLeDiff]
 · simp -implicitDefEqProofs (maxSteps:=1000000) only[o1,eq_false e1,eq_false e2,eq_false e3,eq_false e4,eq_false e5,eq_false e7,eq_false e10,eq_false e9,false_or,XS,XT,XF,AV.cells,Nat.reduceAdd,Nat.reduceLT,Nat.reduceEqDiff,↓reduceIte,Nat.reduceLeDiff]
def binaries:List UInt8:=[32,43,32,45,32,42,32,47,32,37,32,38,32,124,32,94,32,60,60,32,62,62,32,61,61,32,33,61,32,60,32,60,61,32,62,32,62,61,32]
noncomputable def formD (I:MInstr):Bool:=if I.op=3 then !decide (I.s=[]) && !contS [32] I.s && contS ([32]++I.s++[32]) binaries else if I.op=4 then decide (1≤I.ty) && decide (I.ty≤3) else decide (1≤I.op) && decide (I.op≤11)
theorem contains1 (s:List UInt8) (c:UInt8) (h:Heap):callω env 47 [.str s,.str [c]] h=.ok (.bool (contS [c] s)) h:=(toldCall rfl rfl).trans told_one
theorem contains2 (p:List UInt8) (h:Heap):callω env 47 [.str binaries,.str p] h=.ok (.bool (contS p binaries)) h:=(toldCall rfl rfl).trans (told_short rfl)
set_option maxHeartbeats 4000000 in
theorem form_ok {h:Heap} {x:AV} {I:MInstr} (hx:InstrR h x I) (hs:I.s.length≤140737488355328):∃h',Grow h h'∧callω env 43 [x] h=.ok (.bool (formD I)) h':=by
 obtain⟨av,rfl,hav⟩:=hx
 have o1:=hav.ok
 refine⟨(h.push (.row [(AV.agg [.int .i64 I.op,.int .i64 I.ty,.int .i64 I.dst,.int .i64 I.a,.int .i64 I.b,.int .i64 I.n,.str I.s,av])] 8)),Grow.push h _,?_⟩
 rw[pl43.call h (by simp)]
 have d1:binOpA .add (flatOf env 9) (.str [32]) (.str I.s)=some (.str ([32]++I.s)):=b_addS _ (by simp; omega)
 have d2:binOpA .add (flatOf env 9) (.str ([32]++I.s)) (.str [32])=some (.str ([32]++I.s++[32])):=b_addS _ (by simp; omega)
 have c2:∀h,callω env 47 [.str [32,43,32,45,32,42,32,47,32,37,32,38,32,124,32,94,32,60,60,32,62,62,32,61,61,32,33,61,32,60,32,60,61,32,62,32,62,61,32],.str ([32]++I.s++[32])] h=.ok (.bool (contS ([32]++I.s++[32]) binaries)) h:=contains2 _
 unfold c43 formD
 by_cases e3:I.op=3
 · by_cases q1:I.s=[]
   · simp -implicitDefEqProofs (maxSteps:=1000000) only[o1,eq_true e3,eq_true q1,Bool.false_and,XS,XT,XF,AV.cells,Nat.reduceAdd,Nat.reduceLT,Nat.reduceEqDiff,↓reduceIte,Nat.reduceLeDiff]
   cases q2:contS [32] I.s with
   | true=>simp -implicitDefEqProofs (maxSteps:=1000000) only[o1,eq_true e3,eq_false q1,contains1,q2,Bool.false_and,Bool.and_false,XS,XT,XF,AV.cells,Nat.reduceAdd,Nat.reduceLT,Nat.reduceEqDiff,↓reduceIte,Nat.reduceLeDiff]
   | false=>simp -implicitDefEqProofs (maxSteps:=1000000) only[o1,eq_true e3,eq_false q1,contains1,q2,d1,d2,c2,XS,XT,XF,AV.cells,Nat.reduceAdd,Nat.reduceLT,Nat.reduceEqDiff,↓reduceIte,Nat.reduceLeDiff]
 by_cases e4:I.op=4
 · by_cases q1:1≤I.ty
   · simp -implicitDefEqProofs (maxSteps:=1000000) only[o1,eq_false e3,eq_true e4,eq_true q1,XS,XT,XF,AV.cells,Nat.reduceAdd,Nat.reduceLT,Nat.reduceEqDiff,↓reduceIte,Nat.reduceLeDiff]
   · simp -implicitDefEqProofs (maxSteps:=1000000) only[o1,eq_false e3,eq_true e4,eq_false q1,Bool.false_and,XS,XT,XF,AV.cells,Nat.reduceAdd,Nat.reduceLT,Nat.reduceEqDiff,↓reduceIte,Nat.reduceLeDiff]
 · by_cases q1:1≤I.op
   · simp -implicitDefEqProofs (maxSteps:=1000000) only[o1,eq_false e3,eq_false e4,eq_true q1,XS,XT,XF,AV.cells,Nat.reduceAdd,Nat.reduceLT,Nat.reduceEqDiff,↓reduceIte,Nat.reduceLeDiff]
   · simp -implicitDefEqProofs (maxSteps:=1000000) only[o1,eq_false e3,eq_false e4,eq_false q1,Bool.false_and,XS,XT,XF,AV.cells,Nat.reduceAdd,Nat.reduceLT,Nat.reduceEqDiff,↓reduceIte,Nat.reduceLeDiff]
end Go.Proofs.AmEnv
namespace Go.Proofs.AmEnv
open Go Go.AM
def readsD (I:MInstr):List Int:=if I.op=2∨I.op=4∨I.op=5∨I.op=8∨I.op=11 then [I.a] else if I.op=3∨I.op=6 then [I.a,I.b] else if I.op=9 then I.args else []
theorem IntsR.row {h:Heap} {id:Nat} {l:List Int} (hg:h.get id=some (.row (l.map (AV.int .i64)) 1)) (hid:id < h.next) (hl:l.length≤1000):IntsR h (.msl id 0 l.length 1) l:=by
 refine⟨⟨l.map (AV.int .i64),Sl.row hg (by simp) hid fun i x hx=>?_,by simp,fun i x X hx hX=>?_⟩,by omega,by omega⟩
 · rw[List.getElem?_map] at hx
   cases hl2:l[i]? with
   | none=>rw[hl2] at hx; cases hx
   | some n=>rw[hl2] at hx; cases hx; rfl
 · rw[List.getElem?_map,hX] at hx
   cases hx; rfl
noncomputable def bs2R (x y:AV) (h:Heap):Res:=match placeL 1 [(0,x),(1,y)] [.int .i64 0,.int .i64 0] with | none=>.bad | some es=>.ok (.msl h.next 0 2 1) (h.push (.row es 1))
theorem p_bs2 {fr:Tr} {h:Heap} {call:CallF} (x y:Operand):evOp env call (.buildSlice 28 2 #[(0,x),(1,y)]) fr h=bs2R (opv env x fr) (opv env y fr) h:=rfl
theorem bs2R_int (a b:Int) (h:Heap):bs2R (.int .i64 a) (.int .i64 b) h=.ok (.msl h.next 0 2 1) (h.push (.row [.int .i64 a,.int .i64 b] 1)):=rfl
theorem bs1R_int (a:Int) (h:Heap):bsR ty3.size (.int .i64 a) h=.ok (.msl h.next 0 1 1) (h.push (.row [.int .i64 a] 1)):=rfl
set_option maxHeartbeats 4000000 in
theorem Reads_ok {h:Heap} {x:AV} {I:MInstr} (hx:InstrR h x I):∃v h',callω env 48 [x] h=.ok v h'∧IntsR h' v (readsD I)∧Grow h h':=by
 obtain⟨av,rfl,hav⟩:=hx
 have o1:=hav.ok
 have g1:Grow h (h.push (.row [(AV.agg [.int .i64 I.op,.int .i64 I.ty,.int .i64 I.dst,.int .i64 I.a,.int .i64 I.b,.int .i64 I.n,.str I.s,av])] 8)):=Grow.push h _
 have r1:∀a:Int,IntsR ((h.push (.row [(AV.agg [.int .i64 I.op,.int .i64 I.ty,.int .i64 I.dst,.int .i64 I.a,.int .i64 I.b,.int .i64 I.n,.str I.s,av])] 8)).push (.row [.int .i64 a] 1)) (.msl (h.push (.row [(AV.agg [.int .i64 I.op,.int .i64 I.ty,.int .i64 I.dst,.int .i64 I.a,.int .i64 I.b,.int .i64 I.n,.str I.s,av])] 8)).next 0 1 1) [a]:=fun a=>IntsR.row (l:=[a]) (Heap.get_push_eq _ _) (Nat.lt_succ_self _) (by simp)
 have r2:∀a b:Int,IntsR ((h.push (.row [(AV.agg [.int .i64 I.op,.int .i64 I.ty,.int .i64 I.dst,.int .i64 I.a,.int .i64 I.b,.int .i64 I.n,.str I.s,av])] 8)).push (.row [.int .i64 a,.int .i64 b] 1)) (.msl (h.push (.row [(AV.agg [.int .i64 I.op,.int .i64 I.ty,.int .i64 I.dst,.int .i64 I.a,.int .i64 I.b,.int .i64 I.n,.str I.s,av])] 8)).next 0 2 1) [a,b]:=fun a b=>IntsR.row (l:=[a,b]) (Heap.get_push_eq _ _) (Nat.lt_succ_self _) (by simp)
 have c1:(h.push (.row [(AV.agg [.int .i64 I.op,.int .i64 I.ty,.int .i64 I.dst,.int .i64 I.a,.int .i64 I.b,.int .i64 I.n,.str I.s,av])] 8)).get h.next=some (.row [(AV.agg [.int .i64 I.op,.int .i64 I.ty,.int .i64 I.dst,.int .i64 I.a,.int .i64 I.b,.int .i64 I.n,.str I.s,av])] 8):=Heap.get_push_eq h _
 have hb:=fun x=>p_bs1 (E:=env) (fr:=x) (h:=(h.push (.row [(AV.agg [.int .i64 I.op,.int .i64 I.ty,.int .i64 I.dst,.int .i64 I.a,.int .i64 I.b,.int .i64 I.n,.str I.s,av])] 8))) (call:=callω env) ti28 rfl ti3 (by decide) (by decide)
 unfold readsD
 by_cases e2:I.op=2
 · refine⟨_,_,?_,by rw[if_pos (by simp[e2])]; exact r1 I.a,g1.trans (Grow.push _ _)⟩
   rw[pl48.call h (by simp)]
   unfold c48
   simp -implicitDefEqProofs (maxSteps:=1000000) only[o1,eq_true e2,p_bs1 ti28 rfl ti3 (by decide) (by decide),bs1R_int,XS,XT,XF,AV.cells,Nat.reduceAdd,Nat.reduceLT,Nat.reduceEqDiff,↓reduceIte,Nat.reduceLeDiff]
 by_cases e4:I.op=4
 · refine⟨_,_,?_,by rw[if_pos (by simp[e4])]; exact r1 I.a,g1.trans (Grow.push _ _)⟩
   rw[pl48.call h (by simp)]
   unfold c48
   simp -implicitDefEqProofs (maxSteps:=1000000) only[o1,eq_false e2,eq_true e4,p_bs1 ti28 rfl ti3 (by decide) (by decide),bs1R_int,XS,XT,XF,AV.cells,Nat.reduceAdd,Nat.reduceLT,Nat.reduceEqDiff,↓reduceIte,Nat.reduceLeDiff]
 by_cases e5:I.op=5
 · refine⟨_,_,?_,by rw[if_pos (by simp[e5])]; exact r1 I.a,g1.trans (Grow.push _ _)⟩
   rw[pl48.call h (by simp)]
   unfold c48
   simp -implicitDefEqProofs (maxSteps:=1000000) only[o1,eq_false e2,eq_false e4,eq_true e5,p_bs1 ti28 rfl ti3 (by decide) (by decide),bs1R_int,XS,XT,XF,AV.cells,Nat.reduceAdd,Nat.reduceLT,Nat.reduceEqDiff,↓reduceIte,Nat.reduceLeDiff]
 by_cases e8:I.op=8
 · refine⟨_,_,?_,by rw[if_pos (by simp[e8])]; exact r1 I.a,g1.trans (Grow.push _ _)⟩
   rw[pl48.call h (by simp)]
   unfold c48
   simp -implicitDefEqProofs (maxSteps:=1000000) only[o1,eq_false e2,eq_false e4,eq_false e5,eq_true e8,p_bs1 ti28 rfl ti3 (by decide) (by decide),bs1R_int,XS,XT,XF,AV.cells,Nat.reduceAdd,Nat.reduceLT,Nat.reduceEqDiff,↓reduceIte,Nat.reduceLeDiff]
 by_cases e11:I.op=11
 · refine⟨_,_,?_,by rw[if_pos (by simp[e11])]; exact r1 I.a,g1.trans (Grow.push _ _)⟩
   rw[pl48.call h (by simp)]
   unfold c48
   simp -implicitDefEqProofs (maxSteps:=1000000) only[o1,eq_false e2,eq_false e4,eq_false e5,eq_false e8,eq_true e11,p_bs1 ti28 rfl ti3 (by decide) (by decide),bs1R_int,XS,XT,XF,AV.cells,Nat.reduceAdd,Nat.reduceLT,Nat.reduceEqDiff,↓reduceIte,Nat.reduceLeDiff]
 by_cases e3:I.op=3
 · refine⟨_,_,?_,by rw[if_neg (by simp[e2,e4,e5,e8,e11]),if_pos (by simp[e3])]; exact r2 I.a I.b,g1.trans (Grow.push _ _)⟩
   rw[pl48.call h (by simp)]
   unfold c48
   simp -implicitDefEqProofs (maxSteps:=1000000) only[o1,eq_false e2,eq_false e4,eq_false e5,eq_false e8,eq_false e11,eq_true e3,p_bs2,bs2R_int,XS,XT,XF,AV.cells,Nat.reduceAdd,Nat.reduceLT,Nat.reduceEqDiff,↓reduceIte,Nat.reduceLeDiff]
 by_cases e6:I.op=6
 · refine⟨_,_,?_,by rw[if_neg (by simp[e2,e4,e5,e8,e11]),if_pos (by simp[e6])]; exact r2 I.a I.b,g1.trans (Grow.push _ _)⟩
   rw[pl48.call h (by simp)]
   unfold c48
   simp -implicitDefEqProofs (maxSteps:=1000000) only[o1,eq_false e2,eq_false e4,eq_false e5,eq_false e8,eq_false e11,eq_false e3,eq_true e6,p_bs2,bs2R_int,XS,XT,XF,AV.cells,Nat.reduceAdd,Nat.reduceLT,Nat.reduceEqDiff,↓reduceIte,Nat.reduceLeDiff]
 by_cases e9:I.op=9
 · obtain⟨v,h2,F,ec,ho,g2,_⟩:=Clone_ok (IntsR.stays g1.kp hav)
   refine⟨v,h2,?_,by rw[if_neg (by simp[e2,e4,e5,e8,e11]),if_neg (by simp[e3,e6]),if_pos e9]; exact ho.r,g1.trans g2⟩
   rw[pl48.call h (by simp)]
   unfold c48
   simp -implicitDefEqProofs (maxSteps:=1000000) only[o1,eq_false e2,eq_false e4,eq_false e5,eq_false e8,eq_false e11,eq_false e3,eq_false e6,eq_true e9,ec,XS,XT,XF,AV.cells,Nat.reduceAdd,Nat.reduceLT,Nat.reduceEqDiff,↓reduceIte,Nat.reduceLeDiff]
 · refine⟨.nilsl,(h.push (.row [(AV.agg [.int .i64 I.op,.int .i64 I.ty,.int .i64 I.dst,.int .i64 I.a,.int .i64 I.b,.int .i64 I.n,.str I.s,av])] 8)),?_,by rw[if_neg (by simp[e2,e4,e5,e8,e11]),if_neg (by simp[e3,e6]),if_neg e9]; exact⟨⟨[],Sl.nil,All2.nil⟩,by simp,by simp⟩,g1⟩
   rw[pl48.call h (by simp)]
   unfold c48
   simp -implicitDefEqProofs (maxSteps:=1000000) only[o1,eq_false e2,eq_false e4,eq_false e5,eq_false e8,eq_false e11,eq_false e3,eq_false e6,eq_false e9,XS,XT,XF,AV.cells,Nat.reduceAdd,Nat.reduceLT,Nat.reduceEqDiff,↓reduceIte,Nat.reduceLeDiff]
def ChkR (h:Heap) (x:AV) (M:MModu) (C:MCode):Prop:=∃gv fv rv bv,x=.agg [gv,fv,.str C.name,.int .i64 C.ty,.int .i64 C.params,rv,bv]∧GlobsR h gv M.globals∧CodesR h fv M.funcs∧IntsR h rv C.regs∧BlocksR h bv C.blocks
theorem ChkR.stays {M:MModu} {C:MCode} {h h':Heap} (k:Kp h h') {x:AV} (hx:ChkR h x M C):ChkR h' x M C:=by
 obtain⟨gv,fv,rv,bv,e,a,b,c,d⟩:=hx
 exact⟨gv,fv,rv,bv,e,GlobsR.stays k a,CodesR.stays k b,IntsR.stays k c,BlocksR.stays k d⟩
def globalD (M:MModu) (at_:Int) (arr:Bool):Bool:=thereD at_ M.globals.length && (match M.globals[at_.toNat]? with | some g=>decide (0 < g.size) == arr | none=>false)
theorem b_eqlB (a b:Bool):binOpA .eql (flatOf env 4) (.bool a) (.bool b)=some (.bool (a == b)):=by cases a <;> cases b <;> rfl
set_option maxHeartbeats 4000000 in
theorem global_ok {h:Heap} {x:AV} {M:MModu} {C:MCode} (hx:ChkR h x M C) (at_:Int) (arr:Bool):∃h',Grow h h'∧callω env 52 [x,.int .i64 at_,.bool arr] h=.ok (.bool (globalD M at_ arr)) h':=by
 obtain⟨gv,fv,rv,bv,rfl,hgv,hfv,hrv,hbv⟩:=hx
 have o1:=hgv.ok
 have o2:=hfv.ok
 have o3:=hrv.ok
 have o4:=hbv.ok
 have g1:Grow h (h.push (.row [(AV.agg [gv,fv,.str C.name,.int .i64 C.ty,.int .i64 C.params,rv,bv])] 7)):=Grow.push h _
 have cell:(h.push (.row [(AV.agg [gv,fv,.str C.name,.int .i64 C.ty,.int .i64 C.params,rv,bv])] 7)).get h.next=some (.row [(AV.agg [gv,fv,.str C.name,.int .i64 C.ty,.int .i64 C.params,rv,bv])] 7):=Heap.get_push_eq h _
 have L:loadA ty22 (.ptr h.next 0 0) (h.push (.row [(AV.agg [gv,fv,.str C.name,.int .i64 C.ty,.int .i64 C.params,rv,bv])] 7))=some gv:=by rw[load_old cell]; rfl
 have n1:=hgv.len
 refine⟨(h.push (.row [(AV.agg [gv,fv,.str C.name,.int .i64 C.ty,.int .i64 C.params,rv,bv])] 7)),g1,?_⟩
 rw[pl52.call h (by simp)]
 unfold c52 globalD
 cases ht:thereD at_ M.globals.length with
 | false=>simp -implicitDefEqProofs (maxSteps:=1000000) only[o1,o2,o3,o4,L,n1,there_ok,ht,Bool.false_and,XS,XT,XF,AV.cells,Nat.reduceAdd,Nat.reduceLT,Nat.reduceEqDiff,↓reduceIte,Nat.reduceLeDiff]
 | true =>
   have h0:0≤at_∧at_ < M.globals.length:=by
     unfold thereD at ht
     rw[Bool.and_eq_true] at ht
     exact⟨of_decide_eq_true ht.1,of_decide_eq_true ht.2⟩
   obtain⟨k,rfl⟩:=Int.eq_ofNat_of_zero_le h0.1
   have hk:k < M.globals.length:=by omega
   have hG:M.globals[k]?=some M.globals[k]:=List.getElem?_eq_getElem hk
   have a:=globAt (GlobsR.stays g1.kp hgv) hG
   have aix:=a.ix
   have ao:=a.o
   have al:=a.l2
   rw[show ((k:Int)).toNat=k from rfl,hG]
   simp -implicitDefEqProofs (maxSteps:=1000000) only[o1,o2,o3,o4,L,n1,there_ok,ht,aix,ao,al,b_eqlB,XS,XT,XF,AV.cells,Nat.reduceAdd,Nat.reduceLT,Nat.reduceEqDiff,↓reduceIte,Nat.reduceLeDiff]
end Go.Proofs.AmEnv
namespace Go.Proofs.AmEnv
open Go Go.AM
structure PlAt (h0:Heap) (M:MModu) (C:MCode) (I:MInstr) (gv fv rv bv av:AV) (p q:Nat) (l:List (Nat × AV)) (h:Heap):Prop where
 l2:AM.look l 2=.ptr p 0 0
 l3:AM.look l 3=.ptr q 0 0
 c2:h.get p=some (.row [(AV.agg [gv,fv,.str C.name,.int .i64 C.ty,.int .i64 C.params,rv,bv])] 7)
 c3:h.get q=some (.row [(AV.agg [.int .i64 I.op,.int .i64 I.ty,.int .i64 I.dst,.int .i64 I.a,.int .i64 I.b,.int .i64 I.n,.str I.s,av])] 8)
 lp:p < h.next
 lq:q < h.next
 g:Grow h0 h
 hgv:GlobsR h gv M.globals
 hfv:CodesR h fv M.funcs
 hrv:IntsR h rv C.regs
 hbv:BlocksR h bv C.blocks
 hav:IntsR h av I.args
theorem PlAt.grow {h0:Heap} {M:MModu} {C:MCode} {I:MInstr} {gv fv rv bv av:AV} {p q:Nat} {l l':List (Nat × AV)} {h h':Heap} (a:PlAt h0 M C I gv fv rv bv av p q l h) (g:Grow h h') (k2:AM.look l' 2=.ptr p 0 0) (k3:AM.look l' 3=.ptr q 0 0):PlAt h0 M C I gv fv rv bv av p q l' h' :=
 ⟨k2,k3,(g.get p a.lp).trans a.c2,(g.get q a.lq).trans a.c3,Nat.lt_of_lt_of_le a.lp g.nx,Nat.lt_of_lt_of_le a.lq g.nx,a.g.trans g,GlobsR.stays g.kp a.hgv,CodesR.stays g.kp a.hfv,IntsR.stays g.kp a.hrv,BlocksR.stays g.kp a.hbv,IntsR.stays g.kp a.hav⟩
def RetF (nt d:Nat) (h0:Heap) (r:CRes):Prop:=∃h' l',r=.ok .ret (fset nt l') h'∧Grow h0 h'∧AM.look l' d=.bool false
set_option maxHeartbeats 4000000 in
theorem plLoop {h0:Heap} {M:MModu} {C:MCode} {I:MInstr} {gv fv rv bv av vv:AV} {p q:Nat} {L:List Int} {l:List (Nat × AV)} {h:Heap} (hvv:IntsR h vv L) (a:PlAt h0 M C I gv fv rv bv av p q l h) (l9:AM.look l 9=vv) (l10:AM.look l 10=.int .i64 (L.length:Int)) (l11:AM.look l 11=.int .i64 ((0:Nat):Int)) :
   RetF 114 4 h0 (evω env (.loop lp44_0) (fset 114 l) h)∨(∃l',evω env (.loop lp44_0) (fset 114 l) h=.ok (.exit 0) (fset 114 l') h∧PlAt h0 M C I gv fv rv bv av p q l' h∧∀r∈L,thereD r C.regs.length=true):=by
 have hle:=hvv.le
 refine loop_ind (E:=env) (nt:=114) (body:=lp44_0) L.length (fun k lk hk=>hk=h∧PlAt h0 M C I gv fv rv bv av p q lk h∧AM.look lk 9=vv∧AM.look lk 10=.int .i64 (L.length:Int)∧AM.look lk 11=.int .i64 (k:Int)∧∀(j:Nat) r,j < k→L[j]?=some r→thereD r C.regs.length=true)
   (fun r'=>RetF 114 4 h0 r'∨(∃l',r'=.ok (.exit 0) (fset 114 l') h∧PlAt h0 M C I gv fv rv bv av p q l' h∧∀r∈L,thereD r C.regs.length=true)) ?_ ?_ L.length 0 l h (by omega) ⟨rfl,a,l9,l10,l11,fun j r hj=>by omega⟩
 · rintro k lk hk hj ⟨rfl,b,k9,k10,k11,no⟩
   obtain⟨n,hn⟩:∃n,L[k]?=some n:=⟨_,List.getElem?_eq_getElem hj⟩
   obtain⟨xs,ha,hxs⟩:=hvv.ex
   obtain⟨x,hx,hxS⟩:=hxs.get hn
   have i1:=ha.idx hx ti3 rfl
   have e1:=(ha.at hx).load ty3
   rw[partInt hxS] at e1
   cases hxS
   have k2:=b.l2
   have k3:=b.l3
   have hlen:=b.hrv.len
   have Lr:loadA ty28 (.ptr p 0 5) hk=some rv:=by rw[load_old b.c2]; rfl
   have hlt:((k:Int) < (L.length:Int)):=by omega
   have w1:IntKind.wrap .i64 ((k:Int)+1)=((k+1:Nat):Int):=AM.wrap_small (n:=k+1) (by omega)
   cases ht:thereD n C.regs.length with
   | false =>
     right
     left
     have key:∃l',AM.look l' 4=.bool false∧evω env (.loop lp44_0) (fset 114 lk) hk=.ok .ret (fset 114 l') hk:=by
       refine⟨?_,?_,?_⟩
       rotate_left 2
       · conv=>lhs; rw[w_loop]; unfold lp44_0 kt44_0
         simp -implicitDefEqProofs (maxSteps:=1000000) only[k2,k3,k9,k10,k11,eq_true hlt,i1,e1,hlen,Lr,there_ok,ht,XS,XT,XF,AV.cells,Nat.reduceAdd,Nat.reduceLT,Nat.reduceEqDiff,↓reduceIte,Nat.reduceLeDiff]
         rfl
       · simp[AM.look]
     obtain⟨l',m4,hgo⟩:=key
     exact⟨hk,l',hgo,b.g,m4⟩
   | true =>
     left
     have key:∃l',AM.look l' 2=.ptr p 0 0∧AM.look l' 3=.ptr q 0 0∧AM.look l' 9=vv∧AM.look l' 10=.int .i64 (L.length:Int)∧AM.look l' 11=.int .i64 ((k+1:Nat):Int)∧evω env (.loop lp44_0) (fset 114 lk) hk=evω env (.loop lp44_0) (fset 114 l') hk:=by
       refine⟨?_,?_,?_,?_,?_,?_,?_⟩
       rotate_left 6
       · conv=>lhs; rw[w_loop]; unfold lp44_0 kt44_0 kt44_1
         simp -implicitDefEqProofs (maxSteps:=1000000) only[k2,k3,k9,k10,k11,eq_true hlt,i1,e1,hlen,Lr,there_ok,ht,w1,XS,XT,XF,AV.cells,Nat.reduceAdd,Nat.reduceLT,Nat.reduceEqDiff,↓reduceIte,Nat.reduceLeDiff]
         rfl
       all_goals simp[AM.look,k2,k3,k9,k10]
     obtain⟨l',m2,m3,m9,m10,m11,hgo⟩:=key
     refine⟨l',hk,⟨rfl,b.grow (.refl hk) m2 m3,m9,m10,m11,fun j r hj2 hr=>?_⟩,hgo⟩
     by_cases hjk:j=k
     · subst hjk; rw[hn] at hr; cases hr; exact ht
     · exact no j r (by omega) hr
 · rintro lk hk ⟨rfl,b,k9,k10,k11,no⟩
   have k2:=b.l2
   have k3:=b.l3
   have hlt:¬ ((L.length:Int) < (L.length:Int)):=by omega
   have key:∃l',AM.look l' 2=.ptr p 0 0∧AM.look l' 3=.ptr q 0 0∧evω env (.loop lp44_0) (fset 114 lk) hk=.ok (.exit 0) (fset 114 l') hk:=by
     refine⟨?_,?_,?_,?_⟩
     rotate_left 3
     · conv=>lhs; rw[w_loop]; unfold lp44_0
       simp -implicitDefEqProofs (maxSteps:=1000000) only[k2,k3,k9,k10,k11,eq_false hlt,XS,XT,XF,AV.cells,Nat.reduceAdd,Nat.reduceLT,Nat.reduceEqDiff,↓reduceIte,Nat.reduceLeDiff]
       rfl
     all_goals simp[AM.look,k2,k3]
   obtain⟨l',m2,m3,hgo⟩:=key
   refine .inr ⟨l',hgo,b.grow (.refl hk) m2 m3,fun r hr=>?_⟩
   obtain⟨j,hj⟩:=List.getElem?_of_mem hr
   exact no j r (List.getElem?_eq_some_iff.1 hj).1 hj
end Go.Proofs.AmEnv
namespace Go.Proofs.AmEnv
open Go Go.AM
theorem PlAt.L2 {h0:Heap} {M:MModu} {C:MCode} {I:MInstr} {gv fv rv bv av:AV} {p q:Nat} {l:List (Nat × AV)} {h:Heap} (a:PlAt h0 M C I gv fv rv bv av p q l h) (t:TI) (o:Nat):loadA t (.ptr p 0 o) h=partOf t [gv,fv,.str C.name,.int .i64 C.ty,.int .i64 C.params,rv,bv] o:=load_old a.c2 t o
theorem PlAt.L3 {h0:Heap} {M:MModu} {C:MCode} {I:MInstr} {gv fv rv bv av:AV} {p q:Nat} {l:List (Nat × AV)} {h:Heap} (a:PlAt h0 M C I gv fv rv bv av p q l h) (t:TI) (o:Nat):loadA t (.ptr q 0 o) h=partOf t [.int .i64 I.op,.int .i64 I.ty,.int .i64 I.dst,.int .i64 I.a,.int .i64 I.b,.int .i64 I.n,.str I.s,av] o:=load_old a.c3 t o
theorem PlAt.iR {h0:Heap} {M:MModu} {C:MCode} {I:MInstr} {gv fv rv bv av:AV} {p q:Nat} {l:List (Nat × AV)} {h:Heap} (a:PlAt h0 M C I gv fv rv bv av p q l h):InstrR h (AV.agg [.int .i64 I.op,.int .i64 I.ty,.int .i64 I.dst,.int .i64 I.a,.int .i64 I.b,.int .i64 I.n,.str I.s,av]) I:=⟨av,rfl,a.hav⟩
theorem PlAt.xR {h0:Heap} {M:MModu} {C:MCode} {I:MInstr} {gv fv rv bv av:AV} {p q:Nat} {l:List (Nat × AV)} {h:Heap} (a:PlAt h0 M C I gv fv rv bv av p q l h):ChkR h (AV.agg [gv,fv,.str C.name,.int .i64 C.ty,.int .i64 C.params,rv,bv]) M C:=⟨gv,fv,rv,bv,rfl,a.hgv,a.hfv,a.hrv,a.hbv⟩
def wOk (C:MCode) (I:MInstr):Prop:=(¬ I.op=9∨0≤writesD I)→¬ writesD I=-1→thereD (writesD I) C.regs.length=true
set_option maxHeartbeats 8000000 in
theorem plP1 {h0:Heap} {M:MModu} {C:MCode} {I:MInstr} {gv fv rv bv av:AV} {p q:Nat} {l:List (Nat × AV)} {h:Heap} (a:PlAt h0 M C I gv fv rv bv av p q l h) :
   RetF 114 4 h0 (evω env kt44_2 (fset 114 l) h)∨∃l' h',evω env kt44_2 (fset 114 l) h=evω env kt44_3 (fset 114 l') h'∧PlAt h0 M C I gv fv rv bv av p q l' h'∧wOk C I:=by
 obtain⟨h1,g1,ew⟩:=Writes_ok a.iR
 have b:=a.grow g1 a.l2 a.l3
 have k2:=a.l2
 have k3:=a.l3
 have A3:=a.L3
 have B2:=b.L2
 have B3:=b.L3
 have hlen:=b.hrv.len
 by_cases e9:I.op=9
 · by_cases hw:0≤writesD I
   · have hw1:¬ writesD I=-1:=by omega
     cases ht:thereD (writesD I) C.regs.length with
     | true =>
       right
       have key:∃l',AM.look l' 2=.ptr p 0 0∧AM.look l' 3=.ptr q 0 0∧evω env kt44_2 (fset 114 l) h=evω env kt44_3 (fset 114 l') h1:=by
         refine⟨?_,?_,?_,?_⟩
         rotate_left 3
         · conv=>lhs; unfold kt44_2
           simp -implicitDefEqProofs (maxSteps:=1000000) only[k2,k3,A3,ew,B2,B3,hlen,eq_true e9,eq_true hw,eq_false hw1,there_ok,ht,XS,XT,XF,AV.cells,Nat.reduceAdd,Nat.reduceLT,Nat.reduceEqDiff,↓reduceIte,Nat.reduceLeDiff]
           rfl
         all_goals simp[AM.look,k2,k3]
       obtain⟨l',m2,m3,hgo⟩:=key
       exact⟨l',h1,hgo,b.grow (.refl _) m2 m3,fun _ _=>ht⟩
     | false =>
       left
       have key:∃l',AM.look l' 4=.bool false∧evω env kt44_2 (fset 114 l) h=.ok .ret (fset 114 l') h1:=by
         refine⟨?_,?_,?_⟩
         rotate_left 2
         · conv=>lhs; unfold kt44_2
           simp -implicitDefEqProofs (maxSteps:=1000000) only[k2,k3,A3,ew,B2,B3,hlen,eq_true e9,eq_true hw,eq_false hw1,there_ok,ht,XS,XT,XF,AV.cells,Nat.reduceAdd,Nat.reduceLT,Nat.reduceEqDiff,↓reduceIte,Nat.reduceLeDiff]
           rfl
         all_goals simp[AM.look]
       obtain⟨l',m4,hgo⟩:=key
       exact⟨h1,l',hgo,b.g,m4⟩
   · right
     have key:∃l',AM.look l' 2=.ptr p 0 0∧AM.look l' 3=.ptr q 0 0∧evω env kt44_2 (fset 114 l) h=evω env kt44_3 (fset 114 l') h1:=by
       refine⟨?_,?_,?_,?_⟩
       rotate_left 3
       · conv=>lhs; unfold kt44_2
         simp -implicitDefEqProofs (maxSteps:=1000000) only[k2,k3,A3,ew,B2,B3,hlen,eq_true e9,eq_false hw,there_ok,XS,XT,XF,AV.cells,Nat.reduceAdd,Nat.reduceLT,Nat.reduceEqDiff,↓reduceIte,Nat.reduceLeDiff]
         rfl
       all_goals simp[AM.look,k2,k3]
     obtain⟨l',m2,m3,hgo⟩:=key
     exact⟨l',h1,hgo,b.grow (.refl _) m2 m3,fun hh _=>(hh.elim (fun x=>absurd e9 x) (fun x=>absurd x hw))⟩
 · by_cases hw1:writesD I=-1
   · right
     have key:∃l',AM.look l' 2=.ptr p 0 0∧AM.look l' 3=.ptr q 0 0∧evω env kt44_2 (fset 114 l) h=evω env kt44_3 (fset 114 l') h1:=by
       refine⟨?_,?_,?_,?_⟩
       rotate_left 3
       · conv=>lhs; unfold kt44_2
         simp -implicitDefEqProofs (maxSteps:=1000000) only[k2,k3,A3,ew,B2,B3,hlen,eq_false e9,eq_true hw1,there_ok,XS,XT,XF,AV.cells,Nat.reduceAdd,Nat.reduceLT,Nat.reduceEqDiff,↓reduceIte,Nat.reduceLeDiff]
         rfl
       all_goals simp[AM.look,k2,k3]
     obtain⟨l',m2,m3,hgo⟩:=key
     exact⟨l',h1,hgo,b.grow (.refl _) m2 m3,fun _ hh=>absurd hw1 hh⟩
   · cases ht:thereD (writesD I) C.regs.length with
     | true =>
       right
       have key:∃l',AM.look l' 2=.ptr p 0 0∧AM.look l' 3=.ptr q 0 0∧evω env kt44_2 (fset 114 l) h=evω env kt44_3 (fset 114 l') h1:=by
         refine⟨?_,?_,?_,?_⟩
         rotate_left 3
         · conv=>lhs; unfold kt44_2
           simp -implicitDefEqProofs (maxSteps:=1000000) only[k2,k3,A3,ew,B2,B3,hlen,eq_false e9,eq_false hw1,there_ok,ht,XS,XT,XF,AV.cells,Nat.reduceAdd,Nat.reduceLT,Nat.reduceEqDiff,↓reduceIte,Nat.reduceLeDiff]
           rfl
         all_goals simp[AM.look,k2,k3]
       obtain⟨l',m2,m3,hgo⟩:=key
       exact⟨l',h1,hgo,b.grow (.refl _) m2 m3,fun _ _=>ht⟩
     | false =>
       left
       have key:∃l',AM.look l' 4=.bool false∧evω env kt44_2 (fset 114 l) h=.ok .ret (fset 114 l') h1:=by
         refine⟨?_,?_,?_⟩
         rotate_left 2
         · conv=>lhs; unfold kt44_2
           simp -implicitDefEqProofs (maxSteps:=1000000) only[k2,k3,A3,ew,B2,B3,hlen,eq_false e9,eq_false hw1,there_ok,ht,XS,XT,XF,AV.cells,Nat.reduceAdd,Nat.reduceLT,Nat.reduceEqDiff,↓reduceIte,Nat.reduceLeDiff]
           rfl
         all_goals simp[AM.look]
       obtain⟨l',m4,hgo⟩:=key
       exact⟨h1,l',hgo,b.g,m4⟩
def wset:List Int:=[1,2,3,4,5,7,10]
theorem p_bs7 {fr:Tr} {h:Heap} {call:CallF}:evOp env call (.buildSlice 28 7 #[(0,.const (.int .i64 1)),(1,.const (.int .i64 2)),(2,.const (.int .i64 3)),(3,.const (.int .i64 4)),(4,.const (.int .i64 5)),(5,.const (.int .i64 7)),(6,.const (.int .i64 10))]) fr h=.ok (.msl h.next 0 7 1) (h.push (.row (wset.map (AV.int .i64)) 1)):=rfl
def dOk (I:MInstr):Prop:=(wset.any fun n=>decide (I.op=n))=true→¬ I.dst < 0
set_option maxHeartbeats 8000000 in
theorem plP2 {h0:Heap} {M:MModu} {C:MCode} {I:MInstr} {gv fv rv bv av:AV} {p q:Nat} {l:List (Nat × AV)} {h:Heap} (a:PlAt h0 M C I gv fv rv bv av p q l h) :
   RetF 114 4 h0 (evω env kt44_3 (fset 114 l) h)∨∃l' h',evω env kt44_3 (fset 114 l) h=evω env kt44_4 (fset 114 l') h'∧PlAt h0 M C I gv fv rv bv av p q l' h'∧dOk I:=by
 have g0:Grow h (h.push (.row (wset.map (AV.int .i64)) 1)):=Grow.push h _
 obtain⟨h1,g1,ec⟩:=Contains_ok (IntsR.row (l:=wset) (Heap.get_push_eq h _) (Nat.lt_succ_self _) (by decide)) I.op
 have ec:callω env 50 [.msl h.next 0 7 1,.int .i64 I.op] (h.push (.row (wset.map (AV.int .i64)) 1))=.ok (.bool (wset.any fun n=>decide (I.op=n))) h1:=ec
 have b0:=a.grow g0 a.l2 a.l3
 have b:=b0.grow g1 a.l2 a.l3
 have k2:=a.l2
 have k3:=a.l3
 have A3:=b0.L3
 have B3:=b.L3
 cases hany:(wset.any fun n=>decide (I.op=n)) with
 | false =>
   right
   have key:∃l',AM.look l' 2=.ptr p 0 0∧AM.look l' 3=.ptr q 0 0∧evω env kt44_3 (fset 114 l) h=evω env kt44_4 (fset 114 l') h1:=by
     refine⟨?_,?_,?_,?_⟩
     rotate_left 3
     · conv=>lhs; unfold kt44_3
       simp -implicitDefEqProofs (maxSteps:=1000000) only[k2,k3,p_bs7,A3,ec,hany,B3,XS,XT,XF,AV.cells,Nat.reduceAdd,Nat.reduceLT,Nat.reduceEqDiff,↓reduceIte,Nat.reduceLeDiff]
       rfl
     all_goals simp[AM.look,k2,k3]
   obtain⟨l',m2,m3,hgo⟩:=key
   exact⟨l',h1,hgo,b.grow (.refl _) m2 m3,fun hh=>by rw[hany] at hh; cases hh⟩
 | true =>
   by_cases hd:I.dst < 0
   · left
     have key:∃l',AM.look l' 4=.bool false∧evω env kt44_3 (fset 114 l) h=.ok .ret (fset 114 l') h1:=by
       refine⟨?_,?_,?_⟩
       rotate_left 2
       · conv=>lhs; unfold kt44_3
         simp -implicitDefEqProofs (maxSteps:=1000000) only[k2,k3,p_bs7,A3,ec,hany,B3,eq_true hd,XS,XT,XF,AV.cells,Nat.reduceAdd,Nat.reduceLT,Nat.reduceEqDiff,↓reduceIte,Nat.reduceLeDiff]
         rfl
       all_goals simp[AM.look]
     obtain⟨l',m4,hgo⟩:=key
     exact⟨h1,l',hgo,b.g,m4⟩
   · right
     have key:∃l',AM.look l' 2=.ptr p 0 0∧AM.look l' 3=.ptr q 0 0∧evω env kt44_3 (fset 114 l) h=evω env kt44_4 (fset 114 l') h1:=by
       refine⟨?_,?_,?_,?_⟩
       rotate_left 3
       · conv=>lhs; unfold kt44_3
         simp -implicitDefEqProofs (maxSteps:=1000000) only[k2,k3,p_bs7,A3,ec,hany,B3,eq_false hd,XS,XT,XF,AV.cells,Nat.reduceAdd,Nat.reduceLT,Nat.reduceEqDiff,↓reduceIte,Nat.reduceLeDiff]
         rfl
       all_goals simp[AM.look,k2,k3]
     obtain⟨l',m2,m3,hgo⟩:=key
     exact⟨l',h1,hgo,b.grow (.refl _) m2 m3,fun _=>hd⟩
end Go.Proofs.AmEnv
namespace Go.Proofs.AmEnv
open Go Go.AM
theorem thereD_nat {a n:Int} (h:thereD a n=true):∃k:Nat,a=k∧(k:Int) < n:=by
 unfold thereD at h
 rw[Bool.and_eq_true] at h
 have h0:=of_decide_eq_true h.1
 have h1:=of_decide_eq_true h.2
 obtain⟨k,rfl⟩:=Int.eq_ofNat_of_zero_le h0
 exact⟨k,rfl,h1⟩
structure RegAt (h:Heap) (rv:AV) (k:Nat) (r:Int):Prop where
 ix:indexAddrA env (.slice 3) k rv=some (pIx rv k)
 ld:loadA ty3 (pIx rv k) h=some (.int .i64 r)
theorem regAt {h:Heap} {rv:AV} {L:List Int} {k:Nat} {r:Int} (hf:IntsR h rv L) (hr:L[k]?=some r):RegAt h rv k r:=by
 obtain⟨xs,ha,hxs⟩:=hf.ex
 obtain⟨x,hx,hxS⟩:=hxs.get hr
 have e1:=(ha.at hx).load ty3
 rw[partInt hxS] at e1
 cases hxS
 exact⟨ha.idx hx ti3 rfl,e1⟩
def swOk (M:MModu) (I:MInstr):Prop:=((I.op=5∨I.op=6∨I.op=7∨I.op=8)→thereD I.n M.globals.length=true)∧(I.op=9→thereD I.n M.funcs.length=true∧∃F,M.funcs[I.n.toNat]?=some F∧F.params≤F.regs.length)
set_option maxHeartbeats 8000000 in
theorem plSw1 {h0:Heap} {M:MModu} {C:MCode} {I:MInstr} {gv fv rv bv av:AV} {p q:Nat} {l:List (Nat × AV)} {h:Heap} (a:PlAt h0 M C I gv fv rv bv av p q l h) (e1:I.op=1) (ht:thereD I.dst C.regs.length=true):∃b l' h',evω env kt44_4 (fset 114 l) h=.ok .ret (fset 114 l') h'∧AM.look l' 4=.bool b∧Grow h0 h'∧(b=true→swOk M I):=by
 obtain⟨k,hk,hlt⟩:=thereD_nat ht
 obtain⟨r,hr⟩:∃r,C.regs[k]?=some r:=⟨_,List.getElem?_eq_getElem (by omega)⟩
 have ra:=regAt a.hrv hr
 have rix:=ra.ix
 have rld:=ra.ld
 have k2:=a.l2
 have k3:=a.l3
 have A2:=a.L2
 have A3:=a.L3
 have key1:∃l1,AM.look l1 3=.ptr q 0 0∧AM.look l1 64=.int .i64 r∧AM.look l1 66=.int .i64 I.n∧evω env kt44_4 (fset 114 l) h=seqA (evω env kt44_7) (blockA 2 (seqA (evω env .ret) (evOpsD env (callω env) (⟨some 67,.call ⟨.value (.func 51),#[.tmp 64,.tmp 66],#[3,3]⟩,none,true,[false,false,true,true],false⟩::qt44_0) (fset 114 l1) h []))):=by
   refine⟨?_,?_,?_,?_,?_⟩
   rotate_left 4
   · conv=>lhs; unfold kt44_4
     simp -implicitDefEqProofs (maxSteps:=1000000) only[k2,k3,A2,A3,eq_true e1,hk,rix,rld,XS,XT,XF,AV.cells,Nat.reduceAdd,Nat.reduceLT,Nat.reduceEqDiff,↓reduceIte,Nat.reduceLeDiff]
     rfl
   all_goals simp[AM.look,k3]
 obtain⟨l1,m3,m64,m66,hgo1⟩:=key1
 have hcall:evOp env (callω env) (.call ⟨.value (.func 51),#[.tmp 64,.tmp 66],#[3,3]⟩) (fset 114 l1) { h with tch:=[] }=.ok (.int .i64 (wrapD r I.n)) { h with tch:=[] }:=by
   simp -implicitDefEqProofs (maxSteps:=1000000) only[m64,m66,Wrap_ok,XS,XT,XF,AV.cells,Nat.reduceAdd,Nat.reduceLT,Nat.reduceEqDiff,↓reduceIte,Nat.reduceLeDiff]
 have dq:evOpsD env (callω env) (⟨some 67,.call ⟨.value (.func 51),#[.tmp 64,.tmp 66],#[3,3]⟩,none,true,[false,false,true,true],false⟩::qt44_0) (fset 114 l1) h []=evOpsD env (callω env) qt44_0 (setDst (some 67) (.int .i64 (wrapD r I.n)) (fset 114 l1)) h []:=(d_quietG (h':={ h with tch:=[] }) hcall (.refl _)).trans rfl
 have key2:∃l',AM.look l' 4=.bool (decide (wrapD r I.n=I.n))∧evω env kt44_4 (fset 114 l) h=.ok .ret (fset 114 l') h:=by
   refine⟨?_,?_,?_⟩
   rotate_left 2
   · rw[hgo1,dq]
     unfold qt44_0
     simp -implicitDefEqProofs (maxSteps:=1000000) only[m3,A3,d_care,XS,XT,XF,AV.cells,Nat.reduceAdd,Nat.reduceLT,Nat.reduceEqDiff,↓reduceIte,Nat.reduceLeDiff]
     rfl
   all_goals simp[AM.look]
 obtain⟨l',m4,hgo⟩:=key2
 exact⟨_,l',h,hgo,m4,a.g,fun _=>⟨fun hh=>by omega,fun hh=>by omega⟩⟩
set_option maxHeartbeats 8000000 in
theorem plSw56 {h0:Heap} {M:MModu} {C:MCode} {I:MInstr} {gv fv rv bv av:AV} {p q:Nat} {l:List (Nat × AV)} {h:Heap} (a:PlAt h0 M C I gv fv rv bv av p q l h) (arr:Bool) (e:if arr then I.op=5∨I.op=6 else I.op=7∨I.op=8):∃b l' h',evω env kt44_4 (fset 114 l) h=.ok .ret (fset 114 l') h'∧AM.look l' 4=.bool b∧Grow h0 h'∧(b=true→swOk M I):=by
 obtain⟨h1,g1,eg⟩:=global_ok a.xR I.n arr
 have k2:=a.l2
 have k3:=a.l3
 have A3:=a.L3
 have W2:loadA ty59 (.ptr p 0 0) h=some (AV.agg [gv,fv,.str C.name,.int .i64 C.ty,.int .i64 C.params,rv,bv]):=by rw[a.L2]; rfl
 have key:∃l',AM.look l' 4=.bool (globalD M I.n arr)∧evω env kt44_4 (fset 114 l) h=.ok .ret (fset 114 l') h1:=by
   cases arr with
   | true =>
     rw[if_pos rfl] at e
     have n1:¬ I.op=1:=by omega
     rcases e with e | e
     · refine⟨?_,?_,?_⟩
       rotate_left 2
       · conv=>lhs; unfold kt44_4 kt44_5
         simp -implicitDefEqProofs (maxSteps:=1000000) only[k2,k3,A3,W2,eq_false n1,eq_true e,eg,XS,XT,XF,AV.cells,Nat.reduceAdd,Nat.reduceLT,Nat.reduceEqDiff,↓reduceIte,Nat.reduceLeDiff]
         rfl
       all_goals simp[AM.look]
     · have n5:¬ I.op=5:=by omega
       refine⟨?_,?_,?_⟩
       rotate_left 2
       · conv=>lhs; unfold kt44_4 kt44_5
         simp -implicitDefEqProofs (maxSteps:=1000000) only[k2,k3,A3,W2,eq_false n1,eq_false n5,eq_true e,eg,XS,XT,XF,AV.cells,Nat.reduceAdd,Nat.reduceLT,Nat.reduceEqDiff,↓reduceIte,Nat.reduceLeDiff]
         rfl
       all_goals simp[AM.look]
   | false =>
     rw[if_neg (by decide)] at e
     have n1:¬ I.op=1:=by omega
     have n5:¬ I.op=5:=by omega
     have n6:¬ I.op=6:=by omega
     rcases e with e | e
     · refine⟨?_,?_,?_⟩
       rotate_left 2
       · conv=>lhs; unfold kt44_4 kt44_5 kt44_6
         simp -implicitDefEqProofs (maxSteps:=1000000) only[k2,k3,A3,W2,eq_false n1,eq_false n5,eq_false n6,eq_true e,eg,XS,XT,XF,AV.cells,Nat.reduceAdd,Nat.reduceLT,Nat.reduceEqDiff,↓reduceIte,Nat.reduceLeDiff]
         rfl
       all_goals simp[AM.look]
     · have n7:¬ I.op=7:=by omega
       refine⟨?_,?_,?_⟩
       rotate_left 2
       · conv=>lhs; unfold kt44_4 kt44_5 kt44_6
         simp -implicitDefEqProofs (maxSteps:=1000000) only[k2,k3,A3,W2,eq_false n1,eq_false n5,eq_false n6,eq_false n7,eq_true e,eg,XS,XT,XF,AV.cells,Nat.reduceAdd,Nat.reduceLT,Nat.reduceEqDiff,↓reduceIte,Nat.reduceLeDiff]
         rfl
       all_goals simp[AM.look]
 obtain⟨l',m4,hgo⟩:=key
 refine⟨_,l',h1,hgo,m4,a.g.trans g1,fun hb=>⟨fun _=>?_,fun hh=>?_⟩⟩
 · unfold globalD at hb
   rw[Bool.and_eq_true] at hb
   exact hb.1
 · cases arr
   · rw[if_neg (by decide)] at e; omega
   · rw[if_pos rfl] at e; omega
set_option maxHeartbeats 8000000 in
theorem plSw9 {h0:Heap} {M:MModu} {C:MCode} {I:MInstr} {gv fv rv bv av:AV} {p q:Nat} {l:List (Nat × AV)} {h:Heap} (a:PlAt h0 M C I gv fv rv bv av p q l h) (e9:I.op=9):∃b l' h',evω env kt44_4 (fset 114 l) h=.ok .ret (fset 114 l') h'∧AM.look l' 4=.bool b∧Grow h0 h'∧(b=true→swOk M I):=by
 have k2:=a.l2
 have k3:=a.l3
 have A3:=a.L3
 have n1:¬ I.op=1:=by omega
 have n5:¬ I.op=5:=by omega
 have n6:¬ I.op=6:=by omega
 have n7:¬ I.op=7:=by omega
 have n8:¬ I.op=8:=by omega
 have Lf:loadA ty23 (.ptr p 0 1) h=some fv:=by rw[a.L2]; rfl
 have hlen:=a.hfv.len
 cases ht:thereD I.n M.funcs.length with
 | false =>
   have key:∃l',AM.look l' 4=.bool false∧evω env kt44_4 (fset 114 l) h=.ok .ret (fset 114 l') h:=by
     refine⟨?_,?_,?_⟩
     rotate_left 2
     · conv=>lhs; unfold kt44_4 kt44_5 kt44_6
       simp -implicitDefEqProofs (maxSteps:=1000000) only[k2,k3,A3,Lf,eq_false n1,eq_false n5,eq_false n6,eq_false n7,eq_false n8,eq_true e9,hlen,there_ok,ht,XS,XT,XF,AV.cells,Nat.reduceAdd,Nat.reduceLT,Nat.reduceEqDiff,↓reduceIte,Nat.reduceLeDiff]
       rfl
     all_goals simp[AM.look]
   obtain⟨l',m4,hgo⟩:=key
   exact⟨false,l',h,hgo,m4,a.g,fun hb=>by cases hb⟩
 | true =>
   obtain⟨k,hk,hlt⟩:=thereD_nat ht
   obtain⟨F,hF⟩:∃F,M.funcs[k]?=some F:=⟨_,List.getElem?_eq_getElem (by omega)⟩
   obtain⟨rv2,bv2,c⟩:=codeAt a.hfv hF
   have cix:=c.ix
   have co:=c.o
   have cl2:=c.l2
   have cl3:=c.l3
   have cln:=c.regs.len
   have ht':thereD (k:Int) M.funcs.length=true:=by rw[← hk]; exact ht
   have key:∃l',AM.look l' 4=.bool (decide (F.params≤(F.regs.length:Int)))∧evω env kt44_4 (fset 114 l) h=.ok .ret (fset 114 l') h:=by
     refine⟨?_,?_,?_⟩
     rotate_left 2
     · conv=>lhs; unfold kt44_4 kt44_5 kt44_6
       simp -implicitDefEqProofs (maxSteps:=1000000) only[k2,k3,A3,Lf,eq_false n1,eq_false n5,eq_false n6,eq_false n7,eq_false n8,eq_true e9,hlen,hk,there_ok,ht',cix,co,cl2,cl3,cln,XS,XT,XF,AV.cells,Nat.reduceAdd,Nat.reduceLT,Nat.reduceEqDiff,↓reduceIte,Nat.reduceLeDiff]
       rfl
     all_goals simp[AM.look]
   obtain⟨l',m4,hgo⟩:=key
   refine⟨_,l',h,hgo,m4,a.g,fun hb=>⟨fun hh=>by omega,fun _=>⟨ht,F,?_,of_decide_eq_true hb⟩⟩⟩
   rw[hk]; exact hF
set_option maxHeartbeats 8000000 in
theorem plSwN {h0:Heap} {M:MModu} {C:MCode} {I:MInstr} {gv fv rv bv av:AV} {p q:Nat} {l:List (Nat × AV)} {h:Heap} (a:PlAt h0 M C I gv fv rv bv av p q l h) (n1:¬ I.op=1) (n5:¬ I.op=5) (n6:¬ I.op=6) (n7:¬ I.op=7) (n8:¬ I.op=8) (n9:¬ I.op=9):∃b l' h',evω env kt44_4 (fset 114 l) h=.ok .ret (fset 114 l') h'∧AM.look l' 4=.bool b∧Grow h0 h'∧(b=true→swOk M I):=by
 have k2:=a.l2
 have k3:=a.l3
 have A3:=a.L3
 have key:∃l',AM.look l' 4=.bool true∧evω env kt44_4 (fset 114 l) h=.ok .ret (fset 114 l') h:=by
   refine⟨?_,?_,?_⟩
   rotate_left 2
   · conv=>lhs; unfold kt44_4 kt44_5 kt44_6 kt44_7
     simp -implicitDefEqProofs (maxSteps:=1000000) only[k2,k3,A3,eq_false n1,eq_false n5,eq_false n6,eq_false n7,eq_false n8,eq_false n9,XS,XT,XF,AV.cells,Nat.reduceAdd,Nat.reduceLT,Nat.reduceEqDiff,↓reduceIte,Nat.reduceLeDiff]
     rfl
   all_goals simp[AM.look]
 obtain⟨l',m4,hgo⟩:=key
 exact⟨true,l',h,hgo,m4,a.g,fun _=>⟨fun hh=>by omega,fun hh=>absurd hh n9⟩⟩
structure PlOk (M:MModu) (C:MCode) (I:MInstr):Prop where
 rd:∀r∈readsD I,thereD r C.regs.length=true
 wr:(I.op=1∨I.op=2∨I.op=3∨I.op=4∨I.op=5∨I.op=7∨I.op=10)→thereD I.dst C.regs.length=true
 wc:I.op=9→0≤I.dst→thereD I.dst C.regs.length=true
 gl:(I.op=5∨I.op=6∨I.op=7∨I.op=8)→thereD I.n M.globals.length=true
 cl:I.op=9→thereD I.n M.funcs.length=true∧∃F,M.funcs[I.n.toNat]?=some F∧F.params≤F.regs.length
theorem wOk_wr {C:MCode} {I:MInstr} (w:wOk C I) (d:dOk I) (ho:I.op=1∨I.op=2∨I.op=3∨I.op=4∨I.op=5∨I.op=7∨I.op=10):thereD I.dst C.regs.length=true:=by
 have hw:writesD I=I.dst:=if_pos ho
 have hd:¬ I.dst < 0:=d (by
   unfold wset
   rcases ho with h | h | h | h | h | h | h <;> rw[h] <;> rfl)
 unfold wOk at w
 rw[hw] at w
 exact w (.inl (by omega)) (by omega)
theorem wOk_wc {C:MCode} {I:MInstr} (w:wOk C I) (h9:I.op=9) (hd:0≤I.dst):thereD I.dst C.regs.length=true:=by
 have hw:writesD I=I.dst:=by
   unfold writesD
   rw[if_neg (by omega),if_pos h9,if_pos (by omega)]
 unfold wOk at w
 rw[hw] at w
 exact w (.inr hd) (by omega)
set_option maxHeartbeats 8000000 in
theorem places_ok {h:Heap} {x i:AV} {M:MModu} {C:MCode} {I:MInstr} (hx:ChkR h x M C) (hi:InstrR h i I):∃b h',Grow h h'∧callω env 44 [x,i] h=.ok (.bool b) h'∧(b=true→PlOk M C I):=by
 obtain⟨gv,fv,rv,bv,rfl,hgv,hfv,hrv,hbv⟩:=hx
 obtain⟨av,rfl,hav⟩:=hi
 have o1:=hgv.ok
 have o2:=hfv.ok
 have o3:=hrv.ok
 have o4:=hbv.ok
 have o5:=hav.ok
 have g2:Grow h ((h.push (.row [(AV.agg [gv,fv,.str C.name,.int .i64 C.ty,.int .i64 C.params,rv,bv])] 7)).push (.row [(AV.agg [.int .i64 I.op,.int .i64 I.ty,.int .i64 I.dst,.int .i64 I.a,.int .i64 I.b,.int .i64 I.n,.str I.s,av])] 8)):=(Grow.push h _).trans (Grow.push _ _)
 have c2:((h.push (.row [(AV.agg [gv,fv,.str C.name,.int .i64 C.ty,.int .i64 C.params,rv,bv])] 7)).push (.row [(AV.agg [.int .i64 I.op,.int .i64 I.ty,.int .i64 I.dst,.int .i64 I.a,.int .i64 I.b,.int .i64 I.n,.str I.s,av])] 8)).get h.next=some (.row [(AV.agg [gv,fv,.str C.name,.int .i64 C.ty,.int .i64 C.params,rv,bv])] 7):=(Heap.get_push_ne _ _ (by show h.next≠h.next+1; omega)).trans (Heap.get_push_eq h _)
 have c3:((h.push (.row [(AV.agg [gv,fv,.str C.name,.int .i64 C.ty,.int .i64 C.params,rv,bv])] 7)).push (.row [(AV.agg [.int .i64 I.op,.int .i64 I.ty,.int .i64 I.dst,.int .i64 I.a,.int .i64 I.b,.int .i64 I.n,.str I.s,av])] 8)).get (h.push (.row [(AV.agg [gv,fv,.str C.name,.int .i64 C.ty,.int .i64 C.params,rv,bv])] 7)).next=some (.row [(AV.agg [.int .i64 I.op,.int .i64 I.ty,.int .i64 I.dst,.int .i64 I.a,.int .i64 I.b,.int .i64 I.n,.str I.s,av])] 8):=Heap.get_push_eq _ _
 have L3:loadA ty42 (.ptr (h.push (.row [(AV.agg [gv,fv,.str C.name,.int .i64 C.ty,.int .i64 C.params,rv,bv])] 7)).next 0 0) ((h.push (.row [(AV.agg [gv,fv,.str C.name,.int .i64 C.ty,.int .i64 C.params,rv,bv])] 7)).push (.row [(AV.agg [.int .i64 I.op,.int .i64 I.ty,.int .i64 I.dst,.int .i64 I.a,.int .i64 I.b,.int .i64 I.n,.str I.s,av])] 8))=some (AV.agg [.int .i64 I.op,.int .i64 I.ty,.int .i64 I.dst,.int .i64 I.a,.int .i64 I.b,.int .i64 I.n,.str I.s,av]):=by rw[load_old c3]; rfl
 obtain⟨vv,h3,er,hvv,g3⟩:=Reads_ok (⟨av,rfl,IntsR.stays g2.kp hav⟩:InstrR ((h.push (.row [(AV.agg [gv,fv,.str C.name,.int .i64 C.ty,.int .i64 C.params,rv,bv])] 7)).push (.row [(AV.agg [.int .i64 I.op,.int .i64 I.ty,.int .i64 I.dst,.int .i64 I.a,.int .i64 I.b,.int .i64 I.n,.str I.s,av])] 8)) (AV.agg [.int .i64 I.op,.int .i64 I.ty,.int .i64 I.dst,.int .i64 I.a,.int .i64 I.b,.int .i64 I.n,.str I.s,av]) I)
 have hvl:=hvv.len
 have key:∃l,AM.look l 2=.ptr h.next 0 0∧AM.look l 3=.ptr (h.push (.row [(AV.agg [gv,fv,.str C.name,.int .i64 C.ty,.int .i64 C.params,rv,bv])] 7)).next 0 0∧AM.look l 9=vv∧AM.look l 10=.int .i64 ((readsD I).length:Int)∧AM.look l 11=.int .i64 ((0:Nat):Int)∧callω env 44 [(AV.agg [gv,fv,.str C.name,.int .i64 C.ty,.int .i64 C.params,rv,bv]),(AV.agg [.int .i64 I.op,.int .i64 I.ty,.int .i64 I.dst,.int .i64 I.a,.int .i64 I.b,.int .i64 I.n,.str I.s,av])] h=afterBody env [.tmp 4] (seqA (evω env kt44_2) (blockA 0 (evω env (.loop lp44_0) (fset 114 l) h3))):=by
   refine⟨?_,?_,?_,?_,?_,?_,?_⟩
   rotate_left 6
   · rw[pl44.call h (by simp)]; unfold c44
     simp -implicitDefEqProofs (maxSteps:=1000000) only[o1,o2,o3,o4,o5,L3,er,hvl,XS,XT,XF,AV.cells,Nat.reduceAdd,Nat.reduceLT,Nat.reduceEqDiff,↓reduceIte,Nat.reduceLeDiff]
     rfl
   all_goals simp[AM.look]
 obtain⟨l,k2,k3,k9,k10,k11,hgo⟩:=key
 have n1:(h.push (.row [(AV.agg [gv,fv,.str C.name,.int .i64 C.ty,.int .i64 C.params,rv,bv])] 7)).next=h.next+1:=rfl
 have a0:PlAt h M C I gv fv rv bv av h.next (h.push (.row [(AV.agg [gv,fv,.str C.name,.int .i64 C.ty,.int .i64 C.params,rv,bv])] 7)).next l ((h.push (.row [(AV.agg [gv,fv,.str C.name,.int .i64 C.ty,.int .i64 C.params,rv,bv])] 7)).push (.row [(AV.agg [.int .i64 I.op,.int .i64 I.ty,.int .i64 I.dst,.int .i64 I.a,.int .i64 I.b,.int .i64 I.n,.str I.s,av])] 8)):=⟨k2,k3,c2,c3,by show h.next < h.next+1+1; omega,by show h.next+1 < h.next+1+1; omega,g2,GlobsR.stays g2.kp hgv,CodesR.stays g2.kp hfv,IntsR.stays g2.kp hrv,BlocksR.stays g2.kp hbv,IntsR.stays g2.kp hav⟩
 have a:=a0.grow g3 k2 k3
 rcases plLoop hvv a k9 k10 k11 with ⟨h',l',e,g,m4⟩ | ⟨l1,e,a1,hrd⟩
 · refine⟨false,h',g,?_,fun hb=>by cases hb⟩
   rw[hgo,e]
   simp -implicitDefEqProofs (maxSteps:=1000000) only[m4,XS,XT,XF,AV.cells,Nat.reduceAdd,Nat.reduceLT,Nat.reduceEqDiff,↓reduceIte,Nat.reduceLeDiff]
 have hgo1:callω env 44 [(AV.agg [gv,fv,.str C.name,.int .i64 C.ty,.int .i64 C.params,rv,bv]),(AV.agg [.int .i64 I.op,.int .i64 I.ty,.int .i64 I.dst,.int .i64 I.a,.int .i64 I.b,.int .i64 I.n,.str I.s,av])] h=afterBody env [.tmp 4] (evω env kt44_2 (fset 114 l1) h3):=by
   rw[hgo,e]
   simp -implicitDefEqProofs (maxSteps:=1000000) only[XS,XT,XF,AV.cells,Nat.reduceAdd,Nat.reduceLT,Nat.reduceEqDiff,↓reduceIte,Nat.reduceLeDiff]
 rcases plP1 a1 with ⟨h',l',e,g,m4⟩ | ⟨l2,h4,e,a2,hw⟩
 · refine⟨false,h',g,?_,fun hb=>by cases hb⟩
   rw[hgo1,e]
   simp -implicitDefEqProofs (maxSteps:=1000000) only[m4,XS,XT,XF,AV.cells,Nat.reduceAdd,Nat.reduceLT,Nat.reduceEqDiff,↓reduceIte,Nat.reduceLeDiff]
 rcases plP2 a2 with ⟨h',l',e2,g,m4⟩ | ⟨l3,h5,e2,a3,hd⟩
 · refine⟨false,h',g,?_,fun hb=>by cases hb⟩
   rw[hgo1,e,e2]
   simp -implicitDefEqProofs (maxSteps:=1000000) only[m4,XS,XT,XF,AV.cells,Nat.reduceAdd,Nat.reduceLT,Nat.reduceEqDiff,↓reduceIte,Nat.reduceLeDiff]
 have fin:∃b l' h',evω env kt44_4 (fset 114 l3) h5=.ok .ret (fset 114 l') h'∧AM.look l' 4=.bool b∧Grow h h'∧(b=true→swOk M I):=by
   by_cases e1:I.op=1
   · exact plSw1 a3 e1 (wOk_wr hw hd (.inl e1))
   by_cases e5:I.op=5
   · exact plSw56 a3 true (by rw[if_pos rfl]; exact .inl e5)
   by_cases e6:I.op=6
   · exact plSw56 a3 true (by rw[if_pos rfl]; exact .inr e6)
   by_cases e7:I.op=7
   · exact plSw56 a3 false (by rw[if_neg (by decide)]; exact .inl e7)
   by_cases e8:I.op=8
   · exact plSw56 a3 false (by rw[if_neg (by decide)]; exact .inr e8)
   by_cases e9:I.op=9
   · exact plSw9 a3 e9
   · exact plSwN a3 e1 e5 e6 e7 e8 e9
 obtain⟨b,l',h',e3,m4,g,hsw⟩:=fin
 refine⟨b,h',g,?_,fun hb=>⟨hrd,wOk_wr hw hd,wOk_wc hw,(hsw hb).1,(hsw hb).2⟩⟩
 rw[hgo1,e,e2,e3]
 simp -implicitDefEqProofs (maxSteps:=1000000) only[m4,XS,XT,XF,AV.cells,Nat.reduceAdd,Nat.reduceLT,Nat.reduceEqDiff,↓reduceIte,Nat.reduceLeDiff]
end Go.Proofs.AmEnv
namespace Go.AM
section
variable {E:Env} {fr:Tr} {h:Heap} {call:CallF} {D:List Nat}
theorem d_skipG {d:Option Tmp} {op:Op} {t:Tmp} {w q c:Bool} {s:List Bool} {l:List XOp} (hg:isWant w (fr.get t)=some false):evOpsD E call (⟨d,op,some (some t,w),q,s,c⟩::l) fr h D=evOpsD E call l (setDst d skipped fr) h D:=by
 show onOB (isWant w (fr.get t)) .bad (evThenD d (evOpsD E call l) (virtD E call l s (setDst d skipped fr) h D) fr (evOpD E call ⟨d,op,some (some t,w),q,s,c⟩ fr h D)) (evOpsD E call l (setDst d skipped fr) h D)=_
 rw[hg]; rfl
theorem d_doneC {d:Option Tmp} {op:Op} {t:Tmp} {w:Bool} {s:List Bool} {l:List XOp} (hg:isWant w (fr.get t)=some true):evOpsD E call (⟨d,op,some (some t,w),false,s,true⟩::l) fr h []=evThenD d (evOpsD E call l) (virtD E call l s (setDst d skipped fr) h []) fr (plainD' [] (evOp E call op fr h)):=by
 show onOB (isWant w (fr.get t)) .bad (evThenD d (evOpsD E call l) (virtD E call l s (setDst d skipped fr) h []) fr (bif readOk (readO E op fr) [] then plainD' [] (evOp E call op fr h) else .bad)) (evOpsD E call l (setDst d skipped fr) h [])=_
 rw[hg]
 cases readO E op fr <;> rfl
def avInt (v:AV):Int:=match v with | .int _ n=>n | _=>0
def isI64 (v:AV):Bool:=match v with | .int .i64 _=>true | _=>false
theorem avInt_int (k:IntKind) (n:Int):avInt (.int k n)=n:=rfl
theorem isI64_int (n:Int):isI64 (.int .i64 n)=true:=rfl
theorem isI64_eq {v:AV} (h:isI64 v=true):v=.int .i64 (avInt v):=by
 cases v with
 | int k n=>cases k <;> first | rfl | cases h
 | _=>cases h
end
end Go.AM
namespace Go.Proofs.AmEnv
open Go Go.AM
theorem d_qWide {fr:Tr} {h:Heap} {d:Option Tmp} {x:Operand} {s:List Bool} {c:Bool} {l:List XOp} (hx:isI64 (opv env x fr)=true):evOpsD env (callω env) (⟨d,(.call ⟨.value (.func 54),#[x],#[3]⟩),none,true,s,c⟩::l) fr h []=evOpsD env (callω env) l (setDst d (.int .i64 (wideD (avInt (opv env x fr)))) fr) h []:=by
 have he:=isI64_eq hx
 have hcall:evOp env (callω env) (.call ⟨.value (.func 54),#[x],#[3]⟩) fr { h with tch:=[] }=.ok (.int .i64 (wideD (avInt (opv env x fr)))) { h with tch:=[] }:=by
   rw[p_call]
   show callω env 54 [opv env x fr] _=_
   rw[he,wide_ok]; rfl
 exact (d_quietG (h':={ h with tch:=[] }) hcall (.refl _)).trans rfl
theorem d_qWideG {fr:Tr} {h:Heap} {d:Option Tmp} {x:Operand} {t:Tmp} {w:Bool} {s:List Bool} {c:Bool} {l:List XOp} (hg:isWant w (fr.get t)=some true) (hx:isI64 (opv env x fr)=true):evOpsD env (callω env) (⟨d,(.call ⟨.value (.func 54),#[x],#[3]⟩),some (some t,w),true,s,c⟩::l) fr h []=evOpsD env (callω env) l (setDst d (.int .i64 (wideD (avInt (opv env x fr)))) fr) h []:=by
 rw[← d_qWide (s:=s) (c:=c) hx]
 show onOB (isWant w (fr.get t)) .bad (evThenD d (evOpsD env (callω env) l) (virtD env (callω env) l s (setDst d skipped fr) h []) fr (evOpD env (callω env) ⟨d,(.call ⟨.value (.func 54),#[x],#[3]⟩),some (some t,w),true,s,c⟩ fr h [])) (evOpsD env (callω env) l (setDst d skipped fr) h [])=_
 rw[hg]; rfl
theorem callFn2 {call:CallF} (n:Nat) (a b c:AV) (h:Heap):callFn call (.fn (.func n) [] [c]) [a,b] h=call n [a,b,c] h:=rfl
theorem is_ok {h:Heap} {C:MCode} {gv fv rv bv:AV} {p:Nat} (cell:h.get p=some (.row [(AV.agg [gv,fv,.str C.name,.int .i64 C.ty,.int .i64 C.params,rv,bv])] 7)) (hrv:IntsR h rv C.regs) {r:Int} {k:Nat} {ra:Int} (hr:r=k) (hk:C.regs[k]?=some ra) (t:Int):callω env 53 [.int .i64 r,.int .i64 t,.ptr p 0 0] h=.ok (.bool (decide (ra=t))) h:=by
 subst hr
 have a:=regAt hrv hk
 have aix:=a.ix
 have ald:=a.ld
 have L:loadA ty28 (.ptr p 0 5) h=some rv:=by rw[load_old cell]; rfl
 rw[pl53.call h (by simp)]
 unfold c53
 simp -implicitDefEqProofs (maxSteps:=1000000) only[L,aix,ald,XS,XT,XF,AV.cells,Nat.reduceAdd,Nat.reduceLT,Nat.reduceEqDiff,↓reduceIte,Nat.reduceLeDiff]
theorem thereReg {C:MCode} {r:Int} (ht:thereD r C.regs.length=true):∃(k:Nat) (ra:Int),r=k∧C.regs[k]?=some ra:=by
 obtain⟨k,hk,hlt⟩:=thereD_nat ht
 exact⟨k,_,hk,List.getElem?_eq_getElem (by omega)⟩
end Go.Proofs.AmEnv
