/- What this program's functions do, at any data. Conditions: none. -/
import Derived.Test.YthgknegndpoebaaDoorGenB
set_option linter.unusedVariables false
set_option linter.unusedSimpArgs false
namespace Go.Proofs.AmEnv
open Go Go.AM
set_option maxHeartbeats 8000000 in
theorem caLoop2 {C F:MCode} {gv fv rv bv rv2 bv2 av:AV} {p0 pf:Nat} {L:List Int} {h:Heap} (cell:h.get p0=some (.row [(AV.agg [gv,fv,.str C.name,.int .i64 C.ty,.int .i64 C.params,rv,bv])] 7)) (hrv:IntsR h rv C.regs) (cf:h.get pf=some (.row [(AV.agg [.str F.name,.int .i64 F.ty,.int .i64 F.params,rv2,bv2])] 5)) (hrv2:IntsR h rv2 F.regs) (hav:IntsR h av L) (hL:∀r∈L,thereD r C.regs.length=true) (hlen:L.length≤F.regs.length) {l:List (Nat × AV)} (l2:AM.look l 2=.fn (.func 53) [] [.ptr p0 0 0]) (l7:AM.look l 7=.ptr pf 0 0) (l18:AM.look l 18=av) (l19:AM.look l 19=.int .i64 (L.length:Int)) (l20:AM.look l 20=.int .i64 ((0:Nat):Int)) :
   (∃l',evω env (.loop lp55_0) (fset 51 l) h=.ok .ret (fset 51 l') h∧AM.look l' 6=.bool false)∨(∃l',evω env (.loop lp55_0) (fset 51 l) h=.ok (.exit 0) (fset 51 l') h∧Keep [2,3,4,7] l' l):=by
 have hle:=hav.le
 refine loop_ind (E:=env) (nt:=51) (body:=lp55_0) L.length (fun k lk hk=>hk=h∧Keep [2,3,4,7] lk l∧AM.look lk 18=av∧AM.look lk 19=.int .i64 (L.length:Int)∧AM.look lk 20=.int .i64 (k:Int))
   (fun r'=>(∃l',r'=.ok .ret (fset 51 l') h∧AM.look l' 6=.bool false)∨(∃l',r'=.ok (.exit 0) (fset 51 l') h∧Keep [2,3,4,7] l' l)) ?_ ?_ L.length 0 l h (by omega) ⟨rfl,.refl _ _,l18,l19,l20⟩
 · rintro k lk hk hj ⟨rfl,kp,k18,k19,k20⟩
   obtain⟨n,hn⟩:∃n,L[k]?=some n:=⟨_,List.getElem?_eq_getElem hj⟩
   obtain⟨t,ht⟩:∃t,F.regs[k]?=some t:=⟨_,List.getElem?_eq_getElem (by omega)⟩
   have a1:=regAt hav hn
   have a2:=regAt hrv2 ht
   have x1:=a1.ix
   have y1:=a1.ld
   have x2:=a2.ix
   have y2:=a2.ld
   obtain⟨kr,ra,hkr,hra⟩:=thereReg (hL n (List.mem_of_getElem? hn))
   have his:=is_ok cell hrv hkr hra
   have k2:=(kp 2 (by simp)).trans l2
   have k7:=(kp 7 (by simp)).trans l7
   have Lf:loadA ty28 (.ptr pf 0 3) hk=some rv2:=by rw[load_old cf]; rfl
   have hlt:((k:Int) < (L.length:Int)):=by omega
   have w1:IntKind.wrap .i64 ((k:Int)+1)=((k+1:Nat):Int):=AM.wrap_small (n:=k+1) (by omega)
   by_cases hq:ra=t
   · left
     have key:∃l',Keep [2,3,4,7] l' lk∧AM.look l' 18=av∧AM.look l' 19=.int .i64 (L.length:Int)∧AM.look l' 20=.int .i64 ((k+1:Nat):Int)∧evω env (.loop lp55_0) (fset 51 lk) hk=evω env (.loop lp55_0) (fset 51 l') hk:=by
       refine⟨?_,?_,?_,?_,?_,?_⟩
       rotate_left 5
       · conv=>lhs; rw[w_loop]; unfold lp55_0
         simp -implicitDefEqProofs (maxSteps:=1000000) only[k2,k7,k18,k19,k20,eq_true hlt,x1,y1,Lf,x2,y2,p_callv,callFn2,his,eq_true hq,w1,XS,XT,XF,AV.cells,Nat.reduceAdd,Nat.reduceLT,Nat.reduceEqDiff,↓reduceIte,Nat.reduceLeDiff]
         rfl
       · simp[Keep,AM.look]
       all_goals simp[AM.look,k18,k19]
     obtain⟨l',m1,m18,m19,m20,hgo⟩:=key
     exact⟨l',hk,⟨rfl,m1.trans kp,m18,m19,m20⟩,hgo⟩
   · right
     left
     have key:∃l',AM.look l' 6=.bool false∧evω env (.loop lp55_0) (fset 51 lk) hk=.ok .ret (fset 51 l') hk:=by
       refine⟨?_,?_,?_⟩
       rotate_left 2
       · conv=>lhs; rw[w_loop]; unfold lp55_0
         simp -implicitDefEqProofs (maxSteps:=1000000) only[k2,k7,k18,k19,k20,eq_true hlt,x1,y1,Lf,x2,y2,p_callv,callFn2,his,eq_false hq,w1,XS,XT,XF,AV.cells,Nat.reduceAdd,Nat.reduceLT,Nat.reduceEqDiff,↓reduceIte,Nat.reduceLeDiff]
         rfl
       all_goals simp[AM.look]
     obtain⟨l',m6,hgo⟩:=key
     exact⟨l',hgo,m6⟩
 · rintro lk hk ⟨rfl,kp,k18,k19,k20⟩
   have hlt:¬ ((L.length:Int) < (L.length:Int)):=by omega
   have key:∃l',Keep [2,3,4,7] l' lk∧evω env (.loop lp55_0) (fset 51 lk) hk=.ok (.exit 0) (fset 51 l') hk:=by
     refine⟨?_,?_,?_⟩
     rotate_left 2
     · conv=>lhs; rw[w_loop]; unfold lp55_0
       simp -implicitDefEqProofs (maxSteps:=1000000) only[k18,k19,k20,eq_false hlt,XS,XT,XF,AV.cells,Nat.reduceAdd,Nat.reduceLT,Nat.reduceEqDiff,↓reduceIte,Nat.reduceLeDiff]
       rfl
     · simp[Keep,AM.look]
   obtain⟨l',m1,hgo⟩:=key
   exact .inr ⟨l',hgo,m1.trans kp⟩
set_option maxHeartbeats 16000000 in
theorem chkCall_ok {h:Heap} {C:MCode} {M:MModu} {I:MInstr} {gv fv rv bv av:AV} {p0:Nat} (cell:h.get p0=some (.row [(AV.agg [gv,fv,.str C.name,.int .i64 C.ty,.int .i64 C.params,rv,bv])] 7)) (hp0:p0 < h.next) (hgv:GlobsR h gv M.globals) (hfv:CodesR h fv M.funcs) (hrv:IntsR h rv C.regs) (hbv:BlocksR h bv C.blocks) (hav:IntsR h av I.args)
   (hpl:PlOk M C I) (h9:I.op=9) {k:Nat} {F:MCode} (hk:I.n=k) (hF:M.funcs[k]?=some F) (hpar:F.params≤F.regs.length) (hargs:(I.args.length:Int)=F.params) :
   ∃b h',callω env 55 [(AV.agg [gv,fv,.str C.name,.int .i64 C.ty,.int .i64 C.params,rv,bv]),(AV.agg [.int .i64 I.op,.int .i64 I.ty,.int .i64 I.dst,.int .i64 I.a,.int .i64 I.b,.int .i64 I.n,.str I.s,av]),.fn (.func 53) [] [.ptr p0 0 0]] h=.ok (.bool b) h'∧Grow h h':=by
 have o1:=hgv.ok
 have o2:=hfv.ok
 have o3:=hrv.ok
 have o4:=hbv.ok
 have o5:=hav.ok
 have g2:Grow h ((h.push (.row [(AV.agg [gv,fv,.str C.name,.int .i64 C.ty,.int .i64 C.params,rv,bv])] 7)).push (.row [(AV.agg [.int .i64 I.op,.int .i64 I.ty,.int .i64 I.dst,.int .i64 I.a,.int .i64 I.b,.int .i64 I.n,.str I.s,av])] 8)):=(Grow.push h _).trans (Grow.push _ _)
 obtain⟨rv2,bv2,c⟩:=codeAt (CodesR.stays g2.kp hfv) hF
 have cix:=c.ix
 have cld:=c.ld
 have okr:=c.regs.ok
 have okb:=c.blocks.ok
 have okF:okCells (AV.agg [.str F.name,.int .i64 F.ty,.int .i64 F.params,rv2,bv2]).cells=true:=by
   show okCells [_,_,_,rv2,bv2]=true
   simp only[okCells_cons,okCells_nil,ok_int,ok_str,okr,okb,Bool.and_self]
 have n1:(h.push (.row [(AV.agg [gv,fv,.str C.name,.int .i64 C.ty,.int .i64 C.params,rv,bv])] 7)).next=h.next+1:=rfl
 have n2:((h.push (.row [(AV.agg [gv,fv,.str C.name,.int .i64 C.ty,.int .i64 C.params,rv,bv])] 7)).push (.row [(AV.agg [.int .i64 I.op,.int .i64 I.ty,.int .i64 I.dst,.int .i64 I.a,.int .i64 I.b,.int .i64 I.n,.str I.s,av])] 8)).next=h.next+1+1:=rfl
 have c2:((h.push (.row [(AV.agg [gv,fv,.str C.name,.int .i64 C.ty,.int .i64 C.params,rv,bv])] 7)).push (.row [(AV.agg [.int .i64 I.op,.int .i64 I.ty,.int .i64 I.dst,.int .i64 I.a,.int .i64 I.b,.int .i64 I.n,.str I.s,av])] 8)).get h.next=some (.row [(AV.agg [gv,fv,.str C.name,.int .i64 C.ty,.int .i64 C.params,rv,bv])] 7):=(Heap.get_push_ne _ _ (by omega)).trans (Heap.get_push_eq h _)
 have c3:((h.push (.row [(AV.agg [gv,fv,.str C.name,.int .i64 C.ty,.int .i64 C.params,rv,bv])] 7)).push (.row [(AV.agg [.int .i64 I.op,.int .i64 I.ty,.int .i64 I.dst,.int .i64 I.a,.int .i64 I.b,.int .i64 I.n,.str I.s,av])] 8)).get (h.push (.row [(AV.agg [gv,fv,.str C.name,.int .i64 C.ty,.int .i64 C.params,rv,bv])] 7)).next=some (.row [(AV.agg [.int .i64 I.op,.int .i64 I.ty,.int .i64 I.dst,.int .i64 I.a,.int .i64 I.b,.int .i64 I.n,.str I.s,av])] 8):=Heap.get_push_eq _ _
 have Lf:loadA ty23 (.ptr h.next 0 1) ((h.push (.row [(AV.agg [gv,fv,.str C.name,.int .i64 C.ty,.int .i64 C.params,rv,bv])] 7)).push (.row [(AV.agg [.int .i64 I.op,.int .i64 I.ty,.int .i64 I.dst,.int .i64 I.a,.int .i64 I.b,.int .i64 I.n,.str I.s,av])] 8))=some fv:=by rw[load_old c2]; rfl
 have Ln:loadA ty3 (.ptr (h.push (.row [(AV.agg [gv,fv,.str C.name,.int .i64 C.ty,.int .i64 C.params,rv,bv])] 7)).next 0 5) ((h.push (.row [(AV.agg [gv,fv,.str C.name,.int .i64 C.ty,.int .i64 C.params,rv,bv])] 7)).push (.row [(AV.agg [.int .i64 I.op,.int .i64 I.ty,.int .i64 I.dst,.int .i64 I.a,.int .i64 I.b,.int .i64 I.n,.str I.s,av])] 8))=some (.int .i64 I.n):=by rw[load_old c3]; rfl
 have cz:(((h.push (.row [(AV.agg [gv,fv,.str C.name,.int .i64 C.ty,.int .i64 C.params,rv,bv])] 7)).push (.row [(AV.agg [.int .i64 I.op,.int .i64 I.ty,.int .i64 I.dst,.int .i64 I.a,.int .i64 I.b,.int .i64 I.n,.str I.s,av])] 8)).push (.row [(AV.agg [.str [],.int .i64 0,.int .i64 0,.nilsl,.nilsl])] 5)).get ((h.push (.row [(AV.agg [gv,fv,.str C.name,.int .i64 C.ty,.int .i64 C.params,rv,bv])] 7)).push (.row [(AV.agg [.int .i64 I.op,.int .i64 I.ty,.int .i64 I.dst,.int .i64 I.a,.int .i64 I.b,.int .i64 I.n,.str I.s,av])] 8)).next=some (.row [(AV.agg [.str [],.int .i64 0,.int .i64 0,.nilsl,.nilsl])] 5):=Heap.get_push_eq _ _
 have s4:storeA ty31 (.ptr ((h.push (.row [(AV.agg [gv,fv,.str C.name,.int .i64 C.ty,.int .i64 C.params,rv,bv])] 7)).push (.row [(AV.agg [.int .i64 I.op,.int .i64 I.ty,.int .i64 I.dst,.int .i64 I.a,.int .i64 I.b,.int .i64 I.n,.str I.s,av])] 8)).next 0 0) (AV.agg [.str F.name,.int .i64 F.ty,.int .i64 F.params,rv2,bv2]) (((h.push (.row [(AV.agg [gv,fv,.str C.name,.int .i64 C.ty,.int .i64 C.params,rv,bv])] 7)).push (.row [(AV.agg [.int .i64 I.op,.int .i64 I.ty,.int .i64 I.dst,.int .i64 I.a,.int .i64 I.b,.int .i64 I.n,.str I.s,av])] 8)).push (.row [(AV.agg [.str [],.int .i64 0,.int .i64 0,.nilsl,.nilsl])] 5))=some ((((h.push (.row [(AV.agg [gv,fv,.str C.name,.int .i64 C.ty,.int .i64 C.params,rv,bv])] 7)).push (.row [(AV.agg [.int .i64 I.op,.int .i64 I.ty,.int .i64 I.dst,.int .i64 I.a,.int .i64 I.b,.int .i64 I.n,.str I.s,av])] 8)).push (.row [(AV.agg [.str [],.int .i64 0,.int .i64 0,.nilsl,.nilsl])] 5)).set (((h.push (.row [(AV.agg [gv,fv,.str C.name,.int .i64 C.ty,.int .i64 C.params,rv,bv])] 7)).push (.row [(AV.agg [.int .i64 I.op,.int .i64 I.ty,.int .i64 I.dst,.int .i64 I.a,.int .i64 I.b,.int .i64 I.n,.str I.s,av])] 8))).next (.row [(AV.agg [.str F.name,.int .i64 F.ty,.int .i64 F.params,rv2,bv2])] 5)):=by
   rw[store_old cz rfl (by decide) (by decide) okF]; rfl
 have c4f:((((h.push (.row [(AV.agg [gv,fv,.str C.name,.int .i64 C.ty,.int .i64 C.params,rv,bv])] 7)).push (.row [(AV.agg [.int .i64 I.op,.int .i64 I.ty,.int .i64 I.dst,.int .i64 I.a,.int .i64 I.b,.int .i64 I.n,.str I.s,av])] 8)).push (.row [(AV.agg [.str [],.int .i64 0,.int .i64 0,.nilsl,.nilsl])] 5)).set (((h.push (.row [(AV.agg [gv,fv,.str C.name,.int .i64 C.ty,.int .i64 C.params,rv,bv])] 7)).push (.row [(AV.agg [.int .i64 I.op,.int .i64 I.ty,.int .i64 I.dst,.int .i64 I.a,.int .i64 I.b,.int .i64 I.n,.str I.s,av])] 8))).next (.row [(AV.agg [.str F.name,.int .i64 F.ty,.int .i64 F.params,rv2,bv2])] 5)).get ((h.push (.row [(AV.agg [gv,fv,.str C.name,.int .i64 C.ty,.int .i64 C.params,rv,bv])] 7)).push (.row [(AV.agg [.int .i64 I.op,.int .i64 I.ty,.int .i64 I.dst,.int .i64 I.a,.int .i64 I.b,.int .i64 I.n,.str I.s,av])] 8)).next=some (.row [(AV.agg [.str F.name,.int .i64 F.ty,.int .i64 F.params,rv2,bv2])] 5):=Heap.get_set_eq _ _ cz
 have g24:Grow ((h.push (.row [(AV.agg [gv,fv,.str C.name,.int .i64 C.ty,.int .i64 C.params,rv,bv])] 7)).push (.row [(AV.agg [.int .i64 I.op,.int .i64 I.ty,.int .i64 I.dst,.int .i64 I.a,.int .i64 I.b,.int .i64 I.n,.str I.s,av])] 8)) ((((h.push (.row [(AV.agg [gv,fv,.str C.name,.int .i64 C.ty,.int .i64 C.params,rv,bv])] 7)).push (.row [(AV.agg [.int .i64 I.op,.int .i64 I.ty,.int .i64 I.dst,.int .i64 I.a,.int .i64 I.b,.int .i64 I.n,.str I.s,av])] 8)).push (.row [(AV.agg [.str [],.int .i64 0,.int .i64 0,.nilsl,.nilsl])] 5)).set (((h.push (.row [(AV.agg [gv,fv,.str C.name,.int .i64 C.ty,.int .i64 C.params,rv,bv])] 7)).push (.row [(AV.agg [.int .i64 I.op,.int .i64 I.ty,.int .i64 I.dst,.int .i64 I.a,.int .i64 I.b,.int .i64 I.n,.str I.s,av])] 8))).next (.row [(AV.agg [.str F.name,.int .i64 F.ty,.int .i64 F.params,rv2,bv2])] 5)):=(Grow.push _ _).set _ (Nat.le_refl _)
 have g4:Grow h ((((h.push (.row [(AV.agg [gv,fv,.str C.name,.int .i64 C.ty,.int .i64 C.params,rv,bv])] 7)).push (.row [(AV.agg [.int .i64 I.op,.int .i64 I.ty,.int .i64 I.dst,.int .i64 I.a,.int .i64 I.b,.int .i64 I.n,.str I.s,av])] 8)).push (.row [(AV.agg [.str [],.int .i64 0,.int .i64 0,.nilsl,.nilsl])] 5)).set (((h.push (.row [(AV.agg [gv,fv,.str C.name,.int .i64 C.ty,.int .i64 C.params,rv,bv])] 7)).push (.row [(AV.agg [.int .i64 I.op,.int .i64 I.ty,.int .i64 I.dst,.int .i64 I.a,.int .i64 I.b,.int .i64 I.n,.str I.s,av])] 8))).next (.row [(AV.agg [.str F.name,.int .i64 F.ty,.int .i64 F.params,rv2,bv2])] 5)):=g2.trans g24
 have c4i:((((h.push (.row [(AV.agg [gv,fv,.str C.name,.int .i64 C.ty,.int .i64 C.params,rv,bv])] 7)).push (.row [(AV.agg [.int .i64 I.op,.int .i64 I.ty,.int .i64 I.dst,.int .i64 I.a,.int .i64 I.b,.int .i64 I.n,.str I.s,av])] 8)).push (.row [(AV.agg [.str [],.int .i64 0,.int .i64 0,.nilsl,.nilsl])] 5)).set (((h.push (.row [(AV.agg [gv,fv,.str C.name,.int .i64 C.ty,.int .i64 C.params,rv,bv])] 7)).push (.row [(AV.agg [.int .i64 I.op,.int .i64 I.ty,.int .i64 I.dst,.int .i64 I.a,.int .i64 I.b,.int .i64 I.n,.str I.s,av])] 8))).next (.row [(AV.agg [.str F.name,.int .i64 F.ty,.int .i64 F.params,rv2,bv2])] 5)).get (h.push (.row [(AV.agg [gv,fv,.str C.name,.int .i64 C.ty,.int .i64 C.params,rv,bv])] 7)).next=some (.row [(AV.agg [.int .i64 I.op,.int .i64 I.ty,.int .i64 I.dst,.int .i64 I.a,.int .i64 I.b,.int .i64 I.n,.str I.s,av])] 8):=(g24.get _ (by omega)).trans c3
 have La:loadA ty28 (.ptr (h.push (.row [(AV.agg [gv,fv,.str C.name,.int .i64 C.ty,.int .i64 C.params,rv,bv])] 7)).next 0 7) ((((h.push (.row [(AV.agg [gv,fv,.str C.name,.int .i64 C.ty,.int .i64 C.params,rv,bv])] 7)).push (.row [(AV.agg [.int .i64 I.op,.int .i64 I.ty,.int .i64 I.dst,.int .i64 I.a,.int .i64 I.b,.int .i64 I.n,.str I.s,av])] 8)).push (.row [(AV.agg [.str [],.int .i64 0,.int .i64 0,.nilsl,.nilsl])] 5)).set (((h.push (.row [(AV.agg [gv,fv,.str C.name,.int .i64 C.ty,.int .i64 C.params,rv,bv])] 7)).push (.row [(AV.agg [.int .i64 I.op,.int .i64 I.ty,.int .i64 I.dst,.int .i64 I.a,.int .i64 I.b,.int .i64 I.n,.str I.s,av])] 8))).next (.row [(AV.agg [.str F.name,.int .i64 F.ty,.int .i64 F.params,rv2,bv2])] 5))=some av:=by rw[load_old c4i]; rfl
 have Ld:loadA ty3 (.ptr (h.push (.row [(AV.agg [gv,fv,.str C.name,.int .i64 C.ty,.int .i64 C.params,rv,bv])] 7)).next 0 2) ((((h.push (.row [(AV.agg [gv,fv,.str C.name,.int .i64 C.ty,.int .i64 C.params,rv,bv])] 7)).push (.row [(AV.agg [.int .i64 I.op,.int .i64 I.ty,.int .i64 I.dst,.int .i64 I.a,.int .i64 I.b,.int .i64 I.n,.str I.s,av])] 8)).push (.row [(AV.agg [.str [],.int .i64 0,.int .i64 0,.nilsl,.nilsl])] 5)).set (((h.push (.row [(AV.agg [gv,fv,.str C.name,.int .i64 C.ty,.int .i64 C.params,rv,bv])] 7)).push (.row [(AV.agg [.int .i64 I.op,.int .i64 I.ty,.int .i64 I.dst,.int .i64 I.a,.int .i64 I.b,.int .i64 I.n,.str I.s,av])] 8))).next (.row [(AV.agg [.str F.name,.int .i64 F.ty,.int .i64 F.params,rv2,bv2])] 5))=some (.int .i64 I.dst):=by rw[load_old c4i]; rfl
 have Lt:loadA ty3 (.ptr ((h.push (.row [(AV.agg [gv,fv,.str C.name,.int .i64 C.ty,.int .i64 C.params,rv,bv])] 7)).push (.row [(AV.agg [.int .i64 I.op,.int .i64 I.ty,.int .i64 I.dst,.int .i64 I.a,.int .i64 I.b,.int .i64 I.n,.str I.s,av])] 8)).next 0 1) ((((h.push (.row [(AV.agg [gv,fv,.str C.name,.int .i64 C.ty,.int .i64 C.params,rv,bv])] 7)).push (.row [(AV.agg [.int .i64 I.op,.int .i64 I.ty,.int .i64 I.dst,.int .i64 I.a,.int .i64 I.b,.int .i64 I.n,.str I.s,av])] 8)).push (.row [(AV.agg [.str [],.int .i64 0,.int .i64 0,.nilsl,.nilsl])] 5)).set (((h.push (.row [(AV.agg [gv,fv,.str C.name,.int .i64 C.ty,.int .i64 C.params,rv,bv])] 7)).push (.row [(AV.agg [.int .i64 I.op,.int .i64 I.ty,.int .i64 I.dst,.int .i64 I.a,.int .i64 I.b,.int .i64 I.n,.str I.s,av])] 8))).next (.row [(AV.agg [.str F.name,.int .i64 F.ty,.int .i64 F.params,rv2,bv2])] 5))=some (.int .i64 F.ty):=by rw[load_old c4f]; rfl
 have haln:=hav.len
 have hixn:∀(te:Nat) (x:AV) (h:Heap),idxR env te x (.int .i64 I.n) h=lift (indexAddrA env (.slice te) k x) h:=fun te x h=>by rw[hk]; rfl
 have key:∃l,AM.look l 2=.fn (.func 53) [] [.ptr p0 0 0]∧AM.look l 3=.ptr h.next 0 0∧AM.look l 4=.ptr (h.push (.row [(AV.agg [gv,fv,.str C.name,.int .i64 C.ty,.int .i64 C.params,rv,bv])] 7)).next 0 0∧AM.look l 7=.ptr ((h.push (.row [(AV.agg [gv,fv,.str C.name,.int .i64 C.ty,.int .i64 C.params,rv,bv])] 7)).push (.row [(AV.agg [.int .i64 I.op,.int .i64 I.ty,.int .i64 I.dst,.int .i64 I.a,.int .i64 I.b,.int .i64 I.n,.str I.s,av])] 8)).next 0 0∧AM.look l 18=av∧AM.look l 19=.int .i64 (I.args.length:Int)∧AM.look l 20=.int .i64 ((0:Nat):Int)∧callω env 55 [(AV.agg [gv,fv,.str C.name,.int .i64 C.ty,.int .i64 C.params,rv,bv]),(AV.agg [.int .i64 I.op,.int .i64 I.ty,.int .i64 I.dst,.int .i64 I.a,.int .i64 I.b,.int .i64 I.n,.str I.s,av]),.fn (.func 53) [] [.ptr p0 0 0]] h=afterBody env [.tmp 6] (seqA (evω env kt55_0) (blockA 0 (evω env (.loop lp55_0) (fset 51 l) ((((h.push (.row [(AV.agg [gv,fv,.str C.name,.int .i64 C.ty,.int .i64 C.params,rv,bv])] 7)).push (.row [(AV.agg [.int .i64 I.op,.int .i64 I.ty,.int .i64 I.dst,.int .i64 I.a,.int .i64 I.b,.int .i64 I.n,.str I.s,av])] 8)).push (.row [(AV.agg [.str [],.int .i64 0,.int .i64 0,.nilsl,.nilsl])] 5)).set (((h.push (.row [(AV.agg [gv,fv,.str C.name,.int .i64 C.ty,.int .i64 C.params,rv,bv])] 7)).push (.row [(AV.agg [.int .i64 I.op,.int .i64 I.ty,.int .i64 I.dst,.int .i64 I.a,.int .i64 I.b,.int .i64 I.n,.str I.s,av])] 8))).next (.row [(AV.agg [.str F.name,.int .i64 F.ty,.int .i64 F.params,rv2,bv2])] 5))))):=by
   refine⟨?_,?_,?_,?_,?_,?_,?_,?_,?_⟩
   rotate_left 8
   · rw[pl55.call h (by simp)]; unfold c55
     simp -implicitDefEqProofs (maxSteps:=1000000) only[o1,o2,o3,o4,o5,Lf,Ln,hixn,cix,cld,s4,La,haln,XS,XT,XF,AV.cells,Nat.reduceAdd,Nat.reduceLT,Nat.reduceEqDiff,↓reduceIte,Nat.reduceLeDiff]
     rfl
   all_goals simp[AM.look]
 obtain⟨l,k2,k3,k4,k7,k18,k19,k20,hgo⟩:=key
 have hrd:readsD I=I.args:=by
   unfold readsD
   rw[if_neg (by omega),if_neg (by omega),if_pos h9]
 have cell4:((((h.push (.row [(AV.agg [gv,fv,.str C.name,.int .i64 C.ty,.int .i64 C.params,rv,bv])] 7)).push (.row [(AV.agg [.int .i64 I.op,.int .i64 I.ty,.int .i64 I.dst,.int .i64 I.a,.int .i64 I.b,.int .i64 I.n,.str I.s,av])] 8)).push (.row [(AV.agg [.str [],.int .i64 0,.int .i64 0,.nilsl,.nilsl])] 5)).set (((h.push (.row [(AV.agg [gv,fv,.str C.name,.int .i64 C.ty,.int .i64 C.params,rv,bv])] 7)).push (.row [(AV.agg [.int .i64 I.op,.int .i64 I.ty,.int .i64 I.dst,.int .i64 I.a,.int .i64 I.b,.int .i64 I.n,.str I.s,av])] 8))).next (.row [(AV.agg [.str F.name,.int .i64 F.ty,.int .i64 F.params,rv2,bv2])] 5)).get p0=some (.row [(AV.agg [gv,fv,.str C.name,.int .i64 C.ty,.int .i64 C.params,rv,bv])] 7):=(g4.get p0 hp0).trans cell
 rcases caLoop2 cell4 (IntsR.stays g4.kp hrv) c4f (IntsR.stays g24.kp c.regs) (IntsR.stays g4.kp hav) (by rw[← hrd]; exact hpl.rd) (by omega) k2 k7 k18 k19 k20 with ⟨l',e,m6⟩ | ⟨l',e,kp⟩
 · refine⟨false,((((h.push (.row [(AV.agg [gv,fv,.str C.name,.int .i64 C.ty,.int .i64 C.params,rv,bv])] 7)).push (.row [(AV.agg [.int .i64 I.op,.int .i64 I.ty,.int .i64 I.dst,.int .i64 I.a,.int .i64 I.b,.int .i64 I.n,.str I.s,av])] 8)).push (.row [(AV.agg [.str [],.int .i64 0,.int .i64 0,.nilsl,.nilsl])] 5)).set (((h.push (.row [(AV.agg [gv,fv,.str C.name,.int .i64 C.ty,.int .i64 C.params,rv,bv])] 7)).push (.row [(AV.agg [.int .i64 I.op,.int .i64 I.ty,.int .i64 I.dst,.int .i64 I.a,.int .i64 I.b,.int .i64 I.n,.str I.s,av])] 8))).next (.row [(AV.agg [.str F.name,.int .i64 F.ty,.int .i64 F.params,rv2,bv2])] 5)),?_,g4⟩
   rw[hgo,e]
   simp -implicitDefEqProofs (maxSteps:=1000000) only[m6,XS,XT,XF,AV.cells,Nat.reduceAdd,Nat.reduceLT,Nat.reduceEqDiff,↓reduceIte,Nat.reduceLeDiff]
 · have t2:=(kp 2 (by simp)).trans k2
   have t4:=(kp 4 (by simp)).trans k4
   have t7:=(kp 7 (by simp)).trans k7
   by_cases hd:I.dst < 0
   · refine⟨true,((((h.push (.row [(AV.agg [gv,fv,.str C.name,.int .i64 C.ty,.int .i64 C.params,rv,bv])] 7)).push (.row [(AV.agg [.int .i64 I.op,.int .i64 I.ty,.int .i64 I.dst,.int .i64 I.a,.int .i64 I.b,.int .i64 I.n,.str I.s,av])] 8)).push (.row [(AV.agg [.str [],.int .i64 0,.int .i64 0,.nilsl,.nilsl])] 5)).set (((h.push (.row [(AV.agg [gv,fv,.str C.name,.int .i64 C.ty,.int .i64 C.params,rv,bv])] 7)).push (.row [(AV.agg [.int .i64 I.op,.int .i64 I.ty,.int .i64 I.dst,.int .i64 I.a,.int .i64 I.b,.int .i64 I.n,.str I.s,av])] 8))).next (.row [(AV.agg [.str F.name,.int .i64 F.ty,.int .i64 F.params,rv2,bv2])] 5)),?_,g4⟩
     rw[hgo,e]
     unfold kt55_0
     simp -implicitDefEqProofs (maxSteps:=1000000) only[t2,t4,t7,Ld,eq_true hd,XS,XT,XF,AV.cells,Nat.reduceAdd,Nat.reduceLT,Nat.reduceEqDiff,↓reduceIte,Nat.reduceLeDiff]
   · by_cases hv:F.ty=0
     · refine⟨false,((((h.push (.row [(AV.agg [gv,fv,.str C.name,.int .i64 C.ty,.int .i64 C.params,rv,bv])] 7)).push (.row [(AV.agg [.int .i64 I.op,.int .i64 I.ty,.int .i64 I.dst,.int .i64 I.a,.int .i64 I.b,.int .i64 I.n,.str I.s,av])] 8)).push (.row [(AV.agg [.str [],.int .i64 0,.int .i64 0,.nilsl,.nilsl])] 5)).set (((h.push (.row [(AV.agg [gv,fv,.str C.name,.int .i64 C.ty,.int .i64 C.params,rv,bv])] 7)).push (.row [(AV.agg [.int .i64 I.op,.int .i64 I.ty,.int .i64 I.dst,.int .i64 I.a,.int .i64 I.b,.int .i64 I.n,.str I.s,av])] 8))).next (.row [(AV.agg [.str F.name,.int .i64 F.ty,.int .i64 F.params,rv2,bv2])] 5)),?_,g4⟩
       rw[hgo,e]
       unfold kt55_0
       simp -implicitDefEqProofs (maxSteps:=1000000) only[t2,t4,t7,Ld,eq_false hd,Lt,eq_true hv,XS,XT,XF,AV.cells,Nat.reduceAdd,Nat.reduceLT,Nat.reduceEqDiff,↓reduceIte,Nat.reduceLeDiff]
     · obtain⟨kr,ra,hkr,hra⟩:=thereReg (hpl.wc h9 (by omega))
       have his:=is_ok cell4 (IntsR.stays g4.kp hrv) hkr hra
       refine⟨decide (ra=F.ty),((((h.push (.row [(AV.agg [gv,fv,.str C.name,.int .i64 C.ty,.int .i64 C.params,rv,bv])] 7)).push (.row [(AV.agg [.int .i64 I.op,.int .i64 I.ty,.int .i64 I.dst,.int .i64 I.a,.int .i64 I.b,.int .i64 I.n,.str I.s,av])] 8)).push (.row [(AV.agg [.str [],.int .i64 0,.int .i64 0,.nilsl,.nilsl])] 5)).set (((h.push (.row [(AV.agg [gv,fv,.str C.name,.int .i64 C.ty,.int .i64 C.params,rv,bv])] 7)).push (.row [(AV.agg [.int .i64 I.op,.int .i64 I.ty,.int .i64 I.dst,.int .i64 I.a,.int .i64 I.b,.int .i64 I.n,.str I.s,av])] 8))).next (.row [(AV.agg [.str F.name,.int .i64 F.ty,.int .i64 F.params,rv2,bv2])] 5)),?_,g4⟩
       rw[hgo,e]
       unfold kt55_0
       simp -implicitDefEqProofs (maxSteps:=1000000) only[t2,t4,t7,Ld,eq_false hd,Lt,eq_false hv,p_callv,callFn2,his,XS,XT,XF,AV.cells,Nat.reduceAdd,Nat.reduceLT,Nat.reduceEqDiff,↓reduceIte,Nat.reduceLeDiff]
end Go.Proofs.AmEnv
namespace Go.Proofs.AmEnv
open Go Go.AM
def compares:List UInt8:=[32,61,61,32,33,61,32,60,32,60,61,32,62,32,62,61,32]
theorem containsC (p:List UInt8) (h:Heap):callω env 47 [.str compares,.str p] h=.ok (.bool (contS p compares)) h:=(toldCall rfl rfl).trans (told_short rfl)
theorem p_mf {fr:Tr} {h:Heap} {call:CallF} (x:Tmp):evOp env call (.makeFunc (.func 53) #[] #[.tmp x]) fr h=.ok (.fn (.func 53) [] [opv env (.tmp x) fr]) h:=rfl
set_option maxHeartbeats 16000000 in
theorem types_ok {h:Heap} {x i:AV} {M:MModu} {C:MCode} {I:MInstr} (hx:ChkR h x M C) (hi:InstrR h i I) (hs:I.s.length≤140737488355328) (hpl:PlOk M C I) (h9a:I.op=9→∀(k:Nat) F,I.n=k→M.funcs[k]?=some F→(I.args.length:Int)=F.params):∃b h',callω env 45 [x,i] h=.ok (.bool b) h'∧Grow h h':=by
 obtain⟨gv,fv,rv,bv,rfl,hgv,hfv,hrv,hbv⟩:=hx
 obtain⟨av,rfl,hav⟩:=hi
 have o1:=hgv.ok
 have o2:=hfv.ok
 have o3:=hrv.ok
 have o4:=hbv.ok
 have o5:=hav.ok
 have g2:Grow h ((h.push (.row [(AV.agg [gv,fv,.str C.name,.int .i64 C.ty,.int .i64 C.params,rv,bv])] 7)).push (.row [(AV.agg [.int .i64 I.op,.int .i64 I.ty,.int .i64 I.dst,.int .i64 I.a,.int .i64 I.b,.int .i64 I.n,.str I.s,av])] 8)):=(Grow.push h _).trans (Grow.push _ _)
 have n1:(h.push (.row [(AV.agg [gv,fv,.str C.name,.int .i64 C.ty,.int .i64 C.params,rv,bv])] 7)).next=h.next+1:=rfl
 have n2:((h.push (.row [(AV.agg [gv,fv,.str C.name,.int .i64 C.ty,.int .i64 C.params,rv,bv])] 7)).push (.row [(AV.agg [.int .i64 I.op,.int .i64 I.ty,.int .i64 I.dst,.int .i64 I.a,.int .i64 I.b,.int .i64 I.n,.str I.s,av])] 8)).next=h.next+1+1:=rfl
 have c2:((h.push (.row [(AV.agg [gv,fv,.str C.name,.int .i64 C.ty,.int .i64 C.params,rv,bv])] 7)).push (.row [(AV.agg [.int .i64 I.op,.int .i64 I.ty,.int .i64 I.dst,.int .i64 I.a,.int .i64 I.b,.int .i64 I.n,.str I.s,av])] 8)).get h.next=some (.row [(AV.agg [gv,fv,.str C.name,.int .i64 C.ty,.int .i64 C.params,rv,bv])] 7):=(Heap.get_push_ne _ _ (by omega)).trans (Heap.get_push_eq h _)
 have c3:((h.push (.row [(AV.agg [gv,fv,.str C.name,.int .i64 C.ty,.int .i64 C.params,rv,bv])] 7)).push (.row [(AV.agg [.int .i64 I.op,.int .i64 I.ty,.int .i64 I.dst,.int .i64 I.a,.int .i64 I.b,.int .i64 I.n,.str I.s,av])] 8)).get (h.push (.row [(AV.agg [gv,fv,.str C.name,.int .i64 C.ty,.int .i64 C.params,rv,bv])] 7)).next=some (.row [(AV.agg [.int .i64 I.op,.int .i64 I.ty,.int .i64 I.dst,.int .i64 I.a,.int .i64 I.b,.int .i64 I.n,.str I.s,av])] 8):=Heap.get_push_eq _ _
 have L3:∀t o,loadA t (.ptr (h.push (.row [(AV.agg [gv,fv,.str C.name,.int .i64 C.ty,.int .i64 C.params,rv,bv])] 7)).next 0 o) ((h.push (.row [(AV.agg [gv,fv,.str C.name,.int .i64 C.ty,.int .i64 C.params,rv,bv])] 7)).push (.row [(AV.agg [.int .i64 I.op,.int .i64 I.ty,.int .i64 I.dst,.int .i64 I.a,.int .i64 I.b,.int .i64 I.n,.str I.s,av])] 8))=partOf t [.int .i64 I.op,.int .i64 I.ty,.int .i64 I.dst,.int .i64 I.a,.int .i64 I.b,.int .i64 I.n,.str I.s,av] o:=fun t o=>load_old c3 t o
 have Lr:loadA ty28 (.ptr h.next 0 5) ((h.push (.row [(AV.agg [gv,fv,.str C.name,.int .i64 C.ty,.int .i64 C.params,rv,bv])] 7)).push (.row [(AV.agg [.int .i64 I.op,.int .i64 I.ty,.int .i64 I.dst,.int .i64 I.a,.int .i64 I.b,.int .i64 I.n,.str I.s,av])] 8))=some rv:=by rw[load_old c2]; rfl
 have Lg:loadA ty22 (.ptr h.next 0 0) ((h.push (.row [(AV.agg [gv,fv,.str C.name,.int .i64 C.ty,.int .i64 C.params,rv,bv])] 7)).push (.row [(AV.agg [.int .i64 I.op,.int .i64 I.ty,.int .i64 I.dst,.int .i64 I.a,.int .i64 I.b,.int .i64 I.n,.str I.s,av])] 8))=some gv:=by rw[load_old c2]; rfl
 have W2:loadA ty59 (.ptr h.next 0 0) ((h.push (.row [(AV.agg [gv,fv,.str C.name,.int .i64 C.ty,.int .i64 C.params,rv,bv])] 7)).push (.row [(AV.agg [.int .i64 I.op,.int .i64 I.ty,.int .i64 I.dst,.int .i64 I.a,.int .i64 I.b,.int .i64 I.n,.str I.s,av])] 8))=some (AV.agg [gv,fv,.str C.name,.int .i64 C.ty,.int .i64 C.params,rv,bv]):=by rw[load_old c2]; rfl
 have hrv2:=IntsR.stays g2.kp hrv
 have hgv2:=GlobsR.stays g2.kp hgv
 by_cases e2:I.op=2
 · obtain⟨ka,ra,hka,hra⟩:=thereReg (hpl.rd I.a (by unfold readsD; rw[if_pos (by simp[e2])]; simp))
   obtain⟨kd,rd,hkd,hrd⟩:=thereReg (hpl.wr (by simp[e2]))
   have isA:=is_ok c2 hrv2 hka hra
   have ad:=regAt hrv2 hrd
   have dix:=ad.ix
   have dld:=ad.ld
   have hixd:∀(te:Nat) (x:AV) (h:Heap),idxR env te x (.int .i64 I.dst) h=lift (indexAddrA env (.slice te) kd x) h:=fun te x h=>by rw[hkd]; rfl
   refine⟨decide (ra=rd),((h.push (.row [(AV.agg [gv,fv,.str C.name,.int .i64 C.ty,.int .i64 C.params,rv,bv])] 7)).push (.row [(AV.agg [.int .i64 I.op,.int .i64 I.ty,.int .i64 I.dst,.int .i64 I.a,.int .i64 I.b,.int .i64 I.n,.str I.s,av])] 8)),?_,g2⟩
   rw[pl45.call h (by simp)]
   unfold c45
   simp -implicitDefEqProofs (maxSteps:=1000000) only[o1,o2,o3,o4,o5,p_mf,L3,Lr,eq_true e2,hixd,dix,dld,p_callv,callFn2,isA,XS,XT,XF,AV.cells,Nat.reduceAdd,Nat.reduceLT,Nat.reduceEqDiff,↓reduceIte,Nat.reduceLeDiff]
 by_cases e3:I.op=3
 · obtain⟨ka,ra,hka,hra⟩:=thereReg (hpl.rd I.a (by unfold readsD; rw[if_neg (by omega),if_pos (by simp[e3])]; simp))
   obtain⟨kb,rb,hkb,hrb⟩:=thereReg (hpl.rd I.b (by unfold readsD; rw[if_neg (by omega),if_pos (by simp[e3])]; simp))
   obtain⟨kd,rd,hkd,hrd⟩:=thereReg (hpl.wr (by simp[e3]))
   have isA:=is_ok c2 hrv2 hka hra
   have isB:=is_ok c2 hrv2 hkb hrb
   have isD:=is_ok c2 hrv2 hkd hrd
   have d1:binOpA .add (flatOf env 9) (.str [32]) (.str I.s)=some (.str ([32]++I.s)):=b_addS _ (by simp; omega)
   have d2:binOpA .add (flatOf env 9) (.str ([32]++I.s)) (.str [32])=some (.str ([32]++I.s++[32])):=b_addS _ (by simp; omega)
   have c3':∀h,callω env 47 [.str [32,61,61,32,33,61,32,60,32,60,61,32,62,32,62,61,32],.str ([32]++I.s++[32])] h=.ok (.bool (contS ([32]++I.s++[32]) compares)) h:=containsC _
   by_cases qa:ra=I.ty
   · by_cases qb:rb=I.ty
     · cases hcc:contS ([32]++I.s++[32]) compares with
       | true =>
         refine⟨decide (rd=1),((h.push (.row [(AV.agg [gv,fv,.str C.name,.int .i64 C.ty,.int .i64 C.params,rv,bv])] 7)).push (.row [(AV.agg [.int .i64 I.op,.int .i64 I.ty,.int .i64 I.dst,.int .i64 I.a,.int .i64 I.b,.int .i64 I.n,.str I.s,av])] 8)),?_,g2⟩
         rw[pl45.call h (by simp)]
         unfold c45
         simp -implicitDefEqProofs (maxSteps:=1000000) only[o1,o2,o3,o4,o5,p_mf,L3,Lr,eq_false e2,eq_true e3,p_callv,callFn2,d1,d2,c3',hcc,isA,isB,isD,eq_true qa,eq_true qb,XS,XT,XF,AV.cells,Nat.reduceAdd,Nat.reduceLT,Nat.reduceEqDiff,↓reduceIte,Nat.reduceLeDiff]
       | false =>
         refine⟨decide (rd=I.ty),((h.push (.row [(AV.agg [gv,fv,.str C.name,.int .i64 C.ty,.int .i64 C.params,rv,bv])] 7)).push (.row [(AV.agg [.int .i64 I.op,.int .i64 I.ty,.int .i64 I.dst,.int .i64 I.a,.int .i64 I.b,.int .i64 I.n,.str I.s,av])] 8)),?_,g2⟩
         rw[pl45.call h (by simp)]
         unfold c45
         simp -implicitDefEqProofs (maxSteps:=1000000) only[o1,o2,o3,o4,o5,p_mf,L3,Lr,eq_false e2,eq_true e3,p_callv,callFn2,d1,d2,c3',hcc,isA,isB,isD,eq_true qa,eq_true qb,XS,XT,XF,AV.cells,Nat.reduceAdd,Nat.reduceLT,Nat.reduceEqDiff,↓reduceIte,Nat.reduceLeDiff]
     · refine⟨false,((h.push (.row [(AV.agg [gv,fv,.str C.name,.int .i64 C.ty,.int .i64 C.params,rv,bv])] 7)).push (.row [(AV.agg [.int .i64 I.op,.int .i64 I.ty,.int .i64 I.dst,.int .i64 I.a,.int .i64 I.b,.int .i64 I.n,.str I.s,av])] 8)),?_,g2⟩
       rw[pl45.call h (by simp)]
       unfold c45
       cases hcc:contS ([32]++I.s++[32]) compares with
       | true=>simp -implicitDefEqProofs (maxSteps:=1000000) only[o1,o2,o3,o4,o5,p_mf,L3,Lr,eq_false e2,eq_true e3,p_callv,callFn2,d1,d2,c3',hcc,isA,isB,isD,eq_true qa,eq_false qb,XS,XT,XF,AV.cells,Nat.reduceAdd,Nat.reduceLT,Nat.reduceEqDiff,↓reduceIte,Nat.reduceLeDiff]
       | false=>simp -implicitDefEqProofs (maxSteps:=1000000) only[o1,o2,o3,o4,o5,p_mf,L3,Lr,eq_false e2,eq_true e3,p_callv,callFn2,d1,d2,c3',hcc,isA,isB,isD,eq_true qa,eq_false qb,XS,XT,XF,AV.cells,Nat.reduceAdd,Nat.reduceLT,Nat.reduceEqDiff,↓reduceIte,Nat.reduceLeDiff]
   · refine⟨false,((h.push (.row [(AV.agg [gv,fv,.str C.name,.int .i64 C.ty,.int .i64 C.params,rv,bv])] 7)).push (.row [(AV.agg [.int .i64 I.op,.int .i64 I.ty,.int .i64 I.dst,.int .i64 I.a,.int .i64 I.b,.int .i64 I.n,.str I.s,av])] 8)),?_,g2⟩
     rw[pl45.call h (by simp)]
     unfold c45
     cases hcc:contS ([32]++I.s++[32]) compares with
     | true=>simp -implicitDefEqProofs (maxSteps:=1000000) only[o1,o2,o3,o4,o5,p_mf,L3,Lr,eq_false e2,eq_true e3,p_callv,callFn2,d1,d2,c3',hcc,isA,eq_false qa,XS,XT,XF,AV.cells,Nat.reduceAdd,Nat.reduceLT,Nat.reduceEqDiff,↓reduceIte,Nat.reduceLeDiff]
     | false=>simp -implicitDefEqProofs (maxSteps:=1000000) only[o1,o2,o3,o4,o5,p_mf,L3,Lr,eq_false e2,eq_true e3,p_callv,callFn2,d1,d2,c3',hcc,isA,eq_false qa,XS,XT,XF,AV.cells,Nat.reduceAdd,Nat.reduceLT,Nat.reduceEqDiff,↓reduceIte,Nat.reduceLeDiff]
 by_cases e4:I.op=4
 · obtain⟨kd,rd,hkd,hrd⟩:=thereReg (hpl.wr (by simp[e4]))
   have isD:=is_ok c2 hrv2 hkd hrd
   refine⟨decide (rd=wideD I.ty),((h.push (.row [(AV.agg [gv,fv,.str C.name,.int .i64 C.ty,.int .i64 C.params,rv,bv])] 7)).push (.row [(AV.agg [.int .i64 I.op,.int .i64 I.ty,.int .i64 I.dst,.int .i64 I.a,.int .i64 I.b,.int .i64 I.n,.str I.s,av])] 8)),?_,g2⟩
   rw[pl45.call h (by simp)]
   unfold c45
   simp -implicitDefEqProofs (maxSteps:=1000000) only[o1,o2,o3,o4,o5,p_mf,L3,Lr,eq_false e2,eq_false e3,eq_true e4,d_qWide,isI64_int,avInt_int,d_care,p_callv,callFn2,isD,XS,XT,XF,AV.cells,Nat.reduceAdd,Nat.reduceLT,Nat.reduceEqDiff,↓reduceIte,Nat.reduceLeDiff]
 by_cases e5:I.op=5
 · obtain⟨ka,ra,hka,hra⟩:=thereReg (hpl.rd I.a (by unfold readsD; rw[if_pos (by simp[e5])]; simp))
   obtain⟨kd,rd,hkd,hrd⟩:=thereReg (hpl.wr (by simp[e5]))
   obtain⟨kn,hkn,hnl⟩:=thereD_nat (hpl.gl (by simp[e5]))
   have isA:=is_ok c2 hrv2 hka hra
   have isD:=is_ok c2 hrv2 hkd hrd
   have ga:=globAt hgv2 (List.getElem?_eq_getElem (show kn < M.globals.length by omega))
   have gix:=ga.ix
   have go:=ga.o
   have gl:=ga.l1
   have hixn:∀(te:Nat) (x:AV) (h:Heap),idxR env te x (.int .i64 I.n) h=lift (indexAddrA env (.slice te) kn x) h:=fun te x h=>by rw[hkn]; rfl
   by_cases qa:ra=2
   · refine⟨decide (rd=wideD M.globals[kn].ty),((h.push (.row [(AV.agg [gv,fv,.str C.name,.int .i64 C.ty,.int .i64 C.params,rv,bv])] 7)).push (.row [(AV.agg [.int .i64 I.op,.int .i64 I.ty,.int .i64 I.dst,.int .i64 I.a,.int .i64 I.b,.int .i64 I.n,.str I.s,av])] 8)),?_,g2⟩
     rw[pl45.call h (by simp)]
     unfold c45
     simp -implicitDefEqProofs (maxSteps:=1000000) only[o1,o2,o3,o4,o5,p_mf,L3,Lg,eq_false e2,eq_false e3,eq_false e4,eq_true e5,d_skipG,d_doneC,d_qWideG,isI64_int,avInt_int,hixn,gix,go,gl,p_callv,callFn2,isA,isD,eq_true qa,XS,XT,XF,AV.cells,Nat.reduceAdd,Nat.reduceLT,Nat.reduceEqDiff,↓reduceIte,Nat.reduceLeDiff]
   · refine⟨false,((h.push (.row [(AV.agg [gv,fv,.str C.name,.int .i64 C.ty,.int .i64 C.params,rv,bv])] 7)).push (.row [(AV.agg [.int .i64 I.op,.int .i64 I.ty,.int .i64 I.dst,.int .i64 I.a,.int .i64 I.b,.int .i64 I.n,.str I.s,av])] 8)),?_,g2⟩
     rw[pl45.call h (by simp)]
     unfold c45
     simp -implicitDefEqProofs (maxSteps:=1000000) only[o1,o2,o3,o4,o5,p_mf,L3,Lg,eq_false e2,eq_false e3,eq_false e4,eq_true e5,d_skipG,d_doneC,d_qWideG,isI64_int,avInt_int,hixn,gix,go,gl,p_callv,callFn2,isA,isD,eq_false qa,XS,XT,XF,AV.cells,Nat.reduceAdd,Nat.reduceLT,Nat.reduceEqDiff,↓reduceIte,Nat.reduceLeDiff]
 by_cases e6:I.op=6
 · obtain⟨ka,ra,hka,hra⟩:=thereReg (hpl.rd I.a (by unfold readsD; rw[if_neg (by omega),if_pos (by simp[e6])]; simp))
   obtain⟨kb,rb,hkb,hrb⟩:=thereReg (hpl.rd I.b (by unfold readsD; rw[if_neg (by omega),if_pos (by simp[e6])]; simp))
   obtain⟨kn,hkn,hnl⟩:=thereD_nat (hpl.gl (by simp[e6]))
   have isA:=is_ok c2 hrv2 hka hra
   have isB:=is_ok c2 hrv2 hkb hrb
   have ga:=globAt hgv2 (List.getElem?_eq_getElem (show kn < M.globals.length by omega))
   have gix:=ga.ix
   have go:=ga.o
   have gl:=ga.l1
   have hixn:∀(te:Nat) (x:AV) (h:Heap),idxR env te x (.int .i64 I.n) h=lift (indexAddrA env (.slice te) kn x) h:=fun te x h=>by rw[hkn]; rfl
   by_cases qa:ra=2
   · refine⟨decide (rb=wideD M.globals[kn].ty),((h.push (.row [(AV.agg [gv,fv,.str C.name,.int .i64 C.ty,.int .i64 C.params,rv,bv])] 7)).push (.row [(AV.agg [.int .i64 I.op,.int .i64 I.ty,.int .i64 I.dst,.int .i64 I.a,.int .i64 I.b,.int .i64 I.n,.str I.s,av])] 8)),?_,g2⟩
     rw[pl45.call h (by simp)]
     unfold c45
     simp -implicitDefEqProofs (maxSteps:=1000000) only[o1,o2,o3,o4,o5,p_mf,L3,Lg,eq_false e2,eq_false e3,eq_false e4,eq_false e5,eq_true e6,d_skipG,d_doneC,d_qWideG,isI64_int,avInt_int,hixn,gix,go,gl,p_callv,callFn2,isA,isB,eq_true qa,XS,XT,XF,AV.cells,Nat.reduceAdd,Nat.reduceLT,Nat.reduceEqDiff,↓reduceIte,Nat.reduceLeDiff]
   · refine⟨false,((h.push (.row [(AV.agg [gv,fv,.str C.name,.int .i64 C.ty,.int .i64 C.params,rv,bv])] 7)).push (.row [(AV.agg [.int .i64 I.op,.int .i64 I.ty,.int .i64 I.dst,.int .i64 I.a,.int .i64 I.b,.int .i64 I.n,.str I.s,av])] 8)),?_,g2⟩
     rw[pl45.call h (by simp)]
     unfold c45
     simp -implicitDefEqProofs (maxSteps:=1000000) only[o1,o2,o3,o4,o5,p_mf,L3,Lg,eq_false e2,eq_false e3,eq_false e4,eq_false e5,eq_true e6,d_skipG,d_doneC,d_qWideG,isI64_int,avInt_int,hixn,gix,go,gl,p_callv,callFn2,isA,isB,eq_false qa,XS,XT,XF,AV.cells,Nat.reduceAdd,Nat.reduceLT,Nat.reduceEqDiff,↓reduceIte,Nat.reduceLeDiff]
 by_cases e7:I.op=7
 · obtain⟨kd,rd,hkd,hrd⟩:=thereReg (hpl.wr (by simp[e7]))
   obtain⟨kn,hkn,hnl⟩:=thereD_nat (hpl.gl (by simp[e7]))
   have isD:=is_ok c2 hrv2 hkd hrd
   have ga:=globAt hgv2 (List.getElem?_eq_getElem (show kn < M.globals.length by omega))
   have gix:=ga.ix
   have go:=ga.o
   have gl:=ga.l1
   have hixn:∀(te:Nat) (x:AV) (h:Heap),idxR env te x (.int .i64 I.n) h=lift (indexAddrA env (.slice te) kn x) h:=fun te x h=>by rw[hkn]; rfl
   refine⟨decide (rd=M.globals[kn].ty),((h.push (.row [(AV.agg [gv,fv,.str C.name,.int .i64 C.ty,.int .i64 C.params,rv,bv])] 7)).push (.row [(AV.agg [.int .i64 I.op,.int .i64 I.ty,.int .i64 I.dst,.int .i64 I.a,.int .i64 I.b,.int .i64 I.n,.str I.s,av])] 8)),?_,g2⟩
   rw[pl45.call h (by simp)]
   unfold c45
   simp -implicitDefEqProofs (maxSteps:=1000000) only[o1,o2,o3,o4,o5,p_mf,L3,Lg,eq_false e2,eq_false e3,eq_false e4,eq_false e5,eq_false e6,eq_true e7,hixn,gix,go,gl,p_callv,callFn2,isD,XS,XT,XF,AV.cells,Nat.reduceAdd,Nat.reduceLT,Nat.reduceEqDiff,↓reduceIte,Nat.reduceLeDiff]
 by_cases e8:I.op=8
 · obtain⟨ka,ra,hka,hra⟩:=thereReg (hpl.rd I.a (by unfold readsD; rw[if_pos (by simp[e8])]; simp))
   obtain⟨kn,hkn,hnl⟩:=thereD_nat (hpl.gl (by simp[e8]))
   have isA:=is_ok c2 hrv2 hka hra
   have ga:=globAt hgv2 (List.getElem?_eq_getElem (show kn < M.globals.length by omega))
   have gix:=ga.ix
   have go:=ga.o
   have gl:=ga.l1
   have hixn:∀(te:Nat) (x:AV) (h:Heap),idxR env te x (.int .i64 I.n) h=lift (indexAddrA env (.slice te) kn x) h:=fun te x h=>by rw[hkn]; rfl
   refine⟨decide (ra=M.globals[kn].ty),((h.push (.row [(AV.agg [gv,fv,.str C.name,.int .i64 C.ty,.int .i64 C.params,rv,bv])] 7)).push (.row [(AV.agg [.int .i64 I.op,.int .i64 I.ty,.int .i64 I.dst,.int .i64 I.a,.int .i64 I.b,.int .i64 I.n,.str I.s,av])] 8)),?_,g2⟩
   rw[pl45.call h (by simp)]
   unfold c45
   simp -implicitDefEqProofs (maxSteps:=1000000) only[o1,o2,o3,o4,o5,p_mf,L3,Lg,eq_false e2,eq_false e3,eq_false e4,eq_false e5,eq_false e6,eq_false e7,eq_true e8,hixn,gix,go,gl,p_callv,callFn2,isA,XS,XT,XF,AV.cells,Nat.reduceAdd,Nat.reduceLT,Nat.reduceEqDiff,↓reduceIte,Nat.reduceLeDiff]
 by_cases e9:I.op=9
 · obtain⟨ht,F,hF,hpar⟩:=hpl.cl e9
   obtain⟨kn,hkn,hnl⟩:=thereD_nat ht
   have hF:M.funcs[kn]?=some F:=by rw[hkn] at hF; exact hF
   obtain⟨b,h',ec,g'⟩:=chkCall_ok c2 (by omega) hgv2 (CodesR.stays g2.kp hfv) hrv2 (BlocksR.stays g2.kp hbv) (IntsR.stays g2.kp hav) hpl e9 hkn hF hpar (h9a e9 kn F hkn hF)
   have LI:loadA ty42 (.ptr (h.push (.row [(AV.agg [gv,fv,.str C.name,.int .i64 C.ty,.int .i64 C.params,rv,bv])] 7)).next 0 0) ((h.push (.row [(AV.agg [gv,fv,.str C.name,.int .i64 C.ty,.int .i64 C.params,rv,bv])] 7)).push (.row [(AV.agg [.int .i64 I.op,.int .i64 I.ty,.int .i64 I.dst,.int .i64 I.a,.int .i64 I.b,.int .i64 I.n,.str I.s,av])] 8))=some (AV.agg [.int .i64 I.op,.int .i64 I.ty,.int .i64 I.dst,.int .i64 I.a,.int .i64 I.b,.int .i64 I.n,.str I.s,av]):=by rw[L3]; rfl
   refine⟨b,h',?_,g2.trans g'⟩
   rw[pl45.call h (by simp)]
   unfold c45
   simp -implicitDefEqProofs (maxSteps:=1000000) only[o1,o2,o3,o4,o5,p_mf,LI,W2,L3,eq_false e2,eq_false e3,eq_false e4,eq_false e5,eq_false e6,eq_false e7,eq_false e8,eq_true e9,ec,XS,XT,XF,AV.cells,Nat.reduceAdd,Nat.reduceLT,Nat.reduceEqDiff,↓reduceIte,Nat.reduceLeDiff]
 by_cases e10:I.op=10
 · obtain⟨kd,rd,hkd,hrd⟩:=thereReg (hpl.wr (by simp[e10]))
   have isD:=is_ok c2 hrv2 hkd hrd
   refine⟨decide (rd=2),((h.push (.row [(AV.agg [gv,fv,.str C.name,.int .i64 C.ty,.int .i64 C.params,rv,bv])] 7)).push (.row [(AV.agg [.int .i64 I.op,.int .i64 I.ty,.int .i64 I.dst,.int .i64 I.a,.int .i64 I.b,.int .i64 I.n,.str I.s,av])] 8)),?_,g2⟩
   rw[pl45.call h (by simp)]
   unfold c45
   simp -implicitDefEqProofs (maxSteps:=1000000) only[o1,o2,o3,o4,o5,p_mf,L3,Lg,eq_false e2,eq_false e3,eq_false e4,eq_false e5,eq_false e6,eq_false e7,eq_false e8,eq_false e9,eq_true e10,p_callv,callFn2,isD,XS,XT,XF,AV.cells,Nat.reduceAdd,Nat.reduceLT,Nat.reduceEqDiff,↓reduceIte,Nat.reduceLeDiff]
 by_cases e11:I.op=11
 · obtain⟨ka,ra,hka,hra⟩:=thereReg (hpl.rd I.a (by unfold readsD; rw[if_pos (by simp[e11])]; simp))
   have isA:=is_ok c2 hrv2 hka hra
   refine⟨decide (ra=2),((h.push (.row [(AV.agg [gv,fv,.str C.name,.int .i64 C.ty,.int .i64 C.params,rv,bv])] 7)).push (.row [(AV.agg [.int .i64 I.op,.int .i64 I.ty,.int .i64 I.dst,.int .i64 I.a,.int .i64 I.b,.int .i64 I.n,.str I.s,av])] 8)),?_,g2⟩
   rw[pl45.call h (by simp)]
   unfold c45
   simp -implicitDefEqProofs (maxSteps:=1000000) only[o1,o2,o3,o4,o5,p_mf,L3,Lg,eq_false e2,eq_false e3,eq_false e4,eq_false e5,eq_false e6,eq_false e7,eq_false e8,eq_false e9,eq_false e10,eq_true e11,p_callv,callFn2,isA,XS,XT,XF,AV.cells,Nat.reduceAdd,Nat.reduceLT,Nat.reduceEqDiff,↓reduceIte,Nat.reduceLeDiff]
 · refine⟨true,((h.push (.row [(AV.agg [gv,fv,.str C.name,.int .i64 C.ty,.int .i64 C.params,rv,bv])] 7)).push (.row [(AV.agg [.int .i64 I.op,.int .i64 I.ty,.int .i64 I.dst,.int .i64 I.a,.int .i64 I.b,.int .i64 I.n,.str I.s,av])] 8)),?_,g2⟩
   rw[pl45.call h (by simp)]
   unfold c45
   simp -implicitDefEqProofs (maxSteps:=1000000) only[o1,o2,o3,o4,o5,p_mf,L3,Lg,eq_false e2,eq_false e3,eq_false e4,eq_false e5,eq_false e6,eq_false e7,eq_false e8,eq_false e9,eq_false e10,eq_false e11,XS,XT,XF,AV.cells,Nat.reduceAdd,Nat.reduceLT,Nat.reduceEqDiff,↓reduceIte,Nat.reduceLeDiff]
end Go.Proofs.AmEnv
namespace Go.Proofs.AmEnv
open Go Go.AM
structure InstrOk (M:MModu) (C:MCode) (I:MInstr):Prop where
 fm:formD I=true
 pl:PlOk M C I
 ar:I.op=9→∀(k:Nat) F,I.n=k→M.funcs[k]?=some F→(I.args.length:Int)=F.params
set_option maxHeartbeats 16000000 in
theorem instr_ok {h:Heap} {x i:AV} {M:MModu} {C:MCode} {I:MInstr} (hx:ChkR h x M C) (hi:InstrR h i I) (hs:I.s.length≤140737488355328):∃e h',callω env 37 [x,i] h=.ok (.int .i64 e) h'∧Grow h h'∧(e=0→InstrOk M C I):=by
 obtain⟨gv,fv,rv,bv,rfl,hgv,hfv,hrv,hbv⟩:=hx
 obtain⟨av,rfl,hav⟩:=hi
 have o1:=hgv.ok
 have o2:=hfv.ok
 have o3:=hrv.ok
 have o4:=hbv.ok
 have o5:=hav.ok
 have g2:Grow h ((h.push (.row [(AV.agg [gv,fv,.str C.name,.int .i64 C.ty,.int .i64 C.params,rv,bv])] 7)).push (.row [(AV.agg [.int .i64 I.op,.int .i64 I.ty,.int .i64 I.dst,.int .i64 I.a,.int .i64 I.b,.int .i64 I.n,.str I.s,av])] 8)):=(Grow.push h _).trans (Grow.push _ _)
 have n1:(h.push (.row [(AV.agg [gv,fv,.str C.name,.int .i64 C.ty,.int .i64 C.params,rv,bv])] 7)).next=h.next+1:=rfl
 have n2:((h.push (.row [(AV.agg [gv,fv,.str C.name,.int .i64 C.ty,.int .i64 C.params,rv,bv])] 7)).push (.row [(AV.agg [.int .i64 I.op,.int .i64 I.ty,.int .i64 I.dst,.int .i64 I.a,.int .i64 I.b,.int .i64 I.n,.str I.s,av])] 8)).next=h.next+1+1:=rfl
 have c2:((h.push (.row [(AV.agg [gv,fv,.str C.name,.int .i64 C.ty,.int .i64 C.params,rv,bv])] 7)).push (.row [(AV.agg [.int .i64 I.op,.int .i64 I.ty,.int .i64 I.dst,.int .i64 I.a,.int .i64 I.b,.int .i64 I.n,.str I.s,av])] 8)).get h.next=some (.row [(AV.agg [gv,fv,.str C.name,.int .i64 C.ty,.int .i64 C.params,rv,bv])] 7):=(Heap.get_push_ne _ _ (by omega)).trans (Heap.get_push_eq h _)
 have c3:((h.push (.row [(AV.agg [gv,fv,.str C.name,.int .i64 C.ty,.int .i64 C.params,rv,bv])] 7)).push (.row [(AV.agg [.int .i64 I.op,.int .i64 I.ty,.int .i64 I.dst,.int .i64 I.a,.int .i64 I.b,.int .i64 I.n,.str I.s,av])] 8)).get (h.push (.row [(AV.agg [gv,fv,.str C.name,.int .i64 C.ty,.int .i64 C.params,rv,bv])] 7)).next=some (.row [(AV.agg [.int .i64 I.op,.int .i64 I.ty,.int .i64 I.dst,.int .i64 I.a,.int .i64 I.b,.int .i64 I.n,.str I.s,av])] 8):=Heap.get_push_eq _ _
 have LI2:loadA ty42 (.ptr (h.push (.row [(AV.agg [gv,fv,.str C.name,.int .i64 C.ty,.int .i64 C.params,rv,bv])] 7)).next 0 0) ((h.push (.row [(AV.agg [gv,fv,.str C.name,.int .i64 C.ty,.int .i64 C.params,rv,bv])] 7)).push (.row [(AV.agg [.int .i64 I.op,.int .i64 I.ty,.int .i64 I.dst,.int .i64 I.a,.int .i64 I.b,.int .i64 I.n,.str I.s,av])] 8))=some (AV.agg [.int .i64 I.op,.int .i64 I.ty,.int .i64 I.dst,.int .i64 I.a,.int .i64 I.b,.int .i64 I.n,.str I.s,av]):=by rw[load_old c3]; rfl
 have xR:ChkR h (AV.agg [gv,fv,.str C.name,.int .i64 C.ty,.int .i64 C.params,rv,bv]) M C:=⟨gv,fv,rv,bv,rfl,hgv,hfv,hrv,hbv⟩
 have iR:InstrR h (AV.agg [.int .i64 I.op,.int .i64 I.ty,.int .i64 I.dst,.int .i64 I.a,.int .i64 I.b,.int .i64 I.n,.str I.s,av]) I:=⟨av,rfl,hav⟩
 obtain⟨h3,g3,ef⟩:=form_ok (InstrR.stays g2.kp iR) hs
 have c23:=(g3.get _ (by omega)).trans c2
 have c33:=(g3.get _ (by omega)).trans c3
 have LI3:loadA ty42 (.ptr (h.push (.row [(AV.agg [gv,fv,.str C.name,.int .i64 C.ty,.int .i64 C.params,rv,bv])] 7)).next 0 0) h3=some (AV.agg [.int .i64 I.op,.int .i64 I.ty,.int .i64 I.dst,.int .i64 I.a,.int .i64 I.b,.int .i64 I.n,.str I.s,av]):=by rw[load_old c33]; rfl
 have LX3:loadA ty59 (.ptr h.next 0 0) h3=some (AV.agg [gv,fv,.str C.name,.int .i64 C.ty,.int .i64 C.params,rv,bv]):=by rw[load_old c23]; rfl
 have g23:=g2.trans g3
 obtain⟨bp,h4,g4,ep,hpl⟩:=places_ok (ChkR.stays g23.kp xR) (InstrR.stays g23.kp iR)
 have e3:((h.push (.row [(AV.agg [gv,fv,.str C.name,.int .i64 C.ty,.int .i64 C.params,rv,bv])] 7)).push (.row [(AV.agg [.int .i64 I.op,.int .i64 I.ty,.int .i64 I.dst,.int .i64 I.a,.int .i64 I.b,.int .i64 I.n,.str I.s,av])] 8)).next≤h3.next:=g3.nx
 have c24:=(g4.get _ (by omega)).trans c23
 have c34:=(g4.get _ (by omega)).trans c33
 have g24:=g23.trans g4
 have LI4:loadA ty42 (.ptr (h.push (.row [(AV.agg [gv,fv,.str C.name,.int .i64 C.ty,.int .i64 C.params,rv,bv])] 7)).next 0 0) h4=some (AV.agg [.int .i64 I.op,.int .i64 I.ty,.int .i64 I.dst,.int .i64 I.a,.int .i64 I.b,.int .i64 I.n,.str I.s,av]):=by rw[load_old c34]; rfl
 have LX4:loadA ty59 (.ptr h.next 0 0) h4=some (AV.agg [gv,fv,.str C.name,.int .i64 C.ty,.int .i64 C.params,rv,bv]):=by rw[load_old c24]; rfl
 have F4:∀t o,loadA t (.ptr (h.push (.row [(AV.agg [gv,fv,.str C.name,.int .i64 C.ty,.int .i64 C.params,rv,bv])] 7)).next 0 o) h4=partOf t [.int .i64 I.op,.int .i64 I.ty,.int .i64 I.dst,.int .i64 I.a,.int .i64 I.b,.int .i64 I.n,.str I.s,av] o:=fun t o=>load_old c34 t o
 have Fop:loadA ty3 (.ptr (h.push (.row [(AV.agg [gv,fv,.str C.name,.int .i64 C.ty,.int .i64 C.params,rv,bv])] 7)).next 0 0) h4=some (.int .i64 I.op):=by rw[F4]; rfl
 have Fn:loadA ty3 (.ptr (h.push (.row [(AV.agg [gv,fv,.str C.name,.int .i64 C.ty,.int .i64 C.params,rv,bv])] 7)).next 0 5) h4=some (.int .i64 I.n):=by rw[F4]; rfl
 have Fa:loadA ty28 (.ptr (h.push (.row [(AV.agg [gv,fv,.str C.name,.int .i64 C.ty,.int .i64 C.params,rv,bv])] 7)).next 0 7) h4=some av:=by rw[F4]; rfl
 have Lf:loadA ty23 (.ptr h.next 0 1) h4=some fv:=by rw[load_old c24]; rfl
 have haln:=hav.len
 cases hf:formD I with
 | false =>
   refine⟨2,h3,?_,g23,fun hh=>absurd hh (by decide)⟩
   rw[pl37.call h (by simp)]; unfold c37
   simp -implicitDefEqProofs (maxSteps:=1000000) only[o1,o2,o3,o4,o5,LI2,ef,hf,XS,XT,XF,AV.cells,Nat.reduceAdd,Nat.reduceLT,Nat.reduceEqDiff,↓reduceIte,Nat.reduceLeDiff]
 | true =>
   cases bp with
   | false =>
     refine⟨11,h4,?_,g24,fun hh=>absurd hh (by decide)⟩
     rw[pl37.call h (by simp)]; unfold c37
     simp -implicitDefEqProofs (maxSteps:=1000000) only[o1,o2,o3,o4,o5,LI2,ef,hf,LI3,LX3,ep,XS,XT,XF,AV.cells,Nat.reduceAdd,Nat.reduceLT,Nat.reduceEqDiff,↓reduceIte,Nat.reduceLeDiff]
   | true =>
     have pok:=hpl rfl
     by_cases e9:I.op=9
     · obtain⟨ht,F,hF,hpar⟩:=pok.cl e9
       obtain⟨kn,hkn,hnl⟩:=thereD_nat ht
       have hF:M.funcs[kn]?=some F:=by rw[hkn] at hF; exact hF
       obtain⟨rv2,bv2,c⟩:=codeAt (CodesR.stays g24.kp hfv) hF
       have cix:=c.ix
       have co:=c.o
       have cl2:=c.l2
       have hixn:∀(te:Nat) (x:AV) (h:Heap),idxR env te x (.int .i64 I.n) h=lift (indexAddrA env (.slice te) kn x) h:=fun te x h=>by rw[hkn]; rfl
       by_cases hq:(I.args.length:Int)=F.params
       · have har:I.op=9→∀(k:Nat) F,I.n=k→M.funcs[k]?=some F→(I.args.length:Int)=F.params:=fun _ k F' hk' hF'=>by
           have:k=kn:=by omega
           subst this
           rw[hF] at hF'
           cases hF'
           exact hq
         obtain⟨bt,h5,et,g5⟩:=types_ok (ChkR.stays g24.kp xR) (InstrR.stays g24.kp iR) hs pok har
         cases bt with
         | false =>
           refine⟨6,h5,?_,g24.trans g5,fun hh=>absurd hh (by decide)⟩
           rw[pl37.call h (by simp)]; unfold c37
           simp -implicitDefEqProofs (maxSteps:=1000000) only[o1,o2,o3,o4,o5,LI2,ef,hf,LI3,LX3,ep,Fop,Fn,Fa,Lf,haln,eq_true e9,hixn,cix,co,cl2,eq_true hq,LI4,LX4,et,XS,XT,XF,AV.cells,Nat.reduceAdd,Nat.reduceLT,Nat.reduceEqDiff,↓reduceIte,Nat.reduceLeDiff]
         | true =>
           refine⟨0,h5,?_,g24.trans g5,fun _=>⟨hf,pok,har⟩⟩
           rw[pl37.call h (by simp)]; unfold c37
           simp -implicitDefEqProofs (maxSteps:=1000000) only[o1,o2,o3,o4,o5,LI2,ef,hf,LI3,LX3,ep,Fop,Fn,Fa,Lf,haln,eq_true e9,hixn,cix,co,cl2,eq_true hq,LI4,LX4,et,XS,XT,XF,AV.cells,Nat.reduceAdd,Nat.reduceLT,Nat.reduceEqDiff,↓reduceIte,Nat.reduceLeDiff]
       · refine⟨7,h4,?_,g24,fun hh=>absurd hh (by decide)⟩
         rw[pl37.call h (by simp)]; unfold c37
         simp -implicitDefEqProofs (maxSteps:=1000000) only[o1,o2,o3,o4,o5,LI2,ef,hf,LI3,LX3,ep,Fop,Fn,Fa,Lf,haln,eq_true e9,hixn,cix,co,cl2,eq_false hq,XS,XT,XF,AV.cells,Nat.reduceAdd,Nat.reduceLT,Nat.reduceEqDiff,↓reduceIte,Nat.reduceLeDiff]
     · obtain⟨bt,h5,et,g5⟩:=types_ok (ChkR.stays g24.kp xR) (InstrR.stays g24.kp iR) hs pok (fun hh=>absurd hh e9)
       cases bt with
       | false =>
         refine⟨6,h5,?_,g24.trans g5,fun hh=>absurd hh (by decide)⟩
         rw[pl37.call h (by simp)]; unfold c37
         simp -implicitDefEqProofs (maxSteps:=1000000) only[o1,o2,o3,o4,o5,LI2,ef,hf,LI3,LX3,ep,Fop,Fn,Fa,Lf,haln,eq_false e9,LI4,LX4,et,XS,XT,XF,AV.cells,Nat.reduceAdd,Nat.reduceLT,Nat.reduceEqDiff,↓reduceIte,Nat.reduceLeDiff]
       | true =>
         refine⟨0,h5,?_,g24.trans g5,fun _=>⟨hf,pok,fun hh=>absurd hh e9⟩⟩
         rw[pl37.call h (by simp)]; unfold c37
         simp -implicitDefEqProofs (maxSteps:=1000000) only[o1,o2,o3,o4,o5,LI2,ef,hf,LI3,LX3,ep,Fop,Fn,Fa,Lf,haln,eq_false e9,LI4,LX4,et,XS,XT,XF,AV.cells,Nat.reduceAdd,Nat.reduceLT,Nat.reduceEqDiff,↓reduceIte,Nat.reduceLeDiff]
end Go.Proofs.AmEnv
namespace Go.Proofs.AmEnv
open Go Go.AM
def EndOk (C:MCode) (ek ea eto eel:Int):Prop:=(ek=1∧thereD eto C.blocks.length=true)∨(ek=2∧thereD eto C.blocks.length=true∧thereD eel C.blocks.length=true∧thereD ea C.regs.length=true)∨(ek=3∧(ea < 0∨thereD ea C.regs.length=true))
theorem endTail {l:List (Nat × AV)} {h:Heap} {a b:Bool} (l7:AM.look l 7=.bool a) (l8:AM.look l 8=.bool b):∃e,afterBody env [.tmp 4] (evω env kt38_0 (fset 100 l) h)=.ok (.int .i64 e) h∧(e=0→a=true):=by
 cases a with
 | false =>
   refine⟨11,?_,fun hh=>absurd hh (by decide)⟩
   unfold kt38_0
   simp -implicitDefEqProofs (maxSteps:=1000000) only[l7,l8,XS,XT,XF,AV.cells,Nat.reduceAdd,Nat.reduceLT,Nat.reduceEqDiff,↓reduceIte,Nat.reduceLeDiff]
 | true =>
   cases b with
   | false =>
     refine⟨6,?_,fun _=>rfl⟩
     unfold kt38_0
     simp -implicitDefEqProofs (maxSteps:=1000000) only[l7,l8,XS,XT,XF,AV.cells,Nat.reduceAdd,Nat.reduceLT,Nat.reduceEqDiff,↓reduceIte,Nat.reduceLeDiff]
   | true =>
     refine⟨0,?_,fun _=>rfl⟩
     unfold kt38_0
     simp -implicitDefEqProofs (maxSteps:=1000000) only[l7,l8,XS,XT,XF,AV.cells,Nat.reduceAdd,Nat.reduceLT,Nat.reduceEqDiff,↓reduceIte,Nat.reduceLeDiff]
set_option maxHeartbeats 16000000 in
theorem end_ok {h:Heap} {x:AV} {M:MModu} {C:MCode} (hx:ChkR h x M C) (ek ea eto eel:Int):∃e h',callω env 38 [x,(AV.agg [.int .i64 ek,.int .i64 ea,.int .i64 eto,.int .i64 eel])] h=.ok (.int .i64 e) h'∧Grow h h'∧(e=0→EndOk C ek ea eto eel):=by
 obtain⟨gv,fv,rv,bv,rfl,hgv,hfv,hrv,hbv⟩:=hx
 have o1:=hgv.ok
 have o2:=hfv.ok
 have o3:=hrv.ok
 have o4:=hbv.ok
 have g2:Grow h ((h.push (.row [(AV.agg [gv,fv,.str C.name,.int .i64 C.ty,.int .i64 C.params,rv,bv])] 7)).push (.row [(AV.agg [.int .i64 ek,.int .i64 ea,.int .i64 eto,.int .i64 eel])] 4)):=(Grow.push h _).trans (Grow.push _ _)
 have n1:(h.push (.row [(AV.agg [gv,fv,.str C.name,.int .i64 C.ty,.int .i64 C.params,rv,bv])] 7)).next=h.next+1:=rfl
 have c2:((h.push (.row [(AV.agg [gv,fv,.str C.name,.int .i64 C.ty,.int .i64 C.params,rv,bv])] 7)).push (.row [(AV.agg [.int .i64 ek,.int .i64 ea,.int .i64 eto,.int .i64 eel])] 4)).get h.next=some (.row [(AV.agg [gv,fv,.str C.name,.int .i64 C.ty,.int .i64 C.params,rv,bv])] 7):=(Heap.get_push_ne _ _ (by omega)).trans (Heap.get_push_eq h _)
 have c3:((h.push (.row [(AV.agg [gv,fv,.str C.name,.int .i64 C.ty,.int .i64 C.params,rv,bv])] 7)).push (.row [(AV.agg [.int .i64 ek,.int .i64 ea,.int .i64 eto,.int .i64 eel])] 4)).get (h.push (.row [(AV.agg [gv,fv,.str C.name,.int .i64 C.ty,.int .i64 C.params,rv,bv])] 7)).next=some (.row [(AV.agg [.int .i64 ek,.int .i64 ea,.int .i64 eto,.int .i64 eel])] 4):=Heap.get_push_eq _ _
 have L3:∀t o,loadA t (.ptr (h.push (.row [(AV.agg [gv,fv,.str C.name,.int .i64 C.ty,.int .i64 C.params,rv,bv])] 7)).next 0 o) ((h.push (.row [(AV.agg [gv,fv,.str C.name,.int .i64 C.ty,.int .i64 C.params,rv,bv])] 7)).push (.row [(AV.agg [.int .i64 ek,.int .i64 ea,.int .i64 eto,.int .i64 eel])] 4))=partOf t [.int .i64 ek,.int .i64 ea,.int .i64 eto,.int .i64 eel] o:=fun t o=>load_old c3 t o
 have Lr:loadA ty28 (.ptr h.next 0 5) ((h.push (.row [(AV.agg [gv,fv,.str C.name,.int .i64 C.ty,.int .i64 C.params,rv,bv])] 7)).push (.row [(AV.agg [.int .i64 ek,.int .i64 ea,.int .i64 eto,.int .i64 eel])] 4))=some rv:=by rw[load_old c2]; rfl
 have Lb:loadA ty29 (.ptr h.next 0 6) ((h.push (.row [(AV.agg [gv,fv,.str C.name,.int .i64 C.ty,.int .i64 C.params,rv,bv])] 7)).push (.row [(AV.agg [.int .i64 ek,.int .i64 ea,.int .i64 eto,.int .i64 eel])] 4))=some bv:=by rw[load_old c2]; rfl
 have Lt:loadA ty3 (.ptr h.next 0 3) ((h.push (.row [(AV.agg [gv,fv,.str C.name,.int .i64 C.ty,.int .i64 C.params,rv,bv])] 7)).push (.row [(AV.agg [.int .i64 ek,.int .i64 ea,.int .i64 eto,.int .i64 eel])] 4))=some (.int .i64 C.ty):=by rw[load_old c2]; rfl
 have nr:=hrv.len
 have nb:=hbv.len
 have hrv2:=IntsR.stays g2.kp hrv
 have fin : (∃l,(∃a,AM.look l 7=.bool a∧(a=true→EndOk C ek ea eto eel))∧(∃b,AM.look l 8=.bool b)∧callω env 38 [(AV.agg [gv,fv,.str C.name,.int .i64 C.ty,.int .i64 C.params,rv,bv]),(AV.agg [.int .i64 ek,.int .i64 ea,.int .i64 eto,.int .i64 eel])] h=afterBody env [.tmp 4] (evω env kt38_0 (fset 100 l) ((h.push (.row [(AV.agg [gv,fv,.str C.name,.int .i64 C.ty,.int .i64 C.params,rv,bv])] 7)).push (.row [(AV.agg [.int .i64 ek,.int .i64 ea,.int .i64 eto,.int .i64 eel])] 4))))∨(∃e,callω env 38 [(AV.agg [gv,fv,.str C.name,.int .i64 C.ty,.int .i64 C.params,rv,bv]),(AV.agg [.int .i64 ek,.int .i64 ea,.int .i64 eto,.int .i64 eel])] h=.ok (.int .i64 e) ((h.push (.row [(AV.agg [gv,fv,.str C.name,.int .i64 C.ty,.int .i64 C.params,rv,bv])] 7)).push (.row [(AV.agg [.int .i64 ek,.int .i64 ea,.int .i64 eto,.int .i64 eel])] 4))∧(e=0→EndOk C ek ea eto eel)):=by
   by_cases e1:ek=1
   · left
     refine⟨?_,?_,?_,?_⟩
     rotate_left 3
     · rw[pl38.call h (by simp)]; unfold c38
       simp -implicitDefEqProofs (maxSteps:=1000000) only[o1,o2,o3,o4,L3,Lr,Lb,nr,nb,eq_true e1,there_ok,XS,XT,XF,AV.cells,Nat.reduceAdd,Nat.reduceLT,Nat.reduceEqDiff,↓reduceIte,Nat.reduceLeDiff]
       rfl
     · exact⟨_,rfl,fun hh=>.inl ⟨e1,hh⟩⟩
     · exact⟨_,rfl⟩
   by_cases e2:ek=2
   · left
     cases t1:thereD eto C.blocks.length with
     | false =>
       refine⟨?_,?_,?_,?_⟩
       rotate_left 3
       · rw[pl38.call h (by simp)]; unfold c38
         simp -implicitDefEqProofs (maxSteps:=1000000) only[o1,o2,o3,o4,L3,Lr,Lb,nr,nb,eq_false e1,eq_true e2,there_ok,t1,XS,XT,XF,AV.cells,Nat.reduceAdd,Nat.reduceLT,Nat.reduceEqDiff,↓reduceIte,Nat.reduceLeDiff]
         rfl
       · exact⟨_,rfl,fun hh=>by cases hh⟩
       · exact⟨_,rfl⟩
     | true =>
       cases t2:thereD eel C.blocks.length with
       | false =>
         refine⟨?_,?_,?_,?_⟩
         rotate_left 3
         · rw[pl38.call h (by simp)]; unfold c38
           simp -implicitDefEqProofs (maxSteps:=1000000) only[o1,o2,o3,o4,L3,Lr,Lb,nr,nb,eq_false e1,eq_true e2,there_ok,t1,t2,XS,XT,XF,AV.cells,Nat.reduceAdd,Nat.reduceLT,Nat.reduceEqDiff,↓reduceIte,Nat.reduceLeDiff]
           rfl
         · exact⟨_,rfl,fun hh=>by cases hh⟩
         · exact⟨_,rfl⟩
       | true =>
         cases t3:thereD ea C.regs.length with
         | false =>
           refine⟨?_,?_,?_,?_⟩
           rotate_left 3
           · rw[pl38.call h (by simp)]; unfold c38
             simp -implicitDefEqProofs (maxSteps:=1000000) only[o1,o2,o3,o4,L3,Lr,Lb,nr,nb,eq_false e1,eq_true e2,there_ok,t1,t2,t3,XS,XT,XF,AV.cells,Nat.reduceAdd,Nat.reduceLT,Nat.reduceEqDiff,↓reduceIte,Nat.reduceLeDiff]
             rfl
           · exact⟨_,rfl,fun hh=>by cases hh⟩
           · exact⟨_,rfl⟩
         | true =>
           obtain⟨ka,ra,hka,hra⟩:=thereReg t3
           have aa:=regAt hrv2 hra
           have aix:=aa.ix
           have ald:=aa.ld
           have hixa:∀(te:Nat) (x:AV) (h:Heap),idxR env te x (.int .i64 ea) h=lift (indexAddrA env (.slice te) ka x) h:=fun te x h=>by rw[hka]; rfl
           refine⟨?_,?_,?_,?_⟩
           rotate_left 3
           · rw[pl38.call h (by simp)]; unfold c38
             simp -implicitDefEqProofs (maxSteps:=1000000) only[o1,o2,o3,o4,L3,Lr,Lb,nr,nb,eq_false e1,eq_true e2,there_ok,t1,t2,t3,hixa,aix,ald,XS,XT,XF,AV.cells,Nat.reduceAdd,Nat.reduceLT,Nat.reduceEqDiff,↓reduceIte,Nat.reduceLeDiff]
             rfl
           · exact⟨_,rfl,fun _=>.inr (.inl ⟨e2,t1,t2,t3⟩)⟩
           · exact⟨_,rfl⟩
   by_cases e3:ek=3
   · left
     by_cases hneg:ea < 0
     · by_cases hv:C.ty=0
       · skip
         refine⟨?_,?_,?_,?_⟩
         rotate_left 3
         · rw[pl38.call h (by simp)]; unfold c38
           simp -implicitDefEqProofs (maxSteps:=1000000) only[o1,o2,o3,o4,L3,Lr,Lb,Lt,nr,nb,eq_false e1,eq_false e2,eq_true e3,there_ok,b_eqlB,show (true == true)=true from rfl,show (true == false)=false from rfl,show (false == true)=false from rfl,show (false == false)=true from rfl,eq_true hneg,eq_true hv,XS,XT,XF,AV.cells,Nat.reduceAdd,Nat.reduceLT,Nat.reduceEqDiff,↓reduceIte,Nat.reduceLeDiff]
           rfl
         · exact⟨_,rfl,fun _=>.inr (.inr ⟨e3,.inl hneg⟩)⟩
         · exact⟨_,rfl⟩
       · skip
         refine⟨?_,?_,?_,?_⟩
         rotate_left 3
         · rw[pl38.call h (by simp)]; unfold c38
           simp -implicitDefEqProofs (maxSteps:=1000000) only[o1,o2,o3,o4,L3,Lr,Lb,Lt,nr,nb,eq_false e1,eq_false e2,eq_true e3,there_ok,b_eqlB,show (true == true)=true from rfl,show (true == false)=false from rfl,show (false == true)=false from rfl,show (false == false)=true from rfl,eq_true hneg,eq_false hv,XS,XT,XF,AV.cells,Nat.reduceAdd,Nat.reduceLT,Nat.reduceEqDiff,↓reduceIte,Nat.reduceLeDiff]
           rfl
         · exact⟨_,rfl,fun _=>.inr (.inr ⟨e3,.inl hneg⟩)⟩
         · exact⟨_,rfl⟩
     · cases t3:thereD ea C.regs.length with
       | false =>
         refine⟨?_,?_,?_,?_⟩
         rotate_left 3
         · rw[pl38.call h (by simp)]; unfold c38
           simp -implicitDefEqProofs (maxSteps:=1000000) only[o1,o2,o3,o4,L3,Lr,Lb,Lt,nr,nb,eq_false e1,eq_false e2,eq_true e3,there_ok,b_eqlB,show (true == true)=true from rfl,show (true == false)=false from rfl,show (false == true)=false from rfl,show (false == false)=true from rfl,eq_false hneg,t3,XS,XT,XF,AV.cells,Nat.reduceAdd,Nat.reduceLT,Nat.reduceEqDiff,↓reduceIte,Nat.reduceLeDiff]
           rfl
         · exact⟨_,rfl,fun hh=>by cases hh⟩
         · exact⟨_,rfl⟩
       | true =>
         obtain⟨ka,ra,hka,hra⟩:=thereReg t3
         have aa:=regAt hrv2 hra
         have aix:=aa.ix
         have ald:=aa.ld
         have hixa:∀(te:Nat) (x:AV) (h:Heap),idxR env te x (.int .i64 ea) h=lift (indexAddrA env (.slice te) ka x) h:=fun te x h=>by rw[hka]; rfl
         by_cases hv:C.ty=0
         · skip
           refine⟨?_,?_,?_,?_⟩
           rotate_left 3
           · rw[pl38.call h (by simp)]; unfold c38
             simp -implicitDefEqProofs (maxSteps:=1000000) only[o1,o2,o3,o4,L3,Lr,Lb,Lt,nr,nb,eq_false e1,eq_false e2,eq_true e3,there_ok,b_eqlB,show (true == true)=true from rfl,show (true == false)=false from rfl,show (false == true)=false from rfl,show (false == false)=true from rfl,eq_false hneg,t3,eq_true hv,XS,XT,XF,AV.cells,Nat.reduceAdd,Nat.reduceLT,Nat.reduceEqDiff,↓reduceIte,Nat.reduceLeDiff]
             rfl
           · exact⟨_,rfl,fun _=>.inr (.inr ⟨e3,.inr t3⟩)⟩
           · exact⟨_,rfl⟩
         · skip
           refine⟨?_,?_,?_,?_⟩
           rotate_left 3
           · rw[pl38.call h (by simp)]; unfold c38
             simp -implicitDefEqProofs (maxSteps:=1000000) only[o1,o2,o3,o4,L3,Lr,Lb,Lt,nr,nb,eq_false e1,eq_false e2,eq_true e3,there_ok,b_eqlB,show (true == true)=true from rfl,show (true == false)=false from rfl,show (false == true)=false from rfl,show (false == false)=true from rfl,eq_false hneg,t3,eq_false hv,hixa,aix,ald,XS,XT,XF,AV.cells,Nat.reduceAdd,Nat.reduceLT,Nat.reduceEqDiff,↓reduceIte,Nat.reduceLeDiff]
             rfl
           · exact⟨_,rfl,fun _=>.inr (.inr ⟨e3,.inr t3⟩)⟩
           · exact⟨_,rfl⟩
   · right
     refine⟨2,?_,fun hh=>absurd hh (by decide)⟩
     rw[pl38.call h (by simp)]; unfold c38
     simp -implicitDefEqProofs (maxSteps:=1000000) only[o1,o2,o3,o4,L3,Lr,Lb,nr,nb,eq_false e1,eq_false e2,eq_false e3,XS,XT,XF,AV.cells,Nat.reduceAdd,Nat.reduceLT,Nat.reduceEqDiff,↓reduceIte,Nat.reduceLeDiff]
 rcases fin with ⟨l,⟨a,l7,ha⟩,⟨b,l8⟩,hgo⟩ | ⟨e,hgo,he⟩
 · obtain⟨e,he,hz⟩:=endTail (h:=((h.push (.row [(AV.agg [gv,fv,.str C.name,.int .i64 C.ty,.int .i64 C.params,rv,bv])] 7)).push (.row [(AV.agg [.int .i64 ek,.int .i64 ea,.int .i64 eto,.int .i64 eel])] 4))) l7 l8
   exact⟨e,((h.push (.row [(AV.agg [gv,fv,.str C.name,.int .i64 C.ty,.int .i64 C.params,rv,bv])] 7)).push (.row [(AV.agg [.int .i64 ek,.int .i64 ea,.int .i64 eto,.int .i64 eel])] 4)),hgo.trans he,g2,fun h0=>ha (hz h0)⟩
 · exact⟨e,((h.push (.row [(AV.agg [gv,fv,.str C.name,.int .i64 C.ty,.int .i64 C.params,rv,bv])] 7)).push (.row [(AV.agg [.int .i64 ek,.int .i64 ea,.int .i64 eto,.int .i64 eel])] 4)),hgo,g2,he⟩
end Go.Proofs.AmEnv
namespace Go.Proofs.AmEnv
open Go Go.AM
def RetI (nt d:Nat) (h0:Heap) (r:CRes):Prop:=∃h' l' e,r=.ok .ret (fset nt l') h'∧Grow h0 h'∧AM.look l' d=.int .i64 e∧¬ e=0
def AllTo {α:Type} (P:α→Prop) (L:List α) (k:Nat):Prop:=∀(j:Nat) y,j < k→L[j]?=some y→P y
theorem AllTo.zero {α:Type} {P:α→Prop} {L:List α}:AllTo P L 0:=fun j y h _=>absurd h (Nat.not_lt_zero _)
theorem AllTo.step {α:Type} {P:α→Prop} {L:List α} {k:Nat} {x:α} (a:AllTo P L k) (hx:L[k]?=some x) (px:P x):AllTo P L (k+1):=fun j y h hy=>by
 rcases Nat.lt_succ_iff_lt_or_eq.1 h with h | h
 · exact a j y h hy
 · subst h
   rw[hx] at hy
   cases hy
   exact px
theorem AllTo.all {α:Type} {P:α→Prop} {L:List α} (a:AllTo P L L.length):∀x∈L,P x:=fun x hx=>by
 obtain⟨j,hj,e⟩:=List.getElem_of_mem hx
 exact a j x hj (by rw[← e]; exact List.getElem?_eq_getElem hj)
def BlockOk (M:MModu) (C:MCode) (B:MBlock):Prop:=(∀I∈B.code,InstrOk M C I)∧EndOk C B.kind B.a B.to B.el
set_option maxHeartbeats 8000000 in
theorem cdInner {M:MModu} {C:MCode} {gv fv rv bv cv:AV} {p:Nat} {Is:List MInstr} {h0 h:Heap} (hg:Grow h0 h) (cell:h.get p=some (.row [(AV.agg [gv,fv,.str C.name,.int .i64 C.ty,.int .i64 C.params,rv,bv])] 7)) (hp:p < h.next) (xR:ChkR h (AV.agg [gv,fv,.str C.name,.int .i64 C.ty,.int .i64 C.params,rv,bv]) M C) (hcv:InstrsR h cv Is) (hs:∀I∈Is,I.s.length≤140737488355328) {l:List (Nat × AV)} (l1:AM.look l 1=.ptr p 0 0) (l63:AM.look l 63=cv) (l64:AM.look l 64=.int .i64 (Is.length:Int)) (l65:AM.look l 65=.int .i64 ((0:Nat):Int)) :
   RetI 84 2 h0 (evω env (.loop lp28_1) (fset 84 l) h)∨(∃l' h',evω env (.loop lp28_1) (fset 84 l) h=.ok (.exit 3) (fset 84 l') h'∧Grow h h'∧Keep [1,5,56,57,58] l' l∧∀I∈Is,InstrOk M C I):=by
 have hle:=hcv.le
 refine loop_ind (E:=env) (nt:=84) (body:=lp28_1) Is.length (fun k lk hk=>Grow h hk∧Keep [1,5,56,57,58] lk l∧AM.look lk 63=cv∧AM.look lk 64=.int .i64 (Is.length:Int)∧AM.look lk 65=.int .i64 (k:Int)∧AllTo (InstrOk M C) Is k)
   (fun r=>RetI 84 2 h0 r∨(∃l' h',r=.ok (.exit 3) (fset 84 l') h'∧Grow h h'∧Keep [1,5,56,57,58] l' l∧∀I∈Is,InstrOk M C I)) ?_ ?_ Is.length 0 l h (by omega) ⟨.refl h,.refl _ _,l63,l64,l65,.zero⟩
 · rintro k lk hk hj ⟨g,kp,k63,k64,k65,al⟩
   obtain⟨I,hI⟩:∃I,Is[k]?=some I:=⟨_,List.getElem?_eq_getElem hj⟩
   obtain⟨av,a⟩:=instrAt (InstrsR.stays g.kp hcv) hI
   have aix:=a.ix
   have ald:=a.ld
   have oka:=a.args.ok
   have k1:=(kp 1 (by simp)).trans l1
   have ok0:okCells (AV.agg [.int .i64 I.op,.int .i64 I.ty,.int .i64 I.dst,.int .i64 I.a,.int .i64 I.b,.int .i64 I.n,.str I.s,av]).cells=true:=by
     show okCells [_,_,_,_,_,_,_,av]=true
     simp only[okCells_cons,okCells_nil,ok_int,ok_str,oka,Bool.and_self]
   have c1:(hk.push (.row [(AV.agg [.int .i64 0,.int .i64 0,.int .i64 0,.int .i64 0,.int .i64 0,.int .i64 0,.str [],.nilsl])] 8)).get hk.next=some (.row [(AV.agg [.int .i64 0,.int .i64 0,.int .i64 0,.int .i64 0,.int .i64 0,.int .i64 0,.str [],.nilsl])] 8):=Heap.get_push_eq hk _
   have s1:storeA ty42 (.ptr hk.next 0 0) (AV.agg [.int .i64 I.op,.int .i64 I.ty,.int .i64 I.dst,.int .i64 I.a,.int .i64 I.b,.int .i64 I.n,.str I.s,av]) (hk.push (.row [(AV.agg [.int .i64 0,.int .i64 0,.int .i64 0,.int .i64 0,.int .i64 0,.int .i64 0,.str [],.nilsl])] 8))=some ((hk.push (.row [(AV.agg [.int .i64 0,.int .i64 0,.int .i64 0,.int .i64 0,.int .i64 0,.int .i64 0,.str [],.nilsl])] 8)).set hk.next (.row [(AV.agg [.int .i64 I.op,.int .i64 I.ty,.int .i64 I.dst,.int .i64 I.a,.int .i64 I.b,.int .i64 I.n,.str I.s,av])] 8)):=by
     rw[store_old c1 rfl (by decide) (by decide) ok0]; rfl
   have LI:loadA ty42 (.ptr hk.next 0 0) ((hk.push (.row [(AV.agg [.int .i64 0,.int .i64 0,.int .i64 0,.int .i64 0,.int .i64 0,.int .i64 0,.str [],.nilsl])] 8)).set hk.next (.row [(AV.agg [.int .i64 I.op,.int .i64 I.ty,.int .i64 I.dst,.int .i64 I.a,.int .i64 I.b,.int .i64 I.n,.str I.s,av])] 8))=some (AV.agg [.int .i64 I.op,.int .i64 I.ty,.int .i64 I.dst,.int .i64 I.a,.int .i64 I.b,.int .i64 I.n,.str I.s,av]):=by rw[load_set c1]; rfl
   have g2:Grow hk ((hk.push (.row [(AV.agg [.int .i64 0,.int .i64 0,.int .i64 0,.int .i64 0,.int .i64 0,.int .i64 0,.str [],.nilsl])] 8)).set hk.next (.row [(AV.agg [.int .i64 I.op,.int .i64 I.ty,.int .i64 I.dst,.int .i64 I.a,.int .i64 I.b,.int .i64 I.n,.str I.s,av])] 8)):=(Grow.push hk _).set _ (Nat.le_refl _)
   have gh2:=g.trans g2
   have cellp:((hk.push (.row [(AV.agg [.int .i64 0,.int .i64 0,.int .i64 0,.int .i64 0,.int .i64 0,.int .i64 0,.str [],.nilsl])] 8)).set hk.next (.row [(AV.agg [.int .i64 I.op,.int .i64 I.ty,.int .i64 I.dst,.int .i64 I.a,.int .i64 I.b,.int .i64 I.n,.str I.s,av])] 8)).get p=some (.row [(AV.agg [gv,fv,.str C.name,.int .i64 C.ty,.int .i64 C.params,rv,bv])] 7):=(gh2.get p hp).trans cell
   have LX:loadA ty59 (.ptr p 0 0) ((hk.push (.row [(AV.agg [.int .i64 0,.int .i64 0,.int .i64 0,.int .i64 0,.int .i64 0,.int .i64 0,.str [],.nilsl])] 8)).set hk.next (.row [(AV.agg [.int .i64 I.op,.int .i64 I.ty,.int .i64 I.dst,.int .i64 I.a,.int .i64 I.b,.int .i64 I.n,.str I.s,av])] 8))=some (AV.agg [gv,fv,.str C.name,.int .i64 C.ty,.int .i64 C.params,rv,bv]):=by rw[load_old cellp]; rfl
   obtain⟨e,h3,ei,g3,hok⟩:=instr_ok (ChkR.stays gh2.kp xR) (⟨av,rfl,IntsR.stays g2.kp a.args⟩:InstrR ((hk.push (.row [(AV.agg [.int .i64 0,.int .i64 0,.int .i64 0,.int .i64 0,.int .i64 0,.int .i64 0,.str [],.nilsl])] 8)).set hk.next (.row [(AV.agg [.int .i64 I.op,.int .i64 I.ty,.int .i64 I.dst,.int .i64 I.a,.int .i64 I.b,.int .i64 I.n,.str I.s,av])] 8)) (AV.agg [.int .i64 I.op,.int .i64 I.ty,.int .i64 I.dst,.int .i64 I.a,.int .i64 I.b,.int .i64 I.n,.str I.s,av]) I) (hs I (List.mem_of_getElem? hI))
   have hlt:((k:Int) < (Is.length:Int)):=by omega
   have w1:IntKind.wrap .i64 ((k:Int)+1)=((k+1:Nat):Int):=AM.wrap_small (n:=k+1) (by omega)
   by_cases he:e=0
   · left
     have key:∃l',Keep [1,5,56,57,58] l' lk∧AM.look l' 63=cv∧AM.look l' 64=.int .i64 (Is.length:Int)∧AM.look l' 65=.int .i64 ((k+1:Nat):Int)∧evω env (.loop lp28_1) (fset 84 lk) hk=evω env (.loop lp28_1) (fset 84 l') h3:=by
       refine⟨?_,?_,?_,?_,?_,?_⟩
       rotate_left 5
       · conv=>lhs; rw[w_loop]; unfold lp28_1
         simp -implicitDefEqProofs (maxSteps:=1000000) only[k1,k63,k64,k65,eq_true hlt,aix,ald,s1,LI,LX,ei,eq_true he,w1,XS,XT,XF,AV.cells,Nat.reduceAdd,Nat.reduceLT,Nat.reduceEqDiff,↓reduceIte,Nat.reduceLeDiff]
         rfl
       · simp[Keep,AM.look]
       all_goals simp[AM.look,k63,k64]
     obtain⟨l',m1,m63,m64,m65,hgo⟩:=key
     exact⟨l',h3,⟨gh2.trans g3,m1.trans kp,m63,m64,m65,al.step hI (hok he)⟩,hgo⟩
   · right
     left
     have key:∃l',AM.look l' 2=.int .i64 e∧evω env (.loop lp28_1) (fset 84 lk) hk=.ok .ret (fset 84 l') h3:=by
       refine⟨?_,?_,?_⟩
       rotate_left 2
       · conv=>lhs; rw[w_loop]; unfold lp28_1
         simp -implicitDefEqProofs (maxSteps:=1000000) only[k1,k63,k64,k65,eq_true hlt,aix,ald,s1,LI,LX,ei,eq_false he,XS,XT,XF,AV.cells,Nat.reduceAdd,Nat.reduceLT,Nat.reduceEqDiff,↓reduceIte,Nat.reduceLeDiff]
         rfl
       all_goals simp[AM.look]
     obtain⟨l',m2,hgo⟩:=key
     exact⟨h3,l',e,hgo,(hg.trans gh2).trans g3,m2,he⟩
 · rintro lk hk ⟨g,kp,k63,k64,k65,al⟩
   have hlt:¬ ((Is.length:Int) < (Is.length:Int)):=by omega
   have key:∃l',Keep [1,5,56,57,58] l' lk∧evω env (.loop lp28_1) (fset 84 lk) hk=.ok (.exit 3) (fset 84 l') hk:=by
     refine⟨?_,?_,?_⟩
     rotate_left 2
     · conv=>lhs; rw[w_loop]; unfold lp28_1
       simp -implicitDefEqProofs (maxSteps:=1000000) only[k63,k64,k65,eq_false hlt,XS,XT,XF,AV.cells,Nat.reduceAdd,Nat.reduceLT,Nat.reduceEqDiff,↓reduceIte,Nat.reduceLeDiff]
       rfl
     · simp[Keep,AM.look]
   obtain⟨l',m1,hgo⟩:=key
   exact .inr ⟨l',hk,hgo,g,m1.trans kp,al.all⟩
set_option maxHeartbeats 8000000 in
theorem cdOuter {M:MModu} {C:MCode} {gv fv rv bv:AV} {p:Nat} {h0 h:Heap} (hg:Grow h0 h) (cell:h.get p=some (.row [(AV.agg [gv,fv,.str C.name,.int .i64 C.ty,.int .i64 C.params,rv,bv])] 7)) (hp:p < h.next) (xR:ChkR h (AV.agg [gv,fv,.str C.name,.int .i64 C.ty,.int .i64 C.params,rv,bv]) M C) (hbv:BlocksR h bv C.blocks) (hs:∀B∈C.blocks,∀I∈B.code,I.s.length≤140737488355328) {l:List (Nat × AV)} (l1:AM.look l 1=.ptr p 0 0) (l56:AM.look l 56=bv) (l57:AM.look l 57=.int .i64 (C.blocks.length:Int)) (l58:AM.look l 58=.int .i64 ((0:Nat):Int)) :
   RetI 84 2 h0 (evω env (.loop lp28_0) (fset 84 l) h)∨(∃l' h',evω env (.loop lp28_0) (fset 84 l) h=.ok (.exit 1) (fset 84 l') h'∧Grow h h'∧∀B∈C.blocks,BlockOk M C B):=by
 have hle:=hbv.le
 refine loop_ind (E:=env) (nt:=84) (body:=lp28_0) C.blocks.length (fun k lk hk=>Grow h hk∧AM.look lk 1=.ptr p 0 0∧AM.look lk 56=bv∧AM.look lk 57=.int .i64 (C.blocks.length:Int)∧AM.look lk 58=.int .i64 (k:Int)∧AllTo (BlockOk M C) C.blocks k)
   (fun r=>RetI 84 2 h0 r∨(∃l' h',r=.ok (.exit 1) (fset 84 l') h'∧Grow h h'∧∀B∈C.blocks,BlockOk M C B)) ?_ ?_ C.blocks.length 0 l h (by omega) ⟨.refl h,l1,l56,l57,l58,.zero⟩
 · rintro k lk hk hj ⟨g,k1,k56,k57,k58,al⟩
   obtain⟨B,hB⟩:∃B,C.blocks[k]?=some B:=⟨_,List.getElem?_eq_getElem hj⟩
   obtain⟨cv,a⟩:=blockAt (BlocksR.stays g.kp hbv) hB
   have aix:=a.ix
   have ald:=a.ld
   have okc:=a.code.ok
   have ok0:okCells (AV.agg [cv,.int .i64 B.kind,.int .i64 B.a,.int .i64 B.to,.int .i64 B.el]).cells=true:=by
     show okCells [cv,_,_,_,_]=true
     simp only[okCells_cons,okCells_nil,ok_int,okc,Bool.and_self]
   have c1:(hk.push (.row [(AV.agg [.nilsl,.int .i64 0,.int .i64 0,.int .i64 0,.int .i64 0])] 5)).get hk.next=some (.row [(AV.agg [.nilsl,.int .i64 0,.int .i64 0,.int .i64 0,.int .i64 0])] 5):=Heap.get_push_eq hk _
   have s1:storeA ty40 (.ptr hk.next 0 0) (AV.agg [cv,.int .i64 B.kind,.int .i64 B.a,.int .i64 B.to,.int .i64 B.el]) (hk.push (.row [(AV.agg [.nilsl,.int .i64 0,.int .i64 0,.int .i64 0,.int .i64 0])] 5))=some ((hk.push (.row [(AV.agg [.nilsl,.int .i64 0,.int .i64 0,.int .i64 0,.int .i64 0])] 5)).set hk.next (.row [(AV.agg [cv,.int .i64 B.kind,.int .i64 B.a,.int .i64 B.to,.int .i64 B.el])] 5)):=by
     rw[store_old c1 rfl (by decide) (by decide) ok0]; rfl
   have c2:((hk.push (.row [(AV.agg [.nilsl,.int .i64 0,.int .i64 0,.int .i64 0,.int .i64 0])] 5)).set hk.next (.row [(AV.agg [cv,.int .i64 B.kind,.int .i64 B.a,.int .i64 B.to,.int .i64 B.el])] 5)).get hk.next=some (.row [(AV.agg [cv,.int .i64 B.kind,.int .i64 B.a,.int .i64 B.to,.int .i64 B.el])] 5):=Heap.get_set_eq _ _ c1
   have Lc:loadA ty36 (.ptr hk.next 0 0) ((hk.push (.row [(AV.agg [.nilsl,.int .i64 0,.int .i64 0,.int .i64 0,.int .i64 0])] 5)).set hk.next (.row [(AV.agg [cv,.int .i64 B.kind,.int .i64 B.a,.int .i64 B.to,.int .i64 B.el])] 5))=some cv:=by rw[load_set c1]; rfl
   have g2:Grow hk ((hk.push (.row [(AV.agg [.nilsl,.int .i64 0,.int .i64 0,.int .i64 0,.int .i64 0])] 5)).set hk.next (.row [(AV.agg [cv,.int .i64 B.kind,.int .i64 B.a,.int .i64 B.to,.int .i64 B.el])] 5)):=(Grow.push hk _).set _ (Nat.le_refl _)
   have n2:((hk.push (.row [(AV.agg [.nilsl,.int .i64 0,.int .i64 0,.int .i64 0,.int .i64 0])] 5)).set hk.next (.row [(AV.agg [cv,.int .i64 B.kind,.int .i64 B.a,.int .i64 B.to,.int .i64 B.el])] 5)).next=hk.next+1:=rfl
   have gh2:=g.trans g2
   have cellp:((hk.push (.row [(AV.agg [.nilsl,.int .i64 0,.int .i64 0,.int .i64 0,.int .i64 0])] 5)).set hk.next (.row [(AV.agg [cv,.int .i64 B.kind,.int .i64 B.a,.int .i64 B.to,.int .i64 B.el])] 5)).get p=some (.row [(AV.agg [gv,fv,.str C.name,.int .i64 C.ty,.int .i64 C.params,rv,bv])] 7):=(gh2.get p hp).trans cell
   have hpk:p < hk.next:=Nat.lt_of_lt_of_le hp g.nx
   have hln:=a.code.len
   have hlt:((k:Int) < (C.blocks.length:Int)):=by omega
   have w1:IntKind.wrap .i64 ((k:Int)+1)=((k+1:Nat):Int):=AM.wrap_small (n:=k+1) (by omega)
   have key:∃l4,AM.look l4 1=.ptr p 0 0∧AM.look l4 5=.ptr hk.next 0 0∧AM.look l4 56=bv∧AM.look l4 57=.int .i64 (C.blocks.length:Int)∧AM.look l4 58=.int .i64 (k:Int)∧AM.look l4 63=cv∧AM.look l4 64=.int .i64 (B.code.length:Int)∧AM.look l4 65=.int .i64 ((0:Nat):Int)∧evω env (.loop lp28_0) (fset 84 lk) hk=seqA (evω env (.loop lp28_0)) (seqA (evω env kt28_1) (blockA 2 (seqA (evω env kt28_0) (blockA 3 (evω env (.loop lp28_1) (fset 84 l4) ((hk.push (.row [(AV.agg [.nilsl,.int .i64 0,.int .i64 0,.int .i64 0,.int .i64 0])] 5)).set hk.next (.row [(AV.agg [cv,.int .i64 B.kind,.int .i64 B.a,.int .i64 B.to,.int .i64 B.el])] 5))))))):=by
     refine⟨?_,?_,?_,?_,?_,?_,?_,?_,?_,?_⟩
     rotate_left 9
     · conv=>lhs; rw[w_loop]; unfold lp28_0
       simp -implicitDefEqProofs (maxSteps:=1000000) only[k1,k56,k57,k58,eq_true hlt,aix,ald,s1,Lc,hln,XS,XT,XF,AV.cells,Nat.reduceAdd,Nat.reduceLT,Nat.reduceEqDiff,↓reduceIte,Nat.reduceLeDiff]
       rfl
     all_goals simp[AM.look,k1,k56,k57,k58]
   obtain⟨l4,q1,q5,q56,q57,q58,q63,q64,q65,hgo⟩:=key
   rcases cdInner (hg.trans gh2) cellp (by omega) (ChkR.stays gh2.kp xR) (InstrsR.stays g2.kp a.code) (hs B (List.mem_of_getElem? hB)) q1 q63 q64 q65 with ⟨h',l',e,er,g',m2,m0⟩ | ⟨l5,h5,er,g5,kp,hin⟩
   · right
     left
     refine⟨h',l',e,?_,g',m2,m0⟩
     rw[hgo,er]
     simp -implicitDefEqProofs (maxSteps:=1000000) only[XS,XT,XF,AV.cells,Nat.reduceAdd,Nat.reduceLT,Nat.reduceEqDiff,↓reduceIte,Nat.reduceLeDiff]
   · have t1:=(kp 1 (by simp)).trans q1
     have t5:=(kp 5 (by simp)).trans q5
     have t56:=(kp 56 (by simp)).trans q56
     have t57:=(kp 57 (by simp)).trans q57
     have t58:=(kp 58 (by simp)).trans q58
     have gh5:=gh2.trans g5
     have c5:h5.get hk.next=some (.row [(AV.agg [cv,.int .i64 B.kind,.int .i64 B.a,.int .i64 B.to,.int .i64 B.el])] 5):=(g5.get _ (by omega)).trans c2
     have cp5:h5.get p=some (.row [(AV.agg [gv,fv,.str C.name,.int .i64 C.ty,.int .i64 C.params,rv,bv])] 7):=(g5.get p (by omega)).trans cellp
     have LX5:loadA ty59 (.ptr p 0 0) h5=some (AV.agg [gv,fv,.str C.name,.int .i64 C.ty,.int .i64 C.params,rv,bv]):=by rw[load_old cp5]; rfl
     have LE5:loadA ty38 (.ptr hk.next 0 1) h5=some (.agg [.int .i64 B.kind,.int .i64 B.a,.int .i64 B.to,.int .i64 B.el]):=by rw[load_old c5]; rfl
     obtain⟨e,h6,ee,g6,hen⟩:=end_ok (ChkR.stays gh5.kp xR) B.kind B.a B.to B.el
     by_cases he:e=0
     · left
       have key:∃l',AM.look l' 1=.ptr p 0 0∧AM.look l' 56=bv∧AM.look l' 57=.int .i64 (C.blocks.length:Int)∧AM.look l' 58=.int .i64 ((k+1:Nat):Int)∧seqA (evω env (.loop lp28_0)) (seqA (evω env kt28_1) (blockA 2 (seqA (evω env kt28_0) (blockA 3 (.ok (.exit 3) (fset 84 l5) h5)))))=evω env (.loop lp28_0) (fset 84 l') h6:=by
         refine⟨?_,?_,?_,?_,?_,?_⟩
         rotate_left 5
         · conv=>lhs; unfold kt28_0 kt28_1
           simp -implicitDefEqProofs (maxSteps:=1000000) only[t1,t5,t58,LX5,LE5,ee,eq_true he,w1,XS,XT,XF,AV.cells,Nat.reduceAdd,Nat.reduceLT,Nat.reduceEqDiff,↓reduceIte,Nat.reduceLeDiff]
           rfl
         all_goals simp[AM.look,t1,t56,t57]
       obtain⟨l',m1,m56,m57,m58,hgo2⟩:=key
       exact⟨l',h6,⟨gh5.trans g6,m1,m56,m57,m58,al.step hB ⟨hin,hen he⟩⟩,by rw[hgo,er]; exact hgo2⟩
     · right
       left
       have key:∃l',AM.look l' 2=.int .i64 e∧seqA (evω env (.loop lp28_0)) (seqA (evω env kt28_1) (blockA 2 (seqA (evω env kt28_0) (blockA 3 (.ok (.exit 3) (fset 84 l5) h5)))))=.ok .ret (fset 84 l') h6:=by
         refine⟨?_,?_,?_⟩
         rotate_left 2
         · conv=>lhs; unfold kt28_0
           simp -implicitDefEqProofs (maxSteps:=1000000) only[t1,t5,t58,LX5,LE5,ee,eq_false he,XS,XT,XF,AV.cells,Nat.reduceAdd,Nat.reduceLT,Nat.reduceEqDiff,↓reduceIte,Nat.reduceLeDiff]
           rfl
         all_goals simp[AM.look]
       obtain⟨l',m2,hgo2⟩:=key
       exact⟨h6,l',e,by rw[hgo,er]; exact hgo2,(hg.trans gh5).trans g6,m2,he⟩
 · rintro lk hk ⟨g,k1,k56,k57,k58,al⟩
   have hlt:¬ ((C.blocks.length:Int) < (C.blocks.length:Int)):=by omega
   have key:∃l',evω env (.loop lp28_0) (fset 84 lk) hk=.ok (.exit 1) (fset 84 l') hk:=by
     refine⟨?_,?_⟩
     rotate_left 1
     · conv=>lhs; rw[w_loop]; unfold lp28_0
       simp -implicitDefEqProofs (maxSteps:=1000000) only[k1,k56,k57,k58,eq_false hlt,XS,XT,XF,AV.cells,Nat.reduceAdd,Nat.reduceLT,Nat.reduceEqDiff,↓reduceIte,Nat.reduceLeDiff]
       rfl
   obtain⟨l',hgo⟩:=key
   exact .inr ⟨l',hk,hgo,g,al.all⟩
end Go.Proofs.AmEnv
namespace Go.Proofs.AmEnv
open Go Go.AM
structure CodeOk (M:MModu) (C:MCode):Prop where
 nb:1≤C.blocks.length
 mb:C.blocks.length≤400
 nr:C.regs.length≤4096
 p0:0≤C.params
 pn:C.params≤C.regs.length
 t0:0≤C.ty
 t2:C.ty≤2
 num:∀r∈C.regs,numberD r=true
 bl:∀B∈C.blocks,BlockOk M C B
set_option maxHeartbeats 16000000 in
theorem code_ok {h:Heap} {x:AV} {M:MModu} {C:MCode} (hx:ChkR h x M C) (hs:∀B∈C.blocks,∀I∈B.code,I.s.length≤140737488355328):∃e h',callω env 28 [x] h=.ok (.int .i64 e) h'∧Grow h h'∧(e=0→CodeOk M C):=by
 have hx0:=hx
 obtain⟨gv,fv,rv,bv,rfl,hgv,hfv,hrv,hbv⟩:=hx
 have o1:=hgv.ok
 have o2:=hfv.ok
 have o3:=hrv.ok
 have o4:=hbv.ok
 have n1:(h.push (.row [(AV.agg [gv,fv,.str C.name,.int .i64 C.ty,.int .i64 C.params,rv,bv])] 7)).next=h.next+1:=rfl
 have n2:((h.push (.row [(AV.agg [gv,fv,.str C.name,.int .i64 C.ty,.int .i64 C.params,rv,bv])] 7)).push (.row [(AV.agg [.str [],.int .i64 0,.int .i64 0,.nilsl,.nilsl])] 5)).next=h.next+1+1:=rfl
 have c1:(h.push (.row [(AV.agg [gv,fv,.str C.name,.int .i64 C.ty,.int .i64 C.params,rv,bv])] 7)).get h.next=some (.row [(AV.agg [gv,fv,.str C.name,.int .i64 C.ty,.int .i64 C.params,rv,bv])] 7):=Heap.get_push_eq h _
 have LC:loadA ty31 (.ptr h.next 0 2) (h.push (.row [(AV.agg [gv,fv,.str C.name,.int .i64 C.ty,.int .i64 C.params,rv,bv])] 7))=some (AV.agg [.str C.name,.int .i64 C.ty,.int .i64 C.params,rv,bv]):=by rw[load_old c1]; rfl
 have okC:okCells (AV.agg [.str C.name,.int .i64 C.ty,.int .i64 C.params,rv,bv]).cells=true:=by
   show okCells [_,_,_,rv,bv]=true
   simp only[okCells_cons,okCells_nil,ok_int,ok_str,o3,o4,Bool.and_self]
 have cz:((h.push (.row [(AV.agg [gv,fv,.str C.name,.int .i64 C.ty,.int .i64 C.params,rv,bv])] 7)).push (.row [(AV.agg [.str [],.int .i64 0,.int .i64 0,.nilsl,.nilsl])] 5)).get (h.push (.row [(AV.agg [gv,fv,.str C.name,.int .i64 C.ty,.int .i64 C.params,rv,bv])] 7)).next=some (.row [(AV.agg [.str [],.int .i64 0,.int .i64 0,.nilsl,.nilsl])] 5):=Heap.get_push_eq _ _
 have s3:storeA ty31 (.ptr (h.push (.row [(AV.agg [gv,fv,.str C.name,.int .i64 C.ty,.int .i64 C.params,rv,bv])] 7)).next 0 0) (AV.agg [.str C.name,.int .i64 C.ty,.int .i64 C.params,rv,bv]) ((h.push (.row [(AV.agg [gv,fv,.str C.name,.int .i64 C.ty,.int .i64 C.params,rv,bv])] 7)).push (.row [(AV.agg [.str [],.int .i64 0,.int .i64 0,.nilsl,.nilsl])] 5))=some (((h.push (.row [(AV.agg [gv,fv,.str C.name,.int .i64 C.ty,.int .i64 C.params,rv,bv])] 7)).push (.row [(AV.agg [.str [],.int .i64 0,.int .i64 0,.nilsl,.nilsl])] 5)).set ((h.push (.row [(AV.agg [gv,fv,.str C.name,.int .i64 C.ty,.int .i64 C.params,rv,bv])] 7))).next (.row [(AV.agg [.str C.name,.int .i64 C.ty,.int .i64 C.params,rv,bv])] 5)):=by
   rw[store_old cz rfl (by decide) (by decide) okC]; rfl
 have c3:(((h.push (.row [(AV.agg [gv,fv,.str C.name,.int .i64 C.ty,.int .i64 C.params,rv,bv])] 7)).push (.row [(AV.agg [.str [],.int .i64 0,.int .i64 0,.nilsl,.nilsl])] 5)).set ((h.push (.row [(AV.agg [gv,fv,.str C.name,.int .i64 C.ty,.int .i64 C.params,rv,bv])] 7))).next (.row [(AV.agg [.str C.name,.int .i64 C.ty,.int .i64 C.params,rv,bv])] 5)).get (h.push (.row [(AV.agg [gv,fv,.str C.name,.int .i64 C.ty,.int .i64 C.params,rv,bv])] 7)).next=some (.row [(AV.agg [.str C.name,.int .i64 C.ty,.int .i64 C.params,rv,bv])] 5):=Heap.get_set_eq _ _ cz
 have L3:∀t o,loadA t (.ptr (h.push (.row [(AV.agg [gv,fv,.str C.name,.int .i64 C.ty,.int .i64 C.params,rv,bv])] 7)).next 0 o) (((h.push (.row [(AV.agg [gv,fv,.str C.name,.int .i64 C.ty,.int .i64 C.params,rv,bv])] 7)).push (.row [(AV.agg [.str [],.int .i64 0,.int .i64 0,.nilsl,.nilsl])] 5)).set ((h.push (.row [(AV.agg [gv,fv,.str C.name,.int .i64 C.ty,.int .i64 C.params,rv,bv])] 7))).next (.row [(AV.agg [.str C.name,.int .i64 C.ty,.int .i64 C.params,rv,bv])] 5))=partOf t [.str C.name,.int .i64 C.ty,.int .i64 C.params,rv,bv] o:=fun t o=>load_old c3 t o
 have g3:Grow h (((h.push (.row [(AV.agg [gv,fv,.str C.name,.int .i64 C.ty,.int .i64 C.params,rv,bv])] 7)).push (.row [(AV.agg [.str [],.int .i64 0,.int .i64 0,.nilsl,.nilsl])] 5)).set ((h.push (.row [(AV.agg [gv,fv,.str C.name,.int .i64 C.ty,.int .i64 C.params,rv,bv])] 7))).next (.row [(AV.agg [.str C.name,.int .i64 C.ty,.int .i64 C.params,rv,bv])] 5)):=((Grow.push h _).trans (Grow.push _ _)).set _ (by omega)
 have nr:=hrv.len
 have nb:=hbv.len
 have cx3:(((h.push (.row [(AV.agg [gv,fv,.str C.name,.int .i64 C.ty,.int .i64 C.params,rv,bv])] 7)).push (.row [(AV.agg [.str [],.int .i64 0,.int .i64 0,.nilsl,.nilsl])] 5)).set ((h.push (.row [(AV.agg [gv,fv,.str C.name,.int .i64 C.ty,.int .i64 C.params,rv,bv])] 7))).next (.row [(AV.agg [.str C.name,.int .i64 C.ty,.int .i64 C.params,rv,bv])] 5)).get h.next=some (.row [(AV.agg [gv,fv,.str C.name,.int .i64 C.ty,.int .i64 C.params,rv,bv])] 7):=(Heap.get_set_ne _ _ (by omega)).trans ((Heap.get_push_ne _ _ (by omega)).trans c1)
 by_cases q1:(C.blocks.length:Int) < 1
 · refine⟨9,(((h.push (.row [(AV.agg [gv,fv,.str C.name,.int .i64 C.ty,.int .i64 C.params,rv,bv])] 7)).push (.row [(AV.agg [.str [],.int .i64 0,.int .i64 0,.nilsl,.nilsl])] 5)).set ((h.push (.row [(AV.agg [gv,fv,.str C.name,.int .i64 C.ty,.int .i64 C.params,rv,bv])] 7))).next (.row [(AV.agg [.str C.name,.int .i64 C.ty,.int .i64 C.params,rv,bv])] 5)),?_,g3,fun hh=>absurd hh (by decide)⟩
   rw[pl28.call h (by simp)]; unfold c28
   simp -implicitDefEqProofs (maxSteps:=1000000) only[o1,o2,o3,o4,LC,s3,L3,nr,nb,eq_true q1,XS,XT,XF,AV.cells,Nat.reduceAdd,Nat.reduceLT,Nat.reduceEqDiff,↓reduceIte,Nat.reduceLeDiff]
 by_cases q2:(400:Int) < (C.blocks.length:Int)
 · refine⟨9,(((h.push (.row [(AV.agg [gv,fv,.str C.name,.int .i64 C.ty,.int .i64 C.params,rv,bv])] 7)).push (.row [(AV.agg [.str [],.int .i64 0,.int .i64 0,.nilsl,.nilsl])] 5)).set ((h.push (.row [(AV.agg [gv,fv,.str C.name,.int .i64 C.ty,.int .i64 C.params,rv,bv])] 7))).next (.row [(AV.agg [.str C.name,.int .i64 C.ty,.int .i64 C.params,rv,bv])] 5)),?_,g3,fun hh=>absurd hh (by decide)⟩
   rw[pl28.call h (by simp)]; unfold c28
   simp -implicitDefEqProofs (maxSteps:=1000000) only[o1,o2,o3,o4,LC,s3,L3,nr,nb,eq_false q1,eq_true q2,XS,XT,XF,AV.cells,Nat.reduceAdd,Nat.reduceLT,Nat.reduceEqDiff,↓reduceIte,Nat.reduceLeDiff]
 by_cases q3:(4096:Int) < (C.regs.length:Int)
 · refine⟨9,(((h.push (.row [(AV.agg [gv,fv,.str C.name,.int .i64 C.ty,.int .i64 C.params,rv,bv])] 7)).push (.row [(AV.agg [.str [],.int .i64 0,.int .i64 0,.nilsl,.nilsl])] 5)).set ((h.push (.row [(AV.agg [gv,fv,.str C.name,.int .i64 C.ty,.int .i64 C.params,rv,bv])] 7))).next (.row [(AV.agg [.str C.name,.int .i64 C.ty,.int .i64 C.params,rv,bv])] 5)),?_,g3,fun hh=>absurd hh (by decide)⟩
   rw[pl28.call h (by simp)]; unfold c28
   simp -implicitDefEqProofs (maxSteps:=1000000) only[o1,o2,o3,o4,LC,s3,L3,nr,nb,eq_false q1,eq_false q2,eq_true q3,XS,XT,XF,AV.cells,Nat.reduceAdd,Nat.reduceLT,Nat.reduceEqDiff,↓reduceIte,Nat.reduceLeDiff]
 by_cases q4:C.params < 0
 · refine⟨11,(((h.push (.row [(AV.agg [gv,fv,.str C.name,.int .i64 C.ty,.int .i64 C.params,rv,bv])] 7)).push (.row [(AV.agg [.str [],.int .i64 0,.int .i64 0,.nilsl,.nilsl])] 5)).set ((h.push (.row [(AV.agg [gv,fv,.str C.name,.int .i64 C.ty,.int .i64 C.params,rv,bv])] 7))).next (.row [(AV.agg [.str C.name,.int .i64 C.ty,.int .i64 C.params,rv,bv])] 5)),?_,g3,fun hh=>absurd hh (by decide)⟩
   rw[pl28.call h (by simp)]; unfold c28
   simp -implicitDefEqProofs (maxSteps:=1000000) only[o1,o2,o3,o4,LC,s3,L3,nr,nb,eq_false q1,eq_false q2,eq_false q3,eq_true q4,XS,XT,XF,AV.cells,Nat.reduceAdd,Nat.reduceLT,Nat.reduceEqDiff,↓reduceIte,Nat.reduceLeDiff]
 by_cases q5:(C.regs.length:Int) < C.params
 · refine⟨11,(((h.push (.row [(AV.agg [gv,fv,.str C.name,.int .i64 C.ty,.int .i64 C.params,rv,bv])] 7)).push (.row [(AV.agg [.str [],.int .i64 0,.int .i64 0,.nilsl,.nilsl])] 5)).set ((h.push (.row [(AV.agg [gv,fv,.str C.name,.int .i64 C.ty,.int .i64 C.params,rv,bv])] 7))).next (.row [(AV.agg [.str C.name,.int .i64 C.ty,.int .i64 C.params,rv,bv])] 5)),?_,g3,fun hh=>absurd hh (by decide)⟩
   rw[pl28.call h (by simp)]; unfold c28
   simp -implicitDefEqProofs (maxSteps:=1000000) only[o1,o2,o3,o4,LC,s3,L3,nr,nb,eq_false q1,eq_false q2,eq_false q3,eq_false q4,eq_true q5,XS,XT,XF,AV.cells,Nat.reduceAdd,Nat.reduceLT,Nat.reduceEqDiff,↓reduceIte,Nat.reduceLeDiff]
 by_cases q6:C.ty < 0
 · refine⟨6,(((h.push (.row [(AV.agg [gv,fv,.str C.name,.int .i64 C.ty,.int .i64 C.params,rv,bv])] 7)).push (.row [(AV.agg [.str [],.int .i64 0,.int .i64 0,.nilsl,.nilsl])] 5)).set ((h.push (.row [(AV.agg [gv,fv,.str C.name,.int .i64 C.ty,.int .i64 C.params,rv,bv])] 7))).next (.row [(AV.agg [.str C.name,.int .i64 C.ty,.int .i64 C.params,rv,bv])] 5)),?_,g3,fun hh=>absurd hh (by decide)⟩
   rw[pl28.call h (by simp)]; unfold c28
   simp -implicitDefEqProofs (maxSteps:=1000000) only[o1,o2,o3,o4,LC,s3,L3,nr,nb,eq_false q1,eq_false q2,eq_false q3,eq_false q4,eq_false q5,eq_true q6,XS,XT,XF,AV.cells,Nat.reduceAdd,Nat.reduceLT,Nat.reduceEqDiff,↓reduceIte,Nat.reduceLeDiff]
 by_cases q7:2 < C.ty
 · refine⟨6,(((h.push (.row [(AV.agg [gv,fv,.str C.name,.int .i64 C.ty,.int .i64 C.params,rv,bv])] 7)).push (.row [(AV.agg [.str [],.int .i64 0,.int .i64 0,.nilsl,.nilsl])] 5)).set ((h.push (.row [(AV.agg [gv,fv,.str C.name,.int .i64 C.ty,.int .i64 C.params,rv,bv])] 7))).next (.row [(AV.agg [.str C.name,.int .i64 C.ty,.int .i64 C.params,rv,bv])] 5)),?_,g3,fun hh=>absurd hh (by decide)⟩
   rw[pl28.call h (by simp)]; unfold c28
   simp -implicitDefEqProofs (maxSteps:=1000000) only[o1,o2,o3,o4,LC,s3,L3,nr,nb,eq_false q1,eq_false q2,eq_false q3,eq_false q4,eq_false q5,eq_false q6,eq_true q7,XS,XT,XF,AV.cells,Nat.reduceAdd,Nat.reduceLT,Nat.reduceEqDiff,↓reduceIte,Nat.reduceLeDiff]
 obtain⟨h4,g4,ecf⟩:=ContainsFunc_ok notNumber_ok (IntsR.stays g3.kp hrv)
 have g34:=g3.trans g4
 cases hany:C.regs.any (fun n=>!numberD n) with
 | true =>
   refine⟨6,h4,?_,g34,fun hh=>absurd hh (by decide)⟩
   rw[pl28.call h (by simp)]; unfold c28
   simp -implicitDefEqProofs (maxSteps:=1000000) only[o1,o2,o3,o4,LC,s3,L3,nr,nb,eq_false q1,eq_false q2,eq_false q3,eq_false q4,eq_false q5,eq_false q6,eq_false q7,v_func,ecf,hany,XS,XT,XF,AV.cells,Nat.reduceAdd,Nat.reduceLT,Nat.reduceEqDiff,↓reduceIte,Nat.reduceLeDiff]
 | false =>
   have c34:h4.get (h.push (.row [(AV.agg [gv,fv,.str C.name,.int .i64 C.ty,.int .i64 C.params,rv,bv])] 7)).next=some (.row [(AV.agg [.str C.name,.int .i64 C.ty,.int .i64 C.params,rv,bv])] 5):=(g4.get _ (show h.next+1 < h.next+1+1 by omega)).trans c3
   have cx4:h4.get h.next=some (.row [(AV.agg [gv,fv,.str C.name,.int .i64 C.ty,.int .i64 C.params,rv,bv])] 7):=(g4.get _ (show h.next < h.next+1+1 by omega)).trans cx3
   have L4:loadA ty29 (.ptr (h.push (.row [(AV.agg [gv,fv,.str C.name,.int .i64 C.ty,.int .i64 C.params,rv,bv])] 7)).next 0 4) h4=some bv:=by rw[load_old c34]; rfl
   have key:∃l,AM.look l 1=.ptr h.next 0 0∧AM.look l 56=bv∧AM.look l 57=.int .i64 (C.blocks.length:Int)∧AM.look l 58=.int .i64 ((0:Nat):Int)∧callω env 28 [(AV.agg [gv,fv,.str C.name,.int .i64 C.ty,.int .i64 C.params,rv,bv])] h=afterBody env [.tmp 2] (seqA (evω env kt28_2) (blockA 1 (evω env (.loop lp28_0) (fset 84 l) h4))):=by
     refine⟨?_,?_,?_,?_,?_,?_⟩
     rotate_left 5
     · rw[pl28.call h (by simp)]; unfold c28
       simp -implicitDefEqProofs (maxSteps:=1000000) only[o1,o2,o3,o4,LC,s3,L3,nr,nb,eq_false q1,eq_false q2,eq_false q3,eq_false q4,eq_false q5,eq_false q6,eq_false q7,v_func,ecf,hany,L4,XS,XT,XF,AV.cells,Nat.reduceAdd,Nat.reduceLT,Nat.reduceEqDiff,↓reduceIte,Nat.reduceLeDiff]
       rfl
     all_goals simp[AM.look]
   obtain⟨l,k1,k56,k57,k58,hgo⟩:=key
   have e4:h.next+1+1≤h4.next:=g4.nx
   rcases cdOuter g34 cx4 (by omega) (ChkR.stays g34.kp hx0) (BlocksR.stays g34.kp hbv) hs k1 k56 k57 k58 with ⟨h',l',e,er,g',m2,m0⟩ | ⟨l',h',er,g',hbl⟩
   · refine⟨e,h',?_,g',fun hh=>absurd hh m0⟩
     rw[hgo,er]
     simp -implicitDefEqProofs (maxSteps:=1000000) only[m2,XS,XT,XF,AV.cells,Nat.reduceAdd,Nat.reduceLT,Nat.reduceEqDiff,↓reduceIte,Nat.reduceLeDiff]
   · refine⟨0,h',?_,g34.trans g',fun _=>⟨by omega,by omega,by omega,by omega,by omega,by omega,by omega,fun r hr=>by simpa using List.any_eq_false.1 hany r hr,hbl⟩⟩
     rw[hgo,er]
     unfold kt28_2
     simp -implicitDefEqProofs (maxSteps:=1000000) only[XS,XT,XF,AV.cells,Nat.reduceAdd,Nat.reduceLT,Nat.reduceEqDiff,↓reduceIte,Nat.reduceLeDiff]
theorem mainOf_ok {h:Heap} {x:AV} {M:MModu} (hx:ModR h x M):∃r h',callω env 29 [x] h=.ok (.int .i64 r) h'∧Grow h h'∧IdxRes (fun C:MCode=>decide (C.name=mainName)) M.funcs r:=by
 obtain⟨gv,fv,rfl,hgv,hfv⟩:=hx
 have o1:=hgv.ok
 have o2:=hfv.ok
 have g1:Grow h (h.push (.row [(AV.agg [gv,fv])] 2)):=Grow.push h _
 have L:loadA ty23 (.ptr h.next 0 1) (h.push (.row [(AV.agg [gv,fv])] 2))=some fv:=by rw[load_old (Heap.get_push_eq h _)]; rfl
 obtain⟨r,h',e,g,hr⟩:=IndexFuncCodes_ok isMain_ok (CodesR.stays g1.kp hfv)
 refine⟨r,h',?_,g1.trans g,hr⟩
 rw[pl29.call h (by simp)]
 unfold c29
 simp -implicitDefEqProofs (maxSteps:=1000000) only[o1,o2,L,v_func,e,XS,XT,XF,AV.cells,Nat.reduceAdd,Nat.reduceLT,Nat.reduceEqDiff,↓reduceIte,Nat.reduceLeDiff]
end Go.Proofs.AmEnv
namespace Go.Proofs.AmEnv
open Go Go.AM
structure ModOk (M:MModu):Prop where
 fn:∀C∈M.funcs,CodeOk M C
 mn:∃(k:Nat) (C:MCode),M.funcs[k]?=some C∧C.name=mainName∧C.ty=1∧C.params=0
def StrB (M:MModu):Prop:=∀C∈M.funcs,∀B∈C.blocks,∀I∈B.code,I.s.length≤140737488355328
theorem buildChk {gv fv rv bv:AV} {C:MCode} (o1:okCell gv=true) (o2:okCell fv=true) (o3:okCell rv=true) (o4:okCell bv=true):buildD env ty59 [(0,(AV.agg [gv,fv])),(1,(AV.agg [.str C.name,.int .i64 C.ty,.int .i64 C.params,rv,bv]))]=some (AV.agg [gv,fv,.str C.name,.int .i64 C.ty,.int .i64 C.params,rv,bv]):=by
 refine congrArg (Option.map AV.agg) (a₂:=some _) ?_
 refine (fill_cons (cells:=[.nilsl,.nilsl,.str [],.int .i64 0,.int .i64 0,.nilsl,.nilsl]) (q:=(0,2)) rfl rfl (show 0+2≤7 by decide) (by show okCells [gv,fv]=true; simp only[okCells_cons,okCells_nil,o1,o2,Bool.and_self])).trans ?_
 exact (fill_cons (cells:=[gv,fv,.str [],.int .i64 0,.int .i64 0,.nilsl,.nilsl]) (q:=(2,5)) rfl rfl (show 2+5≤7 by decide) (by show okCells [_,_,_,rv,bv]=true; simp only[okCells_cons,okCells_nil,ok_int,ok_str,o3,o4,Bool.and_self])).trans rfl
set_option maxHeartbeats 8000000 in
theorem chGlobals {Gs:List MGlob} {gv:AV} {h0 h:Heap} (hg:Grow h0 h) (hgv:GlobsR h gv Gs) {l:List (Nat × AV)} (l10:AM.look l 10=gv) (l11:AM.look l 11=.int .i64 (Gs.length:Int)) (l12:AM.look l 12=.int .i64 ((0:Nat):Int)) :
   RetI 68 2 h0 (evω env (.loop lp15_0) (fset 68 l) h)∨(∃l' h',evω env (.loop lp15_0) (fset 68 l) h=.ok (.exit 0) (fset 68 l') h'∧Grow h h'∧Keep [1] l' l):=by
 have hle:=hgv.le
 refine loop_ind (E:=env) (nt:=68) (body:=lp15_0) Gs.length (fun k lk hk=>Grow h hk∧Keep [1] lk l∧AM.look lk 10=gv∧AM.look lk 11=.int .i64 (Gs.length:Int)∧AM.look lk 12=.int .i64 (k:Int))
   (fun r=>RetI 68 2 h0 r∨(∃l' h',r=.ok (.exit 0) (fset 68 l') h'∧Grow h h'∧Keep [1] l' l)) ?_ ?_ Gs.length 0 l h (by omega) ⟨.refl h,.refl _ _,l10,l11,l12⟩
 · rintro k lk hk hj ⟨g,kp,k10,k11,k12⟩
   obtain⟨G,hG⟩:∃G,Gs[k]?=some G:=⟨_,List.getElem?_eq_getElem hj⟩
   have a:=globAt (GlobsR.stays g.kp hgv) hG
   have aix:=a.ix
   have ald:=a.ld
   have c1:(hk.push (.row [(AV.agg [.str [],.int .i64 0,.int .i64 0,.int .i64 0])] 4)).get hk.next=some (.row [(AV.agg [.str [],.int .i64 0,.int .i64 0,.int .i64 0])] 4):=Heap.get_push_eq hk _
   have s1:storeA ty56 (.ptr hk.next 0 0) (AV.agg [.str G.name,.int .i64 G.ty,.int .i64 G.size,.int .i64 G.at_]) (hk.push (.row [(AV.agg [.str [],.int .i64 0,.int .i64 0,.int .i64 0])] 4))=some ((hk.push (.row [(AV.agg [.str [],.int .i64 0,.int .i64 0,.int .i64 0])] 4)).set hk.next (.row [(AV.agg [.str G.name,.int .i64 G.ty,.int .i64 G.size,.int .i64 G.at_])] 4)):=by
     rw[store_old c1 rfl (by decide) (by decide) rfl]; rfl
   have L:∀t o,loadA t (.ptr hk.next 0 o) ((hk.push (.row [(AV.agg [.str [],.int .i64 0,.int .i64 0,.int .i64 0])] 4)).set hk.next (.row [(AV.agg [.str G.name,.int .i64 G.ty,.int .i64 G.size,.int .i64 G.at_])] 4))=partOf t [.str G.name,.int .i64 G.ty,.int .i64 G.size,.int .i64 G.at_] o:=fun t o=>load_set c1 t
   have g2:Grow hk ((hk.push (.row [(AV.agg [.str [],.int .i64 0,.int .i64 0,.int .i64 0])] 4)).set hk.next (.row [(AV.agg [.str G.name,.int .i64 G.ty,.int .i64 G.size,.int .i64 G.at_])] 4)):=(Grow.push hk _).set _ (Nat.le_refl _)
   have hlt:((k:Int) < (Gs.length:Int)):=by omega
   have w1:IntKind.wrap .i64 ((k:Int)+1)=((k+1:Nat):Int):=AM.wrap_small (n:=k+1) (by omega)
   have cont:∀l',Keep [1] l' lk→AM.look l' 10=gv→AM.look l' 11=.int .i64 (Gs.length:Int)→AM.look l' 12=.int .i64 ((k+1:Nat):Int)→evω env (.loop lp15_0) (fset 68 lk) hk=evω env (.loop lp15_0) (fset 68 l') ((hk.push (.row [(AV.agg [.str [],.int .i64 0,.int .i64 0,.int .i64 0])] 4)).set hk.next (.row [(AV.agg [.str G.name,.int .i64 G.ty,.int .i64 G.size,.int .i64 G.at_])] 4))→∃l' h',(Grow h h'∧Keep [1] l' l∧AM.look l' 10=gv∧AM.look l' 11=.int .i64 (Gs.length:Int)∧AM.look l' 12=.int .i64 ((k+1:Nat):Int))∧evω env (.loop lp15_0) (fset 68 lk) hk=evω env (.loop lp15_0) (fset 68 l') h' :=
     fun l' a1 a2 a3 a4 a5=>⟨l',_,⟨g.trans g2,a1.trans kp,a2,a3,a4⟩,a5⟩
   cases qn:numberD G.ty with
   | true =>
     left
     have key:∃l',Keep [1] l' lk∧AM.look l' 10=gv∧AM.look l' 11=.int .i64 (Gs.length:Int)∧AM.look l' 12=.int .i64 ((k+1:Nat):Int)∧evω env (.loop lp15_0) (fset 68 lk) hk=evω env (.loop lp15_0) (fset 68 l') ((hk.push (.row [(AV.agg [.str [],.int .i64 0,.int .i64 0,.int .i64 0])] 4)).set hk.next (.row [(AV.agg [.str G.name,.int .i64 G.ty,.int .i64 G.size,.int .i64 G.at_])] 4)):=by
       refine⟨?_,?_,?_,?_,?_,?_⟩
       rotate_left 5
       · conv=>lhs; rw[w_loop]; unfold lp15_0
         simp -implicitDefEqProofs (maxSteps:=1000000) only[k10,k11,k12,eq_true hlt,aix,ald,s1,L,number_ok,qn,w1,XS,XT,XF,AV.cells,Nat.reduceAdd,Nat.reduceLT,Nat.reduceEqDiff,↓reduceIte,Nat.reduceLeDiff]
         rfl
       · simp[Keep,AM.look]
       all_goals simp[AM.look,k10,k11]
     obtain⟨l',a1,a2,a3,a4,a5⟩:=key
     exact cont l' a1 a2 a3 a4 a5
   | false =>
     by_cases q3:G.ty=3
     · by_cases q4:G.size < 1
       · right
         left
         have key:∃l',AM.look l' 2=.int .i64 6∧evω env (.loop lp15_0) (fset 68 lk) hk=.ok .ret (fset 68 l') ((hk.push (.row [(AV.agg [.str [],.int .i64 0,.int .i64 0,.int .i64 0])] 4)).set hk.next (.row [(AV.agg [.str G.name,.int .i64 G.ty,.int .i64 G.size,.int .i64 G.at_])] 4)):=by
           refine⟨?_,?_,?_⟩
           rotate_left 2
           · conv=>lhs; rw[w_loop]; unfold lp15_0
             simp -implicitDefEqProofs (maxSteps:=1000000) only[k10,k11,k12,eq_true hlt,aix,ald,s1,L,number_ok,qn,eq_true q3,eq_true q4,XS,XT,XF,AV.cells,Nat.reduceAdd,Nat.reduceLT,Nat.reduceEqDiff,↓reduceIte,Nat.reduceLeDiff]
             rfl
           all_goals simp[AM.look]
         obtain⟨l',m2,hgo⟩:=key
         exact⟨_,l',6,hgo,(hg.trans g).trans g2,m2,by decide⟩
       · left
         have key:∃l',Keep [1] l' lk∧AM.look l' 10=gv∧AM.look l' 11=.int .i64 (Gs.length:Int)∧AM.look l' 12=.int .i64 ((k+1:Nat):Int)∧evω env (.loop lp15_0) (fset 68 lk) hk=evω env (.loop lp15_0) (fset 68 l') ((hk.push (.row [(AV.agg [.str [],.int .i64 0,.int .i64 0,.int .i64 0])] 4)).set hk.next (.row [(AV.agg [.str G.name,.int .i64 G.ty,.int .i64 G.size,.int .i64 G.at_])] 4)):=by
           refine⟨?_,?_,?_,?_,?_,?_⟩
           rotate_left 5
           · conv=>lhs; rw[w_loop]; unfold lp15_0
             simp -implicitDefEqProofs (maxSteps:=1000000) only[k10,k11,k12,eq_true hlt,aix,ald,s1,L,number_ok,qn,eq_true q3,eq_false q4,w1,XS,XT,XF,AV.cells,Nat.reduceAdd,Nat.reduceLT,Nat.reduceEqDiff,↓reduceIte,Nat.reduceLeDiff]
             rfl
           · simp[Keep,AM.look]
           all_goals simp[AM.look,k10,k11]
         obtain⟨l',a1,a2,a3,a4,a5⟩:=key
         exact cont l' a1 a2 a3 a4 a5
     · right
       left
       have key:∃l',AM.look l' 2=.int .i64 6∧evω env (.loop lp15_0) (fset 68 lk) hk=.ok .ret (fset 68 l') ((hk.push (.row [(AV.agg [.str [],.int .i64 0,.int .i64 0,.int .i64 0])] 4)).set hk.next (.row [(AV.agg [.str G.name,.int .i64 G.ty,.int .i64 G.size,.int .i64 G.at_])] 4)):=by
         refine⟨?_,?_,?_⟩
         rotate_left 2
         · conv=>lhs; rw[w_loop]; unfold lp15_0
           simp -implicitDefEqProofs (maxSteps:=1000000) only[k10,k11,k12,eq_true hlt,aix,ald,s1,L,number_ok,qn,eq_false q3,XS,XT,XF,AV.cells,Nat.reduceAdd,Nat.reduceLT,Nat.reduceEqDiff,↓reduceIte,Nat.reduceLeDiff]
           rfl
         all_goals simp[AM.look]
       obtain⟨l',m2,hgo⟩:=key
       exact⟨_,l',6,hgo,(hg.trans g).trans g2,m2,by decide⟩
 · rintro lk hk ⟨g,kp,k10,k11,k12⟩
   have hlt:¬ ((Gs.length:Int) < (Gs.length:Int)):=by omega
   have key:∃l',Keep [1] l' lk∧evω env (.loop lp15_0) (fset 68 lk) hk=.ok (.exit 0) (fset 68 l') hk:=by
     refine⟨?_,?_,?_⟩
     rotate_left 2
     · conv=>lhs; rw[w_loop]; unfold lp15_0
       simp -implicitDefEqProofs (maxSteps:=1000000) only[k10,k11,k12,eq_false hlt,XS,XT,XF,AV.cells,Nat.reduceAdd,Nat.reduceLT,Nat.reduceEqDiff,↓reduceIte,Nat.reduceLeDiff]
       rfl
     · simp[Keep,AM.look]
   obtain⟨l',m1,hgo⟩:=key
   exact .inr ⟨l',hk,hgo,g,m1.trans kp⟩
set_option maxHeartbeats 8000000 in
theorem chFuncs {M:MModu} {gv fv:AV} {p:Nat} {h0 h:Heap} (hg:Grow h0 h) (cell:h.get p=some (.row [(AV.agg [gv,fv])] 2)) (hp:p < h.next) (hgv:GlobsR h gv M.globals) (hfv:CodesR h fv M.funcs) (hs:StrB M) {l:List (Nat × AV)} (l1:AM.look l 1=.ptr p 0 0) (l32:AM.look l 32=fv) (l33:AM.look l 33=.int .i64 (M.funcs.length:Int)) (l34:AM.look l 34=.int .i64 ((0:Nat):Int)) :
   RetI 68 2 h0 (evω env (.loop lp15_1) (fset 68 l) h)∨(∃l' h',evω env (.loop lp15_1) (fset 68 l) h=.ok (.exit 2) (fset 68 l') h'∧Grow h h'∧Keep [1] l' l∧∀C∈M.funcs,CodeOk M C):=by
 have hle:=hfv.le
 refine loop_ind (E:=env) (nt:=68) (body:=lp15_1) M.funcs.length (fun k lk hk=>Grow h hk∧Keep [1] lk l∧AM.look lk 32=fv∧AM.look lk 33=.int .i64 (M.funcs.length:Int)∧AM.look lk 34=.int .i64 (k:Int)∧AllTo (CodeOk M) M.funcs k)
   (fun r=>RetI 68 2 h0 r∨(∃l' h',r=.ok (.exit 2) (fset 68 l') h'∧Grow h h'∧Keep [1] l' l∧∀C∈M.funcs,CodeOk M C)) ?_ ?_ M.funcs.length 0 l h (by omega) ⟨.refl h,.refl _ _,l32,l33,l34,.zero⟩
 · rintro k lk hk hj ⟨g,kp,k32,k33,k34,al⟩
   obtain⟨C,hC⟩:∃C,M.funcs[k]?=some C:=⟨_,List.getElem?_eq_getElem hj⟩
   obtain⟨rv,bv,a⟩:=codeAt (CodesR.stays g.kp hfv) hC
   have aix:=a.ix
   have ald:=a.ld
   have okr:=a.regs.ok
   have okb:=a.blocks.ok
   have k1:=(kp 1 (by simp)).trans l1
   have ok0:okCells (AV.agg [.str C.name,.int .i64 C.ty,.int .i64 C.params,rv,bv]).cells=true:=by
     show okCells [_,_,_,rv,bv]=true
     simp only[okCells_cons,okCells_nil,ok_int,ok_str,okr,okb,Bool.and_self]
   have c1:(hk.push (.row [(AV.agg [.str [],.int .i64 0,.int .i64 0,.nilsl,.nilsl])] 5)).get hk.next=some (.row [(AV.agg [.str [],.int .i64 0,.int .i64 0,.nilsl,.nilsl])] 5):=Heap.get_push_eq hk _
   have s1:storeA ty31 (.ptr hk.next 0 0) (AV.agg [.str C.name,.int .i64 C.ty,.int .i64 C.params,rv,bv]) (hk.push (.row [(AV.agg [.str [],.int .i64 0,.int .i64 0,.nilsl,.nilsl])] 5))=some ((hk.push (.row [(AV.agg [.str [],.int .i64 0,.int .i64 0,.nilsl,.nilsl])] 5)).set hk.next (.row [(AV.agg [.str C.name,.int .i64 C.ty,.int .i64 C.params,rv,bv])] 5)):=by
     rw[store_old c1 rfl (by decide) (by decide) ok0]; rfl
   have LC:loadA ty31 (.ptr hk.next 0 0) ((hk.push (.row [(AV.agg [.str [],.int .i64 0,.int .i64 0,.nilsl,.nilsl])] 5)).set hk.next (.row [(AV.agg [.str C.name,.int .i64 C.ty,.int .i64 C.params,rv,bv])] 5))=some (AV.agg [.str C.name,.int .i64 C.ty,.int .i64 C.params,rv,bv]):=by rw[load_set c1]; rfl
   have g2:Grow hk ((hk.push (.row [(AV.agg [.str [],.int .i64 0,.int .i64 0,.nilsl,.nilsl])] 5)).set hk.next (.row [(AV.agg [.str C.name,.int .i64 C.ty,.int .i64 C.params,rv,bv])] 5)):=(Grow.push hk _).set _ (Nat.le_refl _)
   have gh2:=g.trans g2
   have cellp:((hk.push (.row [(AV.agg [.str [],.int .i64 0,.int .i64 0,.nilsl,.nilsl])] 5)).set hk.next (.row [(AV.agg [.str C.name,.int .i64 C.ty,.int .i64 C.params,rv,bv])] 5)).get p=some (.row [(AV.agg [gv,fv])] 2):=(gh2.get p hp).trans cell
   have LM:loadA ty25 (.ptr p 0 0) ((hk.push (.row [(AV.agg [.str [],.int .i64 0,.int .i64 0,.nilsl,.nilsl])] 5)).set hk.next (.row [(AV.agg [.str C.name,.int .i64 C.ty,.int .i64 C.params,rv,bv])] 5))=some (AV.agg [gv,fv]):=by rw[load_old cellp]; rfl
   have ebd:=buildChk (C:=C) hgv.ok hfv.ok okr okb
   have xR:ChkR ((hk.push (.row [(AV.agg [.str [],.int .i64 0,.int .i64 0,.nilsl,.nilsl])] 5)).set hk.next (.row [(AV.agg [.str C.name,.int .i64 C.ty,.int .i64 C.params,rv,bv])] 5)) (AV.agg [gv,fv,.str C.name,.int .i64 C.ty,.int .i64 C.params,rv,bv]) M C:=⟨gv,fv,rv,bv,rfl,GlobsR.stays gh2.kp hgv,CodesR.stays gh2.kp hfv,IntsR.stays g2.kp a.regs,BlocksR.stays g2.kp a.blocks⟩
   obtain⟨e,h3,ei,g3,hco⟩:=code_ok xR (hs C (List.mem_of_getElem? hC))
   have hlt:((k:Int) < (M.funcs.length:Int)):=by omega
   have w1:IntKind.wrap .i64 ((k:Int)+1)=((k+1:Nat):Int):=AM.wrap_small (n:=k+1) (by omega)
   by_cases he:e=0
   · left
     have key:∃l',Keep [1] l' lk∧AM.look l' 32=fv∧AM.look l' 33=.int .i64 (M.funcs.length:Int)∧AM.look l' 34=.int .i64 ((k+1:Nat):Int)∧evω env (.loop lp15_1) (fset 68 lk) hk=evω env (.loop lp15_1) (fset 68 l') h3:=by
       refine⟨?_,?_,?_,?_,?_,?_⟩
       rotate_left 5
       · conv=>lhs; rw[w_loop]; unfold lp15_1
         simp -implicitDefEqProofs (maxSteps:=1000000) only[k1,k32,k33,k34,eq_true hlt,aix,ald,s1,LM,LC,ebd,ei,eq_true he,w1,XS,XT,XF,AV.cells,Nat.reduceAdd,Nat.reduceLT,Nat.reduceEqDiff,↓reduceIte,Nat.reduceLeDiff]
         rfl
       · simp[Keep,AM.look]
       all_goals simp[AM.look,k32,k33]
     obtain⟨l',a1,a2,a3,a4,hgo⟩:=key
     exact⟨l',h3,⟨gh2.trans g3,a1.trans kp,a2,a3,a4,al.step hC (hco he)⟩,hgo⟩
   · right
     left
     have key:∃l',AM.look l' 2=.int .i64 e∧evω env (.loop lp15_1) (fset 68 lk) hk=.ok .ret (fset 68 l') h3:=by
       refine⟨?_,?_,?_⟩
       rotate_left 2
       · conv=>lhs; rw[w_loop]; unfold lp15_1
         simp -implicitDefEqProofs (maxSteps:=1000000) only[k1,k32,k33,k34,eq_true hlt,aix,ald,s1,LM,LC,ebd,ei,eq_false he,XS,XT,XF,AV.cells,Nat.reduceAdd,Nat.reduceLT,Nat.reduceEqDiff,↓reduceIte,Nat.reduceLeDiff]
         rfl
       all_goals simp[AM.look]
     obtain⟨l',m2,hgo⟩:=key
     exact⟨h3,l',e,hgo,(hg.trans gh2).trans g3,m2,he⟩
 · rintro lk hk ⟨g,kp,k32,k33,k34,al⟩
   have hlt:¬ ((M.funcs.length:Int) < (M.funcs.length:Int)):=by omega
   have key:∃l',Keep [1] l' lk∧evω env (.loop lp15_1) (fset 68 lk) hk=.ok (.exit 2) (fset 68 l') hk:=by
     refine⟨?_,?_,?_⟩
     rotate_left 2
     · conv=>lhs; rw[w_loop]; unfold lp15_1
       simp -implicitDefEqProofs (maxSteps:=1000000) only[k32,k33,k34,eq_false hlt,XS,XT,XF,AV.cells,Nat.reduceAdd,Nat.reduceLT,Nat.reduceEqDiff,↓reduceIte,Nat.reduceLeDiff]
       rfl
     · simp[Keep,AM.look]
   obtain⟨l',m1,hgo⟩:=key
   exact .inr ⟨l',hk,hgo,g,m1.trans kp,al.all⟩
set_option maxHeartbeats 16000000 in
theorem Check_ok {h:Heap} {x:AV} {M:MModu} (hx:ModR h x M) (hs:StrB M):∃e h',callω env 15 [x] h=.ok (.int .i64 e) h'∧Grow h h'∧(e=0→ModOk M):=by
 obtain⟨gv,fv,rfl,hgv,hfv⟩:=hx
 have o1:=hgv.ok
 have o2:=hfv.ok
 have n1:=hgv.len
 have n2:=hfv.len
 have g1:Grow h (h.push (.row [(AV.agg [gv,fv])] 2)):=Grow.push h _
 have c1:(h.push (.row [(AV.agg [gv,fv])] 2)).get h.next=some (.row [(AV.agg [gv,fv])] 2):=Heap.get_push_eq h _
 have L0:loadA ty22 (.ptr h.next 0 0) (h.push (.row [(AV.agg [gv,fv])] 2))=some gv:=by rw[load_old c1]; rfl
 have key:∃l,AM.look l 1=.ptr h.next 0 0∧AM.look l 10=gv∧AM.look l 11=.int .i64 (M.globals.length:Int)∧AM.look l 12=.int .i64 ((0:Nat):Int)∧callω env 15 [(AV.agg [gv,fv])] h=afterBody env [.tmp 2] (seqA (evω env kt15_0) (blockA 0 (evω env (.loop lp15_0) (fset 68 l) (h.push (.row [(AV.agg [gv,fv])] 2))))):=by
   refine⟨?_,?_,?_,?_,?_,?_⟩
   rotate_left 5
   · rw[pl15.call h (by simp)]; unfold c15
     simp -implicitDefEqProofs (maxSteps:=1000000) only[o1,o2,L0,n1,XS,XT,XF,AV.cells,Nat.reduceAdd,Nat.reduceLT,Nat.reduceEqDiff,↓reduceIte,Nat.reduceLeDiff]
     rfl
   all_goals simp[AM.look]
 obtain⟨l,k1,k10,k11,k12,hgo⟩:=key
 rcases chGlobals g1 (GlobsR.stays g1.kp hgv) k10 k11 k12 with ⟨h',l',e,er,g',m2,m0⟩ | ⟨l2,h2,er,g2,kp⟩
 · refine⟨e,h',?_,g',fun hh=>absurd hh m0⟩
   rw[hgo,er]
   simp -implicitDefEqProofs (maxSteps:=1000000) only[m2,XS,XT,XF,AV.cells,Nat.reduceAdd,Nat.reduceLT,Nat.reduceEqDiff,↓reduceIte,Nat.reduceLeDiff]
 have t1:=(kp 1 (by simp)).trans k1
 have g12:=g1.trans g2
 have hp:h.next < (h.push (.row [(AV.agg [gv,fv])] 2)).next:=Nat.lt_succ_self _
 have c2:h2.get h.next=some (.row [(AV.agg [gv,fv])] 2):=(g2.get _ hp).trans c1
 have L2:loadA ty23 (.ptr h.next 0 1) h2=some fv:=by rw[load_old c2]; rfl
 have hp2:h.next < h2.next:=Nat.lt_of_lt_of_le hp g2.nx
 have key:∃l,AM.look l 1=.ptr h.next 0 0∧AM.look l 32=fv∧AM.look l 33=.int .i64 (M.funcs.length:Int)∧AM.look l 34=.int .i64 ((0:Nat):Int)∧callω env 15 [(AV.agg [gv,fv])] h=afterBody env [.tmp 2] (seqA (evω env kt15_1) (blockA 2 (evω env (.loop lp15_1) (fset 68 l) h2))):=by
   refine⟨?_,?_,?_,?_,?_,?_⟩
   rotate_left 5
   · rw[hgo,er]
     unfold kt15_0
     simp -implicitDefEqProofs (maxSteps:=1000000) only[t1,L2,n2,XS,XT,XF,AV.cells,Nat.reduceAdd,Nat.reduceLT,Nat.reduceEqDiff,↓reduceIte,Nat.reduceLeDiff]
     rfl
   all_goals simp[AM.look,t1]
 obtain⟨l3,q1,q32,q33,q34,hgo2⟩:=key
 rcases chFuncs g12 c2 hp2 (GlobsR.stays g12.kp hgv) (CodesR.stays g12.kp hfv) hs q1 q32 q33 q34 with ⟨h',l',e,er2,g',m2,m0⟩ | ⟨l4,h3,er2,g3,kp2,hfn⟩
 · refine⟨e,h',?_,g',fun hh=>absurd hh m0⟩
   rw[hgo2,er2]
   simp -implicitDefEqProofs (maxSteps:=1000000) only[m2,XS,XT,XF,AV.cells,Nat.reduceAdd,Nat.reduceLT,Nat.reduceEqDiff,↓reduceIte,Nat.reduceLeDiff]
 have u1:=(kp2 1 (by simp)).trans q1
 have g13:=g12.trans g3
 have c3:h3.get h.next=some (.row [(AV.agg [gv,fv])] 2):=(g3.get _ hp2).trans c2
 have LM:loadA ty25 (.ptr h.next 0 0) h3=some (AV.agg [gv,fv]):=by rw[load_old c3]; rfl
 obtain⟨r,h4,em,g4,hr⟩:=mainOf_ok (⟨gv,fv,rfl,GlobsR.stays g13.kp hgv,CodesR.stays g13.kp hfv⟩:ModR h3 (AV.agg [gv,fv]) M)
 have hp3:h.next < h3.next:=Nat.lt_of_lt_of_le hp2 g3.nx
 have c4:h4.get h.next=some (.row [(AV.agg [gv,fv])] 2):=(g4.get _ hp3).trans c3
 have L4:loadA ty23 (.ptr h.next 0 1) h4=some fv:=by rw[load_old c4]; rfl
 have g14:=g13.trans g4
 rcases hr with ⟨rfl,_⟩ | ⟨k,C,rfl,hC,hnm,_⟩
 · refine⟨12,h4,?_,g14,fun hh=>absurd hh (by decide)⟩
   rw[hgo2,er2]
   unfold kt15_1
   simp -implicitDefEqProofs (maxSteps:=1000000) only[u1,LM,em,show ((-1:Int) < 0)=True from eq_true (by decide),XS,XT,XF,AV.cells,Nat.reduceAdd,Nat.reduceLT,Nat.reduceEqDiff,↓reduceIte,Nat.reduceLeDiff]
 · obtain⟨rv,bv,a⟩:=codeAt (CodesR.stays g14.kp hfv) hC
   have aix:=a.ix
   have ao:=a.o
   have al1:=a.l1
   have al2:=a.l2
   have hk0:¬ ((k:Int) < 0):=by omega
   by_cases q1:C.ty=1
   · by_cases q2:C.params=0
     · refine⟨0,h4,?_,g14,fun _=>⟨hfn,k,C,hC,of_decide_eq_true hnm,q1,q2⟩⟩
       rw[hgo2,er2]
       unfold kt15_1
       simp -implicitDefEqProofs (maxSteps:=1000000) only[u1,LM,em,eq_false hk0,L4,aix,ao,al1,al2,eq_true q1,eq_true q2,XS,XT,XF,AV.cells,Nat.reduceAdd,Nat.reduceLT,Nat.reduceEqDiff,↓reduceIte,Nat.reduceLeDiff]
     · refine⟨12,h4,?_,g14,fun hh=>absurd hh (by decide)⟩
       rw[hgo2,er2]
       unfold kt15_1
       simp -implicitDefEqProofs (maxSteps:=1000000) only[u1,LM,em,eq_false hk0,L4,aix,ao,al1,al2,eq_true q1,eq_false q2,XS,XT,XF,AV.cells,Nat.reduceAdd,Nat.reduceLT,Nat.reduceEqDiff,↓reduceIte,Nat.reduceLeDiff]
   · refine⟨12,h4,?_,g14,fun hh=>absurd hh (by decide)⟩
     rw[hgo2,er2]
     unfold kt15_1
     simp -implicitDefEqProofs (maxSteps:=1000000) only[u1,LM,em,eq_false hk0,L4,aix,ao,al1,al2,eq_false q1,XS,XT,XF,AV.cells,Nat.reduceAdd,Nat.reduceLT,Nat.reduceEqDiff,↓reduceIte,Nat.reduceLeDiff]
end Go.Proofs.AmEnv
namespace Go.Proofs.AmEnv
open Go Go.AM
set_option maxHeartbeats 8000000 in
theorem biBlocks {h:Heap} {gv fv:AV} {p i:Nat} {Cs:List MCode} {C:MCode} (cell:h.get p=some (.row [(AV.agg [gv,fv])] 2)) (hfv:CodesR h fv Cs) (hC:Cs[i]?=some C) {l:List (Nat × AV)} (l1:AM.look l 1=.ptr p 0 0) (l4:AM.look l 4=.int .i64 (i:Int)) (l5:AM.look l 5=.int .i64 ((0:Nat):Int)) {z:Int} (l3:AM.look l 3=.int .i64 z) :
   ∃l' z',evω env (.loop lp5_1) (fset 71 l) h=.ok (.exit 2) (fset 71 l') h∧Keep [1,4] l' l∧AM.look l' 3=.int .i64 z':=by
 obtain⟨rv,bv,c⟩:=codeAt hfv hC
 have cix:=c.ix
 have co:=c.o
 have cl:=c.l4
 have hbv:=c.blocks
 have hle:=hbv.le
 have hlen:=hbv.len
 have L:loadA ty23 (.ptr p 0 1) h=some fv:=by rw[load_old cell]; rfl
 refine loop_ind (E:=env) (nt:=71) (body:=lp5_1) C.blocks.length (fun k lk hk=>hk=h∧Keep [1,4] lk l∧AM.look lk 5=.int .i64 (k:Int)∧∃z,AM.look lk 3=.int .i64 z)
   (fun r=>∃l' z',r=.ok (.exit 2) (fset 71 l') h∧Keep [1,4] l' l∧AM.look l' 3=.int .i64 z') ?_ ?_ C.blocks.length 0 l h (by omega) ⟨rfl,.refl _ _,l5,z,l3⟩
 · rintro k lk hk hj ⟨rfl,kp,k5,z,k3⟩
   left
   obtain⟨B,hB⟩:∃B,C.blocks[k]?=some B:=⟨_,List.getElem?_eq_getElem hj⟩
   obtain⟨cv,b⟩:=blockAt hbv hB
   have bix:=b.ix
   have bo:=b.o
   have bl:=b.l0
   have bln:=b.code.len
   have k1:=(kp 1 (by simp)).trans l1
   have k4:=(kp 4 (by simp)).trans l4
   have hc:((k:Int) < (C.blocks.length:Int)):=by omega
   have w1:IntKind.wrap .i64 ((k:Int)+1)=((k+1:Nat):Int):=AM.wrap_small (n:=k+1) (by omega)
   have key:∃l',Keep [1,4] l' lk∧AM.look l' 5=.int .i64 ((k+1:Nat):Int)∧(∃z,AM.look l' 3=.int .i64 z)∧evω env (.loop lp5_1) (fset 71 lk) hk=evω env (.loop lp5_1) (fset 71 l') hk:=by
     refine⟨?_,?_,?_,?_,?_⟩
     rotate_left 4
     · conv=>lhs; rw[w_loop]; unfold lp5_1
       simp -implicitDefEqProofs (maxSteps:=1000000) only[k1,k3,k4,k5,L,cix,co,cl,hlen,eq_true hc,bix,bo,bl,bln,w1,XS,XT,XF,AV.cells,Nat.reduceAdd,Nat.reduceLT,Nat.reduceEqDiff,↓reduceIte,Nat.reduceLeDiff]
       rfl
     · simp[Keep,AM.look]
     · simp[AM.look]
     · simp[AM.look]
   obtain⟨l',q1,q2,q3,hgo⟩:=key
   exact⟨l',hk,⟨rfl,q1.trans kp,q2,q3⟩,hgo⟩
 · rintro lk hk ⟨rfl,kp,k5,z,k3⟩
   have k1:=(kp 1 (by simp)).trans l1
   have k4:=(kp 4 (by simp)).trans l4
   have hc:¬ ((C.blocks.length:Int) < (C.blocks.length:Int)):=by omega
   have key:∃l',Keep [1,4] l' lk∧AM.look l' 3=.int .i64 z∧evω env (.loop lp5_1) (fset 71 lk) hk=.ok (.exit 2) (fset 71 l') hk:=by
     refine⟨?_,?_,?_,?_⟩
     rotate_left 3
     · conv=>lhs; rw[w_loop]; unfold lp5_1
       simp -implicitDefEqProofs (maxSteps:=1000000) only[k1,k3,k4,k5,L,cix,co,cl,hlen,eq_false hc,XS,XT,XF,AV.cells,Nat.reduceAdd,Nat.reduceLT,Nat.reduceEqDiff,↓reduceIte,Nat.reduceLeDiff]
       rfl
     · simp[Keep,AM.look]
     · simp[AM.look,k3]
   obtain⟨l',q1,q3,hgo⟩:=key
   exact⟨l',z,hgo,q1.trans kp,q3⟩
set_option maxHeartbeats 8000000 in
theorem biFuncs {h:Heap} {gv fv:AV} {p:Nat} {Cs:List MCode} (cell:h.get p=some (.row [(AV.agg [gv,fv])] 2)) (hfv:CodesR h fv Cs) {l:List (Nat × AV)} (l1:AM.look l 1=.ptr p 0 0) (l4:AM.look l 4=.int .i64 ((0:Nat):Int)) {z:Int} (l3:AM.look l 3=.int .i64 z) :
   ∃l' z',evω env (.loop lp5_0) (fset 71 l) h=.ok (.exit 0) (fset 71 l') h∧Keep [1] l' l∧AM.look l' 3=.int .i64 z':=by
 have hle:=hfv.le
 have hlen:=hfv.len
 have L:loadA ty23 (.ptr p 0 1) h=some fv:=by rw[load_old cell]; rfl
 refine loop_ind (E:=env) (nt:=71) (body:=lp5_0) Cs.length (fun k lk hk=>hk=h∧Keep [1] lk l∧AM.look lk 4=.int .i64 (k:Int)∧∃z,AM.look lk 3=.int .i64 z)
   (fun r=>∃l' z',r=.ok (.exit 0) (fset 71 l') h∧Keep [1] l' l∧AM.look l' 3=.int .i64 z') ?_ ?_ Cs.length 0 l h (by omega) ⟨rfl,.refl _ _,l4,z,l3⟩
 · rintro k lk hk hj ⟨rfl,kp,k4,z,k3⟩
   left
   obtain⟨C,hC⟩:∃C,Cs[k]?=some C:=⟨_,List.getElem?_eq_getElem hj⟩
   obtain⟨rv,bv,c⟩:=codeAt hfv hC
   have cix:=c.ix
   have co:=c.o
   have cl3:=c.l3
   have cl4:=c.l4
   have n3:=c.regs.len
   have n4:=c.blocks.len
   have k1:=(kp 1 (by simp)).trans l1
   have hc:((k:Int) < (Cs.length:Int)):=by omega
   have w1:IntKind.wrap .i64 ((k:Int)+1)=((k+1:Nat):Int):=AM.wrap_small (n:=k+1) (by omega)
   have key:∃l4,Keep [1] l4 lk∧AM.look l4 4=.int .i64 (k:Int)∧AM.look l4 5=.int .i64 ((0:Nat):Int)∧(∃z,AM.look l4 3=.int .i64 z)∧evω env (.loop lp5_0) (fset 71 lk) hk=seqA (evω env (.loop lp5_0)) (seqA (evω env kt5_0) (blockA 1 (blockA 2 (evω env (.loop lp5_1) (fset 71 l4) hk)))):=by
     refine⟨?_,?_,?_,?_,?_,?_⟩
     rotate_left 5
     · conv=>lhs; rw[w_loop]; unfold lp5_0
       simp -implicitDefEqProofs (maxSteps:=1000000) only[k1,k3,k4,L,hlen,eq_true hc,cix,co,cl3,cl4,n3,n4,XS,XT,XF,AV.cells,Nat.reduceAdd,Nat.reduceLT,Nat.reduceEqDiff,↓reduceIte,Nat.reduceLeDiff]
       rfl
     · simp[Keep,AM.look]
     · simp[AM.look,k4]
     · simp[AM.look]
     · simp[AM.look]
   obtain⟨l4',q1,q4,q5,⟨z4,q3⟩,hgo⟩:=key
   have q1':=(q1 1 (by simp)).trans k1
   obtain⟨l5,z5,hin,r1,r3⟩:=biBlocks cell hfv hC q1' q4 q5 q3
   rw[hgo,hin]
   have r4:=(r1 4 (by simp)).trans q4
   have key:∃l',Keep [1] l' l5∧AM.look l' 4=.int .i64 ((k+1:Nat):Int)∧AM.look l' 3=.int .i64 z5∧seqA (evω env (.loop lp5_0)) (seqA (evω env kt5_0) (blockA 1 (blockA 2 (.ok (.exit 2) (fset 71 l5) hk))))=evω env (.loop lp5_0) (fset 71 l') hk:=by
     refine⟨?_,?_,?_,?_,?_⟩
     rotate_left 4
     · conv=>lhs; unfold kt5_0
       simp -implicitDefEqProofs (maxSteps:=1000000) only[r4,w1,XS,XT,XF,AV.cells,Nat.reduceAdd,Nat.reduceLT,Nat.reduceEqDiff,↓reduceIte,Nat.reduceLeDiff]
       rfl
     · simp[Keep,AM.look]
     · simp[AM.look]
     · simp[AM.look,r3]
   obtain⟨l',t1,t4,t3,hgo2⟩:=key
   exact⟨l',hk,⟨rfl,t1.trans ((r1.sub (by simp)).trans (q1.trans kp)),t4,z5,t3⟩,hgo2⟩
 · rintro lk hk ⟨rfl,kp,k4,z,k3⟩
   have k1:=(kp 1 (by simp)).trans l1
   have hc:¬ ((Cs.length:Int) < (Cs.length:Int)):=by omega
   have key:∃l',Keep [1] l' lk∧AM.look l' 3=.int .i64 z∧evω env (.loop lp5_0) (fset 71 lk) hk=.ok (.exit 0) (fset 71 l') hk:=by
     refine⟨?_,?_,?_,?_⟩
     rotate_left 3
     · conv=>lhs; rw[w_loop]; unfold lp5_0
       simp -implicitDefEqProofs (maxSteps:=1000000) only[k1,k3,k4,L,hlen,eq_false hc,XS,XT,XF,AV.cells,Nat.reduceAdd,Nat.reduceLT,Nat.reduceEqDiff,↓reduceIte,Nat.reduceLeDiff]
       rfl
     · simp[Keep,AM.look]
     · simp[AM.look,k3]
   obtain⟨l',q1,q3,hgo⟩:=key
   exact⟨l',z,hgo,q1.trans kp,q3⟩
set_option maxHeartbeats 8000000 in
theorem Big15_any {h:Heap} {x:AV} {M:MModu} (hx:ModR h x M) (hs:StrB M):∃b h',callω env 5 [x] h=.ok (.bool b) h'∧Grow h h'∧(b=false→ModOk M):=by
 obtain⟨gv,fv,rfl,hgv,hfv⟩:=hx
 have o1:=hgv.ok
 have o2:=hfv.ok
 have n2:=hfv.len
 have g1:Grow h (h.push (.row [(AV.agg [gv,fv])] 2)):=Grow.push h _
 have c1:(h.push (.row [(AV.agg [gv,fv])] 2)).get h.next=some (.row [(AV.agg [gv,fv])] 2):=Heap.get_push_eq h _
 have hp:h.next < (h.push (.row [(AV.agg [gv,fv])] 2)).next:=Nat.lt_succ_self _
 have LM:loadA ty25 (.ptr h.next 0 0) (h.push (.row [(AV.agg [gv,fv])] 2))=some (AV.agg [gv,fv]):=by rw[load_old c1]; rfl
 have L1:loadA ty23 (.ptr h.next 0 1) (h.push (.row [(AV.agg [gv,fv])] 2))=some fv:=by rw[load_old c1]; rfl
 have xR:ModR (h.push (.row [(AV.agg [gv,fv])] 2)) (AV.agg [gv,fv]) M:=⟨gv,fv,rfl,GlobsR.stays g1.kp hgv,CodesR.stays g1.kp hfv⟩
 obtain⟨b6,h2,eb,g2⟩:=Big06_any xR
 have g12:=g1.trans g2
 have c2:h2.get h.next=some (.row [(AV.agg [gv,fv])] 2):=(g2.get _ hp).trans c1
 have LM2:loadA ty25 (.ptr h.next 0 0) h2=some (AV.agg [gv,fv]):=by rw[load_old c2]; rfl
 obtain⟨e,h3,ee,g3,hok⟩:=Check_ok (ModR.stays g2.kp xR) hs
 have g13:=g12.trans g3
 have key:∃l,AM.look l 1=.ptr h.next 0 0∧AM.look l 4=.int .i64 ((0:Nat):Int)∧AM.look l 3=.int .i64 0∧callω env 5 [(AV.agg [gv,fv])] h=afterBody env [.tmp 2] (seqA (evω env kt5_1) (blockA 0 (evω env (.loop lp5_0) (fset 71 l) (h.push (.row [(AV.agg [gv,fv])] 2))))):=by
   refine⟨?_,?_,?_,?_,?_⟩
   rotate_left 4
   · rw[pl5.call h (by simp)]; unfold c5
     simp -implicitDefEqProofs (maxSteps:=1000000) only[o1,o2,XS,XT,XF,AV.cells,Nat.reduceAdd,Nat.reduceLT,Nat.reduceEqDiff,↓reduceIte,Nat.reduceLeDiff]
     rfl
   all_goals simp[AM.look]
 obtain⟨l,k1,k4,k3,hgo⟩:=key
 obtain⟨l2,z,er,kp,r3⟩:=biFuncs c1 (CodesR.stays g1.kp hfv) k1 k4 k3
 have t1:=(kp 1 (by simp)).trans k1
 by_cases q1:1000 < z
 · refine⟨true,(h.push (.row [(AV.agg [gv,fv])] 2)),?_,g1,fun hh=>by cases hh⟩
   rw[hgo,er]
   unfold kt5_1
   simp -implicitDefEqProofs (maxSteps:=1000000) only[t1,r3,eq_true q1,XS,XT,XF,AV.cells,Nat.reduceAdd,Nat.reduceLT,Nat.reduceEqDiff,↓reduceIte,Nat.reduceLeDiff]
 by_cases q2:(12:Int) < (M.funcs.length:Int)
 · refine⟨true,(h.push (.row [(AV.agg [gv,fv])] 2)),?_,g1,fun hh=>by cases hh⟩
   rw[hgo,er]
   unfold kt5_1
   simp -implicitDefEqProofs (maxSteps:=1000000) only[t1,r3,eq_false q1,L1,n2,eq_true q2,XS,XT,XF,AV.cells,Nat.reduceAdd,Nat.reduceLT,Nat.reduceEqDiff,↓reduceIte,Nat.reduceLeDiff]
 cases b6 with
 | true =>
   refine⟨true,h2,?_,g12,fun hh=>by cases hh⟩
   rw[hgo,er]
   unfold kt5_1
   simp -implicitDefEqProofs (maxSteps:=1000000) only[t1,r3,eq_false q1,L1,n2,eq_false q2,LM,eb,XS,XT,XF,AV.cells,Nat.reduceAdd,Nat.reduceLT,Nat.reduceEqDiff,↓reduceIte,Nat.reduceLeDiff]
 | false =>
   refine⟨!decide (e=0),h3,?_,g13,fun hh=>hok (by simpa using hh)⟩
   rw[hgo,er]
   unfold kt5_1
   simp -implicitDefEqProofs (maxSteps:=1000000) only[t1,r3,eq_false q1,L1,n2,eq_false q2,LM,eb,LM2,ee,XS,XT,XF,AV.cells,Nat.reduceAdd,Nat.reduceLT,Nat.reduceEqDiff,↓reduceIte,Nat.reduceLeDiff]
end Go.Proofs.AmEnv
namespace Go.Proofs.AmEnv
open Go Go.AM
def binD (s:List UInt8) (a b:Int):MInstr:=⟨3,1,0,a,b,0,s,[]⟩
theorem buildBin (s:List UInt8) (a b:Int):buildD env ty42 [(0,.int .i64 3),(1,.int .i64 1),(6,.str s),(3,.int .i64 a),(4,.int .i64 b)]=some (AV.agg [.int .i64 3,.int .i64 1,.int .i64 0,.int .i64 a,.int .i64 b,.int .i64 0,.str s,.nilsl]):=rfl
theorem bin_ok (s:List UInt8) (a b:Int) (h:Heap):∃x h',callω env 17 [.str s,.int .i64 a,.int .i64 b] h=.ok x h'∧InstrR h' x (binD s a b)∧Grow h h':=by
 have c1:(h.push (.row [(AV.agg [.int .i64 0,.int .i64 0,.int .i64 0,.int .i64 0,.int .i64 0,.int .i64 0,.str [],.nilsl])] 8)).get h.next=some (.row [(AV.agg [.int .i64 0,.int .i64 0,.int .i64 0,.int .i64 0,.int .i64 0,.int .i64 0,.str [],.nilsl])] 8):=Heap.get_push_eq h _
 have st:storeA ty42 (.ptr h.next 0 0) (AV.agg [.int .i64 3,.int .i64 1,.int .i64 0,.int .i64 a,.int .i64 b,.int .i64 0,.str s,.nilsl]) (h.push (.row [(AV.agg [.int .i64 0,.int .i64 0,.int .i64 0,.int .i64 0,.int .i64 0,.int .i64 0,.str [],.nilsl])] 8))=some ((h.push (.row [(AV.agg [.int .i64 0,.int .i64 0,.int .i64 0,.int .i64 0,.int .i64 0,.int .i64 0,.str [],.nilsl])] 8)).set h.next (.row [(AV.agg [.int .i64 3,.int .i64 1,.int .i64 0,.int .i64 a,.int .i64 b,.int .i64 0,.str s,.nilsl])] 8)):=by
   rw[store_old c1 rfl (by decide) (by decide) rfl]; rfl
 have ld:loadA ty42 (.ptr h.next 0 0) ((h.push (.row [(AV.agg [.int .i64 0,.int .i64 0,.int .i64 0,.int .i64 0,.int .i64 0,.int .i64 0,.str [],.nilsl])] 8)).set h.next (.row [(AV.agg [.int .i64 3,.int .i64 1,.int .i64 0,.int .i64 a,.int .i64 b,.int .i64 0,.str s,.nilsl])] 8))=some (AV.agg [.int .i64 3,.int .i64 1,.int .i64 0,.int .i64 a,.int .i64 b,.int .i64 0,.str s,.nilsl]):=by rw[load_set c1]; rfl
 refine⟨(AV.agg [.int .i64 3,.int .i64 1,.int .i64 0,.int .i64 a,.int .i64 b,.int .i64 0,.str s,.nilsl]),((h.push (.row [(AV.agg [.int .i64 0,.int .i64 0,.int .i64 0,.int .i64 0,.int .i64 0,.int .i64 0,.str [],.nilsl])] 8)).set h.next (.row [(AV.agg [.int .i64 3,.int .i64 1,.int .i64 0,.int .i64 a,.int .i64 b,.int .i64 0,.str s,.nilsl])] 8)),?_,⟨.nilsl,rfl,⟨⟨[],Sl.nil,All2.nil⟩,by simp[binD],by simp[binD]⟩⟩,(Grow.push h _).set _ (Nat.le_refl _)⟩
 rw[pl17.call h (by simp)]
 unfold c17
 simp -implicitDefEqProofs (maxSteps:=1000000) only[buildBin,st,ld,res_cell ti42,XS,XT,XF,AV.cells,Nat.reduceAdd,Nat.reduceLT,Nat.reduceEqDiff,↓reduceIte,Nat.reduceLeDiff]
theorem p_bs3 {fr:Tr} {h:Heap} {call:CallF}:evOp env call (.buildSlice 28 3 #[(0,.const (.int .i64 1)),(1,.const (.int .i64 1)),(2,.const (.int .i64 1))]) fr h=.ok (.msl h.next 0 3 1) (h.push (.row ([1,1,1].map (AV.int .i64)) 1)):=rfl
theorem buildEnd3:buildD env ty38 [(0,.int .i64 3)]=some (.agg [.int .i64 3,.int .i64 0,.int .i64 0,.int .i64 0]):=rfl
theorem buildCode4 {s:List UInt8} {a:Int} {v w:AV} (hv:v.cells=[v]) (ho:okCell v=true) (hw:w.cells=[w]) (hwo:okCell w=true):buildD env ty31 [(0,.str s),(1,.int .i64 a),(3,v),(4,w)]=some (.agg [.str s,.int .i64 a,.int .i64 0,v,w]):=by
 refine congrArg (Option.map AV.agg) (a₂:=some _) ?_
 refine (fill_cons (cells:=[.str [],.int .i64 0,.int .i64 0,.nilsl,.nilsl]) (q:=(0,1)) rfl rfl (show 0+1≤5 by decide) rfl).trans ?_
 refine (fill_cons (cells:=[.str s,.int .i64 0,.int .i64 0,.nilsl,.nilsl]) (q:=(1,1)) rfl rfl (show 1+1≤5 by decide) rfl).trans ?_
 refine (fill_cons (cells:=[.str s,.int .i64 a,.int .i64 0,.nilsl,.nilsl]) (q:=(3,1)) rfl (by rw[hv]; rfl) (show 3+1≤5 by decide) (by rw[hv,okCells_cons,ho]; rfl)).trans ?_
 rw[hv]
 refine (fill_cons (cells:=[.str s,.int .i64 a,.int .i64 0,v,.nilsl]) (q:=(4,1)) rfl (by rw[hw]; rfl) (show 4+1≤5 by decide) (by rw[hw,okCells_cons,hwo]; rfl)).trans ?_
 rw[hw]; rfl
theorem one_ls {α:Type} {R:Heap→AV→α→Prop} {sz bz:Nat} {h:Heap} {id:Nat} {x:AV} {X:α} (hg:h.get id=some (.row [x] sz)) (hid:id < h.next) (hc:x.cells.length=sz) (hx:R h x X) (hb:bz≤1000):Ls R sz bz h (.msl id 0 1 sz) [X]:=by
 refine⟨⟨[x],Sl.row hg rfl hid fun i y hy=>?_,rfl,fun i y Y hy hY=>?_⟩,by simp; omega,by simp⟩
 · cases i with
   | zero=>cases hy; exact hc
   | succ i=>simp at hy
 · cases i with
   | zero=>cases hy; cases hY; exact hx
   | succ i=>simp at hy
set_option maxHeartbeats 16000000 in
theorem turns_ok {h:Heap} {x:AV} {I:MInstr} (hx:InstrR h x I):∃x' h',callω env 16 [x] h=.ok x' h'∧InstrR h' x' (canonI I)∧Grow h h':=by
 obtain⟨av,rfl,hav⟩:=hx
 have o1:=hav.ok
 have n1:(h.push (.row [(AV.agg [.int .i64 I.op,.int .i64 I.ty,.int .i64 I.dst,.int .i64 I.a,.int .i64 I.b,.int .i64 I.n,.str I.s,av])] 8)).next=h.next+1:=rfl
 have n2:((h.push (.row [(AV.agg [.int .i64 I.op,.int .i64 I.ty,.int .i64 I.dst,.int .i64 I.a,.int .i64 I.b,.int .i64 I.n,.str I.s,av])] 8)).push (.row [(AV.agg [.int .i64 0,.int .i64 0,.int .i64 0,.int .i64 0,.int .i64 0,.int .i64 0,.str [],.nilsl])] 8)).next=h.next+1+1:=rfl
 have n3:(((h.push (.row [(AV.agg [.int .i64 I.op,.int .i64 I.ty,.int .i64 I.dst,.int .i64 I.a,.int .i64 I.b,.int .i64 I.n,.str I.s,av])] 8)).push (.row [(AV.agg [.int .i64 0,.int .i64 0,.int .i64 0,.int .i64 0,.int .i64 0,.int .i64 0,.str [],.nilsl])] 8)).push (.row ([1,1,1].map (AV.int .i64)) 1)).next=h.next+1+1+1:=rfl
 have n4:((((h.push (.row [(AV.agg [.int .i64 I.op,.int .i64 I.ty,.int .i64 I.dst,.int .i64 I.a,.int .i64 I.b,.int .i64 I.n,.str I.s,av])] 8)).push (.row [(AV.agg [.int .i64 0,.int .i64 0,.int .i64 0,.int .i64 0,.int .i64 0,.int .i64 0,.str [],.nilsl])] 8)).push (.row ([1,1,1].map (AV.int .i64)) 1)).push (.row [(AV.agg [.int .i64 I.op,.int .i64 I.ty,.int .i64 I.dst,.int .i64 I.a,.int .i64 I.b,.int .i64 I.n,.str I.s,av])] 8)).next=h.next+1+1+1+1:=rfl
 have n5:(((((h.push (.row [(AV.agg [.int .i64 I.op,.int .i64 I.ty,.int .i64 I.dst,.int .i64 I.a,.int .i64 I.b,.int .i64 I.n,.str I.s,av])] 8)).push (.row [(AV.agg [.int .i64 0,.int .i64 0,.int .i64 0,.int .i64 0,.int .i64 0,.int .i64 0,.str [],.nilsl])] 8)).push (.row ([1,1,1].map (AV.int .i64)) 1)).push (.row [(AV.agg [.int .i64 I.op,.int .i64 I.ty,.int .i64 I.dst,.int .i64 I.a,.int .i64 I.b,.int .i64 I.n,.str I.s,av])] 8)).push (.row [(AV.agg [.msl ((((h.push (.row [(AV.agg [.int .i64 I.op,.int .i64 I.ty,.int .i64 I.dst,.int .i64 I.a,.int .i64 I.b,.int .i64 I.n,.str I.s,av])] 8)).push (.row [(AV.agg [.int .i64 0,.int .i64 0,.int .i64 0,.int .i64 0,.int .i64 0,.int .i64 0,.str [],.nilsl])] 8)).push (.row ([1,1,1].map (AV.int .i64)) 1))).next 0 1 8,.int .i64 3,.int .i64 0,.int .i64 0,.int .i64 0])] 5)).next=h.next+1+1+1+1+1:=rfl
 have g1:Grow h (h.push (.row [(AV.agg [.int .i64 I.op,.int .i64 I.ty,.int .i64 I.dst,.int .i64 I.a,.int .i64 I.b,.int .i64 I.n,.str I.s,av])] 8)):=Grow.push h _
 have g2:Grow (h.push (.row [(AV.agg [.int .i64 I.op,.int .i64 I.ty,.int .i64 I.dst,.int .i64 I.a,.int .i64 I.b,.int .i64 I.n,.str I.s,av])] 8)) ((h.push (.row [(AV.agg [.int .i64 I.op,.int .i64 I.ty,.int .i64 I.dst,.int .i64 I.a,.int .i64 I.b,.int .i64 I.n,.str I.s,av])] 8)).push (.row [(AV.agg [.int .i64 0,.int .i64 0,.int .i64 0,.int .i64 0,.int .i64 0,.int .i64 0,.str [],.nilsl])] 8)):=Grow.push _ _
 have g3:Grow ((h.push (.row [(AV.agg [.int .i64 I.op,.int .i64 I.ty,.int .i64 I.dst,.int .i64 I.a,.int .i64 I.b,.int .i64 I.n,.str I.s,av])] 8)).push (.row [(AV.agg [.int .i64 0,.int .i64 0,.int .i64 0,.int .i64 0,.int .i64 0,.int .i64 0,.str [],.nilsl])] 8)) (((h.push (.row [(AV.agg [.int .i64 I.op,.int .i64 I.ty,.int .i64 I.dst,.int .i64 I.a,.int .i64 I.b,.int .i64 I.n,.str I.s,av])] 8)).push (.row [(AV.agg [.int .i64 0,.int .i64 0,.int .i64 0,.int .i64 0,.int .i64 0,.int .i64 0,.str [],.nilsl])] 8)).push (.row ([1,1,1].map (AV.int .i64)) 1)):=Grow.push _ _
 have g4:Grow (((h.push (.row [(AV.agg [.int .i64 I.op,.int .i64 I.ty,.int .i64 I.dst,.int .i64 I.a,.int .i64 I.b,.int .i64 I.n,.str I.s,av])] 8)).push (.row [(AV.agg [.int .i64 0,.int .i64 0,.int .i64 0,.int .i64 0,.int .i64 0,.int .i64 0,.str [],.nilsl])] 8)).push (.row ([1,1,1].map (AV.int .i64)) 1)) ((((h.push (.row [(AV.agg [.int .i64 I.op,.int .i64 I.ty,.int .i64 I.dst,.int .i64 I.a,.int .i64 I.b,.int .i64 I.n,.str I.s,av])] 8)).push (.row [(AV.agg [.int .i64 0,.int .i64 0,.int .i64 0,.int .i64 0,.int .i64 0,.int .i64 0,.str [],.nilsl])] 8)).push (.row ([1,1,1].map (AV.int .i64)) 1)).push (.row [(AV.agg [.int .i64 I.op,.int .i64 I.ty,.int .i64 I.dst,.int .i64 I.a,.int .i64 I.b,.int .i64 I.n,.str I.s,av])] 8)):=Grow.push _ _
 have g5:Grow ((((h.push (.row [(AV.agg [.int .i64 I.op,.int .i64 I.ty,.int .i64 I.dst,.int .i64 I.a,.int .i64 I.b,.int .i64 I.n,.str I.s,av])] 8)).push (.row [(AV.agg [.int .i64 0,.int .i64 0,.int .i64 0,.int .i64 0,.int .i64 0,.int .i64 0,.str [],.nilsl])] 8)).push (.row ([1,1,1].map (AV.int .i64)) 1)).push (.row [(AV.agg [.int .i64 I.op,.int .i64 I.ty,.int .i64 I.dst,.int .i64 I.a,.int .i64 I.b,.int .i64 I.n,.str I.s,av])] 8)) (((((h.push (.row [(AV.agg [.int .i64 I.op,.int .i64 I.ty,.int .i64 I.dst,.int .i64 I.a,.int .i64 I.b,.int .i64 I.n,.str I.s,av])] 8)).push (.row [(AV.agg [.int .i64 0,.int .i64 0,.int .i64 0,.int .i64 0,.int .i64 0,.int .i64 0,.str [],.nilsl])] 8)).push (.row ([1,1,1].map (AV.int .i64)) 1)).push (.row [(AV.agg [.int .i64 I.op,.int .i64 I.ty,.int .i64 I.dst,.int .i64 I.a,.int .i64 I.b,.int .i64 I.n,.str I.s,av])] 8)).push (.row [(AV.agg [.msl ((((h.push (.row [(AV.agg [.int .i64 I.op,.int .i64 I.ty,.int .i64 I.dst,.int .i64 I.a,.int .i64 I.b,.int .i64 I.n,.str I.s,av])] 8)).push (.row [(AV.agg [.int .i64 0,.int .i64 0,.int .i64 0,.int .i64 0,.int .i64 0,.int .i64 0,.str [],.nilsl])] 8)).push (.row ([1,1,1].map (AV.int .i64)) 1))).next 0 1 8,.int .i64 3,.int .i64 0,.int .i64 0,.int .i64 0])] 5)):=Grow.push _ _
 have g25:=(g3.trans g4).trans g5
 have g15:=(g1.trans g2).trans g25
 have ci:(((h.push (.row [(AV.agg [.int .i64 I.op,.int .i64 I.ty,.int .i64 I.dst,.int .i64 I.a,.int .i64 I.b,.int .i64 I.n,.str I.s,av])] 8)).push (.row [(AV.agg [.int .i64 0,.int .i64 0,.int .i64 0,.int .i64 0,.int .i64 0,.int .i64 0,.str [],.nilsl])] 8)).push (.row ([1,1,1].map (AV.int .i64)) 1)).get h.next=some (.row [(AV.agg [.int .i64 I.op,.int .i64 I.ty,.int .i64 I.dst,.int .i64 I.a,.int .i64 I.b,.int .i64 I.n,.str I.s,av])] 8):=(g3.get _ (by omega)).trans ((g2.get _ (by omega)).trans (Heap.get_push_eq h _))
 have LI:loadA ty42 (.ptr h.next 0 0) (((h.push (.row [(AV.agg [.int .i64 I.op,.int .i64 I.ty,.int .i64 I.dst,.int .i64 I.a,.int .i64 I.b,.int .i64 I.n,.str I.s,av])] 8)).push (.row [(AV.agg [.int .i64 0,.int .i64 0,.int .i64 0,.int .i64 0,.int .i64 0,.int .i64 0,.str [],.nilsl])] 8)).push (.row ([1,1,1].map (AV.int .i64)) 1))=some (AV.agg [.int .i64 I.op,.int .i64 I.ty,.int .i64 I.dst,.int .i64 I.a,.int .i64 I.b,.int .i64 I.n,.str I.s,av]):=by rw[load_old ci]; rfl
 have okI:okCells (AV.agg [.int .i64 I.op,.int .i64 I.ty,.int .i64 I.dst,.int .i64 I.a,.int .i64 I.b,.int .i64 I.n,.str I.s,av]).cells=true:=by
   show okCells [_,_,_,_,_,_,_,av]=true
   simp only[okCells_cons,okCells_nil,ok_int,ok_str,o1,Bool.and_self]
 have eb1:=bsR_ok (h:=(((h.push (.row [(AV.agg [.int .i64 I.op,.int .i64 I.ty,.int .i64 I.dst,.int .i64 I.a,.int .i64 I.b,.int .i64 I.n,.str I.s,av])] 8)).push (.row [(AV.agg [.int .i64 0,.int .i64 0,.int .i64 0,.int .i64 0,.int .i64 0,.int .i64 0,.str [],.nilsl])] 8)).push (.row ([1,1,1].map (AV.int .i64)) 1))) (v:=(AV.agg [.int .i64 I.op,.int .i64 I.ty,.int .i64 I.dst,.int .i64 I.a,.int .i64 I.b,.int .i64 I.n,.str I.s,av])) (sz:=8) rfl okI
 have ebb:=buildBlock (v:=.msl (((h.push (.row [(AV.agg [.int .i64 I.op,.int .i64 I.ty,.int .i64 I.dst,.int .i64 I.a,.int .i64 I.b,.int .i64 I.n,.str I.s,av])] 8)).push (.row [(AV.agg [.int .i64 0,.int .i64 0,.int .i64 0,.int .i64 0,.int .i64 0,.int .i64 0,.str [],.nilsl])] 8)).push (.row ([1,1,1].map (AV.int .i64)) 1)).next 0 1 8) (a:=3) (b:=0) (c:=0) (d:=0) rfl rfl
 have eb2:=bsR_ok (h:=((((h.push (.row [(AV.agg [.int .i64 I.op,.int .i64 I.ty,.int .i64 I.dst,.int .i64 I.a,.int .i64 I.b,.int .i64 I.n,.str I.s,av])] 8)).push (.row [(AV.agg [.int .i64 0,.int .i64 0,.int .i64 0,.int .i64 0,.int .i64 0,.int .i64 0,.str [],.nilsl])] 8)).push (.row ([1,1,1].map (AV.int .i64)) 1)).push (.row [(AV.agg [.int .i64 I.op,.int .i64 I.ty,.int .i64 I.dst,.int .i64 I.a,.int .i64 I.b,.int .i64 I.n,.str I.s,av])] 8))) (v:=(AV.agg [.msl ((((h.push (.row [(AV.agg [.int .i64 I.op,.int .i64 I.ty,.int .i64 I.dst,.int .i64 I.a,.int .i64 I.b,.int .i64 I.n,.str I.s,av])] 8)).push (.row [(AV.agg [.int .i64 0,.int .i64 0,.int .i64 0,.int .i64 0,.int .i64 0,.int .i64 0,.str [],.nilsl])] 8)).push (.row ([1,1,1].map (AV.int .i64)) 1))).next 0 1 8,.int .i64 3,.int .i64 0,.int .i64 0,.int .i64 0])) (sz:=5) rfl rfl
 have ebc:=buildCode4 (s:=mainName) (a:=1) (v:=.msl ((h.push (.row [(AV.agg [.int .i64 I.op,.int .i64 I.ty,.int .i64 I.dst,.int .i64 I.a,.int .i64 I.b,.int .i64 I.n,.str I.s,av])] 8)).push (.row [(AV.agg [.int .i64 0,.int .i64 0,.int .i64 0,.int .i64 0,.int .i64 0,.int .i64 0,.str [],.nilsl])] 8)).next 0 3 1) (w:=.msl ((((h.push (.row [(AV.agg [.int .i64 I.op,.int .i64 I.ty,.int .i64 I.dst,.int .i64 I.a,.int .i64 I.b,.int .i64 I.n,.str I.s,av])] 8)).push (.row [(AV.agg [.int .i64 0,.int .i64 0,.int .i64 0,.int .i64 0,.int .i64 0,.int .i64 0,.str [],.nilsl])] 8)).push (.row ([1,1,1].map (AV.int .i64)) 1)).push (.row [(AV.agg [.int .i64 I.op,.int .i64 I.ty,.int .i64 I.dst,.int .i64 I.a,.int .i64 I.b,.int .i64 I.n,.str I.s,av])] 8)).next 0 1 5) rfl rfl rfl rfl
 have hI5:InstrR (((((h.push (.row [(AV.agg [.int .i64 I.op,.int .i64 I.ty,.int .i64 I.dst,.int .i64 I.a,.int .i64 I.b,.int .i64 I.n,.str I.s,av])] 8)).push (.row [(AV.agg [.int .i64 0,.int .i64 0,.int .i64 0,.int .i64 0,.int .i64 0,.int .i64 0,.str [],.nilsl])] 8)).push (.row ([1,1,1].map (AV.int .i64)) 1)).push (.row [(AV.agg [.int .i64 I.op,.int .i64 I.ty,.int .i64 I.dst,.int .i64 I.a,.int .i64 I.b,.int .i64 I.n,.str I.s,av])] 8)).push (.row [(AV.agg [.msl ((((h.push (.row [(AV.agg [.int .i64 I.op,.int .i64 I.ty,.int .i64 I.dst,.int .i64 I.a,.int .i64 I.b,.int .i64 I.n,.str I.s,av])] 8)).push (.row [(AV.agg [.int .i64 0,.int .i64 0,.int .i64 0,.int .i64 0,.int .i64 0,.int .i64 0,.str [],.nilsl])] 8)).push (.row ([1,1,1].map (AV.int .i64)) 1))).next 0 1 8,.int .i64 3,.int .i64 0,.int .i64 0,.int .i64 0])] 5)) (AV.agg [.int .i64 I.op,.int .i64 I.ty,.int .i64 I.dst,.int .i64 I.a,.int .i64 I.b,.int .i64 I.n,.str I.s,av]) I:=⟨av,rfl,IntsR.stays g15.kp hav⟩
 have r5:(((((h.push (.row [(AV.agg [.int .i64 I.op,.int .i64 I.ty,.int .i64 I.dst,.int .i64 I.a,.int .i64 I.b,.int .i64 I.n,.str I.s,av])] 8)).push (.row [(AV.agg [.int .i64 0,.int .i64 0,.int .i64 0,.int .i64 0,.int .i64 0,.int .i64 0,.str [],.nilsl])] 8)).push (.row ([1,1,1].map (AV.int .i64)) 1)).push (.row [(AV.agg [.int .i64 I.op,.int .i64 I.ty,.int .i64 I.dst,.int .i64 I.a,.int .i64 I.b,.int .i64 I.n,.str I.s,av])] 8)).push (.row [(AV.agg [.msl ((((h.push (.row [(AV.agg [.int .i64 I.op,.int .i64 I.ty,.int .i64 I.dst,.int .i64 I.a,.int .i64 I.b,.int .i64 I.n,.str I.s,av])] 8)).push (.row [(AV.agg [.int .i64 0,.int .i64 0,.int .i64 0,.int .i64 0,.int .i64 0,.int .i64 0,.str [],.nilsl])] 8)).push (.row ([1,1,1].map (AV.int .i64)) 1))).next 0 1 8,.int .i64 3,.int .i64 0,.int .i64 0,.int .i64 0])] 5)).get ((h.push (.row [(AV.agg [.int .i64 I.op,.int .i64 I.ty,.int .i64 I.dst,.int .i64 I.a,.int .i64 I.b,.int .i64 I.n,.str I.s,av])] 8)).push (.row [(AV.agg [.int .i64 0,.int .i64 0,.int .i64 0,.int .i64 0,.int .i64 0,.int .i64 0,.str [],.nilsl])] 8)).next=some (.row ([1,1,1].map (AV.int .i64)) 1):=(g5.get _ (by omega)).trans ((g4.get _ (by omega)).trans (Heap.get_push_eq _ _))
 have i5:(((((h.push (.row [(AV.agg [.int .i64 I.op,.int .i64 I.ty,.int .i64 I.dst,.int .i64 I.a,.int .i64 I.b,.int .i64 I.n,.str I.s,av])] 8)).push (.row [(AV.agg [.int .i64 0,.int .i64 0,.int .i64 0,.int .i64 0,.int .i64 0,.int .i64 0,.str [],.nilsl])] 8)).push (.row ([1,1,1].map (AV.int .i64)) 1)).push (.row [(AV.agg [.int .i64 I.op,.int .i64 I.ty,.int .i64 I.dst,.int .i64 I.a,.int .i64 I.b,.int .i64 I.n,.str I.s,av])] 8)).push (.row [(AV.agg [.msl ((((h.push (.row [(AV.agg [.int .i64 I.op,.int .i64 I.ty,.int .i64 I.dst,.int .i64 I.a,.int .i64 I.b,.int .i64 I.n,.str I.s,av])] 8)).push (.row [(AV.agg [.int .i64 0,.int .i64 0,.int .i64 0,.int .i64 0,.int .i64 0,.int .i64 0,.str [],.nilsl])] 8)).push (.row ([1,1,1].map (AV.int .i64)) 1))).next 0 1 8,.int .i64 3,.int .i64 0,.int .i64 0,.int .i64 0])] 5)).get (((h.push (.row [(AV.agg [.int .i64 I.op,.int .i64 I.ty,.int .i64 I.dst,.int .i64 I.a,.int .i64 I.b,.int .i64 I.n,.str I.s,av])] 8)).push (.row [(AV.agg [.int .i64 0,.int .i64 0,.int .i64 0,.int .i64 0,.int .i64 0,.int .i64 0,.str [],.nilsl])] 8)).push (.row ([1,1,1].map (AV.int .i64)) 1)).next=some (.row [(AV.agg [.int .i64 I.op,.int .i64 I.ty,.int .i64 I.dst,.int .i64 I.a,.int .i64 I.b,.int .i64 I.n,.str I.s,av])] 8):=(g5.get _ (by omega)).trans (Heap.get_push_eq _ _)
 have b5:(((((h.push (.row [(AV.agg [.int .i64 I.op,.int .i64 I.ty,.int .i64 I.dst,.int .i64 I.a,.int .i64 I.b,.int .i64 I.n,.str I.s,av])] 8)).push (.row [(AV.agg [.int .i64 0,.int .i64 0,.int .i64 0,.int .i64 0,.int .i64 0,.int .i64 0,.str [],.nilsl])] 8)).push (.row ([1,1,1].map (AV.int .i64)) 1)).push (.row [(AV.agg [.int .i64 I.op,.int .i64 I.ty,.int .i64 I.dst,.int .i64 I.a,.int .i64 I.b,.int .i64 I.n,.str I.s,av])] 8)).push (.row [(AV.agg [.msl ((((h.push (.row [(AV.agg [.int .i64 I.op,.int .i64 I.ty,.int .i64 I.dst,.int .i64 I.a,.int .i64 I.b,.int .i64 I.n,.str I.s,av])] 8)).push (.row [(AV.agg [.int .i64 0,.int .i64 0,.int .i64 0,.int .i64 0,.int .i64 0,.int .i64 0,.str [],.nilsl])] 8)).push (.row ([1,1,1].map (AV.int .i64)) 1))).next 0 1 8,.int .i64 3,.int .i64 0,.int .i64 0,.int .i64 0])] 5)).get ((((h.push (.row [(AV.agg [.int .i64 I.op,.int .i64 I.ty,.int .i64 I.dst,.int .i64 I.a,.int .i64 I.b,.int .i64 I.n,.str I.s,av])] 8)).push (.row [(AV.agg [.int .i64 0,.int .i64 0,.int .i64 0,.int .i64 0,.int .i64 0,.int .i64 0,.str [],.nilsl])] 8)).push (.row ([1,1,1].map (AV.int .i64)) 1)).push (.row [(AV.agg [.int .i64 I.op,.int .i64 I.ty,.int .i64 I.dst,.int .i64 I.a,.int .i64 I.b,.int .i64 I.n,.str I.s,av])] 8)).next=some (.row [(AV.agg [.msl ((((h.push (.row [(AV.agg [.int .i64 I.op,.int .i64 I.ty,.int .i64 I.dst,.int .i64 I.a,.int .i64 I.b,.int .i64 I.n,.str I.s,av])] 8)).push (.row [(AV.agg [.int .i64 0,.int .i64 0,.int .i64 0,.int .i64 0,.int .i64 0,.int .i64 0,.str [],.nilsl])] 8)).push (.row ([1,1,1].map (AV.int .i64)) 1))).next 0 1 8,.int .i64 3,.int .i64 0,.int .i64 0,.int .i64 0])] 5):=Heap.get_push_eq _ _
 have hIs:InstrsR (((((h.push (.row [(AV.agg [.int .i64 I.op,.int .i64 I.ty,.int .i64 I.dst,.int .i64 I.a,.int .i64 I.b,.int .i64 I.n,.str I.s,av])] 8)).push (.row [(AV.agg [.int .i64 0,.int .i64 0,.int .i64 0,.int .i64 0,.int .i64 0,.int .i64 0,.str [],.nilsl])] 8)).push (.row ([1,1,1].map (AV.int .i64)) 1)).push (.row [(AV.agg [.int .i64 I.op,.int .i64 I.ty,.int .i64 I.dst,.int .i64 I.a,.int .i64 I.b,.int .i64 I.n,.str I.s,av])] 8)).push (.row [(AV.agg [.msl ((((h.push (.row [(AV.agg [.int .i64 I.op,.int .i64 I.ty,.int .i64 I.dst,.int .i64 I.a,.int .i64 I.b,.int .i64 I.n,.str I.s,av])] 8)).push (.row [(AV.agg [.int .i64 0,.int .i64 0,.int .i64 0,.int .i64 0,.int .i64 0,.int .i64 0,.str [],.nilsl])] 8)).push (.row ([1,1,1].map (AV.int .i64)) 1))).next 0 1 8,.int .i64 3,.int .i64 0,.int .i64 0,.int .i64 0])] 5)) (.msl (((h.push (.row [(AV.agg [.int .i64 I.op,.int .i64 I.ty,.int .i64 I.dst,.int .i64 I.a,.int .i64 I.b,.int .i64 I.n,.str I.s,av])] 8)).push (.row [(AV.agg [.int .i64 0,.int .i64 0,.int .i64 0,.int .i64 0,.int .i64 0,.int .i64 0,.str [],.nilsl])] 8)).push (.row ([1,1,1].map (AV.int .i64)) 1)).next 0 1 8) [I]:=one_ls i5 (by omega) rfl hI5 (by decide)
 have hB:BlockR (((((h.push (.row [(AV.agg [.int .i64 I.op,.int .i64 I.ty,.int .i64 I.dst,.int .i64 I.a,.int .i64 I.b,.int .i64 I.n,.str I.s,av])] 8)).push (.row [(AV.agg [.int .i64 0,.int .i64 0,.int .i64 0,.int .i64 0,.int .i64 0,.int .i64 0,.str [],.nilsl])] 8)).push (.row ([1,1,1].map (AV.int .i64)) 1)).push (.row [(AV.agg [.int .i64 I.op,.int .i64 I.ty,.int .i64 I.dst,.int .i64 I.a,.int .i64 I.b,.int .i64 I.n,.str I.s,av])] 8)).push (.row [(AV.agg [.msl ((((h.push (.row [(AV.agg [.int .i64 I.op,.int .i64 I.ty,.int .i64 I.dst,.int .i64 I.a,.int .i64 I.b,.int .i64 I.n,.str I.s,av])] 8)).push (.row [(AV.agg [.int .i64 0,.int .i64 0,.int .i64 0,.int .i64 0,.int .i64 0,.int .i64 0,.str [],.nilsl])] 8)).push (.row ([1,1,1].map (AV.int .i64)) 1))).next 0 1 8,.int .i64 3,.int .i64 0,.int .i64 0,.int .i64 0])] 5)) (AV.agg [.msl ((((h.push (.row [(AV.agg [.int .i64 I.op,.int .i64 I.ty,.int .i64 I.dst,.int .i64 I.a,.int .i64 I.b,.int .i64 I.n,.str I.s,av])] 8)).push (.row [(AV.agg [.int .i64 0,.int .i64 0,.int .i64 0,.int .i64 0,.int .i64 0,.int .i64 0,.str [],.nilsl])] 8)).push (.row ([1,1,1].map (AV.int .i64)) 1))).next 0 1 8,.int .i64 3,.int .i64 0,.int .i64 0,.int .i64 0]) ⟨[I],3,0,0,0⟩:=⟨_,rfl,hIs⟩
 have hC:CodeR (((((h.push (.row [(AV.agg [.int .i64 I.op,.int .i64 I.ty,.int .i64 I.dst,.int .i64 I.a,.int .i64 I.b,.int .i64 I.n,.str I.s,av])] 8)).push (.row [(AV.agg [.int .i64 0,.int .i64 0,.int .i64 0,.int .i64 0,.int .i64 0,.int .i64 0,.str [],.nilsl])] 8)).push (.row ([1,1,1].map (AV.int .i64)) 1)).push (.row [(AV.agg [.int .i64 I.op,.int .i64 I.ty,.int .i64 I.dst,.int .i64 I.a,.int .i64 I.b,.int .i64 I.n,.str I.s,av])] 8)).push (.row [(AV.agg [.msl ((((h.push (.row [(AV.agg [.int .i64 I.op,.int .i64 I.ty,.int .i64 I.dst,.int .i64 I.a,.int .i64 I.b,.int .i64 I.n,.str I.s,av])] 8)).push (.row [(AV.agg [.int .i64 0,.int .i64 0,.int .i64 0,.int .i64 0,.int .i64 0,.int .i64 0,.str [],.nilsl])] 8)).push (.row ([1,1,1].map (AV.int .i64)) 1))).next 0 1 8,.int .i64 3,.int .i64 0,.int .i64 0,.int .i64 0])] 5)) (AV.agg [.str mainName,.int .i64 1,.int .i64 0,.msl (((h.push (.row [(AV.agg [.int .i64 I.op,.int .i64 I.ty,.int .i64 I.dst,.int .i64 I.a,.int .i64 I.b,.int .i64 I.n,.str I.s,av])] 8)).push (.row [(AV.agg [.int .i64 0,.int .i64 0,.int .i64 0,.int .i64 0,.int .i64 0,.int .i64 0,.str [],.nilsl])] 8))).next 0 3 1,.msl (((((h.push (.row [(AV.agg [.int .i64 I.op,.int .i64 I.ty,.int .i64 I.dst,.int .i64 I.a,.int .i64 I.b,.int .i64 I.n,.str I.s,av])] 8)).push (.row [(AV.agg [.int .i64 0,.int .i64 0,.int .i64 0,.int .i64 0,.int .i64 0,.int .i64 0,.str [],.nilsl])] 8)).push (.row ([1,1,1].map (AV.int .i64)) 1)).push (.row [(AV.agg [.int .i64 I.op,.int .i64 I.ty,.int .i64 I.dst,.int .i64 I.a,.int .i64 I.b,.int .i64 I.n,.str I.s,av])] 8))).next 0 1 5]) ⟨mainName,1,0,[1,1,1],[⟨[I],3,0,0,0⟩]⟩:=⟨_,_,rfl,IntsR.row (l:=[1,1,1]) r5 (by omega) (by simp),one_ls b5 (by omega) rfl hB (by decide)⟩
 obtain⟨x6,h6,F,ec,hco,g6,hnew⟩:=Canon_ok hC
 obtain⟨rv',bv',F1,F2,rfl,q1,q2,rfl,_⟩:=hco
 have hbv:BlocksR h6 bv' [canonB ⟨[I],3,0,0,0⟩]:=q2.r
 have e6:(((((h.push (.row [(AV.agg [.int .i64 I.op,.int .i64 I.ty,.int .i64 I.dst,.int .i64 I.a,.int .i64 I.b,.int .i64 I.n,.str I.s,av])] 8)).push (.row [(AV.agg [.int .i64 0,.int .i64 0,.int .i64 0,.int .i64 0,.int .i64 0,.int .i64 0,.str [],.nilsl])] 8)).push (.row ([1,1,1].map (AV.int .i64)) 1)).push (.row [(AV.agg [.int .i64 I.op,.int .i64 I.ty,.int .i64 I.dst,.int .i64 I.a,.int .i64 I.b,.int .i64 I.n,.str I.s,av])] 8)).push (.row [(AV.agg [.msl ((((h.push (.row [(AV.agg [.int .i64 I.op,.int .i64 I.ty,.int .i64 I.dst,.int .i64 I.a,.int .i64 I.b,.int .i64 I.n,.str I.s,av])] 8)).push (.row [(AV.agg [.int .i64 0,.int .i64 0,.int .i64 0,.int .i64 0,.int .i64 0,.int .i64 0,.str [],.nilsl])] 8)).push (.row ([1,1,1].map (AV.int .i64)) 1))).next 0 1 8,.int .i64 3,.int .i64 0,.int .i64 0,.int .i64 0])] 5)).next≤h6.next:=g6.nx
 have g7:Grow h6 ((h6.push (.row [(AV.agg [.str [],.int .i64 0,.int .i64 0,.nilsl,.nilsl])] 5)).set h6.next (.row [(AV.agg [.str mainName,.int .i64 1,.int .i64 0,rv',bv'])] 5)):=(Grow.push h6 _).set _ (Nat.le_refl _)
 have c7:(h6.push (.row [(AV.agg [.str [],.int .i64 0,.int .i64 0,.nilsl,.nilsl])] 5)).get h6.next=some (.row [(AV.agg [.str [],.int .i64 0,.int .i64 0,.nilsl,.nilsl])] 5):=Heap.get_push_eq h6 _
 have ok6:okCells (AV.agg [.str mainName,.int .i64 1,.int .i64 0,rv',bv']).cells=true:=by
   show okCells [_,_,_,rv',bv']=true
   simp only[okCells_cons,okCells_nil,ok_int,ok_str,q1.ok,q2.ok,Bool.and_self]
 have s8:storeA ty31 (.ptr h6.next 0 0) (AV.agg [.str mainName,.int .i64 1,.int .i64 0,rv',bv']) (h6.push (.row [(AV.agg [.str [],.int .i64 0,.int .i64 0,.nilsl,.nilsl])] 5))=some ((h6.push (.row [(AV.agg [.str [],.int .i64 0,.int .i64 0,.nilsl,.nilsl])] 5)).set h6.next (.row [(AV.agg [.str mainName,.int .i64 1,.int .i64 0,rv',bv'])] 5)):=by
   rw[store_old c7 rfl (by decide) (by decide) ok6]; rfl
 have L8:loadA ty29 (.ptr h6.next 0 4) ((h6.push (.row [(AV.agg [.str [],.int .i64 0,.int .i64 0,.nilsl,.nilsl])] 5)).set h6.next (.row [(AV.agg [.str mainName,.int .i64 1,.int .i64 0,rv',bv'])] 5))=some bv':=by rw[load_set c7]; rfl
 have q8:=BlockO.good.own (g7.on (BlockO.good.old q2)) q2
 obtain⟨id,es,S,xb,e⟩:=OwnL.elt (R:=BlockO) BlockO.good.fr q8 BlockO.good.nd (k:=0) (X:=canonB ⟨[I],3,0,0,0⟩) rfl
 have bix:=e.idx (E:=env) ti40 rfl
 have bl':=e.load ty36 0
 have esub:=e.sub
 obtain⟨cv,rfl,hcv⟩:=e.r
 have bl:loadA ty36 (.ptr id 0 0) ((h6.push (.row [(AV.agg [.str [],.int .i64 0,.int .i64 0,.nilsl,.nilsl])] 5)).set h6.next (.row [(AV.agg [.str mainName,.int .i64 1,.int .i64 0,rv',bv'])] 5))=some cv:=bl'.trans rfl
 obtain⟨id2,es2,S2,xi,e2⟩:=OwnL.elt (R:=InstrO) InstrO.good.fr hcv InstrO.good.nd (k:=0) (X:=canonI I) rfl
 have aix:=e2.idx (E:=env) ti42 rfl
 have al':=e2.load ty42 0
 have esub2:=e2.sub
 obtain⟨av',rfl,hav'⟩:=e2.r
 have ald:loadA ty42 (.ptr id2 0 0) ((h6.push (.row [(AV.agg [.str [],.int .i64 0,.int .i64 0,.nilsl,.nilsl])] 5)).set h6.next (.row [(AV.agg [.str mainName,.int .i64 1,.int .i64 0,rv',bv'])] 5))=some (AV.agg [.int .i64 (canonI I).op,.int .i64 (canonI I).ty,.int .i64 (canonI I).dst,.int .i64 (canonI I).a,.int .i64 (canonI I).b,.int .i64 (canonI I).n,.str (canonI I).s,av']):=al'.trans rfl
 have nb:lenSl bv'=some 1:=hbv.len
 have nc:lenSl cv=some 1:=hcv.len
 have hix0:∀(te:Nat) (x:AV) (h:Heap),idxR env te x (.int .i64 0) h=lift (indexAddrA env (.slice te) 0 x) h:=fun te x h=>rfl
 have lenR1:∀h,lenR (some 1) h=.ok (.int .i64 1) h:=fun h=>rfl
 have z8:((h6.push (.row [(AV.agg [.str [],.int .i64 0,.int .i64 0,.nilsl,.nilsl])] 5)).set h6.next (.row [(AV.agg [.str mainName,.int .i64 1,.int .i64 0,rv',bv'])] 5)).get (h.push (.row [(AV.agg [.int .i64 I.op,.int .i64 I.ty,.int .i64 I.dst,.int .i64 I.a,.int .i64 I.b,.int .i64 I.n,.str I.s,av])] 8)).next=some (.row [(AV.agg [.int .i64 0,.int .i64 0,.int .i64 0,.int .i64 0,.int .i64 0,.int .i64 0,.str [],.nilsl])] 8):=(g7.get _ (by omega)).trans ((g6.get _ (by omega)).trans ((g25.get _ (by omega)).trans (Heap.get_push_eq _ _)))
 have oka:okCells (AV.agg [.int .i64 (canonI I).op,.int .i64 (canonI I).ty,.int .i64 (canonI I).dst,.int .i64 (canonI I).a,.int .i64 (canonI I).b,.int .i64 (canonI I).n,.str (canonI I).s,av']).cells=true:=by
   show okCells [_,_,_,_,_,_,_,av']=true
   simp only[okCells_cons,okCells_nil,ok_int,ok_str,hav'.ok,Bool.and_self]
 have s9:storeA ty42 (.ptr (h.push (.row [(AV.agg [.int .i64 I.op,.int .i64 I.ty,.int .i64 I.dst,.int .i64 I.a,.int .i64 I.b,.int .i64 I.n,.str I.s,av])] 8)).next 0 0) (AV.agg [.int .i64 (canonI I).op,.int .i64 (canonI I).ty,.int .i64 (canonI I).dst,.int .i64 (canonI I).a,.int .i64 (canonI I).b,.int .i64 (canonI I).n,.str (canonI I).s,av']) ((h6.push (.row [(AV.agg [.str [],.int .i64 0,.int .i64 0,.nilsl,.nilsl])] 5)).set h6.next (.row [(AV.agg [.str mainName,.int .i64 1,.int .i64 0,rv',bv'])] 5))=some (((h6.push (.row [(AV.agg [.str [],.int .i64 0,.int .i64 0,.nilsl,.nilsl])] 5)).set h6.next (.row [(AV.agg [.str mainName,.int .i64 1,.int .i64 0,rv',bv'])] 5)).set ((h.push (.row [(AV.agg [.int .i64 I.op,.int .i64 I.ty,.int .i64 I.dst,.int .i64 I.a,.int .i64 I.b,.int .i64 I.n,.str I.s,av])] 8))).next (.row [(AV.agg [.int .i64 (canonI I).op,.int .i64 (canonI I).ty,.int .i64 (canonI I).dst,.int .i64 (canonI I).a,.int .i64 (canonI I).b,.int .i64 (canonI I).n,.str (canonI I).s,av'])] 8)):=by
   rw[store_old z8 rfl (by decide) (by decide) oka]; rfl
 have L9:loadA ty42 (.ptr (h.push (.row [(AV.agg [.int .i64 I.op,.int .i64 I.ty,.int .i64 I.dst,.int .i64 I.a,.int .i64 I.b,.int .i64 I.n,.str I.s,av])] 8)).next 0 0) (((h6.push (.row [(AV.agg [.str [],.int .i64 0,.int .i64 0,.nilsl,.nilsl])] 5)).set h6.next (.row [(AV.agg [.str mainName,.int .i64 1,.int .i64 0,rv',bv'])] 5)).set ((h.push (.row [(AV.agg [.int .i64 I.op,.int .i64 I.ty,.int .i64 I.dst,.int .i64 I.a,.int .i64 I.b,.int .i64 I.n,.str I.s,av])] 8))).next (.row [(AV.agg [.int .i64 (canonI I).op,.int .i64 (canonI I).ty,.int .i64 (canonI I).dst,.int .i64 (canonI I).a,.int .i64 (canonI I).b,.int .i64 (canonI I).n,.str (canonI I).s,av'])] 8))=some (AV.agg [.int .i64 (canonI I).op,.int .i64 (canonI I).ty,.int .i64 (canonI I).dst,.int .i64 (canonI I).a,.int .i64 (canonI I).b,.int .i64 (canonI I).n,.str (canonI I).s,av']):=by rw[load_set z8]; rfl
 have gall:Grow h ((h6.push (.row [(AV.agg [.str [],.int .i64 0,.int .i64 0,.nilsl,.nilsl])] 5)).set h6.next (.row [(AV.agg [.str mainName,.int .i64 1,.int .i64 0,rv',bv'])] 5)):=(g15.trans g6).trans g7
 have on9:On S2 ((h6.push (.row [(AV.agg [.str [],.int .i64 0,.int .i64 0,.nilsl,.nilsl])] 5)).set h6.next (.row [(AV.agg [.str mainName,.int .i64 1,.int .i64 0,rv',bv'])] 5)) (((h6.push (.row [(AV.agg [.str [],.int .i64 0,.int .i64 0,.nilsl,.nilsl])] 5)).set h6.next (.row [(AV.agg [.str mainName,.int .i64 1,.int .i64 0,rv',bv'])] 5)).set ((h.push (.row [(AV.agg [.int .i64 I.op,.int .i64 I.ty,.int .i64 I.dst,.int .i64 I.a,.int .i64 I.b,.int .i64 I.n,.str I.s,av])] 8))).next (.row [(AV.agg [.int .i64 (canonI I).op,.int .i64 (canonI I).ty,.int .i64 (canonI I).dst,.int .i64 (canonI I).a,.int .i64 (canonI I).b,.int .i64 (canonI I).n,.str (canonI I).s,av'])] 8)):=⟨Nat.le_refl _,fun i hi=>Heap.get_set_ne _ _ (by
   have:=(hnew i (List.mem_append_right _ (esub _ (esub2 _ hi)))).1
   omega)⟩
 refine⟨(AV.agg [.int .i64 (canonI I).op,.int .i64 (canonI I).ty,.int .i64 (canonI I).dst,.int .i64 (canonI I).a,.int .i64 (canonI I).b,.int .i64 (canonI I).n,.str (canonI I).s,av']),(((h6.push (.row [(AV.agg [.str [],.int .i64 0,.int .i64 0,.nilsl,.nilsl])] 5)).set h6.next (.row [(AV.agg [.str mainName,.int .i64 1,.int .i64 0,rv',bv'])] 5)).set ((h.push (.row [(AV.agg [.int .i64 I.op,.int .i64 I.ty,.int .i64 I.dst,.int .i64 I.a,.int .i64 I.b,.int .i64 I.n,.str I.s,av])] 8))).next (.row [(AV.agg [.int .i64 (canonI I).op,.int .i64 (canonI I).ty,.int .i64 (canonI I).dst,.int .i64 (canonI I).a,.int .i64 (canonI I).b,.int .i64 (canonI I).n,.str (canonI I).s,av'])] 8)),?_,⟨av',rfl,IntsO.r (IntO.good.own on9 hav')⟩,gall.set _ (by omega)⟩
 have ec':callω env 8 [AV.agg [.str [109,97,105,110],.int .i64 1,.int .i64 0,.msl (((h.push (.row [(AV.agg [.int .i64 I.op,.int .i64 I.ty,.int .i64 I.dst,.int .i64 I.a,.int .i64 I.b,.int .i64 I.n,.str I.s,av])] 8)).push (.row [(AV.agg [.int .i64 0,.int .i64 0,.int .i64 0,.int .i64 0,.int .i64 0,.int .i64 0,.str [],.nilsl])] 8))).next 0 3 1,.msl (((((h.push (.row [(AV.agg [.int .i64 I.op,.int .i64 I.ty,.int .i64 I.dst,.int .i64 I.a,.int .i64 I.b,.int .i64 I.n,.str I.s,av])] 8)).push (.row [(AV.agg [.int .i64 0,.int .i64 0,.int .i64 0,.int .i64 0,.int .i64 0,.int .i64 0,.str [],.nilsl])] 8)).push (.row ([1,1,1].map (AV.int .i64)) 1)).push (.row [(AV.agg [.int .i64 I.op,.int .i64 I.ty,.int .i64 I.dst,.int .i64 I.a,.int .i64 I.b,.int .i64 I.n,.str I.s,av])] 8))).next 0 1 5]] (((((h.push (.row [(AV.agg [.int .i64 I.op,.int .i64 I.ty,.int .i64 I.dst,.int .i64 I.a,.int .i64 I.b,.int .i64 I.n,.str I.s,av])] 8)).push (.row [(AV.agg [.int .i64 0,.int .i64 0,.int .i64 0,.int .i64 0,.int .i64 0,.int .i64 0,.str [],.nilsl])] 8)).push (.row ([1,1,1].map (AV.int .i64)) 1)).push (.row [(AV.agg [.int .i64 I.op,.int .i64 I.ty,.int .i64 I.dst,.int .i64 I.a,.int .i64 I.b,.int .i64 I.n,.str I.s,av])] 8)).push (.row [(AV.agg [.msl ((((h.push (.row [(AV.agg [.int .i64 I.op,.int .i64 I.ty,.int .i64 I.dst,.int .i64 I.a,.int .i64 I.b,.int .i64 I.n,.str I.s,av])] 8)).push (.row [(AV.agg [.int .i64 0,.int .i64 0,.int .i64 0,.int .i64 0,.int .i64 0,.int .i64 0,.str [],.nilsl])] 8)).push (.row ([1,1,1].map (AV.int .i64)) 1))).next 0 1 8,.int .i64 3,.int .i64 0,.int .i64 0,.int .i64 0])] 5))=.ok (AV.agg [.str mainName,.int .i64 1,.int .i64 0,rv',bv']) h6:=ec
 have ebc':buildD env ty31 [(0,.str [109,97,105,110]),(1,.int .i64 1),(3,.msl (((h.push (.row [(AV.agg [.int .i64 I.op,.int .i64 I.ty,.int .i64 I.dst,.int .i64 I.a,.int .i64 I.b,.int .i64 I.n,.str I.s,av])] 8)).push (.row [(AV.agg [.int .i64 0,.int .i64 0,.int .i64 0,.int .i64 0,.int .i64 0,.int .i64 0,.str [],.nilsl])] 8))).next 0 3 1),(4,.msl (((((h.push (.row [(AV.agg [.int .i64 I.op,.int .i64 I.ty,.int .i64 I.dst,.int .i64 I.a,.int .i64 I.b,.int .i64 I.n,.str I.s,av])] 8)).push (.row [(AV.agg [.int .i64 0,.int .i64 0,.int .i64 0,.int .i64 0,.int .i64 0,.int .i64 0,.str [],.nilsl])] 8)).push (.row ([1,1,1].map (AV.int .i64)) 1)).push (.row [(AV.agg [.int .i64 I.op,.int .i64 I.ty,.int .i64 I.dst,.int .i64 I.a,.int .i64 I.b,.int .i64 I.n,.str I.s,av])] 8))).next 0 1 5)]=some (AV.agg [.str [109,97,105,110],.int .i64 1,.int .i64 0,.msl (((h.push (.row [(AV.agg [.int .i64 I.op,.int .i64 I.ty,.int .i64 I.dst,.int .i64 I.a,.int .i64 I.b,.int .i64 I.n,.str I.s,av])] 8)).push (.row [(AV.agg [.int .i64 0,.int .i64 0,.int .i64 0,.int .i64 0,.int .i64 0,.int .i64 0,.str [],.nilsl])] 8))).next 0 3 1,.msl (((((h.push (.row [(AV.agg [.int .i64 I.op,.int .i64 I.ty,.int .i64 I.dst,.int .i64 I.a,.int .i64 I.b,.int .i64 I.n,.str I.s,av])] 8)).push (.row [(AV.agg [.int .i64 0,.int .i64 0,.int .i64 0,.int .i64 0,.int .i64 0,.int .i64 0,.str [],.nilsl])] 8)).push (.row ([1,1,1].map (AV.int .i64)) 1)).push (.row [(AV.agg [.int .i64 I.op,.int .i64 I.ty,.int .i64 I.dst,.int .i64 I.a,.int .i64 I.b,.int .i64 I.n,.str I.s,av])] 8))).next 0 1 5]):=ebc
 rw[pl16.call h (by simp)]
 unfold c16
 simp -implicitDefEqProofs (maxSteps:=1000000) only[o1,p_bs3,LI,p_bs1 ti36 rfl ti42 (by decide) (by decide),show ty42.size=8 from rfl,eb1,buildEnd3,ebb,p_bs1 ti29 rfl ti40 (by decide) (by decide),show ty40.size=5 from rfl,eb2,ebc',ec',s8,L8,nb,nc,lenR1,hix0,bix,bl,aix,ald,s9,L9,res_cell ti42,XS,XT,XF,AV.cells,Nat.reduceAdd,Nat.reduceLT,Nat.reduceEqDiff,↓reduceIte,Nat.reduceLeDiff]
theorem worksStep {h:Heap} {s t:List UInt8} {a b c d:Int} (he:canonI (binD s a b)=binD t c d):∃x1 h1 x2 h2 x3 h3 h4,callω env 17 [.str s,.int .i64 a,.int .i64 b] h=.ok x1 h1∧callω env 16 [x1] h1=.ok x2 h2∧callω env 17 [.str t,.int .i64 c,.int .i64 d] h2=.ok x3 h3∧callω env 13 [x2,x3] h3=.ok (.bool true) h4∧Grow h h4:=by
 obtain⟨x1,h1,e1,r1,g1⟩:=bin_ok s a b h
 obtain⟨x2,h2,e2,r2,g2⟩:=turns_ok r1
 obtain⟨x3,h3,e3,r3,g3⟩:=bin_ok t c d h2
 obtain⟨h4,g4,e4⟩:=SameInstr_ok (InstrR.stays g3.kp r2) r3
 rw[he,decide_eq_true rfl] at e4
 exact⟨x1,h1,x2,h2,x3,h3,h4,e1,e2,e3,e4,((g1.trans g2).trans g3).trans g4⟩
set_option maxHeartbeats 4000000 in
theorem works_ok (h:Heap):∃h',callω env 6 [] h=.ok (.bool true) h'∧Grow h h':=by
 obtain⟨x1,h1,x2,h2,x3,h3,h4,a1,a2,a3,a4,ga⟩:=worksStep (h:=h) (s:=[43]) (t:=[43]) (a:=2) (b:=1) (c:=1) (d:=2) (by decide)
 obtain⟨y1,k1,y2,k2,y3,k3,k4,b1,b2,b3,b4,gb⟩:=worksStep (h:=h4) (s:=[60]) (t:=[62]) (a:=2) (b:=1) (c:=1) (d:=2) (by decide)
 obtain⟨u1,m1,u2,m2,u3,m3,m4,c1,c2,c3,c4,gc⟩:=worksStep (h:=k4) (s:=[45]) (t:=[45]) (a:=2) (b:=1) (c:=2) (d:=1) (by decide)
 refine⟨m4,?_,(ga.trans gb).trans gc⟩
 rw[pl6.call h (by simp)]
 unfold c6
 simp -implicitDefEqProofs (maxSteps:=1000000) only[a1,a2,a3,a4,b1,b2,b3,b4,c1,c2,c3,c4,XS,XT,XF,AV.cells,Nat.reduceAdd,Nat.reduceLT,Nat.reduceEqDiff,↓reduceIte,Nat.reduceLeDiff]
end Go.Proofs.AmEnv
namespace Go.Proofs.AmEnv
open Go Go.AM
theorem CodeO.agg {F:List Nat} {h:Heap} {x:AV} {X:MCode} (o:CodeO F h x X):∃r b,x=.agg [.str X.name,.int .i64 X.ty,.int .i64 X.params,r,b]:=by
 obtain⟨r,b,_,_,e,_⟩:=o
 exact⟨r,b,e⟩
theorem newCell {h:Heap} {x:AV} (hx:x.cells.length=5) (ok:okCells x.cells=true) (hw:((AV.agg [.str [],.int .i64 0,.int .i64 0,.nilsl,.nilsl])).withCells 0 x.cells=x):storeA ty31 (.ptr h.next 0 0) x (h.push (.row [(AV.agg [.str [],.int .i64 0,.int .i64 0,.nilsl,.nilsl])] 5))=some ((h.push (.row [(AV.agg [.str [],.int .i64 0,.int .i64 0,.nilsl,.nilsl])] 5)).set h.next (.row [x] 5)):=by
 rw[store_old (Heap.get_push_eq h _) (by rw[hx]; rfl) (by decide) (by decide) ok,hw]
theorem cellGet {h:Heap} {x:AV}:((h.push (.row [(AV.agg [.str [],.int .i64 0,.int .i64 0,.nilsl,.nilsl])] 5)).set h.next (.row [x] 5)).get h.next=some (.row [x] 5):=Heap.get_set_eq _ _ (Heap.get_push_eq h _)
theorem cellGrow {h:Heap} {x:AV}:Grow h ((h.push (.row [(AV.agg [.str [],.int .i64 0,.int .i64 0,.nilsl,.nilsl])] 5)).set h.next (.row [x] 5)):=(Grow.push h _).set _ (Nat.le_refl _)
end Go.Proofs.AmEnv
namespace Go.Proofs.AmEnv
open Go Go.AM
theorem contS_at (p:List UInt8):∀s:List UInt8,contS p s=true→∃k,k≤s.length∧prefS p (s.drop k)=true
 | [],h=>⟨0,Nat.le_refl _,h⟩
 | y::r,h=>by
   have h:(bif prefS p (y::r) then true else contS p r)=true:=h
   cases hp:prefS p (y::r) with
   | true=>exact⟨0,Nat.zero_le _,hp⟩
   | false =>
     rw[hp] at h
     obtain⟨k,k1,k2⟩:=contS_at p r h
     exact⟨k+1,Nat.succ_le_succ k1,k2⟩
theorem contS_mem {c:UInt8}:∀{s:List UInt8},c∈s→contS [c] s=true
 | [],h=>by cases h
 | y::r,h=>by
   show (bif prefS [c] (y::r) then true else contS [c] r)=true
   rcases List.mem_cons.1 h with h | h
   · subst h
     have:prefS [c] (c::r)=true:=by rw[prefS_eq]; simp
     rw[this]; rfl
   · rw[contS_mem h]; cases prefS [c] (y::r) <;> rfl
def signs:List (List UInt8):=[[43],[45],[42],[47],[37],[38],[124],[94],[60,60],[62,62],[61,61],[33,61],[60],[60,61],[62],[62,61]]
def wordAt (k:Nat):List UInt8:=((binaries.drop k).drop 1).takeWhile (fun c=>!decide (c=32))
theorem wordAt_mem:∀k,k < 40→(binaries.drop k).head?=some 32→wordAt k=[]∨wordAt k∈signs:=by decide
theorem tw_stop {s r:List UInt8} (h:¬ (32:UInt8)∈s):(s++32::r).takeWhile (fun c=>!decide (c=32))=s:=by
 induction s with
 | nil=>rfl
 | cons a t ih =>
   have ha:¬ a=32:=fun e=>h (by rw[e]; exact List.mem_cons_self)
   rw[List.cons_append,List.takeWhile_cons,if_pos (by simpa using ha),ih (fun hm=>h (List.mem_cons_of_mem _ hm))]
theorem sign_of {s:List UInt8} (h1:¬ s=[]) (h2:contS [32] s=false) (h3:contS ([32]++s++[32]) binaries=true):s∈signs:=by
 have hn:¬ (32:UInt8)∈s:=fun hm=>by rw[contS_mem hm] at h2; cases h2
 obtain⟨k,hk,hp⟩:=contS_at _ _ h3
 rw[prefS_eq,List.isPrefixOf_iff_prefix] at hp
 obtain⟨r,hr⟩:=hp
 have hw:wordAt k=s:=by
   unfold wordAt
   rw[← hr]
   have:([32]++s++[32]++r).drop 1=s++32::r:=by simp
   rw[this,tw_stop hn]
 rcases wordAt_mem k (by have:binaries.length=39:=rfl; omega) (by rw[← hr]; rfl) with h | h
 · exact absurd (hw.symm.trans h) h1
 · rw[← hw]; exact h
theorem form_sign {I:MInstr} (h:formD I=true) (ho:I.op=3):I.s∈signs:=by
 unfold formD at h
 rw[if_pos ho] at h
 simp only[Bool.and_eq_true,Bool.not_eq_true',decide_eq_false_iff_not] at h
 exact sign_of h.1.1 h.1.2 h.2
def stays5:List (List UInt8):=[[45],[47],[37],[60,60],[62,62]]
theorem sign_two:∀s∈signs,(s∈stays5∧mirror s=[])∨¬ mirror s=[]:=by decide
end Go.Proofs.AmEnv
namespace Go.Proofs.AmEnv
open Go Go.AM
set_option maxHeartbeats 32000000 in
theorem crInstrs {C:MCode} {rv bv r5 b5:AV} {p4 p5 i:Nat} {B:MBlock} {h:Heap} (c4:h.get p4=some (.row [(AV.agg [.str C.name,.int .i64 C.ty,.int .i64 C.params,rv,bv])] 5)) (c5:h.get p5=some (.row [(AV.agg [.str C.name,.int .i64 C.ty,.int .i64 C.params,r5,b5])] 5)) (hp4:p4 < h.next) (hp5:p5 < h.next) (hbv:BlocksR h bv C.blocks) (hb5:BlocksR h b5 (C.blocks.map canonB)) (hB:C.blocks[i]?=some B) (hok:∀I∈B.code,formD I=true)
   {l:List (Nat × AV)} (l4:AM.look l 4=.ptr p4 0 0) (l5:AM.look l 5=.ptr p5 0 0) (l6:AM.look l 6=.int .i64 (i:Int)) (l7:AM.look l 7=.int .i64 ((0:Nat):Int)) :
   ∃l' h',evω env (.loop lp4_2) (fset 191 l) h=.ok (.exit 4) (fset 191 l') h'∧Grow h h'∧Keep [1,3,4,5,6] l' l:=by
 have hB5:(C.blocks.map canonB)[i]?=some (canonB B):=by rw[List.getElem?_map,hB]; rfl
 have hle:B.code.length≤140737488355328:=by
   obtain⟨cv,b⟩:=blockAt hbv hB
   exact b.code.le
 refine loop_ind (E:=env) (nt:=191) (body:=lp4_2) B.code.length (fun k lk hk=>Grow h hk∧Keep [1,3,4,5,6] lk l∧AM.look lk 7=.int .i64 (k:Int))
   (fun r=>∃l' h',r=.ok (.exit 4) (fset 191 l') h'∧Grow h h'∧Keep [1,3,4,5,6] l' l) ?_ ?_ B.code.length 0 l h (by omega) ⟨.refl h,.refl _ _,l7⟩
 · rintro k lk hk hj ⟨g,kp,k7⟩
   left
   obtain⟨I,hI⟩:∃I,B.code[k]?=some I:=⟨_,List.getElem?_eq_getElem hj⟩
   have hIok:=hok I (List.mem_of_getElem? hI)
   have hI5:(canonB B).code[k]?=some (canonI I):=by show (B.code.map canonI)[k]?=_; rw[List.getElem?_map,hI]; rfl
   have k4:=(kp 4 (by simp)).trans l4
   have k5:=(kp 5 (by simp)).trans l5
   have k6:=(kp 6 (by simp)).trans l6
   obtain⟨cv,b⟩:=blockAt (BlocksR.stays g.kp hbv) hB
   have bix:=b.ix
   have bo:=b.o
   have bl:=b.l0
   have bln:=b.code.len
   obtain⟨av,a⟩:=instrAt b.code hI
   have aix:=a.ix
   have ald:=a.ld
   have oka:=a.args.ok
   have hlt:((k:Int) < (B.code.length:Int)):=by omega
   have w1:IntKind.wrap .i64 ((k:Int)+1)=((k+1:Nat):Int):=AM.wrap_small (n:=k+1) (by omega)
   have Lb:loadA ty29 (.ptr p4 0 4) hk=some bv:=by rw[load_old ((g.get _ hp4).trans c4)]; rfl
   have ok0:okCells (AV.agg [.int .i64 I.op,.int .i64 I.ty,.int .i64 I.dst,.int .i64 I.a,.int .i64 I.b,.int .i64 I.n,.str I.s,av]).cells=true:=by
     show okCells [_,_,_,_,_,_,_,av]=true
     simp only[okCells_cons,okCells_nil,ok_int,ok_str,oka,Bool.and_self]
   have c1:(hk.push (.row [(AV.agg [.int .i64 0,.int .i64 0,.int .i64 0,.int .i64 0,.int .i64 0,.int .i64 0,.str [],.nilsl])] 8)).get hk.next=some (.row [(AV.agg [.int .i64 0,.int .i64 0,.int .i64 0,.int .i64 0,.int .i64 0,.int .i64 0,.str [],.nilsl])] 8):=Heap.get_push_eq hk _
   have s2:storeA ty42 (.ptr hk.next 0 0) (AV.agg [.int .i64 I.op,.int .i64 I.ty,.int .i64 I.dst,.int .i64 I.a,.int .i64 I.b,.int .i64 I.n,.str I.s,av]) (hk.push (.row [(AV.agg [.int .i64 0,.int .i64 0,.int .i64 0,.int .i64 0,.int .i64 0,.int .i64 0,.str [],.nilsl])] 8))=some ((hk.push (.row [(AV.agg [.int .i64 0,.int .i64 0,.int .i64 0,.int .i64 0,.int .i64 0,.int .i64 0,.str [],.nilsl])] 8)).set hk.next (.row [(AV.agg [.int .i64 I.op,.int .i64 I.ty,.int .i64 I.dst,.int .i64 I.a,.int .i64 I.b,.int .i64 I.n,.str I.s,av])] 8)):=by
     rw[store_old c1 rfl (by decide) (by decide) ok0]; rfl
   have g2:Grow hk ((hk.push (.row [(AV.agg [.int .i64 0,.int .i64 0,.int .i64 0,.int .i64 0,.int .i64 0,.int .i64 0,.str [],.nilsl])] 8)).set hk.next (.row [(AV.agg [.int .i64 I.op,.int .i64 I.ty,.int .i64 I.dst,.int .i64 I.a,.int .i64 I.b,.int .i64 I.n,.str I.s,av])] 8)):=(Grow.push hk _).set _ (Nat.le_refl _)
   have n2:((hk.push (.row [(AV.agg [.int .i64 0,.int .i64 0,.int .i64 0,.int .i64 0,.int .i64 0,.int .i64 0,.str [],.nilsl])] 8)).set hk.next (.row [(AV.agg [.int .i64 I.op,.int .i64 I.ty,.int .i64 I.dst,.int .i64 I.a,.int .i64 I.b,.int .i64 I.n,.str I.s,av])] 8)).next=hk.next+1:=rfl
   have gh2:=g.trans g2
   have x2:((hk.push (.row [(AV.agg [.int .i64 0,.int .i64 0,.int .i64 0,.int .i64 0,.int .i64 0,.int .i64 0,.str [],.nilsl])] 8)).set hk.next (.row [(AV.agg [.int .i64 I.op,.int .i64 I.ty,.int .i64 I.dst,.int .i64 I.a,.int .i64 I.b,.int .i64 I.n,.str I.s,av])] 8)).get hk.next=some (.row [(AV.agg [.int .i64 I.op,.int .i64 I.ty,.int .i64 I.dst,.int .i64 I.a,.int .i64 I.b,.int .i64 I.n,.str I.s,av])] 8):=Heap.get_set_eq _ _ c1
   have Ld:loadA ty29 (.ptr p5 0 4) ((hk.push (.row [(AV.agg [.int .i64 0,.int .i64 0,.int .i64 0,.int .i64 0,.int .i64 0,.int .i64 0,.str [],.nilsl])] 8)).set hk.next (.row [(AV.agg [.int .i64 I.op,.int .i64 I.ty,.int .i64 I.dst,.int .i64 I.a,.int .i64 I.b,.int .i64 I.n,.str I.s,av])] 8))=some b5:=by rw[load_old ((gh2.get _ hp5).trans c5)]; rfl
   obtain⟨cw,d⟩:=blockAt (BlocksR.stays gh2.kp hb5) hB5
   have dix:=d.ix
   have do_:=d.o
   have dl:=d.l0
   obtain⟨aw,e⟩:=instrAt d.code hI5
   have hcan:canonI I=I∨(canonI I=⟨I.op,I.ty,I.dst,I.b,I.a,I.n,mirror I.s,I.args⟩):=by unfold canonI; split <;> simp
   generalize hY:canonI I=Y at e hcan
   have eix:=e.ix
   have eld:=e.ld
   have oke:=e.args.ok
   have ok1:okCells (AV.agg [.int .i64 Y.op,.int .i64 Y.ty,.int .i64 Y.dst,.int .i64 Y.a,.int .i64 Y.b,.int .i64 Y.n,.str Y.s,aw]).cells=true:=by
     show okCells [_,_,_,_,_,_,_,aw]=true
     simp only[okCells_cons,okCells_nil,ok_int,ok_str,oke,Bool.and_self]
   have c3:(((hk.push (.row [(AV.agg [.int .i64 0,.int .i64 0,.int .i64 0,.int .i64 0,.int .i64 0,.int .i64 0,.str [],.nilsl])] 8)).set hk.next (.row [(AV.agg [.int .i64 I.op,.int .i64 I.ty,.int .i64 I.dst,.int .i64 I.a,.int .i64 I.b,.int .i64 I.n,.str I.s,av])] 8)).push (.row [(AV.agg [.int .i64 0,.int .i64 0,.int .i64 0,.int .i64 0,.int .i64 0,.int .i64 0,.str [],.nilsl])] 8)).get ((hk.push (.row [(AV.agg [.int .i64 0,.int .i64 0,.int .i64 0,.int .i64 0,.int .i64 0,.int .i64 0,.str [],.nilsl])] 8)).set hk.next (.row [(AV.agg [.int .i64 I.op,.int .i64 I.ty,.int .i64 I.dst,.int .i64 I.a,.int .i64 I.b,.int .i64 I.n,.str I.s,av])] 8)).next=some (.row [(AV.agg [.int .i64 0,.int .i64 0,.int .i64 0,.int .i64 0,.int .i64 0,.int .i64 0,.str [],.nilsl])] 8):=Heap.get_push_eq _ _
   have s4:storeA ty42 (.ptr ((hk.push (.row [(AV.agg [.int .i64 0,.int .i64 0,.int .i64 0,.int .i64 0,.int .i64 0,.int .i64 0,.str [],.nilsl])] 8)).set hk.next (.row [(AV.agg [.int .i64 I.op,.int .i64 I.ty,.int .i64 I.dst,.int .i64 I.a,.int .i64 I.b,.int .i64 I.n,.str I.s,av])] 8)).next 0 0) (AV.agg [.int .i64 Y.op,.int .i64 Y.ty,.int .i64 Y.dst,.int .i64 Y.a,.int .i64 Y.b,.int .i64 Y.n,.str Y.s,aw]) (((hk.push (.row [(AV.agg [.int .i64 0,.int .i64 0,.int .i64 0,.int .i64 0,.int .i64 0,.int .i64 0,.str [],.nilsl])] 8)).set hk.next (.row [(AV.agg [.int .i64 I.op,.int .i64 I.ty,.int .i64 I.dst,.int .i64 I.a,.int .i64 I.b,.int .i64 I.n,.str I.s,av])] 8)).push (.row [(AV.agg [.int .i64 0,.int .i64 0,.int .i64 0,.int .i64 0,.int .i64 0,.int .i64 0,.str [],.nilsl])] 8))=some ((((hk.push (.row [(AV.agg [.int .i64 0,.int .i64 0,.int .i64 0,.int .i64 0,.int .i64 0,.int .i64 0,.str [],.nilsl])] 8)).set hk.next (.row [(AV.agg [.int .i64 I.op,.int .i64 I.ty,.int .i64 I.dst,.int .i64 I.a,.int .i64 I.b,.int .i64 I.n,.str I.s,av])] 8)).push (.row [(AV.agg [.int .i64 0,.int .i64 0,.int .i64 0,.int .i64 0,.int .i64 0,.int .i64 0,.str [],.nilsl])] 8)).set (((hk.push (.row [(AV.agg [.int .i64 0,.int .i64 0,.int .i64 0,.int .i64 0,.int .i64 0,.int .i64 0,.str [],.nilsl])] 8)).set hk.next (.row [(AV.agg [.int .i64 I.op,.int .i64 I.ty,.int .i64 I.dst,.int .i64 I.a,.int .i64 I.b,.int .i64 I.n,.str I.s,av])] 8)).next) (.row [(AV.agg [.int .i64 Y.op,.int .i64 Y.ty,.int .i64 Y.dst,.int .i64 Y.a,.int .i64 Y.b,.int .i64 Y.n,.str Y.s,aw])] 8)):=by
     rw[store_old c3 rfl (by decide) (by decide) ok1]; rfl
   have g4:Grow ((hk.push (.row [(AV.agg [.int .i64 0,.int .i64 0,.int .i64 0,.int .i64 0,.int .i64 0,.int .i64 0,.str [],.nilsl])] 8)).set hk.next (.row [(AV.agg [.int .i64 I.op,.int .i64 I.ty,.int .i64 I.dst,.int .i64 I.a,.int .i64 I.b,.int .i64 I.n,.str I.s,av])] 8)) ((((hk.push (.row [(AV.agg [.int .i64 0,.int .i64 0,.int .i64 0,.int .i64 0,.int .i64 0,.int .i64 0,.str [],.nilsl])] 8)).set hk.next (.row [(AV.agg [.int .i64 I.op,.int .i64 I.ty,.int .i64 I.dst,.int .i64 I.a,.int .i64 I.b,.int .i64 I.n,.str I.s,av])] 8)).push (.row [(AV.agg [.int .i64 0,.int .i64 0,.int .i64 0,.int .i64 0,.int .i64 0,.int .i64 0,.str [],.nilsl])] 8)).set (((hk.push (.row [(AV.agg [.int .i64 0,.int .i64 0,.int .i64 0,.int .i64 0,.int .i64 0,.int .i64 0,.str [],.nilsl])] 8)).set hk.next (.row [(AV.agg [.int .i64 I.op,.int .i64 I.ty,.int .i64 I.dst,.int .i64 I.a,.int .i64 I.b,.int .i64 I.n,.str I.s,av])] 8)).next) (.row [(AV.agg [.int .i64 Y.op,.int .i64 Y.ty,.int .i64 Y.dst,.int .i64 Y.a,.int .i64 Y.b,.int .i64 Y.n,.str Y.s,aw])] 8)):=(Grow.push _ _).set _ (Nat.le_refl _)
   have x4:((((hk.push (.row [(AV.agg [.int .i64 0,.int .i64 0,.int .i64 0,.int .i64 0,.int .i64 0,.int .i64 0,.str [],.nilsl])] 8)).set hk.next (.row [(AV.agg [.int .i64 I.op,.int .i64 I.ty,.int .i64 I.dst,.int .i64 I.a,.int .i64 I.b,.int .i64 I.n,.str I.s,av])] 8)).push (.row [(AV.agg [.int .i64 0,.int .i64 0,.int .i64 0,.int .i64 0,.int .i64 0,.int .i64 0,.str [],.nilsl])] 8)).set (((hk.push (.row [(AV.agg [.int .i64 0,.int .i64 0,.int .i64 0,.int .i64 0,.int .i64 0,.int .i64 0,.str [],.nilsl])] 8)).set hk.next (.row [(AV.agg [.int .i64 I.op,.int .i64 I.ty,.int .i64 I.dst,.int .i64 I.a,.int .i64 I.b,.int .i64 I.n,.str I.s,av])] 8)).next) (.row [(AV.agg [.int .i64 Y.op,.int .i64 Y.ty,.int .i64 Y.dst,.int .i64 Y.a,.int .i64 Y.b,.int .i64 Y.n,.str Y.s,aw])] 8)).get hk.next=some (.row [(AV.agg [.int .i64 I.op,.int .i64 I.ty,.int .i64 I.dst,.int .i64 I.a,.int .i64 I.b,.int .i64 I.n,.str I.s,av])] 8):=(g4.get _ (by omega)).trans x2
   have y4:((((hk.push (.row [(AV.agg [.int .i64 0,.int .i64 0,.int .i64 0,.int .i64 0,.int .i64 0,.int .i64 0,.str [],.nilsl])] 8)).set hk.next (.row [(AV.agg [.int .i64 I.op,.int .i64 I.ty,.int .i64 I.dst,.int .i64 I.a,.int .i64 I.b,.int .i64 I.n,.str I.s,av])] 8)).push (.row [(AV.agg [.int .i64 0,.int .i64 0,.int .i64 0,.int .i64 0,.int .i64 0,.int .i64 0,.str [],.nilsl])] 8)).set (((hk.push (.row [(AV.agg [.int .i64 0,.int .i64 0,.int .i64 0,.int .i64 0,.int .i64 0,.int .i64 0,.str [],.nilsl])] 8)).set hk.next (.row [(AV.agg [.int .i64 I.op,.int .i64 I.ty,.int .i64 I.dst,.int .i64 I.a,.int .i64 I.b,.int .i64 I.n,.str I.s,av])] 8)).next) (.row [(AV.agg [.int .i64 Y.op,.int .i64 Y.ty,.int .i64 Y.dst,.int .i64 Y.a,.int .i64 Y.b,.int .i64 Y.n,.str Y.s,aw])] 8)).get ((hk.push (.row [(AV.agg [.int .i64 0,.int .i64 0,.int .i64 0,.int .i64 0,.int .i64 0,.int .i64 0,.str [],.nilsl])] 8)).set hk.next (.row [(AV.agg [.int .i64 I.op,.int .i64 I.ty,.int .i64 I.dst,.int .i64 I.a,.int .i64 I.b,.int .i64 I.n,.str I.s,av])] 8)).next=some (.row [(AV.agg [.int .i64 Y.op,.int .i64 Y.ty,.int .i64 Y.dst,.int .i64 Y.a,.int .i64 Y.b,.int .i64 Y.n,.str Y.s,aw])] 8):=Heap.get_set_eq _ _ c3
   have F8:∀t o,loadA t (.ptr hk.next 0 o) ((((hk.push (.row [(AV.agg [.int .i64 0,.int .i64 0,.int .i64 0,.int .i64 0,.int .i64 0,.int .i64 0,.str [],.nilsl])] 8)).set hk.next (.row [(AV.agg [.int .i64 I.op,.int .i64 I.ty,.int .i64 I.dst,.int .i64 I.a,.int .i64 I.b,.int .i64 I.n,.str I.s,av])] 8)).push (.row [(AV.agg [.int .i64 0,.int .i64 0,.int .i64 0,.int .i64 0,.int .i64 0,.int .i64 0,.str [],.nilsl])] 8)).set (((hk.push (.row [(AV.agg [.int .i64 0,.int .i64 0,.int .i64 0,.int .i64 0,.int .i64 0,.int .i64 0,.str [],.nilsl])] 8)).set hk.next (.row [(AV.agg [.int .i64 I.op,.int .i64 I.ty,.int .i64 I.dst,.int .i64 I.a,.int .i64 I.b,.int .i64 I.n,.str I.s,av])] 8)).next) (.row [(AV.agg [.int .i64 Y.op,.int .i64 Y.ty,.int .i64 Y.dst,.int .i64 Y.a,.int .i64 Y.b,.int .i64 Y.n,.str Y.s,aw])] 8))=partOf t (AV.agg [.int .i64 I.op,.int .i64 I.ty,.int .i64 I.dst,.int .i64 I.a,.int .i64 I.b,.int .i64 I.n,.str I.s,av]).cells o:=fun t o=>load_old x4 t o
   have F9:∀t o,loadA t (.ptr ((hk.push (.row [(AV.agg [.int .i64 0,.int .i64 0,.int .i64 0,.int .i64 0,.int .i64 0,.int .i64 0,.str [],.nilsl])] 8)).set hk.next (.row [(AV.agg [.int .i64 I.op,.int .i64 I.ty,.int .i64 I.dst,.int .i64 I.a,.int .i64 I.b,.int .i64 I.n,.str I.s,av])] 8)).next 0 o) ((((hk.push (.row [(AV.agg [.int .i64 0,.int .i64 0,.int .i64 0,.int .i64 0,.int .i64 0,.int .i64 0,.str [],.nilsl])] 8)).set hk.next (.row [(AV.agg [.int .i64 I.op,.int .i64 I.ty,.int .i64 I.dst,.int .i64 I.a,.int .i64 I.b,.int .i64 I.n,.str I.s,av])] 8)).push (.row [(AV.agg [.int .i64 0,.int .i64 0,.int .i64 0,.int .i64 0,.int .i64 0,.int .i64 0,.str [],.nilsl])] 8)).set (((hk.push (.row [(AV.agg [.int .i64 0,.int .i64 0,.int .i64 0,.int .i64 0,.int .i64 0,.int .i64 0,.str [],.nilsl])] 8)).set hk.next (.row [(AV.agg [.int .i64 I.op,.int .i64 I.ty,.int .i64 I.dst,.int .i64 I.a,.int .i64 I.b,.int .i64 I.n,.str I.s,av])] 8)).next) (.row [(AV.agg [.int .i64 Y.op,.int .i64 Y.ty,.int .i64 Y.dst,.int .i64 Y.a,.int .i64 Y.b,.int .i64 Y.n,.str Y.s,aw])] 8))=partOf t (AV.agg [.int .i64 Y.op,.int .i64 Y.ty,.int .i64 Y.dst,.int .i64 Y.a,.int .i64 Y.b,.int .i64 Y.n,.str Y.s,aw]).cells o:=fun t o=>load_old y4 t o
   have gh4:=gh2.trans g4
   have same:Y=I→∃h',Grow h h'∧callω env 13 [(AV.agg [.int .i64 I.op,.int .i64 I.ty,.int .i64 I.dst,.int .i64 I.a,.int .i64 I.b,.int .i64 I.n,.str I.s,av]),(AV.agg [.int .i64 Y.op,.int .i64 Y.ty,.int .i64 Y.dst,.int .i64 Y.a,.int .i64 Y.b,.int .i64 Y.n,.str Y.s,aw])] ((((hk.push (.row [(AV.agg [.int .i64 0,.int .i64 0,.int .i64 0,.int .i64 0,.int .i64 0,.int .i64 0,.str [],.nilsl])] 8)).set hk.next (.row [(AV.agg [.int .i64 I.op,.int .i64 I.ty,.int .i64 I.dst,.int .i64 I.a,.int .i64 I.b,.int .i64 I.n,.str I.s,av])] 8)).push (.row [(AV.agg [.int .i64 0,.int .i64 0,.int .i64 0,.int .i64 0,.int .i64 0,.int .i64 0,.str [],.nilsl])] 8)).set (((hk.push (.row [(AV.agg [.int .i64 0,.int .i64 0,.int .i64 0,.int .i64 0,.int .i64 0,.int .i64 0,.str [],.nilsl])] 8)).set hk.next (.row [(AV.agg [.int .i64 I.op,.int .i64 I.ty,.int .i64 I.dst,.int .i64 I.a,.int .i64 I.b,.int .i64 I.n,.str I.s,av])] 8)).next) (.row [(AV.agg [.int .i64 Y.op,.int .i64 Y.ty,.int .i64 Y.dst,.int .i64 Y.a,.int .i64 Y.b,.int .i64 Y.n,.str Y.s,aw])] 8))=.ok (.bool true) h':=fun hyx=>by
     obtain⟨h',gs,es⟩:=SameInstr_ok (h:=((((hk.push (.row [(AV.agg [.int .i64 0,.int .i64 0,.int .i64 0,.int .i64 0,.int .i64 0,.int .i64 0,.str [],.nilsl])] 8)).set hk.next (.row [(AV.agg [.int .i64 I.op,.int .i64 I.ty,.int .i64 I.dst,.int .i64 I.a,.int .i64 I.b,.int .i64 I.n,.str I.s,av])] 8)).push (.row [(AV.agg [.int .i64 0,.int .i64 0,.int .i64 0,.int .i64 0,.int .i64 0,.int .i64 0,.str [],.nilsl])] 8)).set (((hk.push (.row [(AV.agg [.int .i64 0,.int .i64 0,.int .i64 0,.int .i64 0,.int .i64 0,.int .i64 0,.str [],.nilsl])] 8)).set hk.next (.row [(AV.agg [.int .i64 I.op,.int .i64 I.ty,.int .i64 I.dst,.int .i64 I.a,.int .i64 I.b,.int .i64 I.n,.str I.s,av])] 8)).next) (.row [(AV.agg [.int .i64 Y.op,.int .i64 Y.ty,.int .i64 Y.dst,.int .i64 Y.a,.int .i64 Y.b,.int .i64 Y.n,.str Y.s,aw])] 8))) (⟨av,rfl,IntsR.stays (g2.trans g4).kp a.args⟩:InstrR ((((hk.push (.row [(AV.agg [.int .i64 0,.int .i64 0,.int .i64 0,.int .i64 0,.int .i64 0,.int .i64 0,.str [],.nilsl])] 8)).set hk.next (.row [(AV.agg [.int .i64 I.op,.int .i64 I.ty,.int .i64 I.dst,.int .i64 I.a,.int .i64 I.b,.int .i64 I.n,.str I.s,av])] 8)).push (.row [(AV.agg [.int .i64 0,.int .i64 0,.int .i64 0,.int .i64 0,.int .i64 0,.int .i64 0,.str [],.nilsl])] 8)).set (((hk.push (.row [(AV.agg [.int .i64 0,.int .i64 0,.int .i64 0,.int .i64 0,.int .i64 0,.int .i64 0,.str [],.nilsl])] 8)).set hk.next (.row [(AV.agg [.int .i64 I.op,.int .i64 I.ty,.int .i64 I.dst,.int .i64 I.a,.int .i64 I.b,.int .i64 I.n,.str I.s,av])] 8)).next) (.row [(AV.agg [.int .i64 Y.op,.int .i64 Y.ty,.int .i64 Y.dst,.int .i64 Y.a,.int .i64 Y.b,.int .i64 Y.n,.str Y.s,aw])] 8)) (AV.agg [.int .i64 I.op,.int .i64 I.ty,.int .i64 I.dst,.int .i64 I.a,.int .i64 I.b,.int .i64 I.n,.str I.s,av]) I) (⟨aw,rfl,IntsR.stays g4.kp e.args⟩:InstrR ((((hk.push (.row [(AV.agg [.int .i64 0,.int .i64 0,.int .i64 0,.int .i64 0,.int .i64 0,.int .i64 0,.str [],.nilsl])] 8)).set hk.next (.row [(AV.agg [.int .i64 I.op,.int .i64 I.ty,.int .i64 I.dst,.int .i64 I.a,.int .i64 I.b,.int .i64 I.n,.str I.s,av])] 8)).push (.row [(AV.agg [.int .i64 0,.int .i64 0,.int .i64 0,.int .i64 0,.int .i64 0,.int .i64 0,.str [],.nilsl])] 8)).set (((hk.push (.row [(AV.agg [.int .i64 0,.int .i64 0,.int .i64 0,.int .i64 0,.int .i64 0,.int .i64 0,.str [],.nilsl])] 8)).set hk.next (.row [(AV.agg [.int .i64 I.op,.int .i64 I.ty,.int .i64 I.dst,.int .i64 I.a,.int .i64 I.b,.int .i64 I.n,.str I.s,av])] 8)).next) (.row [(AV.agg [.int .i64 Y.op,.int .i64 Y.ty,.int .i64 Y.dst,.int .i64 Y.a,.int .i64 Y.b,.int .i64 Y.n,.str Y.s,aw])] 8)) (AV.agg [.int .i64 Y.op,.int .i64 Y.ty,.int .i64 Y.dst,.int .i64 Y.a,.int .i64 Y.b,.int .i64 Y.n,.str Y.s,aw]) Y)
     rw[decide_eq_true hyx.symm] at es
     exact⟨h',gh4.trans gs,es⟩
   have fin:∃h',Grow h h'∧∃l',Keep [1,3,4,5,6] l' lk∧AM.look l' 7=.int .i64 ((k+1:Nat):Int)∧evω env (.loop lp4_2) (fset 191 lk) hk=evω env (.loop lp4_2) (fset 191 l')  h':=by
     by_cases e3:I.op=3
     rotate_left
     · obtain⟨h',gs,es⟩:=same (by rw[← hY]; exact if_neg fun hh=>e3 hh.1)
       refine⟨h',gs,?_,?_,?_,?_⟩
       rotate_left 3
       · conv=>lhs; rw[w_loop]; unfold lp4_2
         simp -implicitDefEqProofs (maxSteps:=1000000) only[k4,k5,k6,k7,Lb,bix,bo,bl,bln,eq_true hlt,aix,ald,s2,Ld,dix,do_,dl,eix,eld,s4,F8,F9,w1,es,eq_false e3,XS,XT,XF,AV.cells,Nat.reduceAdd,Nat.reduceLT,Nat.reduceEqDiff,↓reduceIte,Nat.reduceLeDiff]
         rfl
       · simp[Keep,AM.look]
       · simp[AM.look]
     have hsg:=sign_two I.s (form_sign hIok e3)
     have st:mirror I.s=[]→Y=I:=fun hm=>by rw[← hY]; exact if_neg fun hh=>hh.2.1 hm
     by_cases q1:I.s=[45]
     · obtain⟨h',gs,es⟩:=same (st (by rw[q1]; rfl))
       refine⟨h',gs,?_,?_,?_,?_⟩
       rotate_left 3
       · conv=>lhs; rw[w_loop]; unfold lp4_2
         simp -implicitDefEqProofs (maxSteps:=1000000) only[k4,k5,k6,k7,Lb,bix,bo,bl,bln,eq_true hlt,aix,ald,s2,Ld,dix,do_,dl,eix,eld,s4,F8,F9,w1,es,eq_true e3,eq_true q1,XS,XT,XF,AV.cells,Nat.reduceAdd,Nat.reduceLT,Nat.reduceEqDiff,↓reduceIte,Nat.reduceLeDiff]
         rfl
       · simp[Keep,AM.look]
       · simp[AM.look]
     by_cases q2:I.s=[47]
     · obtain⟨h',gs,es⟩:=same (st (by rw[q2]; rfl))
       refine⟨h',gs,?_,?_,?_,?_⟩
       rotate_left 3
       · conv=>lhs; rw[w_loop]; unfold lp4_2
         simp -implicitDefEqProofs (maxSteps:=1000000) only[k4,k5,k6,k7,Lb,bix,bo,bl,bln,eq_true hlt,aix,ald,s2,Ld,dix,do_,dl,eix,eld,s4,F8,F9,w1,es,eq_true e3,eq_false q1,eq_true q2,XS,XT,XF,AV.cells,Nat.reduceAdd,Nat.reduceLT,Nat.reduceEqDiff,↓reduceIte,Nat.reduceLeDiff]
         rfl
       · simp[Keep,AM.look]
       · simp[AM.look]
     by_cases q3:I.s=[37]
     · obtain⟨h',gs,es⟩:=same (st (by rw[q3]; rfl))
       refine⟨h',gs,?_,?_,?_,?_⟩
       rotate_left 3
       · conv=>lhs; rw[w_loop]; unfold lp4_2
         simp -implicitDefEqProofs (maxSteps:=1000000) only[k4,k5,k6,k7,Lb,bix,bo,bl,bln,eq_true hlt,aix,ald,s2,Ld,dix,do_,dl,eix,eld,s4,F8,F9,w1,es,eq_true e3,eq_false q1,eq_false q2,eq_true q3,XS,XT,XF,AV.cells,Nat.reduceAdd,Nat.reduceLT,Nat.reduceEqDiff,↓reduceIte,Nat.reduceLeDiff]
         rfl
       · simp[Keep,AM.look]
       · simp[AM.look]
     by_cases q4:I.s=[60,60]
     · obtain⟨h',gs,es⟩:=same (st (by rw[q4]; rfl))
       refine⟨h',gs,?_,?_,?_,?_⟩
       rotate_left 3
       · conv=>lhs; rw[w_loop]; unfold lp4_2
         simp -implicitDefEqProofs (maxSteps:=1000000) only[k4,k5,k6,k7,Lb,bix,bo,bl,bln,eq_true hlt,aix,ald,s2,Ld,dix,do_,dl,eix,eld,s4,F8,F9,w1,es,eq_true e3,eq_false q1,eq_false q2,eq_false q3,eq_true q4,XS,XT,XF,AV.cells,Nat.reduceAdd,Nat.reduceLT,Nat.reduceEqDiff,↓reduceIte,Nat.reduceLeDiff]
         rfl
       · simp[Keep,AM.look]
       · simp[AM.look]
     by_cases q5:I.s=[62,62]
     · obtain⟨h',gs,es⟩:=same (st (by rw[q5]; rfl))
       refine⟨h',gs,?_,?_,?_,?_⟩
       rotate_left 3
       · conv=>lhs; rw[w_loop]; unfold lp4_2
         simp -implicitDefEqProofs (maxSteps:=1000000) only[k4,k5,k6,k7,Lb,bix,bo,bl,bln,eq_true hlt,aix,ald,s2,Ld,dix,do_,dl,eix,eld,s4,F8,F9,w1,es,eq_true e3,eq_false q1,eq_false q2,eq_false q3,eq_false q4,eq_true q5,XS,XT,XF,AV.cells,Nat.reduceAdd,Nat.reduceLT,Nat.reduceEqDiff,↓reduceIte,Nat.reduceLeDiff]
         rfl
       · simp[Keep,AM.look]
       · simp[AM.look]
     by_cases q6:I.a≤I.b
     · obtain⟨h',gs,es⟩:=same (by rw[← hY]; exact if_neg fun hh=>absurd hh.2.2 (by omega))
       refine⟨h',gs,?_,?_,?_,?_⟩
       rotate_left 3
       · conv=>lhs; rw[w_loop]; unfold lp4_2
         simp -implicitDefEqProofs (maxSteps:=1000000) only[k4,k5,k6,k7,Lb,bix,bo,bl,bln,eq_true hlt,aix,ald,s2,Ld,dix,do_,dl,eix,eld,s4,F8,F9,w1,es,eq_true e3,eq_false q1,eq_false q2,eq_false q3,eq_false q4,eq_false q5,eq_true q6,XS,XT,XF,AV.cells,Nat.reduceAdd,Nat.reduceLT,Nat.reduceEqDiff,↓reduceIte,Nat.reduceLeDiff]
         rfl
       · simp[Keep,AM.look]
       · simp[AM.look]
     have hmi:¬ mirror I.s=[]:=by
       rcases hsg with ⟨h5,_⟩ | h5
       · simp only[stays5,List.mem_cons,List.not_mem_nil,or_false] at h5
         rcases h5 with h5 | h5 | h5 | h5 | h5 <;> contradiction
       · exact h5
     have hYe:Y=⟨I.op,I.ty,I.dst,I.b,I.a,I.n,mirror I.s,I.args⟩:=by rw[← hY]; exact if_pos ⟨e3,hmi,by omega⟩
     have y1:Y.a=I.b:=by rw[hYe]
     have y2:Y.b=I.a:=by rw[hYe]
     have y3:Y.op=I.op:=by rw[hYe]
     have y4':Y.dst=I.dst:=by rw[hYe]
     have y5:Y.ty=I.ty:=by rw[hYe]
     refine⟨((((hk.push (.row [(AV.agg [.int .i64 0,.int .i64 0,.int .i64 0,.int .i64 0,.int .i64 0,.int .i64 0,.str [],.nilsl])] 8)).set hk.next (.row [(AV.agg [.int .i64 I.op,.int .i64 I.ty,.int .i64 I.dst,.int .i64 I.a,.int .i64 I.b,.int .i64 I.n,.str I.s,av])] 8)).push (.row [(AV.agg [.int .i64 0,.int .i64 0,.int .i64 0,.int .i64 0,.int .i64 0,.int .i64 0,.str [],.nilsl])] 8)).set (((hk.push (.row [(AV.agg [.int .i64 0,.int .i64 0,.int .i64 0,.int .i64 0,.int .i64 0,.int .i64 0,.str [],.nilsl])] 8)).set hk.next (.row [(AV.agg [.int .i64 I.op,.int .i64 I.ty,.int .i64 I.dst,.int .i64 I.a,.int .i64 I.b,.int .i64 I.n,.str I.s,av])] 8)).next) (.row [(AV.agg [.int .i64 Y.op,.int .i64 Y.ty,.int .i64 Y.dst,.int .i64 Y.a,.int .i64 Y.b,.int .i64 Y.n,.str Y.s,aw])] 8)),gh4,?_,?_,?_,?_⟩
     rotate_left 3
     · conv=>lhs; rw[w_loop]; unfold lp4_2
       simp -implicitDefEqProofs (maxSteps:=1000000) only[k4,k5,k6,k7,Lb,bix,bo,bl,bln,eq_true hlt,aix,ald,s2,Ld,dix,do_,dl,eix,eld,s4,F8,F9,w1,eq_true e3,eq_false q1,eq_false q2,eq_false q3,eq_false q4,eq_false q5,eq_false q6,eq_true y1,eq_true y2,eq_true y3,eq_true y4',eq_true y5,XS,XT,XF,AV.cells,Nat.reduceAdd,Nat.reduceLT,Nat.reduceEqDiff,↓reduceIte,Nat.reduceLeDiff]
       rfl
     · simp[Keep,AM.look]
     · simp[AM.look]
   obtain⟨h',gs,l',m1,m7,hgo⟩:=fin
   exact⟨l',h',⟨gs,m1.trans kp,m7⟩,hgo⟩
 · rintro lk hk ⟨g,kp,k7⟩
   have k4:=(kp 4 (by simp)).trans l4
   have k6:=(kp 6 (by simp)).trans l6
   obtain⟨cv,b⟩:=blockAt (BlocksR.stays g.kp hbv) hB
   have bix:=b.ix
   have bo:=b.o
   have bl:=b.l0
   have bln:=b.code.len
   have Lb:loadA ty29 (.ptr p4 0 4) hk=some bv:=by rw[load_old ((g.get _ hp4).trans c4)]; rfl
   have hlt:¬ ((B.code.length:Int) < (B.code.length:Int)):=by omega
   have key:∃l',Keep [1,3,4,5,6] l' lk∧evω env (.loop lp4_2) (fset 191 lk) hk=.ok (.exit 4) (fset 191 l') hk:=by
     refine⟨?_,?_,?_⟩
     rotate_left 2
     · conv=>lhs; rw[w_loop]; unfold lp4_2
       simp -implicitDefEqProofs (maxSteps:=1000000) only[k4,k6,k7,Lb,bix,bo,bl,bln,eq_false hlt,XS,XT,XF,AV.cells,Nat.reduceAdd,Nat.reduceLT,Nat.reduceEqDiff,↓reduceIte,Nat.reduceLeDiff]
       rfl
     · simp[Keep,AM.look]
   obtain⟨l',m1,hgo⟩:=key
   exact⟨l',hk,hgo,g,m1.trans kp⟩
end Go.Proofs.AmEnv
namespace Go.Proofs.AmEnv
open Go Go.AM
theorem neqEnd_same (a b c d:Int):binOpA .neq (flatOf env 38) (.agg [.int .i64 a,.int .i64 b,.int .i64 c,.int .i64 d]) (.agg [.int .i64 a,.int .i64 b,.int .i64 c,.int .i64 d])=some (.bool false):=by
 rw[flatEnd]
 refine neq_agg (r:=true) (by simp only[likeL_int,likeL_nil]) (by simp only[likeL_int,likeL_nil]) ?_
 simp only[eqL_int,eqL_nil]
 simp
set_option maxHeartbeats 16000000 in
theorem crBlocks {C:MCode} {rv bv r5 b5:AV} {p4 p5:Nat} {h:Heap} (c4:h.get p4=some (.row [(AV.agg [.str C.name,.int .i64 C.ty,.int .i64 C.params,rv,bv])] 5)) (c5:h.get p5=some (.row [(AV.agg [.str C.name,.int .i64 C.ty,.int .i64 C.params,r5,b5])] 5)) (hp4:p4 < h.next) (hp5:p5 < h.next) (hbv:BlocksR h bv C.blocks) (hb5:BlocksR h b5 (C.blocks.map canonB)) (hok:∀B∈C.blocks,∀I∈B.code,formD I=true)
   {l:List (Nat × AV)} (l4:AM.look l 4=.ptr p4 0 0) (l5:AM.look l 5=.ptr p5 0 0) (l6:AM.look l 6=.int .i64 ((0:Nat):Int)) :
   ∃l' h',evω env (.loop lp4_1) (fset 191 l) h=.ok (.exit 2) (fset 191 l') h'∧Grow h h'∧Keep [1,3,4,5] l' l:=by
 have hle:=hbv.le
 have hlen:=hbv.len
 refine loop_ind (E:=env) (nt:=191) (body:=lp4_1) C.blocks.length (fun k lk hk=>Grow h hk∧Keep [1,3,4,5] lk l∧AM.look lk 6=.int .i64 (k:Int))
   (fun r=>∃l' h',r=.ok (.exit 2) (fset 191 l') h'∧Grow h h'∧Keep [1,3,4,5] l' l) ?_ ?_ C.blocks.length 0 l h (by omega) ⟨.refl h,.refl _ _,l6⟩
 · rintro k lk hk hj ⟨g,kp,k6⟩
   left
   obtain⟨B,hB⟩:∃B,C.blocks[k]?=some B:=⟨_,List.getElem?_eq_getElem hj⟩
   have hB5:(C.blocks.map canonB)[k]?=some (canonB B):=by rw[List.getElem?_map,hB]; rfl
   have k4:=(kp 4 (by simp)).trans l4
   have k5:=(kp 5 (by simp)).trans l5
   obtain⟨cv,b⟩:=blockAt (BlocksR.stays g.kp hbv) hB
   have bix:=b.ix
   have bo:=b.o
   have bl:=b.l0
   have be:=b.l1
   have bln:=b.code.len
   obtain⟨cw,d⟩:=blockAt (BlocksR.stays g.kp hb5) hB5
   have dix:=d.ix
   have do_:=d.o
   have dl:=d.l0
   have de:loadA ty38 (pOff (pIx b5 k) 1) hk=some (.agg [.int .i64 B.kind,.int .i64 B.a,.int .i64 B.to,.int .i64 B.el]):=d.l1
   have dln:lenSl cw=some B.code.length:=d.code.len.trans (congrArg some (List.length_map _))
   have hlt:((k:Int) < (C.blocks.length:Int)):=by omega
   have w1:IntKind.wrap .i64 ((k:Int)+1)=((k+1:Nat):Int):=AM.wrap_small (n:=k+1) (by omega)
   have c4k:=(g.get _ hp4).trans c4
   have c5k:=(g.get _ hp5).trans c5
   have Lb:loadA ty29 (.ptr p4 0 4) hk=some bv:=by rw[load_old c4k]; rfl
   have Ld:loadA ty29 (.ptr p5 0 4) hk=some b5:=by rw[load_old c5k]; rfl
   have key:∃l4',Keep [1,3,4,5] l4' lk∧AM.look l4' 6=.int .i64 (k:Int)∧AM.look l4' 7=.int .i64 ((0:Nat):Int)∧evω env (.loop lp4_1) (fset 191 lk) hk=seqA (evω env (.loop lp4_1)) (seqA (evω env kt4_0) (blockA 3 (blockA 4 (evω env (.loop lp4_2) (fset 191 l4') hk)))):=by
     refine⟨?_,?_,?_,?_,?_⟩
     rotate_left 4
     · conv=>lhs; rw[w_loop]; unfold lp4_1
       simp -implicitDefEqProofs (maxSteps:=1000000) only[k4,k5,k6,Lb,Ld,hlen,eq_true hlt,bix,bo,bl,be,bln,dix,do_,dl,de,dln,neqEnd_same,XS,XT,XF,AV.cells,Nat.reduceAdd,Nat.reduceLT,Nat.reduceEqDiff,↓reduceIte,Nat.reduceLeDiff]
       rfl
     · simp[Keep,AM.look]
     · simp[AM.look,k6]
     · simp[AM.look]
   obtain⟨l4',q1,q6,q7,hgo⟩:=key
   have t4:=(q1 4 (by simp)).trans k4
   have t5:=(q1 5 (by simp)).trans k5
   obtain⟨l5',h5,hin,g5,kp5⟩:=crInstrs (C:=C) c4k c5k (Nat.lt_of_lt_of_le hp4 g.nx) (Nat.lt_of_lt_of_le hp5 g.nx) (BlocksR.stays g.kp hbv) (BlocksR.stays g.kp hb5) hB (hok B (List.mem_of_getElem? hB)) t4 t5 q6 q7
   have u6:=(kp5 6 (by simp)).trans q6
   rw[hgo,hin]
   have key:∃l',Keep [1,3,4,5] l' l5'∧AM.look l' 6=.int .i64 ((k+1:Nat):Int)∧seqA (evω env (.loop lp4_1)) (seqA (evω env kt4_0) (blockA 3 (blockA 4 (.ok (.exit 4) (fset 191 l5') h5))))=evω env (.loop lp4_1) (fset 191 l') h5:=by
     refine⟨?_,?_,?_,?_⟩
     rotate_left 3
     · conv=>lhs; unfold kt4_0
       simp -implicitDefEqProofs (maxSteps:=1000000) only[u6,w1,XS,XT,XF,AV.cells,Nat.reduceAdd,Nat.reduceLT,Nat.reduceEqDiff,↓reduceIte,Nat.reduceLeDiff]
       rfl
     · simp[Keep,AM.look]
     · simp[AM.look]
   obtain⟨l',m1,m6,hgo2⟩:=key
   exact⟨l',h5,⟨g.trans g5,m1.trans ((kp5.sub (by simp)).trans (q1.trans kp)),m6⟩,hgo2⟩
 · rintro lk hk ⟨g,kp,k6⟩
   have k4:=(kp 4 (by simp)).trans l4
   have Lb:loadA ty29 (.ptr p4 0 4) hk=some bv:=by rw[load_old ((g.get _ hp4).trans c4)]; rfl
   have hlt:¬ ((C.blocks.length:Int) < (C.blocks.length:Int)):=by omega
   have key:∃l',Keep [1,3,4,5] l' lk∧evω env (.loop lp4_1) (fset 191 lk) hk=.ok (.exit 2) (fset 191 l') hk:=by
     refine⟨?_,?_,?_⟩
     rotate_left 2
     · conv=>lhs; rw[w_loop]; unfold lp4_1
       simp -implicitDefEqProofs (maxSteps:=1000000) only[k4,k6,Lb,hlen,eq_false hlt,XS,XT,XF,AV.cells,Nat.reduceAdd,Nat.reduceLT,Nat.reduceEqDiff,↓reduceIte,Nat.reduceLeDiff]
       rfl
     · simp[Keep,AM.look]
   obtain⟨l',m1,hgo⟩:=key
   exact⟨l',hk,hgo,g,m1.trans kp⟩
set_option maxHeartbeats 32000000 in
theorem crStep {hk:Heap} {gv fv:AV} {p k:Nat} {Cs:List MCode} {C:MCode} (cell:hk.get p=some (.row [(AV.agg [gv,fv])] 2)) (hp:p < hk.next) (hfv:CodesR hk fv Cs) (hC:Cs[k]?=some C) (hlt:(k:Int) < (Cs.length:Int)) (hle:Cs.length≤140737488355328) (hok:∀B∈C.blocks,∀I∈B.code,formD I=true) {l:List (Nat × AV)} (l1:AM.look l 1=.ptr p 0 0) (l3:AM.look l 3=.int .i64 (k:Int)) :
   ∃l' h',Grow hk h'∧AM.look l' 1=.ptr p 0 0∧AM.look l' 3=.int .i64 ((k+1:Nat):Int)∧evω env (.loop lp4_0) (fset 191 l) hk=evω env (.loop lp4_0) (fset 191 l') h':=by
 obtain⟨rv,bv,c⟩:=codeAt hfv hC
 have cix:=c.ix
 have cld:=c.ld
 have hlen:=hfv.len
 have CRr:CodeR hk (AV.agg [.str C.name,.int .i64 C.ty,.int .i64 C.params,rv,bv]) C:=⟨rv,bv,rfl,c.regs,c.blocks⟩
 have okC:okCells (AV.agg [.str C.name,.int .i64 C.ty,.int .i64 C.params,rv,bv]).cells=true:=by
   have o3:=c.regs.ok
   have o4:=c.blocks.ok
   show okCells [_,_,_,rv,bv]=true
   simp only[okCells_cons,okCells_nil,ok_int,ok_str,o3,o4,Bool.and_self]
 have s2:=newCell (h:=hk) (x:=(AV.agg [.str C.name,.int .i64 C.ty,.int .i64 C.params,rv,bv])) rfl okC rfl
 have G2:Grow hk ((hk.push (.row [(AV.agg [.str [],.int .i64 0,.int .i64 0,.nilsl,.nilsl])] 5)).set hk.next (.row [(AV.agg [.str C.name,.int .i64 C.ty,.int .i64 C.params,rv,bv])] 5)):=cellGrow
 have n2:((hk.push (.row [(AV.agg [.str [],.int .i64 0,.int .i64 0,.nilsl,.nilsl])] 5)).set hk.next (.row [(AV.agg [.str C.name,.int .i64 C.ty,.int .i64 C.params,rv,bv])] 5)).next=hk.next+1:=rfl
 have cl2:((hk.push (.row [(AV.agg [.str [],.int .i64 0,.int .i64 0,.nilsl,.nilsl])] 5)).set hk.next (.row [(AV.agg [.str C.name,.int .i64 C.ty,.int .i64 C.params,rv,bv])] 5)).get hk.next=some (.row [(AV.agg [.str C.name,.int .i64 C.ty,.int .i64 C.params,rv,bv])] 5):=cellGet
 have ld2:loadA ty31 (.ptr hk.next 0 0) ((hk.push (.row [(AV.agg [.str [],.int .i64 0,.int .i64 0,.nilsl,.nilsl])] 5)).set hk.next (.row [(AV.agg [.str C.name,.int .i64 C.ty,.int .i64 C.params,rv,bv])] 5))=some (AV.agg [.str C.name,.int .i64 C.ty,.int .i64 C.params,rv,bv]):=by rw[load_old cl2]; rfl
 obtain⟨x5,h3,F5,e5,o5,G3,w5⟩:=Canon_ok (CodeR.stays G2.kp CRr)
 have o5:CodeO F5 h3 x5 (canonC C):=o5
 obtain⟨r5,b5,hx5⟩:=CodeO.agg o5
 have hx5:x5=(AV.agg [.str C.name,.int .i64 C.ty,.int .i64 C.params,r5,b5]):=hx5
 subst hx5
 have s4:=newCell (h:=h3) (CodeO.good.cl o5) (CodeO.good.ok o5) rfl
 have G4:Grow h3 ((h3.push (.row [(AV.agg [.str [],.int .i64 0,.int .i64 0,.nilsl,.nilsl])] 5)).set h3.next (.row [(AV.agg [.str C.name,.int .i64 C.ty,.int .i64 C.params,r5,b5])] 5)):=cellGrow
 have o54:CodeO F5 ((h3.push (.row [(AV.agg [.str [],.int .i64 0,.int .i64 0,.nilsl,.nilsl])] 5)).set h3.next (.row [(AV.agg [.str C.name,.int .i64 C.ty,.int .i64 C.params,r5,b5])] 5)) (AV.agg [.str C.name,.int .i64 C.ty,.int .i64 C.params,r5,b5]) (canonC C):=CodeO.good.fr (G4.on (CodeO.good.inn o5)) o5
 have G34:=G3.trans G4
 have G24:=G2.trans G34
 have i2:hk.next+1≤h3.next:=G3.nx
 have n4:((h3.push (.row [(AV.agg [.str [],.int .i64 0,.int .i64 0,.nilsl,.nilsl])] 5)).set h3.next (.row [(AV.agg [.str C.name,.int .i64 C.ty,.int .i64 C.params,r5,b5])] 5)).next=h3.next+1:=rfl
 have cl4:((h3.push (.row [(AV.agg [.str [],.int .i64 0,.int .i64 0,.nilsl,.nilsl])] 5)).set h3.next (.row [(AV.agg [.str C.name,.int .i64 C.ty,.int .i64 C.params,r5,b5])] 5)).get hk.next=some (.row [(AV.agg [.str C.name,.int .i64 C.ty,.int .i64 C.params,rv,bv])] 5):=(G34.get _ (by omega)).trans cl2
 have cl5:((h3.push (.row [(AV.agg [.str [],.int .i64 0,.int .i64 0,.nilsl,.nilsl])] 5)).set h3.next (.row [(AV.agg [.str C.name,.int .i64 C.ty,.int .i64 C.params,r5,b5])] 5)).get h3.next=some (.row [(AV.agg [.str C.name,.int .i64 C.ty,.int .i64 C.params,r5,b5])] 5):=cellGet
 have F4:∀t o,loadA t (.ptr hk.next 0 o) ((h3.push (.row [(AV.agg [.str [],.int .i64 0,.int .i64 0,.nilsl,.nilsl])] 5)).set h3.next (.row [(AV.agg [.str C.name,.int .i64 C.ty,.int .i64 C.params,r5,b5])] 5))=partOf t (AV.agg [.str C.name,.int .i64 C.ty,.int .i64 C.params,rv,bv]).cells o:=fun t o=>load_old cl4 t o
 have F5':∀t o,loadA t (.ptr h3.next 0 o) ((h3.push (.row [(AV.agg [.str [],.int .i64 0,.int .i64 0,.nilsl,.nilsl])] 5)).set h3.next (.row [(AV.agg [.str C.name,.int .i64 C.ty,.int .i64 C.params,r5,b5])] 5))=partOf t (AV.agg [.str C.name,.int .i64 C.ty,.int .i64 C.params,r5,b5]).cells o:=fun t o=>load_old cl5 t o
 have hr5:IntsR ((h3.push (.row [(AV.agg [.str [],.int .i64 0,.int .i64 0,.nilsl,.nilsl])] 5)).set h3.next (.row [(AV.agg [.str C.name,.int .i64 C.ty,.int .i64 C.params,r5,b5])] 5)) r5 C.regs∧BlocksR ((h3.push (.row [(AV.agg [.str [],.int .i64 0,.int .i64 0,.nilsl,.nilsl])] 5)).set h3.next (.row [(AV.agg [.str C.name,.int .i64 C.ty,.int .i64 C.params,r5,b5])] 5)) b5 (C.blocks.map canonB):=by
   obtain⟨r,b,hh,a1,a2⟩:=o54.r
   have hh:=AV.agg.inj hh
   cases hh
   exact⟨a1,a2⟩
 have n5:lenSl b5=some C.blocks.length:=hr5.2.len.trans (congrArg some (List.length_map _))
 have nb:=c.blocks.len
 obtain⟨h6,G6,e6⟩:=SameInts_ok hr5.1 (IntsR.stays G24.kp c.regs)
 rw[decide_eq_true rfl] at e6
 have G26:=G24.trans G6
 have Lm0:loadA ty23 (.ptr p 0 1) hk=some fv:=by rw[load_old cell]; rfl
 have w1:IntKind.wrap .i64 ((k:Int)+1)=((k+1:Nat):Int):=AM.wrap_small (n:=k+1) (by omega)
 have key:∃l4',Keep [1,3] l4' l∧AM.look l4' 4=.ptr hk.next 0 0∧AM.look l4' 5=.ptr h3.next 0 0∧AM.look l4' 6=.int .i64 ((0:Nat):Int)∧evω env (.loop lp4_0) (fset 191 l) hk=seqA (evω env (.loop lp4_0)) (seqA (evω env kt4_1) (blockA 1 (blockA 2 (evω env (.loop lp4_1) (fset 191 l4') h6)))):=by
   refine⟨?_,?_,?_,?_,?_,?_⟩
   rotate_left 5
   · conv=>lhs; rw[w_loop]; unfold lp4_0
     simp -implicitDefEqProofs (maxSteps:=1000000) only[l1,l3,Lm0,hlen,eq_true hlt,cix,cld,s2,ld2,e5,s4,F4,F5',n5,nb,e6,XS,XT,XF,AV.cells,Nat.reduceAdd,Nat.reduceLT,Nat.reduceEqDiff,↓reduceIte,Nat.reduceLeDiff]
     rfl
   · simp[Keep,AM.look]
   all_goals simp[AM.look]
 obtain⟨l4',q1,q4,q5,q6,hgo⟩:=key
 have e4:h3.next+1≤h6.next:=G6.nx
 have d4:=(G6.get hk.next (by omega)).trans cl4
 have d5:=(G6.get h3.next (by omega)).trans cl5
 obtain⟨l5',h7,hin,G7,kp5⟩:=crBlocks (C:=C) d4 d5 (by omega) (by omega) (BlocksR.stays G26.kp c.blocks) (BlocksR.stays G6.kp hr5.2) hok q4 q5 q6
 have u3:=((kp5 3 (by simp)).trans (q1 3 (by simp))).trans l3
 have u1:=((kp5 1 (by simp)).trans (q1 1 (by simp))).trans l1
 have key:∃l',AM.look l' 1=.ptr p 0 0∧AM.look l' 3=.int .i64 ((k+1:Nat):Int)∧seqA (evω env (.loop lp4_0)) (seqA (evω env kt4_1) (blockA 1 (blockA 2 (.ok (.exit 2) (fset 191 l5') h7))))=evω env (.loop lp4_0) (fset 191 l') h7:=by
   refine⟨?_,?_,?_,?_⟩
   rotate_left 3
   · conv=>lhs; unfold kt4_1
     simp -implicitDefEqProofs (maxSteps:=1000000) only[u3,w1,XS,XT,XF,AV.cells,Nat.reduceAdd,Nat.reduceLT,Nat.reduceEqDiff,↓reduceIte,Nat.reduceLeDiff]
     rfl
   all_goals simp[AM.look,u1]
 obtain⟨l',k1,k3,hgo2⟩:=key
 exact⟨l',h7,G26.trans G7,k1,k3,by rw[hgo,hin]; exact hgo2⟩
set_option maxHeartbeats 8000000 in
theorem CanonRises_ok {h:Heap} {x:AV} {M:MModu} (hx:ModR h x M) (hs:StrB M):∃h',callω env 4 [x] h=.ok (.bool true) h'∧Grow h h':=by
 obtain⟨gv,fv,rfl,hgv,hfv⟩:=hx
 have o1:=hgv.ok
 have o2:=hfv.ok
 have hle:=hfv.le
 have hlen:=hfv.len
 have g1:Grow h (h.push (.row [(AV.agg [gv,fv])] 2)):=Grow.push h _
 have c1:(h.push (.row [(AV.agg [gv,fv])] 2)).get h.next=some (.row [(AV.agg [gv,fv])] 2):=Heap.get_push_eq h _
 have hp:h.next < (h.push (.row [(AV.agg [gv,fv])] 2)).next:=Nat.lt_succ_self _
 have LM:loadA ty25 (.ptr h.next 0 0) (h.push (.row [(AV.agg [gv,fv])] 2))=some (AV.agg [gv,fv]):=by rw[load_old c1]; rfl
 have xR:ModR (h.push (.row [(AV.agg [gv,fv])] 2)) (AV.agg [gv,fv]) M:=⟨gv,fv,rfl,GlobsR.stays g1.kp hgv,CodesR.stays g1.kp hfv⟩
 obtain⟨b,h2,eb,g2,hmo⟩:=Big15_any xR hs
 have g12:=g1.trans g2
 cases b with
 | true =>
   obtain⟨h3,ew,g3⟩:=works_ok h2
   refine⟨h3,?_,g12.trans g3⟩
   rw[pl4.call h (by simp)]; unfold c4
   simp -implicitDefEqProofs (maxSteps:=1000000) only[o1,o2,LM,eb,ew,XS,XT,XF,AV.cells,Nat.reduceAdd,Nat.reduceLT,Nat.reduceEqDiff,↓reduceIte,Nat.reduceLeDiff]
 | false =>
   have hmo:=hmo rfl
   have c2:h2.get h.next=some (.row [(AV.agg [gv,fv])] 2):=(g2.get _ hp).trans c1
   have hp2:h.next < h2.next:=Nat.lt_of_lt_of_le hp g2.nx
   have key:∃l,AM.look l 1=.ptr h.next 0 0∧AM.look l 3=.int .i64 ((0:Nat):Int)∧callω env 4 [(AV.agg [gv,fv])] h=afterBody env [.tmp 2] (seqA (evω env kt4_2) (blockA 0 (evω env (.loop lp4_0) (fset 191 l) h2))):=by
     refine⟨?_,?_,?_,?_⟩
     rotate_left 3
     · rw[pl4.call h (by simp)]; unfold c4
       simp -implicitDefEqProofs (maxSteps:=1000000) only[o1,o2,LM,eb,XS,XT,XF,AV.cells,Nat.reduceAdd,Nat.reduceLT,Nat.reduceEqDiff,↓reduceIte,Nat.reduceLeDiff]
       rfl
     all_goals simp[AM.look]
   obtain⟨l,k1,k3,hgo⟩:=key
   rw[hgo]
   refine loop_ind (E:=env) (nt:=191) (body:=lp4_0) M.funcs.length (fun k lk hk=>Grow h2 hk∧AM.look lk 1=.ptr h.next 0 0∧AM.look lk 3=.int .i64 (k:Int))
     (fun r=>∃h',afterBody env [.tmp 2] (seqA (evω env kt4_2) (blockA 0 r))=.ok (.bool true) h'∧Grow h h') ?_ ?_ M.funcs.length 0 l h2 (by omega) ⟨.refl h2,k1,k3⟩
   · rintro k lk hk hj ⟨g,k1,k3⟩
     left
     obtain⟨C,hC⟩:∃C,M.funcs[k]?=some C:=⟨_,List.getElem?_eq_getElem hj⟩
     obtain⟨l',h',g',q1,q3,hgo'⟩:=crStep ((g.get _ hp2).trans c2) (Nat.lt_of_lt_of_le hp2 g.nx) (CodesR.stays (g12.trans g).kp hfv) hC (by omega) hle (fun B hB I hI=>(((hmo.fn C (List.mem_of_getElem? hC)).bl B hB).1 I hI).fm) k1 k3
     exact⟨l',h',⟨g.trans g',q1,q3⟩,hgo'⟩
   · rintro lk hk ⟨g,k1,k3⟩
     have L:loadA ty23 (.ptr h.next 0 1) hk=some fv:=by rw[load_old ((g.get _ hp2).trans c2)]; rfl
     have hc:¬ ((M.funcs.length:Int) < (M.funcs.length:Int)):=by omega
     obtain⟨h3,ew,g3⟩:=works_ok hk
     refine⟨h3,?_,(g12.trans g).trans g3⟩
     rw[w_loop]
     unfold lp4_0 kt4_2
     simp -implicitDefEqProofs (maxSteps:=1000000) only[k1,k3,L,hlen,eq_false hc,ew,XS,XT,XF,AV.cells,Nat.reduceAdd,Nat.reduceLT,Nat.reduceEqDiff,↓reduceIte,Nat.reduceLeDiff]
end Go.Proofs.AmEnv
namespace Go.Proofs.AmEnv
open Go Go.AM
open Go.ChangeShapes Go.WideShapes Go.ChangeAt
section
variable {H:Type} {enc:TypeId × Value→H} {P:Program} {W:World} {base:Nat} {spare:Nat→Bool} {held:Bool}
theorem cells_of {E:Env} (hE:EnvOk E P) {t:Nat} {x:TI} (ht:E.ti t=some x):P.cellsOf t=x.size:=by
 obtain⟨i,z,h1,h2,_⟩:=(hE.ti t x ht).info
 unfold Program.cellsOf
 rw[h1]; exact h2
theorem bytes_of {E:Env} (hE:EnvOk E P) {t:Nat} {x:TI} (ht:E.ti t=some x):P.bytesOf t=x.bytes:=by
 obtain⟨i,z,h1,_,h2,_⟩:=(hE.ti t x ht).info
 unfold Program.bytesOf
 rw[h1]; exact h2
variable (hE:EnvOk env P)
include hE
theorem u_int:P.underlying 3=some (.int .i64):=(hE.ti 3 ty3 rfl).desc
theorem u_str:P.underlying 9=some .string:=(hE.ti 9 ty9 rfl).desc
theorem u_ints:P.underlying 28=some (.slice 3):=(hE.ti 28 ty28 rfl).desc
theorem u_instrs:P.underlying 36=some (.slice 42):=(hE.ti 36 ty36 rfl).desc
theorem u_blocks:P.underlying 29=some (.slice 40):=(hE.ti 29 ty29 rfl).desc
theorem u_codes:P.underlying 23=some (.slice 31):=(hE.ti 23 ty23 rfl).desc
theorem u_globs:P.underlying 22=some (.slice 56):=(hE.ti 22 ty22 rfl).desc
theorem c_int:P.cellsOf 3=1:=cells_of hE ti3
theorem c_str:P.cellsOf 9=1:=cells_of hE ti9
theorem c_ints:P.cellsOf 28=1:=cells_of hE ti28
theorem c_instrs:P.cellsOf 36=1:=cells_of hE ti36
theorem c_blocks:P.cellsOf 29=1:=cells_of hE ti29
theorem c_codes:P.cellsOf 23=1:=cells_of hE ti23
theorem c_globs:P.cellsOf 22=1:=cells_of hE ti22
theorem c_instr:P.cellsOf 42=8:=cells_of hE ti42
theorem c_end:P.cellsOf 38=4:=cells_of hE ti38
theorem c_block:P.cellsOf 40=5:=cells_of hE ti40
theorem c_code:P.cellsOf 31=5:=cells_of hE ti31
theorem c_glob:P.cellsOf 56=4:=cells_of hE ti56
theorem c_mod:P.cellsOf 25=2:=cells_of hE ti25
theorem see_int {m n:Nat} {cs:List Value} {d:DataW H} {ps:List MemPlace} (h:DataW.trod enc P W base spare held n 3 cs=some (d,ps)) (hw:Wt P 3 d):∃s,seeA P (m+1) 3 d=some s∧s.length=P.cellsOf 3∧∃z,s=[.int .i64 z]:=by
 obtain⟨z,rfl,e,_⟩:=DataW.trod_int (u_int hE) h
 cases e
 refine⟨[.int .i64 z],?_,by rw[c_int hE]; rfl,z,rfl⟩
 unfold seeA
 rw[u_int hE]
theorem see_str {m n:Nat} {cs:List Value} {d:DataW H} {ps:List MemPlace} (h:DataW.trod enc P W base spare held n 9 cs=some (d,ps)) (hw:Wt P 9 d):∃s,seeA P (m+1) 9 d=some s∧s.length=P.cellsOf 9∧∃b,s=[.str b]∧b.length≤140737488355328:=by
 obtain⟨b,rfl,e,_⟩:=DataW.trod_string (u_str hE) h
 cases e
 refine⟨[.str b.data.toList],?_,by rw[c_str hE]; rfl,_,rfl,?_⟩
 · unfold seeA
   rw[u_str hE]
 · have:=hw b.data.toList.length (by unfold DataW.weights; simp)
   exact Nat.le_trans this (by decide)
omit hE in
def IntQ (acs:List AV) (z:Int):Prop:=acs=[.int .i64 z]
theorem see_ints {m n:Nat} {cs:List Value} {d:DataW H} {ps:List MemPlace} (h:DataW.trod enc P W base spare held n 28 cs=some (d,ps)) (hw:Wt P 28 d):∃s,seeA P (m+2) 28 d=some s∧s.length=P.cellsOf 28∧∃v l,s=[v]∧SlQ P 3 IntQ v l:=by
 obtain⟨v,l,h1,h2⟩:=slice_read (Q:=IntQ) (m:=m+1) (u_ints hE) (by rw[c_int hE]; decide) (fun n cs d ps h hw=>by
   obtain⟨s,h1,h2,z,rfl⟩:=see_int hE (m:=m) h hw
   exact⟨_,z,h1,⟨h2,.inr rfl⟩,rfl⟩) h hw
 exact⟨[v],h1,by rw[c_ints hE]; rfl,v,l,rfl,h2⟩
omit hE in
def InstrQ (P:Program) (acs:List AV) (I:MInstr):Prop:=∃av,acs=[.int .i64 I.op,.int .i64 I.ty,.int .i64 I.dst,.int .i64 I.a,.int .i64 I.b,.int .i64 I.n,.str I.s,av]∧SlQ P 3 IntQ av I.args∧I.s.length≤140737488355328
omit hE in
theorem len8 {ss:List (List AV)} (h:ss.length=8):∃a b c d e f g i,ss=[a,b,c,d,e,f,g,i]:=by
 match ss,h with
 | [a,b,c,d,e,f,g,i],_=>exact⟨a,b,c,d,e,f,g,i,rfl⟩
theorem see_instr {m n:Nat} {cs:List Value} {d:DataW H} {ps:List MemPlace} (h:DataW.trod enc P W base spare held n 42 cs=some (d,ps)) (hw:Wt P 42 d):∃acs I,seeA P (m+3) 42 d=some acs∧(acs.length=P.cellsOf 42∧(aggT P 42=true∨acs.length=1))∧InstrQ P acs I:=by
 obtain⟨fs,hu,hm,_⟩:=(hE.ti 42 ty42 rfl).desc
 have hm:fs.toList.map (fun f=>(f.type,f.offset))=[(3,0),(3,1),(3,2),(3,3),(3,4),(3,5),(9,6),(28,7)]:=hm
 obtain ⟨ss,h1,h2,h3,h4⟩:=struct_see (m:=m+2) (Qs:=fun i s=>(i < 6→∃z,s=[.int .i64 z])∧(i=6→∃b,s=[.str b]∧b.length≤140737488355328)∧(i=7→∃v l,s=[v]∧SlQ P 3 IntQ v l)) hu hm
   (by simp only[OffsL,c_int hE,c_str hE,c_ints hE,and_self]) (by simp only[c_instr hE,List.map_cons,List.map_nil,List.sum_cons,List.sum_nil,Nat.reduceAdd,c_int hE,c_str hE,c_ints hE])
   (fun i ty off hL n cs d ps h hw=>by
     rcases i with _ | _ | _ | _ | _ | _ | _ | _ | i
     iterate 6
       · cases hL
         obtain⟨s,k1,k2,k3⟩:=see_int hE (m:=m+1) h hw
         exact⟨s,k1,k2,fun _=>k3,fun hh=>by omega,fun hh=>by omega⟩
     · cases hL
       obtain⟨s,k1,k2,k3⟩:=see_str hE (m:=m+1) h hw
       exact⟨s,k1,k2,fun hh=>by omega,fun _=>k3,fun hh=>by omega⟩
     · cases hL
       obtain⟨s,k1,k2,k3⟩:=see_ints hE (m:=m) h hw
       exact⟨s,k1,k2,fun hh=>by omega,fun hh=>by omega,fun _=>k3⟩
     · simp at hL) h hw
 obtain⟨a,b,c,e,f,g,s6,s7,rfl⟩:=len8 h3
 obtain⟨z0,rfl⟩:=(h4 0 _ rfl).1 (by omega)
 obtain⟨z1,rfl⟩:=(h4 1 _ rfl).1 (by omega)
 obtain⟨z2,rfl⟩:=(h4 2 _ rfl).1 (by omega)
 obtain⟨z3,rfl⟩:=(h4 3 _ rfl).1 (by omega)
 obtain⟨z4,rfl⟩:=(h4 4 _ rfl).1 (by omega)
 obtain⟨z5,rfl⟩:=(h4 5 _ rfl).1 (by omega)
 obtain⟨b6,rfl,hb6⟩:=(h4 6 _ rfl).2.1 rfl
 obtain⟨v,l,rfl,hv⟩:=(h4 7 _ rfl).2.2 rfl
 exact⟨_,⟨z0,z1,z2,z3,z4,z5,b6,l⟩,h1,⟨h2,.inl (by unfold aggT; rw[hu])⟩,v,rfl,hv,hb6⟩
omit hE in
def BlockQ (P:Program) (acs:List AV) (B:MBlock):Prop:=∃cv,acs=[cv,.int .i64 B.kind,.int .i64 B.a,.int .i64 B.to,.int .i64 B.el]∧SlQ P 42 (InstrQ P) cv B.code
theorem see_instrs {m n:Nat} {cs:List Value} {d:DataW H} {ps:List MemPlace} (h:DataW.trod enc P W base spare held n 36 cs=some (d,ps)) (hw:Wt P 36 d):∃s,seeA P (m+4) 36 d=some s∧s.length=P.cellsOf 36∧∃v l,s=[v]∧SlQ P 42 (InstrQ P) v l:=by
 obtain⟨v,l,h1,h2⟩:=slice_read (Q:=InstrQ P) (m:=m+3) (u_instrs hE) (by rw[c_instr hE]; decide) (fun n cs d ps h hw=>see_instr hE h hw) h hw
 exact⟨[v],h1,by rw[c_instrs hE]; rfl,v,l,rfl,h2⟩
theorem see_end {m n:Nat} {cs:List Value} {d:DataW H} {ps:List MemPlace} (h:DataW.trod enc P W base spare held n 38 cs=some (d,ps)) (hw:Wt P 38 d):∃s,seeA P (m+2) 38 d=some s∧s.length=P.cellsOf 38∧∃x y z w,s=[.int .i64 x,.int .i64 y,.int .i64 z,.int .i64 w]:=by
 obtain⟨fs,hu,hm,_⟩:=(hE.ti 38 ty38 rfl).desc
 have hm:fs.toList.map (fun f=>(f.type,f.offset))=[(3,0),(3,1),(3,2),(3,3)]:=hm
 obtain ⟨ss,h1,h2,h3,h4⟩:=struct_see (m:=m+1) (Qs:=fun i s=>∃z,s=[.int .i64 z]) hu hm
   (by simp only[OffsL,c_int hE,and_self]) (by simp only[c_end hE,List.map_cons,List.map_nil,List.sum_cons,List.sum_nil,Nat.reduceAdd,c_int hE])
   (fun i ty off hL n cs d ps h hw=>by
     rcases i with _ | _ | _ | _ | i
     iterate 4
       · cases hL
         exact see_int hE (m:=m) h hw
     · simp at hL) h hw
 match ss,h3 with
 | [a,b,c,e],_ =>
   obtain⟨z0,rfl⟩:=h4 0 _ rfl
   obtain⟨z1,rfl⟩:=h4 1 _ rfl
   obtain⟨z2,rfl⟩:=h4 2 _ rfl
   obtain⟨z3,rfl⟩:=h4 3 _ rfl
   exact⟨_,h1,h2,z0,z1,z2,z3,rfl⟩
theorem see_block {m n:Nat} {cs:List Value} {d:DataW H} {ps:List MemPlace} (h:DataW.trod enc P W base spare held n 40 cs=some (d,ps)) (hw:Wt P 40 d):∃acs B,seeA P (m+5) 40 d=some acs∧(acs.length=P.cellsOf 40∧(aggT P 40=true∨acs.length=1))∧BlockQ P acs B:=by
 obtain⟨fs,hu,hm,_⟩:=(hE.ti 40 ty40 rfl).desc
 have hm:fs.toList.map (fun f=>(f.type,f.offset))=[(36,0),(38,1)]:=hm
 obtain⟨ss,h1,h2,h3,h4⟩:=struct_see (m:=m+4) (Qs:=fun i s=>(i=0→∃v l,s=[v]∧SlQ P 42 (InstrQ P) v l)∧(i=1→∃x y z w,s=[.int .i64 x,.int .i64 y,.int .i64 z,.int .i64 w])) hu hm
   (by simp only[OffsL,c_instrs hE,and_self]) (by simp only[c_block hE,List.map_cons,List.map_nil,List.sum_cons,List.sum_nil,Nat.reduceAdd,c_instrs hE,c_end hE])
   (fun i ty off hL n cs d ps h hw=>by
     rcases i with _ | _ | i
     · cases hL
       obtain⟨s,k1,k2,k3⟩:=see_instrs hE (m:=m) h hw
       exact⟨s,k1,k2,fun _=>k3,fun hh=>by omega⟩
     · cases hL
       obtain⟨s,k1,k2,k3⟩:=see_end hE (m:=m+2) h hw
       exact⟨s,k1,k2,fun hh=>by omega,fun _=>k3⟩
     · simp at hL) h hw
 match ss,h3 with
 | [a,b],_ =>
   obtain⟨v,l,rfl,hv⟩:=(h4 0 _ rfl).1 rfl
   obtain⟨x,y,z,w,rfl⟩:=(h4 1 _ rfl).2 rfl
   exact⟨_,⟨l,x,y,z,w⟩,h1,⟨h2,.inl (by unfold aggT; rw[hu])⟩,v,rfl,hv⟩
theorem see_blocks {m n:Nat} {cs:List Value} {d:DataW H} {ps:List MemPlace} (h:DataW.trod enc P W base spare held n 29 cs=some (d,ps)) (hw:Wt P 29 d):∃s,seeA P (m+6) 29 d=some s∧s.length=P.cellsOf 29∧∃v l,s=[v]∧SlQ P 40 (BlockQ P) v l:=by
 obtain⟨v,l,h1,h2⟩:=slice_read (Q:=BlockQ P) (m:=m+5) (u_blocks hE) (by rw[c_block hE]; decide) (fun n cs d ps h hw=>see_block hE h hw) h hw
 exact⟨[v],h1,by rw[c_blocks hE]; rfl,v,l,rfl,h2⟩
omit hE in
def CodeQ (P:Program) (acs:List AV) (C:MCode):Prop:=∃rv bv,acs=[.str C.name,.int .i64 C.ty,.int .i64 C.params,rv,bv]∧SlQ P 3 IntQ rv C.regs∧SlQ P 40 (BlockQ P) bv C.blocks
theorem see_code {m n:Nat} {cs:List Value} {d:DataW H} {ps:List MemPlace} (h:DataW.trod enc P W base spare held n 31 cs=some (d,ps)) (hw:Wt P 31 d):∃acs C,seeA P (m+7) 31 d=some acs∧(acs.length=P.cellsOf 31∧(aggT P 31=true∨acs.length=1))∧CodeQ P acs C:=by
 obtain⟨fs,hu,hm,_⟩:=(hE.ti 31 ty31 rfl).desc
 have hm:fs.toList.map (fun f=>(f.type,f.offset))=[(9,0),(3,1),(3,2),(28,3),(29,4)]:=hm
 obtain⟨ss,h1,h2,h3,h4⟩:=struct_see (m:=m+6) (Qs:=fun i s=>(i=0→∃b,s=[.str b]∧b.length≤140737488355328)∧((i=1∨i=2)→∃z,s=[.int .i64 z])∧(i=3→∃v l,s=[v]∧SlQ P 3 IntQ v l)∧(i=4→∃v l,s=[v]∧SlQ P 40 (BlockQ P) v l)) hu hm
   (by simp only[OffsL,c_int hE,c_str hE,c_ints hE,and_self]) (by simp only[c_code hE,List.map_cons,List.map_nil,List.sum_cons,List.sum_nil,Nat.reduceAdd,c_int hE,c_str hE,c_ints hE,c_blocks hE])
   (fun i ty off hL n cs d ps h hw=>by
     rcases i with _ | _ | _ | _ | _ | i
     · cases hL
       obtain⟨s,k1,k2,k3⟩:=see_str hE (m:=m+5) h hw
       exact⟨s,k1,k2,fun _=>k3,fun hh=>by omega,fun hh=>by omega,fun hh=>by omega⟩
     · cases hL
       obtain⟨s,k1,k2,k3⟩:=see_int hE (m:=m+5) h hw
       exact⟨s,k1,k2,fun hh=>by omega,fun _=>k3,fun hh=>by omega,fun hh=>by omega⟩
     · cases hL
       obtain⟨s,k1,k2,k3⟩:=see_int hE (m:=m+5) h hw
       exact⟨s,k1,k2,fun hh=>by omega,fun _=>k3,fun hh=>by omega,fun hh=>by omega⟩
     · cases hL
       obtain⟨s,k1,k2,k3⟩:=see_ints hE (m:=m+4) h hw
       exact⟨s,k1,k2,fun hh=>by omega,fun hh=>by omega,fun _=>k3,fun hh=>by omega⟩
     · cases hL
       obtain⟨s,k1,k2,k3⟩:=see_blocks hE (m:=m) h hw
       exact⟨s,k1,k2,fun hh=>by omega,fun hh=>by omega,fun hh=>by omega,fun _=>k3⟩
     · simp at hL) h hw
 match ss,h3 with
 | [a,b,c,e,f],_ =>
   obtain⟨b0,rfl,_⟩:=(h4 0 _ rfl).1 rfl
   obtain⟨z1,rfl⟩:=(h4 1 _ rfl).2.1 (.inl rfl)
   obtain⟨z2,rfl⟩:=(h4 2 _ rfl).2.1 (.inr rfl)
   obtain⟨v3,l3,rfl,hv3⟩:=(h4 3 _ rfl).2.2.1 rfl
   obtain⟨v4,l4,rfl,hv4⟩:=(h4 4 _ rfl).2.2.2 rfl
   exact⟨_,⟨b0,z1,z2,l3,l4⟩,h1,⟨h2,.inl (by unfold aggT; rw[hu])⟩,v3,v4,rfl,hv3,hv4⟩
omit hE in
def GlobQ (acs:List AV) (G:MGlob):Prop:=acs=[.str G.name,.int .i64 G.ty,.int .i64 G.size,.int .i64 G.at_]
theorem see_glob {m n:Nat} {cs:List Value} {d:DataW H} {ps:List MemPlace} (h:DataW.trod enc P W base spare held n 56 cs=some (d,ps)) (hw:Wt P 56 d):∃acs G,seeA P (m+2) 56 d=some acs∧(acs.length=P.cellsOf 56∧(aggT P 56=true∨acs.length=1))∧GlobQ acs G:=by
 obtain⟨fs,hu,hm,_⟩:=(hE.ti 56 ty56 rfl).desc
 have hm:fs.toList.map (fun f=>(f.type,f.offset))=[(9,0),(3,1),(3,2),(3,3)]:=hm
 obtain ⟨ss,h1,h2,h3,h4⟩:=struct_see (m:=m+1) (Qs:=fun i s=>(i=0→∃b,s=[.str b]∧b.length≤140737488355328)∧(0 < i→∃z,s=[.int .i64 z])) hu hm
   (by simp only[OffsL,c_int hE,c_str hE,and_self]) (by simp only[c_glob hE,List.map_cons,List.map_nil,List.sum_cons,List.sum_nil,Nat.reduceAdd,c_int hE,c_str hE])
   (fun i ty off hL n cs d ps h hw=>by
     rcases i with _ | _ | _ | _ | i
     · cases hL
       obtain⟨s,k1,k2,k3⟩:=see_str hE (m:=m) h hw
       exact⟨s,k1,k2,fun _=>k3,fun hh=>by omega⟩
     iterate 3
       · cases hL
         obtain⟨s,k1,k2,k3⟩:=see_int hE (m:=m) h hw
         exact⟨s,k1,k2,fun hh=>by omega,fun _=>k3⟩
     · simp at hL) h hw
 match ss,h3 with
 | [a,b,c,e],_ =>
   obtain⟨b0,rfl,_⟩:=(h4 0 _ rfl).1 rfl
   obtain⟨z1,rfl⟩:=(h4 1 _ rfl).2 (by omega)
   obtain⟨z2,rfl⟩:=(h4 2 _ rfl).2 (by omega)
   obtain⟨z3,rfl⟩:=(h4 3 _ rfl).2 (by omega)
   exact⟨_,⟨b0,z1,z2,z3⟩,h1,⟨h2,.inl (by unfold aggT; rw[hu])⟩,rfl⟩
theorem see_mod {n:Nat} {cs:List Value} {d:DataW H} {ps:List MemPlace} (h:DataW.trod enc P W base spare held n 25 cs=some (d,ps)) (hw:Wt P 25 d):∃gv fv,∃M:MModu,seeA P 9 25 d=some [gv,fv]∧SlQ P 56 GlobQ gv M.globals∧SlQ P 31 (CodeQ P) fv M.funcs:=by
 obtain⟨fs,hu,hm,_⟩:=(hE.ti 25 ty25 rfl).desc
 have hm:fs.toList.map (fun f=>(f.type,f.offset))=[(22,0),(23,1)]:=hm
 obtain⟨ss,h1,h2,h3,h4⟩:=struct_see (m:=8) (Qs:=fun i s=>(i=0→∃v l,s=[v]∧SlQ P 56 GlobQ v l)∧(i=1→∃v l,s=[v]∧SlQ P 31 (CodeQ P) v l)) hu hm
   (by simp only[OffsL,c_globs hE,and_self]) (by simp only[c_mod hE,List.map_cons,List.map_nil,List.sum_cons,List.sum_nil,Nat.reduceAdd,c_globs hE,c_codes hE])
   (fun i ty off hL n cs d ps h hw=>by
     rcases i with _ | _ | i
     · cases hL
       obtain⟨v,l,k1,k2⟩:=slice_read (Q:=GlobQ) (m:=7) (u_globs hE) (by rw[c_glob hE]; decide) (fun n cs d ps h hw=>see_glob hE (m:=5) h hw) h hw
       exact⟨[v],k1,by rw[c_globs hE]; rfl,fun _=>⟨v,l,rfl,k2⟩,fun hh=>by omega⟩
     · cases hL
       obtain⟨v,l,k1,k2⟩:=slice_read (Q:=CodeQ P) (m:=7) (u_codes hE) (by rw[c_code hE]; decide) (fun n cs d ps h hw=>see_code hE (m:=0) h hw) h hw
       exact⟨[v],k1,by rw[c_codes hE]; rfl,fun hh=>by omega,fun _=>⟨v,l,rfl,k2⟩⟩
     · simp at hL) h hw
 match ss,h3 with
 | [a,b],_ =>
   obtain⟨v0,l0,rfl,hv0⟩:=(h4 0 _ rfl).1 rfl
   obtain⟨v1,l1,rfl,hv1⟩:=(h4 1 _ rfl).2 rfl
   exact⟨v0,v1,⟨l0,l1⟩,h1,hv0,hv1⟩
omit hE in
theorem agg_of {t:TypeId} {acs:List AV} (h:aggT P t=true):seeV P t acs=.agg acs:=by unfold seeV; rw[h]; rfl
theorem b_int:P.bytesOf 3=8:=bytes_of hE ti3
theorem b_instr:P.bytesOf 42=88:=bytes_of hE ti42
theorem b_block:P.bytesOf 40=56:=bytes_of hE ti40
theorem b_code:P.bytesOf 31=80:=bytes_of hE ti31
theorem b_glob:P.bytesOf 56=40:=bytes_of hE ti56
theorem aggS {t:TypeId} {x:TI} {L:List (Nat × Nat)} {fl:Bool} (ht:env.ti t=some x) (hd:x.desc=.struct L fl):aggT P t=true:=by
 have h:=(hE.ti t x ht).desc
 unfold descOk at h
 rw[hd] at h
 obtain⟨fs,hu,_⟩:=h
 unfold aggT
 rw[hu]
theorem aggI:aggT P 3=false:=by unfold aggT; rw[u_int hE]
theorem ints_R {v:AV} {l:List Int} (hq:SlQ P 3 IntQ v l) (h:Heap):IntsR h v l :=
 hq.ls (b_int hE) (by decide) (fun r X hr=>by
   have hr:r=[.int .i64 X]:=hr
   subst hr
   have:seeV P 3 [.int .i64 X]=.int .i64 X:=by unfold seeV; rw[aggI hE]; rfl
   rw[this]; exact⟨fun _=>rfl,rfl⟩) h
theorem instr_R {acs:List AV} {I:MInstr} (hq:InstrQ P acs I):(∀h,InstrR h (seeV P 42 acs) I)∧(seeV P 42 acs).cells.length=8:=by
 obtain⟨av,rfl,h1,_⟩:=hq
 rw[agg_of (aggS hE ti42 rfl)]
 exact⟨fun h=>⟨av,rfl,ints_R hE h1 h⟩,rfl⟩
theorem instrs_R {v:AV} {l:List MInstr} (hq:SlQ P 42 (InstrQ P) v l) (h:Heap):InstrsR h v l:=hq.ls (b_instr hE) (by decide) (fun r X hr=>instr_R hE hr) h
theorem block_R {acs:List AV} {B:MBlock} (hq:BlockQ P acs B):(∀h,BlockR h (seeV P 40 acs) B)∧(seeV P 40 acs).cells.length=5:=by
 obtain⟨av,rfl,h1⟩:=hq
 rw[agg_of (aggS hE ti40 rfl)]
 exact⟨fun h=>⟨av,rfl,instrs_R hE h1 h⟩,rfl⟩
theorem blocks_R {v:AV} {l:List MBlock} (hq:SlQ P 40 (BlockQ P) v l) (h:Heap):BlocksR h v l:=hq.ls (b_block hE) (by decide) (fun r X hr=>block_R hE hr) h
theorem code_R {acs:List AV} {C:MCode} (hq:CodeQ P acs C):(∀h,CodeR h (seeV P 31 acs) C)∧(seeV P 31 acs).cells.length=5:=by
 obtain⟨rv,bv,rfl,h1,h2⟩:=hq
 rw[agg_of (aggS hE ti31 rfl)]
 exact⟨fun h=>⟨rv,bv,rfl,ints_R hE h1 h,blocks_R hE h2 h⟩,rfl⟩
theorem glob_R {acs:List AV} {G:MGlob} (hq:GlobQ acs G):(∀h,GlobR h (seeV P 56 acs) G)∧(seeV P 56 acs).cells.length=4:=by
 have hq:acs=_:=hq
 subst hq
 rw[agg_of (aggS hE ti56 rfl)]
 exact⟨fun _=>rfl,rfl⟩
theorem mod_see {n:Nat} {cs:List Value} {d:DataW H} {ps:List MemPlace} (h:DataW.trod enc P W base spare held n 25 cs=some (d,ps)) (hw:Wt P 25 d):∃acs,∃M:MModu,seeA P 9 25 d=some acs∧(∀h,ModR h (.agg acs) M)∧StrB M:=by
 obtain⟨gv,fv,M,h1,h2,h3⟩:=see_mod hE h hw
 refine⟨[gv,fv],M,h1,fun h=>⟨gv,fv,rfl,h2.ls (b_glob hE) (by decide) (fun r X hr=>glob_R hE hr) h,h3.ls (b_code hE) (by decide) (fun r X hr=>code_R hE hr) h⟩,fun C hC B hB I hI=>?_⟩
 obtain⟨r,rv,bv,_,_,h4⟩:=h3.mem hC
 obtain⟨r2,cv,_,h5⟩:=h4.mem hB
 obtain⟨r3,av,_,_,h6⟩:=h5.mem hI
 exact h6
end
end Go.Proofs.AmEnv
