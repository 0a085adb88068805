/- The abstract machine, part seven: a long run, gone over in parts. Conditions: none. -/
import Derived.Test.YtcipkemddanppaaGreatAmSix
set_option linter.unusedVariables false
set_option linter.unusedSimpArgs false
/-
  The abstract machine: a long run, gone over in parts.
-/
namespace Go.AM
noncomputable section
namespace XC
def l (c : XC) : XC := match c with | .seq a _ => a | .cond _ a _ => a | .block _ c => c | .loop c => c | .scope c => c | c => c
def r (c : XC) : XC := match c with | .seq _ b => b | .cond _ _ b => b | c => c
def pre (k : Nat) : XC → XC := match k with
  | 0 => fun _ => .skip
  | k + 1 => fun c => match c with | .seq a b => .seq a (pre k b) | _ => .bad
def suf (k : Nat) : XC → XC := match k with
  | 0 => fun c => c
  | k + 1 => fun c => match c with | .seq _ b => suf k b | _ => .bad
def reps (k : Nat) (c : XC) : XC := match k with
  | 0 => .skip
  | k + 1 => .seq c (reps k c)
def ol (c : XC) : List XOp := match c with | .reg _ l => l | _ => []
end XC
def path2 (x : Option AObj) (f : Nat) : Nat → HT :=
  Nat.rec (motive := fun _ => Nat → HT) (fun _ => .nil)
    (fun _ ih i => Nat.rec (motive := fun _ => HT) (.node .nil x .nil) (fun k _ => Nat.rec (motive := fun _ => HT) (.node (ih (Nat.shiftRight k 1)) none .nil) (fun _ _ => .node .nil none (ih (Nat.shiftRight k 1))) (Nat.land k 1)) i) f
def put2 (x : Option AObj) (f : Nat) (t : HT) : Nat → HT :=
  HT.rec (motive := fun _ => Option AObj → Nat → Nat → HT) (fun x f i => path2 x f i)
    (fun l v r pl pr x f i => Nat.rec (motive := fun _ => HT) (.node l x r) (fun k _ => Nat.rec (motive := fun _ => HT) (.node (pl x f (Nat.shiftRight k 1)) v r) (fun _ _ => .node l v (pr x f (Nat.shiftRight k 1))) (Nat.land k 1)) i) t x f
def appN2 (a b : List Nat) : List Nat := List.rec (motive := fun _ => List Nat) b (fun i _ ih => i :: ih) a
def hApp (h : Heap) (n : Nat) (t : List Nat) (l : List (Nat × Option AObj)) : Heap := ⟨n, t, List.rec (motive := fun _ => HT → HT) (fun t => t) (fun p _ ih t => ih (put2 p.2 (p.1 + 1) t p.1)) l h.os⟩
def R (sz : Nat) (es : List AV) : Option AObj := some (.row es sz)
def I (n : Int) : AV := .int .i64 n
def takeX (l : List XOp) (k : Nat) : List XOp := l.take k
def dropX (l : List XOp) (k : Nat) : List XOp := l.drop k
def headX (l : List XOp) : XOp := match l with | o :: _ => o | [] => ⟨none, .panic (.tmp 0), none, false, [], false⟩
end
theorem dropX_dropX (l : List XOp) (i k : Nat) : dropX (dropX l i) k = dropX l (i + k) := by unfold dropX; rw [List.drop_drop]
noncomputable section
variable {α β : Type}
def nfK (k : Go.IntKind) (f : Go.IntKind → α) : α := match k with | .i8 => f .i8 | .i16 => f .i16 | .i32 => f .i32 | .i64 => f .i64 | .u8 => f .u8 | .u16 => f .u16 | .u32 => f .u32 | .u64 => f .u64
def nfB (b : Bool) (f : Bool → α) : α := match b with | true => f true | false => f false
def nfN (n : Nat) (f : Nat → α) : α := forceN n f
def nfI (n : Int) (f : Int → α) : α := forceI n f
def nfList (g : β → (β → α) → α) (l : List β) (f : List β → α) : α := List.rec (motive := fun _ => (List β → α) → α) (fun f => f []) (fun x _ ih f => g x fun x => ih fun r => f (x :: r)) l f
def nfOpt (g : β → (β → α) → α) (l : Option β) (f : Option β → α) : α := match l with | none => f none | some x => g x fun x => f (some x)
def nfByte (b : UInt8) (f : UInt8 → α) : α := forceN b.toNat fun n => f (UInt8.ofNat n)
def nfFn (g : Go.Fn) (f : Go.Fn → α) : α := match g with | .func n => nfN n fun n => f (.func n) | g => f g
def nfA (m : Nat) : AV → (AV → α) → α :=
  Nat.rec (motive := fun _ => AV → (AV → α) → α) (fun v f => f v) (fun _ ih v f => match v with
    | .int k n => nfK k fun k => nfI n fun n => f (.int k n)
    | .bool b => nfB b fun b => f (.bool b)
    | .str s => nfList nfByte s fun s => f (.str s)
    | .agg cs => nfList ih cs fun cs => f (.agg cs)
    | .tup cs => nfList ih cs fun cs => f (.tup cs)
    | .fsl cs b => nfList ih cs fun cs => nfB b fun b => f (.fsl cs b)
    | .fptr v o => ih v fun v => nfN o fun o => f (.fptr v o)
    | .msl a b c d => nfN a fun a => nfN b fun b => nfN c fun c => nfN d fun d => f (.msl a b c d)
    | .ptr a b c => nfN a fun a => nfN b fun b => nfN c fun c => f (.ptr a b c)
    | .nilsl => f .nilsl
    | .nilptr => f .nilptr
    | .nilmap => f .nilmap
    | .map a => nfN a fun a => f (.map a)
    | .fn g a b => nfFn g fun g => nfList ih a fun a => nfList ih b fun b => f (.fn g a b)
    | .nilfn => f .nilfn
    | .iface t v => nfN t fun t => ih v fun v => f (.iface t v)
    | .niliface => f .niliface
    | .any => f .any
    | .und => f .und) m
def nfV : AV → (AV → α) → α := nfA 40
def nfP (p : AV × AV) (f : AV × AV → α) : α := nfV p.1 fun a => nfV p.2 fun b => f (a, b)
def nfO (o : AObj) (f : AObj → α) : α := match o with
  | .row es sz => nfList nfV es fun es => nfN sz fun sz => f (.row es sz)
  | .mapo es => nfList nfP es fun es => f (.mapo es)
def nfT (t : Tr) (f : Tr → α) : α := Tr.rec (motive := fun _ => (Tr → α) → α) (fun f => f .nil) (fun _ v _ l r f => l fun l => nfV v fun v => r fun r => f (.node l v r)) t f
def nfHT (t : HT) (f : HT → α) : α := HT.rec (motive := fun _ => (HT → α) → α) (fun f => f .nil) (fun _ v _ l r f => l fun l => nfOpt nfO v fun v => r fun r => f (.node l v r)) t f
def nfH (h : Heap) (f : Heap → α) : α := match h with | ⟨n, t, o⟩ => nfN n fun n => nfList nfN t fun t => nfHT o fun o => f ⟨n, t, o⟩
def nfEx (e : Ex) (f : Ex → α) : α := match e with | .normal => f .normal | .exit i => nfN i fun i => f (.exit i) | .ret => f .ret
def nfC (r : CRes) : CRes := match r with | .ok e fr h => nfEx e fun e => nfT fr fun fr => nfH h fun h => .ok e fr h | .pan v h => .pan v h | .bad => .bad
def nfR (r : Res) : Res := match r with | .ok v h => nfV v fun v => nfH h fun h => .ok v h | .pan v h => .pan v h | .bad => .bad
def nfD (r : DRes) : DRes := match r with | .ok v h d => nfV v fun v => nfH h fun h => nfList nfN d fun d => .ok v h d | .pan v h => .pan v h | .bad => .bad
inductive DS where
  | ok (fr : Tr) (h : Heap) (d : List Nat)
  | bad
def nfDS (r : DS) : DS := match r with | .ok fr h d => nfT fr fun fr => nfH h fun h => nfList nfN d fun d => .ok fr h d | .bad => .bad
def nfNs (l : List Nat) : List Nat := nfList nfN l fun l => l
def thenDS (dst : Option Go.Tmp) (k : Tr → Heap → List Nat → DS) (fr : Tr) (r : DRes) : DS := match r with | .ok v h d => k (setDst dst v fr) h d | .pan _ _ => .bad | .bad => .bad
def runD (E : Env) (call : CallF) (l : List XOp) : Tr → Heap → List Nat → DS :=
  List.rec (motive := fun _ => Tr → Heap → List Nat → DS) (fun fr h d => .ok fr h d)
    (fun o _ ih fr h d => onOB (guardOk o.gd fr) .bad (thenDS o.dst ih fr (evOpD E call o fr h d)) (ih (setDst o.dst skipped fr) h d)) l
def inD (o : XOp) (h : Heap) : Heap := bif o.quiet then ⟨h.next, [], h.os⟩ else h
def nfIn (o : XOp) (h : Heap) : Heap := nfH (inD o h) fun h => h
def outD (E : Env) (o : XOp) (fr : Tr) (h : Heap) (d : List Nat) (r : Res) : DRes :=
  bif o.quiet then quietD h.next h.tch d r else bif o.careful then (bif readOk (readO E o.op fr) d then plainD' d r else .bad) else plainD' d r
def nfVs (l : List AV) : List AV := nfList nfV l fun l => l
def nfTr (t : Tr) : Tr := nfT t fun t => t
def clH (h : Heap) : Heap := nfH ⟨h.next, [], h.os⟩ fun h => h
def gcH (h h1 : Heap) : Heap := nfH ⟨h1.next, appN (belowN h.next h1.tch) h.tch, h.os.trunc h1.os⟩ fun h => h
end
section
variable {α β : Type}
theorem nfK_eq (k : Go.IntKind) (f : Go.IntKind → α) : nfK k f = f k := by cases k <;> rfl
theorem nfB_eq (b : Bool) (f : Bool → α) : nfB b f = f b := by cases b <;> rfl
theorem nfN_eq (n : Nat) (f : Nat → α) : nfN n f = f n := forceN_eq n f
theorem nfI_eq (n : Int) (f : Int → α) : nfI n f = f n := forceI_eq n f
theorem nfList_eq {g : β → (β → α) → α} (hg : ∀ x f, g x f = f x) : ∀ (l : List β) (f : List β → α), nfList g l f = f l
  | [], f => rfl
  | x :: l, f => (hg x _).trans (nfList_eq hg l _)
theorem nfOpt_eq {g : β → (β → α) → α} (hg : ∀ x f, g x f = f x) (l : Option β) (f : Option β → α) : nfOpt g l f = f l := by
  cases l with
  | none => rfl
  | some x => exact hg x _
theorem nfByte_eq (b : UInt8) (f : UInt8 → α) : nfByte b f = f b := by
  unfold nfByte
  rw [forceN_eq, UInt8.ofNat_toNat]
theorem nfFn_eq (g : Go.Fn) (f : Go.Fn → α) : nfFn g f = f g := by
  cases g with
  | func n => exact nfN_eq n _
  | _ => rfl
theorem nfA_eq : ∀ (m : Nat) (v : AV) (f : AV → α), nfA m v f = f v
  | 0, v, f => rfl
  | m + 1, v, f => by
    cases v with
    | int k n => exact (nfK_eq k fun k => nfI n fun n => f (.int k n)).trans (nfI_eq n fun n => f (.int k n))
    | bool b => exact nfB_eq b fun b => f (.bool b)
    | str s => exact nfList_eq nfByte_eq s fun s => f (.str s)
    | agg cs => exact nfList_eq (nfA_eq m) cs fun cs => f (.agg cs)
    | tup cs => exact nfList_eq (nfA_eq m) cs fun cs => f (.tup cs)
    | fsl cs b => exact (nfList_eq (nfA_eq m) cs fun cs => nfB b fun b => f (.fsl cs b)).trans (nfB_eq b fun b => f (.fsl cs b))
    | fptr v o => exact (nfA_eq m v fun v => nfN o fun o => f (.fptr v o)).trans (nfN_eq o fun o => f (.fptr v o))
    | msl a b c d => exact (nfN_eq a fun a => nfN b fun b => nfN c fun c => nfN d fun d => f (.msl a b c d)).trans ((nfN_eq b fun b => nfN c fun c => nfN d fun d => f (.msl a b c d)).trans ((nfN_eq c fun c => nfN d fun d => f (.msl a b c d)).trans (nfN_eq d fun d => f (.msl a b c d))))
    | ptr a b c => exact (nfN_eq a fun a => nfN b fun b => nfN c fun c => f (.ptr a b c)).trans ((nfN_eq b fun b => nfN c fun c => f (.ptr a b c)).trans (nfN_eq c fun c => f (.ptr a b c)))
    | map a => exact nfN_eq a fun a => f (.map a)
    | fn g a b => exact (nfFn_eq g fun g => nfList (nfA m) a fun a => nfList (nfA m) b fun b => f (.fn g a b)).trans ((nfList_eq (nfA_eq m) a fun a => nfList (nfA m) b fun b => f (.fn g a b)).trans (nfList_eq (nfA_eq m) b fun b => f (.fn g a b)))
    | iface t v => exact (nfN_eq t fun t => nfA m v fun v => f (.iface t v)).trans (nfA_eq m v fun v => f (.iface t v))
    | _ => rfl
theorem nfV_eq (v : AV) (f : AV → α) : nfV v f = f v := nfA_eq 40 v f
theorem nfP_eq (p : AV × AV) (f : AV × AV → α) : nfP p f = f p := (nfV_eq p.1 _).trans (nfV_eq p.2 _)
theorem nfO_eq (o : AObj) (f : AObj → α) : nfO o f = f o := by
  cases o with
  | row es sz => exact (nfList_eq nfV_eq es _).trans (nfN_eq sz _)
  | mapo es => exact nfList_eq nfP_eq es _
theorem nfT_eq : ∀ (t : Tr) (f : Tr → α), nfT t f = f t
  | .nil, f => rfl
  | .node l v r, f => (nfT_eq l _).trans ((nfV_eq v _).trans (nfT_eq r _))
theorem nfHT_eq : ∀ (t : HT) (f : HT → α), nfHT t f = f t
  | .nil, f => rfl
  | .node l v r, f => (nfHT_eq l _).trans ((nfOpt_eq nfO_eq v _).trans (nfHT_eq r _))
theorem nfH_eq (h : Heap) (f : Heap → α) : nfH h f = f h := (nfN_eq h.next _).trans ((nfList_eq nfN_eq h.tch _).trans (nfHT_eq h.os _))
theorem nfEx_eq (e : Ex) (f : Ex → α) : nfEx e f = f e := by
  cases e with
  | exit i => exact nfN_eq i _
  | _ => rfl
theorem nfC_eq (r : CRes) : nfC r = r := by
  cases r with
  | ok e fr h => exact (nfEx_eq e fun e => nfT fr fun fr => nfH h fun h => CRes.ok e fr h).trans ((nfT_eq fr fun fr => nfH h fun h => CRes.ok e fr h).trans (nfH_eq h fun h => CRes.ok e fr h))
  | _ => rfl
theorem nfC_of {r s : CRes} (h : nfC r = s) : r = s := (nfC_eq r).symm.trans h
theorem nfR_eq (r : Res) : nfR r = r := by
  cases r with
  | ok v h => exact (nfV_eq v fun v => nfH h fun h => Res.ok v h).trans (nfH_eq h fun h => Res.ok v h)
  | _ => rfl
theorem nfR_of {r s : Res} (h : nfR r = s) : r = s := (nfR_eq r).symm.trans h
theorem nfD_eq (r : DRes) : nfD r = r := by
  cases r with
  | ok v h d => exact (nfV_eq v fun v => nfH h fun h => nfList nfN d fun d => DRes.ok v h d).trans ((nfH_eq h fun h => nfList nfN d fun d => DRes.ok v h d).trans (nfList_eq nfN_eq d fun d => DRes.ok v h d))
  | _ => rfl
theorem nfDS_eq (r : DS) : nfDS r = r := by
  cases r with
  | ok fr h d => exact (nfT_eq fr fun fr => nfH h fun h => nfList nfN d fun d => DS.ok fr h d).trans ((nfH_eq h fun h => nfList nfN d fun d => DS.ok fr h d).trans (nfList_eq nfN_eq d fun d => DS.ok fr h d))
  | _ => rfl
theorem nfDS_of {r s : DS} (h : nfDS r = s) : r = s := (nfDS_eq r).symm.trans h
theorem nfIn_eq (o : XOp) (h : Heap) : nfIn o h = inD o h := nfH_eq (inD o h) fun h => h
theorem nfTr_eq (t : Tr) : nfTr t = t := nfT_eq t fun t => t
theorem clH_eq (h : Heap) : clH h = ⟨h.next, [], h.os⟩ := nfH_eq (⟨h.next, [], h.os⟩ : Heap) fun h => h
theorem gcH_eq (h h1 : Heap) : gcH h h1 = ⟨h1.next, appN (belowN h.next h1.tch) h.tch, h.os.trunc h1.os⟩ := nfH_eq (⟨h1.next, appN (belowN h.next h1.tch) h.tch, h.os.trunc h1.os⟩ : Heap) fun h => h
end
section
variable {E : Env} {n m : Nat} {c a b : XC} {fr fr1 fr2 : Tr} {h h1 h2 : Heap} {e : Ex} {r : CRes}
theorem ev_seq0 : ev E (n + 1) (.seq a b) fr h = seqA (ev E n b) (ev E n a fr h) := rfl
theorem ev_loop0 : ev E (n + 1) (.loop a) fr h = seqA (ev E n (.loop a)) (ev E n a fr h) := rfl
theorem ev_cond0 {x : Operand} : ev E (n + 1) (.cond x a b) fr h = condA (ev E n a) (ev E n b) (opv E x fr) fr h := rfl
theorem ev_block0 {i : Nat} : ev E (n + 1) (.block i a) fr h = blockA i (ev E n a fr h) := rfl
theorem ev_seq (hc : c = .seq a b) (hn : m = n + 1) (t1 : ev E n a fr h = .ok .normal fr1 h1) (t2 : ev E n b fr1 h1 = r) : ev E m c fr h = r := by
  subst hc hn; rw [ev_seq0, t1]; exact t2
theorem ev_seq_ret (hc : c = .seq a b) (hn : m = n + 1) (t1 : ev E n a fr h = .ok .ret fr1 h1) : ev E m c fr h = .ok .ret fr1 h1 := by
  subst hc hn; rw [ev_seq0, t1]; rfl
theorem ev_seq_exit {i : Nat} (hc : c = .seq a b) (hn : m = n + 1) (t1 : ev E n a fr h = .ok (.exit i) fr1 h1) : ev E m c fr h = .ok (.exit i) fr1 h1 := by
  subst hc hn; rw [ev_seq0, t1]; rfl
theorem ev_pre0 {fr1 : Tr} {h1 : Heap} {r : CRes} : ∀ (k n : Nat) (c : XC) (fr : Tr) (h : Heap), ev E (n + k) (c.pre k) fr h = .ok .normal fr1 h1 → ev E n (c.suf k) fr1 h1 = r → ev E (n + k) c fr h = r
  | 0, n, c, fr, h, t1, t2 => by
    cases n with
    | zero => cases t1
    | succ n => cases t1; exact t2
  | k + 1, n, c, fr, h, t1, t2 => by
    cases c with
    | seq a b =>
      have t1 : seqA (ev E (n + k) (b.pre k)) (ev E (n + k) a fr h) = .ok .normal fr1 h1 := t1
      show seqA (ev E (n + k) b) (ev E (n + k) a fr h) = r
      cases hq : ev E (n + k) a fr h with
      | bad => rw [hq] at t1; cases t1
      | pan v hh => rw [hq] at t1; cases t1
      | ok e fr2 h2 =>
        rw [hq] at t1
        cases e with
        | normal => exact ev_pre0 k n b fr2 h2 t1 t2
        | exit i => cases t1
        | ret => cases t1
    | _ => cases t1
theorem ev_pre (k : Nat) (hm : m = n + k) (hs : XC.suf k c = a) (t1 : ev E m (c.pre k) fr h = .ok .normal fr1 h1) (t2 : ev E n a fr1 h1 = r) : ev E m c fr h = r := by
  subst hm hs; exact ev_pre0 k n c fr h t1 t2
theorem ev_loop (hc : c = .loop a) (hn : m = n + 1) (t1 : ev E n a fr h = .ok .normal fr1 h1) (t2 : ev E n c fr1 h1 = r) : ev E m c fr h = r := by
  subst hc hn; rw [ev_loop0, t1]; exact t2
theorem ev_loop_ret (hc : c = .loop a) (hn : m = n + 1) (t1 : ev E n a fr h = .ok .ret fr1 h1) : ev E m c fr h = .ok .ret fr1 h1 := by
  subst hc hn; rw [ev_loop0, t1]; rfl
theorem ev_loop_exit {i : Nat} (hc : c = .loop a) (hn : m = n + 1) (t1 : ev E n a fr h = .ok (.exit i) fr1 h1) : ev E m c fr h = .ok (.exit i) fr1 h1 := by
  subst hc hn; rw [ev_loop0, t1]; rfl
theorem ev_cond_t {x : Operand} (hc : c = .cond x a b) (hn : m = n + 1) (hx : opv E x fr = .bool true) (t : ev E n a fr h = r) : ev E m c fr h = r := by
  subst hc hn; rw [ev_cond0, hx]; exact t
theorem ev_cond_f {x : Operand} (hc : c = .cond x a b) (hn : m = n + 1) (hx : opv E x fr = .bool false) (t : ev E n b fr h = r) : ev E m c fr h = r := by
  subst hc hn; rw [ev_cond0, hx]; exact t
theorem ev_block {i : Nat} (hc : c = .block i a) (hn : m = n + 1) (t : ev E n a fr h = .ok e fr1 h1) {r : CRes} (hr : blockA i (.ok e fr1 h1) = r) : ev E m c fr h = r := by
  subst hc hn; rw [ev_block0, t]; exact hr
theorem ev_scope (hc : c = .scope a) (hn : m = n + 1) (t : ev E n a fr h = r) : ev E m c fr h = r := by
  subst hc hn; exact t
theorem ev_reg {l : List XOp} (hc : c = .reg false l) (hn : m = n + 1) (t : evOps E (callA E (ev E n)) l fr h = r) : ev E m c fr h = r := by
  subst hc hn; exact t
theorem evOps_append {call : CallF} : ∀ (l l' : List XOp) (fr : Tr) (h : Heap), evOps E call l fr h = .ok .normal fr1 h1 → evOps E call (l ++ l') fr h = evOps E call l' fr1 h1
  | [], l', fr, h, t => by cases t; rfl
  | o :: l, l', fr, h, t => by
    have t : onOB (guardOk o.gd fr) .bad (evThen o.dst (evOps E call l) fr (evOp E call o.op fr h)) (evOps E call l (setDst o.dst skipped fr) h) = .ok .normal fr1 h1 := t
    show onOB (guardOk o.gd fr) .bad (evThen o.dst (evOps E call (l ++ l')) fr (evOp E call o.op fr h)) (evOps E call (l ++ l') (setDst o.dst skipped fr) h) = _
    cases hg : guardOk o.gd fr with
    | none => rw [hg] at t; cases t
    | some b =>
      rw [hg] at t
      cases b with
      | false => exact evOps_append l l' _ h t
      | true =>
        have t : evThen o.dst (evOps E call l) fr (evOp E call o.op fr h) = .ok .normal fr1 h1 := t
        show evThen o.dst (evOps E call (l ++ l')) fr (evOp E call o.op fr h) = _
        cases hq : evOp E call o.op fr h with
        | bad => rw [hq] at t; cases t
        | pan v hh => rw [hq] at t; cases t
        | ok v h' => rw [hq] at t; exact evOps_append l l' _ h' t
theorem evOps_split {call : CallF} {l : List XOp} (k : Nat) (t1 : evOps E call (takeX l k) fr h = .ok .normal fr1 h1) (t2 : evOps E call (dropX l k) fr1 h1 = r) : evOps E call l fr h = r := by
  have : l = takeX l k ++ dropX l k := (List.take_append_drop k l).symm
  rw [this, evOps_append _ _ _ _ t1, t2]
theorem evOps_call {call : CallF} {l l' : List XOp} {o : XOp} {f : Nat} {args : List AV} {v : AV} (hl : l = o :: l') (hg : guardOk o.gd fr = some true) (ho : ∀ call : CallF, evOp E call o.op fr h = call f args h) (t1 : call f args h = .ok v h1) (hf : nfTr (setDst o.dst v fr) = fr1) (t2 : evOps E call l' fr1 h1 = r) : evOps E call l fr h = r := by
  subst hl
  show onOB (guardOk o.gd fr) .bad (evThen o.dst (evOps E call l') fr (evOp E call o.op fr h)) (evOps E call l' (setDst o.dst skipped fr) h) = r
  rw [hg, ho call, t1]
  show evOps E call l' (setDst o.dst v fr) h1 = r
  rw [← hf, nfTr_eq] at t2
  exact t2
theorem call_plain {f : Nat} {args : List AV} {nt : Nat} {rs : List ResultVar} {v : AV} (hg : E.gc f = false) (ht : E.told f = false) (hdl : E.dlf f = none) (hsr : srtA E f args h = none) (hf : E.fn f = some ⟨c, nt, rs, .plain⟩) (hn : Nat.ble (lenL args) nt = true) (hfr : nfTr (Tr.enter nt args) = fr) (t : ev E n c fr h = .ok e fr1 h1) (hr : afterBody E rs (.ok e fr1 h1) = .ok v h1) : callA E (ev E n) f args h = .ok v h1 := by
  rw [nfTr_eq] at hfr
  unfold callA
  rw [hg]
  show callA0 E (ev E n) f args h = _
  unfold callA0
  rw [ht, hdl, hsr, hf]
  show (bif Nat.ble (lenL args) nt then callM E (ev E n) ⟨c, nt, rs, .plain⟩ args h else .bad) = _
  rw [hn]
  show afterBody E rs (ev E n c (Tr.enter nt args) h) = _
  rw [hfr, t, hr]
theorem call_gc {f : Nat} {args : List AV} {nt : Nat} {rs : List ResultVar} {v : AV} {h0 : Heap} (hg : E.gc f = true) (ht : E.told f = false) (hdl : E.dlf f = none) (hsr : srtA E f args ⟨h.next, [], h.os⟩ = none) (hf : E.fn f = some ⟨c, nt, rs, .plain⟩) (hn : Nat.ble (lenL args) nt = true) (hfr : nfTr (Tr.enter nt args) = fr) (hq : clH h = h0) (t : ev E n c fr h0 = .ok e fr1 h1) (hr : afterBody E rs (.ok e fr1 h1) = .ok v h1) (hh : gcH h h1 = h2) : callA E (ev E n) f args h = .ok v h2 := by
  rw [nfTr_eq] at hfr
  rw [clH_eq] at hq
  rw [gcH_eq] at hh
  unfold callA
  rw [hg]
  show gcR h (callA0 E (ev E n) f args ⟨h.next, [], h.os⟩) = _
  have : callA0 E (ev E n) f args ⟨h.next, [], h.os⟩ = .ok v h1 := by
    unfold callA0
    rw [ht, hdl, hsr, hf, hq]
    show (bif Nat.ble (lenL args) nt then callM E (ev E n) ⟨c, nt, rs, .plain⟩ args h0 else .bad) = _
    rw [hn]
    show afterBody E rs (ev E n c (Tr.enter nt args) h0) = _
    rw [hfr, t, hr]
  rw [this, ← hh]
  rfl
theorem evOpD_eq {call : CallF} {o : XOp} {d : List Nat} : evOpD E call o fr h d = outD E o fr h d (evOp E call o.op fr (inD o h)) := by
  unfold evOpD outD inD
  cases o.quiet <;> rfl
theorem evOpsD_append {call : CallF} {d1 : List Nat} : ∀ (l l' : List XOp) (fr : Tr) (h : Heap) (d : List Nat), runD E call l fr h d = .ok fr1 h1 d1 → evOpsD E call l' fr1 h1 d1 = .ok e fr2 h2 → evOpsD E call (l ++ l') fr h d = .ok e fr2 h2
  | [], l', fr, h, d, t, t2 => by cases t; exact t2
  | o :: l, l', fr, h, d, t, t2 => by
    have t : onOB (guardOk o.gd fr) .bad (thenDS o.dst (runD E call l) fr (evOpD E call o fr h d)) (runD E call l (setDst o.dst skipped fr) h d) = .ok fr1 h1 d1 := t
    show onOB (guardOk o.gd fr) .bad (evThenD o.dst (evOpsD E call (l ++ l')) (virtD E call (l ++ l') o.late (setDst o.dst skipped fr) h d) fr (evOpD E call o fr h d)) (evOpsD E call (l ++ l') (setDst o.dst skipped fr) h d) = _
    cases hg : guardOk o.gd fr with
    | none => rw [hg] at t; cases t
    | some b =>
      rw [hg] at t
      cases b with
      | false => exact evOpsD_append l l' _ h d t t2
      | true =>
        have t : thenDS o.dst (runD E call l) fr (evOpD E call o fr h d) = .ok fr1 h1 d1 := t
        show evThenD o.dst (evOpsD E call (l ++ l')) _ fr (evOpD E call o fr h d) = _
        cases hq : evOpD E call o fr h d with
        | bad => rw [hq] at t; cases t
        | pan v hh => rw [hq] at t; cases t
        | ok v h' d' => rw [hq] at t; exact evOpsD_append l l' _ h' d' t t2
theorem evOpsD_split {call : CallF} {l : List XOp} {d d1 : List Nat} (k : Nat) (t1 : runD E call (takeX l k) fr h d = .ok fr1 h1 d1) (t2 : evOpsD E call (dropX l k) fr1 h1 d1 = .ok e fr2 h2) : evOpsD E call l fr h d = .ok e fr2 h2 := by
  have : l = takeX l k ++ dropX l k := (List.take_append_drop k l).symm
  rw [this]; exact evOpsD_append _ _ _ _ _ t1 t2
theorem evOpsD_call {call : CallF} {l l' : List XOp} {o : XOp} {f : Nat} {args : List AV} {v : AV} {d d2 : List Nat} {h0 h3 : Heap} (hl : l = o :: l') (hg : guardOk o.gd fr = some true) (hi : nfIn o h = h0) (ho : ∀ call : CallF, evOp E call o.op fr h0 = call f args h0) (t1 : call f args h0 = .ok v h1) (hq : nfD (outD E o fr h d (.ok v h1)) = .ok v h2 d2) (hf : nfTr (setDst o.dst v fr) = fr1) (t2 : evOpsD E call l' fr1 h2 d2 = .ok e fr2 h3) : evOpsD E call l fr h d = .ok e fr2 h3 := by
  subst hl
  rw [nfIn_eq] at hi
  rw [nfD_eq] at hq
  show onOB (guardOk o.gd fr) .bad (evThenD o.dst (evOpsD E call l') (virtD E call l' o.late (setDst o.dst skipped fr) h d) fr (evOpD E call o fr h d)) (evOpsD E call l' (setDst o.dst skipped fr) h d) = _
  rw [hg, evOpD_eq, hi, ho call, t1, hq]
  show evOpsD E call l' (setDst o.dst v fr) h2 d2 = _
  rw [← hf, nfTr_eq] at t2
  exact t2
theorem ev_regD {l : List XOp} (hc : c = .reg true l) (hn : m = n + 1) (t : evOpsD E (callA E (ev E n)) l fr h [] = r) : ev E m c fr h = r := by
  subst hc hn; exact t
theorem ev_reps0 {fr1 : Tr} {h1 : Heap} {r : CRes} : ∀ (k n : Nat) (fr : Tr) (h : Heap), ev E (n + k) (XC.reps k a) fr h = .ok .normal fr1 h1 → ev E n (.loop a) fr1 h1 = r → ev E (n + k) (.loop a) fr h = r
  | 0, n, fr, h, t1, t2 => by
    cases n with
    | zero => cases t1
    | succ n => cases t1; exact t2
  | k + 1, n, fr, h, t1, t2 => by
    have t1 : seqA (ev E (n + k) (XC.reps k a)) (ev E (n + k) a fr h) = .ok .normal fr1 h1 := t1
    show seqA (ev E (n + k) (.loop a)) (ev E (n + k) a fr h) = r
    cases hq : ev E (n + k) a fr h with
    | bad => rw [hq] at t1; cases t1
    | pan v hh => rw [hq] at t1; cases t1
    | ok e fr2 h2 =>
      rw [hq] at t1
      cases e with
      | normal => exact ev_reps0 k n fr2 h2 t1 t2
      | exit i => cases t1
      | ret => cases t1
theorem ev_reps (k : Nat) (hc : c = .loop a) (hm : m = n + k) (t1 : ev E m (XC.reps k a) fr h = .ok .normal fr1 h1) (t2 : ev E n c fr1 h1 = r) : ev E m c fr h = r := by
  subst hc hm; exact ev_reps0 k n fr h t1 t2
end
end Go.AM
