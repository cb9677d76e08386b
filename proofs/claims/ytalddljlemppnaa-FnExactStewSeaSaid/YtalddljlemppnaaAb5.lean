/- Steps towards the law: the machine, contracts of functions and facts of lists. -/
import Derived.Test.YtalddljlemppnaaAb4
set_option linter.unusedSimpArgs false
set_option linter.unusedVariables false
namespace Go.Ab
open Go Go.RowKit
/-! ### Lean code: operations with the tables' answers in them -/
inductive Opd where
 | t (i : Nat)
 | k (d : D)
def Opd.ev (st : St) : Opd → D
 | .t i => st.fr i
 | .k d => d
inductive XOp where
 | mv (x : Opd)
 | pick (c a b : Opd)
 | nilc (x : Opd)
 | bin (op : BinOp) (x y : Opd)
 | binb (neg : Bool) (x y : Opd)
 | ptb (neg : Bool) (x y : Opd)
 | cmp (neg : Bool) (z : D) (x y : Opd)
 | not (x : Opd)
 | neg (x : Opd)
 | cvi (k : IntKind) (x : Opd)
 | cvs (x : Opd)
 | fa (off sz f : Nat) (x : Opd)
 | fld (off sz : Nat) (ag : Bool) (f : Nat) (x : Opd)
 | ix (es : Nat) (x i : Opd)
 | sx (x i : Opd)
 | ld (sz : Nat) (ag : Bool) (x : Opd)
 | st (sz : Nat) (p x : Opd)
 | ext (x : Opd) (i : Nat)
 | lens (x : Opd)
 | lenl (x : Opd)
 | al (z : D)
 | bx (x : Opd)
 | mk (z : D) (bytes : Nat) (l c : Opd)
 | call (f : Nat) (xs : List Opd)
 | callv (f : Opd) (xs : List Opd)
 | mm
 | bsl (z : D) (len : Nat) (ps : List (Nat × Opd))
 | bld (z : D) (ps : List (Nat × Nat × Nat × Opd))
 | fnm (f : Nat) (xs : List Opd)
 | lk (x i : Opd)
 | mu (m k x : Opd)
 | app (es bytes : Nat) (x y : Opd)
 | slc (es : Nat) (tx : Bool) (x : Opd) (lo hi : Option Opd)
 | mnx (mx : Bool) (x y : Opd)
 | bst (x : Opd)
 | capl (x : Opd)
 | slc3 (x lo hi mx : Opd)
 | cpy (es : Nat) (x y : Opd)
 | clr (es : Nat) (x : Opd)
 | apz (bytes : Nat) (z : D) (x y : Opd)
 | ovl (f : FuncId) (x y : Opd)
 | bad
structure COp where
 dst : Option Nat
 op : XOp
 gd : Option (Nat × Bool)
inductive CC where
 | skip
 | ops (l : List COp)
 | quiet (l : List COp)
 | drawn (l : List (COp × Bool × List Opd))
 | draw (id : Nat) (ops : Array Oper)
 | decl (l : List COp) (s : Nat) (z : D) (sz : Nat) (v : Opd)
 | seq (a b : CC)
 | cond (c : Opd) (a b : CC)
 | block (id : Nat) (c : CC)
 | loop (c : CC)
 | exit (id : Nat)
 | ret
def cOpd : Operand → Opd
 | .tmp t => .t t
 | .const v => .k (ofConst v)
 | .global _ => .k .any
 | .func f => .k (.fn f [])
def noBody (P : Program) (f : FuncId) : Bool := match P.funcs[f]? with
 | some fn => fn.body.isNone
 | none => false
def cOp (P : Program) : Op → Option XOp
 | .move x | .assign x => some (.mv (cOpd x))
 | .pick c a b => some (.pick (cOpd c) (cOpd a) (cOpd b))
 | .nilCheck x => some (.nilc (cOpd x))
 | .binOp op t x y _ => match P.underlying t with
  | some .bool => match op with
   | .eql => some (.binb false (cOpd x) (cOpd y))
   | .neq => some (.binb true (cOpd x) (cOpd y))
   | _ => none
  | some (.pointer _) => match op with
   | .eql => some (.ptb false (cOpd x) (cOpd y))
   | .neq => some (.ptb true (cOpd x) (cOpd y))
   | _ => none
  | some (.struct _) => match cmpZ P t with
   | some z => match op with
    | .eql => some (.cmp false z (cOpd x) (cOpd y))
    | .neq => some (.cmp true z (cOpd x) (cOpd y))
    | _ => none
   | none => none
  | _ => some (.bin op (cOpd x) (cOpd y))
 | .unOp op _ x => match op with
  | .not => some (.not (cOpd x))
  | .neg => some (.neg (cOpd x))
  | _ => none
 | .convert s d x => match P.underlying s, P.underlying d with
  | some _, some (.int k) => some (.cvi k (cOpd x))
  | some .string, some .string => some (.cvs (cOpd x))
  | _, _ => if bstB P s d then some (.bst (cOpd x)) else none
 | .fieldAddr t x f => match fldOf P t f with
  | some (off, sz, _) => if sz = 0 then none else some (.fa off sz f (cOpd x))
  | none => none
 | .field t x f => match fldOf P t f with
  | some (off, sz, ag) => some (.fld off sz ag f (cOpd x))
  | none => none
 | .indexAddr t x i => match eltOf P t with
  | some es => some (.ix es (cOpd x) (cOpd i))
  | none => none
 | .index t x i => match P.underlying t with
  | some .string => some (.sx (cOpd x) (cOpd i))
  | _ => none
 | .slice t x lo hi mx => match mx with
  | some m => match lo, hi, P.underlying t with
   | some lo, some hi, some (.slice e) => if (varOf P e).isSome then some (.slc3 (cOpd x) (cOpd lo) (cOpd hi) (cOpd m)) else none
   | _, _, _ => none
  | none => match P.underlying t with
   | some .string => some (.slc 1 true (cOpd x) (lo.map cOpd) (hi.map cOpd))
   | some (.slice e) => match varOf P e with
    | some (es, _) => some (.slc es false (cOpd x) (lo.map cOpd) (hi.map cOpd))
    | none => none
   | _ => none
 | .load t x => match varOf P t with
  | some (sz, ag) => some (.ld sz ag (cOpd x))
  | none => none
 | .store t p x => match varOf P t with
  | some (sz, _) => some (.st sz (cOpd p) (cOpd x))
  | none => none
 | .extract x i => some (.ext (cOpd x) i)
 | .alloc t => match zeroD P t with
  | some z => some (.al z)
  | none => none
 | .box _ x => some (.bx (cOpd x))
 | .makeSlice t l c => match mkOf P t with
  | some (z, bytes) => some (.mk z bytes (cOpd l) (cOpd c))
  | none => none
 | .makeMap _ r => match r with
  | none => some .mm
  | some _ => none
 | .makeFunc fn first caps => match fn with
  | .func f => if first.isEmpty then some (.fnm f (caps.toList.map cOpd)) else none
  | _ => none
 | .lookup t x i ok => if !ok && mapStrB P t then some (.lk (cOpd x) (cOpd i)) else none
 | .mapUpdate t m k x => if mapStrB P t then some (.mu (cOpd m) (cOpd k) (cOpd x)) else none
 | .buildSlice t len parts => match mkOf P t with
  | some (z, _) => some (.bsl z len (parts.toList.map fun p => (p.1, cOpd p.2)))
  | none => none
 | .build t parts => match zeroD P t, partsOf P t parts.toList with
  | some z, some l => if builtB P t && z.isAgg then some (.bld z (l.map fun p => (p.1, p.2.1, p.2.2.1, cOpd p.2.2.2))) else none
  | _, _ => none
 | .call c => match c.callee with
  | .value (.func f) => match noBody P f with
   | true => match c.args.toList with
    | [x, y] => some (.ovl f (cOpd x) (cOpd y))
    | _ => none
   | false => some (.call f (c.args.toList.map cOpd))
  | .value f => some (.callv (cOpd f) (c.args.toList.map cOpd))
  | .builtin .append => match c.args[0]?, c.args[1]?, c.argTypes[0]?, c.argTypes[1]? with
   | some x, some y, some ty, some ty' => match mkOf P ty, P.underlying ty' with
    | some (z, bytes), some (.slice _) => some (.app z.len bytes (cOpd x) (cOpd y))
    | some (z, bytes), some (.int .i64) => some (.apz bytes z (cOpd x) (cOpd y))
    | _, _ => none
   | _, _, _, _ => none
  | .builtin .min => match c.args.toList with
   | [x, y] => some (.mnx false (cOpd x) (cOpd y))
   | _ => none
  | .builtin .max => match c.args.toList with
   | [x, y] => some (.mnx true (cOpd x) (cOpd y))
   | _ => none
  | .builtin .len => match c.args[0]?, c.argTypes[0]?.bind P.underlying with
   | some x, some .string => some (.lens (cOpd x))
   | some x, some (.slice _) => some (.lenl (cOpd x))
   | _, _ => none
  | .builtin .copy => match c.args[0]?, c.args[1]?, c.argTypes[0]? with
   | some x, some y, some ty => match eltOf P ty with
    | some es => if es = 0 then none else some (.cpy es (cOpd x) (cOpd y))
    | none => none
   | _, _, _ => none
  | .builtin .clear => match c.args[0]?, c.argTypes[0]? with
   | some x, some ty => match mkOf P ty with
    | some (z, _) => some (.clr z.len (cOpd x))
    | none => none
   | _, _ => none
  | .builtin .cap => match c.args[0]?, c.argTypes[0]?.bind P.underlying with
   | some x, some (.slice _) => some (.capl (cOpd x))
   | _, _ => none
  | _ => none
 | _ => none
def cOper (P : Program) (ops : Array Oper) (o : Oper) : Option COp :=
 match gslot ops o with
 | none => some ⟨o.dst, (cOp P o.op).getD .bad, none⟩
 | some (some t, want) => some ⟨o.dst, (cOp P o.op).getD .bad, some (t, want)⟩
 | _ => none
def cOpers (P : Program) (ops : Array Oper) : List Oper → Option (List COp)
 | [] => some []
 | o :: os => match cOper P ops o, cOpers P ops os with
  | some x, some l => some (x :: l)
  | _, _ => none
def XOp.quietB : XOp → Bool
 | .al _ | .bx _ | .mk .. | .st .. | .callv .. | .mm | .mu .. | .app .. | .cpy .. | .clr .. | .apz .. | .ovl .. => false
 | _ => true
def XOp.sl : XOp → List Opd
 | .mv x | .nilc x | .not x | .neg x | .cvi _ x | .cvs x | .fa _ _ _ x | .fld _ _ _ _ x | .ld _ _ x | .ext x _ | .lens x | .lenl x | .bst x | .capl x => [x]
 | .slc3 x lo hi mx => [x, lo, hi, mx]
 | .bad => []
 | .bin _ x y | .binb _ x y | .ptb _ x y | .cmp _ _ x y | .ix _ x y | .sx x y | .lk x y | .mnx _ x y => [x, y]
 | .slc _ _ x lo hi => x :: (lo.toList ++ hi.toList)
 | .pick c a b => [c, a, b]
 | .call _ xs => xs
 | .fnm _ xs => xs
 | .bld _ ps => ps.map (·.2.2.2)
 | .bsl _ _ ps => ps.map (·.2)
 | .bx x => [x]
 | .mk _ _ l c => [l, c]
 | .st _ p x => [p, x]
 | .callv f xs => f :: xs
 | .mu m k x => [m, k, x]
 | .app _ _ x y => [x, y]
 | .cpy _ x y => [x, y]
 | .clr _ x => [x]
 | .apz _ _ x y => [x, y]
 | .ovl _ x y => [x, y]
 | .al _ | .mm => []
def opdS : List Opd → List Nat
 | [] => []
 | .t i :: xs => i :: opdS xs
 | .k _ :: xs => opdS xs
def COp.slots (c : COp) : List Nat := match c.gd with
 | some (t, _) => t :: opdS c.op.sl
 | none => opdS c.op.sl
def dix : List COp → Nat → Option Nat
 | [], _ => none
 | c :: l, s => if c.dst = some s then some 0 else (dix l s).map (· + 1)
def distB : List COp → Bool
 | [] => true
 | c :: l => match c.dst with
  | some s => (dix l s).isNone && distB l
  | none => false
def waitB (o : Oper) (j : Nat) : Bool := o.after.any fun e => Region.binds .any e && e.on == j
def depAt (l : List COp) (i : Nat) (c : COp) (o : Oper) : Bool :=
 (c.slots.all fun s => match dix l s with
  | none => true
  | some j => decide (j < i) && waitB o j) && o.after.all fun e => !Region.binds .any e || decide (e.on < i)
def depGo (l : List COp) : Nat → List COp → List Oper → Bool
 | _, [], [] => true
 | i, c :: cs, o :: os => depAt l i c o && depGo l (i + 1) cs os
 | _, _, _ => false
/-- Each operation waits for those whose values it looks at. -/
def depB (ops : Array Oper) (l : List COp) : Bool := distB l && depGo l 0 l ops.toList
/-! ### Regions that draw their order and lay one new variable -/
def XOp.alB : XOp → Bool
 | .al _ => true
 | _ => false
def elemN (s : Nat) : List Nat → Bool
 | [] => false
 | t :: l => t == s || elemN s l
def sinkGo (os : List Oper) (N : Nat) : Nat → Bool
 | 0 => true
 | j + 1 => (List.range (N + 1)).any (fun k => decide (j < k) && match os[k]? with
  | some o => waitB o j
  | none => false) && sinkGo os N j
def backGo : Nat → List Oper → Bool
 | _, [] => true
 | i, o :: os => (o.after.all fun e => !Region.binds .any e || decide (e.on < i)) && backGo (i + 1) os
def preGo (lp : List COp) (s : Nat) (z : D) : Nat → List COp → List Oper → Bool
 | _, [], _ => true
 | i, c :: cs, o :: os => (match c.op with
  | .al _ => c.gd.isNone
  | op => op.quietB && !elemN s c.slots && c.slots.all fun t => match dix lp t with
   | none => true
   | some j => decide (j < i) && waitB o j) && preGo lp s z (i + 1) cs os
 | _, _ :: _, [] => false
def alOf (s : Nat) : List COp → Option D
 | [] => none
 | c :: l => match c.op with
  | .al z => if c.dst = some s then some z else none
  | _ => alOf s l
def oneAl (s : Nat) : List COp → Bool
 | [] => true
 | c :: l => (!c.op.alB || decide (c.dst = some s)) && oneAl s l
def notT (s : Nat) : Opd → Bool
 | .t i => !(i == s)
 | .k _ => true
def declB (ops : Array Oper) (lp : List COp) (s : Nat) (z : D) (v : Opd) : Bool :=
 distB lp && preGo lp s z 0 lp ops.toList && backGo 0 ops.toList && sinkGo ops.toList lp.length lp.length && oneAl s lp && notT s v && decide (ops.size = lp.length + 1) && !z.mpB
def lastOf : List COp → Option (List COp × COp)
 | [] => none
 | [c] => some ([], c)
 | c :: l => match lastOf l with
  | some (p, x) => some (c :: p, x)
  | none => none
def declOf (ops : Array Oper) (l : List COp) : Option (List COp × Nat × D × Nat × Opd) := match lastOf l with
 | some (lp, ⟨none, .st sz (.t s) v, none⟩) => match alOf s lp with
  | some z => if declB ops lp s z v then some (lp.filter (fun c => !c.op.alB), s, z, sz, v) else none
  | none => none
 | _ => none
/-! ### Regions that draw their order, with effects in a row -/
def XOp.effB : XOp → Bool
 | .al _ | .bx _ | .mk .. | .st .. | .callv .. | .mm | .mu .. | .app .. | .cpy .. | .clr .. | .apz .. | .ovl .. | .call .. => true
 | _ => false
def waitI (os : List Oper) (i j : Nat) : Bool := match os[i]? with
 | some o => waitB o j
 | none => false
/-- j binds i, through others too. -/
def reachB (os : List Oper) : Nat → Nat → Nat → Bool
 | 0, _, _ => false
 | f + 1, i, j => match os[i]? with
  | some o => waitB o j || o.after.any fun e => Region.binds .any e && reachB os f e.on j
  | none => false
/-- The last operation writes a slot that an operation before it reads. -/
def lateB (l : List COp) (i : Nat) (c : COp) : Bool := match l.drop (i + 1), c.dst with
 | [], some s => (l.take i).any fun c' => elemN s c'.slots
 | _, _ => false
def effI (l : List COp) (i : Nat) : Bool := match l[i]? with
 | some c => c.op.effB || lateB l i c
 | none => false
/-- The effects in their row, what else there is as early as may be. -/
def schedGo (os : List Oper) (l : List COp) (m : Nat) : Nat → List Nat → List Nat
 | 0, _ => []
 | f + 1, rem => match rem.find? (fun i => !effI l i && rem.all fun j => !effI l j || !reachB os m i j) with
  | some i => i :: schedGo os l m f (rem.filter fun j => !Nat.beq j i)
  | none => match rem with
   | [] => []
   | i :: r => i :: schedGo os l m f r
def XOp.rd : XOp → List Opd
 | .ld _ _ x => [x]
 | .lk x _ => [x]
 | .bst x => [x]
 | _ => []
def rdI (l : List COp) (i : Nat) : List Opd := match l[i]? with
 | some c => c.op.rd
 | none => []
def dixO : List COp → Nat → Option Nat
 | [], _ => none
 | c :: l, s => if c.dst = some s then some 0 else (dixO l s).map (· + 1)
def isF (fl : Option Nat) (i : Nat) : Bool := match fl with
 | some f => Nat.beq i f
 | none => false
/-- What may come late is looked at: the row so far (latest first), the rest. fl: an allocation that may come at any time. -/
def drawGo (os : List Oper) (l : List COp) (m : Nat) (fl : Option Nat) : List Nat → List Nat → Option (List (COp × Bool × List Opd))
 | _, [] => some []
 | done, i :: rest => match l[i]? with
  | some c =>
   if (c.slots.all fun s => match dixO l s with
     | none => true
     | some j => (elemN j done && waitI os i j) || (!elemN j done && effI l j && reachB os m j i)) && (isF fl i || done.all fun j => !effI l j || reachB os m i j) && (c.op.effB || c.dst.isSome) && !elemN i done then
    match drawGo os l m fl (i :: done) rest with
    | some r => some ((c, c.op.effB, if c.op.effB then (done.filter fun j => !effI l j && !reachB os m i j && !(isF fl i && done.any fun e => effI l e && reachB os m e j)).flatMap (rdI l) else []) :: r)
    | none => none
   else none
  | none => none
def distO : List COp → Bool
 | [] => true
 | c :: l => (match c.dst with
  | some s => (dixO l s).isNone
  | none => true) && distO l
def flOk (os : List Oper) (l : List COp) : Option Nat → Bool
 | none => true
 | some f => match l[f]?, os[f]? with
  | some ⟨some _, .al _, none⟩, some o => o.after.all fun e => !Region.binds .any e
  | _, _ => false
def drawF (ops : Array Oper) (l : List COp) (fl : Option Nat) : Option (List (COp × Bool × List Opd)) :=
 let os := ops.toList
 let m := l.length
 let sch := schedGo os l m m (List.range m)
 if distO l && backGo 0 os && ((List.range m).all fun j => elemN j sch) && (l.all fun c => c.op.effB || c.op.quietB) && flOk os l fl then drawGo os l m fl [] sch else none
def flIx : List COp → Option Nat
 | [] => none
 | c :: l => if c.op.alB then some 0 else (flIx l).map (· + 1)
def drawOf (ops : Array Oper) (l : List COp) : Option (List (COp × Bool × List Opd)) := match drawF ops l none with
 | some r => some r
 | none => match flIx l with
  | some f => drawF ops l (some f)
  | none => none
def compile (P : Program) (nq : List Nat) : Code → Option CC
 | .skip => some .skip
 | .region id ops false => (cOpers P ops ops.toList).map .ops
 | .region id ops true => match cOpers P ops ops.toList with
  | some l => if depB ops l && l.all (·.op.quietB) && (!nq.contains id && !nq.contains (id + 1000000)) then some (.quiet l) else if nq.contains (id + 1000000) then (match drawOf ops l with | some r => some (.drawn r) | none => some (.draw id ops)) else match declOf ops l with
   | some (lq, s, z, sz, v) => if !nq.contains id then some (.decl lq s z sz v) else some (.draw id ops)
   | none => match drawOf ops l with
    | some r => if !nq.contains id then some (.drawn r) else some (.draw id ops)
    | none => some (.draw id ops)
  | none => some (.draw id ops)
 | .seq x y => match compile P nq x, compile P nq y with
  | some a, some b => some (.seq a b)
  | _, _ => none
 | .cond c x y => match compile P nq x, compile P nq y with
  | some a, some b => some (.cond (cOpd c) a b)
  | _, _ => none
 | .block id c => (compile P nq c).map (.block id)
 | .loop c => (compile P nq c).map .loop
 | .exit id => some (.exit id)
 | .ret => some .ret
 | _ => none
mutual
/-- A value, laid out to its leaves before it is handed on. -/
def deepK : D → (D → Prop) → Prop
 | .agg fs, K => deepsK fs fun gs => K (.agg gs)
 | .tup fs, K => deepsK fs fun gs => K (.tup gs)
 | .undef, K => K .undef
 | .any, K => K .any
 | .int k n, K => K (.int k n)
 | .bool b, K => K (.bool b)
 | .str s, K => K (.str s)
 | .nil, K => K .nil
 | .nilp, K => K .nilp
 | .ro es ds, K => K (.ro es ds)
 | .arr es ds c, K => K (.arr es ds c)
 | .ow es ds c, K => K (.ow es ds c)
 | .lref s g p o, K => K (.lref s g p o)
 | .lsl s g n c, K => K (.lsl s g n c)
 | .lvw s g i o n c, K => K (.lvw s g i o n c)
 | .mp l, K => K (.mp l)
 | .lmp s g, K => K (.lmp s g)
 | .cref d, K => K (.cref d)
 | .fn f caps, K => K (.fn f caps)
def deepsK : List D → (List D → Prop) → Prop
 | [], K => K []
 | d :: ds, K => deepK d fun e => deepsK ds fun es => K (e :: es)
end
mutual
theorem deepK_eq : ∀ (d : D) (K : D → Prop), deepK d K = K d
 | .agg fs, K => by simp only [deepK]; exact deepsK_eq fs _
 | .tup fs, K => by simp only [deepK]; exact deepsK_eq fs _
 | .undef, K | .any, K | .int .., K | .bool .., K | .str .., K | .nil, K | .nilp, K | .ro .., K | .arr .., K | .ow .., K | .lref .., K | .lsl .., K | .lvw .., K | .mp _, K | .lmp .., K | .cref _, K | .fn .., K => rfl
theorem deepsK_eq : ∀ (ds : List D) (K : List D → Prop), deepsK ds K = K ds
 | [], K => rfl
 | d :: ds, K => by
  simp only [deepsK]
  rw [deepK_eq d]
  exact deepsK_eq ds _
end
def putS (n : Nat) (dst : Option Nat) (d : D) (st : St) (K : St → Prop) : Prop := deepK d fun e => putN n dst e st K
theorem putS_eq {n : Nat} {dst : Option Nat} {d : D} {st : St} {K : St → Prop} : putS n dst d st K = putN n dst d st K := deepK_eq d _
def xputD (o : Nat) (x : D) : D → List Nat → (D → Prop) → Prop
 | .arr es ds cp, i :: q, K => i < ds.length ∧ xat o (i * es) ((ds.getD i .any).at q) ∧ xset ((ds.getD i .any).set q x) fun c' => deepK c' fun e => K (.arr es (ds.set i e) cp)
 | .arr .., [], _ => False
 | .mp _, _, _ => False
 | c, p, K => xat o 0 (c.at p) ∧ xset (c.set p x) fun c' => deepK c' K
theorem xputD_eq {o : Nat} {x : D} {c : D} {p : List Nat} {K : D → Prop} : xputD o x c p K = xput o x c p K := by
 cases c <;> cases p <;> simp only [xputD, xput, deepK_eq]
def xst (st : St) (x : D) (K : St → Prop) : D → Prop
 | .lref s b p o => st.gen s = b ∧ match st.lc s with
  | some c => xputD o x c p fun e => K (st.setLc s e)
  | none => False
 | _ => False
theorem xst_eq {st : St} {x : D} {K : St → Prop} (d : D) : xst st x K d = xstore st x K d := by
 cases d <;> simp only [xst, xstore, xputD_eq] <;> rfl
/-! ### What it comes to -/
def xpick : D → Prop → Prop → Prop
 | .bool t, A, B => Br t A B
 | _, _, _ => False
def xbi (op : BinOp) : D → D → (D → Prop) → Prop
 | .int k a, .int k' b, K =>
  if k = k' then
   match op with
   | .add => K (.int k (k.wrap (a + b)))
   | .sub => K (.int k (k.wrap (a - b)))
   | .mul => K (.int k (k.wrap (a * b)))
   | .quo => b ≠ 0 ∧ K (.int k (k.wrap (a.tdiv b)))
   | .rem => b ≠ 0 ∧ K (.int k (a.tmod b))
   | .eql => K (.bool (a == b))
   | .neq => K (.bool (a != b))
   | .lss => K (.bool (decide (a < b)))
   | .leq => K (.bool (decide (a ≤ b)))
   | .gtr => K (.bool (decide (a > b)))
   | .geq => K (.bool (decide (a ≥ b)))
   | .xor => K (.int k (k.wrap (xorI k a b)))
   | .and => K (.int k (k.wrap (andI k a b)))
   | .shl => 0 ≤ b ∧ K (.int k (k.wrap (shlI k a b)))
   | _ => False
  else False
 | .str a, .str b, K =>
  match op with
  | .add => ¬ (((a.size + b.size : Nat) : Int) > IntKind.i64.max) ∧ K (.str (a ++ b))
  | .eql => K (.bool (a.toList == b.toList))
  | .neq => K (.bool (!(a.toList == b.toList)))
  | .lss => K (.bool (Op.bytesLess a.toList b.toList))
  | .leq => K (.bool (Op.bytesLess a.toList b.toList || a.toList == b.toList))
  | .gtr => K (.bool (!(Op.bytesLess a.toList b.toList || a.toList == b.toList)))
  | .geq => K (.bool (!Op.bytesLess a.toList b.toList))
  | _ => False
 | _, _, _ => False
def xbb (neg : Bool) : D → D → (D → Prop) → Prop
 | .bool a, .bool b, K => K (.bool (if neg then !(a == b) else a == b))
 | _, _, _ => False
def xpb (neg : Bool) : D → D → (D → Prop) → Prop
 | .nilp, .nilp, K => K (.bool !neg)
 | .cref _, .nilp, K => K (.bool neg)
 | .nilp, .cref _, K => K (.bool neg)
 | .lref .., .nilp, K => K (.bool neg)
 | .nilp, .lref .., K => K (.bool neg)
 | _, _, _ => False
def xcmp (neg : Bool) (z d e : D) (K : D → Prop) : Prop := match d, e with
 | .agg fs, .agg gs => match D.eqz z (.agg fs) (.agg gs) with
  | some b => K (.bool (bif neg then !b else b))
  | none => False
 | _, _ => False
def xnot : D → (D → Prop) → Prop
 | .bool b, K => K (.bool !b)
 | _, _ => False
def xneg : D → (D → Prop) → Prop
 | .int k n, K => K (.int k (k.wrap (0 - n)))
 | _, _ => False
def xcvi (k : IntKind) : D → (D → Prop) → Prop
 | .int _ n, K => K (.int k (k.wrap n))
 | _, _ => False
def xcvs : D → (D → Prop) → Prop
 | .str b, K => K (.str b)
 | _, _ => False
def xfld (off sz : Nat) (ag : Bool) (f : Nat) : D → (D → Prop) → Prop
 | .agg fs, K => match fs[f]? with
  | some d => D.lens (fs.take f) = off ∧ d.len = sz ∧ d.isAgg = ag ∧ K d
  | none => False
 | _, _ => False
def xsx : D → D → (D → Prop) → Prop
 | .str s, .int _ n, K => 0 ≤ n ∧ n < s.size ∧ K (.int .u8 (byteAt s n.toNat))
 | _, _, _ => False
def xext (i : Nat) : D → (D → Prop) → Prop
 | .tup ds, K => match ds[i]? with
  | some d => K d
  | none => False
 | _, _ => False
def xlens : D → (D → Prop) → Prop
 | .str s, K => K (.int .i64 s.size)
 | _, _ => False
def xlenl : D → (D → Prop) → Prop
 | .nil, K => K (.int .i64 0)
 | .ro _ ds, K => K (.int .i64 ds.length)
 | .lsl _ _ n _, K => K (.int .i64 n)
 | .lvw _ _ _ _ n _, K => K (.int .i64 n)
 | _, _ => False
def x3 : D → D → D → D → (D → Prop) → Prop
 | .int _ l, .int _ h, .int _ q, x, K => 0 ≤ l ∧ l ≤ h ∧ h ≤ q ∧ capOk q x ∧ K .any
 | _, _, _, _, _ => False
theorem x3_spec {a b c d : D} {K : D → Prop} (q : x3 a b c d K) : ∃ k1 l k2 h k3 m, a = .int k1 l ∧ b = .int k2 h ∧ c = .int k3 m ∧ 0 ≤ l ∧ l ≤ h ∧ h ≤ m ∧ capOk m d ∧ K .any := by
 unfold x3 at q
 split at q
 ·exact ⟨_, _, _, _, _, _, rfl, rfl, rfl, q⟩
 ·exact q.elim
def xsll (es : Nat) (pre : Bool) (l h : Int) (K : D → Prop) : D → Prop
 | .ro es' ds => es' = es ∧ 0 ≤ l ∧ l ≤ h ∧ h ≤ ds.length ∧ K (.ro es ((ds.drop l.toNat).take (h - l).toNat))
 | .nil => l = 0 ∧ h = 0 ∧ K .nil
 | .lsl s b _ c => bif pre then l = 0 ∧ 0 ≤ h ∧ h ≤ c ∧ K (.lsl s b h.toNat c) else 0 ≤ l ∧ l ≤ h ∧ h ≤ c ∧ K (.lvw s b l.toNat (l.toNat * es) (h - l).toNat (c - l.toNat))
 | .lvw s b i o _ c => 0 ≤ l ∧ l ≤ h ∧ h ≤ c ∧ K (.lvw s b (i + l.toNat) (o + l.toNat * es) (h - l).toNat (c - l.toNat))
 | _ => False
theorem xsll_xslc {es : Nat} {pre : Bool} {l h : Int} {K : D → Prop} {d : D} (q : xsll es pre l h K d) : xslc es l h K d := by
 cases d <;> first | exact q | skip
 cases pre
 ·exact .inr q
 ·exact .inl q
theorem xsll_mono {es : Nat} {pre : Bool} {l h : Int} {d : D} {K K' : D → Prop} (hk : ∀ d, K d → K' d) (q : xsll es pre l h K d) : xsll es pre l h K' d := by
 cases d <;> first | exact q.elim | exact ⟨q.1, q.2.1, hk _ q.2.2⟩ | exact ⟨q.1, q.2.1, q.2.2.1, hk _ q.2.2.2⟩ | exact ⟨q.1, q.2.1, q.2.2.1, q.2.2.2.1, hk _ q.2.2.2.2⟩ | skip
 cases pre <;> exact ⟨q.1, q.2.1, q.2.2.1, hk _ q.2.2.2⟩
theorem xsll_val {es : Nat} {pre : Bool} {l h : Int} {d : D} {K : D → Prop} (q : xsll es pre l h K d) : ∃ r, K r ∧ xsll es pre l h (fun d' => d' = r) d := by
 cases d <;> first | exact q.elim | exact ⟨_, q.2.2, q.1, q.2.1, rfl⟩ | exact ⟨_, q.2.2.2, q.1, q.2.1, q.2.2.1, rfl⟩ | exact ⟨_, q.2.2.2.2, q.1, q.2.1, q.2.2.1, q.2.2.2.1, rfl⟩ | skip
 cases pre <;> exact ⟨_, q.2.2.2, q.1, q.2.1, q.2.2.1, rfl⟩
def xcapl : D → (D → Prop) → Prop
 | .nil, K => K (.int .i64 0)
 | .lsl _ _ _ c, K => K (.int .i64 c)
 | .lvw _ _ _ _ _ c, K => K (.int .i64 c)
 | _, _ => False
def xblo (st : St) (x : Option Opd) (K : Int → Prop) : Prop := match x with
 | some x => xbnd K (x.ev st)
 | none => K 0
def xbhi (st : St) (n : Nat) (x : Option Opd) (K : Int → Prop) : Prop := match x with
 | some x => xbnd K (x.ev st)
 | none => K n
def xsl (es : Nat) (tx pre : Bool) (l h : Int) (K : D → Prop) (d : D) : Prop := match tx with
 | true => xslt l h K d
 | false => xsll es pre l h K d
def xbl : List (Nat × Nat × Nat × D) → (D → Prop) → D → Prop
 | [], K, acc => K acc
 | (i, off, sz, x) :: ps, K, acc => x.memB = true ∧ x.len = sz ∧ xat off 0 (acc.at [i]) ∧ xset (acc.set [i] x) fun c => deepK c fun e => xbl ps K e
theorem xbl_xbd : ∀ {ps : List (Nat × Nat × Nat × D)} {K : D → Prop} {acc : D}, xbl ps K acc → xbd acc ps K
 | [], K, acc, h => h
 | (i, off, sz, x) :: ps, K, acc, h => by
  obtain ⟨h1, h2, h3, h4⟩ := h
  refine ⟨h1, h2, h3, ?_⟩
  unfold xset at h4 ⊢
  split at h4
  ·rw [deepK_eq] at h4
   exact xbl_xbd h4
  ·exact h4
theorem xbl_mono {K K' : D → Prop} (hk : ∀ d, K d → K' d) : ∀ {ps : List (Nat × Nat × Nat × D)} {acc : D}, xbl ps K acc → xbl ps K' acc
 | [], acc, h => hk _ h
 | (i, off, sz, x) :: ps, acc, h => by
  obtain ⟨h1, h2, h3, h4⟩ := h
  refine ⟨h1, h2, h3, ?_⟩
  unfold xset at h4 ⊢
  split at h4
  ·rw [deepK_eq] at h4 ⊢
   exact xbl_mono hk h4
  ·exact h4
theorem xbl_val {K : D → Prop} : ∀ {ps : List (Nat × Nat × Nat × D)} {acc : D}, xbl ps K acc → ∃ d, K d ∧ xbl ps (fun d' => d' = d) acc
 | [], acc, h => ⟨acc, h, rfl⟩
 | (i, off, sz, x) :: ps, acc, h => by
  obtain ⟨h1, h2, h3, h4⟩ := h
  unfold xset at h4
  split at h4
  ·rename_i c hc
   rw [deepK_eq] at h4
   obtain ⟨d, k1, k2⟩ := xbl_val h4
   refine ⟨d, k1, h1, h2, h3, ?_⟩
   rw [hc]
   unfold xset
   simp only
   rw [deepK_eq]
   exact k2
  ·exact h4.elim
def xp (st : St) (K : D → Prop) : XOp → Prop
 | .mv x => K (x.ev st)
 | .pick c a b => xpick (c.ev st) (K (a.ev st)) (K (b.ev st))
 | .nilc x => xaddr (x.ev st) (K (x.ev st))
 | .bin op x y => xbi op (x.ev st) (y.ev st) K
 | .binb neg x y => xbb neg (x.ev st) (y.ev st) K
 | .ptb neg x y => xpb neg (x.ev st) (y.ev st) K
 | .cmp neg z x y => xcmp neg z (x.ev st) (y.ev st) K
 | .not x => xnot (x.ev st) K
 | .neg x => xneg (x.ev st) K
 | .cvi k x => xcvi k (x.ev st) K
 | .cvs x => xcvs (x.ev st) K
 | .fa off sz f x => xfield off sz f (x.ev st) K
 | .fld off sz ag f x => xfld off sz ag f (x.ev st) K
 | .ix es x i => xidx es (x.ev st) (i.ev st) K
 | .sx x i => xsx (x.ev st) (i.ev st) K
 | .ld sz ag x => xload st sz ag (x.ev st) K
 | .ext x i => xext i (x.ev st) K
 | .lens x => xlens (x.ev st) K
 | .lenl x => xlenl (x.ev st) K
 | .mnx mx x y => xmnx mx K (x.ev st) (y.ev st)
 | .bst x => xbst st K (x.ev st)
 | .slc es tx x lo hi => xblo st lo fun l => xbhi st (x.ev st).sllen hi fun h => xsl es tx (lo.isNone && hi.isNone) l h K (x.ev st)
 | .capl x => xcapl (x.ev st) K
 | .slc3 x lo hi mx => x3 (lo.ev st) (hi.ev st) (mx.ev st) (x.ev st) K
 | .lk x i => xlk st (x.ev st) (i.ev st) K
 | .bld z ps => xbl (ps.map fun p => (p.1, p.2.1, p.2.2.1, p.2.2.2.ev st)) K z
 | .fnm f xs => (xs.map (Opd.ev st)).all D.capB = true ∧ K (.fn f (xs.map (Opd.ev st)))
 | _ => False
def xo (P : Program) (dst : Option Nat) (st : St) (K : D → St → Prop) : XOp → Prop
 | .al z => match dst with
  | some s => ∀ b, K (.lref s b [] 0) (st.box s b z)
  | none => False
 | .bx x => match dst with
  | some s => deepK (x.ev st) fun d => d.memB = true ∧ ∀ b, K (.lref s b [] 0) (st.box s b d)
  | none => False
 | .mk z bytes l c => match dst with
  | some s => xmk st s z bytes K (l.ev st) (c.ev st)
  | none => False
 | .st sz p x => deepK (x.ev st) fun d => d.memB = true ∧ d.len = sz ∧ xst st d (fun st' => K .undef st') (p.ev st)
 | .bsl z len ps => match dst with
  | some s => if len = 0 then ps = [] ∧ K .nil st else len * z.len ≤ 16777216 ∧ len * z.len ≠ 0 ∧ xbl (ps.map fun p => (p.1, p.1 * z.len, z.len, p.2.ev st)) (xrows z.len fun ds => ∀ b, K (.lsl s b len len) (st.box s b (.arr z.len ds len))) (.agg (List.replicate len z))
  | none => False
 | .mm => match dst with
  | some s => ∀ b, K (.lmp s b) (st.box s b (.mp []))
  | none => False
 | .mu m k x => xmu st (fun st' => K .undef st') (m.ev st) (k.ev st) (x.ev st)
 | .app es bytes x y => match dst with
  | some t => xappA st t es bytes (x.ev st) (y.ev st) K
  | none => False
 | .cpy es x y => xcpy st es (x.ev st) (y.ev st) K
 | .clr es x => xclr st es (x.ev st) K
 | .apz bytes z x y => match dst with
  | some t => xappZ st t z bytes (x.ev st) (y.ev st) K
  | none => False
 | .ovl f x y => xovl P st (K (.bool false) st) f (x.ev st) (y.ev st)
 | .call f xs => (xs.map (Opd.ev st)).all D.noL = true ∧ XCL P f (xs.map (Opd.ev st)) st K
 | .callv f xs => xcall P st (xs.map (Opd.ev st)) K (f.ev st)
 | op => xp st (fun d => K d st) op
/-- A slice literal that is only read. -/
def xbs (st : St) (z : D) (len : Nat) (ps : List (Nat × Opd)) (K : D → Prop) : Prop :=
 if len = 0 then ps = [] ∧ K .nil else len * z.len ≤ 16777216 ∧ len * z.len ≠ 0 ∧ xbl (ps.map fun p => (p.1, p.1 * z.len, z.len, p.2.ev st)) (xrows z.len fun ds => K (.ro z.len ds)) (.agg (List.replicate len z))
def xq (P : Program) (st : St) (K : D → Prop) : XOp → Prop
 | .call f xs => (xs.map (Opd.ev st)).all D.noL = true ∧ QC P f (xs.map (Opd.ev st)) st K
 | .bsl z len ps => xbs st z len ps K
 | op => xp st K op
def xos (P : Program) (n : Nat) : List COp → St → (St → Prop) → Prop
 | [], st, K => K st
 | ⟨dst, op, none⟩ :: os, st, K => xo P dst st (fun d st' => putS n dst d st' fun st2 => xos P n os st2 K) op
 | ⟨dst, op, some (t, want)⟩ :: os, st, K => xguard (st.fr t) want (xo P dst st (fun d st' => putS n dst d st' fun st2 => xos P n os st2 K) op) (putN n dst .undef st fun st2 => xos P n os st2 K)
def xqs (P : Program) (n : Nat) : List COp → St → (St → Prop) → Prop
 | [], st, K => K st
 | ⟨dst, op, none⟩ :: os, st, K => xq P st (fun d => putS n dst d st fun st2 => xqs P n os st2 K) op
 | ⟨dst, op, some (t, want)⟩ :: os, st, K => xguard (st.fr t) want (xq P st (fun d => putS n dst d st fun st2 => xqs P n os st2 K) op) (putN n dst .undef st fun st2 => xqs P n os st2 K)
/-- The names that what may come late looks at. -/
def rdN (st : St) : List Opd → (List Nat → Prop) → Prop
 | [], K => K []
 | x :: xs, K => match x.ev st with
  | .lref s _ _ _ => rdN st xs fun l => K (s :: l)
  | .lsl s _ _ _ => rdN st xs fun l => K (s :: l)
  | .lmp s _ => rdN st xs fun l => K (s :: l)
  | _ => rdN st xs K
def sameN (st st' : St) : List Nat → Prop
 | [] => True
 | s :: l => (st'.lc s = st.lc s ∧ st'.gen s = st.gen s) ∧ sameN st st' l
def xd (P : Program) (n : Nat) : List (COp × Bool × List Opd) → St → (St → Prop) → Prop
 | [], st, K => K st
 | (⟨dst, op, none⟩, false, _) :: l, st, K => xq P st (fun d => putS n dst d st fun st2 => xd P n l st2 K) op
 | (⟨dst, op, some (t, w)⟩, false, _) :: l, st, K => xguard (st.fr t) w (xq P st (fun d => putS n dst d st fun st2 => xd P n l st2 K) op) (putN n dst .undef st fun st2 => xd P n l st2 K)
 | (⟨dst, op, none⟩, true, rds) :: l, st, K => rdN st rds fun ks => xo P dst st (fun d st' => sameN st st' ks ∧ putS n dst d st' fun st2 => xd P n l st2 K) op
 | (⟨dst, op, some (t, w)⟩, true, rds) :: l, st, K => rdN st rds fun ks => xguard (st.fr t) w (xo P dst st (fun d st' => sameN st st' ks ∧ putS n dst d st' fun st2 => xd P n l st2 K) op) (putN n dst .undef st fun st2 => xd P n l st2 K)
/-- A loop. -/
structure XLc (P : Program) (n : Nat) (body : CC) (st : St) (Q : Post) : Prop where
 sem : P.follows .mixedOrders = true → ∀ (nq : List Nat) (c : Code), compile P nq c = some body → Sem P n (.loop c) st Q
/-- A statement that is still to be walked. -/
structure XS (P : Program) (n : Nat) (cc : CC) (st : St) (Q : Post) : Prop where
 sem : P.follows .mixedOrders = true → ∀ (nq : List Nat) (c : Code), compile P nq c = some cc → Sem P n c st Q
def xw (P : Program) (n : Nat) : CC → St → Post → Prop
 | .skip, st, Q => Q .normal st
 | .ops l, st, Q => xos P n l st fun st' => Q .normal st'
 | .quiet l, st, Q => xqs P n l st fun st' => Q .normal st'
 | .drawn l, st, Q => xd P n l st fun st' => Q .normal st'
 | .draw id ops, st, Q => XD P n id ops st fun st' => Q .normal st'
 | .decl l s z sz v, st, Q => xqs P n l st fun st' => st'.lc s = none ∧ Nat.ble (s + 1) n = true ∧ deepK (v.ev st') fun x => x.memB = true ∧ x.len = sz ∧ z.len = sz ∧ x.isAgg = z.isAgg ∧ ∀ b, Q .normal ((st'.put s (.lref s b [] 0)).box s b x)
 | .seq x y, st, Q => xw P n x st fun e st' => match e with
  | .normal => XS P n y st' Q
  | e => Q e st'
 | .cond c x y, st, Q => xcond (c.ev st) (xw P n x st Q) (xw P n y st Q)
 | .block id c, st, Q => xw P n c st fun e st' => match e with
  | .exit i => if i = id then Q .normal st' else Q (.exit i) st'
  | e => Q e st'
 | .loop c, st, Q => XLc P n c st Q
 | .exit id, st, Q => Q (.exit id) st
 | .ret, st, Q => Q .ret st
section
variable {P : Program} {n : Nat} {st : St}
theorem cOpd_ev (x : Operand) : (cOpd x).ev st = st.ev x := by cases x <;> rfl
theorem cOpd_evs (xs : List Operand) : (xs.map cOpd).map (Opd.ev st) = xs.map st.ev := by
 rw [List.map_map]
 exact List.map_congr_left fun x _ => cOpd_ev x
theorem xbi_bin {op : BinOp} {t : TypeId} {x y : D} {K : D → Prop} (h : xbi op x y K) : xbin P op t x y K := by
 cases x <;> cases y <;> first | exact h | (simp [xbi] at h)
def isBuild : Op → Bool
 | .build .. => true
 | _ => false
theorem xbnd_mono' {d : D} {K K' : Int → Prop} (hk : ∀ d, K d → K' d) (q : xbnd K d) : xbnd K' d := by
 cases d <;> first | exact q.elim | exact hk _ q
theorem xlo_mono {x : Option Operand} {K K' : Int → Prop} (hk : ∀ d, K d → K' d) (q : xlo st x K) : xlo st x K' := by
 cases x <;> first | exact hk _ q | exact xbnd_mono' hk q
theorem xhi_mono {m : Nat} {x : Option Operand} {K K' : Int → Prop} (hk : ∀ d, K d → K' d) (q : xhi st m x K) : xhi st m x K' := by
 cases x <;> first | exact hk _ q | exact xbnd_mono' hk q
theorem xp_sound {op : Op} {x : XOp} {K : D → Prop} (hnb : isBuild op = false) (hc : cOp P op = some x) (h : xp st K x) : xpure P st K op := by
 cases op <;> simp only [cOp] at hc
 case build => cases hnb
 case makeMap t r => cases r <;> simp at hc; subst hc; exact h.elim
 case mapUpdate t m k x => split at hc <;> simp at hc; subst hc; exact h.elim
 case buildSlice t len parts => split at hc <;> simp at hc; subst hc; exact h.elim
 case makeFunc fn first caps =>
  split at hc
  ·split at hc
   ·rename_i hq
    simp only [Option.some.injEq] at hc; subst hc
    simp only [xp, cOpd_evs] at h
    exact ⟨by simpa using hq, h.1, h.2⟩
   ·cases hc
  ·cases hc
 case lookup t x i ok =>
  split at hc
  ·rename_i hq
   simp only [Option.some.injEq] at hc; subst hc
   simp only [Bool.and_eq_true, Bool.not_eq_true'] at hq
   simp only [xp, cOpd_ev] at h
   exact ⟨hq.1, hq.2, h⟩
  ·cases hc
 case move x => simp only [Option.some.injEq] at hc; subst hc; simp only [xp, cOpd_ev] at h; exact h
 case assign x => simp only [Option.some.injEq] at hc; subst hc; simp only [xp, cOpd_ev] at h; exact h
 case pick c a b =>
  simp only [Option.some.injEq] at hc; subst hc
  simp only [xp, cOpd_ev] at h
  simp only [xpure]
  cases hd : st.ev c <;> rw [hd] at h <;> first | exact h | exact h.elim
 case nilCheck x => simp only [Option.some.injEq] at hc; subst hc; simp only [xp, cOpd_ev] at h; exact h
 case binOp op t x y u =>
  split at hc
  ·rename_i hu
   cases op <;> simp at hc <;> subst hc <;> simp only [xp, cOpd_ev] at h <;> simp only [xpure]
   all_goals
    cases hx : st.ev x <;> cases hy : st.ev y <;> rw [hx, hy] at h <;> first | exact h.elim | exact ⟨hu, h⟩
  ·rename_i e hu
   have hp : isPtr P t = true := by simp [isPtr, hu]
   cases op <;> simp at hc <;> subst hc <;> simp only [xp, cOpd_ev] at h <;> simp only [xpure]
   all_goals
    cases hx : st.ev x <;> cases hy : st.ev y <;> rw [hx, hy] at h <;> first | exact h.elim | exact ⟨hp, h⟩
  ·rename_i fds hu
   split at hc
   ·rename_i z hz
    cases op <;> simp at hc <;> subst hc <;> simp only [xp, cOpd_ev] at h <;> simp only [xpure]
    all_goals
     unfold xcmp at h
     split at h
     ·rename_i fs gs e1 e2
      split at h
      ·rename_i b hb
       rw [e1, e2]
       exact ⟨z, b, hz, hb, h⟩
      ·exact h.elim
     ·exact h.elim
   ·cases hc
  ·simp only [Option.some.injEq] at hc; subst hc
   simp only [xp, cOpd_ev] at h
   exact xbi_bin h
 case unOp op t x =>
  cases op <;> simp at hc <;> subst hc <;> simp only [xp, cOpd_ev] at h <;> simp only [xpure]
  all_goals
   cases hx : st.ev x <;> rw [hx] at h <;> first | exact h | exact h.elim
 case convert s d x =>
  split at hc
  ·rename_i u k h1 h2
   simp only [Option.some.injEq] at hc; subst hc
   simp only [xp, cOpd_ev] at h
   simp only [xpure]
   cases hx : st.ev x <;> rw [hx] at h <;> first | exact ⟨by simp [h1], k, h2, h⟩ | exact h.elim
  ·rename_i h1 h2
   simp only [Option.some.injEq] at hc; subst hc
   simp only [xp, cOpd_ev] at h
   simp only [xpure]
   cases hx : st.ev x <;> rw [hx] at h <;> first | exact ⟨by simp [h1], h2, h⟩ | exact h.elim
  ·split at hc
   ·rename_i hbs
    simp only [Option.some.injEq] at hc; subst hc
    simp only [xp, cOpd_ev] at h
    simp only [xpure]
    cases hx : st.ev x <;> rw [hx] at h <;> first | exact h.elim | exact ⟨hbs, h⟩
   ·cases hc
 case fieldAddr t x f =>
  cases ht : fldOf P t f with
  | none => simp [ht] at hc
  | some r =>
   obtain ⟨off, sz, ag⟩ := r
   simp only [ht] at hc
   split at hc
   ·cases hc
   ·rename_i hz
    simp only [Option.some.injEq] at hc; subst hc
    simp only [xp, cOpd_ev] at h
    simp only [xpure, ht]
    exact ⟨hz, h⟩
 case makeSlice t l c =>
  cases ht : mkOf P t with
  | none => simp [ht] at hc
  | some r => simp only [ht, Option.some.injEq] at hc; subst hc; exact h.elim
 case field t x f =>
  cases ht : fldOf P t f with
  | none => simp [ht] at hc
  | some r =>
   obtain ⟨off, sz, ag⟩ := r
   simp only [ht, Option.some.injEq] at hc; subst hc
   simp only [xp, cOpd_ev] at h
   simp only [xpure, ht]
   cases hx : st.ev x <;> rw [hx] at h <;> first | exact h | exact h.elim
 case indexAddr t x i =>
  cases ht : eltOf P t with
  | none => simp [ht] at hc
  | some es =>
   simp only [ht, Option.some.injEq] at hc; subst hc
   simp only [xp, cOpd_ev] at h
   simpa only [xpure, ht] using h
 case index t x i =>
  split at hc
  ·rename_i hu
   simp only [Option.some.injEq] at hc; subst hc
   simp only [xp, cOpd_ev] at h
   simp only [xpure]
   cases hx : st.ev x <;> cases hi : st.ev i <;> rw [hx, hi] at h <;> first | exact ⟨hu, h⟩ | exact h.elim
  ·cases hc
 case slice t x lo hi mx =>
  have e1 : ∀ (y : Option Operand) (K : Int → Prop), xblo st (y.map cOpd) K = xlo st y K := fun y K => by cases y <;> simp [xblo, xlo, cOpd_ev]
  have e2 : ∀ (m : Nat) (y : Option Operand) (K : Int → Prop), xbhi st m (y.map cOpd) K = xhi st m y K := fun m y K => by cases y <;> simp [xbhi, xhi, cOpd_ev]
  cases mx with
  | some m =>
   simp only at hc
   split at hc
   ·rename_i lo hi e hu
    split at hc
    ·rename_i he
     obtain ⟨r, he⟩ := Option.isSome_iff_exists.1 he
     simp only [Option.some.injEq] at hc; subst hc
     simp only [xp, cOpd_ev] at h
     refine .inr ⟨rfl, m, e, r, rfl, hu, he, ?_⟩
     obtain ⟨k1, l, k2, hh, k3, q, e1, e2, e3, q1, q2, q3, q4, q5⟩ := x3_spec h
     simp only [xlo, xhi, e1, e2, e3]
     exact ⟨q1, q2, q3, q4, q5⟩
    ·cases hc
   ·cases hc
  | none =>
   simp only at hc
   cases hu : P.underlying t with
   | none => simp [hu] at hc
   | some d =>
    cases d <;> simp only [hu] at hc <;> try (cases hc; done)
    ·simp only [Option.some.injEq] at hc; subst hc
     simp only [xp, cOpd_ev, e1, e2, xsl] at h
     simp only [xpure, hu]
     exact .inl ⟨trivial, h⟩
    ·split at hc
     ·rename_i es ag he
      simp only [Option.some.injEq] at hc; subst hc
      simp only [xp, cOpd_ev, e1, e2, xsl] at h
      simp only [xpure, hu, he]
      exact .inl ⟨trivial, xlo_mono (fun l => xhi_mono fun m => xsll_xslc) h⟩
     ·cases hc
 case load t x =>
  cases ht : varOf P t with
  | none => simp [ht] at hc
  | some r =>
   obtain ⟨sz, ag⟩ := r
   simp only [ht, Option.some.injEq] at hc; subst hc
   simp only [xp, cOpd_ev] at h
   simpa only [xpure, ht] using h
 case extract x i =>
  simp only [Option.some.injEq] at hc; subst hc
  simp only [xp, cOpd_ev] at h
  simp only [xpure]
  cases hx : st.ev x <;> rw [hx] at h <;> first | exact h | exact h.elim
 case call c =>
  cases hcal : c.callee with
  | value f =>
   simp only [hcal] at hc
   cases f
   case func g =>
    simp only at hc
    cases hnb : noBody P g <;> rw [hnb] at hc <;> simp only at hc
    ·simp only [Option.some.injEq] at hc; subst hc; simp [xp] at h
    ·split at hc
     ·simp only [Option.some.injEq] at hc; subst hc; simp [xp] at h
     ·cases hc
   all_goals (simp only [Option.some.injEq] at hc; subst hc; simp [xp] at h)
  | invoke r m => simp [hcal] at hc
  | builtin b =>
   cases b <;> simp only [hcal] at hc <;> try (cases hc; done)
   case len =>
    simp only [xpure, hcal]
    split at hc
    ·rename_i x h1 h2
     simp only [Option.some.injEq] at hc; subst hc
     simp only [xp, cOpd_ev] at h
     simp only [h1]
     cases hx : st.ev x <;> rw [hx] at h <;> first | exact h.elim | exact ⟨h2, h⟩
    ·rename_i x e h1 h2
     simp only [Option.some.injEq] at hc; subst hc
     simp only [xp, cOpd_ev] at h
     simp only [h1]
     cases hx : st.ev x <;> rw [hx] at h <;> first | exact h.elim | exact ⟨⟨e, h2⟩, h⟩
    ·cases hc
   case cap =>
    simp only [xpure, hcal]
    split at hc
    ·rename_i x e h1 h2
     simp only [Option.some.injEq] at hc; subst hc
     simp only [xp, cOpd_ev] at h
     simp only [h1]
     cases hx : st.ev x <;> rw [hx] at h <;> first | exact h.elim | exact ⟨⟨e, h2⟩, h⟩
    ·cases hc
   case append =>
    split at hc
    ·split at hc
     ·simp only [Option.some.injEq] at hc; subst hc; simp [xp] at h
     ·simp only [Option.some.injEq] at hc; subst hc; simp [xp] at h
     ·cases hc
    ·cases hc
   case copy =>
    repeat' split at hc
    all_goals first | (cases hc; done) | (simp only [Option.some.injEq] at hc; subst hc; simp [xp] at h)
   case clear =>
    repeat' split at hc
    all_goals first | (cases hc; done) | (simp only [Option.some.injEq] at hc; subst hc; simp [xp] at h)
   case min =>
    simp only [xpure, hcal]
    split at hc
    ·rename_i x y hxy
     simp only [Option.some.injEq] at hc; subst hc
     simp only [xp, cOpd_ev] at h
     rw [hxy]
     exact h
    ·cases hc
   case max =>
    simp only [xpure, hcal]
    split at hc
    ·rename_i x y hxy
     simp only [Option.some.injEq] at hc; subst hc
     simp only [xp, cOpd_ev] at h
     rw [hxy]
     exact h
    ·cases hc
 case store t p x =>
  cases ht : varOf P t with
  | none => simp [ht] at hc
  | some r => simp only [ht, Option.some.injEq] at hc; subst hc; simp [xp] at h
 case alloc t =>
  cases ht : zeroD P t with
  | none => simp [ht] at hc
  | some r => simp only [ht, Option.some.injEq] at hc; subst hc; simp [xp] at h
 case box t x => simp only [Option.some.injEq] at hc; subst hc; simp [xp] at h
 all_goals cases hc
theorem xo_sound {op : Op} {x : XOp} {dst : Option Nat} {K : D → St → Prop} (hc : cOp P op = some x) (h : xo P dst st K x) : xop P dst st K op := by
 have pure_case : isBuild op = false → xp st (fun d => K d st) x → xpure P st (fun d => K d st) op := fun hnb h => xp_sound hnb hc h
 cases op
 case buildSlice t len parts =>
  simp only [cOp] at hc
  cases hz : mkOf P t with
  | none => simp [hz] at hc
  | some r =>
   obtain ⟨z, bytes⟩ := r
   simp only [hz, Option.some.injEq] at hc
   subst hc
   simp only [xo] at h
   simp only [xop, hz]
   cases dst with
   | none => exact h.elim
   | some s =>
    simp only at h ⊢
    by_cases hl : len = 0
    ·rw [if_pos hl] at h ⊢
     exact ⟨by simpa using h.1, h.2⟩
    ·rw [if_neg hl] at h ⊢
     refine ⟨h.1, h.2.1, ?_⟩
     have h' := h.2.2
     rw [List.map_map] at h'
     have e : ((fun p : Nat × Opd => (p.1, p.1 * z.len, z.len, p.2.ev st)) ∘ fun p : Nat × Operand => (p.1, cOpd p.2)) = fun p : Nat × Operand => (p.1, p.1 * z.len, z.len, st.ev p.2) := by
      funext p
      simp [cOpd_ev]
     rw [e] at h'
     exact xbl_xbd h'
 case makeMap t r =>
  simp only [cOp] at hc
  cases r <;> simp at hc
  subst hc
  simp only [xo] at h
  simp only [xop]
  cases dst <;> first | exact h.elim | exact ⟨trivial, h⟩
 case mapUpdate t m k x =>
  simp only [cOp] at hc
  split at hc
  ·rename_i hq
   simp only [Option.some.injEq] at hc; subst hc
   simp only [xo, cOpd_ev] at h
   exact ⟨hq, h⟩
  ·cases hc
 case build t parts =>
  simp only [cOp] at hc
  cases ht : zeroD P t with
  | none => simp [ht] at hc
  | some z =>
   cases hl : partsOf P t parts.toList with
   | none => simp [ht, hl] at hc
   | some l =>
    simp only [ht, hl] at hc
    split at hc
    ·rename_i hq
     simp only [Option.some.injEq] at hc; subst hc
     simp only [Bool.and_eq_true] at hq
     simp only [xop, ht, hl]
     refine ⟨hq.1, hq.2, ?_⟩
     have h' : xbl ((l.map fun p => (p.1, p.2.1, p.2.2.1, cOpd p.2.2.2)).map fun p => (p.1, p.2.1, p.2.2.1, p.2.2.2.ev st)) (fun d => K d st) z := h
     rw [List.map_map] at h'
     have e : ((fun p : Nat × Nat × Nat × Opd => (p.1, p.2.1, p.2.2.1, p.2.2.2.ev st)) ∘ fun p : Nat × Nat × Nat × Operand => (p.1, p.2.1, p.2.2.1, cOpd p.2.2.2)) = fun p : Nat × Nat × Nat × Operand => (p.1, p.2.1, p.2.2.1, st.ev p.2.2.2) := by
      funext p
      simp [cOpd_ev]
     rw [e] at h'
     exact xbl_xbd h'
    ·cases hc
 case alloc t =>
  simp only [cOp] at hc
  cases ht : zeroD P t with
  | none => simp [ht] at hc
  | some z =>
   simp only [ht, Option.some.injEq] at hc; subst hc
   simp only [xo] at h
   simp only [xop, ht]
   cases dst <;> first | exact h | exact h.elim
 case box t y =>
  simp only [cOp, Option.some.injEq] at hc; subst hc
  simp only [xo, cOpd_ev, deepK_eq] at h
  simp only [xop]
  cases dst <;> first | exact h | exact h.elim
 case makeSlice t l c =>
  simp only [cOp] at hc
  cases ht : mkOf P t with
  | none => simp [ht] at hc
  | some r =>
   obtain ⟨z, bytes⟩ := r
   simp only [ht, Option.some.injEq] at hc; subst hc
   simp only [xo, cOpd_ev] at h
   simp only [xop, ht]
   cases dst <;> first | exact h | exact h.elim
 case store t p y =>
  simp only [cOp] at hc
  cases ht : varOf P t with
  | none => simp [ht] at hc
  | some r =>
   simp only [ht, Option.some.injEq] at hc; subst hc
   simp only [xo, cOpd_ev, deepK_eq, xst_eq] at h
   simpa only [xop, ht] using h
 case call c =>
  obtain ⟨callee, args, argTypes⟩ := c
  cases callee with
  | value f =>
   cases f
   case func g =>
    simp only [cOp] at hc
    cases hnb : noBody P g <;> rw [hnb] at hc <;> simp only at hc
    ·simp only [Option.some.injEq] at hc; subst hc
     simp only [xo, cOpd_evs] at h
     simp only [xop, St.ev, xcall, Bool.and_eq_true, List.append_nil]
     exact .inl ⟨⟨h.1, rfl⟩, h.2⟩
    ·split at hc
     ·rename_i x y hxy
      simp only [Option.some.injEq] at hc; subst hc
      simp only [xo, cOpd_ev] at h
      simp only [xop]
      refine .inr ?_
      rw [hxy]
      exact h
     ·cases hc
   all_goals
    simp only [cOp, Option.some.injEq] at hc; subst hc
    simp only [xo, cOpd_evs, cOpd_ev] at h
    exact .inl h
  | invoke r m => simp [cOp] at hc
  | builtin b =>
   by_cases hap : b = .append
   ·subst hap
    simp only [cOp] at hc
    simp only [xop]
    split at hc
    ·rename_i x y ty ty' h1 h2 h3 h4
     split at hc
     ·rename_i z bytes e' hm hu
      simp only [Option.some.injEq] at hc; subst hc
      simp only [xo, cOpd_ev] at h
      cases dst with
      | none => exact h.elim
      | some t => simp only [h1, h2, h3, h4, hm, hu]; exact h
     ·rename_i z bytes hm hu
      simp only [Option.some.injEq] at hc; subst hc
      simp only [xo, cOpd_ev] at h
      cases dst with
      | none => exact h.elim
      | some t => simp only [h1, h2, h3, h4, hm, hu]; exact h
     ·cases hc
    ·cases hc
   ·by_cases hco : b = .copy
    ·subst hco
     simp only [cOp] at hc
     simp only [xop]
     split at hc
     ·rename_i x y ty h1 h2 h3
      split at hc
      ·rename_i es he
       split at hc
       ·cases hc
       ·rename_i hes
        simp only [Option.some.injEq] at hc; subst hc
        simp only [xo, cOpd_ev] at h
        simp only [h1, h2, h3, he]
        exact ⟨hes, h⟩
      ·cases hc
     ·cases hc
    ·by_cases hcl : b = .clear
     ·subst hcl
      simp only [cOp] at hc
      simp only [xop]
      split at hc
      ·rename_i x ty h1 h2
       split at hc
       ·rename_i z bytes he
        simp only [Option.some.injEq] at hc; subst hc
        simp only [xo, cOpd_ev] at h
        simp only [h1, h2, he]
        exact h
       ·cases hc
      ·cases hc
     ·have h1 : xop P dst st K (.call ⟨.builtin b, args, argTypes⟩) = xpure P st (fun d => K d st) (.call ⟨.builtin b, args, argTypes⟩) := by cases b <;> first | exact absurd rfl hap | exact absurd rfl hco | exact absurd rfl hcl | rfl
      rw [h1]
      refine xp_sound rfl hc ?_
      cases b <;> simp only [cOp] at hc <;> first | exact absurd rfl hap | exact absurd rfl hco | exact absurd rfl hcl | (cases hc; done) | skip
      all_goals split at hc <;> first | (simp only [Option.some.injEq] at hc; subst hc; exact h) | cases hc
 all_goals
  refine pure_case rfl ?_
  cases x <;> first | exact h | (simp [cOp] at hc; done) | (simp only [cOp] at hc; (repeat' (split at hc)) <;> first | cases hc | (simp at hc; done))
theorem cOper_spec {ops : Array Oper} {o : Oper} {c : COp} (h : cOper P ops o = some c) : c.dst = o.dst ∧ (cOp P o.op).getD .bad = c.op ∧ gslot ops o = c.gd.map fun q => (some q.1, q.2) := by
 unfold cOper at h
 split at h
 ·rename_i h2; simp only [Option.some.injEq] at h; subst h; exact ⟨rfl, rfl, h2⟩
 ·rename_i h2; simp only [Option.some.injEq] at h; subst h; exact ⟨rfl, rfl, h2⟩
 ·cases h
theorem xo_bad {op : Op} {x : XOp} {dst : Option Nat} {K : D → St → Prop} (hc : (cOp P op).getD .bad = x) (h : xo P dst st K x) : xop P dst st K op := by
 cases hq : cOp P op with
 | none => rw [hq] at hc; subst hc; exact (h : False).elim
 | some y => rw [hq] at hc; subst hc; exact xo_sound hq h
theorem putN_mono {dst : Option Nat} {d : D} {K K' : St → Prop} (hk : ∀ st, K st → K' st) (h : putN n dst d st K) : putN n dst d st K' := by
 cases dst with
 | none => exact hk _ h
 | some i => exact ⟨h.1, hk _ h.2⟩
theorem xguard_mono {d : D} {want : Bool} {A B A' B' : Prop} (ha : A → A') (hb : B → B') (h : xguard d want A B) : xguard d want A' B' := by
 cases d <;> cases want <;> simp only [xguard] at h ⊢ <;> first | exact hb h | exact h.elim | exact ⟨fun e => ha (h.yes e), fun e => hb (h.no e)⟩ | exact ⟨fun e => hb (h.yes e), fun e => ha (h.no e)⟩
theorem xaddr_mono {d : D} {p q : Prop} (hk : p → q) (h : xaddr d p) : xaddr d q := by
 cases d <;> simp only [xaddr] at h ⊢ <;> exact hk h
theorem Br.mono {b : Bool} {A B A' B' : Prop} (ha : A → A') (hb : B → B') (h : Br b A B) : Br b A' B' := ⟨fun e => ha (h.yes e), fun e => hb (h.no e)⟩
theorem xbst_mono {d : D} {K K' : D → Prop} (hk : ∀ d, K d → K' d) (h : xbst st K d) : xbst st K' d := by
 cases d <;> simp only [xbst] at h ⊢ <;> first | exact h.elim | exact hk _ h | exact ⟨h.1, h.2.1, hk _ h.2.2⟩ | skip
 refine ⟨h.1, ?_⟩
 have h2 := h.2
 split at h2
 ·exact ⟨h2.1, h2.2.1, h2.2.2.1, hk _ h2.2.2.2⟩
 ·exact h2.elim
theorem xbi_mono {op : BinOp} {x y : D} {K K' : D → Prop} (hk : ∀ d, K d → K' d) (h : xbi op x y K) : xbi op x y K' := by
 cases x <;> cases y <;> first | exact h.elim | skip
 ·simp only [xbi] at h ⊢
  split at h
  ·rename_i e
   rw [if_pos e]
   cases op <;> first | exact hk _ h | exact ⟨h.1, hk _ h.2⟩ | exact h.elim
  ·exact h.elim
 ·simp only [xbi] at h ⊢
  cases op <;> first | exact hk _ h | exact ⟨h.1, hk _ h.2⟩ | exact h.elim
theorem xpart_mono {sz o base : Nat} {ag : Bool} {r : Option (D × Nat)} {K K' : D → Prop} (hk : ∀ d, K d → K' d) (h : xpart sz ag o base r K) : xpart sz ag o base r K' := by
 cases r with
 | none => exact h.elim
 | some r => exact ⟨h.1, h.2.1, h.2.2.1, hk _ h.2.2.2⟩
theorem xcont_mono {sz o : Nat} {ag : Bool} {c : D} {p : List Nat} {K K' : D → Prop} (hk : ∀ d, K d → K' d) (h : xcont sz ag o c p K) : xcont sz ag o c p K' := by
 cases c
 case arr es ds cp =>
  cases p with
  | nil => exact h.elim
  | cons i q => exact ⟨h.1, xpart_mono hk h.2⟩
 case mp l => exact h.elim
 all_goals
  have h' : xpart sz ag o 0 (D.at _ p) K := h
  exact xpart_mono hk h'
theorem xsl_mono {es : Nat} {tx pre : Bool} {l h : Int} {d : D} {K K' : D → Prop} (hk : ∀ d, K d → K' d) (q : xsl es tx pre l h K d) : xsl es tx pre l h K' d := by
 cases tx
 ·exact xsll_mono hk q
 ·cases d <;> first | exact q.elim | exact ⟨q.1, q.2.1, q.2.2.1, hk _ q.2.2.2⟩
theorem x3_mono {a b c d : D} {K K' : D → Prop} (hk : ∀ d, K d → K' d) (q : x3 a b c d K) : x3 a b c d K' := by
 obtain ⟨k1, l, k2, h, k3, m, rfl, rfl, rfl, h1, h2, h3, h4, h5⟩ := x3_spec q
 exact ⟨h1, h2, h3, h4, hk _ h5⟩
theorem x3_val {a b c d : D} {K : D → Prop} (q : x3 a b c d K) : ∃ r, K r ∧ x3 a b c d (fun d' => d' = r) := by
 obtain ⟨k1, l, k2, h, k3, m, rfl, rfl, rfl, h1, h2, h3, h4, h5⟩ := x3_spec q
 exact ⟨_, h5, h1, h2, h3, h4, rfl⟩
theorem xbnd_mono {d : D} {K K' : Int → Prop} (hk : ∀ d, K d → K' d) (q : xbnd K d) : xbnd K' d := by
 cases d <;> first | exact hk _ q | exact q.elim
theorem xblo_mono {x : Option Opd} {K K' : Int → Prop} (hk : ∀ d, K d → K' d) (q : xblo st x K) : xblo st x K' := by
 cases x <;> first | exact hk _ q | exact xbnd_mono hk q
theorem xbhi_mono {m : Nat} {x : Option Opd} {K K' : Int → Prop} (hk : ∀ d, K d → K' d) (q : xbhi st m x K) : xbhi st m x K' := by
 cases x <;> first | exact hk _ q | exact xbnd_mono hk q
theorem xlk_mono {d e : D} {K K' : D → Prop} (hk : ∀ d, K d → K' d) (h : xlk st d e K) : xlk st d e K' := by
 cases d <;> cases e <;> try exact h.elim
 obtain ⟨h1, h2⟩ := h
 refine ⟨h1, ?_⟩
 split at h2
 ·exact hk _ h2
 ·exact h2.elim
theorem xmu_mono {d e f : D} {K K' : St → Prop} (hk : ∀ st, K st → K' st) (h : xmu st K d e f) : xmu st K' d e f := by
 cases d <;> cases e <;> cases f <;> try exact h.elim
 obtain ⟨h1, h2⟩ := h
 refine ⟨h1, ?_⟩
 split at h2
 ·exact hk _ h2
 ·exact h2.elim
theorem xcmp_mono {neg : Bool} {z d e : D} {K K' : D → Prop} (hk : ∀ d, K d → K' d) (h : xcmp neg z d e K) : xcmp neg z d e K' := by
 unfold xcmp at h ⊢
 split at h
 ·split at h
  ·rename_i b hb
   exact hk _ h
  ·exact h.elim
 ·exact h.elim
theorem xcmp_val {neg : Bool} {z d e : D} {K : D → Prop} (h : xcmp neg z d e K) : ∃ r, K r ∧ xcmp neg z d e (fun d' => d' = r) := by
 unfold xcmp at h ⊢
 split at h
 ·split at h
  ·rename_i b hb
   exact ⟨_, h, rfl⟩
  ·exact h.elim
 ·exact h.elim
theorem xp_mono {x : XOp} {K K' : D → Prop} (hk : ∀ d, K d → K' d) (h : xp st K x) : xp st K' x := by
 cases x <;> simp only [xp] at h ⊢
 case mv x => exact hk _ h
 case lk x i => exact xlk_mono hk h
 case bld z ps => exact xbl_mono hk h
 case fnm f xs => exact ⟨h.1, hk _ h.2⟩
 case pick c a b => cases hc : c.ev st <;> rw [hc] at h <;> first | exact h.elim | exact Br.mono (hk _) (hk _) h
 case nilc x => exact xaddr_mono (hk _) h
 case bin op x y => exact xbi_mono hk h
 case binb neg x y => cases hx : x.ev st <;> cases hy : y.ev st <;> rw [hx, hy] at h <;> first | exact h.elim | exact hk _ h
 case ptb neg x y => cases hx : x.ev st <;> cases hy : y.ev st <;> rw [hx, hy] at h <;> first | exact h.elim | exact hk _ h
 case cmp neg z x y => exact xcmp_mono hk h
 case not x => cases hx : x.ev st <;> rw [hx] at h <;> first | exact h.elim | exact hk _ h
 case neg x => cases hx : x.ev st <;> rw [hx] at h <;> first | exact h.elim | exact hk _ h
 case cvi k x => cases hx : x.ev st <;> rw [hx] at h <;> first | exact h.elim | exact hk _ h
 case cvs x => cases hx : x.ev st <;> rw [hx] at h <;> first | exact h.elim | exact hk _ h
 case mnx mx x y => cases hx : x.ev st <;> cases hy : y.ev st <;> rw [hx, hy] at h <;> first | exact h.elim | exact ⟨h.1, hk _ h.2⟩
 case slc es tx x lo hi => exact xblo_mono (fun l => xbhi_mono fun h => xsl_mono hk) h
 case capl x => cases hx : x.ev st <;> rw [hx] at h <;> first | exact h.elim | exact hk _ h
 case slc3 x lo hi mx => exact x3_mono hk h
 case bst x => exact xbst_mono hk h
 case fa off sz f x =>
  cases hx : x.ev st <;> rw [hx] at h <;> first | exact h.elim | exact hk _ h | exact ⟨h.1, h.2.1, hk _ h.2.2⟩ | skip
  rename_i d
  cases d <;> first | exact h.elim | skip
  rename_i fs
  simp only [xfield] at h ⊢
  cases hf : fs[f]? <;> rw [hf] at h <;> first | exact h.elim | exact ⟨h.1, h.2.1, hk _ h.2.2⟩
 case fld off sz ag f x =>
  cases hx : x.ev st <;> rw [hx] at h <;> first | exact h.elim | skip
  rename_i fs
  simp only [xfld] at h ⊢
  cases hf : fs[f]? <;> rw [hf] at h <;> first | exact h.elim | exact ⟨h.1, h.2.1, h.2.2.1, hk _ h.2.2.2⟩
 case ix es x i =>
  cases hx : x.ev st <;> cases hi : i.ev st <;> rw [hx, hi] at h <;> first | exact h.elim | exact ⟨h.1, h.2.1, hk _ h.2.2⟩ | exact ⟨h.1, h.2.1, h.2.2.1, h.2.2.2.1, hk _ h.2.2.2.2⟩
 case sx x i =>
  cases hx : x.ev st <;> cases hi : i.ev st <;> rw [hx, hi] at h <;> first | exact h.elim | exact ⟨h.1, h.2.1, hk _ h.2.2⟩
 case ld sz ag x =>
  cases hx : x.ev st <;> rw [hx] at h <;> first | exact h.elim | exact ⟨h.1, h.2.1, hk _ h.2.2⟩ | skip
  ·rename_i s g p o
   simp only [xload] at h ⊢
   refine ⟨h.1, ?_⟩
   have h2 := h.2
   cases hr : st.lc s <;> rw [hr] at h2 <;> first | exact h2.elim | exact xcont_mono hk h2
 case ext x i =>
  cases hx : x.ev st <;> rw [hx] at h <;> first | exact h.elim | skip
  rename_i ds
  simp only [xext] at h ⊢
  cases hd : ds[i]? <;> rw [hd] at h <;> first | exact h.elim | exact hk _ h
 case lens x => cases hx : x.ev st <;> rw [hx] at h <;> first | exact h.elim | exact hk _ h
 case lenl x => cases hx : x.ev st <;> rw [hx] at h <;> first | exact h.elim | exact ⟨h.1, h.2.1, hk _ h.2.2⟩ | exact hk _ h
theorem XC.mono {P : Program} {f : FuncId} {ds : List D} {ls : List Loan} {K K' : D → List Loan → Prop} (hk : ∀ d ls, K d ls → K' d ls) (h : XC P f ds ls K) : XC P f ds ls K' :=
 ⟨h.1, fun U w vs Fs h1 h2 h3 h4 h5 => (h.2 U w vs Fs h1 h2 h3 h4 h5).mono fun e w' ⟨v, d, ls', U', F', q1, q2, q3, q4, q5, q6, q7, q8, q9⟩ => ⟨v, d, ls', U', F', q1, q2, q3, q4, q5, q6, q7, q8, hk _ _ q9⟩⟩
theorem XCL.mono {P : Program} {f : FuncId} {ds : List D} {st : St} {K K' : D → St → Prop} (hk : ∀ d st, K d st → K' d st) (h : XCL P f ds st K) : XCL P f ds st K' :=
 ⟨h.1, fun fr F n g a w vs h1 h2 => (h.2 fr F n g a w vs h1 h2).mono fun e w' ⟨v, d, g', m, q1, q2, q3, q4⟩ => ⟨v, d, g', m, q1, q2, q3, hk _ _ q4⟩⟩
theorem xput_mono {o : Nat} {x c : D} {p : List Nat} {K K' : D → Prop} (hk : ∀ d, K d → K' d) (h : xput o x c p K) : xput o x c p K' := by
 have hs : ∀ {r : Option D} {A B : D → Prop}, (∀ d, A d → B d) → xset r A → xset r B := fun {r A B} hk h => by cases r <;> first | exact h.elim | exact hk _ h
 cases c <;> cases p <;> first | exact h.elim | exact ⟨h.1, hs hk h.2⟩ | exact ⟨h.1, h.2.1, hs (fun d => hk _) h.2.2⟩
theorem xnew_mono {es : Nat} {y : D} {A B : List D → Prop} (hk : ∀ l, A l → B l) (h : xnew st es A y) : xnew st es B y := by
 cases y <;> simp only [xnew] at h ⊢ <;> first | exact h.elim | exact hk _ h | exact ⟨h.1, hk _ h.2⟩ | skip
 all_goals
  refine ⟨h.1, ?_⟩
  have h2 := h.2
  split at h2
  ·first | exact ⟨h2.1, h2.2.1, h2.2.2.1, hk _ h2.2.2.2⟩ | exact ⟨h2.1, h2.2.1, h2.2.2.1, h2.2.2.2.1, hk _ h2.2.2.2.2⟩
  ·exact h2.elim
theorem xnew_fr {st : St} {es : Nat} {y : D} {A : List D → Prop} (f : Nat → D) (h : xnew st es A y) : xnew { st with fr := f } es A y := by cases y <;> exact h
theorem xold_fr {st : St} {es : Nat} {x : D} {A : Option Nat → List D → Prop} (f : Nat → D) (h : xold st es A x) : xold { st with fr := f } es A x := by cases x <;> exact h
theorem xsrc_fr {st : St} {es : Nat} {y : D} {A : List D → Nat → Prop} (f : Nat → D) (h : xsrc st es A y) : xsrc { st with fr := f } es A y := by cases y <;> exact h
theorem xdst_fr {st : St} {es : Nat} {y : D} {A : Nat → Nat → Nat → List D → Nat → Prop} (f : Nat → D) (h : xdst st es A y) : xdst { st with fr := f } es A y := by cases y <;> exact h
theorem xsrc_mono {es : Nat} {y : D} {A B : List D → Nat → Prop} (hk : ∀ l m, A l m → B l m) (h : xsrc st es A y) : xsrc st es B y := by
 cases y <;> simp only [xsrc] at h ⊢ <;> first | exact h.elim | exact hk _ _ h | exact ⟨h.1, hk _ _ h.2⟩ | skip
 all_goals
  refine ⟨h.1, ?_⟩
  have h2 := h.2
  split at h2
  ·first | exact ⟨h2.1, h2.2.1, hk _ _ h2.2.2⟩ | exact ⟨h2.1, h2.2.1, h2.2.2.1, hk _ _ h2.2.2.2⟩
  ·exact h2.elim
theorem xdst_mono {es : Nat} {y : D} {A B : Nat → Nat → Nat → List D → Nat → Prop} (hk : ∀ s i n l c, A s i n l c → B s i n l c) (h : xdst st es A y) : xdst st es B y := by
 cases y <;> simp only [xdst] at h ⊢ <;> first | exact h.elim | skip
 all_goals
  refine ⟨h.1, ?_⟩
  have h2 := h.2
  split at h2
  ·first | exact ⟨h2.1, h2.2.1, h2.2.2.1, hk _ _ _ _ _ h2.2.2.2⟩ | exact ⟨h2.1, h2.2.1, h2.2.2.1, h2.2.2.2.1, h2.2.2.2.2.1, hk _ _ _ _ _ h2.2.2.2.2.2⟩ | exact ⟨h2.1, h2.2.1, h2.2.2.1, h2.2.2.2.1, hk _ _ _ _ _ h2.2.2.2.2⟩
  ·exact h2.elim
theorem xold_mono {es : Nat} {x : D} {A B : Option Nat → List D → Prop} (hk : ∀ s l, A s l → B s l) (h : xold st es A x) : xold st es B x := by
 cases x <;> simp only [xold] at h ⊢ <;> first | exact h.elim | exact hk _ _ h | skip
 refine ⟨h.1, ?_⟩
 have h2 := h.2
 split at h2
 ·exact ⟨h2.1, h2.2.1, h2.2.2.1, hk _ _ h2.2.2.2⟩
 ·exact h2.elim
theorem xapp_mono {t es bytes : Nat} {x y : D} {K K' : D → St → Prop} (hk : ∀ d st, K d st → K' d st) (h : xapp st t es bytes x y K) : xapp st t es bytes x y K' :=
 xold_mono (fun s l => xnew_mono fun l2 q => ⟨q.1, q.2.1, q.2.2.1, fun n b c e1 e2 => hk _ _ (q.2.2.2 n b c e1 e2)⟩) h
theorem xappP_mono {t es bytes s b i o n c : Nat} {y : D} {K K' : D → St → Prop} (hk : ∀ d st, K d st → K' d st) (h : xappP st t es bytes s b i o n c y K) : xappP st t es bytes s b i o n c y K' := by
 unfold xappP at h ⊢
 obtain ⟨h1, h2, h3, h⟩ := h
 refine ⟨h1, h2, h3, ?_⟩
 split at h
 ·exact ⟨h.1, h.2.1, h.2.2.1, h.2.2.2.1, xnew_mono (fun l q => ⟨q.1, q.2.1, q.2.2.1, fun e => hk _ _ (q.2.2.2.1 e), fun e m b' c' e1 e2 => hk _ _ (q.2.2.2.2 e m b' c' e1 e2)⟩) h.2.2.2.2⟩
 ·exact h.elim
theorem xappA_mono {t es bytes : Nat} {x y : D} {K K' : D → St → Prop} (hk : ∀ d st, K d st → K' d st) (h : xappA st t es bytes x y K) : xappA st t es bytes x y K' := by
 cases x
 case lvw => exact xappP_mono hk h
 all_goals exact xapp_mono hk h
theorem xcpy_mono {es : Nat} {x y : D} {K K' : D → St → Prop} (hk : ∀ d st, K d st → K' d st) (h : xcpy st es x y K) : xcpy st es x y K' :=
 xdst_mono (fun s i n l c => xsrc_mono fun ys m q k e => ⟨(q k e).1, hk _ _ (q k e).2⟩) h
theorem xclr_mono {es : Nat} {x : D} {K K' : D → St → Prop} (hk : ∀ d st, K d st → K' d st) (h : xclr st es x K) : xclr st es x K' := by
 unfold xclr at h ⊢
 split at h
 ·exact hk _ _ h
 ·refine ⟨h.1, ?_⟩
  have h2 := h.2
  split at h2
  ·exact ⟨h2.1, h2.2.1, h2.2.2.1, h2.2.2.2.1, hk _ _ h2.2.2.2.2⟩
  ·exact h2.elim
 ·exact h.elim
theorem xappZr_mono {t bytes s b n c : Nat} {z : D} {k : Int} {K K' : D → St → Prop} (hk : ∀ d st, K d st → K' d st) (h : xappZr st t z bytes s b n c k K) : xappZr st t z bytes s b n c k K' := by
 unfold xappZr at h ⊢
 obtain ⟨h1, h2, h3, h4, h5, h6, h⟩ := h
 refine ⟨h1, h2, h3, h4, h5, h6, ?_⟩
 split at h
 ·exact ⟨h.1, h.2.1, h.2.2.1, h.2.2.2.1, fun m b' c' e1 e2 => hk _ _ (h.2.2.2.2 m b' c' e1 e2)⟩
 ·exact h.elim
theorem xappZ_mono {t bytes : Nat} {z x y : D} {K K' : D → St → Prop} (hk : ∀ d st, K d st → K' d st) (h : xappZ st t z bytes x y K) : xappZ st t z bytes x y K' := by
 unfold xappZ at h ⊢
 split at h
 ·exact xappZr_mono hk h
 ·exact ⟨h.1, h.2.1, xappZr_mono hk h.2.2⟩
 ·exact h.elim
theorem xovl_mono {f : FuncId} {x y : D} {q q' : Prop} (hk : q → q') (h : xovl P st q f x y) : xovl P st q' f x y := by
 unfold xovl at h ⊢
 split at h
 ·obtain ⟨h1, h2, h3, h4, h5, h6, h⟩ := h
  refine ⟨h1, h2, h3, h4, h5, h6, ?_⟩
  split at h
  ·exact ⟨h.1, h.2.1, h.2.2.1, hk h.2.2.2⟩
  ·exact h.elim
 ·obtain ⟨h1, h2, h3, h4, h⟩ := h
  refine ⟨h1, h2, h3, h4, ?_⟩
  split at h
  ·exact ⟨h.1, h.2.1, hk h.2.2⟩
  ·exact h.elim
 ·exact h.elim
theorem xo_mono {dst : Option Nat} {x : XOp} {K K' : D → St → Prop} (hk : ∀ d st, K d st → K' d st) (h : xo P dst st K x) : xo P dst st K' x := by
 cases x
 case mm => cases dst <;> first | exact h.elim | exact fun b => hk _ _ (h b)
 case bsl z len ps =>
  cases dst with
  | none => exact h.elim
  | some s =>
   simp only [xo] at h ⊢
   by_cases hl : len = 0
   ·rw [if_pos hl] at h ⊢
    exact ⟨h.1, hk _ _ h.2⟩
   ·rw [if_neg hl] at h ⊢
    refine ⟨h.1, h.2.1, xbl_mono (fun d q => ?_) h.2.2⟩
    cases d <;> first | exact q.elim | exact ⟨q.1, fun b => hk _ _ (q.2 b)⟩
 case mu m k x => exact xmu_mono (fun st' h => hk _ _ h) h
 case al z => cases dst <;> first | exact h.elim | exact fun b => hk _ _ (h b)
 case app es bytes x y =>
  cases dst with
  | none => exact h.elim
  | some t => exact xappA_mono hk h
 case cpy es x y => exact xcpy_mono hk h
 case clr es x => exact xclr_mono hk h
 case apz bytes z x y =>
  cases dst with
  | none => exact h.elim
  | some t => exact xappZ_mono hk h
 case ovl f x y => exact xovl_mono (hk _ _) h
 case bx x =>
  cases dst with
  | none => exact h.elim
  | some s =>
   simp only [xo, deepK_eq] at h ⊢
   exact ⟨h.1, fun b => hk _ _ (h.2 b)⟩
 case mk z bytes l c =>
  cases dst with
  | none => exact h.elim
  | some s =>
   simp only [xo] at h ⊢
   cases hl : l.ev st <;> cases hc : c.ev st <;> rw [hl, hc] at h <;> first | exact h.elim | exact ⟨h.1, h.2.1, h.2.2.1, h.2.2.2.1, fun b => hk _ _ (h.2.2.2.2 b)⟩
 case st sz p x =>
  simp only [xo, deepK_eq, xst_eq] at h ⊢
  refine ⟨h.1, h.2.1, ?_⟩
  have h3 := h.2.2
  cases hp : p.ev st <;> rw [hp] at h3 <;> first | exact h3.elim | skip
  rename_i s g q o
  simp only [xstore] at h3 ⊢
  refine ⟨h3.1, ?_⟩
  have h4 := h3.2
  cases hr : st.lc s with
  | none => rw [hr] at h4; exact h4.elim
  | some c =>
   rw [hr] at h4
   exact xput_mono (fun d => hk _ _) h4
 case call f xs => exact ⟨h.1, h.2.mono hk⟩
 case callv f xs =>
  simp only [xo] at h ⊢
  cases hf : f.ev st <;> rw [hf] at h <;> first | exact h.elim | exact ⟨h.1, h.2.mono hk⟩
 all_goals (simp only [xo] at h ⊢; exact xp_mono (st := st) (K := fun d => K d st) (K' := fun d => K' d st) (fun d => hk d st) h)
theorem xos_sound {ops : Array Oper} {K : St → Prop} : ∀ {os : List Oper} {l : List COp} {st : St}, cOpers P ops os = some l → xos P n l st K → xops P n ops os st K
 | [], l, st, hc, h => by simp only [cOpers, Option.some.injEq] at hc; subst hc; exact h
 | o :: os, l, st, hc, h => by
  simp only [cOpers] at hc
  split at hc
  ·rename_i c l' h1 h2
   simp only [Option.some.injEq] at hc
   subst hc
   obtain ⟨hd, hop, hg⟩ := cOper_spec h1
   obtain ⟨dst, op, gd⟩ := c
   simp only at hd hop hg
   subst hd
   have run : xo P o.dst st (fun d st' => putS n o.dst d st' fun st2 => xos P n l' st2 K) op → xop P o.dst st (fun d st' => putN n o.dst d st' fun st2 => xops P n ops os st2 K) o.op := fun h =>
    xo_bad hop (xo_mono (fun d st' hq => putN_mono (fun st2 => xos_sound h2) (putS_eq ▸ hq)) h)
   have skip : (putN n o.dst .undef st fun st2 => xos P n l' st2 K) → putN n o.dst .undef st fun st2 => xops P n ops os st2 K := putN_mono fun st2 => xos_sound h2
   simp only [xops]
   rw [hg]
   cases gd with
   | none => exact run h
   | some q =>
    obtain ⟨t, want⟩ := q
    exact xguard_mono run skip h
  ·cases hc
theorem xbs_val {z : D} {len : Nat} {ps : List (Nat × Opd)} {K : D → Prop} (h : xbs st z len ps K) : ∃ d, K d ∧ xbs st z len ps (fun d' => d' = d) := by
 unfold xbs at h ⊢
 split at h
 ·rename_i e
  simp only [if_pos e]
  exact ⟨_, h.2, h.1, rfl⟩
 ·rename_i e
  simp only [if_neg e]
  obtain ⟨d, k1, k2⟩ := xbl_val h.2.2
  cases d <;> try exact k1.elim
  rename_i ds
  exact ⟨_, k1.2, h.1, h.2.1, xbl_mono (fun d' e => by subst e; exact ⟨k1.1, rfl⟩) k2⟩
/-! ### Regions that draw their order: whatever order, the same values -/
def XOp.pureB : XOp → Bool
 | .mv _ | .nilc _ | .not _ | .neg _ | .cvi .. | .cvs _ | .fa .. | .fld .. | .ld .. | .ext .. | .lens _ | .lenl _ | .bin .. | .binb .. | .ptb .. | .cmp .. | .ix .. | .sx .. | .lk .. | .fnm .. | .bld .. | .mnx .. | .slc .. | .bst _ | .capl _ | .slc3 .. => true
 | _ => false
theorem xp_val {K : D → Prop} {op : XOp} (hp : op.pureB = true) (h : xp st K op) : ∃ d, K d ∧ xp st (fun d' => d' = d) op := by
 cases op <;> simp only [XOp.pureB, Bool.false_eq_true] at hp <;> simp only [xp] at h ⊢
 case mv x => exact ⟨_, h, rfl⟩
 case fnm f xs => exact ⟨_, h.2, h.1, rfl⟩
 case bld z ps => exact xbl_val h
 case lk x i =>
  cases hx : x.ev st <;> cases hy : i.ev st <;> rw [hx, hy] at h <;> try exact h.elim
  obtain ⟨h1, h2⟩ := h
  split at h2
  ·rename_i hq
   exact ⟨_, h2, h1, by rw [hq]⟩
  ·exact h2.elim
 case nilc x => cases hd : x.ev st <;> rw [hd] at h <;> first | exact h.elim | exact ⟨_, h, rfl⟩
 case mnx mx x y => cases hx : x.ev st <;> cases hy : y.ev st <;> rw [hx, hy] at h <;> first | exact h.elim | exact ⟨_, h.2, h.1, rfl⟩
 case bst x =>
  cases hx : x.ev st <;> rw [hx] at h <;> simp only [xbst] at h ⊢ <;> first | exact h.elim | exact ⟨_, h, rfl⟩ | exact ⟨_, h.2.2, h.1, h.2.1, rfl⟩ | skip
  obtain ⟨h0, h⟩ := h
  split at h
  ·exact ⟨_, h.2.2.2, h0, by simp only [*, and_self]⟩
  ·exact h.elim
 case capl x => cases hx : x.ev st <;> rw [hx] at h <;> first | exact h.elim | exact ⟨_, h, rfl⟩
 case slc3 x lo hi mx => exact x3_val h
 case slc es tx x lo hi =>
  have hb : ∀ {A : Int → Prop} {d : D}, xbnd A d → ∃ l, A l ∧ ∀ B : Int → Prop, B l → xbnd B d := fun {A d} h => by cases d <;> first | exact h.elim | exact ⟨_, h, fun B q => q⟩
  have hlo : ∀ {A : Int → Prop}, xblo st lo A → ∃ l, A l ∧ ∀ B : Int → Prop, B l → xblo st lo B := fun {A} h => by cases lo <;> first | exact ⟨_, h, fun B q => q⟩ | exact hb h
  have hhi : ∀ {A : Int → Prop} {m : Nat}, xbhi st m hi A → ∃ l, A l ∧ ∀ B : Int → Prop, B l → xbhi st m hi B := fun {A m} h => by cases hi <;> first | exact ⟨_, h, fun B q => q⟩ | exact hb h
  obtain ⟨l, h, k1⟩ := hlo h
  obtain ⟨m, h, k2⟩ := hhi h
  have hs : ∃ d, K d ∧ xsl es tx (lo.isNone && hi.isNone) l m (fun d' => d' = d) (x.ev st) := by
   cases tx
   ·exact xsll_val h
   ·cases hx : x.ev st <;> rw [hx] at h <;> first | exact h.elim | exact ⟨_, h.2.2.2, h.1, h.2.1, h.2.2.1, rfl⟩
  obtain ⟨d, h1, h2⟩ := hs
  exact ⟨d, h1, k1 _ (k2 _ h2)⟩
 case bin op x y =>
  cases hx : x.ev st <;> cases hy : y.ev st <;> rw [hx, hy] at h <;> simp only [xbi] at h ⊢ <;> try exact h.elim
  ·split at h
   ·rename_i hk
    subst hk
    simp only [if_true] at h ⊢
    cases op <;> first | exact h.elim | exact ⟨_, h, rfl⟩ | exact ⟨_, h.2, h.1, rfl⟩
   ·exact h.elim
  ·cases op <;> first | exact h.elim | exact ⟨_, h, rfl⟩ | exact ⟨_, h.2, h.1, rfl⟩
 case binb neg x y => cases hx : x.ev st <;> cases hy : y.ev st <;> rw [hx, hy] at h <;> first | exact h.elim | exact ⟨_, h, rfl⟩
 case ptb neg x y => cases hx : x.ev st <;> cases hy : y.ev st <;> rw [hx, hy] at h <;> first | exact h.elim | exact ⟨_, h, rfl⟩
 case cmp neg z x y => exact xcmp_val h
 case not x => cases hx : x.ev st <;> rw [hx] at h <;> first | exact h.elim | exact ⟨_, h, rfl⟩
 case neg x => cases hx : x.ev st <;> rw [hx] at h <;> first | exact h.elim | exact ⟨_, h, rfl⟩
 case cvi k x => cases hx : x.ev st <;> rw [hx] at h <;> first | exact h.elim | exact ⟨_, h, rfl⟩
 case cvs x => cases hx : x.ev st <;> rw [hx] at h <;> first | exact h.elim | exact ⟨_, h, rfl⟩
 case lens x => cases hx : x.ev st <;> rw [hx] at h <;> first | exact h.elim | exact ⟨_, h, rfl⟩
 case lenl x => cases hx : x.ev st <;> rw [hx] at h <;> first | exact h.elim | exact ⟨_, h, rfl⟩ | exact ⟨_, h.2.2, h.1, h.2.1, rfl⟩
 case sx x i => cases hx : x.ev st <;> cases hy : i.ev st <;> rw [hx, hy] at h <;> first | exact h.elim | exact ⟨_, h, rfl⟩ | exact ⟨_, h.2.2, h.1, h.2.1, rfl⟩
 case ix es x i => cases hx : x.ev st <;> cases hy : i.ev st <;> rw [hx, hy] at h <;> first | exact h.elim | exact ⟨_, h.2.2, h.1, h.2.1, rfl⟩ | exact ⟨_, h.2.2.2.2, h.1, h.2.1, h.2.2.1, h.2.2.2.1, rfl⟩
 case ext x i =>
  cases hx : x.ev st <;> rw [hx] at h <;> simp only [xext] at h ⊢ <;> try exact h.elim
  split at h
  ·exact ⟨_, h, by simp [*]⟩
  ·exact h.elim
 case fld off sz ag f x =>
  cases hx : x.ev st <;> rw [hx] at h <;> simp only [xfld] at h ⊢ <;> try exact h.elim
  split at h
  ·rename_i d hd
   exact ⟨_, h.2.2.2, h.1, h.2.1, h.2.2.1, rfl⟩
  ·exact h.elim
 case fa off sz f x =>
  cases hx : x.ev st <;> rw [hx] at h <;> try exact h.elim
  ·exact ⟨_, h, rfl⟩
  ·rename_i d
   cases d <;> try exact h.elim
   simp only [xfield] at h ⊢
   split at h
   ·rename_i d hd
    exact ⟨_, h.2.2, h.1, h.2.1, rfl⟩
   ·exact h.elim
 case ld sz ag x =>
  cases hx : x.ev st <;> rw [hx] at h <;> simp only [xload] at h ⊢ <;> try exact h.elim
  ·rename_i s b p o
   obtain ⟨h0, h⟩ := h
   split at h
   ·rename_i c hc
    have hp : ∀ {r : Option (D × Nat)} {base : Nat} {o : Nat}, xpart sz ag o base r K → ∃ d, K d ∧ xpart sz ag o base r (fun d' => d' = d) := fun {r base o} h => by
     cases r <;> first | exact h.elim | exact ⟨_, h.2.2.2, h.1, h.2.1, h.2.2.1, rfl⟩
    have hcc : ∃ d, K d ∧ xcont sz ag o c p (fun d' => d' = d) := by
     cases c
     case arr es ds cp =>
      cases p with
      | nil => exact h.elim
      | cons i q => obtain ⟨d, q1, q2⟩ := hp h.2; exact ⟨d, q1, h.1, q2⟩
     case mp l => exact h.elim
     all_goals
      have h' : xpart sz ag o 0 (D.at _ p) K := h
      obtain ⟨d, q1, q2⟩ := hp h'
      exact ⟨d, q1, q2⟩
    obtain ⟨d, q1, q2⟩ := hcc
    exact ⟨d, q1, h0, q2⟩
   ·exact h.elim
  ·exact ⟨_, h.2.2, h.1, h.2.1, rfl⟩
def xf1 (P : Program) (st : St) (op : XOp) (d : D) : Prop := match op with
 | .call f xs => (xs.map (Opd.ev st)).all D.noL = true ∧ QR P f (xs.map (Opd.ev st)) st d
 | .bsl z len ps => xbs st z len ps fun d' => d' = d
 | op => xp st (fun d' => d' = d) op
theorem xq_val_pure {K : D → Prop} {op : XOp} (hp : op.pureB = true) (h : xq P st K op) : ∃ d, K d ∧ xf1 P st op d := by
 have h' : xp st K op := by cases op <;> first | exact h | (simp [XOp.pureB] at hp)
 obtain ⟨d, h1, h2⟩ := xp_val hp h'
 refine ⟨d, h1, ?_⟩
 cases op <;> first | exact h2 | (simp [XOp.pureB] at hp)
theorem xpick_val {K : D → Prop} {c a b : D} (h : xpick c (K a) (K b)) : ∃ d, K d ∧ xpick c (a = d) (b = d) := by
 cases c <;> try exact h.elim
 rename_i t
 cases t
 ·exact ⟨b, h.no rfl, ⟨(fun e => by cases e), (fun _ => rfl)⟩⟩
 ·exact ⟨a, h.yes rfl, ⟨(fun _ => rfl), (fun e => by cases e)⟩⟩
theorem xq_val {K : D → Prop} {op : XOp} (h : xq P st K op) : ∃ d, K d ∧ xf1 P st op d := by
 cases op
 case call f xs => obtain ⟨h1, d, h2, h3⟩ := h; exact ⟨d, h2, h1, h3⟩
 case pick c a b => exact xpick_val (K := K) h
 case al => exact (h : False).elim
 case bx => exact (h : False).elim
 case mk => exact (h : False).elim
 case st => exact (h : False).elim
 case callv => exact (h : False).elim
 case mm => exact (h : False).elim
 case bsl z len ps => exact xbs_val (K := K) h
 case app => exact (h : False).elim
 case cpy => exact (h : False).elim
 case clr => exact (h : False).elim
 case apz => exact (h : False).elim
 case ovl => exact (h : False).elim
 case bad => exact (h : False).elim
 case mu => exact (h : False).elim
 all_goals exact xq_val_pure rfl h
theorem xf1_xo_pure {op : XOp} {dst : Option Nat} {d : D} (hp : op.pureB = true) (h : xf1 P st op d) : xo P dst st (fun d' st' => d' = d ∧ st' = st) op := by
 have h' : xp st (fun d' => d' = d) op := by cases op <;> first | exact h | (simp [XOp.pureB] at hp)
 have h2 : xp st (fun d' => d' = d ∧ st = st) op := xp_mono (fun d' e => ⟨e, rfl⟩) h'
 cases op <;> first | exact h2 | (simp [XOp.pureB] at hp)
theorem xf1_xo {op : XOp} {dst : Option Nat} {d : D} (hb : ∀ z len ps, op ≠ .bsl z len ps) (h : xf1 P st op d) : xo P dst st (fun d' st' => d' = d ∧ st' = st) op := by
 cases op
 case call f xs => exact ⟨h.1, XCL.of_QR h.2 ⟨rfl, rfl⟩⟩
 case pick c a b =>
  have h2 : xp st (fun d' => d' = d ∧ st = st) (.pick c a b) := xp_mono (fun d' e => ⟨e, rfl⟩) (show xp st (fun d' => d' = d) (.pick c a b) from h)
  exact h2
 case al => exact (h : False).elim
 case bx => exact (h : False).elim
 case mk => exact (h : False).elim
 case st => exact (h : False).elim
 case callv => exact (h : False).elim
 case mm => exact (h : False).elim
 case bsl z len ps => exact absurd rfl (hb z len ps)
 case app => exact (h : False).elim
 case cpy => exact (h : False).elim
 case clr => exact (h : False).elim
 case apz => exact (h : False).elim
 case ovl => exact (h : False).elim
 case bad => exact (h : False).elim
 case mu => exact (h : False).elim
 all_goals exact xf1_xo_pure rfl h
/-- A step that writes nothing that was there. -/
theorem quiet_run {F : Fix} {g : G} {a : Act} {w : World} (hH : Holds F n g st a w) (o : Oper) {op : XOp} {d : D} (hop0 : (cOp P o.op).getD .bad = op) (h : xf1 P st op d) {next : Act → World → Prop} {Q : Exit → Act → World → Prop}
  (hn : ∀ v g' w', Holds F n g' st a w' → RelV g'.U w' d v → next (a.put o.dst v) w') : o.wp P a w next Q := by
 cases hcop : cOp P o.op with
 | none => rw [hcop] at hop0; subst hop0; exact (h : False).elim
 | some op' =>
 have hop : cOp P o.op = some op := by rw [hcop] at hop0 ⊢; exact congrArg some hop0
 by_cases hb : ∃ z len ps, op = .bsl z len ps
 ·obtain ⟨z, len, ps, rfl⟩ := hb
  cases hq : o.op <;> rw [hq] at hop <;> simp only [cOp] at hop <;> try (cases hop; done)
  case buildSlice t len' parts =>
   cases hz : mkOf P t with
   | none => simp [hz] at hop
   | some r =>
    obtain ⟨z', bytes⟩ := r
    simp only [hz, Option.some.injEq, XOp.bsl.injEq] at hop
    obtain ⟨rfl, rfl, rfl⟩ := hop
    simp only [xf1, xbs] at h
    by_cases hl0 : len' = 0
    ·rw [if_pos hl0] at h
     subst hl0
     obtain ⟨hp, rfl⟩ := h
     obtain rfl : parts = #[] := by simpa using hp
     obtain ⟨e, hrun⟩ := bsl_run0 (w := w) hz
     have hB : Holds F n g st a (w.alloc (.cells #[] e)) := hH.below ⟨rfl, rfl, rfl, by simp, fun k hk => by rw [World.alloc_heap, if_neg (by omega)]⟩
     have hh := hn (.slice (some ⟨w.heap.size, 0, none⟩) 0 0) _ _ hB (by simp [RelV, RelW, RelC])
     unfold Oper.wp execOp
     simp only [hq]
     simp only [Array.map_empty, Sem.run_bind, hrun, Result.andThen_ok, Sem.run_pure]
     exact hh
    ·rw [if_neg hl0] at h
     obtain ⟨hle, hne, hx⟩ := h
     have hx' := xbl_xbd hx
     rw [List.map_map] at hx'
     have e1 : ((fun p : Nat × Opd => (p.1, p.1 * z'.len, z'.len, p.2.ev st)) ∘ fun p : Nat × Operand => (p.1, cOpd p.2)) = fun p : Nat × Operand => (p.1, p.1 * z'.len, z'.len, st.ev p.2) := by
      funext p
      simp [cOpd_ev]
     rw [e1] at hx'
     obtain ⟨ds, cs, e, rfl, hdl, hR, hrun⟩ := bsl_run hH hz hle hne hx'
     have hB := hH.allocU cs e
     have hh := hn (.slice (some ⟨w.heap.size, 0, none⟩) len' len') _ _ hB (by
      simp only [RelV, RelW, RelC]
      refine ⟨some ⟨w.heap.size, 0, none⟩, len', by rw [hdl], by rw [hdl]; exact Nat.le_refl _, .inr ⟨w.heap.size, 0, cs, e, (0, 0), rfl, .inr rfl, by rw [World.alloc_heap, if_pos rfl], ?_⟩⟩
      have hl := hR.length
      simp only [Array.length_toList] at hl
      rw [List.drop_zero, List.take_of_length_le (by simp; omega)]
      exact hR.mono ⟨fun _ h => .inl h, fun b hb => by rw [World.alloc_heap, if_neg (by have := hH.ubd b hb; omega)]⟩)
     unfold Oper.wp execOp
     simp only [hq]
     simp only [Sem.run_bind, hrun, Result.andThen_ok, Sem.run_pure]
     exact hh
  all_goals (exfalso; revert hop; repeat' split) <;> intro hop <;> simp at hop
 ·refine xop_sound hH o (xo_sound hop (xf1_xo (dst := o.dst) (fun z len ps e => hb ⟨z, len, ps, e⟩) h)) fun d' v st' g' w' hK hH' hR' => ?_
  obtain ⟨rfl, rfl⟩ := hK
  exact hn v g' w' hH' hR'
section
variable {f1 f2 : Nat → D}
theorem xbst_fr {d : D} {K : D → Prop} (h : xbst { st with fr := f1 } K d) : xbst { st with fr := f2 } K d := by cases d <;> exact h
theorem xload_fr {sz : Nat} {ag : Bool} {d : D} {K : D → Prop} (h : xload { st with fr := f1 } sz ag d K) : xload { st with fr := f2 } sz ag d K := by cases d <;> exact h
theorem xlk_fr {d e : D} {K : D → Prop} (h : xlk { st with fr := f1 } d e K) : xlk { st with fr := f2 } d e K := by cases d <;> cases e <;> exact h
theorem xf1_fr {op : XOp} {d : D} (ho : ∀ x ∈ op.sl, x.ev { st with fr := f2 } = x.ev { st with fr := f1 }) (h : xf1 P { st with fr := f1 } op d) : xf1 P { st with fr := f2 } op d := by
 cases op
 case call f xs =>
  have e : xs.map (Opd.ev { st with fr := f2 }) = xs.map (Opd.ev { st with fr := f1 }) := List.map_congr_left fun x hx => ho x hx
  simp only [xf1] at h ⊢
  rw [e]
  exact ⟨h.1, h.2.fr⟩
 case bsl z len ps =>
  have e : (ps.map fun p => (p.1, p.1 * z.len, z.len, p.2.ev { st with fr := f2 })) = ps.map fun p => (p.1, p.1 * z.len, z.len, p.2.ev { st with fr := f1 }) := List.map_congr_left fun p hp => by rw [ho p.2 (List.mem_map.2 ⟨p, hp, rfl⟩)]
  simp only [xf1, xbs] at h ⊢
  rw [e]
  exact h
 case bld z ps =>
  have e : (ps.map fun p => (p.1, p.2.1, p.2.2.1, p.2.2.2.ev { st with fr := f2 })) = ps.map fun p => (p.1, p.2.1, p.2.2.1, p.2.2.2.ev { st with fr := f1 }) := List.map_congr_left fun p hp => by rw [ho p.2.2.2 (List.mem_map.2 ⟨p, hp, rfl⟩)]
  simp only [xf1, xp] at h ⊢
  rw [e]
  exact h
 case fnm f xs =>
  have e : xs.map (Opd.ev { st with fr := f2 }) = xs.map (Opd.ev { st with fr := f1 }) := List.map_congr_left fun x hx => ho x hx
  simp only [xf1, xp] at h ⊢
  rw [e]
  exact h
 all_goals simp only [XOp.sl, List.mem_cons, List.not_mem_nil, or_false, forall_eq_or_imp, forall_eq] at ho
 all_goals simp only [xf1, xp] at h ⊢
 case slc es tx x lo hi =>
  have e1 : ∀ K, xblo { st with fr := f2 } lo K = xblo { st with fr := f1 } lo K := fun K => by cases lo with | none => rfl | some y => show xbnd K _ = xbnd K _; rw [ho.2 y (by simp)]
  have e2 : ∀ m K, xbhi { st with fr := f2 } m hi K = xbhi { st with fr := f1 } m hi K := fun m K => by cases hi with | none => rfl | some y => show xbnd K _ = xbnd K _; rw [ho.2 y (by simp)]
  simp only [e1, e2, ho.1]
  exact h
 case slc3 => rw [ho.1, ho.2.1, ho.2.2.1, ho.2.2.2]; exact h
 case ld => rw [ho]; exact xload_fr h
 case lk => rw [ho.1, ho.2]; exact xlk_fr h
 case bst => rw [ho]; exact xbst_fr h
 case pick => rw [ho.1, ho.2.1, ho.2.2]; exact h
 all_goals first | (rw [ho]; exact h) | (rw [ho.1, ho.2]; exact h)
end
def xfact (P : Program) (st : St) (c : COp) (d : D) : Prop := match c.gd with
 | none => xf1 P st c.op d
 | some (t, w) => (st.fr t = .bool w ∧ xf1 P st c.op d) ∨ ((st.fr t = .bool (!w) ∨ st.fr t = .undef) ∧ d = .undef)
theorem opdS_mem : ∀ {xs : List Opd} {i : Nat}, Opd.t i ∈ xs → i ∈ opdS xs
 | x :: xs, i, h => by
  cases x with
  | t j =>
   rcases List.mem_cons.1 h with e | h
   ·cases e; exact List.mem_cons_self ..
   ·exact List.mem_cons_of_mem _ (opdS_mem (xs := xs) h)
  | k d =>
   rcases List.mem_cons.1 h with e | h
   ·cases e
   ·exact opdS_mem (xs := xs) h
 | [], _, h => by simp at h
theorem xfact_fr {f1 f2 : Nat → D} {c : COp} {d : D} (hs : ∀ s ∈ c.slots, f2 s = f1 s) (h : xfact P { st with fr := f1 } c d) : xfact P { st with fr := f2 } c d := by
 have ho : (∀ s ∈ opdS c.op.sl, f2 s = f1 s) → xf1 P { st with fr := f1 } c.op d → xf1 P { st with fr := f2 } c.op d := fun h => xf1_fr fun x hx => by
  cases x with
  | k d => rfl
  | t i => exact h i (opdS_mem hx)
 unfold xfact at h ⊢
 unfold COp.slots at hs
 cases hg : c.gd with
 | none =>
  simp only [hg] at h hs ⊢
  exact ho hs h
 | some q =>
  obtain ⟨t, w⟩ := q
  simp only [hg] at h hs ⊢
  have ht := hs t (List.mem_cons_self ..)
  rw [ht]
  exact h.imp (fun q => ⟨q.1, ho (fun s hx => hs s (List.mem_cons_of_mem _ hx)) q.2⟩) id
def updO (fr : Nat → D) (s : Option Nat) (d : D) : Nat → D := match s with
 | some s => upd fr s d
 | none => fr
def puts : List COp → List D → (Nat → D) → Nat → D
 | c :: l, d :: ds, fr => puts l ds (updO fr c.dst d)
 | _, _, fr => fr
theorem xqs_facts {K : St → Prop} : ∀ {l : List COp} {st : St}, (l.all fun c => c.dst.isSome) = true → xqs P n l st K → ∃ ds, ds.length = l.length ∧
  (∀ i c, l[i]? = some c → ∃ d, ds[i]? = some d ∧ xfact P { st with fr := puts (l.take i) (ds.take i) st.fr } c d ∧ ∀ s, c.dst = some s → s < n) ∧ K { st with fr := puts l ds st.fr }
 | [], st, _, h => ⟨[], rfl, fun i c h => by simp at h, h⟩
 | ⟨dst, op, gd⟩ :: l, st, hd, h => by
  simp only [List.all_cons, Bool.and_eq_true] at hd
  obtain ⟨s, rfl⟩ := Option.isSome_iff_exists.1 hd.1
  have go : ∀ d, (putN n (some s) d st fun st2 => xqs P n l st2 K) → xfact P st ⟨some s, op, gd⟩ d → ∃ ds, ds.length = (⟨some s, op, gd⟩ :: l : List COp).length ∧
    (∀ i c, (⟨some s, op, gd⟩ :: l : List COp)[i]? = some c → ∃ d, ds[i]? = some d ∧ xfact P { st with fr := puts ((⟨some s, op, gd⟩ :: l : List COp).take i) (ds.take i) st.fr } c d ∧ ∀ s, c.dst = some s → s < n) ∧ K { st with fr := puts (⟨some s, op, gd⟩ :: l) ds st.fr } := fun d hk hf => by
   obtain ⟨ds, h1, h2, h3⟩ := xqs_facts hd.2 hk.2
   refine ⟨d :: ds, by simp [h1], fun i c hc => ?_, h3⟩
   cases i with
   | zero =>
    simp at hc
    subst hc
    exact ⟨d, rfl, hf, fun s' e => by cases e; exact hk.1⟩
   | succ i =>
    obtain ⟨d', q1, q2, q3⟩ := h2 i c (by simpa using hc)
    exact ⟨d', by simpa using q1, q2, q3⟩
  have run : xq P st (fun d => putS n (some s) d st fun st2 => xqs P n l st2 K) op → ∃ d, (putN n (some s) d st fun st2 => xqs P n l st2 K) ∧ xf1 P st op d := fun h => by
   obtain ⟨d, hk, hf⟩ := xq_val h
   rw [putS_eq] at hk
   exact ⟨d, hk, hf⟩
  cases gd with
  | none =>
   obtain ⟨d, hk, hf⟩ := run h
   exact go d hk hf
  | some q =>
   obtain ⟨t, w⟩ := q
   simp only [xqs] at h
   have no : (putN n (some s) .undef st fun st2 => xqs P n l st2 K) → (st.fr t = .bool (!w) ∨ st.fr t = .undef) → ∃ ds, ds.length = (⟨some s, op, some (t, w)⟩ :: l : List COp).length ∧
     (∀ i c, (⟨some s, op, some (t, w)⟩ :: l : List COp)[i]? = some c → ∃ d, ds[i]? = some d ∧ xfact P { st with fr := puts ((⟨some s, op, some (t, w)⟩ :: l : List COp).take i) (ds.take i) st.fr } c d ∧ ∀ s, c.dst = some s → s < n) ∧ K { st with fr := puts (⟨some s, op, some (t, w)⟩ :: l) ds st.fr } :=
    fun hk ht => go .undef hk (.inr ⟨ht, rfl⟩)
   have yes : (xq P st (fun d => putS n (some s) d st fun st2 => xqs P n l st2 K) op) → st.fr t = .bool w → ∃ ds, ds.length = (⟨some s, op, some (t, w)⟩ :: l : List COp).length ∧
     (∀ i c, (⟨some s, op, some (t, w)⟩ :: l : List COp)[i]? = some c → ∃ d, ds[i]? = some d ∧ xfact P { st with fr := puts ((⟨some s, op, some (t, w)⟩ :: l : List COp).take i) (ds.take i) st.fr } c d ∧ ∀ s, c.dst = some s → s < n) ∧ K { st with fr := puts (⟨some s, op, some (t, w)⟩ :: l) ds st.fr } :=
    fun h ht => by
     obtain ⟨d, hk, hf⟩ := run h
     exact go d hk (.inl ⟨ht, hf⟩)
   cases ht : st.fr t
   case bool b =>
    rw [ht] at h
    cases b <;> cases w <;> simp only [xguard] at h
    ·exact yes (h.no rfl) ht
    ·exact no (h.no rfl) (.inl ht)
    ·exact no (h.yes rfl) (.inl ht)
    ·exact yes (h.yes rfl) ht
   case undef =>
    rw [ht] at h
    exact no h (.inr ht)
   all_goals (rw [ht] at h; simp [xguard] at h)
theorem distB_some : ∀ {l : List COp}, distB l = true → (l.all fun c => c.dst.isSome) = true
 | [], _ => rfl
 | c :: l, h => by
  simp only [distB] at h
  split at h
  ·rename_i s hs
   simp only [Bool.and_eq_true] at h
   simp [hs, distB_some h.2, List.all_cons] <;> simpa using distB_some h.2
  ·cases h
theorem distB_ix : ∀ {l : List COp}, distB l = true → ∀ {i : Nat} {c : COp} {s : Nat}, l[i]? = some c → c.dst = some s → dix l s = some i
 | [], _, i, c, s, h, _ => by simp at h
 | x :: l, hd, i, c, s, h, hs => by
  simp only [distB] at hd
  split at hd
  ·rename_i s0 hs0
   simp only [Bool.and_eq_true, Option.isNone_iff_eq_none] at hd
   cases i with
   | zero => simp at h; subst h; simp [dix, hs]
   | succ i =>
    have := distB_ix hd.2 (i := i) (by simpa using h) hs
    have hne : ¬ x.dst = some s := fun e => by
     rw [hs0] at e
     cases e
     rw [hd.1] at this
     cases this
    simp [dix, hne, this]
  ·cases hd
theorem dix_get : ∀ {l : List COp} {s j : Nat}, dix l s = some j → ∃ c, l[j]? = some c ∧ c.dst = some s
 | [], s, j, h => by simp [dix] at h
 | c :: l, s, j, h => by
  simp only [dix] at h
  split at h
  ·simp at h; subst h; exact ⟨c, rfl, ‹_›⟩
  ·simp only [Option.map_eq_some_iff] at h
   obtain ⟨k, hk, rfl⟩ := h
   obtain ⟨c', h1, h2⟩ := dix_get hk
   exact ⟨c', by simpa using h1, h2⟩
theorem puts_eq : ∀ {l : List COp} {ds : List D} {fr : Nat → D} {s : Nat}, distB l = true → ds.length = l.length → puts l ds fr s = match dix l s with
  | some j => ds.getD j .undef
  | none => fr s
 | [], ds, fr, s, _, _ => by cases ds <;> rfl
 | c :: l, [], fr, s, _, h => by simp at h
 | c :: l, d :: ds, fr, s, hd, hl => by
  simp only [distB] at hd
  split at hd
  ·rename_i s0 hs0
   simp only [Bool.and_eq_true, Option.isNone_iff_eq_none] at hd
   simp only [puts, hs0, updO]
   rw [puts_eq hd.2 (by simpa using hl)]
   by_cases e : s0 = s
   ·subst e
    simp [dix, hs0, hd.1, upd_apply]
   ·have hne : ¬ c.dst = some s := fun q => e (by rw [hs0] at q; cases q; rfl)
    simp only [dix, if_neg hne]
    cases hx : dix l s with
    | none => simp [upd_apply, Ne.symm e]
    | some j => simp
  ·cases hd
theorem dix_take : ∀ {l : List COp} {i s : Nat}, dix (l.take i) s = (dix l s).filter (fun j => decide (j < i))
 | [], i, s => by simp [dix]
 | c :: l, 0, s => by
  cases hq : dix (c :: l) s <;> simp [dix]
 | c :: l, i + 1, s => by
  simp only [List.take_succ_cons, dix]
  by_cases hq : c.dst = some s
  ·rw [if_pos hq, if_pos hq]
   simp [Option.filter]
  ·rw [if_neg hq, if_neg hq, dix_take]
   cases hx : dix l s with
   | none => rfl
   | some j => by_cases hj : j < i <;> simp [Option.filter, hj]
theorem distB_take : ∀ {l : List COp} {i : Nat}, distB l = true → distB (l.take i) = true
 | [], i, _ => by simp [distB]
 | c :: l, 0, _ => rfl
 | c :: l, i + 1, h => by
  simp only [distB] at h
  split at h
  ·rename_i s hs
   simp only [Bool.and_eq_true, Option.isNone_iff_eq_none] at h
   simp only [List.take_succ_cons, distB, hs, Bool.and_eq_true, Option.isNone_iff_eq_none]
   exact ⟨by rw [dix_take, h.1]; rfl, distB_take h.2⟩
  ·cases h
theorem depGo_get {l : List COp} : ∀ {cs : List COp} {os : List Oper} {k : Nat}, depGo l k cs os = true → cs.length = os.length ∧ ∀ i c o, cs[i]? = some c → os[i]? = some o → depAt l (k + i) c o = true
 | [], [], k, _ => ⟨rfl, fun i c o h => by simp at h⟩
 | [], _ :: _, k, h => by simp [depGo] at h
 | _ :: _, [], k, h => by simp [depGo] at h
 | c :: cs, o :: os, k, h => by
  simp only [depGo, Bool.and_eq_true] at h
  obtain ⟨h1, h2⟩ := depGo_get h.2
  refine ⟨by simp [h1], fun i c' o' hc ho => ?_⟩
  cases i with
  | zero => simp at hc ho; subst hc; subst ho; exact h.1
  | succ i =>
   have := h2 i c' o' (by simpa using hc) (by simpa using ho)
   rw [show k + (i + 1) = k + 1 + i by omega]
   exact this
theorem cOpers_get {ops : Array Oper} : ∀ {os : List Oper} {l : List COp}, cOpers P ops os = some l → ∀ {i : Nat} {o : Oper}, os[i]? = some o → ∃ c, l[i]? = some c ∧ cOper P ops o = some c
 | [], l, h, i, o, ho => by simp at ho
 | x :: os, l, h, i, o, ho => by
  simp only [cOpers] at h
  split at h
  ·rename_i c l' h1 h2
   simp only [Option.some.injEq] at h
   subst h
   cases i with
   | zero => simp at ho; subst ho; exact ⟨c, rfl, h1⟩
   | succ i =>
    obtain ⟨c', q1, q2⟩ := cOpers_get h2 (i := i) (by simpa using ho)
    exact ⟨c', by simpa using q1, q2⟩
  ·cases h
theorem countP_one {f g : Nat → Bool} {i : Nat} (hf : f i = true) (hg : g i = false) (ho : ∀ j, j ≠ i → f j = g j) : ∀ m, i < m → (List.range m).countP f = (List.range m).countP g + 1
 | 0, h => by omega
 | m + 1, h => by
  rw [List.range_succ, List.countP_append, List.countP_append]
  by_cases e : i = m
  ·subst e
   have : (List.range i).countP f = (List.range i).countP g := List.countP_congr fun j hj => by
    have : j ≠ i := by have := List.mem_range.1 hj; omega
    rw [ho j this]
   rw [this]
   simp [hf, hg]
  ·have := countP_one hf hg ho m (by omega)
   rw [this]
   have hm : f m = g m := ho m (Ne.symm e)
   simp [List.countP_cons, hm]
   omega
def gfr (l : List COp) (ds : List D) (fr : Nat → D) (listed : Array Bool) (s : Nat) : D := match dix l s with
 | some j => if listed.getD j false = true then ds.getD j .undef else fr s
 | none => fr s
theorem any_sound {ops : Array Oper} {l : List COp} {ds : List D} {Q : Post} (hl : cOpers P ops ops.toList = some l) (hd : depB ops l = true) (hlen : ds.length = l.length)
  (hf : ∀ i c, l[i]? = some c → ∃ d, ds[i]? = some d ∧ xfact P { st with fr := puts (l.take i) (ds.take i) st.fr } c d ∧ ∀ s, c.dst = some s → s < n)
  (hQ : Q .normal { st with fr := puts l ds st.fr }) {F : Fix} :
  ∀ (fuel : Nat) (listed : Array Bool) (g : G) (a : Act) (w : World), listed.size = ops.size → (List.range ops.size).countP (fun j => !listed.getD j true) = fuel →
   Holds F n g { st with fr := gfr l ds st.fr listed } a w → wpAny P .any ops (lift F n Q) fuel listed a w := by
 simp only [depB, Bool.and_eq_true] at hd
 obtain ⟨hdist, hgo⟩ := hd
 obtain ⟨hll, hdep⟩ := depGo_get hgo
 have fin : ∀ (listed : Array Bool) (g : G) (a : Act) (w : World), (∀ j, j < ops.size → listed.getD j false = true) → Holds F n g { st with fr := gfr l ds st.fr listed } a w → lift F n Q .normal a w := fun listed g a w hall hH => by
  refine ⟨g, _, hH, ?_⟩
  have e : gfr l ds st.fr listed = puts l ds st.fr := by
   funext s
   rw [puts_eq hdist hlen]
   unfold gfr
   cases hx : dix l s with
   | none => rfl
   | some j =>
    obtain ⟨c, hc, _⟩ := dix_get hx
    have hj : j < l.length := (List.getElem?_eq_some_iff.1 hc).1
    have : j < ops.size := by rw [hll] at hj; simpa using hj
    simp only [if_pos (hall j this)]
  show Q .normal { st with fr := gfr l ds st.fr listed }
  rw [e]
  exact hQ
 have hbase : ∀ (listed : Array Bool), listed.size = ops.size → Region.ready .any ops listed = [] → ∀ j, j < ops.size → listed.getD j false = true := fun listed hsz hr j => by
  induction j using Nat.strongRecOn with
  | ind j ih =>
   intro hj
   cases hq : listed.getD j false with
   | true => rfl
   | false =>
    exfalso
    have hjs : j < listed.size := by omega
    have : j ∈ Region.ready .any ops listed := by
     rw [mem_ready]
     have ho : ops[j]? = some ops[j] := by simp [hj]
     refine ⟨by simpa [hjs] using hq, ops[j], ho, fun e he hb => ?_⟩
     obtain ⟨c, hc, _⟩ := cOpers_get hl (i := j) (o := ops[j]) (by simp [hj])
     have hA := hdep j c ops[j] hc (by simp [hj])
     simp only [depAt, Bool.and_eq_true, Nat.zero_add] at hA
     have := (Array.all_eq_true'.1 hA.2) e he
     simp only [hb, Bool.not_true, Bool.false_or, decide_eq_true_eq] at this
     exact ih e.on this (by omega)
    rw [hr] at this
    cases this
 intro fuel
 induction fuel with
 | zero =>
  intro listed g a w hsz hcnt hH
  have hall : ∀ j, j < ops.size → listed.getD j false = true := fun j hj => by
   have := (List.countP_eq_zero.1 hcnt) j (List.mem_range.2 hj)
   have hjs : j < listed.size := by omega
   simpa [hjs] using this
  refine ⟨?_, fin listed g a w hall hH⟩
  cases hr : Region.ready .any ops listed with
  | nil => rfl
  | cons i is =>
   exfalso
   have hi : i ∈ Region.ready .any ops listed := by rw [hr]; exact List.mem_cons_self ..
   obtain ⟨h1, o, h2, _⟩ := mem_ready.1 hi
   have hlt : i < ops.size := (Array.getElem?_eq_some_iff.1 h2).1
   have := hall i hlt
   have his : i < listed.size := by omega
   simp [his] at h1 this
   rw [h1] at this
   cases this
 | succ fuel ih =>
  intro listed g a w hsz hcnt hH
  refine ⟨fun hr => fin listed g a w (hbase listed hsz hr) hH, fun i hi => ?_⟩
  obtain ⟨hun, o, ho, haf⟩ := mem_ready.1 hi
  have hlt : i < ops.size := (Array.getElem?_eq_some_iff.1 ho).1
  have his : i < listed.size := by omega
  have ho' : ops.toList[i]? = some o := by simpa using ho
  obtain ⟨c, hc, hco⟩ := cOpers_get hl ho'
  obtain ⟨d, hdi, hfact, hsn⟩ := hf i c hc
  obtain ⟨hdst, hop, hg⟩ := cOper_spec hco
  have hA := hdep i c o hc ho'
  simp only [depAt, Bool.and_eq_true, Nat.zero_add] at hA
  have hdl : ds.getD i .undef = d := by simp [hdi]
  obtain ⟨s, hs⟩ : ∃ s, c.dst = some s := by
   have := distB_some hdist
   rw [List.all_eq_true] at this
   exact Option.isSome_iff_exists.1 (this c (List.mem_of_getElem? hc))
  have hfact' : xfact P { st with fr := gfr l ds st.fr listed } c d := by
   refine xfact_fr (st := st) (f1 := puts (l.take i) (ds.take i) st.fr) (fun t ht => ?_) hfact
   rw [puts_eq (distB_take hdist) (by simp [hlen]), dix_take]
   have hq := (List.all_eq_true.1 hA.1) t ht
   unfold gfr
   cases hx : dix l t with
   | none => rfl
   | some j =>
    rw [hx] at hq
    simp only [Bool.and_eq_true, decide_eq_true_eq] at hq
    obtain ⟨hj, hw⟩ := hq
    obtain ⟨e, he, hb⟩ := Array.any_eq_true'.1 hw
    simp only [Bool.and_eq_true, beq_iff_eq] at hb
    have hlist := haf e he hb.1
    rw [hb.2] at hlist
    have hds : j < ds.length := by
     obtain ⟨c2, hc2, _⟩ := dix_get hx
     have := (List.getElem?_eq_some_iff.1 hc2).1
     omega
    simp only [Option.filter, hj, decide_true, if_true, hlist]
    simp [hj, hds, List.getElem?_take]
  have next : ∀ (g' : G) (v : Value) (w' : World), Holds F n g' { st with fr := gfr l ds st.fr listed } a w' → RelV g'.U w' d v → wpAny P .any ops (lift F n Q) fuel (listed.setIfInBounds i true) (a.put o.dst v) w' := fun g' v w' hH' hR' => by
   have h1 := hH'.put (hsn s hs) hR'
   have e1 : (({ st with fr := gfr l ds st.fr listed } : St).put s d) = { st with fr := gfr l ds st.fr (listed.setIfInBounds i true) } := by
    show ({ st with fr := upd (gfr l ds st.fr listed) s d } : St) = _
    congr 1
    funext t
    rw [upd_apply]
    split
    ·rename_i ht
     subst ht
     unfold gfr
     rw [distB_ix hdist hc hs]
     have : (listed.setIfInBounds i true).getD i false = true := by simp [his]
     simp only [this, if_true, hdl]
    ·rename_i ht
     unfold gfr
     cases hx : dix l t with
     | none => rfl
     | some j =>
      have hji : i ≠ j := fun e => by
       subst e
       obtain ⟨c2, hc2, hd2⟩ := dix_get hx
       rw [hc] at hc2
       cases hc2
       rw [hs] at hd2
       cases hd2
       exact ht rfl
      simp only [getD_set_ne false hji]
   rw [e1] at h1
   rw [← hdst, hs]
   refine ih _ g' _ w' (by simp [hsz]) ?_ h1
   have := countP_one (f := fun j => !listed.getD j true) (g := fun j => !(listed.setIfInBounds i true).getD j true) (i := i) (by simp only [hun]; rfl) (by simp [his]) (fun j hj => by rw [getD_set_ne true (Ne.symm hj)]) ops.size hlt
   omega
  show wpOp P ops (lift F n Q) i _ a w
  unfold wpOp
  rw [ho]
  simp only
  have run : xf1 P { st with fr := gfr l ds st.fr listed } c.op d → o.wp P a w (wpAny P .any ops (lift F n Q) fuel (listed.setIfInBounds i true)) (lift F n Q) := fun h1 => quiet_run hH o hop h1 fun v g' w' hH' hR' => next g' v w' hH' hR'
  unfold xfact at hfact'
  cases hgd : c.gd with
  | none =>
   rw [hgd] at hg
   simp only [hgd] at hfact'
   rw [if_pos (wanted_none hg _)]
   exact .inl (run hfact')
  | some q =>
   obtain ⟨t, want⟩ := q
   rw [hgd] at hg
   simp only [hgd] at hfact'
   obtain ⟨hw1, hw2⟩ := wanted_of hH hg
   rcases hfact' with ⟨ht, h1⟩ | ⟨ht, h1⟩
   ·rw [hw1 _ ht]
    simp only [beq_self_eq_true, if_true]
    exact .inl (run h1)
   ·have hno : Region.wanted o (yielded ops a.tmps) = false := by
     rcases ht with ht | ht
     ·rw [hw1 _ ht]; cases want <;> rfl
     ·exact hw2 ht
    rw [hno]
    simp only [Bool.false_eq_true, if_false]
    subst h1
    exact next g undef w hH rfl
theorem region_any (hm : P.follows .mixedOrders = true) {id : Nat} {ops : Array Oper} {l : List COp} {Q : Post} (hl : cOpers P ops ops.toList = some l) (hd : depB ops l = true) (h : xqs P n l st fun st' => Q .normal st') : Sem P n (.region id ops true) st Q := fun F g a w hH => by
 have hd' := hd
 simp only [depB, Bool.and_eq_true] at hd'
 obtain ⟨ds, h1, h2, h3⟩ := xqs_facts (distB_some hd'.1) h
 refine wp_region_any hm ?_
 have hb : Below w.heap.size w { w with drawn := w.drawn + 1 } := (Below.refl _ _).drew
 refine any_sound hl hd h1 h2 h3 _ _ g a _ (by simp) ?_ ?_
 ·rw [List.countP_eq_length.2]
  ·simp
  ·intro j hj
   have := List.mem_range.1 hj
   simp [this]
 ·have e : gfr l ds st.fr (Array.replicate ops.size false) = st.fr := by
   funext s
   unfold gfr
   split
   ·rename_i j hj
    have : (Array.replicate ops.size false).getD j false = false := by
     rcases Nat.lt_or_ge j ops.size with h | h <;> simp [h]
    simp [this]
   ·rfl
  rw [e]
  exact hH.below hb
theorem lastOf_eq : ∀ {l lp : List COp} {x : COp}, lastOf l = some (lp, x) → l = lp ++ [x]
 | [], lp, x, h => by simp [lastOf] at h
 | [c], lp, x, h => by simp [lastOf] at h; obtain ⟨rfl, rfl⟩ := h; rfl
 | c :: d :: l, lp, x, h => by
  simp only [lastOf] at h
  split at h
  ·rename_i p y hq
   simp only [Option.some.injEq, Prod.mk.injEq] at h
   obtain ⟨rfl, rfl⟩ := h
   have := lastOf_eq (l := d :: l) hq
   rw [this]
   rfl
  ·cases h
theorem elemN_no : ∀ {l : List Nat} {s : Nat}, elemN s l = false → ∀ t ∈ l, t ≠ s
 | a :: l, s, h, t, ht => by
  simp only [elemN, Bool.or_eq_false_iff, beq_eq_false_iff_ne] at h
  rcases List.mem_cons.1 ht with rfl | ht
  ·exact h.1
  ·exact elemN_no h.2 t ht
 | [], _, _, t, ht => by simp at ht
theorem preGo_get {lp : List COp} {s : Nat} {z : D} : ∀ {cs : List COp} {os : List Oper} {k : Nat}, preGo lp s z k cs os = true → ∀ i c o, cs[i]? = some c → os[i]? = some o → (c.op.alB = true ∧ c.gd = none) ∨ (c.op.alB = false ∧ (∀ t ∈ c.slots, t ≠ s) ∧ ∀ t ∈ c.slots, ∀ j, dix lp t = some j → j < k + i ∧ waitB o j = true)
 | [], os, k, _, i, c, o, hc, _ => by simp at hc
 | c0 :: cs, [], k, h, i, c, o, hc, ho => by simp at ho
 | c0 :: cs, o0 :: os, k, h, i, c, o, hc, ho => by
  simp only [preGo, Bool.and_eq_true] at h
  cases i with
  | zero =>
   simp at hc ho
   subst hc
   subst ho
   obtain ⟨h1, _⟩ := h
   split at h1
   ·rename_i z' hop
    exact .inl ⟨by rw [hop]; rfl, by simpa using h1⟩
   ·rename_i hop
    simp only [Bool.and_eq_true, Bool.not_eq_true'] at h1
    obtain ⟨⟨_, h2⟩, h3⟩ := h1
    refine .inr ⟨?_, elemN_no h2, fun t ht j hj => ?_⟩
    ·cases hq : c0.op <;> first | rfl | exact absurd hq (hop _)
    ·have := (List.all_eq_true.1 h3) t ht
     rw [hj] at this
     simp only [Bool.and_eq_true, decide_eq_true_eq] at this
     exact this
  | succ i =>
   have := preGo_get h.2 i c o (by simpa using hc) (by simpa using ho)
   rw [show k + (i + 1) = k + 1 + i by omega]
   exact this
theorem backGo_get : ∀ {os : List Oper} {k : Nat}, backGo k os = true → ∀ i o, os[i]? = some o → ∀ e ∈ o.after, Region.binds .any e = true → e.on < k + i
 | [], k, _, i, o, ho => by simp at ho
 | o0 :: os, k, h, i, o, ho => by
  simp only [backGo, Bool.and_eq_true] at h
  cases i with
  | zero =>
   simp at ho
   subst ho
   intro e he hb
   have := (Array.all_eq_true'.1 h.1) e he
   simpa [hb] using this
  | succ i =>
   have := backGo_get h.2 i o (by simpa using ho)
   rw [show k + (i + 1) = k + 1 + i by omega]
   exact this
theorem sinkGo_get {os : List Oper} {N : Nat} : ∀ {m j : Nat}, sinkGo os N m = true → j < m → ∃ k o, j < k ∧ k ≤ N ∧ os[k]? = some o ∧ waitB o j = true
 | 0, j, _, h => by omega
 | m + 1, j, h, hj => by
  simp only [sinkGo, Bool.and_eq_true] at h
  by_cases e : j = m
  ·subst e
   obtain ⟨k, hk, h2⟩ := List.any_eq_true.1 h.1
   simp only [Bool.and_eq_true, decide_eq_true_eq] at h2
   obtain ⟨h3, h4⟩ := h2
   split at h4
   ·rename_i o ho
    exact ⟨k, o, h3, by have := List.mem_range.1 hk; omega, ho, h4⟩
   ·cases h4
  ·exact sinkGo_get h.2 (by omega)
theorem xload_bx {s b sz : Nat} {ag : Bool} {z d : D} {K : D → Prop} (hs : st.lc s = none) (h : xload st sz ag d K) : xload (st.box s b z) sz ag d K := by
 cases d <;> try exact h
 obtain ⟨h1, h2⟩ := h
 rename_i s' g q o
 have hne : s' ≠ s := fun e => by rw [e, hs] at h2; exact h2
 have e1 : (st.box s b z).lc s' = st.lc s' := by simp [St.box, upd_apply, hne]
 refine ⟨by simp [St.box, upd_apply, hne, h1], ?_⟩
 rw [e1]
 exact h2
theorem xbst_bx {s b : Nat} {z d : D} {K : D → Prop} (hs : st.lc s = none) (h : xbst st K d) : xbst (st.box s b z) K d := by
 cases d <;> try exact h
 obtain ⟨h1, h2⟩ := h
 rename_i s' g q c
 have hne : s' ≠ s := fun e => by rw [e, hs] at h2; exact h2
 have e1 : (st.box s b z).lc s' = st.lc s' := by simp [St.box, upd_apply, hne]
 refine ⟨by simp [St.box, upd_apply, hne, h1], ?_⟩
 rw [e1]
 exact h2
theorem xlk_bx {s b : Nat} {z d e : D} {K : D → Prop} (hs : st.lc s = none) (h : xlk st d e K) : xlk (st.box s b z) d e K := by
 cases d <;> cases e <;> try exact h
 obtain ⟨h1, h2⟩ := h
 rename_i s' g k
 have hne : s' ≠ s := fun e => by rw [e, hs] at h2; exact h2
 have e1 : (st.box s b z).lc s' = st.lc s' := by simp [St.box, upd_apply, hne]
 refine ⟨by simp [St.box, upd_apply, hne, h1], ?_⟩
 rw [e1]
 exact h2
theorem ev_bx {s b : Nat} {z : D} (x : Opd) : x.ev (st.box s b z) = x.ev st := by cases x <;> rfl
theorem xf1_bx {s b : Nat} {z d : D} {op : XOp} (hs : st.lc s = none) (h : xf1 P st op d) : xf1 P (st.box s b z) op d := by
 cases op
 case call f xs =>
  have e : xs.map (Opd.ev (st.box s b z)) = xs.map (Opd.ev st) := List.map_congr_left fun x _ => ev_bx x
  simp only [xf1] at h ⊢
  rw [e]
  exact ⟨h.1, h.2.box hs⟩
 case bsl z' len ps =>
  have e : (ps.map fun p => (p.1, p.1 * z'.len, z'.len, p.2.ev (st.box s b z))) = ps.map fun p => (p.1, p.1 * z'.len, z'.len, p.2.ev st) := List.map_congr_left fun p _ => by rw [ev_bx]
  simp only [xf1, xbs] at h ⊢
  rw [e]
  exact h
 case bld z' ps =>
  have e : (ps.map fun p => (p.1, p.2.1, p.2.2.1, p.2.2.2.ev (st.box s b z))) = ps.map fun p => (p.1, p.2.1, p.2.2.1, p.2.2.2.ev st) := List.map_congr_left fun p _ => by rw [ev_bx]
  simp only [xf1, xp] at h ⊢
  rw [e]
  exact h
 case fnm f xs =>
  have e : xs.map (Opd.ev (st.box s b z)) = xs.map (Opd.ev st) := List.map_congr_left fun x _ => ev_bx x
  simp only [xf1, xp] at h ⊢
  rw [e]
  exact h
 all_goals simp only [xf1, xp, ev_bx] at h ⊢
 case slc es tx x lo hi =>
  have e1 : ∀ K, xblo (st.box s b z) lo K = xblo st lo K := fun K => by cases lo with | none => rfl | some y => show xbnd K _ = xbnd K _; rw [ev_bx]
  have e2 : ∀ m K, xbhi (st.box s b z) m hi K = xbhi st m hi K := fun m K => by cases hi with | none => rfl | some y => show xbnd K _ = xbnd K _; rw [ev_bx]
  simp only [e1, e2]
  exact h
 case ld => exact xload_bx hs h
 case lk => exact xlk_bx hs h
 case bst => exact xbst_bx hs h
 all_goals exact h
theorem xfact_bx {s b : Nat} {z d : D} {c : COp} (hs : st.lc s = none) (h : xfact P st c d) : xfact P (st.box s b z) c d := by
 unfold xfact at h ⊢
 cases hg : c.gd with
 | none => simp only [hg] at h ⊢; exact xf1_bx hs h
 | some q =>
  obtain ⟨t, w⟩ := q
  simp only [hg] at h ⊢
  exact h.imp (fun q => ⟨q.1, xf1_bx hs q.2⟩) id
def gfrG (lp : List COp) (G fr : Nat → D) (listed : Array Bool) (t : Nat) : D := match dix lp t with
 | some j => if listed.getD j false = true then G t else fr t
 | none => fr t
def stD (st : St) (lp : List COp) (G : Nat → D) (s : Nat) (z : D) (ia b : Nat) (listed : Array Bool) : St :=
 if listed.getD ia false = true then ({ st with fr := gfrG lp G st.fr listed } : St).box s b z else { st with fr := gfrG lp G st.fr listed }
theorem alOf_get {s : Nat} {z : D} : ∀ {lp : List COp}, alOf s lp = some z → ∃ (i : Nat) (c : COp), lp[i]? = some c ∧ c.op = .al z ∧ c.dst = some s
 | [], h => by simp [alOf] at h
 | c :: l, h => by
  simp only [alOf] at h
  split at h
  ·rename_i z' hop
   split at h
   ·rename_i hd
    simp only [Option.some.injEq] at h
    subst h
    exact ⟨0, c, rfl, hop, hd⟩
   ·cases h
  ·obtain ⟨i, c', h1, h2⟩ := alOf_get h
   exact ⟨i + 1, c', by simpa using h1, h2⟩
theorem oneAl_get {s : Nat} : ∀ {lp : List COp}, oneAl s lp = true → ∀ c ∈ lp, c.op.alB = true → c.dst = some s
 | [], _, c, h, _ => by simp at h
 | x :: l, hh, c, h, ha => by
  simp only [oneAl, Bool.and_eq_true] at hh
  rcases List.mem_cons.1 h with rfl | h
  ·simpa [ha] using hh.1
  ·exact oneAl_get hh.2 c h ha
theorem wpAny_done {ops : Array Oper} {Q : Exit → Act → World → Prop} {listed : Array Bool} {a : Act} {w : World} (hall : ∀ j, j < ops.size → listed.getD j true = true) (hQ : Q .normal a w) (fuel : Nat) : wpAny P .any ops Q fuel listed a w := by
 have hr : Region.ready .any ops listed = [] := by
  cases hr : Region.ready .any ops listed with
  | nil => rfl
  | cons i is =>
   exfalso
   have hi : i ∈ Region.ready .any ops listed := by rw [hr]; exact List.mem_cons_self ..
   obtain ⟨h1, o, h2, _⟩ := mem_ready.1 hi
   rw [hall i (Array.getElem?_eq_some_iff.1 h2).1] at h1
   cases h1
 cases fuel with
 | zero => exact ⟨hr, hQ⟩
 | succ f => exact ⟨fun _ => hQ, fun i hi => by rw [hr] at hi; cases hi⟩
theorem put_stD {lp : List COp} {G : Nat → D} {s ia b i t : Nat} {z d : D} {listed : Array Bool} {c : COp} (hdist : distB lp = true) (hc : lp[i]? = some c) (ht : c.dst = some t) (hG : G t = d) (hia : i ≠ ia) (his : i < listed.size) :
  (stD st lp G s z ia b listed).put t d = stD st lp G s z ia b (listed.setIfInBounds i true) := by
 have e : upd (gfrG lp G st.fr listed) t d = gfrG lp G st.fr (listed.setIfInBounds i true) := by
  funext u
  rw [upd_apply]
  unfold gfrG
  split
  ·rename_i hu
   subst hu
   rw [distB_ix hdist hc ht]
   have : (listed.setIfInBounds i true).getD i false = true := by simp [his]
   simp only [this, if_true, hG]
  ·rename_i hu
   cases hx : dix lp u with
   | none => rfl
   | some j =>
    have hji : i ≠ j := fun e => by
     subst e
     obtain ⟨c2, hc2, hd2⟩ := dix_get hx
     rw [hc] at hc2
     cases hc2
     rw [ht] at hd2
     cases hd2
     exact hu rfl
    simp only [getD_set_ne false hji]
 unfold stD
 rw [getD_set_ne false hia, ← e]
 split <;> rfl
theorem any_decl {ops : Array Oper} {lp : List COp} {s sz : Nat} {z : D} {v : Opd} {G0 : Nat → D} {Q : Post}
  (hl : cOpers P ops ops.toList = some (lp ++ [⟨none, .st sz (.t s) v, none⟩])) (hd : declB ops lp s z v = true) (hal : alOf s lp = some z)
  (hfact : ∀ (i : Nat) (c : COp), lp[i]? = some c → c.op.alB = false → ∃ (d : D) (t : Nat), c.dst = some t ∧ G0 t = d ∧ t < n ∧ xfact P { st with fr := G0 } c d)
  (hfree : ∀ t, dix lp t = none → G0 t = st.fr t) (hlc : st.lc s = none) (hsn : s < n)
  (hm : (v.ev { st with fr := G0 }).memB = true) (hln : (v.ev { st with fr := G0 }).len = sz) (hzl : z.len = sz) (hza : (v.ev { st with fr := G0 }).isAgg = z.isAgg)
  (hQ : ∀ b, Q .normal (({ st with fr := upd G0 s (.lref s b [] 0) } : St).box s b (v.ev { st with fr := G0 }))) {F : Fix} (ia : Nat) (hia : dix lp s = some ia) :
  ∀ (fuel : Nat) (listed : Array Bool) (g : G) (a : Act) (w : World) (b : Nat), listed.size = ops.size → (List.range ops.size).countP (fun j => !listed.getD j true) = fuel →
   (∀ j o, ops[j]? = some o → listed.getD j false = true → ∀ e ∈ o.after, Region.binds .any e = true → listed.getD e.on false = true) → listed.getD lp.length true = false →
   Holds F n g (stD st lp (upd G0 s (.lref s b [] 0)) s z ia b listed) a w → wpAny P .any ops (lift F n Q) fuel listed a w := by
 simp only [declB, Bool.and_eq_true, decide_eq_true_eq, Bool.not_eq_true'] at hd
 obtain ⟨⟨⟨⟨⟨⟨⟨hdist, hpre⟩, hback⟩, hsink⟩, hone⟩, hvs⟩, hsize⟩, hzmp⟩ := hd
 have hvev : ∀ (f : Nat → D) (d : D), v.ev ({ st with fr := upd f s d } : St) = v.ev { st with fr := f } := fun f d => by
  cases v with
  | k d => rfl
  | t i =>
   have hne : ¬ i = s := by simpa [notT] using hvs
   show upd f s d i = f i
   rw [upd_apply, if_neg hne]
 obtain ⟨ia', ca, hca, hcaop, hcad⟩ := alOf_get hal
 have hia' : ia' = ia := by
  have := distB_ix hdist hca hcad
  rw [hia] at this
  cases this
  rfl
 subst hia'
 have hGs0 : ∀ b, upd G0 s (.lref s b [] 0) s = .lref s b [] 0 := fun b => by rw [upd_apply, if_pos rfl]
 have hGo0 : ∀ b t, t ≠ s → upd G0 s (.lref s b [] 0) t = G0 t := fun b t ht => by rw [upd_apply, if_neg ht]
 have hbk : ∀ i o, ops[i]? = some o → ∀ e ∈ o.after, Region.binds .any e = true → e.on < i := fun i o ho e he hb => by
  have := backGo_get hback i o (by simpa using ho) e he hb
  omega
 intro fuel
 induction fuel with
 | zero =>
  intro listed g a w b hsz hcnt hcl hN hH
  exfalso
  have := (List.countP_eq_zero.1 hcnt) lp.length (List.mem_range.2 (by omega))
  rw [hN] at this
  simp at this
 | succ fuel ih =>
  intro listed g a w b hsz hcnt hcl hN hH
  have hGs := hGs0 b
  have hGo := hGo0 b
  generalize hG : upd G0 s (.lref s b [] 0) = G at *
  refine ⟨fun hr => ?_, fun i hi => ?_⟩
  ·exfalso
   have hall : ∀ j, j < ops.size → listed.getD j false = true := fun j => by
    induction j using Nat.strongRecOn with
    | ind j ihj =>
     intro hj
     cases hq : listed.getD j false with
     | true => rfl
     | false =>
      exfalso
      have hjs : j < listed.size := by omega
      have : j ∈ Region.ready .any ops listed := by
       rw [mem_ready]
       have ho : ops[j]? = some ops[j] := by simp [hj]
       refine ⟨by simpa [hjs] using hq, ops[j], ho, fun e he hb => ?_⟩
       have := hbk j _ ho e he hb
       exact ihj e.on this (by omega)
      rw [hr] at this
      cases this
   have h1 := hall lp.length (by omega)
   have hls : lp.length < listed.size := by omega
   simp [hls] at h1 hN
   rw [h1] at hN
   cases hN
  obtain ⟨hun, o, ho, haf⟩ := mem_ready.1 hi
  have hlt : i < ops.size := (Array.getElem?_eq_some_iff.1 ho).1
  have his : i < listed.size := by omega
  have hunf : listed.getD i false = false := by simpa [his] using hun
  have ho' : ops.toList[i]? = some o := by simpa using ho
  obtain ⟨c, hc, hco⟩ := cOpers_get hl ho'
  obtain ⟨hdst, hop, hg⟩ := cOper_spec hco
  have hcl' : ∀ j o, ops[j]? = some o → (listed.setIfInBounds i true).getD j false = true → ∀ e ∈ o.after, Region.binds .any e = true → (listed.setIfInBounds i true).getD e.on false = true := fun j o2 ho2 hj e he hb => by
   by_cases hij : i = j
   ·subst hij
    rw [ho] at ho2
    cases ho2
    exact getD_set_true (haf e he hb)
   ·rw [getD_set_ne false hij] at hj
    exact getD_set_true (hcl j o2 ho2 hj e he hb)
  have hcnt' : (List.range ops.size).countP (fun j => !(listed.setIfInBounds i true).getD j true) = fuel := by
   have := countP_one (f := fun j => !listed.getD j true) (g := fun j => !(listed.setIfInBounds i true).getD j true) (i := i) (by simp only [hun]; rfl) (by simp [his]) (fun j hj => by rw [getD_set_ne true (Ne.symm hj)]) ops.size hlt
   omega
  show wpOp P ops (lift F n Q) i _ a w
  unfold wpOp
  rw [ho]
  simp only
  by_cases hiN : i = lp.length
  ·subst hiN
   have hcc : c = ⟨none, .st sz (.t s) v, none⟩ := by simpa using hc.symm
   subst hcc
   simp only at hdst hop hg
   have hlist : ∀ m j, j < lp.length → lp.length - j = m → listed.getD j false = true := fun m => by
    induction m using Nat.strongRecOn with
    | ind m ihm =>
     intro j hj hjm
     obtain ⟨k, ok, h1, h2, h3, h4⟩ := sinkGo_get hsink hj
     obtain ⟨e, he, hb⟩ := Array.any_eq_true'.1 h4
     simp only [Bool.and_eq_true, beq_iff_eq] at hb
     have h3' : ops[k]? = some ok := by simpa using h3
     by_cases hk : k = lp.length
     ·subst hk
      rw [ho] at h3'
      cases h3'
      have := haf e he hb.1
      rwa [hb.2] at this
     ·have hk' := ihm (lp.length - k) (by omega) k (by omega) rfl
      have := hcl k ok h3' hk' e he hb.1
      rwa [hb.2] at this
   have hial : listed.getD ia' false = true := by
    have : ia' < lp.length := (List.getElem?_eq_some_iff.1 hca).1
    exact hlist _ ia' this rfl
   have hgf : gfrG lp G st.fr listed = G := by
    funext t
    unfold gfrG
    cases hx : dix lp t with
    | none =>
     have hne : t ≠ s := fun e => by subst e; rw [hia] at hx; cases hx
     rw [hGo t hne, hfree t hx]
    | some j =>
     obtain ⟨c2, hc2, _⟩ := dix_get hx
     have := hlist _ j (List.getElem?_eq_some_iff.1 hc2).1 rfl
     simp only [this, if_true]
   have hst : stD st lp G s z ia' b listed = ({ st with fr := G } : St).box s b z := by
    unfold stD
    rw [if_pos hial, hgf]
   rw [hst] at hH
   rw [if_pos (wanted_none hg _)]
   have hve : v.ev (({ st with fr := G } : St).box s b z) = v.ev { st with fr := G0 } := by
    rw [ev_bx, ← hG, hvev]
   have hlcs : (({ st with fr := G } : St).box s b z).lc s = some z := by simp [St.box, upd_apply]
   have hgens : (({ st with fr := G } : St).box s b z).gen s = b := by simp [St.box, upd_apply]
   have hat : z.at [] = some (z, 0) := by cases z <;> rfl
   have hse : z.set [] (v.ev { st with fr := G0 }) = some (v.ev { st with fr := G0 }) := by
    have : z.set [] (v.ev { st with fr := G0 }) = if z.len = (v.ev { st with fr := G0 }).len ∧ z.isAgg = (v.ev { st with fr := G0 }).isAgg then some (v.ev { st with fr := G0 }) else none := by cases z <;> rfl
    rw [this, if_pos ⟨by rw [hzl, hln], hza.symm⟩]
   have hx : xo P none (({ st with fr := G } : St).box s b z) (fun d' st' => d' = .undef ∧ st' = ({ st with fr := G } : St).box s b (v.ev { st with fr := G0 })) (.st sz (.t s) v) := by
    simp only [xo]
    rw [deepK_eq, hve]
    refine ⟨hm, hln, ?_⟩
    have hps : (Opd.t s).ev (({ st with fr := G } : St).box s b z) = .lref s b [] 0 := hGs
    rw [hps]
    have hzx : ∀ (K : D → Prop), K (v.ev { st with fr := G0 }) → xputD 0 (v.ev { st with fr := G0 }) z [] K := fun K hK => by
     rw [xputD_eq]
     cases z <;> first | (cases hzmp; done) | skip
     all_goals
      refine ⟨?_, ?_⟩
      ·rw [hat]; rfl
      ·rw [hse]; exact hK
    simp only [xst, hlcs, hgens]
    refine ⟨trivial, hzx _ ⟨trivial, ?_⟩⟩
    unfold St.setLc St.box
    simp only
    congr 1
    funext t
    simp only [upd_apply]
    split <;> rfl
   refine .inl (xop_sound hH o (xo_bad hop (hdst ▸ hx)) fun d' v' st' g' w' hK hH' hR' => ?_)
   obtain ⟨rfl, rfl⟩ := hK
   rw [← hdst]
   refine wpAny_done (fun j hj => ?_) ⟨g', _, hH', hG ▸ hQ b⟩ fuel
   by_cases hjN : j = lp.length
   ·subst hjN
    simp [his]
   ·rw [getD_set_ne true (Ne.symm hjN)]
    have := hlist _ j (by omega) rfl
    have hjs : j < listed.size := by omega
    simpa [hjs] using this
  have hiL : i < lp.length := by omega
  have hcp : lp[i]? = some c := by
   rw [List.getElem?_append_left hiL] at hc
   exact hc
  have hN' : (listed.setIfInBounds i true).getD lp.length true = false := by rw [getD_set_ne true hiN]; exact hN
  rcases preGo_get hpre i c o hcp ho' with ⟨hAl, hgd⟩ | ⟨hAl, hns, hdep⟩
  ·have hcd := oneAl_get hone c (List.mem_of_getElem? hcp) hAl
   have hii : i = ia' := by
    have := distB_ix hdist hcp hcd
    rw [hia] at this
    cases this
    rfl
   subst hii
   have hcc : c = ca := by rw [hcp] at hca; cases hca; rfl
   rw [hgd] at hg
   rw [if_pos (wanted_none hg _)]
   have hst : stD st lp G s z i b listed = { st with fr := gfrG lp G st.fr listed } := by
    unfold stD
    rw [hunf]
    rfl
   rw [hst] at hH
   have hx : xo P (some s) ({ st with fr := gfrG lp G st.fr listed } : St) (fun d' st' => ∃ b', d' = .lref s b' [] 0 ∧ st' = ({ st with fr := gfrG lp G st.fr listed } : St).box s b' z) c.op := by
    rw [hcc, hcaop]
    exact fun b' => ⟨b', rfl, rfl⟩
   refine .inl (xop_sound hH o (xo_bad hop (by rw [← hdst, hcd]; exact hx)) fun d' v' st' g' w' hK hH' hR' => ?_)
   obtain ⟨b', rfl, rfl⟩ := hK
   rw [← hdst, hcd]
   refine ih _ g' _ w' b' (by simp [hsz]) hcnt' hcl' hN' ?_
   have h1 := hH'.put hsn hR'
   have e1 : (({ st with fr := gfrG lp G st.fr listed } : St).box s b' z).put s (.lref s b' [] 0) = stD st lp (upd G0 s (.lref s b' [] 0)) s z i b' (listed.setIfInBounds i true) := by
    unfold stD
    have : (listed.setIfInBounds i true).getD i false = true := by simp [his]
    rw [if_pos this]
    have e : upd (gfrG lp G st.fr listed) s (.lref s b' [] 0) = gfrG lp (upd G0 s (.lref s b' [] 0)) st.fr (listed.setIfInBounds i true) := by
     funext u
     rw [upd_apply]
     unfold gfrG
     split
     ·rename_i hu
      subst hu
      rw [hia]
      simp only [this, if_true, hGs0]
     ·rename_i hu
      cases hx : dix lp u with
      | none => rfl
      | some j =>
       have hji : i ≠ j := fun e => by
        subst e
        obtain ⟨c2, hc2, hd2⟩ := dix_get hx
        rw [hcp] at hc2
        cases hc2
        rw [hcd] at hd2
        cases hd2
        exact hu rfl
       simp only [getD_set_ne false hji]
       rw [hGo u hu, hGo0 b' u hu]
    rw [← e]
    rfl
   rw [e1] at h1
   exact h1
  ·obtain ⟨d, t, hct, hGt, htn, hf⟩ := hfact i c hcp hAl
   have hts : t ≠ s := fun e => by
    subst e
    have := distB_ix hdist hcp hct
    rw [hia] at this
    cases this
    rw [hcp] at hca
    cases hca
    rw [hcaop] at hAl
    cases hAl
   have hii : i ≠ ia' := fun e => by
    subst e
    rw [hcp] at hca
    cases hca
    rw [hcaop] at hAl
    cases hAl
   have hf1 : xfact P { st with fr := gfrG lp G st.fr listed } c d := xfact_fr (st := st) (f1 := G0) (fun u hu => by
    unfold gfrG
    cases hx : dix lp u with
    | none => exact (hfree u hx).symm
    | some j =>
     obtain ⟨hj, hw⟩ := hdep u hu j hx
     obtain ⟨e, he, hb⟩ := Array.any_eq_true'.1 hw
     simp only [Bool.and_eq_true, beq_iff_eq] at hb
     have hlist := haf e he hb.1
     rw [hb.2] at hlist
     simp only [hlist, if_true]
     exact hGo u (hns u hu)) hf
   have hf2 : xfact P (stD st lp G s z ia' b listed) c d := by
    unfold stD
    split
    ·exact xfact_bx (st := { st with fr := gfrG lp G st.fr listed }) hlc hf1
    ·exact hf1
   have next : ∀ (g' : Go.Ab.G) (v' : Value) (w' : World), Holds F n g' (stD st lp G s z ia' b listed) a w' → RelV g'.U w' d v' → wpAny P .any ops (lift F n Q) fuel (listed.setIfInBounds i true) (a.put o.dst v') w' := fun g' v' w' hH' hR' => by
    rw [← hdst, hct]
    refine ih _ g' _ w' b (by simp [hsz]) hcnt' hcl' hN' ?_
    rw [hG]
    have h1 := hH'.put htn hR'
    rw [put_stD hdist hcp hct (by rw [hGo t hts, hGt]) hii his] at h1
    exact h1
   have run : xf1 P (stD st lp G s z ia' b listed) c.op d → o.wp P a w (wpAny P .any ops (lift F n Q) fuel (listed.setIfInBounds i true)) (lift F n Q) := fun h1 => quiet_run hH o hop h1 fun v' g' w' hH' hR' => next g' v' w' hH' hR'
   unfold xfact at hf2
   cases hgd : c.gd with
   | none =>
    rw [hgd] at hg
    simp only [hgd] at hf2
    rw [if_pos (wanted_none hg _)]
    exact .inl (run hf2)
   | some q =>
    obtain ⟨tt, want⟩ := q
    rw [hgd] at hg
    simp only [hgd] at hf2
    obtain ⟨hw1, hw2⟩ := wanted_of hH hg
    rcases hf2 with ⟨ht, h1⟩ | ⟨ht, h1⟩
    ·rw [hw1 _ ht]
     simp only [beq_self_eq_true, if_true]
     exact .inl (run h1)
    ·have hno : Region.wanted o (yielded ops a.tmps) = false := by
      rcases ht with ht | ht
      ·rw [hw1 _ ht]; cases want <;> rfl
      ·exact hw2 ht
     rw [hno]
     simp only [Bool.false_eq_true, if_false]
     subst h1
     exact next g undef w hH rfl
theorem dix_no : ∀ {l : List COp} {u : Nat}, (∀ c ∈ l, c.dst ≠ some u) → dix l u = none
 | [], u, _ => rfl
 | c :: l, u, h => by
  simp only [dix, if_neg (h c (List.mem_cons_self ..))]
  rw [dix_no fun c' hc => h c' (List.mem_cons_of_mem _ hc)]
  rfl
theorem dix_none : ∀ {l : List COp} {u : Nat}, dix l u = none → ∀ c ∈ l, c.dst ≠ some u
 | c :: l, u, h, c', hc => by
  simp only [dix] at h
  split at h
  ·cases h
  ·rename_i hne
   rcases List.mem_cons.1 hc with rfl | hc
   ·exact hne
   ·exact dix_none (by simpa using h) c' hc
 | [], _, _, c', hc => by simp at hc
theorem dix_app : ∀ {X Y : List COp} {u j : Nat}, dix X u = some j → dix (X ++ Y) u = some j ∧ j < X.length
 | [], Y, u, j, h => by simp [dix] at h
 | c :: X, Y, u, j, h => by
  simp only [dix, List.cons_append] at h ⊢
  split at h
  ·rename_i hc
   simp only [Option.some.injEq] at h
   subst h
   exact ⟨by rw [if_pos hc], by simp⟩
  ·rename_i hc
   simp only [Option.map_eq_some_iff] at h
   obtain ⟨k, hk, rfl⟩ := h
   obtain ⟨h1, h2⟩ := dix_app (Y := Y) hk
   exact ⟨by rw [if_neg hc, h1]; rfl, by simp; omega⟩
theorem distB_filter {p : COp → Bool} : ∀ {l : List COp}, distB l = true → distB (l.filter p) = true
 | [], _ => rfl
 | c :: l, h => by
  simp only [distB] at h
  split at h
  ·rename_i s hs
   simp only [Bool.and_eq_true, Option.isNone_iff_eq_none] at h
   rw [List.filter_cons]
   split
   ·simp only [distB, hs, Bool.and_eq_true, Option.isNone_iff_eq_none]
    exact ⟨dix_no fun c' hc => dix_none h.1 c' (List.mem_filter.1 hc).1, distB_filter h.2⟩
   ·exact distB_filter h.2
  ·cases h
theorem region_decl (hm : P.follows .mixedOrders = true) {id : Nat} {ops : Array Oper} {l lq : List COp} {s sz : Nat} {z : D} {v : Opd} {Q : Post} (hl : cOpers P ops ops.toList = some l) (hd : declOf ops l = some (lq, s, z, sz, v))
  (h : xqs P n lq st fun st' => st'.lc s = none ∧ Nat.ble (s + 1) n = true ∧ deepK (v.ev st') fun x => x.memB = true ∧ x.len = sz ∧ z.len = sz ∧ x.isAgg = z.isAgg ∧ ∀ b, Q .normal ((st'.put s (.lref s b [] 0)).box s b x)) : Sem P n (.region id ops true) st Q := fun F g a w hH => by
 unfold declOf at hd
 split at hd
 ·rename_i lp sz' s' v' hlast
  split at hd
  ·rename_i z' hal
   split at hd
   ·rename_i hB
    simp only [Option.some.injEq, Prod.mk.injEq] at hd
    obtain ⟨rfl, rfl, rfl, rfl, rfl⟩ := hd
    have hll := lastOf_eq hlast
    rw [hll] at hl
    have hB' := hB
    simp only [declB, Bool.and_eq_true, decide_eq_true_eq] at hB
    obtain ⟨⟨⟨⟨⟨⟨⟨hdist, hpre⟩, hback⟩, hsink⟩, hone⟩, hvs⟩, hsize⟩, hzmp⟩ := hB
    have hdq : distB (lp.filter fun c => !c.op.alB) = true := distB_filter hdist
    obtain ⟨ds, h1, h2, h3⟩ := xqs_facts (distB_some hdq) h
    obtain ⟨hlc, hsn, h3⟩ := h3
    rw [deepK_eq] at h3
    obtain ⟨hm1, hln, hzl, hza, hQ⟩ := h3
    have hne : ∀ c ∈ lp, c.op.alB = true → c.dst = some s' := oneAl_get hone
    have hfree : ∀ t, dix lp t = none → puts (lp.filter fun c => !c.op.alB) ds st.fr t = st.fr t := fun t ht => by
     rw [puts_eq hdq h1, dix_no fun c hc => dix_none ht c (List.mem_filter.1 hc).1]
    have hfact : ∀ (i : Nat) (c : COp), lp[i]? = some c → c.op.alB = false → ∃ (d : D) (t : Nat), c.dst = some t ∧ puts (lp.filter fun c => !c.op.alB) ds st.fr t = d ∧ t < n ∧ xfact P { st with fr := puts (lp.filter fun c => !c.op.alB) ds st.fr } c d := fun i c hc ha => by
     have hi : i < lp.length := (List.getElem?_eq_some_iff.1 hc).1
     have hci : lp[i] = c := (List.getElem?_eq_some_iff.1 hc).2
     have hsp : lp = lp.take i ++ c :: lp.drop (i + 1) := by
      rw [← hci]
      simp
     have hfl : (lp.filter fun c => !c.op.alB) = ((lp.take i).filter fun c => !c.op.alB) ++ c :: (lp.drop (i + 1)).filter fun c => !c.op.alB := by
      conv => lhs; rw [hsp]
      rw [List.filter_append, List.filter_cons, if_pos (by simp [ha])]
     have hk : (lp.filter fun c => !c.op.alB)[((lp.take i).filter fun c => !c.op.alB).length]? = some c := by
      rw [hfl]
      simp
     have htk : (lp.filter fun c => !c.op.alB).take ((lp.take i).filter fun c => !c.op.alB).length = (lp.take i).filter fun c => !c.op.alB := by
      rw [hfl]
      simp
     obtain ⟨d, hd1, hd2, hd3⟩ := h2 _ c hk
     obtain ⟨t, ht⟩ : ∃ t, c.dst = some t := by
      have := distB_some hdist
      rw [List.all_eq_true] at this
      exact Option.isSome_iff_exists.1 (this c (List.mem_of_getElem? hc))
     refine ⟨d, t, ht, ?_, hd3 t ht, ?_⟩
     ·rw [puts_eq hdq h1, distB_ix hdq hk ht]
      simp [hd1]
     ·refine xfact_fr (st := st) (f1 := puts ((lp.filter fun c => !c.op.alB).take ((lp.take i).filter fun c => !c.op.alB).length) (ds.take ((lp.take i).filter fun c => !c.op.alB).length) st.fr) (fun u hu => ?_) hd2
      rw [puts_eq hdq h1, puts_eq (distB_take hdq) (by simp [h1]), htk]
      have ho : ops.toList[i]? = some (ops[i]'(by omega)) := by
       have : i < ops.size := by omega
       simp [this]
      rcases preGo_get hpre i c _ hc ho with ⟨q, _⟩ | ⟨_, hns, hdep⟩
      ·rw [ha] at q; cases q
      cases hx : dix lp u with
      | none =>
       have e1 : dix (lp.filter fun c => !c.op.alB) u = none := dix_no fun c' hc' => dix_none hx c' (List.mem_filter.1 hc').1
       have e2 : dix ((lp.take i).filter fun c => !c.op.alB) u = none := dix_no fun c' hc' => dix_none hx c' (List.mem_of_mem_take (List.mem_filter.1 hc').1)
       rw [e1, e2]
      | some j =>
       obtain ⟨hj, _⟩ := hdep u hu j hx
       obtain ⟨c2, hc2, hd2'⟩ := dix_get hx
       have hmem : c2 ∈ (lp.take i).filter fun c => !c.op.alB := by
        refine List.mem_filter.2 ⟨List.mem_of_getElem? (i := j) (by rw [List.getElem?_take, if_pos (by omega)]; exact hc2), ?_⟩
        cases hq : c2.op.alB with
        | false => rfl
        | true =>
         have := hne c2 (List.mem_of_getElem? hc2) hq
         rw [hd2'] at this
         cases this
         exact absurd rfl (hns _ hu)
       cases hy : dix ((lp.take i).filter fun c => !c.op.alB) u with
       | none => exact absurd hd2' (dix_none hy c2 hmem)
       | some k =>
        obtain ⟨q1, q2⟩ := dix_app (Y := c :: (lp.drop (i + 1)).filter fun c => !c.op.alB) hy
        rw [← hfl] at q1
        rw [q1]
        simp [List.getElem?_take, q2]
    obtain ⟨ia, ca, hca, hcaop, hcad⟩ := alOf_get hal
    have hia := distB_ix hdist hca hcad
    refine wp_region_any hm ?_
    have hb : Below w.heap.size w { w with drawn := w.drawn + 1 } := (Below.refl _ _).drew
    have hrep : ∀ j, (Array.replicate ops.size false).getD j false = false := fun j => by
     rcases Nat.lt_or_ge j ops.size with h | h <;> simp [h]
    refine any_decl hl hB' hal hfact hfree hlc (Nat.le_of_ble_eq_true hsn) hm1 hln hzl hza hQ ia hia _ _ g a _ 0 (by simp) ?_ (fun j o _ hj => by rw [hrep] at hj; cases hj) ?_ ?_
    ·rw [List.countP_eq_length.2]
     ·simp
     ·intro j hj
      have := List.mem_range.1 hj
      simp [this]
    ·have : lp.length < ops.size := by omega
     simp [this]
    ·have e : ∀ G : Nat → D, stD st lp G s' z' ia 0 (Array.replicate ops.size false) = st := fun G => by
      unfold stD
      rw [hrep]
      have e2 : gfrG lp G st.fr (Array.replicate ops.size false) = st.fr := by
       funext u
       unfold gfrG
       split
       ·rename_i j hj
        rw [hrep]
        rfl
       ·rfl
      rw [e2]
      rfl
     rw [e]
     exact hH.below hb
   ·cases hd
  ·cases hd
 ·cases hd
/-! ### Regions that draw their order, with effects in a row: sound -/
theorem dixO_get : ∀ {l : List COp} {s j : Nat}, dixO l s = some j → ∃ c, l[j]? = some c ∧ c.dst = some s
 | [], s, j, h => by simp [dixO] at h
 | c :: l, s, j, h => by
  simp only [dixO] at h
  split at h
  ·simp at h; subst h; exact ⟨c, rfl, ‹_›⟩
  ·simp only [Option.map_eq_some_iff] at h
   obtain ⟨k, hk, rfl⟩ := h
   obtain ⟨c', h1, h2⟩ := dixO_get hk
   exact ⟨c', by simpa using h1, h2⟩
theorem distO_ix : ∀ {l : List COp}, distO l = true → ∀ {i : Nat} {c : COp} {s : Nat}, l[i]? = some c → c.dst = some s → dixO l s = some i
 | [], _, i, c, s, h, _ => by simp at h
 | x :: l, hd, i, c, s, h, hs => by
  simp only [distO, Bool.and_eq_true] at hd
  cases i with
  | zero => simp at h; subst h; simp [dixO, hs]
  | succ i =>
   have ih := distO_ix hd.2 (i := i) (by simpa using h) hs
   have hne : ¬ x.dst = some s := fun e => by
    have h1 := hd.1
    rw [e] at h1
    simp only [Option.isNone_iff_eq_none] at h1
    have h2 : dixO l s = some i := ih
    rw [h1] at h2
    cases h2
   simp only [dixO, if_neg hne]
   have h2 : dixO l s = some i := ih
   rw [h2]
   rfl
theorem elemN_mem : ∀ {l : List Nat} {s : Nat}, elemN s l = true → s ∈ l
 | [], _, h => by simp [elemN] at h
 | t :: l, s, h => by
  simp only [elemN, Bool.or_eq_true, beq_iff_eq] at h
  rcases h with rfl | h
  ·simp
  ·exact List.mem_cons_of_mem _ (elemN_mem h)
theorem elemN_not {l : List Nat} {s : Nat} (h : elemN s l = false) : s ∉ l := fun hm => elemN_no h s hm rfl
theorem reach_listed {os : List Oper} {listed : Array Bool} (hcl : ∀ j o, os[j]? = some o → listed.getD j false = true → ∀ e ∈ o.after, Region.binds .any e = true → listed.getD e.on false = true) : ∀ {f i j : Nat}, reachB os f i j = true → (∀ o, os[i]? = some o → ∀ e ∈ o.after, Region.binds .any e = true → listed.getD e.on false = true) → listed.getD j false = true
 | 0, i, j, h, _ => by simp [reachB] at h
 | f + 1, i, j, h, hi => by
  simp only [reachB] at h
  split at h
  ·rename_i o ho
   simp only [Bool.or_eq_true] at h
   rcases h with h | h
   ·obtain ⟨e, he, hb⟩ := Array.any_eq_true'.1 h
    simp only [Bool.and_eq_true, beq_iff_eq] at hb
    rw [← hb.2]
    exact hi o ho e he hb.1
   ·obtain ⟨e, he, hb⟩ := Array.any_eq_true'.1 h
    simp only [Bool.and_eq_true] at hb
    have hl := hi o ho e he hb.1
    exact reach_listed hcl hb.2 fun o' ho' e' he' hb' => hcl e.on o' ho' hl e' he' hb'
  ·cases h
/-- One step of the look. -/
theorem drawGo_cons {os : List Oper} {l : List COp} {m i : Nat} {fl : Option Nat} {done rest : List Nat} {r : List (COp × Bool × List Opd)} (h : drawGo os l m fl done (i :: rest) = some r) : ∃ c r', l[i]? = some c ∧ drawGo os l m fl (i :: done) rest = some r' ∧ i ∉ done ∧ (c.op.effB = true ∨ c.dst.isSome = true) ∧
  (∀ s ∈ c.slots, ∀ j, dixO l s = some j → (j ∈ done ∧ waitI os i j = true) ∨ (effI l j = true ∧ j ∉ done ∧ reachB os m j i = true)) ∧ (fl = some i ∨ ∀ j ∈ done, effI l j = true → reachB os m i j = true) ∧
  ∃ rds, r = (c, c.op.effB, rds) :: r' ∧ (c.op.effB = true → ∀ j ∈ done, effI l j = false → reachB os m i j = false → (∀ e ∈ done, effI l e = true → reachB os m e j = false) → ∀ x ∈ rdI l j, x ∈ rds) := by
 simp only [drawGo] at h
 split at h
 ·rename_i c hc
  split at h
  ·rename_i hcond
   simp only [Bool.and_eq_true, Bool.not_eq_true', Bool.or_eq_true (c.op.effB)] at hcond
   obtain ⟨⟨⟨h1, h2⟩, h3⟩, h4⟩ := hcond
   split at h
   ·rename_i r' hr'
    simp only [Option.some.injEq] at h
    refine ⟨c, r', hc, hr', elemN_not h4, h3, fun s hs j hj => ?_, ?_, _, h.symm, fun heff j hj h5 h6 h7 x hx => ?_⟩
    ·have := List.all_eq_true.1 h1 s hs
     rw [hj] at this
     simp only [Bool.or_eq_true, Bool.and_eq_true, Bool.not_eq_true'] at this
     rcases this with ⟨q1, q2⟩ | ⟨⟨q1, q2⟩, q3⟩
     ·exact .inl ⟨elemN_mem q1, q2⟩
     ·exact .inr ⟨q2, elemN_not q1, q3⟩
    ·simp only [Bool.or_eq_true] at h2
     rcases h2 with q | q
     ·refine .inl ?_
      unfold isF at q
      split at q
      ·rw [Nat.eq_of_beq_eq_true q]
      ·cases q
     ·refine .inr fun j hj he => ?_
      have := List.all_eq_true.1 q j hj
      simpa [he] using this
    ·rw [if_pos heff]
     refine List.mem_flatMap.2 ⟨j, List.mem_filter.2 ⟨hj, ?_⟩, hx⟩
     have : (done.any fun e => effI l e && reachB os m e j) = false := by
      rw [List.any_eq_false]
      intro e he
      cases hq : effI l e with
      | false => simp
      | true => simp [h7 e he hq]
     simp [h5, h6, this]
   ·cases h
  ·cases h
 ·cases h
theorem effI_not {l : List COp} {i : Nat} {c : COp} (hc : l[i]? = some c) (h : ¬ effI l i = true) : c.op.effB = false := by
 unfold effI at h
 rw [hc] at h
 simp only [Bool.or_eq_true, not_or] at h
 simpa using h.1
theorem effI_eff {l : List COp} {i : Nat} {c : COp} (hc : l[i]? = some c) (h : c.op.effB = true) : effI l i = true := by
 unfold effI
 rw [hc]
 simp [h]
theorem drawGo_disj {os : List Oper} {l : List COp} {m : Nat} {fl : Option Nat} : ∀ {rest done : List Nat} {r : List (COp × Bool × List Opd)}, drawGo os l m fl done rest = some r → ∀ j ∈ rest, j ∉ done
 | [], _, _, _, j, hj => by simp at hj
 | i :: rest, done, r, h, j, hj => by
  obtain ⟨c, r', _, h2, h3, _⟩ := drawGo_cons h
  rcases List.mem_cons.1 hj with rfl | hj
  ·exact h3
  ·have := drawGo_disj h2 j hj
   exact fun hd => this (by simp [hd])
theorem drawGo_reach {os : List Oper} {l : List COp} {m i0 : Nat} {fl : Option Nat} (he : effI l i0 = true) : ∀ {rest done : List Nat} {r : List (COp × Bool × List Opd)}, drawGo os l m fl done rest = some r → i0 ∈ done → ∀ j ∈ rest, fl = some j ∨ reachB os m j i0 = true
 | [], _, _, _, _, j, hj => by simp at hj
 | i :: rest, done, r, h, hi, j, hj => by
  obtain ⟨c, r', _, h2, _, _, _, h3, _⟩ := drawGo_cons h
  rcases List.mem_cons.1 hj with rfl | hj
  ·exact h3.imp id fun q => q i0 hi he
  ·exact drawGo_reach he h2 (by simp [hi]) j hj
theorem sameN_get {st st' : St} : ∀ {ks : List Nat} {s : Nat}, sameN st st' ks → s ∈ ks → st'.lc s = st.lc s ∧ st'.gen s = st.gen s
 | [], s, _, h => by simp at h
 | k :: ks, s, hs, h => by
  rcases List.mem_cons.1 h with rfl | h
  ·exact hs.1
  ·exact sameN_get hs.2 h
theorem rdN_spec {st : St} : ∀ {xs : List Opd} {K : List Nat → Prop}, rdN st xs K → ∃ ks, K ks ∧ ∀ x ∈ xs, (∀ s b p o, x.ev st = .lref s b p o → s ∈ ks) ∧ ∀ s b, (x.ev st = .lmp s b ∨ ∃ n c, x.ev st = .lsl s b n c) → s ∈ ks
 | [], K, h => ⟨[], h, fun x hx => by simp at hx⟩
 | x :: xs, K, h => by
  have go : ∀ {K' : List Nat → Prop} (pre : List Nat), rdN st xs K' → (∀ l, K' l → K (pre ++ l)) → ((∀ s b p o, x.ev st = .lref s b p o → s ∈ pre) ∧ ∀ s b, (x.ev st = .lmp s b ∨ ∃ n c, x.ev st = .lsl s b n c) → s ∈ pre) → ∃ ks, K ks ∧ ∀ y ∈ x :: xs, (∀ s b p o, y.ev st = .lref s b p o → s ∈ ks) ∧ ∀ s b, (y.ev st = .lmp s b ∨ ∃ n c, y.ev st = .lsl s b n c) → s ∈ ks := fun {K'} pre h' hk hx => by
   obtain ⟨ks, h1, h2⟩ := rdN_spec h'
   refine ⟨pre ++ ks, hk _ h1, fun y hy => ?_⟩
   rcases List.mem_cons.1 hy with rfl | hy
   ·exact ⟨fun s b p o e => by simp [hx.1 s b p o e], fun s b e => by simp [hx.2 s b e]⟩
   ·exact ⟨fun s b p o e => by simp [(h2 y hy).1 s b p o e], fun s b e => by simp [(h2 y hy).2 s b e]⟩
  simp only [rdN] at h
  cases hx : x.ev st
  case lref s b p o =>
   rw [hx] at h
   refine go [s] h (fun l hl => hl) ⟨fun s' b' p' o' e => ?_, fun s' b' e => ?_⟩
   ·rw [hx] at e; cases e; simp
   ·rw [hx] at e; rcases e with e | ⟨_, _, e⟩ <;> cases e
  case lmp s b =>
   rw [hx] at h
   refine go [s] h (fun l hl => hl) ⟨fun s' b' p' o' e => ?_, fun s' b' e => ?_⟩
   ·rw [hx] at e; cases e
   ·rw [hx] at e; rcases e with e | ⟨_, _, e⟩ <;> cases e; simp
  case lsl s b n c =>
   rw [hx] at h
   refine go [s] h (fun l hl => hl) ⟨fun s' b' p' o' e => ?_, fun s' b' e => ?_⟩
   ·rw [hx] at e; cases e
   ·rw [hx] at e; rcases e with e | ⟨_, _, e⟩ <;> cases e; simp
  all_goals
   rw [hx] at h
   refine go [] h (fun l hl => hl) ⟨fun s' b' p' o' e => ?_, fun s' b' e => ?_⟩
   ·rw [hx] at e; cases e
   ·rw [hx] at e; rcases e with e | ⟨_, _, e⟩ <;> cases e
/-- A fact stays where what it looks at stays. -/
theorem xf1_mem {st m : St} {op : XOp} {d : D} (hq : op.quietB = true) (he : op.effB = false) (hn : ∀ x ∈ op.rd, (∀ s b p o, x.ev st = .lref s b p o → m.lc s = st.lc s ∧ m.gen s = st.gen s) ∧ ∀ s b, (x.ev st = .lmp s b ∨ ∃ n c, x.ev st = .lsl s b n c) → m.lc s = st.lc s ∧ m.gen s = st.gen s) (h : xf1 P st op d) : xf1 P { m with fr := st.fr } op d := by
 have hev : ∀ x : Opd, x.ev { m with fr := st.fr } = x.ev st := fun x => by cases x <;> rfl
 have hfun : Opd.ev { m with fr := st.fr } = Opd.ev st := funext hev
 cases op <;> simp only [XOp.effB, XOp.quietB, Bool.true_eq_false, Bool.false_eq_true] at hq he
 case ld sz ag x =>
  have hx := hn x (by simp [XOp.rd])
  simp only [xf1, xp, hev] at h ⊢
  cases hd : x.ev st <;> rw [hd] at h <;> try exact h
  rename_i s b p o
  obtain ⟨h1, h2⟩ := hx.1 s b p o hd
  refine ⟨h2.trans h.1, ?_⟩
  show match m.lc s with
   | some c => xcont sz ag o c p _
   | none => False
  rw [h1]
  exact h.2
 case lk x i =>
  have hx := hn x (by simp [XOp.rd])
  simp only [xf1, xp, hev] at h ⊢
  cases hd : x.ev st <;> cases hi : i.ev st <;> rw [hd, hi] at h <;> try exact h.elim
  rename_i s b k
  obtain ⟨h1, h2⟩ := hx.2 s b (.inl hd)
  refine ⟨h2.trans h.1, ?_⟩
  show match m.lc s with
   | some (.mp l) => _
   | _ => False
  rw [h1]
  exact h.2
 case bst x =>
  have hx := hn x (by simp [XOp.rd])
  simp only [xf1, xp, hev] at h ⊢
  cases hd : x.ev st <;> rw [hd] at h <;> try exact h
  rename_i s b k c
  obtain ⟨h1, h2⟩ := hx.2 s b (.inr ⟨k, c, hd⟩)
  refine ⟨h2.trans h.1, ?_⟩
  show match m.lc s with
   | some (.arr es ds _) => _
   | _ => False
  rw [h1]
  exact h.2
 case slc es tx x lo hi =>
  have e1 : ∀ K, xblo { m with fr := st.fr } lo K = xblo st lo K := fun K => by cases lo with | none => rfl | some y => show xbnd K _ = xbnd K _; rw [hev]
  have e2 : ∀ k K, xbhi { m with fr := st.fr } k hi K = xbhi st k hi K := fun k K => by cases hi with | none => rfl | some y => show xbnd K _ = xbnd K _; rw [hev]
  simp only [xf1, xp, hev, e1, e2] at h ⊢
  exact h
 all_goals first
  | (simp only [xf1, xp, hev] at h ⊢; exact h)
  | (simp only [xf1, xbs, hev] at h ⊢; exact h)
  | (simp only [xf1, xp, hfun, hev] at h ⊢; exact h)
theorem xfact_mem {st m : St} {c : COp} {d : D} (hq : c.op.quietB = true) (he : c.op.effB = false) (hn : ∀ x ∈ c.op.rd, (∀ s b p o, x.ev st = .lref s b p o → m.lc s = st.lc s ∧ m.gen s = st.gen s) ∧ ∀ s b, (x.ev st = .lmp s b ∨ ∃ n c, x.ev st = .lsl s b n c) → m.lc s = st.lc s ∧ m.gen s = st.gen s) (h : xfact P st c d) : xfact P { m with fr := st.fr } c d := by
 unfold xfact at h ⊢
 cases hg : c.gd with
 | none => rw [hg] at h; exact xf1_mem hq he hn h
 | some q =>
  obtain ⟨t, w⟩ := q
  rw [hg] at h
  exact h.imp (fun q => ⟨q.1, xf1_mem hq he hn q.2⟩) id
/-- An effect, from another frame that agrees on what it looks at. -/
theorem xo_fr {dst : Option Nat} {op : XOp} {K : D → St → Prop} {f : Nat → D} (he : op.effB = true) (ho : ∀ x ∈ op.sl, x.ev { st with fr := f } = x.ev st) (h : xo P dst st K op) : xo P dst { st with fr := f } (fun d st' => ∃ m : St, st' = { m with fr := f } ∧ K d { m with fr := st.fr }) op := by
 cases op <;> simp only [XOp.effB, Bool.false_eq_true] at he <;> simp only [XOp.sl, List.mem_cons, List.not_mem_nil, or_false, forall_eq_or_imp, forall_eq] at ho
 case al z =>
  cases dst with
  | none => exact h.elim
  | some s => exact fun b => ⟨st.box s b z, rfl, h b⟩
 case mm =>
  cases dst with
  | none => exact h.elim
  | some s => exact fun b => ⟨st.box s b _, rfl, h b⟩
 case bx x =>
  cases dst with
  | none => exact h.elim
  | some s =>
   simp only [xo, deepK_eq] at h ⊢
   rw [ho]
   exact ⟨h.1, fun b => ⟨st.box s b _, rfl, h.2 b⟩⟩
 case mk z bytes l c =>
  cases dst with
  | none => exact h.elim
  | some s =>
   simp only [xo] at h ⊢
   rw [ho.1, ho.2]
   cases hl : l.ev st <;> cases hc : c.ev st <;> rw [hl, hc] at h <;> first | exact h.elim | exact ⟨h.1, h.2.1, h.2.2.1, h.2.2.2.1, fun b => ⟨st.box s b _, rfl, h.2.2.2.2 b⟩⟩
 case st sz p x =>
  simp only [xo, deepK_eq, xst_eq] at h ⊢
  rw [ho.1, ho.2]
  refine ⟨h.1, h.2.1, ?_⟩
  have h3 := h.2.2
  cases hp : p.ev st <;> rw [hp] at h3 <;> first | exact h3.elim | skip
  rename_i s b q o
  refine ⟨h3.1, ?_⟩
  have h4 := h3.2
  show match st.lc s with
   | some c => xput o (x.ev st) c q _
   | none => False
  cases hr : st.lc s with
  | none => rw [hr] at h4; exact h4.elim
  | some c =>
   rw [hr] at h4
   exact xput_mono (fun c' hk => ⟨st.setLc s c', rfl, hk⟩) h4
 case mu m k x =>
  simp only [xo] at h ⊢
  rw [ho.1, ho.2.1, ho.2.2]
  cases hm : m.ev st <;> cases hk : k.ev st <;> cases hx : x.ev st <;> rw [hm, hk, hx] at h <;> try exact h.elim
  rename_i s b ky v
  refine ⟨h.1, ?_⟩
  have h2 := h.2
  cases hl : st.lc s with
  | none => rw [hl] at h2; exact h2.elim
  | some c =>
   rw [hl] at h2
   cases c <;> try exact h2.elim
   exact ⟨st.setLc s _, rfl, h2⟩
 case app es bytes x y =>
  cases dst with
  | none => exact h.elim
  | some t =>
   simp only [xo] at h ⊢
   rw [ho.1, ho.2]
   cases hx : x.ev st
   case lvw s b i o n c =>
    rw [hx] at h
    unfold xappA xappP at h ⊢
    obtain ⟨h1, h2, h3, h⟩ := h
    refine ⟨h1, h2, h3, ?_⟩
    show match st.lc s with
     | some (.arr es' ds c') => _
     | _ => False
    split at h
    ·rename_i es' ds c' hl
     rw [hl]
     exact ⟨h.1, h.2.1, h.2.2.1, h.2.2.2.1, xnew_mono (st := { st with fr := f }) (fun l q => ⟨q.1, q.2.1, q.2.2.1, fun e => ⟨st.turn s t b _, rfl, q.2.2.2.1 e⟩, fun e m b' c' e1 e2 => ⟨st.box t b' _, rfl, q.2.2.2.2 e m b' c' e1 e2⟩⟩) (xnew_fr f h.2.2.2.2)⟩
    ·exact h.elim
   all_goals
    rw [hx] at h
    simp only [xappA, xappP] at h ⊢
    exact xold_mono (st := { st with fr := f }) (fun s l q0 => xnew_mono (st := { st with fr := f }) (fun l2 q => ⟨q.1, q.2.1, q.2.2.1, fun n b c e1 e2 => ⟨st.grow s t b (.arr es (l ++ l2) c), by cases s <;> rfl, by have := q.2.2.2 n b c e1 e2; cases s <;> exact this⟩⟩) (xnew_fr f q0)) (xold_fr f h)
 case cpy es x y =>
  simp only [xo] at h ⊢
  rw [ho.1, ho.2]
  exact xdst_mono (st := { st with fr := f }) (fun s i n l c q0 => xsrc_mono (st := { st with fr := f }) (fun ys m q k e => ⟨(q k e).1, st.setLc s _, rfl, (q k e).2⟩) (xsrc_fr f q0)) (xdst_fr f h)
 case clr es x =>
  simp only [xo] at h ⊢
  rw [ho]
  cases hx : x.ev st <;> rw [hx] at h <;> simp only [xclr] at h ⊢ <;> first | exact h.elim | exact ⟨st, rfl, h⟩ | skip
  refine ⟨h.1, ?_⟩
  have h2 := h.2
  split at h2
  ·exact ⟨h2.1, h2.2.1, h2.2.2.1, h2.2.2.2.1, ⟨st, rfl, h2.2.2.2.2⟩⟩
  ·exact h2.elim
 case apz bytes z x y =>
  cases dst with
  | none => exact h.elim
  | some t =>
   simp only [xo] at h ⊢
   rw [ho.1, ho.2]
   have key : ∀ {s b n c : Nat} {k : Int}, xappZr st t z bytes s b n c k K → xappZr { st with fr := f } t z bytes s b n c k (fun d st' => ∃ m : St, st' = { m with fr := f } ∧ K d { m with fr := st.fr }) := fun {s b n c k} h => by
    unfold xappZr at h ⊢
    obtain ⟨h1, h2, h3, h4, h5, h6, h⟩ := h
    refine ⟨h1, h2, h3, h4, h5, h6, ?_⟩
    show match st.lc s with
     | some (.arr es' ds c') => _
     | _ => False
    split at h
    ·rename_i es' ds c' hl
     rw [hl]
     exact ⟨h.1, h.2.1, h.2.2.1, h.2.2.2.1, fun m b' c' e1 e2 => ⟨st.box t b' _, rfl, h.2.2.2.2 m b' c' e1 e2⟩⟩
    ·exact h.elim
   unfold xappZ at h ⊢
   split at h
   ·exact key h
   ·exact ⟨h.1, h.2.1, key h.2.2⟩
   ·exact h.elim
 case ovl g x y =>
  simp only [xo] at h ⊢
  rw [ho.1, ho.2]
  unfold xovl at h ⊢
  split at h
  ·obtain ⟨h1, h2, h3, h4, h5, h6, h⟩ := h
   refine ⟨h1, h2, h3, h4, h5, h6, ?_⟩
   show match st.lc _, st.lc _ with
    | some (.arr _ _ cp), some (.arr es' _ cp') => _
    | _, _ => False
   split at h
   ·rename_i hl hl'
    rw [hl, hl']
    exact ⟨h.1, h.2.1, h.2.2.1, st, rfl, h.2.2.2⟩
   ·exact h.elim
  ·obtain ⟨h1, h2, h3, h4, h⟩ := h
   refine ⟨h1, h2, h3, h4, ?_⟩
   show match st.lc _ with
    | some (.arr es' _ cp') => _
    | _ => False
   split at h
   ·rename_i hl'
    rw [hl']
    exact ⟨h.1, h.2.1, st, rfl, h.2.2⟩
   ·exact h.elim
  ·exact h.elim
 case call g xs =>
  have e : xs.map (Opd.ev { st with fr := f }) = xs.map (Opd.ev st) := List.map_congr_left fun x hx => ho x hx
  simp only [xo] at h ⊢
  rw [e]
  exact ⟨h.1, h.2.1, fun fr F n g a w vs h1 h2 => (h.2.2 fr F n g a w vs h1 h2).mono fun e w' ⟨v, d, g', m, q1, q2, q3, q4⟩ => ⟨v, d, g', m, q1, q2, q3, m, rfl, q4⟩⟩
 case callv g xs =>
  have e : xs.map (Opd.ev { st with fr := f }) = xs.map (Opd.ev st) := List.map_congr_left fun x hx => ho.2 x hx
  simp only [xo] at h ⊢
  rw [e, ho.1]
  cases hg : g.ev st <;> rw [hg] at h <;> try exact h.elim
  exact ⟨h.1, h.2.1, fun fr F n g a w vs h1 h2 => (h.2.2 fr F n g a w vs h1 h2).mono fun e w' ⟨v, d, g', m, q1, q2, q3, q4⟩ => ⟨v, d, g', m, q1, q2, q3, m, rfl, q4⟩⟩
def mixF (l : List COp) (fr fr0 : Nat → D) (listed : Array Bool) (s : Nat) : D := match dixO l s with
 | some k => if listed.getD k false = true then fr s else fr0 s
 | none => fr0 s
theorem mix_step {l : List COp} (hd : distO l = true) {i : Nat} {c : COp} (hc : l[i]? = some c) {listed : Array Bool} (his : i < listed.size) {fr fr0 : Nat → D} (d : D) :
  updO (mixF l fr fr0 listed) c.dst d = mixF l (updO fr c.dst d) fr0 (listed.setIfInBounds i true) := by
 funext t
 have hset : (listed.setIfInBounds i true).getD i false = true := by simp [his]
 by_cases ht : c.dst = some t
 ·rw [ht]
  show upd _ t d t = _
  unfold mixF
  rw [distO_ix hd hc ht, upd_apply, if_pos rfl]
  simp only [hset, if_true]
  show d = upd fr t d t
  rw [upd_apply, if_pos rfl]
 ·have e1 : ∀ f : Nat → D, updO f c.dst d t = f t := fun f => by
   cases hq : c.dst with
   | none => rfl
   | some s =>
    show upd f s d t = f t
    rw [upd_apply, if_neg]
    rintro rfl
    exact ht hq
  rw [e1]
  unfold mixF
  cases hq : dixO l t with
  | none => rfl
  | some k =>
   have hki : i ≠ k := fun e => by
    subst e
    obtain ⟨c2, hc2, hd2⟩ := dixO_get hq
    rw [hc] at hc2
    cases hc2
    exact ht hd2
   simp only [getD_set_ne false hki, e1]
/-- What is known of a quiet operation that may still come. -/
def FactAt (P : Program) (n : Nat) (os : List Oper) (l : List COp) (m : Nat) (st : St) (done : List Nat) (j : Nat) : Prop :=
 ∃ c s, l[j]? = some c ∧ c.dst = some s ∧ s < n ∧ c.op.quietB = true ∧ c.op.effB = false ∧ xfact P st c (st.fr s) ∧ ∀ t ∈ c.slots, ∀ k, dixO l t = some k → (k ∈ done ∧ waitI os j k = true) ∨ (effI l k = true ∧ k ∉ done ∧ reachB os m k j = true)
theorem FactAt.move {os : List Oper} {l : List COp} {m : Nat} (hd : distO l = true) {st st' : St} {done done' : List Nat} {j : Nat} (h : FactAt P n os l m st done j) (hj : j ∈ done) (hsub : ∀ k ∈ done, k ∈ done')
  (hk : ∀ k, effI l k = true → k ∉ done → reachB os m k j = true → k ∉ done')
  (hfr : ∀ t, (∀ k, dixO l t = some k → k ∈ done ∨ (effI l k = true ∧ k ∉ done ∧ reachB os m k j = true)) → st'.fr t = st.fr t)
  (hm : ∀ c, l[j]? = some c → ∀ x ∈ c.op.rd, (∀ s b p o, x.ev st = .lref s b p o → st'.lc s = st.lc s ∧ st'.gen s = st.gen s) ∧ ∀ s b, (x.ev st = .lmp s b ∨ ∃ n c, x.ev st = .lsl s b n c) → st'.lc s = st.lc s ∧ st'.gen s = st.gen s) : FactAt P n os l m st' done' j := by
 obtain ⟨c, s, h1, h2, h3, h4, h5, h6, h7⟩ := h
 refine ⟨c, s, h1, h2, h3, h4, h5, ?_, fun t ht k hk' => ?_⟩
 ·have e : st'.fr s = st.fr s := hfr s fun k hk => by
   have := distO_ix hd h1 h2
   rw [this] at hk
   cases hk
   exact .inl hj
  rw [e]
  have q1 := xfact_mem (m := st') h4 h5 (hm c h1) h6
  refine xfact_fr (st := st') (f1 := st.fr) (f2 := st'.fr) (fun t ht => hfr t fun k hk => ?_) q1
  rcases h7 t ht k hk with q | q
  ·exact .inl q.1
  ·exact .inr q
 ·rcases h7 t ht k hk' with q | q
  ·exact .inl ⟨hsub k q.1, q.2⟩
  ·exact .inr ⟨q.1, hk k q.1 q.2.1 q.2.2, q.2.2⟩
theorem mixF_ev {os : List Oper} {l : List COp} {m : Nat} {fr0 : Nat → D} {listed : Array Bool} {st : St} {done : List Nat} {i : Nat} {c : COp} (hfr : ∀ s, (∀ k, dixO l s = some k → k ∉ done) → st.fr s = fr0 s)
  (hsl : ∀ t ∈ c.slots, ∀ k, dixO l t = some k → (k ∈ done ∧ waitI os i k = true) ∨ (effI l k = true ∧ k ∉ done ∧ reachB os m k i = true)) (hrd : ∀ o, os[i]? = some o → ∀ e ∈ o.after, Region.binds .any e = true → listed.getD e.on false = true)
  (hcl : ∀ j o, os[j]? = some o → listed.getD j false = true → ∀ e ∈ o.after, Region.binds .any e = true → listed.getD e.on false = true) (hun : listed.getD i false = false) : ∀ t ∈ c.slots, mixF l st.fr fr0 listed t = st.fr t := fun t ht => by
 unfold mixF
 cases hq : dixO l t with
 | none => exact (hfr t (by rw [hq]; intro k hk; cases hk)).symm
 | some k =>
  rcases hsl t ht k hq with ⟨_, hw⟩ | ⟨_, hnd, hr⟩
  ·unfold waitI at hw
   split at hw
   ·rename_i o ho
    obtain ⟨e, he, hb⟩ := Array.any_eq_true'.1 hw
    simp only [Bool.and_eq_true, beq_iff_eq] at hb
    have := hrd o ho e he hb.1
    rw [hb.2] at this
    simp only [this, if_true]
   ·cases hw
  ·have hk : listed.getD k false = false := by
    cases hlk : listed.getD k false with
    | false => rfl
    | true =>
     have := reach_listed hcl hr fun o ho => hcl k o ho hlk
     rw [this] at hun
     cases hun
   simp only [hk]
   exact (hfr t (by rw [hq]; intro k' hk'; cases hk'; exact hnd)).symm
theorem opdS_ev {xs : List Opd} {f1 f2 : Nat → D} {st : St} (h : ∀ t ∈ opdS xs, f2 t = f1 t) : ∀ x ∈ xs, x.ev { st with fr := f2 } = x.ev { st with fr := f1 } := fun x hx => by
 cases x with
 | k d => rfl
 | t i => exact h i (opdS_mem hx)
/-- What is quiet is taken at once. -/
theorem xd_adv {os : List Oper} {l : List COp} {m : Nat} {fl : Option Nat} (hd : distO l = true) (hcls : (l.all fun c => c.op.effB || c.op.quietB) = true) {K : St → Prop} : ∀ {rest done : List Nat} {r : List (COp × Bool × List Opd)} {st : St}, drawGo os l m fl done rest = some r → xd P n r st K →
  ∃ done' rest' r' st', drawGo os l m fl done' rest' = some r' ∧ (∀ i rs, rest' = i :: rs → effI l i = true) ∧ xd P n r' st' K ∧ st'.gen = st.gen ∧ st'.lc = st.lc ∧ (∀ k ∈ done, k ∈ done') ∧ (∀ k ∈ done', k ∈ done ∨ (k ∈ rest ∧ effI l k = false ∧ FactAt P n os l m st' done' k)) ∧ (∀ k ∈ rest, k ∈ done' ∨ k ∈ rest') ∧ (∀ k ∈ rest', k ∈ rest) ∧
   (∀ t, (∀ k, dixO l t = some k → k ∈ done ∨ k ∉ done') → st'.fr t = st.fr t)
 | [], done, r, st, hg, hx => ⟨done, [], r, st, hg, (by intro i rs h; cases h), hx, rfl, rfl, fun k hk => hk, fun k hk => .inl hk, (by intro k hk; simp at hk), fun k hk => hk, fun t _ => rfl⟩
 | i :: rest, done, r, st, hg, hx => by
  by_cases he : effI l i = true
  ·exact ⟨done, i :: rest, r, st, hg, (by intro j rs h; cases h; exact he), hx, rfl, rfl, fun k hk => hk, fun k hk => .inl hk, fun k hk => .inr hk, fun k hk => hk, fun t _ => rfl⟩
  ·obtain ⟨c, r', h1, h2, h3, h4, h5, h6, rds, rfl, h7⟩ := drawGo_cons hg
   have he' : c.op.effB = false := effI_not h1 he
   have hq : c.op.quietB = true := by
    have := List.all_eq_true.1 hcls c (List.mem_of_getElem? h1)
    simpa [he'] using this
   obtain ⟨s, hs⟩ : ∃ s, c.dst = some s := by
    rcases h4 with h4 | h4
    ·rw [he'] at h4; cases h4
    ·exact Option.isSome_iff_exists.1 h4
   have hix := distO_ix hd h1 hs
   -- the value
   have go : ∀ d, (putN n (some s) d st fun st2 => xd P n r' st2 K) → xfact P st c d → ∃ st2, st2 = st.put s d ∧ s < n ∧ xd P n r' st2 K ∧ FactAt P n os l m st2 (i :: done) i := fun d hk hf => by
    refine ⟨_, rfl, hk.1, hk.2, c, s, h1, hs, hk.1, hq, he', ?_, fun t ht k hk' => ?_⟩
    ·have e : (st.put s d).fr s = d := by simp [St.put, upd_apply]
     rw [e]
     refine xfact_fr (st := st) (f1 := st.fr) (f2 := upd st.fr s d) (fun t ht => ?_) hf
     rw [upd_apply, if_neg]
     rintro rfl
     rcases h5 _ ht i hix with q | q
     ·exact h3 q.1
     ·exact he q.1
    ·rcases h5 t ht k hk' with q | q
     ·exact .inl ⟨by simp [q.1], q.2⟩
     ·refine .inr ⟨q.1, fun hmem => ?_, q.2.2⟩
      rcases List.mem_cons.1 hmem with rfl | hmem
      ·exact he q.1
      ·exact q.2.1 hmem
   obtain ⟨d, st2, rfl, hsn, hx2, hf2⟩ : ∃ d st2, st2 = st.put s d ∧ s < n ∧ xd P n r' st2 K ∧ FactAt P n os l m st2 (i :: done) i := by
    obtain ⟨dst, op, gd⟩ := c
    simp only at hs he' hq
    subst hs
    rw [he'] at hx
    have run : xq P st (fun d => putS n (some s) d st fun st2 => xd P n r' st2 K) op → ∃ d, (putN n (some s) d st fun st2 => xd P n r' st2 K) ∧ xf1 P st op d := fun h => by
     obtain ⟨d, hk, hf⟩ := xq_val h
     rw [putS_eq] at hk
     exact ⟨d, hk, hf⟩
    cases gd with
    | none =>
     obtain ⟨d, hk, hf⟩ := run hx
     obtain ⟨st2, q⟩ := go d hk hf
     exact ⟨d, st2, q⟩
    | some q =>
     obtain ⟨t, w⟩ := q
     simp only [xd] at hx
     have no : (putN n (some s) .undef st fun st2 => xd P n r' st2 K) → (st.fr t = .bool (!w) ∨ st.fr t = .undef) → ∃ d st2, st2 = st.put s d ∧ s < n ∧ xd P n r' st2 K ∧ FactAt P n os l m st2 (i :: done) i := fun hk ht => by
      obtain ⟨st2, q⟩ := go .undef hk (.inr ⟨ht, rfl⟩)
      exact ⟨_, st2, q⟩
     have yes : (xq P st (fun d => putS n (some s) d st fun st2 => xd P n r' st2 K) op) → st.fr t = .bool w → ∃ d st2, st2 = st.put s d ∧ s < n ∧ xd P n r' st2 K ∧ FactAt P n os l m st2 (i :: done) i := fun h ht => by
      obtain ⟨d, hk, hf⟩ := run h
      obtain ⟨st2, q⟩ := go d hk (.inl ⟨ht, hf⟩)
      exact ⟨d, st2, q⟩
     cases ht : st.fr t
     case bool b =>
      rw [ht] at hx
      cases b <;> cases w <;> simp only [xguard] at hx
      ·exact yes (hx.no rfl) ht
      ·exact no (hx.no rfl) (.inl ht)
      ·exact no (hx.yes rfl) (.inl ht)
      ·exact yes (hx.yes rfl) ht
     case undef =>
      rw [ht] at hx
      exact no hx (.inr ht)
     all_goals (rw [ht] at hx; simp [xguard] at hx)
   obtain ⟨done', rest', r2, st', k1, k2, k3, k4, k5, k6, k7, k8, k9, k10⟩ := xd_adv hd hcls h2 hx2
   have heff : ∀ k, effI l k = true → k ∉ done → k ∉ done' := fun k hk hnd hmem => by
    rcases k7 k hmem with q | ⟨_, q, _⟩
    ·rcases List.mem_cons.1 q with rfl | q
     ·exact he hk
     ·exact hnd q
    ·rw [q] at hk; cases hk
   have hput : ∀ t, (∀ k, dixO l t = some k → k ∈ done ∨ k ∉ done') → (st.put s d).fr t = st.fr t := fun t ht => by
    show upd st.fr s d t = _
    rw [upd_apply, if_neg]
    rintro rfl
    rcases ht i hix with q | q
    ·exact h3 q
    ·exact q (k6 i (by simp))
   refine ⟨done', rest', r2, st', k1, k2, k3, k4, k5, fun k hk => k6 k (by simp [hk]), fun k hk => ?_, fun k hk => ?_, fun k hk => by simp [k9 k hk], fun t ht => ?_⟩
   ·rcases k7 k hk with q | ⟨q1, q2, q3⟩
    ·rcases List.mem_cons.1 q with rfl | q
     ·refine .inr ⟨by simp, by simpa using he, hf2.move hd (by simp) k6 (fun k' he' hn' _ => heff k' he' fun q => hn' (by simp [q])) (fun t ht => k10 t fun k' hk' => ?_) (fun c' _ x _ => ⟨fun s' b p o _ => by rw [k4, k5]; exact ⟨rfl, rfl⟩, fun s' b _ => by rw [k4, k5]; exact ⟨rfl, rfl⟩⟩)⟩
      rcases ht k' hk' with q | q
      ·exact .inl q
      ·exact .inr (heff k' q.1 fun q' => q.2.1 (by simp [q']))
     ·exact .inl q
    ·exact .inr ⟨by simp [q1], q2, q3⟩
   ·rcases List.mem_cons.1 hk with rfl | hk
    ·exact .inl (k6 _ (by simp))
    ·exact k8 k hk
   ·rw [k10 t fun k hk => (ht k hk).imp (fun q => by simp [q]) id, hput t ht]
/-! ### An allocation that may come at any time -/
theorem cOp_al {op : Op} {z : D} (h : (cOp P op).getD .bad = .al z) : ∃ t, op = .alloc t ∧ zeroD P t = some z := by
 have h' : cOp P op = some (.al z) := by
  cases hq : cOp P op with
  | none => rw [hq] at h; cases h
  | some x => rw [hq] at h; exact congrArg some h
 cases op
 case alloc t =>
  refine ⟨t, rfl, ?_⟩
  simp only [cOp] at h'
  cases hz : zeroD P t with
  | none => simp [hz] at h'
  | some z' => simp [hz] at h'; rw [h']
 all_goals exfalso; simp only [cOp] at h'
 all_goals (repeat' split at h')
 all_goals first | (cases h'; done) | (simp at h'; done)
/-- The new block stands aside: what goes on leaves it alone, and it may be taken in later. -/
theorem Holds.float {F : Fix} {g : G} {a : Act} {w : World} (h : Holds F n g st a w) (s : Nat) {z : D} {cells : Array Value} (e : TypeId) (hz : ∀ U w, RelC U w z cells.toList) :
  ∃ F1, Holds F1 n g st a (w.alloc (.cells cells e)) ∧ ∀ g' st' a' w2, Holds F1 n g' st' a' w2 → ∃ g2, Holds F n g2 (st'.box s w.heap.size z) a' w2 := by
 have hs0 : F.w0.heap.size ≤ w.heap.size := h.keep.size
 have hA : ∀ k, k < w.heap.size → (w.alloc (.cells cells e)).heap[k]? = w.heap[k]? := fun k hk => by rw [World.alloc_heap, if_neg (by omega)]
 have hsz : (w.alloc (.cells cells e)).heap.size = w.heap.size + 1 := by simp
 have x : Ext g.U g.U w (w.alloc (.cells cells e)) := ⟨fun _ h => h, fun b hb => hA b (h.ubd b hb)⟩
 refine ⟨⟨w.alloc (.cells cells e), g.U, fun k => k < w.heap.size ∧ (F.w0.heap.size ≤ k ∨ F.H0 k)⟩, ⟨h.size, h.defers, fun i => (h.slots i).mono x, fun s' d hl => ?_, fun b hb => hb, fun b hb => by have := h.ubd b hb; omega, fun b hb => .inl hb, ⟨rfl, rfl, rfl, Nat.le_refl _, fun k _ _ => rfl⟩⟩, fun g' st' a' w2 h2 => ?_⟩
 ·obtain ⟨Fs, hO⟩ := h.locs s' d hl
  exact ⟨Fs, hO.loc.mono ⟨x.u, x.heap, fun y hy => hA y (hO.loc.lt y hy)⟩, hO.nd, hO.own, hO.nu, fun y hy => .inr ⟨hO.loc.lt y hy, hO.lo y hy⟩⟩
 ·have hk := h2.keep
  have hs2 : w.heap.size + 1 ≤ w2.heap.size := by have q : (w.alloc (.cells cells e)).heap.size ≤ w2.heap.size := hk.size; omega
  have hb : w2.heap[w.heap.size]? = some (.cells cells e (0, 0)) := by
   have q := hk.block w.heap.size (by show _ < (w.alloc (.cells cells e)).heap.size; omega) (by rintro ⟨q, _⟩; omega)
   rw [q]
   show (w.alloc (.cells cells e)).heap[w.heap.size]? = _
   rw [World.alloc_heap, if_pos rfl]
  have hnu : ¬ g'.U w.heap.size := fun q => by
   rcases h2.uout _ q with q | q | q
   ·have := h.ubd _ q; omega
   ·have q' : (w.alloc (.cells cells e)).heap.size ≤ w.heap.size := q
    omega
   ·have q' : w.heap.size < w.heap.size := q.1
    omega
  refine ⟨{ U := g'.U, own := fun y => if y = w.heap.size then some s else g'.own y }, h2.size, h2.defers, h2.slots, fun s' d hl => ?_, fun b q => h2.uin b (h.uin b q), h2.ubd, fun b q => ?_, ?_⟩
  ·have hl' : upd st'.lc s (some z) s' = some d := hl
   rw [upd_apply] at hl'
   show ∃ Fs, Own F _ w2 s' (upd st'.gen s w.heap.size s') d Fs
   rw [upd_apply]
   by_cases e' : s' = s
   ·subst e'
    rw [if_pos rfl] at hl' ⊢
    cases hl'
    refine ⟨[w.heap.size], LocO.of hb (RelO.of (hz _ _)), by simp, fun y hy => ?_, fun y hy => ?_, fun y hy => ?_⟩
    ·simp at hy; simp [hy]
    ·simp at hy; rw [hy]; exact hnu
    ·simp at hy; rw [hy]; exact .inl hs0
   ·rw [if_neg e'] at hl' ⊢
    obtain ⟨Fs, hO⟩ := h2.locs s' d hl'
    have hne : ∀ y ∈ Fs, y ≠ w.heap.size := fun y hy e2 => by
     subst e2
     rcases hO.lo _ hy with q | q
     ·have q' : (w.alloc (.cells cells e)).heap.size ≤ w.heap.size := q
      omega
     ·have q' : w.heap.size < w.heap.size := q.1
      omega
    refine ⟨Fs, hO.loc, hO.nd, fun y hy => ?_, hO.nu, fun y hy => ?_⟩
    ·show (if y = w.heap.size then some s else g'.own y) = _
     rw [if_neg (hne y hy)]
     exact hO.own y hy
    ·rcases hO.lo y hy with q | q
     ·have q' : (w.alloc (.cells cells e)).heap.size ≤ y := q
      exact .inl (by omega)
     ·exact q.2
  ·rcases h2.uout b q with q | q | q
   ·exact h.uout b q
   ·have q' : (w.alloc (.cells cells e)).heap.size ≤ b := q
    exact .inr (.inl (by omega))
   ·exact .inr q.2
  ·refine ⟨hk.os.trans h.keep.os, hk.tape.trans h.keep.tape, hk.output.trans h.keep.output, by omega, fun k hk1 hH => ?_⟩
   have q := hk.block k (by show _ < (w.alloc (.cells cells e)).heap.size; omega) (by rintro ⟨_, q | q⟩ <;> first | omega | exact hH q)
   rw [q]
   show (w.alloc (.cells cells e)).heap[k]? = _
   rw [hA k (by omega)]
   exact h.keep.block k hk1 hH
def boxM (s : Nat) (z : D) : Option Nat → St → St
 | none, st => st
 | some b, st => st.box s b z
def frM (s n : Nat) : Option Nat → (Nat → D) → Nat → D
 | none, f => f
 | some b, f => upd f s (if s < n then .lref s b [] 0 else .undef)
theorem frM_ne {s n t : Nat} {md : Option Nat} {f : Nat → D} (h : md.isSome = true → t ≠ s) : frM s n md f t = f t := by
 cases md with
 | none => rfl
 | some b =>
  show upd f s _ t = _
  rw [upd_apply, if_neg (h rfl)]
theorem frM_updO {s n : Nat} {md : Option Nat} {f : Nat → D} {t : Option Nat} {d : D} (h : md.isSome = true → t ≠ some s) : updO (frM s n md f) t d = frM s n md (updO f t d) := by
 cases t with
 | none => rfl
 | some t =>
  cases md with
  | none => rfl
  | some b =>
   have hne : t ≠ s := fun e => h rfl (by rw [e])
   show upd (upd f s _) t d = upd (upd f t d) s _
   funext u
   simp only [upd_apply]
   by_cases h1 : u = t
   ·rw [if_pos h1, if_neg (by omega), if_pos h1]
   ·rw [if_neg h1]
    split <;> rfl
theorem Holds.putO {F : Fix} {g : G} {a : Act} {w : World} {m : St} {f : Nat → D} (h : Holds F n g { m with fr := f } a w) {dst : Option Nat} {d : D} {v : Value} (hd : RelV g.U w d v) (hn : ∀ s, dst = some s → s < n) : Holds F n g { m with fr := updO f dst d } (a.put dst v) w := by
 cases dst with
 | none => exact h
 | some s => exact h.put (hn s rfl) hd
/-- Where a drawn region stands. -/
structure DI (P : Program) (n : Nat) (ops : Array Oper) (l : List COp) (m : Nat) (fl : Option Nat) (fs : Nat) (z : D) (fr0 : Nat → D) (F : Fix) (K : St → Prop) (done rest : List Nat) (r : List (COp × Bool × List Opd)) (st : St) (listed : Array Bool) (F1 : Fix) (md : Option Nat) (g : G) (a : Act) (w : World) : Prop where
 dg : drawGo ops.toList l m fl done rest = some r
 xd : xd P n r st K
 perm : ∀ j, j < ops.size → j ∈ done ∨ j ∈ rest
 sz : listed.size = ops.size
 cl : ∀ j o, ops.toList[j]? = some o → listed.getD j false = true → ∀ e ∈ o.after, Region.binds .any e = true → listed.getD e.on false = true
 rst : ∀ j ∈ rest, listed.getD j false = true → md.isSome = true ∧ fl = some j
 mdr : md.isSome = true → ∃ f, fl = some f ∧ f ∈ rest ∧ listed.getD f false = true
 eff : ∀ j ∈ done, effI l j = true → listed.getD j false = true
 fct : ∀ j ∈ done, listed.getD j false = false → FactAt P n ops.toList l m st done j
 frs : ∀ s, (∀ k, dixO l s = some k → k ∉ done) → st.fr s = fr0 s
 conv : ∀ g' st' a' w', Holds F1 n g' st' a' w' → ∃ g2, Holds F n g2 (boxM fs z md st') a' w'
 hol : Holds F1 n g { st with fr := frM fs n md (mixF l st.fr fr0 listed) } a w
/-- What is known of the allocation. -/
def FlOk (ops : Array Oper) (l : List COp) (fl : Option Nat) (fs : Nat) (z : D) : Prop := ∀ f, fl = some f → l[f]? = some ⟨some fs, .al z, none⟩ ∧ ∀ o, ops.toList[f]? = some o → ∀ e ∈ o.after, Region.binds .any e = false
section
variable {ops : Array Oper} {l : List COp} {m : Nat} {fl : Option Nat} {fs : Nat} {z : D} {fr0 : Nat → D} {F : Fix} {K : St → Prop} {done rest : List Nat} {r : List (COp × Bool × List Opd)} {listed : Array Bool} {F1 : Fix} {md : Option Nat} {g : G} {a : Act} {w : World}
theorem FlOk.noreach (hfo : FlOk ops l fl fs z) {f : Nat} (hf : fl = some f) (m j : Nat) : reachB ops.toList m f j = false := by
 cases m with
 | zero => rfl
 | succ m =>
  simp only [reachB]
  cases ho : ops.toList[f]? with
  | none => rfl
  | some o =>
   have h := (hfo f hf).2 o ho
   simp only
   rw [Bool.or_eq_false_iff]
   constructor
   ·unfold waitB
    rw [Array.any_eq_false']
    intro e he
    simp [h e he]
   ·rw [Array.any_eq_false']
    intro e he
    simp [h e he]
theorem DI.adv (hd : distO l = true) (hcls : (l.all fun c => c.op.effB || c.op.quietB) = true) (hfo : FlOk ops l fl fs z) (h : DI P n ops l m fl fs z fr0 F K done rest r st listed F1 md g a w) : ∃ done' rest' r' st', DI P n ops l m fl fs z fr0 F K done' rest' r' st' listed F1 md g a w ∧ ∀ i rs, rest' = i :: rs → effI l i = true := by
 obtain ⟨done', rest', r', st', k1, k2, k3, k4, k5, k6, k7, k8, k9, k10⟩ := xd_adv hd hcls h.dg h.xd
 have heff : ∀ k, effI l k = true → k ∉ done → k ∉ done' := fun k hk hnd hmem => by
  rcases k7 k hmem with q | ⟨_, q, _⟩
  ·exact hnd q
  ·rw [q] at hk; cases hk
 refine ⟨done', rest', r', st', ⟨k1, k3, fun j hj => ?_, h.sz, h.cl, fun j hj => h.rst j (k9 j hj), fun hm => ?_, fun j hj he => ?_, fun j hj hu => ?_, fun s hs => ?_, h.conv, ?_⟩, k2⟩
 ·rcases h.perm j hj with q | q
  ·exact .inl (k6 j q)
  ·exact k8 j q
 ·obtain ⟨f, h1, h2, h3⟩ := h.mdr hm
  refine ⟨f, h1, ?_, h3⟩
  rcases k8 f h2 with q | q
  ·exfalso
   have he : effI l f = true := effI_eff (hfo f h1).1 rfl
   exact heff f he (drawGo_disj h.dg f h2) q
  ·exact q
 ·rcases k7 j hj with q | ⟨_, q, _⟩
  ·exact h.eff j q he
  ·rw [q] at he; cases he
 ·rcases k7 j hj with q | ⟨_, _, q⟩
  ·refine (h.fct j q hu).move hd q k6 (fun k he hn _ => heff k he hn) (fun t ht => k10 t fun k hk => ?_) (fun c' _ x _ => ⟨fun s' b p o _ => by rw [k4, k5]; exact ⟨rfl, rfl⟩, fun s' b _ => by rw [k4, k5]; exact ⟨rfl, rfl⟩⟩)
   rcases ht k hk with q | q
   ·exact .inl q
   ·exact .inr (heff k q.1 q.2.1)
  ·exact q
 ·rw [k10 s fun k hk => .inr (hs k hk)]
  exact h.frs s fun k hk hkd => hs k hk (k6 k hkd)
 ·have e : frM fs n md (mixF l st'.fr fr0 listed) = frM fs n md (mixF l st.fr fr0 listed) := by
   funext t
   by_cases ht : md.isSome = true ∧ t = fs
   ·obtain ⟨h1, rfl⟩ := ht
    cases md with
    | none => cases h1
    | some b =>
     show upd _ t _ t = upd _ t _ t
     rw [upd_apply, upd_apply, if_pos rfl, if_pos rfl]
   ·have hne : md.isSome = true → t ≠ fs := fun h1 h2 => ht ⟨h1, h2⟩
    rw [frM_ne hne, frM_ne hne]
    unfold mixF
    cases hq : dixO l t with
    | none => rfl
    | some k =>
     cases hlk : listed.getD k false with
     | false => simp [hlk]
     | true =>
      simp only [hlk, if_true]
      have hkd : k ∈ done := by
       obtain ⟨c2, hc2, hd2⟩ := dixO_get hq
       have hkl : k < l.length := (List.getElem?_eq_some_iff.1 hc2).1
       by_cases hk' : k < ops.size
       ·rcases h.perm k hk' with q | q
        ·exact q
        ·exfalso
         obtain ⟨q1, q2⟩ := h.rst k q hlk
         have := (hfo k q2).1
         rw [hc2] at this
         cases this
         cases hd2
         exact hne q1 rfl
       ·exfalso
        have : ¬ k < listed.size := by rw [h.sz]; exact hk'
        simp [this] at hlk
      exact k10 t fun k' hk' => by rw [hq] at hk'; cases hk'; exact .inl hkd
  rw [e]
  have e2 : ({ st' with fr := frM fs n md (mixF l st.fr fr0 listed) } : St) = { st with fr := frM fs n md (mixF l st.fr fr0 listed) } := by rw [← k4, ← k5]
  rw [e2]
  exact h.hol
theorem DI.pop (hd : distO l = true) (hfo : FlOk ops l fl fs z) {f b : Nat} {rs : List Nat} (hf : fl = some f) (h : DI P n ops l m fl fs z fr0 F K done (f :: rs) r st listed F1 (some b) g a w) : ∃ r' st' g', DI P n ops l m fl fs z fr0 F K (f :: done) rs r' st' listed F none g' a w := by
 obtain ⟨c, r', h1, h2, h3, h4, h5, h6, rds, rfl, h7⟩ := drawGo_cons h.dg
 have hfc := (hfo f hf).1
 rw [h1] at hfc
 cases hfc
 have hix := distO_ix hd h1 rfl
 have hef : effI l f = true := effI_eff h1 rfl
 obtain ⟨f', hf', _, hlf⟩ := h.mdr rfl
 rw [hf] at hf'
 cases hf'
 have hx := h.xd
 simp only [Ab.xd, XOp.effB] at hx
 obtain ⟨ks, hxo, hks⟩ := rdN_spec hx
 simp only [xo] at hxo
 obtain ⟨hsame, hk⟩ := hxo b
 rw [putS_eq] at hk
 obtain ⟨hfn, hx2⟩ := hk
 obtain ⟨g2, hg2⟩ := h.conv _ _ _ _ h.hol
 have hdis : ∀ j ∈ rs, j ≠ f := fun j hj e => by
  subst e
  exact drawGo_disj h2 j hj (by simp)
 refine ⟨r', _, g2, ⟨h2, hx2, fun j hj => ?_, h.sz, h.cl, fun j hj hl => ?_, fun hm => (by cases hm), fun j hj he => ?_, fun j hj hu => ?_, fun s hs => ?_, fun g' st' a' w' hh => ⟨g', hh⟩, ?_⟩⟩
 ·rcases h.perm j hj with q | q
  ·exact .inl (by simp [q])
  ·rcases List.mem_cons.1 q with rfl | q
   ·exact .inl (by simp)
   ·exact .inr q
 ·exfalso
  have := (h.rst j (by simp [hj]) hl).2
  rw [hf] at this
  cases this
  exact hdis _ hj rfl
 ·rcases List.mem_cons.1 hj with rfl | q
  ·exact hlf
  ·exact h.eff j q he
 ·rcases List.mem_cons.1 hj with rfl | q
  ·rw [hlf] at hu; cases hu
  have hej : effI l j = false := by
   cases hq : effI l j with
   | false => rfl
   | true => rw [h.eff j q hq] at hu; cases hu
  refine (h.fct j q hu).move hd q (fun k hk => by simp [hk]) (fun k _ hn hr hm => ?_) (fun t ht => ?_) (fun c' hc' x hx' => ?_)
  ·rcases List.mem_cons.1 hm with rfl | hm
   ·rw [hfo.noreach hf] at hr; cases hr
   ·exact hn hm
  ·show upd st.fr fs _ t = _
   rw [upd_apply, if_neg]
   rintro rfl
   rcases ht f hix with q' | ⟨_, _, q'⟩
   ·exact h3 q'
   ·rw [hfo.noreach hf] at q'; cases q'
  ·have hxr : x ∈ rds := h7 rfl j q hej (hfo.noreach hf m j) (fun e he hee => by
    cases hq : reachB ops.toList m e j with
    | false => rfl
    | true =>
     have hle := h.eff e he hee
     have := reach_listed h.cl hq fun o ho => h.cl e o ho hle
     rw [this] at hu
     cases hu) x (by simp only [rdI, hc']; exact hx')
   exact ⟨fun s' b' p o e => by have q := sameN_get hsame ((hks x hxr).1 s' b' p o e); exact q, fun s' b' e => by have q := sameN_get hsame ((hks x hxr).2 s' b' e); exact q⟩
 ·have hne : s ≠ fs := fun e => by subst e; exact hs f hix (by simp)
  show upd st.fr fs _ s = _
  rw [upd_apply, if_neg hne]
  exact h.frs s fun k hk hkd => hs k hk (by simp [hkd])
 ·have e : frM fs n (some b) (mixF l st.fr fr0 listed) = frM fs n none (mixF l (upd st.fr fs (.lref fs b [] 0)) fr0 listed) := by
   funext t
   show upd (mixF l st.fr fr0 listed) fs (if fs < n then .lref fs b [] 0 else .undef) t = mixF l (upd st.fr fs (.lref fs b [] 0)) fr0 listed t
   rw [if_pos hfn, upd_apply]
   split
   ·rename_i ht
    subst ht
    unfold mixF
    rw [hix]
    simp only [hlf, if_true]
    rw [upd_apply, if_pos rfl]
   ·rename_i ht
    unfold mixF
    cases dixO l t with
    | none => rfl
    | some k =>
     simp only
     rw [upd_apply, if_neg ht]
  have e2 : boxM fs z (some b) ({ st with fr := frM fs n (some b) (mixF l st.fr fr0 listed) } : St) = { ((st.box fs b z).put fs (.lref fs b [] 0)) with fr := frM fs n none (mixF l ((st.box fs b z).put fs (.lref fs b [] 0)).fr fr0 listed) } := by
   rw [e]
   rfl
  rw [← e2]
  exact hg2
theorem DI.norm (hd : distO l = true) (hcls : (l.all fun c => c.op.effB || c.op.quietB) = true) (hfo : FlOk ops l fl fs z) (h : DI P n ops l m fl fs z fr0 F K done rest r st listed F1 md g a w) : ∃ done' rest' r' st' F1' md' g', DI P n ops l m fl fs z fr0 F K done' rest' r' st' listed F1' md' g' a w ∧ ∀ i rs, rest' = i :: rs → effI l i = true ∧ (md' = none ∨ fl ≠ some i) := by
 obtain ⟨done', rest', r', st', h1, h2⟩ := h.adv hd hcls hfo
 cases rest' with
 | nil => exact ⟨done', [], r', st', F1, md, g, h1, fun i rs e => by cases e⟩
 | cons i rs =>
  by_cases hc : fl = some i
  ·cases md with
   | none => exact ⟨done', i :: rs, r', st', F1, none, g, h1, fun j rs' e => by cases e; exact ⟨h2 _ _ rfl, .inl rfl⟩⟩
   | some b =>
    obtain ⟨r2, st2, g2, h3⟩ := h1.pop hd hfo hc
    obtain ⟨d4, r4, r5, st4, h4, h5⟩ := h3.adv hd hcls hfo
    exact ⟨d4, r4, r5, st4, F, none, g2, h4, fun j rs' e => ⟨h5 j rs' e, .inl rfl⟩⟩
  ·exact ⟨done', i :: rs, r', st', F1, md, g, h1, fun j rs' e => by cases e; exact ⟨h2 _ _ rfl, .inr hc⟩⟩
end
theorem drawn_sound {ops : Array Oper} {l : List COp} {m : Nat} {fl : Option Nat} {fs : Nat} {z : D} {fr0 : Nat → D} {Q : Post} (hl : cOpers P ops ops.toList = some l) (hd : distO l = true) (hcls : (l.all fun c => c.op.effB || c.op.quietB) = true) (hback : backGo 0 ops.toList = true) (hfo : FlOk ops l fl fs z) {F : Fix} :
  ∀ (fuel : Nat) (done rest : List Nat) (r : List (COp × Bool × List Opd)) (st : St) (listed : Array Bool) (F1 : Fix) (md : Option Nat) (g : G) (a : Act) (w : World),
   DI P n ops l m fl fs z fr0 F (fun st' => Q .normal st') done rest r st listed F1 md g a w → (∀ i rs, rest = i :: rs → effI l i = true ∧ (md = none ∨ fl ≠ some i)) → (List.range ops.size).countP (fun j => !listed.getD j true) = fuel → wpAny P .any ops (lift F n Q) fuel listed a w := by
 have hbk : ∀ i o, ops[i]? = some o → ∀ e ∈ o.after, Region.binds .any e = true → e.on < i := fun i o ho e he hb => by
  have := backGo_get hback i o (by simpa using ho) e he hb
  omega
 have hlen : l.length = ops.size := by
  have key : ∀ {os : List Oper} {l : List COp}, cOpers P ops os = some l → l.length = os.length := fun {os} => by
   induction os with
   | nil => intro l h; simp [cOpers] at h; subst h; rfl
   | cons o os ih =>
    intro l h
    simp only [cOpers] at h
    split at h
    ·rename_i c l' h1 h2
     simp only [Option.some.injEq] at h
     subst h
     simp [ih h2]
    ·cases h
  simpa using key hl
 have hbase : ∀ (listed : Array Bool), listed.size = ops.size → Region.ready .any ops listed = [] → ∀ j, j < ops.size → listed.getD j false = true := fun listed hsz hr j => by
  induction j using Nat.strongRecOn with
  | ind j ih =>
   intro hj
   cases hq : listed.getD j false with
   | true => rfl
   | false =>
    exfalso
    have hjs : j < listed.size := by omega
    have : j ∈ Region.ready .any ops listed := by
     rw [mem_ready]
     have ho : ops[j]? = some ops[j] := by simp [hj]
     exact ⟨by simpa [hjs] using hq, ops[j], ho, fun e he hb => ih e.on (hbk j _ ho e he hb) (by have := hbk j _ ho e he hb; omega)⟩
    rw [hr] at this
    cases this
 have fin : ∀ (done rest : List Nat) (r : List (COp × Bool × List Opd)) (st : St) (listed : Array Bool) (F1 : Fix) (md : Option Nat) (g : G) (a : Act) (w : World), DI P n ops l m fl fs z fr0 F (fun st' => Q .normal st') done rest r st listed F1 md g a w → (∀ i rs, rest = i :: rs → effI l i = true ∧ (md = none ∨ fl ≠ some i)) → (∀ j, j < ops.size → listed.getD j false = true) → lift F n Q .normal a w := fun done rest r st listed F1 md g a w h hhd hall => by
  have hr0 : rest = [] := by
   cases rest with
   | nil => rfl
   | cons i rs =>
    exfalso
    obtain ⟨c, _, h1, _⟩ := drawGo_cons h.dg
    have hi : i < l.length := (List.getElem?_eq_some_iff.1 h1).1
    obtain ⟨q1, q2⟩ := h.rst i (by simp) (hall i (by omega))
    rcases (hhd i rs rfl).2 with q | q
    ·rw [q] at q1; cases q1
    ·exact q q2
  subst hr0
  have hmd : md = none := by
   cases md with
   | none => rfl
   | some b =>
    obtain ⟨f, _, hf, _⟩ := h.mdr rfl
    simp at hf
  subst hmd
  have hg := h.dg
  simp only [drawGo, Option.some.injEq] at hg
  subst hg
  obtain ⟨g2, hH⟩ := h.conv _ _ _ _ h.hol
  refine ⟨g2, _, hH, ?_⟩
  have e : mixF l st.fr fr0 listed = st.fr := by
   funext s
   unfold mixF
   cases hq : dixO l s with
   | none => exact (h.frs s (by rw [hq]; intro k hk; cases hk)).symm
   | some k =>
    obtain ⟨c, hc, _⟩ := dixO_get hq
    have hk : k < l.length := (List.getElem?_eq_some_iff.1 hc).1
    simp only [hall k (by omega), if_true]
  show Q .normal { st with fr := mixF l st.fr fr0 listed }
  rw [e]
  exact h.xd
 intro fuel
 induction fuel with
 | zero =>
  intro done rest r st listed F1 md g a w h hhd hcnt
  have hsz := h.sz
  have hall : ∀ j, j < ops.size → listed.getD j false = true := fun j hj => by
   have := (List.countP_eq_zero.1 hcnt) j (List.mem_range.2 hj)
   have hjs : j < listed.size := by omega
   simpa [hjs] using this
  refine ⟨?_, fin done rest r st listed F1 md g a w h hhd hall⟩
  cases hr : Region.ready .any ops listed with
  | nil => rfl
  | cons i is =>
   exfalso
   have hi : i ∈ Region.ready .any ops listed := by rw [hr]; exact List.mem_cons_self ..
   obtain ⟨h1, o, h2, _⟩ := mem_ready.1 hi
   have hlt : i < ops.size := (Array.getElem?_eq_some_iff.1 h2).1
   have := hall i hlt
   have his : i < listed.size := by omega
   simp [his] at h1 this
   rw [h1] at this
   cases this
 | succ fuel ih =>
  intro done rest r st listed F1 md g a w h hhd hcnt
  have hsz := h.sz
  have hcl := h.cl
  refine ⟨fun hr => fin done rest r st listed F1 md g a w h hhd (hbase listed hsz hr), fun i hi => ?_⟩
  obtain ⟨hun, o, ho, haf⟩ := mem_ready.1 hi
  have hlt : i < ops.size := (Array.getElem?_eq_some_iff.1 ho).1
  have his : i < listed.size := by omega
  have hunf : listed.getD i false = false := by simpa [his] using hun
  have ho' : ops.toList[i]? = some o := by simpa using ho
  have hrdy : ∀ o', ops.toList[i]? = some o' → ∀ e ∈ o'.after, Region.binds .any e = true → listed.getD e.on false = true := fun o' h' e he hb => by
   rw [ho'] at h'
   cases h'
   exact haf e he hb
  obtain ⟨c, hc, hco⟩ := cOpers_get hl ho'
  obtain ⟨hdst, hop, hgs⟩ := cOper_spec hco
  have hcl' : ∀ j o, ops.toList[j]? = some o → (listed.setIfInBounds i true).getD j false = true → ∀ e ∈ o.after, Region.binds .any e = true → (listed.setIfInBounds i true).getD e.on false = true := fun j o2 ho2 hj e he hb => by
   by_cases hij : i = j
   ·subst hij
    rw [ho'] at ho2
    cases ho2
    exact getD_set_true (haf e he hb)
   ·rw [getD_set_ne false hij] at hj
    exact getD_set_true (hcl j o2 ho2 hj e he hb)
  have hcnt' : (List.range ops.size).countP (fun j => !(listed.setIfInBounds i true).getD j true) = fuel := by
   have := countP_one (f := fun j => !listed.getD j true) (g := fun j => !(listed.setIfInBounds i true).getD j true) (i := i) (by simp only [hun]; rfl) (by simp [his]) (fun j hj => by rw [getD_set_ne true (Ne.symm hj)]) ops.size hlt
   omega
  have hsz' : (listed.setIfInBounds i true).size = ops.size := by simp [hsz]
  have hset : (listed.setIfInBounds i true).getD i false = true := by simp [his]
  -- the allocation's slot is none of the others'
  have hfsl : md.isSome = true → ∀ c' : COp, ∀ k, l[k]? = some c' → listed.getD k false = false → c'.dst ≠ some fs := fun hm c' k hk hu hdc => by
   obtain ⟨f, q1, _, q3⟩ := h.mdr hm
   have e1 := distO_ix hd (hfo f q1).1 rfl
   have e2 := distO_ix hd hk hdc
   rw [e1] at e2
   cases e2
   rw [q3] at hu
   cases hu
  have hfrd : ∀ (c' : COp), (∀ t ∈ c'.slots, ∀ k, dixO l t = some k → (k ∈ done ∧ waitI ops.toList i k = true) ∨ (effI l k = true ∧ k ∉ done ∧ reachB ops.toList m k i = true)) → ∀ t ∈ c'.slots, frM fs n md (mixF l st.fr fr0 listed) t = st.fr t := fun c' hsl t ht => by
   rw [frM_ne fun hm e => ?_]
   ·exact mixF_ev h.frs hsl hrdy hcl hunf t ht
   ·obtain ⟨f, q1, q2, _⟩ := h.mdr hm
    rw [e] at ht
    rcases hsl _ ht f (distO_ix hd (hfo f q1).1 rfl) with q | q
    ·exact drawGo_disj h.dg f q2 q.1
    ·rw [hfo.noreach q1] at q; exact absurd q.2.2 (by simp)
  show wpOp P ops (lift F n Q) i _ a w
  unfold wpOp
  rw [ho]
  simp only
  rcases h.perm i hlt with hin | hin
  ·-- quiet, late
   have hne : effI l i = false := by
    cases hq : effI l i with
    | false => rfl
    | true => rw [h.eff i hin hq] at hunf; cases hunf
   obtain ⟨c', s, q1, q2, q3, q4, q5, q6, q7⟩ := h.fct i hin hunf
   obtain rfl : c' = c := by rw [hc] at q1; exact (Option.some.inj q1).symm
   have hmix := hfrd c' q7
   have hf : xfact P { st with fr := frM fs n md (mixF l st.fr fr0 listed) } c' (st.fr s) := xfact_fr (st := st) (f1 := st.fr) hmix q6
   have next : ∀ (g' : G) (v : Value) (w' : World), Holds F1 n g' { st with fr := frM fs n md (mixF l st.fr fr0 listed) } a w' → RelV g'.U w' (st.fr s) v → wpAny P .any ops (lift F n Q) fuel (listed.setIfInBounds i true) (a.put o.dst v) w' := fun g' v w' hH' hR' => by
    have h1 := hH'.putO (dst := c'.dst) hR' (fun s' e => by rw [q2] at e; cases e; exact q3)
    rw [frM_updO fun hm => hfsl hm c' i hc hunf, mix_step hd hc his] at h1
    have e0 : updO st.fr c'.dst (st.fr s) = st.fr := by
     rw [q2]
     show upd st.fr s (st.fr s) = st.fr
     funext t
     rw [upd_apply]
     split
     ·rename_i e; rw [e]
     ·rfl
    rw [e0] at h1
    rw [← hdst]
    refine ih done rest r st _ F1 md g' _ w' ⟨h.dg, h.xd, h.perm, hsz', hcl', fun j hj hu => ?_, fun hm => ?_, fun j hj he => getD_set_true (h.eff j hj he), fun j hj hu => ?_, h.frs, h.conv, h1⟩ hhd hcnt'
    ·have hij : i ≠ j := fun e => by subst e; exact drawGo_disj h.dg i hj hin
     rw [getD_set_ne false hij] at hu
     exact h.rst j hj hu
    ·obtain ⟨f, x1, x2, x3⟩ := h.mdr hm
     exact ⟨f, x1, x2, getD_set_true x3⟩
    ·have hij : i ≠ j := fun e => by subst e; rw [hset] at hu; cases hu
     rw [getD_set_ne false hij] at hu
     exact h.fct j hj hu
   have run : xf1 P { st with fr := frM fs n md (mixF l st.fr fr0 listed) } c'.op (st.fr s) → o.wp P a w (wpAny P .any ops (lift F n Q) fuel (listed.setIfInBounds i true)) (lift F n Q) := fun h1 => quiet_run h.hol o hop h1 fun v g' w' hH' hR' => next g' v w' hH' hR'
   unfold xfact at hf
   cases hgd : c'.gd with
   | none =>
    rw [hgd] at hgs
    simp only [hgd] at hf
    rw [if_pos (wanted_none hgs _)]
    exact .inl (run hf)
   | some q =>
    obtain ⟨t, want⟩ := q
    rw [hgd] at hgs
    simp only [hgd] at hf
    obtain ⟨hw1, hw2⟩ := wanted_of h.hol hgs
    rcases hf with ⟨ht, h1⟩ | ⟨ht, h1⟩
    ·rw [hw1 _ ht]
     simp only [beq_self_eq_true, if_true]
     exact .inl (run h1)
    ·have hno : Region.wanted o (yielded ops a.tmps) = false := by
      rcases ht with ht | ht
      ·rw [hw1 _ ht]; cases want <;> rfl
      ·exact hw2 ht
     rw [hno]
     simp only [Bool.false_eq_true, if_false]
     exact next g undef w h.hol (by rw [h1]; rfl)
  ·cases rest with
   | nil => simp at hin
   | cons i0 rs =>
    obtain ⟨he0, hmd0⟩ := hhd i0 rs rfl
    obtain ⟨c0, r', h1, h2, h3, h4, h5, h6, rds, rfl, h7⟩ := drawGo_cons h.dg
    by_cases hflo : fl = some i ∧ i ≠ i0
    ·-- the allocation comes
     obtain ⟨hfl, hne⟩ := hflo
     have hmd : md = none := by
      cases md with
      | none => rfl
      | some b =>
       obtain ⟨f, q1, _, q3⟩ := h.mdr rfl
       rw [hfl] at q1
       cases q1
       rw [q3] at hunf
       cases hunf
     subst hmd
     have hfc := (hfo i hfl).1
     rw [hc] at hfc
     cases hfc
     obtain ⟨t, hot, hzt⟩ := cOp_al hop
     obtain ⟨ii, zv, hi1, hi2, _, _, hrel⟩ := zeroD_spec hzt
     obtain ⟨F2, hF2, hconv⟩ := h.hol.float fs t hrel
     rw [if_pos (wanted_none hgs _)]
     refine .inl ?_
     unfold Oper.wp execOp
     simp only [hot]
     simp only [Instr.alloc, zeroValue, typeInfo, newVar, newRow, Sem.run_bind, run_program, Result.andThen_ok, hi1, hi2, Sem.run_pure]
     show wpAny P .any ops (lift F n Q) fuel (listed.setIfInBounds i true) (a.put o.dst (.pointer (some ⟨w.heap.size, 0, none⟩))) (w.alloc (.cells zv.cells t))
     rw [← hdst]
     have hput : Holds F2 n g { st with fr := frM fs n (some w.heap.size) (mixF l st.fr fr0 listed) } (a.put (some fs) (.pointer (some ⟨w.heap.size, 0, none⟩))) (w.alloc (.cells zv.cells t)) := by
      by_cases hfn : fs < n
      ·have e : frM fs n (some w.heap.size) (mixF l st.fr fr0 listed) = upd (mixF l st.fr fr0 listed) fs (.lref fs w.heap.size [] 0) := by
        show upd _ fs (if fs < n then _ else _) = _
        rw [if_pos hfn]
       rw [e]
       exact Holds.put (st := { st with fr := mixF l st.fr fr0 listed }) hF2 hfn (by simp [RelV, RelW, RelC])
      ·have e1 : a.put (some fs) (.pointer (some ⟨w.heap.size, 0, none⟩)) = a := by
        have : ¬ fs < a.tmps.size := by rw [h.hol.size]; exact hfn
        simp [Act.put, Array.setIfInBounds, this]
       rw [e1]
       refine ⟨hF2.size, hF2.defers, fun j => ?_, hF2.locs, hF2.uin, hF2.ubd, hF2.uout, hF2.keep⟩
       show RelV g.U _ (upd (mixF l st.fr fr0 listed) fs (if fs < n then _ else _) j) _
       rw [if_neg hfn, upd_apply]
       split
       ·rename_i e
        have : ¬ j < a.tmps.size := by rw [h.hol.size, e]; exact hfn
        simp [this, RelV, RelW]
       ·exact hF2.slots j
     have hmixe : frM fs n (some w.heap.size) (mixF l st.fr fr0 listed) = frM fs n (some w.heap.size) (mixF l st.fr fr0 (listed.setIfInBounds i true)) := by
      funext u
      show upd _ fs _ u = upd _ fs _ u
      rw [upd_apply, upd_apply]
      split
      ·rfl
      ·rename_i hu
       unfold mixF
       cases hq : dixO l u with
       | none => rfl
       | some k =>
        have hki : i ≠ k := fun e => by
         subst e
         obtain ⟨c2, hc2, hd2⟩ := dixO_get hq
         rw [hc] at hc2
         cases hc2
         cases hd2
         exact hu rfl
        simp only [getD_set_ne false hki]
     rw [hmixe] at hput
     refine ih done (i0 :: rs) _ st _ F2 (some w.heap.size) g _ _ ⟨h.dg, h.xd, h.perm, hsz', hcl', fun j hj hu => ?_, fun _ => ⟨i, hfl, hin, hset⟩, fun j hj he => getD_set_true (h.eff j hj he), fun j hj hu => ?_, h.frs, fun g' st' a' w' hh => ?_, hput⟩ (fun j rs' e => ?_) hcnt'
     ·by_cases hij : i = j
      ·exact ⟨rfl, hij ▸ hfl⟩
      ·rw [getD_set_ne false hij] at hu
       have := (h.rst j hj hu).1
       cases this
     ·have hij : i ≠ j := fun e => by subst e; rw [hset] at hu; cases hu
      rw [getD_set_ne false hij] at hu
      exact h.fct j hj hu
     ·obtain ⟨g2, hg2⟩ := hconv g' st' a' w' hh
      exact h.conv _ _ _ _ hg2
     ·cases e
      refine ⟨he0, .inr fun e => ?_⟩
      rw [hfl] at e
      cases e
      exact hne rfl
    have hi0 : i = i0 := by
     rcases List.mem_cons.1 hin with e | hin
     ·exact e
     ·exfalso
      rcases drawGo_reach he0 h2 (by simp) i hin with q | hrch
      ·exact hflo ⟨q, fun e => drawGo_disj h2 i hin (by simp [e])⟩
      ·have := reach_listed hcl hrch hrdy
       obtain ⟨q1, q2⟩ := h.rst i0 (by simp) this
       rcases hmd0 with q | q
       ·rw [q] at q1; cases q1
       ·exact q q2
    subst hi0
    obtain rfl : c0 = c := by rw [hc] at h1; exact (Option.some.inj h1).symm
    have hmix := hfrd c0 h5
    -- behind the operation
    have after : ∀ (g' : G) (v : Value) (w' : World) (d : D) (m' : St), Holds F1 n g' { m' with fr := frM fs n md (mixF l st.fr fr0 listed) } a w' → RelV g'.U w' d v → (putN n c0.dst d { m' with fr := st.fr } fun st2 => xd P n r' st2 fun st' => Q .normal st') →
      (∀ j ∈ done, listed.getD j false = false → effI l j = false → ∀ x ∈ rdI l j, (∀ s b p o, x.ev st = .lref s b p o → m'.lc s = st.lc s ∧ m'.gen s = st.gen s) ∧ ∀ s b, (x.ev st = .lmp s b ∨ ∃ n c, x.ev st = .lsl s b n c) → m'.lc s = st.lc s ∧ m'.gen s = st.gen s) →
      wpAny P .any ops (lift F n Q) fuel (listed.setIfInBounds i true) (a.put o.dst v) w' := fun g' v w' d m' hH' hR' hk hsame => by
     obtain ⟨hnn, hx2⟩ : (∀ s, c0.dst = some s → s < n) ∧ xd P n r' { m' with fr := updO st.fr c0.dst d } fun st' => Q .normal st' := by
      cases hcd : c0.dst with
      | none => rw [hcd] at hk; exact ⟨fun s e => (by cases e), hk⟩
      | some s => rw [hcd] at hk; exact ⟨fun s' e => (by cases e; exact hk.1), hk.2⟩
     have hdis : ∀ j ∈ rs, j ≠ i := fun j hj e => by
      subst e
      exact drawGo_disj h2 j hj (by simp)
     have hu0 : ∀ t, c0.dst ≠ some t → updO st.fr c0.dst d t = st.fr t := fun t ht => by
      cases hq : c0.dst with
      | none => rfl
      | some s =>
       show upd st.fr s d t = st.fr t
       rw [upd_apply, if_neg]
       rintro rfl
       exact ht hq
     have hho := hH'.putO (dst := c0.dst) hR' hnn
     rw [frM_updO fun hm => hfsl hm c0 i hc hunf, mix_step hd hc his] at hho
     have hD : DI P n ops l m fl fs z fr0 F (fun st' => Q .normal st') (i :: done) rs r' { m' with fr := updO st.fr c0.dst d } (listed.setIfInBounds i true) F1 md g' (a.put c0.dst v) w' := by
      refine ⟨h2, hx2, fun j hj => ?_, hsz', hcl', fun j hj hu => ?_, fun hm => ?_, fun j hj he => ?_, fun j hj hu => ?_, fun s hs => ?_, h.conv, hho⟩
      ·rcases h.perm j hj with q | q
       ·exact .inl (by simp [q])
       ·rcases List.mem_cons.1 q with rfl | q
        ·exact .inl (by simp)
        ·exact .inr q
      ·rw [getD_set_ne false (Ne.symm (hdis j hj))] at hu
       exact h.rst j (by simp [hj]) hu
      ·obtain ⟨f, x1, x2, x3⟩ := h.mdr hm
       refine ⟨f, x1, ?_, getD_set_true x3⟩
       rcases List.mem_cons.1 x2 with rfl | x2
       ·rw [x3] at hunf; cases hunf
       ·exact x2
      ·rcases List.mem_cons.1 hj with rfl | q
       ·exact hset
       ·exact getD_set_true (h.eff j q he)
      ·rcases List.mem_cons.1 hj with rfl | q
       ·rw [hset] at hu; cases hu
       have hij : i ≠ j := fun e => h3 (e ▸ q)
       rw [getD_set_ne false hij] at hu
       have hej : effI l j = false := by
        cases hq : effI l j with
        | false => rfl
        | true => rw [h.eff j q hq] at hu; cases hu
       have hnr : reachB ops.toList m i j = false := by
        cases hq : reachB ops.toList m i j with
        | false => rfl
        | true => rw [reach_listed hcl hq hrdy] at hu; cases hu
       refine (h.fct j q hu).move hd q (fun k hk => by simp [hk]) (fun k _ hn hr hm => ?_) (fun t ht => ?_) (fun c' hc' x hx' => ?_)
       ·rcases List.mem_cons.1 hm with rfl | hm
        ·rw [hnr] at hr; cases hr
        ·exact hn hm
       ·refine hu0 t fun e => ?_
        rcases ht i (distO_ix hd hc e) with q' | ⟨_, _, q'⟩
        ·exact h3 q'
        ·rw [hnr] at q'; cases q'
       ·exact hsame j q hu hej x (by simp only [rdI, hc']; exact hx')
      ·have : c0.dst ≠ some s := fun e => hs i (distO_ix hd hc e) (by simp)
       show updO st.fr c0.dst d s = _
       rw [hu0 s this]
       exact h.frs s fun k hk hkd => hs k hk (by simp [hkd])
     obtain ⟨done', rest', r2, st', F1', md', g2, k1, k2⟩ := hD.norm hd hcls hfo
     rw [← hdst]
     exact ih done' rest' r2 st' _ F1' md' g2 _ w' k1 k2 hcnt'
    have hrds : c0.op.effB = true → ∀ j ∈ done, listed.getD j false = false → effI l j = false → ∀ x ∈ rdI l j, x ∈ rds := fun heb j hj hu hej x hx => by
     refine h7 heb j hj hej ?_ (fun e he hee => ?_) x hx
     ·cases hq : reachB ops.toList m i j with
      | false => rfl
      | true => rw [reach_listed hcl hq hrdy] at hu; cases hu
     ·cases hq : reachB ops.toList m e j with
      | false => rfl
      | true =>
       have hle := h.eff e he hee
       rw [reach_listed hcl hq fun o ho => hcl e o ho hle] at hu
       cases hu
    obtain ⟨dst, op, gd⟩ := c0
    simp only at hdst hop hgs
    have hx := h.xd
    cases heb : op.effB with
    | false =>
     -- a late move
     simp only [heb] at hx
     have hqq : op.quietB = true := by
      have := List.all_eq_true.1 hcls _ (List.mem_of_getElem? hc)
      simpa [heb] using this
     have run : (xq P st (fun d => putS n dst d st fun st2 => xd P n r' st2 fun st' => Q .normal st') op) → (∀ t ∈ opdS op.sl, frM fs n md (mixF l st.fr fr0 listed) t = st.fr t) → o.wp P a w (wpAny P .any ops (lift F n Q) fuel (listed.setIfInBounds i true)) (lift F n Q) := fun hxq hmx => by
      obtain ⟨d, hk, hf⟩ := xq_val hxq
      rw [putS_eq] at hk
      have hf' := xf1_fr (f1 := st.fr) (f2 := frM fs n md (mixF l st.fr fr0 listed)) (st := st) (opdS_ev (st := st) hmx) hf
      exact quiet_run h.hol o hop hf' fun v g' w' hH' hR' => after g' v w' d st hH' hR' hk fun j _ _ _ x _ => ⟨fun _ _ _ _ _ => ⟨rfl, rfl⟩, fun _ _ _ => ⟨rfl, rfl⟩⟩
     cases gd with
     | none =>
      simp only [xd] at hx
      rw [if_pos (wanted_none hgs _)]
      exact .inl (run hx fun t ht => hmix t (by simpa [COp.slots] using ht))
     | some q =>
      obtain ⟨t, want⟩ := q
      simp only [xd] at hx
      obtain ⟨hw1, hw2⟩ := wanted_of h.hol hgs
      have ht0 : frM fs n md (mixF l st.fr fr0 listed) t = st.fr t := hmix t (by simp [COp.slots])
      have hmx : ∀ t' ∈ opdS op.sl, frM fs n md (mixF l st.fr fr0 listed) t' = st.fr t' := fun t' ht' => hmix t' (by simp [COp.slots, ht'])
      have no : (putN n dst .undef st fun st2 => xd P n r' st2 fun st' => Q .normal st') → wpAny P .any ops (lift F n Q) fuel (listed.setIfInBounds i true) (a.put o.dst undef) w := fun hp =>
       after g undef w .undef st h.hol rfl hp fun j _ _ _ x _ => ⟨fun _ _ _ _ _ => ⟨rfl, rfl⟩, fun _ _ _ => ⟨rfl, rfl⟩⟩
      cases ht : st.fr t
      case bool b =>
       rw [ht] at hx
       rw [hw1 b (ht0.trans ht)]
       cases b <;> cases want <;> simp only [xguard] at hx
       ·exact .inl (run (hx.no rfl) hmx)
       ·exact no (hx.no rfl)
       ·exact no (hx.yes rfl)
       ·exact .inl (run (hx.yes rfl) hmx)
      case undef =>
       rw [ht] at hx
       rw [hw2 (ht0.trans ht)]
       exact no hx
      all_goals (rw [ht] at hx; simp [xguard] at hx)
    | true =>
    simp only [heb] at hx
    have run : ∀ ks, (∀ x ∈ rds, (∀ s b p o, x.ev st = .lref s b p o → s ∈ ks) ∧ ∀ s b, (x.ev st = .lmp s b ∨ ∃ n c, x.ev st = .lsl s b n c) → s ∈ ks) → xo P dst st (fun d st' => sameN st st' ks ∧ putS n dst d st' fun st2 => xd P n r' st2 fun st' => Q .normal st') op →
      (∀ t ∈ opdS op.sl, frM fs n md (mixF l st.fr fr0 listed) t = st.fr t) → o.wp P a w (wpAny P .any ops (lift F n Q) fuel (listed.setIfInBounds i true)) (lift F n Q) := fun ks hks hxo hmx => by
     have hfr' := xo_fr (f := frM fs n md (mixF l st.fr fr0 listed)) heb (opdS_ev (st := st) (f1 := st.fr) hmx) hxo
     refine xop_sound h.hol o (xo_bad hop (hdst ▸ hfr')) fun d v st' g' w' hK hH' hR' => ?_
     obtain ⟨m', rfl, hs, hk⟩ := hK
     rw [putS_eq] at hk
     have hk' : putN n dst d { m' with fr := st.fr } fun st2 => xd P n r' st2 fun st' => Q .normal st' := by rw [hdst]; exact hk
     refine after g' v w' d m' hH' hR' hk' fun j hj hu hej x hx' => ?_
     have hxr := hrds heb j hj hu hej x hx'
     exact ⟨fun s b p o e => by have := sameN_get hs ((hks x hxr).1 s b p o e); exact this, fun s b e => by have := sameN_get hs ((hks x hxr).2 s b e); exact this⟩
    cases gd with
    | none =>
     simp only [xd] at hx
     obtain ⟨ks, hxo, hks⟩ := rdN_spec hx
     rw [if_pos (wanted_none hgs _)]
     exact .inl (run ks hks hxo fun t ht => hmix t (by simpa [COp.slots] using ht))
    | some q =>
     obtain ⟨t, want⟩ := q
     simp only [xd] at hx
     obtain ⟨ks, hxo, hks⟩ := rdN_spec hx
     obtain ⟨hw1, hw2⟩ := wanted_of h.hol hgs
     have ht0 : frM fs n md (mixF l st.fr fr0 listed) t = st.fr t := hmix t (by simp [COp.slots])
     have hmx : ∀ t' ∈ opdS op.sl, frM fs n md (mixF l st.fr fr0 listed) t' = st.fr t' := fun t' ht' => hmix t' (by simp [COp.slots, ht'])
     have no : (putN n dst .undef st fun st2 => xd P n r' st2 fun st' => Q .normal st') → wpAny P .any ops (lift F n Q) fuel (listed.setIfInBounds i true) (a.put o.dst undef) w := fun hp =>
      after g undef w .undef st h.hol rfl hp fun j _ _ _ x _ => ⟨fun _ _ _ _ _ => ⟨rfl, rfl⟩, fun _ _ _ => ⟨rfl, rfl⟩⟩
     cases ht : st.fr t
     case bool b =>
      rw [ht] at hxo
      rw [hw1 b (ht0.trans ht)]
      cases b <;> cases want <;> simp only [xguard] at hxo
      ·exact .inl (run ks hks (hxo.no rfl) hmx)
      ·exact no (hxo.no rfl)
      ·exact no (hxo.yes rfl)
      ·exact .inl (run ks hks (hxo.yes rfl) hmx)
     case undef =>
      rw [ht] at hxo
      rw [hw2 (ht0.trans ht)]
      exact no hxo
     all_goals (rw [ht] at hxo; simp [xguard] at hxo)
theorem flOk_spec {ops : Array Oper} {l : List COp} {fl : Option Nat} (h : flOk ops.toList l fl = true) : ∃ fs z, FlOk ops l fl fs z := by
 cases fl with
 | none => exact ⟨0, .undef, fun f e => by cases e⟩
 | some f =>
  simp only [flOk] at h
  split at h
  ·rename_i s z o h1 h2
   refine ⟨s, z, fun f' e => ?_⟩
   cases e
   refine ⟨h1, fun o' ho' e he => ?_⟩
   rw [h2] at ho'
   cases ho'
   have := Array.all_eq_true'.1 h e he
   simpa using this
  ·cases h
theorem region_drawF (hm : P.follows .mixedOrders = true) {id : Nat} {ops : Array Oper} {l : List COp} {fl : Option Nat} {r : List (COp × Bool × List Opd)} {Q : Post} (hl : cOpers P ops ops.toList = some l) (hdr : drawF ops l fl = some r) (h : xd P n r st fun st' => Q .normal st') : Sem P n (.region id ops true) st Q := fun F g a w hH => by
 unfold drawF at hdr
 simp only at hdr
 split at hdr
 ·rename_i hq
  simp only [Bool.and_eq_true] at hq
  obtain ⟨⟨⟨⟨hd, hback⟩, hall⟩, hcls⟩, hflo⟩ := hq
  obtain ⟨fs, z, hfo⟩ := flOk_spec hflo
  have hlen : l.length = ops.size := by
   have key : ∀ {os : List Oper} {l : List COp}, cOpers P ops os = some l → l.length = os.length := fun {os} => by
    induction os with
    | nil => intro l h; simp [cOpers] at h; subst h; rfl
    | cons o os ih =>
     intro l h
     simp only [cOpers] at h
     split at h
     ·rename_i c l' h1 h2
      simp only [Option.some.injEq] at h
      subst h
      simp [ih h2]
     ·cases h
   simpa using key hl
  refine wp_region_any hm ?_
  have hb : Below w.heap.size w { w with drawn := w.drawn + 1 } := (Below.refl _ _).drew
  have hrep : ∀ j, (Array.replicate ops.size false).getD j false = false := fun j => by
   rcases Nat.lt_or_ge j ops.size with h | h <;> simp [h]
  have hD : DI P n ops l l.length fl fs z st.fr F (fun st' => Q .normal st') [] (schedGo ops.toList l l.length l.length (List.range l.length)) r st (Array.replicate ops.size false) F none g a { w with drawn := w.drawn + 1 } := by
   refine ⟨hdr, h, fun j hj => .inr (elemN_mem (List.all_eq_true.1 hall j (List.mem_range.2 (by omega)))), by simp, fun j o _ hj => (by rw [hrep] at hj; cases hj), fun j _ hj => (by rw [hrep] at hj; cases hj), fun hm => (by cases hm), fun j hj => (by simp at hj), fun j hj => (by simp at hj), fun _ _ => rfl, fun g' st' a' w' hh => ⟨g', hh⟩, ?_⟩
   have e : mixF l st.fr st.fr (Array.replicate ops.size false) = st.fr := by
    funext s
    unfold mixF
    cases hq : dixO l s with
    | none => rfl
    | some k => simp only [hrep]; rfl
   show Holds F n g { st with fr := mixF l st.fr st.fr (Array.replicate ops.size false) } a _
   rw [e]
   exact hH.below hb
  obtain ⟨done', rest', r2, st', F1', md', g2, k1, k2⟩ := hD.norm hd hcls hfo
  refine drawn_sound hl hd hcls hback hfo _ done' rest' r2 st' _ F1' md' g2 a _ k1 k2 ?_
  rw [List.countP_eq_length.2]
  ·simp
  ·intro j hj
   have := List.mem_range.1 hj
   simp [this]
 ·cases hdr
theorem region_drawn (hm : P.follows .mixedOrders = true) {id : Nat} {ops : Array Oper} {l : List COp} {r : List (COp × Bool × List Opd)} {Q : Post} (hl : cOpers P ops ops.toList = some l) (hdr : drawOf ops l = some r) (h : xd P n r st fun st' => Q .normal st') : Sem P n (.region id ops true) st Q := by
 unfold drawOf at hdr
 split at hdr
 ·rename_i r' hr
  simp only [Option.some.injEq] at hdr
  subst hdr
  exact region_drawF hm hl hr h
 ·split at hdr
  ·exact region_drawF hm hl hdr h
  ·cases hdr
theorem Sem.mono {c : Code} {Q Q' : Post} (hq : ∀ e st, Q e st → Q' e st) (h : Sem P n c st Q) : Sem P n c st Q' := fun F g a w hH =>
 wp_mono (h F g a w hH) fun e a' w' hl => by
  cases e with
  | normal => obtain ⟨g', st', h1, h2⟩ := hl; exact ⟨g', st', h1, hq _ _ h2⟩
  | exit id => obtain ⟨g', st', h1, h2⟩ := hl; exact ⟨g', st', h1, hq _ _ h2⟩
  | ret => obtain ⟨g', st', h1, h2⟩ := hl; exact ⟨g', st', h1, hq _ _ h2⟩
  | goto l => exact hl.elim
  | panic c => exact hl.elim
  | outgrown => exact hl.elim
theorem xw_sound (hm : P.follows .mixedOrders = true) {nq : List Nat} : ∀ (c : Code) {cc : CC} {st : St} {Q : Post}, compile P nq c = some cc → xw P n cc st Q → Sem P n c st Q
 | .skip, cc, st, Q, hc, h => fun F g a w hH => by simp only [compile, Option.some.injEq] at hc; subst hc; exact wp_skip ⟨g, st, hH, h⟩
 | .region id ops false, cc, st, Q, hc, h => fun F g a w hH => by
  simp only [compile, Option.map_eq_some_iff] at hc
  obtain ⟨l, hl, rfl⟩ := hc
  exact wp_region_list (xops_sound ops.toList hH (xos_sound hl h))
 | .region id ops true, cc, st, Q, hc, h => by
  simp only [compile] at hc
  split at hc
  ·rename_i l hl
   split at hc
   ·rename_i hb
    simp only [Option.some.injEq] at hc
    subst hc
    simp only [Bool.and_eq_true] at hb
    exact region_any hm hl hb.1.1 h
   ·split at hc
    ·split at hc
     ·rename_i r hdr
      simp only [Option.some.injEq] at hc
      subst hc
      exact region_drawn hm hl hdr h
     ·simp only [Option.some.injEq] at hc
      subst hc
      exact h.sem hm Q (fun _ h => h)
    ·split at hc
     ·rename_i lq s z sz v hdl
      split at hc
      ·simp only [Option.some.injEq] at hc
       subst hc
       exact region_decl hm hl hdl h
      ·simp only [Option.some.injEq] at hc
       subst hc
       exact h.sem hm Q (fun _ h => h)
     ·split at hc
      ·rename_i r hdr
       split at hc
       ·simp only [Option.some.injEq] at hc
        subst hc
        exact region_drawn hm hl hdr h
       ·simp only [Option.some.injEq] at hc
        subst hc
        exact h.sem hm Q (fun _ h => h)
      ·simp only [Option.some.injEq] at hc
       subst hc
       exact h.sem hm Q (fun _ h => h)
  ·simp only [Option.some.injEq] at hc
   subst hc
   exact h.sem hm Q (fun _ h => h)
 | .seq x y, cc, st, Q, hc, h => fun F g a w hH => by
  simp only [compile] at hc
  split at hc
  ·rename_i p q h1 h2
   simp only [Option.some.injEq] at hc
   subst hc
   refine wp_seq (wp_mono (xw_sound hm x h1 h F g a w hH) fun e a' w' hq => ?_)
   cases e with
   | normal =>
    obtain ⟨g', st', hH', hx⟩ := hq
    exact hx.sem hm nq y h2 F g' a' w' hH'
   | exit id => exact hq
   | ret => exact hq
   | goto l => exact hq
   | panic c => exact hq
   | outgrown => exact hq
  ·cases hc
 | .cond c x y, cc, st, Q, hc, h => fun F g a w hH => by
  simp only [compile] at hc
  split at hc
  ·rename_i p q h1 h2
   simp only [Option.some.injEq] at hc
   subst hc
   simp only [xw, cOpd_ev] at h
   have hc := hH.ev c
   cases hd : st.ev c
   case bool b =>
    rw [hd] at h hc
    have hv : a.eval c = .bool b := by simpa [RelV, RelW, RelC] using hc
    cases b
    ·exact wp_cond_false hv (xw_sound hm y h2 (h.no rfl) F g a w hH)
    ·exact wp_cond_true hv (xw_sound hm x h1 (h.yes rfl) F g a w hH)
   all_goals (rw [hd] at h; exact h.elim)
  ·cases hc
 | .block id c, cc, st, Q, hc, h => fun F g a w hH => by
  simp only [compile, Option.map_eq_some_iff] at hc
  obtain ⟨l, hl, rfl⟩ := hc
  refine wp_block (wp_mono (xw_sound hm c hl h F g a w hH) fun e a' w' hq => ?_)
  cases e with
  | normal => exact hq
  | exit i =>
   obtain ⟨g', st', hH', hx⟩ := hq
   simp only [Exit.inBlock]
   by_cases hi : i = id
   ·simp only [hi, if_true] at hx ⊢
    exact ⟨g', st', hH', hx⟩
   ·simp only [hi, if_false] at hx ⊢
    exact ⟨g', st', hH', hx⟩
  | ret => exact hq
  | goto l => exact hq
  | panic c => exact hq
  | outgrown => exact hq
 | .loop c, cc, st, Q, hc, h => by
  simp only [compile, Option.map_eq_some_iff] at hc
  obtain ⟨l, hl, rfl⟩ := hc
  exact h.sem hm nq c hl
 | .exit id, cc, st, Q, hc, h => fun F g a w hH => by simp only [compile, Option.some.injEq] at hc; subst hc; exact wp_exit ⟨g, st, hH, h⟩
 | .ret, cc, st, Q, hc, h => fun F g a w hH => by simp only [compile, Option.some.injEq] at hc; subst hc; exact wp_ret ⟨g, st, hH, h⟩
 | .rangeFunc .., _, _, _, hc, _ | .scope _, _, _, _, hc, _ | .label _, _, _, _, hc, _ | .goto _, _, _, _, hc, _ | .refuse _, _, _, _, hc, _ => by simp [compile] at hc
theorem XS.go {cc : CC} {Q : Post} (h : xw P n cc st Q) : XS P n cc st Q := ⟨fun hm nq c hc => xw_sound hm c hc h⟩
theorem XS.ghost {cc : CC} {st' : St} {Q : Post} (hg : ∀ F g a w, Holds F n g st a w → ∃ g', Holds F n g' st' a w) (h : XS P n cc st' Q) : XS P n cc st Q :=
 ⟨fun hm nq c hc F g a w hH => by
  obtain ⟨g', hH'⟩ := hg F g a w hH
  exact h.sem hm nq c hc F g' a w hH'⟩
/-- A local box is from now on only read. -/
theorem XS.freezeB {cc : CC} {Q : Post} (s : Nat) {c : D} (hl : st.lc s = some c) (h : XS P n cc { st with fr := upd st.fr s (.cref c), lc := upd st.lc s none } Q) (hmp : c.mpB = false := by rfl) (hfr : st.fr s = .lref s (st.gen s) [] 0 := by rfl) (hz : c.froz = c := by rfl) : XS P n cc st Q :=
 h.ghost fun _ _ _ _ hH => hH.freeze hl _ _ (fun i => by
  simp only [upd_apply]
  split
  ·rename_i e
   subst e
   refine .inr ?_
   rw [hfr]
   exact ⟨rfl, hmp, c, by cases c <;> rfl, by rw [hz]⟩
  ·exact .inl rfl) (fun k d hk hd => by
  rw [upd_apply, if_neg hk] at hd
  exact .inl hd) (by rw [upd_apply, if_pos rfl])
def isHdr (b m : Nat) : D → Prop
 | .lsl _ b' n _ => b' = b ∧ n = m
 | _ => False
def hdrs (st : St) (b m : Nat) : List Nat → Prop
 | [] => True
 | i :: L => isHdr b m (st.fr i) ∧ hdrs st b m L
theorem hdrs_get {b m : Nat} : ∀ {L : List Nat} {i : Nat}, hdrs st b m L → elemN i L = true → isHdr b m (st.fr i)
 | [], i, _, h => by simp [elemN] at h
 | j :: L, i, h, he => by
  simp only [elemN, Bool.or_eq_true, beq_iff_eq] at he
  rcases he with rfl | he
  ·exact h.1
  ·exact hdrs_get h.2 he
/-- Fewer elements are kept in mind. -/
theorem LocO.cut {U : Nat → Prop} {w : World} {b es cp : Nat} {ds : List D} {F : List Nat} (m : Nat) (h : LocO U w b (.arr es ds cp) F) : ∃ F', F'.Sublist F ∧ LocO U w b (.arr es (ds.take m) cp) F' := by
 rcases h with ⟨h1, rfl, rfl⟩ | ⟨cells, e, G, h1, h2, h3, h4, h5, rfl⟩
 ·exact ⟨[], List.Sublist.refl _, .inl ⟨h1, by simp, rfl⟩⟩
 ·obtain ⟨G', q1, q2⟩ := h5.take m
  refine ⟨b :: G', q1.cons_cons _, .inr ⟨cells, e, G', h1, h2, h3, by simp; omega, ?_, rfl⟩⟩
  rw [List.take_take] at q2
  have hm : min ((ds.take m).length * es) (ds.length * es) = (ds.take m).length * es := Nat.min_eq_left (Nat.mul_le_mul_right _ (by simp; omega))
  rw [hm] at q2
  exact q2
theorem XS.cut {cc : CC} {Q : Post} (s m : Nat) {es cp : Nat} {ds ds' : List D} (hl : st.lc s = some (.arr es ds cp)) (hd : ds.take m = ds') (h : XS P n cc { st with lc := upd st.lc s (some (.arr es ds' cp)) } Q) : XS P n cc st Q :=
 h.ghost fun F g a w hH => by
  subst hd
  refine ⟨g, hH.size, hH.defers, hH.slots, fun k d hk => ?_, hH.uin, hH.ubd, hH.uout, hH.keep⟩
  have hk' : upd st.lc s (some (.arr es (ds.take m) cp)) k = some d := hk
  simp only [upd_apply] at hk'
  split at hk'
  ·rename_i e
   subst e
   simp only [Option.some.injEq] at hk'
   subst hk'
   obtain ⟨Fs, hO⟩ := hH.locs k _ hl
   obtain ⟨F', q1, q2⟩ := hO.loc.cut m
   exact ⟨F', q2, hO.nd.sublist q1, fun x hx => hO.own x (q1.subset hx), fun x hx => hO.nu x (q1.subset hx), fun x hx => hO.lo x (q1.subset hx)⟩
  ·exact hH.locs k d hk'
/-- A slice that is nil is an owned row without room. -/
theorem XS.own {cc : CC} {Q : Post} (i s es : Nat) (hi : st.fr i = .nil) (h : ∀ b, XS P n cc { st with fr := upd st.fr i (.lsl s b 0 0), gen := upd st.gen s b, lc := upd st.lc s (some (.arr es [] 0)) } Q) : XS P n cc st Q :=
 (h 0).ghost fun F g a w hH => by
  refine ⟨g, hH.size, hH.defers, fun j => ?_, fun k d hk => ?_, hH.uin, hH.ubd, hH.uout, hH.keep⟩
  ·show RelV g.U w (upd st.fr i (.lsl s 0 0 0) j) _
   rw [upd_apply]
   split
   ·rename_i e
    subst e
    have := hH.slots j
    rw [hi] at this
    obtain ⟨a0, hv⟩ : ∃ a0, a.tmps.getD j undef = .slice a0 0 0 := by simpa [RelV, RelW, RelC] using this
    rw [hv]
    simp [RelV, RelW, RelC]
   ·exact hH.slots j
  ·have hk' : upd st.lc s (some (.arr es [] 0)) k = some d := hk
   simp only [upd_apply] at hk'
   split at hk'
   ·rename_i e
    subst e
    simp only [Option.some.injEq] at hk'
    subst hk'
    exact ⟨[], .inl ⟨rfl, rfl, rfl⟩, List.nodup_nil, by simp, by simp, by simp⟩
   ·rename_i e
    obtain ⟨Fs, hO⟩ := hH.locs k d hk'
    refine ⟨Fs, ?_, hO.nd, hO.own, hO.nu, hO.lo⟩
    show LocO g.U w (upd st.gen s 0 k) d Fs
    rw [upd_apply, if_neg e]
    exact hO.loc
/-- The results of compiled code. -/
inductive CR where
 | t (i : Nat)
 | c (i sz : Nat) (ag : Bool)
def cRes (P : Program) : List ResultVar → Option (List CR)
 | [] => some []
 | .tmp t :: rs => (cRes P rs).map (.t t :: ·)
 | .cell t ty :: rs => match varOf P ty, cRes P rs with
  | some (sz, ag), some l => some (.c t sz ag :: l)
  | _, _ => none
def xr (st : St) : List CR → (List D → Prop) → Prop
 | [], K => K []
 | .t i :: rs, K => (st.fr i).noL = true ∧ xr st rs fun ds => K (st.fr i :: ds)
 | .c i sz ag :: rs, K => xload st sz ag (st.fr i) fun d => d.noL = true ∧ xr st rs fun ds => K (d :: ds)
theorem xload_mono {sz : Nat} {ag : Bool} {x : D} {K K' : D → Prop} (hk : ∀ d, K d → K' d) (h : xload st sz ag x K) : xload st sz ag x K' := by
 have := xp_mono (st := st) (x := .ld sz ag (.k x)) hk h
 exact this
theorem xr_mono : ∀ {l : List CR} {K K' : List D → Prop}, (∀ ds, K ds → K' ds) → xr st l K → xr st l K'
 | [], K, K', hk, h => hk _ h
 | .t i :: rs, K, K', hk, h => ⟨h.1, xr_mono (fun ds => hk _) h.2⟩
 | .c i sz ag :: rs, K, K', hk, h => xload_mono (fun d q => ⟨q.1, xr_mono (fun ds => hk _) q.2⟩) h
theorem xr_sound : ∀ {rs : List ResultVar} {l : List CR} {K : List D → Prop}, cRes P rs = some l → xr st l K → xres P st rs K
 | [], l, K, hc, h => by simp only [cRes, Option.some.injEq] at hc; subst hc; exact h
 | .tmp t :: rs, l, K, hc, h => by
  simp only [cRes, Option.map_eq_some_iff] at hc
  obtain ⟨l', hl, rfl⟩ := hc
  exact ⟨h.1, xr_sound hl h.2⟩
 | .cell t ty :: rs, l, K, hc, h => by
  simp only [cRes] at hc
  split at hc
  ·rename_i sz ag l' h1 h2
   simp only [Option.some.injEq] at hc
   subst hc
   simp only [xres, h1]
   exact xload_mono (fun d hd => ⟨hd.1, xr_sound h2 hd.2⟩) h
  ·cases hc
/-- A whole function, compiled. -/
structure CF where
 n : Nat
 res : List CR
 code : CC
def compileF (P : Program) (nq : List Nat) (f : FuncId) : Option CF :=
 match P.funcs[f]? with
 | some fn => match fn.body with
  | some c => if fn.name == "runtime.NumGoroutine" then none else
   match compile P nq c, cRes P fn.results.toList with
   | some cc, some rs => some ⟨fn.ntmps, rs, cc⟩
   | _, _ => none
  | none => none
 | none => none
def xouts (st : St) : List Nat → (List Loan → Prop) → Prop
 | [], K => K []
 | s :: ss, K => match st.lc s with
  | some d => xouts st ss fun ls => K ((s, st.gen s, d) :: ls)
  | none => False
def nodupN : List Nat → Bool
 | [] => true
 | s :: ss => ss.all (fun t => !Nat.beq t s) && nodupN ss
theorem xouts_spec : ∀ {out : List Nat} {K : List Loan → Prop}, nodupN out = true → xouts st out K → ∃ ls, LoanOk st ls ∧ ls.map (·.1) = out ∧ K ls
 | [], K, _, h => ⟨[], trivial, rfl, h⟩
 | s :: ss, K, hn, h => by
  simp only [nodupN, Bool.and_eq_true] at hn
  simp only [xouts] at h
  split at h
  ·rename_i d hd
   obtain ⟨ls, h1, h2, h3⟩ := xouts_spec hn.2 h
   refine ⟨(s, st.gen s, d) :: ls, ⟨hd, rfl, ?_, h1⟩, by simp [h2], h3⟩
   refine List.all_eq_true.2 fun m hm => ?_
   have : m.1 ∈ ss := by rw [← h2]; exact List.mem_map.2 ⟨m, hm, rfl⟩
   exact List.all_eq_true.1 hn.1 _ this
  ·exact h.elim
def xend (st : St) (rs : List CR) (out : List Nat) (K : D → List Loan → Prop) : Prop := xr st rs fun ds => xouts st out fun ls => K (mkRes ds) ls
theorem XC.intro' (hm : P.follows .mixedOrders = true) {nq : List Nat} {f : FuncId} {cf : CF} {ds : List D} {ls : List Loan} {K : D → List Loan → Prop} (out : List Nat) (ho : nodupN out = true)
  (hc : compileF P nq f = some cf) (hl : ds.length ≤ cf.n)
  (h : xw P cf.n cf.code (St.entry ds ls) fun e st' => match e with
   | .exit _ => False
   | _ => xend st' cf.res out K) : XC P f ds ls K := by
 unfold compileF at hc
 split at hc
 ·rename_i fn hf
  split at hc
  ·rename_i c hb
   split at hc
   ·cases hc
   ·rename_i hnm
    split at hc
    ·rename_i cc rs h1 h2
     simp only [Option.some.injEq] at hc
     subst hc
     refine XC.intro (n := fn.ntmps) hf hb ?_ rfl hl ?_
     ·unfold callable
      rw [hf]
      simp only [hb, Option.isSome_some, Bool.true_and]
      simpa using hnm
     ·refine Sem.mono ?_ (xw_sound hm c h1 h)
      intro e st' hq
      have fin : ∀ {K' : List D → Prop}, xr st' rs (fun ds => xouts st' out fun ls => K (mkRes ds) ls) → xres P st' fn.results.toList fun ds => xout st' fun ls => K (mkRes ds) ls := fun {_} hx => by
       refine xr_sound h2 ?_
       refine xr_mono (fun ds q => ?_) hx
       obtain ⟨ls, q1, _, q2⟩ := xouts_spec ho q
       exact ⟨ls, q1, q2⟩
      cases e with
      | normal => exact fin (K' := fun _ => True) hq
      | ret => exact fin (K' := fun _ => True) hq
      | exit id => exact hq
    ·cases hc
  ·cases hc
 ·cases hc
theorem Rdr.intro' (hm : P.follows .mixedOrders = true) {nq : List Nat} {f : FuncId} {cf : CF} {ds : List D} {d : D}
  (hc : compileF P nq f = some cf) (hl : ds.length ≤ cf.n)
  (h : xw P cf.n cf.code (St.entry ds []) fun e st' => match e with
   | .exit _ => False
   | _ => xend st' cf.res [] fun d' _ => d' = d) : Rdr P f ds d := .of_XC (.intro' hm [] rfl hc hl h)
end
end Go.Ab
