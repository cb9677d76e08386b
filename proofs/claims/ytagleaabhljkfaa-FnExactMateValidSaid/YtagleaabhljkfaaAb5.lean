/- The code with the tables' answers in it, and what it comes to. -/
import Derived.Test.YtagleaabhljkfaaAb4
set_option linter.unusedSimpArgs false
set_option linter.unusedVariables false
namespace Go.Ab
open Go Go.RowKit

/-! ### Lean code: operations with the tables' answers in them -/
inductive Opd where
  | t (i : Nat)
  | k (d : D)
def Opd.ev (st : St) : Opd → D
  | .t i => st.fr i
  | .k d => d
inductive XOp where
  | mv (x : Opd)
  | pick (c a b : Opd)
  | nilc (x : Opd)
  | bin (op : BinOp) (x y : Opd)
  | binb (neg : Bool) (x y : Opd)
  | ptb (neg : Bool) (x y : Opd)
  | not (x : Opd)
  | neg (x : Opd)
  | cvi (k : IntKind) (x : Opd)
  | cvs (x : Opd)
  | fa (off sz f : Nat) (x : Opd)
  | fld (off sz : Nat) (ag : Bool) (f : Nat) (x : Opd)
  | ix (es : Nat) (x i : Opd)
  | sx (x i : Opd)
  | ld (sz : Nat) (ag : Bool) (x : Opd)
  | st (sz : Nat) (p x : Opd)
  | ext (x : Opd) (i : Nat)
  | lens (x : Opd)
  | lenl (x : Opd)
  | al (z : D)
  | bx (x : Opd)
  | mk (z : D) (bytes : Nat) (l c : Opd)
  | call (f : Nat) (xs : List Opd)
  | callv (f : Opd) (xs : List Opd)
  | mm
  | fnm (f : Nat) (xs : List Opd)
  | lk (x i : Opd)
  | mu (m k x : Opd)
structure COp where
  dst : Option Nat
  op : XOp
  gd : Option (Nat × Bool)
inductive CC where
  | skip
  | ops (l : List COp)
  | quiet (l : List COp)
  | draw (id : Nat) (ops : Array Oper)
  | decl (l : List COp) (s : Nat) (z : D) (sz : Nat) (v : Opd)
  | seq (a b : CC)
  | cond (c : Opd) (a b : CC)
  | block (id : Nat) (c : CC)
  | loop (c : CC)
  | exit (id : Nat)
  | ret

def cOpd : Operand → Opd
  | .tmp t => .t t
  | .const v => .k (ofConst v)
  | .global _ => .k .any
  | .func f => .k (.fn f [])
def cOp (P : Program) : Op → Option XOp
  | .move x | .assign x => some (.mv (cOpd x))
  | .pick c a b => some (.pick (cOpd c) (cOpd a) (cOpd b))
  | .nilCheck x => some (.nilc (cOpd x))
  | .binOp op t x y _ => match P.underlying t with
    | some .bool => match op with
      | .eql => some (.binb false (cOpd x) (cOpd y))
      | .neq => some (.binb true (cOpd x) (cOpd y))
      | _ => none
    | some (.pointer _) => match op with
      | .eql => some (.ptb false (cOpd x) (cOpd y))
      | .neq => some (.ptb true (cOpd x) (cOpd y))
      | _ => none
    | _ => some (.bin op (cOpd x) (cOpd y))
  | .unOp op _ x => match op with
    | .not => some (.not (cOpd x))
    | .neg => some (.neg (cOpd x))
    | _ => none
  | .convert s d x => match P.underlying s, P.underlying d with
    | some _, some (.int k) => some (.cvi k (cOpd x))
    | some .string, some .string => some (.cvs (cOpd x))
    | _, _ => none
  | .fieldAddr t x f => match fldOf P t f with
    | some (off, sz, _) => if sz = 0 then none else some (.fa off sz f (cOpd x))
    | none => none
  | .field t x f => match fldOf P t f with
    | some (off, sz, ag) => some (.fld off sz ag f (cOpd x))
    | none => none
  | .indexAddr t x i => match eltOf P t with
    | some es => some (.ix es (cOpd x) (cOpd i))
    | none => none
  | .index t x i => match P.underlying t with
    | some .string => some (.sx (cOpd x) (cOpd i))
    | _ => none
  | .load t x => match varOf P t with
    | some (sz, ag) => some (.ld sz ag (cOpd x))
    | none => none
  | .store t p x => match varOf P t with
    | some (sz, _) => some (.st sz (cOpd p) (cOpd x))
    | none => none
  | .extract x i => some (.ext (cOpd x) i)
  | .alloc t => match zeroD P t with
    | some z => some (.al z)
    | none => none
  | .box _ x => some (.bx (cOpd x))
  | .makeSlice t l c => match mkOf P t with
    | some (z, bytes) => some (.mk z bytes (cOpd l) (cOpd c))
    | none => none
  | .makeMap _ r => match r with
    | none => some .mm
    | some _ => none
  | .makeFunc fn first caps => match fn with
    | .func f => if first.isEmpty then some (.fnm f (caps.toList.map cOpd)) else none
    | _ => none
  | .lookup t x i ok => if !ok && mapStrB P t then some (.lk (cOpd x) (cOpd i)) else none
  | .mapUpdate t m k x => if mapStrB P t then some (.mu (cOpd m) (cOpd k) (cOpd x)) else none
  | .build t parts => match zeroD P t with
    | some z => if parts.isEmpty && builtB P t && z.isAgg then some (.mv (.k z)) else none
    | none => none
  | .call c => match c.callee with
    | .value (.func f) => some (.call f (c.args.toList.map cOpd))
    | .value f => some (.callv (cOpd f) (c.args.toList.map cOpd))
    | .builtin .len => match c.args[0]?, c.argTypes[0]?.bind P.underlying with
      | some x, some .string => some (.lens (cOpd x))
      | some x, some (.slice _) => some (.lenl (cOpd x))
      | _, _ => none
    | _ => none
  | _ => none
def cOper (P : Program) (ops : Array Oper) (o : Oper) : Option COp :=
  match cOp P o.op, gslot ops o with
  | some x, none => some ⟨o.dst, x, none⟩
  | some x, some (some t, want) => some ⟨o.dst, x, some (t, want)⟩
  | _, _ => none
def cOpers (P : Program) (ops : Array Oper) : List Oper → Option (List COp)
  | [] => some []
  | o :: os => match cOper P ops o, cOpers P ops os with
    | some x, some l => some (x :: l)
    | _, _ => none
def XOp.quietB : XOp → Bool
  | .al _ | .bx _ | .mk .. | .st .. | .callv .. | .mm | .mu .. => false
  | _ => true
def XOp.sl : XOp → List Opd
  | .mv x | .nilc x | .not x | .neg x | .cvi _ x | .cvs x | .fa _ _ _ x | .fld _ _ _ _ x | .ld _ _ x | .ext x _ | .lens x | .lenl x => [x]
  | .bin _ x y | .binb _ x y | .ptb _ x y | .ix _ x y | .sx x y | .lk x y => [x, y]
  | .pick c a b => [c, a, b]
  | .call _ xs => xs
  | .fnm _ xs => xs
  | _ => []
def opdS : List Opd → List Nat
  | [] => []
  | .t i :: xs => i :: opdS xs
  | .k _ :: xs => opdS xs
def COp.slots (c : COp) : List Nat := match c.gd with
  | some (t, _) => t :: opdS c.op.sl
  | none => opdS c.op.sl
def dix : List COp → Nat → Option Nat
  | [], _ => none
  | c :: l, s => if c.dst = some s then some 0 else (dix l s).map (· + 1)
def distB : List COp → Bool
  | [] => true
  | c :: l => match c.dst with
    | some s => (dix l s).isNone && distB l
    | none => false
def waitB (o : Oper) (j : Nat) : Bool := o.after.any fun e => Region.binds .any e && e.on == j
def depAt (l : List COp) (i : Nat) (c : COp) (o : Oper) : Bool :=
  (c.slots.all fun s => match dix l s with
    | none => true
    | some j => decide (j < i) && waitB o j) && o.after.all fun e => !Region.binds .any e || decide (e.on < i)
def depGo (l : List COp) : Nat → List COp → List Oper → Bool
  | _, [], [] => true
  | i, c :: cs, o :: os => depAt l i c o && depGo l (i + 1) cs os
  | _, _, _ => false
/-- Each operation waits for those whose values it looks at. -/
def depB (ops : Array Oper) (l : List COp) : Bool := distB l && depGo l 0 l ops.toList
/-! ### Regions that draw their order and lay one new variable -/
def XOp.alB : XOp → Bool
  | .al _ => true
  | _ => false
def elemN (s : Nat) : List Nat → Bool
  | [] => false
  | t :: l => t == s || elemN s l
def sinkGo (os : List Oper) (N : Nat) : Nat → Bool
  | 0 => true
  | j + 1 => (List.range (N + 1)).any (fun k => decide (j < k) && match os[k]? with
    | some o => waitB o j
    | none => false) && sinkGo os N j
def backGo : Nat → List Oper → Bool
  | _, [] => true
  | i, o :: os => (o.after.all fun e => !Region.binds .any e || decide (e.on < i)) && backGo (i + 1) os
def preGo (lp : List COp) (s : Nat) (z : D) : Nat → List COp → List Oper → Bool
  | _, [], _ => true
  | i, c :: cs, o :: os => (match c.op with
    | .al _ => c.gd.isNone
    | op => op.quietB && !elemN s c.slots && c.slots.all fun t => match dix lp t with
      | none => true
      | some j => decide (j < i) && waitB o j) && preGo lp s z (i + 1) cs os
  | _, _ :: _, [] => false
def alOf (s : Nat) : List COp → Option D
  | [] => none
  | c :: l => match c.op with
    | .al z => if c.dst = some s then some z else none
    | _ => alOf s l
def oneAl (s : Nat) : List COp → Bool
  | [] => true
  | c :: l => (!c.op.alB || decide (c.dst = some s)) && oneAl s l
def notT (s : Nat) : Opd → Bool
  | .t i => !(i == s)
  | .k _ => true
def declB (ops : Array Oper) (lp : List COp) (s : Nat) (z : D) (v : Opd) : Bool :=
  distB lp && preGo lp s z 0 lp ops.toList && backGo 0 ops.toList && sinkGo ops.toList lp.length lp.length && oneAl s lp && notT s v && decide (ops.size = lp.length + 1) && !z.mpB
def lastOf : List COp → Option (List COp × COp)
  | [] => none
  | [c] => some ([], c)
  | c :: l => match lastOf l with
    | some (p, x) => some (c :: p, x)
    | none => none
def declOf (ops : Array Oper) (l : List COp) : Option (List COp × Nat × D × Nat × Opd) := match lastOf l with
  | some (lp, ⟨none, .st sz (.t s) v, none⟩) => match alOf s lp with
    | some z => if declB ops lp s z v then some (lp.filter (fun c => !c.op.alB), s, z, sz, v) else none
    | none => none
  | _ => none
def compile (P : Program) (nq : List Nat) : Code → Option CC
  | .skip => some .skip
  | .region id ops false => (cOpers P ops ops.toList).map .ops
  | .region id ops true => match cOpers P ops ops.toList with
    | some l => if depB ops l && l.all (·.op.quietB) && !nq.contains id then some (.quiet l) else match declOf ops l with
      | some (lq, s, z, sz, v) => if !nq.contains id then some (.decl lq s z sz v) else some (.draw id ops)
      | none => some (.draw id ops)
    | none => some (.draw id ops)
  | .seq x y => match compile P nq x, compile P nq y with
    | some a, some b => some (.seq a b)
    | _, _ => none
  | .cond c x y => match compile P nq x, compile P nq y with
    | some a, some b => some (.cond (cOpd c) a b)
    | _, _ => none
  | .block id c => (compile P nq c).map (.block id)
  | .loop c => (compile P nq c).map .loop
  | .exit id => some (.exit id)
  | .ret => some .ret
  | _ => none

mutual
/-- A value, laid out to its leaves before it is handed on. -/
def deepK : D → (D → Prop) → Prop
  | .agg fs, K => deepsK fs fun gs => K (.agg gs)
  | .tup fs, K => deepsK fs fun gs => K (.tup gs)
  | .undef, K => K .undef
  | .any, K => K .any
  | .int k n, K => K (.int k n)
  | .bool b, K => K (.bool b)
  | .str s, K => K (.str s)
  | .nil, K => K .nil
  | .nilp, K => K .nilp
  | .ro es ds, K => K (.ro es ds)
  | .sl b n c, K => K (.sl b n c)
  | .ptr b es i p o, K => K (.ptr b es i p o)
  | .lref s g p o, K => K (.lref s g p o)
  | .lsl s g n c, K => K (.lsl s g n c)
  | .mp l, K => K (.mp l)
  | .lmp s g, K => K (.lmp s g)
  | .cref d, K => K (.cref d)
  | .fn f caps, K => K (.fn f caps)
def deepsK : List D → (List D → Prop) → Prop
  | [], K => K []
  | d :: ds, K => deepK d fun e => deepsK ds fun es => K (e :: es)
end
mutual
theorem deepK_eq : ∀ (d : D) (K : D → Prop), deepK d K = K d
  | .agg fs, K => by simp only [deepK]; exact deepsK_eq fs _
  | .tup fs, K => by simp only [deepK]; exact deepsK_eq fs _
  | .undef, K | .any, K | .int .., K | .bool .., K | .str .., K | .nil, K | .nilp, K | .ro .., K | .sl .., K | .ptr .., K | .lref .., K | .lsl .., K | .mp _, K | .lmp .., K | .cref _, K | .fn .., K => rfl
theorem deepsK_eq : ∀ (ds : List D) (K : List D → Prop), deepsK ds K = K ds
  | [], K => rfl
  | d :: ds, K => by
    simp only [deepsK]
    rw [deepK_eq d]
    exact deepsK_eq ds _
end
def putS (n : Nat) (dst : Option Nat) (d : D) (st : St) (K : St → Prop) : Prop := deepK d fun e => putN n dst e st K
theorem putS_eq {n : Nat} {dst : Option Nat} {d : D} {st : St} {K : St → Prop} : putS n dst d st K = putN n dst d st K := deepK_eq d _

def xst (st : St) (x : D) (K : St → Prop) : D → Prop
  | .lref s g p o => g = st.gen s ∧ match st.lc s with
    | some c => c.mpB = false ∧ xat o (c.at p) ∧ xset (c.set p x) fun c' => deepK c' fun e => K (st.setLc s e)
    | none => False
  | .ptr b es i p o => match st.hp b with
    | some r => r.es = es ∧ match r.ds[i]? with
      | some c => xat o (c.at p) ∧ xset (c.set p x) fun c' => deepK c' fun e => K (st.setHp (upd st.hp b (some { r with ds := r.ds.set i e })))
      | none => False
    | none => False
  | _ => False
theorem xst_eq {st : St} {x : D} {K : St → Prop} (d : D) : xst st x K d = xstore st x K d := by
  cases d <;> simp only [xst, xstore, deepK_eq] <;> rfl

/-! ### What it comes to -/
def xpick : D → Prop → Prop → Prop
  | .bool t, A, B => Br t A B
  | _, _, _ => False
def xbi (op : BinOp) : D → D → (D → Prop) → Prop
  | .int k a, .int k' b, K =>
    if k = k' then
      match op with
      | .add => K (.int k (k.wrap (a + b)))
      | .sub => K (.int k (k.wrap (a - b)))
      | .mul => K (.int k (k.wrap (a * b)))
      | .quo => b ≠ 0 ∧ K (.int k (k.wrap (a.tdiv b)))
      | .rem => b ≠ 0 ∧ K (.int k (a.tmod b))
      | .eql => K (.bool (a == b))
      | .neq => K (.bool (a != b))
      | .lss => K (.bool (decide (a < b)))
      | .leq => K (.bool (decide (a ≤ b)))
      | .gtr => K (.bool (decide (a > b)))
      | .geq => K (.bool (decide (a ≥ b)))
      | _ => False
    else False
  | .str a, .str b, K =>
    match op with
    | .add => ¬ (((a.size + b.size : Nat) : Int) > IntKind.i64.max) ∧ K (.str (a ++ b))
    | .eql => K (.bool (a.toList == b.toList))
    | .neq => K (.bool (!(a.toList == b.toList)))
    | .lss => K (.bool (Op.bytesLess a.toList b.toList))
    | .leq => K (.bool (Op.bytesLess a.toList b.toList || a.toList == b.toList))
    | .gtr => K (.bool (!(Op.bytesLess a.toList b.toList || a.toList == b.toList)))
    | .geq => K (.bool (!Op.bytesLess a.toList b.toList))
    | _ => False
  | _, _, _ => False
def xbb (neg : Bool) : D → D → (D → Prop) → Prop
  | .bool a, .bool b, K => K (.bool (if neg then !(a == b) else a == b))
  | _, _, _ => False
def xpb (neg : Bool) : D → D → (D → Prop) → Prop
  | .nilp, .nilp, K => K (.bool !neg)
  | .cref _, .nilp, K => K (.bool neg)
  | .nilp, .cref _, K => K (.bool neg)
  | _, _, _ => False
def xnot : D → (D → Prop) → Prop
  | .bool b, K => K (.bool !b)
  | _, _ => False
def xneg : D → (D → Prop) → Prop
  | .int k n, K => K (.int k (k.wrap (0 - n)))
  | _, _ => False
def xcvi (k : IntKind) : D → (D → Prop) → Prop
  | .int _ n, K => K (.int k (k.wrap n))
  | _, _ => False
def xcvs : D → (D → Prop) → Prop
  | .str b, K => K (.str b)
  | _, _ => False
def xfld (off sz : Nat) (ag : Bool) (f : Nat) : D → (D → Prop) → Prop
  | .agg fs, K => match fs[f]? with
    | some d => D.lens (fs.take f) = off ∧ d.len = sz ∧ d.isAgg = ag ∧ K d
    | none => False
  | _, _ => False
def xsx : D → D → (D → Prop) → Prop
  | .str s, .int _ n, K => 0 ≤ n ∧ n < s.size ∧ K (.int .u8 (byteAt s n.toNat))
  | _, _, _ => False
def xext (i : Nat) : D → (D → Prop) → Prop
  | .tup ds, K => match ds[i]? with
    | some d => K d
    | none => False
  | _, _ => False
def xlens : D → (D → Prop) → Prop
  | .str s, K => K (.int .i64 s.size)
  | _, _ => False
def xlenl (st : St) : D → (D → Prop) → Prop
  | .nil, K => K (.int .i64 0)
  | .ro _ ds, K => K (.int .i64 ds.length)
  | .sl _ n _, K => K (.int .i64 n)
  | .lsl s g n _, K => g = st.gen s ∧ (st.lc s).isSome = true ∧ K (.int .i64 n)
  | _, _ => False

def xp (st : St) (K : D → Prop) : XOp → Prop
  | .mv x => K (x.ev st)
  | .pick c a b => xpick (c.ev st) (K (a.ev st)) (K (b.ev st))
  | .nilc x => xaddr st (x.ev st) (K (x.ev st))
  | .bin op x y => xbi op (x.ev st) (y.ev st) K
  | .binb neg x y => xbb neg (x.ev st) (y.ev st) K
  | .ptb neg x y => xpb neg (x.ev st) (y.ev st) K
  | .not x => xnot (x.ev st) K
  | .neg x => xneg (x.ev st) K
  | .cvi k x => xcvi k (x.ev st) K
  | .cvs x => xcvs (x.ev st) K
  | .fa off sz f x => xfield st off sz f (x.ev st) K
  | .fld off sz ag f x => xfld off sz ag f (x.ev st) K
  | .ix es x i => xidx st es (x.ev st) (i.ev st) K
  | .sx x i => xsx (x.ev st) (i.ev st) K
  | .ld sz ag x => xload st sz ag (x.ev st) K
  | .ext x i => xext i (x.ev st) K
  | .lens x => xlens (x.ev st) K
  | .lenl x => xlenl st (x.ev st) K
  | .lk x i => xlk st (x.ev st) (i.ev st) K
  | .fnm f xs => (xs.map (Opd.ev st)).all D.capB = true ∧ K (.fn f (xs.map (Opd.ev st)))
  | _ => False
def xo (P : Program) (dst : Option Nat) (st : St) (K : D → St → Prop) : XOp → Prop
  | .al z => match dst with
    | some s => K (.lref s (st.gen s + 1) [] 0) (st.box s z)
    | none => False
  | .bx x => match dst with
    | some s => deepK (x.ev st) fun d => d.memB = true ∧ K (.lref s (st.gen s + 1) [] 0) (st.box s d)
    | none => False
  | .mk z bytes l c => match dst with
    | some s => xmk st s z bytes K (l.ev st) (c.ev st)
    | none => False
  | .st sz p x => deepK (x.ev st) fun d => d.memB = true ∧ d.len = sz ∧ xst st d (fun st' => K .undef st') (p.ev st)
  | .mm => match dst with
    | some s => K (.lmp s (st.gen s + 1)) (st.box s (.mp []))
    | none => False
  | .mu m k x => xmu st (fun st' => K .undef st') (m.ev st) (k.ev st) (x.ev st)
  | .call f xs => (xs.map (Opd.ev st)).all D.noL = true ∧ XC P f (xs.map (Opd.ev st)) st.hp fun d hp' => K d (st.setHp hp')
  | .callv f xs => xcall P st (xs.map (Opd.ev st)) K (f.ev st)
  | op => xp st (fun d => K d st) op
def xq (P : Program) (st : St) (K : D → Prop) : XOp → Prop
  | .call f xs => (xs.map (Opd.ev st)).all D.noL = true ∧ QC P f (xs.map (Opd.ev st)) st.hp K
  | op => xp st K op
def xos (P : Program) (n : Nat) : List COp → St → (St → Prop) → Prop
  | [], st, K => K st
  | ⟨dst, op, none⟩ :: os, st, K => xo P dst st (fun d st' => putS n dst d st' fun st2 => xos P n os st2 K) op
  | ⟨dst, op, some (t, want)⟩ :: os, st, K => xguard (st.fr t) want (xo P dst st (fun d st' => putS n dst d st' fun st2 => xos P n os st2 K) op) (putN n dst .undef st fun st2 => xos P n os st2 K)
def xqs (P : Program) (n : Nat) : List COp → St → (St → Prop) → Prop
  | [], st, K => K st
  | ⟨dst, op, none⟩ :: os, st, K => xq P st (fun d => putS n dst d st fun st2 => xqs P n os st2 K) op
  | ⟨dst, op, some (t, want)⟩ :: os, st, K => xguard (st.fr t) want (xq P st (fun d => putS n dst d st fun st2 => xqs P n os st2 K) op) (putN n dst .undef st fun st2 => xqs P n os st2 K)
/-- A loop. -/
structure XLc (P : Program) (n : Nat) (body : CC) (st : St) (Q : Post) : Prop where
  sem : P.follows .mixedOrders = true → ∀ (nq : List Nat) (c : Code), compile P nq c = some body → Sem P n (.loop c) st Q
/-- A statement that is still to be walked. -/
structure XS (P : Program) (n : Nat) (cc : CC) (st : St) (Q : Post) : Prop where
  sem : P.follows .mixedOrders = true → ∀ (nq : List Nat) (c : Code), compile P nq c = some cc → Sem P n c st Q
def xw (P : Program) (n : Nat) : CC → St → Post → Prop
  | .skip, st, Q => Q .normal st
  | .ops l, st, Q => xos P n l st fun st' => Q .normal st'
  | .quiet l, st, Q => xqs P n l st fun st' => Q .normal st'
  | .draw id ops, st, Q => XD P n id ops st fun st' => Q .normal st'
  | .decl l s z sz v, st, Q => xqs P n l st fun st' => st'.lc s = none ∧ Nat.ble (s + 1) n = true ∧ deepK (v.ev st') fun x => x.memB = true ∧ x.len = sz ∧ z.len = sz ∧ x.isAgg = z.isAgg ∧ Q .normal ((st'.put s (.lref s (st'.gen s + 1) [] 0)).box s x)
  | .seq x y, st, Q => xw P n x st fun e st' => match e with
    | .normal => XS P n y st' Q
    | e => Q e st'
  | .cond c x y, st, Q => xcond (c.ev st) (xw P n x st Q) (xw P n y st Q)
  | .block id c, st, Q => xw P n c st fun e st' => match e with
    | .exit i => if i = id then Q .normal st' else Q (.exit i) st'
    | e => Q e st'
  | .loop c, st, Q => XLc P n c st Q
  | .exit id, st, Q => Q (.exit id) st
  | .ret, st, Q => Q .ret st

section
variable {P : Program} {n : Nat} {st : St}
theorem cOpd_ev (x : Operand) : (cOpd x).ev st = st.ev x := by cases x <;> rfl
theorem cOpd_evs (xs : List Operand) : (xs.map cOpd).map (Opd.ev st) = xs.map st.ev := by
  rw [List.map_map]
  exact List.map_congr_left fun x _ => cOpd_ev x
theorem xbi_bin {op : BinOp} {t : TypeId} {x y : D} {K : D → Prop} (h : xbi op x y K) : xbin P op t x y K := by
  cases x <;> cases y <;> first | exact h | (simp [xbi] at h)
def isBuild : Op → Bool
  | .build .. => true
  | _ => false
theorem xp_sound {op : Op} {x : XOp} {K : D → Prop} (hnb : isBuild op = false) (hc : cOp P op = some x) (h : xp st K x) : xpure P st K op := by
  cases op <;> simp only [cOp] at hc
  case build => cases hnb
  case makeMap t r => cases r <;> simp at hc; subst hc; exact h.elim
  case mapUpdate t m k x => split at hc <;> simp at hc; subst hc; exact h.elim
  case makeFunc fn first caps =>
    split at hc
    · split at hc
      · rename_i hq
        simp only [Option.some.injEq] at hc; subst hc
        simp only [xp, cOpd_evs] at h
        exact ⟨by simpa using hq, h.1, h.2⟩
      · cases hc
    · cases hc
  case lookup t x i ok =>
    split at hc
    · rename_i hq
      simp only [Option.some.injEq] at hc; subst hc
      simp only [Bool.and_eq_true, Bool.not_eq_true'] at hq
      simp only [xp, cOpd_ev] at h
      exact ⟨hq.1, hq.2, h⟩
    · cases hc
  case move x => simp only [Option.some.injEq] at hc; subst hc; simp only [xp, cOpd_ev] at h; exact h
  case assign x => simp only [Option.some.injEq] at hc; subst hc; simp only [xp, cOpd_ev] at h; exact h
  case pick c a b =>
    simp only [Option.some.injEq] at hc; subst hc
    simp only [xp, cOpd_ev] at h
    simp only [xpure]
    cases hd : st.ev c <;> rw [hd] at h <;> first | exact h | exact h.elim
  case nilCheck x => simp only [Option.some.injEq] at hc; subst hc; simp only [xp, cOpd_ev] at h; exact h
  case binOp op t x y u =>
    split at hc
    · rename_i hu
      cases op <;> simp at hc <;> subst hc <;> simp only [xp, cOpd_ev] at h <;> simp only [xpure]
      all_goals
        cases hx : st.ev x <;> cases hy : st.ev y <;> rw [hx, hy] at h <;> first | exact h.elim | exact ⟨hu, h⟩
    · rename_i e hu
      have hp : isPtr P t = true := by simp [isPtr, hu]
      cases op <;> simp at hc <;> subst hc <;> simp only [xp, cOpd_ev] at h <;> simp only [xpure]
      all_goals
        cases hx : st.ev x <;> cases hy : st.ev y <;> rw [hx, hy] at h <;> first | exact h.elim | exact ⟨hp, h⟩
    · simp only [Option.some.injEq] at hc; subst hc
      simp only [xp, cOpd_ev] at h
      exact xbi_bin h
  case unOp op t x =>
    cases op <;> simp at hc <;> subst hc <;> simp only [xp, cOpd_ev] at h <;> simp only [xpure]
    all_goals
      cases hx : st.ev x <;> rw [hx] at h <;> first | exact h | exact h.elim
  case convert s d x =>
    split at hc
    · rename_i u k h1 h2
      simp only [Option.some.injEq] at hc; subst hc
      simp only [xp, cOpd_ev] at h
      simp only [xpure]
      cases hx : st.ev x <;> rw [hx] at h <;> first | exact ⟨by simp [h1], k, h2, h⟩ | exact h.elim
    · rename_i h1 h2
      simp only [Option.some.injEq] at hc; subst hc
      simp only [xp, cOpd_ev] at h
      simp only [xpure]
      cases hx : st.ev x <;> rw [hx] at h <;> first | exact ⟨by simp [h1], h2, h⟩ | exact h.elim
    · cases hc
  case fieldAddr t x f =>
    cases ht : fldOf P t f with
    | none => simp [ht] at hc
    | some r =>
      obtain ⟨off, sz, ag⟩ := r
      simp only [ht] at hc
      split at hc
      · cases hc
      · rename_i hz
        simp only [Option.some.injEq] at hc; subst hc
        simp only [xp, cOpd_ev] at h
        simp only [xpure, ht]
        exact ⟨hz, h⟩
  case makeSlice t l c =>
    cases ht : mkOf P t with
    | none => simp [ht] at hc
    | some r => simp only [ht, Option.some.injEq] at hc; subst hc; exact h.elim
  case field t x f =>
    cases ht : fldOf P t f with
    | none => simp [ht] at hc
    | some r =>
      obtain ⟨off, sz, ag⟩ := r
      simp only [ht, Option.some.injEq] at hc; subst hc
      simp only [xp, cOpd_ev] at h
      simp only [xpure, ht]
      cases hx : st.ev x <;> rw [hx] at h <;> first | exact h | exact h.elim
  case indexAddr t x i =>
    cases ht : eltOf P t with
    | none => simp [ht] at hc
    | some es =>
      simp only [ht, Option.some.injEq] at hc; subst hc
      simp only [xp, cOpd_ev] at h
      simpa only [xpure, ht] using h
  case index t x i =>
    split at hc
    · rename_i hu
      simp only [Option.some.injEq] at hc; subst hc
      simp only [xp, cOpd_ev] at h
      simp only [xpure]
      cases hx : st.ev x <;> cases hi : st.ev i <;> rw [hx, hi] at h <;> first | exact ⟨hu, h⟩ | exact h.elim
    · cases hc
  case load t x =>
    cases ht : varOf P t with
    | none => simp [ht] at hc
    | some r =>
      obtain ⟨sz, ag⟩ := r
      simp only [ht, Option.some.injEq] at hc; subst hc
      simp only [xp, cOpd_ev] at h
      simpa only [xpure, ht] using h
  case extract x i =>
    simp only [Option.some.injEq] at hc; subst hc
    simp only [xp, cOpd_ev] at h
    simp only [xpure]
    cases hx : st.ev x <;> rw [hx] at h <;> first | exact h | exact h.elim
  case call c =>
    split at hc
    · simp only [Option.some.injEq] at hc; subst hc; simp [xp] at h
    · simp only [Option.some.injEq] at hc; subst hc; simp [xp] at h
    · rename_i hcal
      simp only [xpure, hcal]
      split at hc
      · rename_i x h1 h2
        simp only [Option.some.injEq] at hc; subst hc
        simp only [xp, cOpd_ev] at h
        simp only [h1]
        cases hx : st.ev x <;> rw [hx] at h <;> first | exact h.elim | exact ⟨h2, h⟩
      · rename_i x e h1 h2
        simp only [Option.some.injEq] at hc; subst hc
        simp only [xp, cOpd_ev] at h
        simp only [h1]
        cases hx : st.ev x <;> rw [hx] at h <;> first | exact h.elim | exact ⟨⟨e, h2⟩, h⟩
      · cases hc
    · cases hc
  case store t p x =>
    cases ht : varOf P t with
    | none => simp [ht] at hc
    | some r => simp only [ht, Option.some.injEq] at hc; subst hc; simp [xp] at h
  case alloc t =>
    cases ht : zeroD P t with
    | none => simp [ht] at hc
    | some r => simp only [ht, Option.some.injEq] at hc; subst hc; simp [xp] at h
  case box t x => simp only [Option.some.injEq] at hc; subst hc; simp [xp] at h
  all_goals cases hc

theorem xo_sound {op : Op} {x : XOp} {dst : Option Nat} {K : D → St → Prop} (hc : cOp P op = some x) (h : xo P dst st K x) : xop P dst st K op := by
  have pure_case : isBuild op = false → xp st (fun d => K d st) x → xpure P st (fun d => K d st) op := fun hnb h => xp_sound hnb hc h
  cases op
  case makeMap t r =>
    simp only [cOp] at hc
    cases r <;> simp at hc
    subst hc
    simp only [xo] at h
    simp only [xop]
    cases dst <;> first | exact h.elim | exact ⟨trivial, h⟩
  case mapUpdate t m k x =>
    simp only [cOp] at hc
    split at hc
    · rename_i hq
      simp only [Option.some.injEq] at hc; subst hc
      simp only [xo, cOpd_ev] at h
      exact ⟨hq, h⟩
    · cases hc
  case build t parts =>
    simp only [cOp] at hc
    cases ht : zeroD P t with
    | none => simp [ht] at hc
    | some z =>
      simp only [ht] at hc
      split at hc
      · rename_i hq
        simp only [Option.some.injEq] at hc; subst hc
        simp only [Bool.and_eq_true] at hq
        simp only [xop, ht]
        exact ⟨by simpa using hq.1.1, hq.1.2, hq.2, h⟩
      · cases hc
  case alloc t =>
    simp only [cOp] at hc
    cases ht : zeroD P t with
    | none => simp [ht] at hc
    | some z =>
      simp only [ht, Option.some.injEq] at hc; subst hc
      simp only [xo] at h
      simp only [xop, ht]
      cases dst <;> first | exact h | exact h.elim
  case box t y =>
    simp only [cOp, Option.some.injEq] at hc; subst hc
    simp only [xo, cOpd_ev, deepK_eq] at h
    simp only [xop]
    cases dst <;> first | exact h | exact h.elim
  case makeSlice t l c =>
    simp only [cOp] at hc
    cases ht : mkOf P t with
    | none => simp [ht] at hc
    | some r =>
      obtain ⟨z, bytes⟩ := r
      simp only [ht, Option.some.injEq] at hc; subst hc
      simp only [xo, cOpd_ev] at h
      simp only [xop, ht]
      cases dst <;> first | exact h | exact h.elim
  case store t p y =>
    simp only [cOp] at hc
    cases ht : varOf P t with
    | none => simp [ht] at hc
    | some r =>
      simp only [ht, Option.some.injEq] at hc; subst hc
      simp only [xo, cOpd_ev, deepK_eq, xst_eq] at h
      simpa only [xop, ht] using h
  case call c =>
    obtain ⟨callee, args, argTypes⟩ := c
    cases callee with
    | value f =>
      simp only [cOp] at hc
      split at hc
      · rename_i g hg
        simp only [Option.some.injEq] at hc; subst hc
        simp only [Callee.value.injEq] at hg
        subst hg
        simp only [xo, cOpd_evs] at h
        simp only [xop, St.ev, xcall, Bool.and_eq_true, List.append_nil]
        exact ⟨⟨h.1, rfl⟩, h.2⟩
      · rename_i g hg
        simp only [Option.some.injEq] at hc; subst hc
        simp only [Callee.value.injEq] at hg
        subst hg
        simp only [xo, cOpd_evs, cOpd_ev] at h
        exact h
      · rename_i heq; cases heq
      · cases hc
    | invoke r m => simp [cOp] at hc
    | builtin b =>
      have : xp st (fun d => K d st) x := by
        simp only [cOp] at hc
        split at hc
        · rename_i heq; cases heq
        · rename_i heq; cases heq
        · split at hc <;> first | (simp only [Option.some.injEq] at hc; subst hc; exact h) | cases hc
        · cases hc
      exact pure_case rfl this
  all_goals
    refine pure_case rfl ?_
    cases x <;> first | exact h | (simp [cOp] at hc; done) | (simp only [cOp] at hc; (repeat' (split at hc)) <;> first | cases hc | (simp at hc; done))

theorem cOper_spec {ops : Array Oper} {o : Oper} {c : COp} (h : cOper P ops o = some c) : c.dst = o.dst ∧ cOp P o.op = some c.op ∧ gslot ops o = c.gd.map fun q => (some q.1, q.2) := by
  unfold cOper at h
  split at h
  · rename_i h1 h2; simp only [Option.some.injEq] at h; subst h; exact ⟨rfl, h1, h2⟩
  · rename_i h1 h2; simp only [Option.some.injEq] at h; subst h; exact ⟨rfl, h1, h2⟩
  · cases h
theorem putN_mono {dst : Option Nat} {d : D} {K K' : St → Prop} (hk : ∀ st, K st → K' st) (h : putN n dst d st K) : putN n dst d st K' := by
  cases dst with
  | none => exact hk _ h
  | some i => exact ⟨h.1, hk _ h.2⟩
theorem xguard_mono {d : D} {want : Bool} {A B A' B' : Prop} (ha : A → A') (hb : B → B') (h : xguard d want A B) : xguard d want A' B' := by
  cases d <;> cases want <;> simp only [xguard] at h ⊢ <;> first | exact hb h | exact h.elim | exact ⟨fun e => ha (h.yes e), fun e => hb (h.no e)⟩ | exact ⟨fun e => hb (h.yes e), fun e => ha (h.no e)⟩
theorem xaddr_mono {d : D} {p q : Prop} (hk : p → q) (h : xaddr st d p) : xaddr st d q := by
  cases d <;> simp only [xaddr] at h ⊢ <;> first | exact hk h | exact ⟨h.1, h.2.1, hk h.2.2⟩
theorem Br.mono {b : Bool} {A B A' B' : Prop} (ha : A → A') (hb : B → B') (h : Br b A B) : Br b A' B' := ⟨fun e => ha (h.yes e), fun e => hb (h.no e)⟩
theorem xbi_mono {op : BinOp} {x y : D} {K K' : D → Prop} (hk : ∀ d, K d → K' d) (h : xbi op x y K) : xbi op x y K' := by
  cases x <;> cases y <;> first | exact h.elim | skip
  · simp only [xbi] at h ⊢
    split at h
    · rename_i e
      rw [if_pos e]
      cases op <;> first | exact hk _ h | exact ⟨h.1, hk _ h.2⟩ | exact h.elim
    · exact h.elim
  · simp only [xbi] at h ⊢
    cases op <;> first | exact hk _ h | exact ⟨h.1, hk _ h.2⟩ | exact h.elim
theorem xpart_mono {sz o : Nat} {ag : Bool} {r : Option (D × Nat)} {K K' : D → Prop} (hk : ∀ d, K d → K' d) (h : xpart sz ag o r K) : xpart sz ag o r K' := by
  cases r with
  | none => exact h.elim
  | some r => exact ⟨h.1, h.2.1, h.2.2.1, hk _ h.2.2.2⟩
theorem xlk_mono {d e : D} {K K' : D → Prop} (hk : ∀ d, K d → K' d) (h : xlk st d e K) : xlk st d e K' := by
  cases d <;> cases e <;> try exact h.elim
  obtain ⟨h1, h2⟩ := h
  refine ⟨h1, ?_⟩
  split at h2
  · exact hk _ h2
  · exact h2.elim
theorem xmu_mono {d e f : D} {K K' : St → Prop} (hk : ∀ st, K st → K' st) (h : xmu st K d e f) : xmu st K' d e f := by
  cases d <;> cases e <;> cases f <;> try exact h.elim
  obtain ⟨h1, h2⟩ := h
  refine ⟨h1, ?_⟩
  split at h2
  · exact hk _ h2
  · exact h2.elim
theorem xp_mono {x : XOp} {K K' : D → Prop} (hk : ∀ d, K d → K' d) (h : xp st K x) : xp st K' x := by
  cases x <;> simp only [xp] at h ⊢
  case mv x => exact hk _ h
  case lk x i => exact xlk_mono hk h
  case fnm f xs => exact ⟨h.1, hk _ h.2⟩
  case pick c a b => cases hc : c.ev st <;> rw [hc] at h <;> first | exact h.elim | exact Br.mono (hk _) (hk _) h
  case nilc x => exact xaddr_mono (hk _) h
  case bin op x y => exact xbi_mono hk h
  case binb neg x y => cases hx : x.ev st <;> cases hy : y.ev st <;> rw [hx, hy] at h <;> first | exact h.elim | exact hk _ h
  case ptb neg x y => cases hx : x.ev st <;> cases hy : y.ev st <;> rw [hx, hy] at h <;> first | exact h.elim | exact hk _ h
  case not x => cases hx : x.ev st <;> rw [hx] at h <;> first | exact h.elim | exact hk _ h
  case neg x => cases hx : x.ev st <;> rw [hx] at h <;> first | exact h.elim | exact hk _ h
  case cvi k x => cases hx : x.ev st <;> rw [hx] at h <;> first | exact h.elim | exact hk _ h
  case cvs x => cases hx : x.ev st <;> rw [hx] at h <;> first | exact h.elim | exact hk _ h
  case fa off sz f x =>
    cases hx : x.ev st <;> rw [hx] at h <;> first | exact h.elim | exact hk _ h | exact ⟨h.1, h.2.1, hk _ h.2.2⟩ | skip
    rename_i d
    cases d <;> first | exact h.elim | skip
    rename_i fs
    simp only [xfield] at h ⊢
    cases hf : fs[f]? <;> rw [hf] at h <;> first | exact h.elim | exact ⟨h.1, h.2.1, hk _ h.2.2⟩
  case fld off sz ag f x =>
    cases hx : x.ev st <;> rw [hx] at h <;> first | exact h.elim | skip
    rename_i fs
    simp only [xfld] at h ⊢
    cases hf : fs[f]? <;> rw [hf] at h <;> first | exact h.elim | exact ⟨h.1, h.2.1, h.2.2.1, hk _ h.2.2.2⟩
  case ix es x i =>
    cases hx : x.ev st <;> cases hi : i.ev st <;> rw [hx, hi] at h <;> first | exact h.elim | exact ⟨h.1, h.2.1, hk _ h.2.2⟩ | exact ⟨h.1, h.2.1, h.2.2.1, h.2.2.2.1, hk _ h.2.2.2.2⟩
  case sx x i =>
    cases hx : x.ev st <;> cases hi : i.ev st <;> rw [hx, hi] at h <;> first | exact h.elim | exact ⟨h.1, h.2.1, hk _ h.2.2⟩
  case ld sz ag x =>
    cases hx : x.ev st <;> rw [hx] at h <;> first | exact h.elim | exact ⟨h.1, h.2.1, hk _ h.2.2⟩ | skip
    · rename_i b es i p o
      simp only [xload] at h ⊢
      cases hr : st.hp b <;> rw [hr] at h <;> first | exact h.elim | exact ⟨h.1, xpart_mono hk h.2⟩
    · rename_i s g p o
      simp only [xload] at h ⊢
      refine ⟨h.1, ?_⟩
      have h2 := h.2
      cases hr : st.lc s <;> rw [hr] at h2 <;> first | exact h2.elim | exact ⟨h2.1, xpart_mono hk h2.2⟩
  case ext x i =>
    cases hx : x.ev st <;> rw [hx] at h <;> first | exact h.elim | skip
    rename_i ds
    simp only [xext] at h ⊢
    cases hd : ds[i]? <;> rw [hd] at h <;> first | exact h.elim | exact hk _ h
  case lens x => cases hx : x.ev st <;> rw [hx] at h <;> first | exact h.elim | exact hk _ h
  case lenl x => cases hx : x.ev st <;> rw [hx] at h <;> first | exact h.elim | exact ⟨h.1, h.2.1, hk _ h.2.2⟩ | exact hk _ h
theorem XC.mono {P : Program} {f : FuncId} {ds : List D} {hp : Nat → Option Row} {K K' : D → (Nat → Option Row) → Prop} (hk : ∀ d hp, K d hp → K' d hp) (h : XC P f ds hp K) : XC P f ds hp K' :=
  ⟨h.1, fun U w vs hH hT => (h.2 U w vs hH hT).mono fun e w' ⟨v, d, hp', U', h1, h2, h3, h4, h5, h6, h7, h8⟩ => ⟨v, d, hp', U', h1, h2, h3, h4, h5, h6, h7, hk _ _ h8⟩⟩
theorem xo_mono {dst : Option Nat} {x : XOp} {K K' : D → St → Prop} (hk : ∀ d st, K d st → K' d st) (h : xo P dst st K x) : xo P dst st K' x := by
  cases x
  case mm => cases dst <;> first | exact h.elim | exact hk _ _ h
  case mu m k x => exact xmu_mono (fun st' h => hk _ _ h) h
  case al z => cases dst <;> first | exact h.elim | exact hk _ _ h
  case bx x =>
    cases dst with
    | none => exact h.elim
    | some s =>
      simp only [xo, deepK_eq] at h ⊢
      exact ⟨h.1, hk _ _ h.2⟩
  case mk z bytes l c =>
    cases dst with
    | none => exact h.elim
    | some s =>
      simp only [xo] at h ⊢
      cases hl : l.ev st <;> cases hc : c.ev st <;> rw [hl, hc] at h <;> first | exact h.elim | exact ⟨h.1, h.2.1, h.2.2.1, h.2.2.2.1, hk _ _ h.2.2.2.2⟩
  case st sz p x =>
    simp only [xo, deepK_eq, xst_eq] at h ⊢
    refine ⟨h.1, h.2.1, ?_⟩
    have h3 := h.2.2
    cases hp : p.ev st <;> rw [hp] at h3 <;> first | exact h3.elim | skip
    · rename_i b es i q o
      simp only [xstore] at h3 ⊢
      cases hr : st.hp b with
      | none => rw [hr] at h3; exact h3.elim
      | some r =>
        rw [hr] at h3
        refine ⟨h3.1, ?_⟩
        have h4 := h3.2
        cases hi : r.ds[i]? with
        | none => rw [hi] at h4; exact h4.elim
        | some c =>
          rw [hi] at h4
          refine ⟨h4.1, ?_⟩
          have h5 := h4.2
          cases hs : c.set q (x.ev st) with
          | none => rw [hs] at h5; exact h5.elim
          | some c' => rw [hs] at h5; exact hk _ _ h5
    · rename_i s g q o
      simp only [xstore] at h3 ⊢
      refine ⟨h3.1, ?_⟩
      have h4 := h3.2
      cases hr : st.lc s with
      | none => rw [hr] at h4; exact h4.elim
      | some c =>
        rw [hr] at h4
        refine ⟨h4.1, h4.2.1, ?_⟩
        have h5 := h4.2.2
        cases hs : c.set q (x.ev st) with
        | none => rw [hs] at h5; exact h5.elim
        | some c' => rw [hs] at h5; exact hk _ _ h5
  case call f xs => exact ⟨h.1, h.2.mono fun d hp => hk _ _⟩
  case callv f xs =>
    simp only [xo] at h ⊢
    cases hf : f.ev st <;> rw [hf] at h <;> first | exact h.elim | exact ⟨h.1, h.2.mono fun d hp => hk _ _⟩
  all_goals (simp only [xo] at h ⊢; exact xp_mono (st := st) (K := fun d => K d st) (K' := fun d => K' d st) (fun d => hk d st) h)

theorem xos_sound {ops : Array Oper} {K : St → Prop} : ∀ {os : List Oper} {l : List COp} {st : St}, cOpers P ops os = some l → xos P n l st K → xops P n ops os st K
  | [], l, st, hc, h => by simp only [cOpers, Option.some.injEq] at hc; subst hc; exact h
  | o :: os, l, st, hc, h => by
    simp only [cOpers] at hc
    split at hc
    · rename_i c l' h1 h2
      simp only [Option.some.injEq] at hc
      subst hc
      obtain ⟨hd, hop, hg⟩ := cOper_spec h1
      obtain ⟨dst, op, gd⟩ := c
      simp only at hd hop hg
      subst hd
      have run : xo P o.dst st (fun d st' => putS n o.dst d st' fun st2 => xos P n l' st2 K) op → xop P o.dst st (fun d st' => putN n o.dst d st' fun st2 => xops P n ops os st2 K) o.op := fun h =>
        xo_sound hop (xo_mono (fun d st' hq => putN_mono (fun st2 => xos_sound h2) (putS_eq ▸ hq)) h)
      have skip : (putN n o.dst .undef st fun st2 => xos P n l' st2 K) → putN n o.dst .undef st fun st2 => xops P n ops os st2 K := putN_mono fun st2 => xos_sound h2
      simp only [xops]
      rw [hg]
      cases gd with
      | none => exact run h
      | some q =>
        obtain ⟨t, want⟩ := q
        exact xguard_mono run skip h
    · cases hc
theorem xq_mono {x : XOp} {K K' : D → Prop} (hk : ∀ d, K d → K' d) (h : xq P st K x) : xq P st K' x := by
  cases x
  case call f xs =>
    obtain ⟨h1, ⟨d, h2, h3⟩⟩ := h
    exact ⟨h1, ⟨d, hk _ h2, h3⟩⟩
  all_goals (simp only [xq] at h ⊢; exact xp_mono (st := st) hk h)
/-! ### Regions that draw their order: whatever order, the same values -/
def XOp.pureB : XOp → Bool
  | .mv _ | .nilc _ | .not _ | .neg _ | .cvi .. | .cvs _ | .fa .. | .fld .. | .ld .. | .ext .. | .lens _ | .lenl _ | .bin .. | .binb .. | .ptb .. | .ix .. | .sx .. | .lk .. | .fnm .. => true
  | _ => false
theorem xp_val {K : D → Prop} {op : XOp} (hp : op.pureB = true) (h : xp st K op) : ∃ d, K d ∧ xp st (fun d' => d' = d) op := by
  cases op <;> simp only [XOp.pureB, Bool.false_eq_true] at hp <;> simp only [xp] at h ⊢
  case mv x => exact ⟨_, h, rfl⟩
  case fnm f xs => exact ⟨_, h.2, h.1, rfl⟩
  case lk x i =>
    cases hx : x.ev st <;> cases hy : i.ev st <;> rw [hx, hy] at h <;> try exact h.elim
    obtain ⟨h1, h2⟩ := h
    split at h2
    · rename_i hq
      exact ⟨_, h2, h1, by rw [hq]⟩
    · exact h2.elim
  case nilc x => cases hd : x.ev st <;> rw [hd] at h <;> first | exact h.elim | exact ⟨_, h, rfl⟩ | exact ⟨_, h.2.2, h.1, h.2.1, rfl⟩
  case bin op x y =>
    cases hx : x.ev st <;> cases hy : y.ev st <;> rw [hx, hy] at h <;> simp only [xbi] at h ⊢ <;> try exact h.elim
    · split at h
      · rename_i hk
        subst hk
        simp only [if_true] at h ⊢
        cases op <;> first | exact h.elim | exact ⟨_, h, rfl⟩ | exact ⟨_, h.2, h.1, rfl⟩
      · exact h.elim
    · cases op <;> first | exact h.elim | exact ⟨_, h, rfl⟩ | exact ⟨_, h.2, h.1, rfl⟩
  case binb neg x y => cases hx : x.ev st <;> cases hy : y.ev st <;> rw [hx, hy] at h <;> first | exact h.elim | exact ⟨_, h, rfl⟩
  case ptb neg x y => cases hx : x.ev st <;> cases hy : y.ev st <;> rw [hx, hy] at h <;> first | exact h.elim | exact ⟨_, h, rfl⟩
  case not x => cases hx : x.ev st <;> rw [hx] at h <;> first | exact h.elim | exact ⟨_, h, rfl⟩
  case neg x => cases hx : x.ev st <;> rw [hx] at h <;> first | exact h.elim | exact ⟨_, h, rfl⟩
  case cvi k x => cases hx : x.ev st <;> rw [hx] at h <;> first | exact h.elim | exact ⟨_, h, rfl⟩
  case cvs x => cases hx : x.ev st <;> rw [hx] at h <;> first | exact h.elim | exact ⟨_, h, rfl⟩
  case lens x => cases hx : x.ev st <;> rw [hx] at h <;> first | exact h.elim | exact ⟨_, h, rfl⟩
  case lenl x => cases hx : x.ev st <;> rw [hx] at h <;> first | exact h.elim | exact ⟨_, h, rfl⟩ | exact ⟨_, h.2.2, h.1, h.2.1, rfl⟩
  case sx x i => cases hx : x.ev st <;> cases hy : i.ev st <;> rw [hx, hy] at h <;> first | exact h.elim | exact ⟨_, h, rfl⟩ | exact ⟨_, h.2.2, h.1, h.2.1, rfl⟩
  case ix es x i => cases hx : x.ev st <;> cases hy : i.ev st <;> rw [hx, hy] at h <;> first | exact h.elim | exact ⟨_, h.2.2, h.1, h.2.1, rfl⟩ | exact ⟨_, h.2.2.2.2, h.1, h.2.1, h.2.2.1, h.2.2.2.1, rfl⟩
  case ext x i =>
    cases hx : x.ev st <;> rw [hx] at h <;> simp only [xext] at h ⊢ <;> try exact h.elim
    split at h
    · exact ⟨_, h, by simp [*]⟩
    · exact h.elim
  case fld off sz ag f x =>
    cases hx : x.ev st <;> rw [hx] at h <;> simp only [xfld] at h ⊢ <;> try exact h.elim
    split at h
    · rename_i d hd
      exact ⟨_, h.2.2.2, h.1, h.2.1, h.2.2.1, rfl⟩
    · exact h.elim
  case fa off sz f x =>
    cases hx : x.ev st <;> rw [hx] at h <;> try exact h.elim
    · exact ⟨_, h, rfl⟩
    · exact ⟨_, h.2.2, h.1, h.2.1, rfl⟩
    · rename_i d
      cases d <;> try exact h.elim
      simp only [xfield] at h ⊢
      split at h
      · rename_i d hd
        exact ⟨_, h.2.2, h.1, h.2.1, rfl⟩
      · exact h.elim
  case ld sz ag x =>
    cases hx : x.ev st <;> rw [hx] at h <;> simp only [xload] at h ⊢ <;> try exact h.elim
    · split at h
      · obtain ⟨h1, h2⟩ := h
        unfold xpart at h2 ⊢
        split at h2
        · rename_i hq
          exact ⟨_, h2.2.2.2, by simp only [*, and_self]⟩
        · exact h2.elim
      · exact h.elim
    · obtain ⟨h0, h⟩ := h
      split at h
      · obtain ⟨hmp, h⟩ := h
        unfold xpart at h ⊢
        split at h
        · rename_i hq
          exact ⟨_, h.2.2.2, h0, by simp only [*, and_self]⟩
        · exact h.elim
      · exact h.elim
    · exact ⟨_, h.2.2, h.1, h.2.1, rfl⟩
def xf1 (P : Program) (st : St) (op : XOp) (d : D) : Prop := match op with
  | .call f xs => (xs.map (Opd.ev st)).all D.noL = true ∧ Rdr P f (xs.map (Opd.ev st)) d
  | op => xp st (fun d' => d' = d) op
theorem xq_val_pure {K : D → Prop} {op : XOp} (hp : op.pureB = true) (h : xq P st K op) : ∃ d, K d ∧ xf1 P st op d := by
  have h' : xp st K op := by cases op <;> first | exact h | (simp [XOp.pureB] at hp)
  obtain ⟨d, h1, h2⟩ := xp_val hp h'
  refine ⟨d, h1, ?_⟩
  cases op <;> first | exact h2 | (simp [XOp.pureB] at hp)
theorem xpick_val {K : D → Prop} {c a b : D} (h : xpick c (K a) (K b)) : ∃ d, K d ∧ xpick c (a = d) (b = d) := by
  cases c <;> try exact h.elim
  rename_i t
  cases t
  · exact ⟨b, h.no rfl, ⟨(fun e => by cases e), (fun _ => rfl)⟩⟩
  · exact ⟨a, h.yes rfl, ⟨(fun _ => rfl), (fun e => by cases e)⟩⟩
theorem xq_val {K : D → Prop} {op : XOp} (h : xq P st K op) : ∃ d, K d ∧ xf1 P st op d := by
  cases op
  case call f xs => obtain ⟨h1, d, h2, h3⟩ := h; exact ⟨d, h2, h1, h3⟩
  case pick c a b => exact xpick_val (K := K) h
  case al => exact (h : False).elim
  case bx => exact (h : False).elim
  case mk => exact (h : False).elim
  case st => exact (h : False).elim
  case callv => exact (h : False).elim
  case mm => exact (h : False).elim
  case mu => exact (h : False).elim
  all_goals exact xq_val_pure rfl h
theorem xf1_xo_pure {op : XOp} {dst : Option Nat} {d : D} (hp : op.pureB = true) (h : xf1 P st op d) : xo P dst st (fun d' st' => d' = d ∧ st' = st) op := by
  have h' : xp st (fun d' => d' = d) op := by cases op <;> first | exact h | (simp [XOp.pureB] at hp)
  have h2 : xp st (fun d' => d' = d ∧ st = st) op := xp_mono (fun d' e => ⟨e, rfl⟩) h'
  cases op <;> first | exact h2 | (simp [XOp.pureB] at hp)
theorem xf1_xo {op : XOp} {dst : Option Nat} {d : D} (h : xf1 P st op d) : xo P dst st (fun d' st' => d' = d ∧ st' = st) op := by
  cases op
  case call f xs => exact ⟨h.1, XC.of_rdr h.2 ⟨rfl, rfl⟩⟩
  case pick c a b =>
    have h2 : xp st (fun d' => d' = d ∧ st = st) (.pick c a b) := xp_mono (fun d' e => ⟨e, rfl⟩) (show xp st (fun d' => d' = d) (.pick c a b) from h)
    exact h2
  case al => exact (h : False).elim
  case bx => exact (h : False).elim
  case mk => exact (h : False).elim
  case st => exact (h : False).elim
  case callv => exact (h : False).elim
  case mm => exact (h : False).elim
  case mu => exact (h : False).elim
  all_goals exact xf1_xo_pure rfl h
section
variable {f1 f2 : Nat → D}
theorem xaddr_fr {d : D} {p : Prop} (h : xaddr { st with fr := f1 } d p) : xaddr { st with fr := f2 } d p := by cases d <;> exact h
theorem xfield_fr {off sz f : Nat} {d : D} {K : D → Prop} (h : xfield { st with fr := f1 } off sz f d K) : xfield { st with fr := f2 } off sz f d K := by cases d <;> exact h
theorem xidx_fr {es : Nat} {d i : D} {K : D → Prop} (h : xidx { st with fr := f1 } es d i K) : xidx { st with fr := f2 } es d i K := by cases d <;> cases i <;> exact h
theorem xload_fr {sz : Nat} {ag : Bool} {d : D} {K : D → Prop} (h : xload { st with fr := f1 } sz ag d K) : xload { st with fr := f2 } sz ag d K := by cases d <;> exact h
theorem xlk_fr {d e : D} {K : D → Prop} (h : xlk { st with fr := f1 } d e K) : xlk { st with fr := f2 } d e K := by cases d <;> cases e <;> exact h
theorem xlenl_fr {d : D} {K : D → Prop} (h : xlenl { st with fr := f1 } d K) : xlenl { st with fr := f2 } d K := by cases d <;> exact h
theorem xf1_fr {op : XOp} {d : D} (ho : ∀ x ∈ op.sl, x.ev { st with fr := f2 } = x.ev { st with fr := f1 }) (h : xf1 P { st with fr := f1 } op d) : xf1 P { st with fr := f2 } op d := by
  cases op
  case call f xs =>
    have e : xs.map (Opd.ev { st with fr := f2 }) = xs.map (Opd.ev { st with fr := f1 }) := List.map_congr_left fun x hx => ho x hx
    simp only [xf1] at h ⊢
    rw [e]
    exact h
  case fnm f xs =>
    have e : xs.map (Opd.ev { st with fr := f2 }) = xs.map (Opd.ev { st with fr := f1 }) := List.map_congr_left fun x hx => ho x hx
    simp only [xf1, xp] at h ⊢
    rw [e]
    exact h
  all_goals simp only [XOp.sl, List.mem_cons, List.not_mem_nil, or_false, forall_eq_or_imp, forall_eq] at ho
  all_goals simp only [xf1, xp] at h ⊢
  case nilc x => rw [ho]; exact xaddr_fr h
  case fa => rw [ho]; exact xfield_fr h
  case ix => rw [ho.1, ho.2]; exact xidx_fr h
  case ld => rw [ho]; exact xload_fr h
  case lenl => rw [ho]; exact xlenl_fr h
  case lk => rw [ho.1, ho.2]; exact xlk_fr h
  case pick => rw [ho.1, ho.2.1, ho.2.2]; exact h
  all_goals first | (rw [ho]; exact h) | (rw [ho.1, ho.2]; exact h)
end
def xfact (P : Program) (st : St) (c : COp) (d : D) : Prop := match c.gd with
  | none => xf1 P st c.op d
  | some (t, w) => (st.fr t = .bool w ∧ xf1 P st c.op d) ∨ ((st.fr t = .bool (!w) ∨ st.fr t = .undef) ∧ d = .undef)
theorem opdS_mem : ∀ {xs : List Opd} {i : Nat}, Opd.t i ∈ xs → i ∈ opdS xs
  | x :: xs, i, h => by
    cases x with
    | t j =>
      rcases List.mem_cons.1 h with e | h
      · cases e; exact List.mem_cons_self ..
      · exact List.mem_cons_of_mem _ (opdS_mem (xs := xs) h)
    | k d =>
      rcases List.mem_cons.1 h with e | h
      · cases e
      · exact opdS_mem (xs := xs) h
  | [], _, h => by simp at h
theorem xfact_fr {f1 f2 : Nat → D} {c : COp} {d : D} (hs : ∀ s ∈ c.slots, f2 s = f1 s) (h : xfact P { st with fr := f1 } c d) : xfact P { st with fr := f2 } c d := by
  have ho : (∀ s ∈ opdS c.op.sl, f2 s = f1 s) → xf1 P { st with fr := f1 } c.op d → xf1 P { st with fr := f2 } c.op d := fun h => xf1_fr fun x hx => by
    cases x with
    | k d => rfl
    | t i => exact h i (opdS_mem hx)
  unfold xfact at h ⊢
  unfold COp.slots at hs
  cases hg : c.gd with
  | none =>
    simp only [hg] at h hs ⊢
    exact ho hs h
  | some q =>
    obtain ⟨t, w⟩ := q
    simp only [hg] at h hs ⊢
    have ht := hs t (List.mem_cons_self ..)
    rw [ht]
    exact h.imp (fun q => ⟨q.1, ho (fun s hx => hs s (List.mem_cons_of_mem _ hx)) q.2⟩) id
def updO (fr : Nat → D) (s : Option Nat) (d : D) : Nat → D := match s with
  | some s => upd fr s d
  | none => fr
def puts : List COp → List D → (Nat → D) → Nat → D
  | c :: l, d :: ds, fr => puts l ds (updO fr c.dst d)
  | _, _, fr => fr
theorem xqs_facts {K : St → Prop} : ∀ {l : List COp} {st : St}, (l.all fun c => c.dst.isSome) = true → xqs P n l st K → ∃ ds, ds.length = l.length ∧
    (∀ i c, l[i]? = some c → ∃ d, ds[i]? = some d ∧ xfact P { st with fr := puts (l.take i) (ds.take i) st.fr } c d ∧ ∀ s, c.dst = some s → s < n) ∧ K { st with fr := puts l ds st.fr }
  | [], st, _, h => ⟨[], rfl, fun i c h => by simp at h, h⟩
  | ⟨dst, op, gd⟩ :: l, st, hd, h => by
    simp only [List.all_cons, Bool.and_eq_true] at hd
    obtain ⟨s, rfl⟩ := Option.isSome_iff_exists.1 hd.1
    have go : ∀ d, (putN n (some s) d st fun st2 => xqs P n l st2 K) → xfact P st ⟨some s, op, gd⟩ d → ∃ ds, ds.length = (⟨some s, op, gd⟩ :: l : List COp).length ∧
        (∀ i c, (⟨some s, op, gd⟩ :: l : List COp)[i]? = some c → ∃ d, ds[i]? = some d ∧ xfact P { st with fr := puts ((⟨some s, op, gd⟩ :: l : List COp).take i) (ds.take i) st.fr } c d ∧ ∀ s, c.dst = some s → s < n) ∧ K { st with fr := puts (⟨some s, op, gd⟩ :: l) ds st.fr } := fun d hk hf => by
      obtain ⟨ds, h1, h2, h3⟩ := xqs_facts hd.2 hk.2
      refine ⟨d :: ds, by simp [h1], fun i c hc => ?_, h3⟩
      cases i with
      | zero =>
        simp at hc
        subst hc
        exact ⟨d, rfl, hf, fun s' e => by cases e; exact hk.1⟩
      | succ i =>
        obtain ⟨d', q1, q2, q3⟩ := h2 i c (by simpa using hc)
        exact ⟨d', by simpa using q1, q2, q3⟩
    have run : xq P st (fun d => putS n (some s) d st fun st2 => xqs P n l st2 K) op → ∃ d, (putN n (some s) d st fun st2 => xqs P n l st2 K) ∧ xf1 P st op d := fun h => by
      obtain ⟨d, hk, hf⟩ := xq_val h
      rw [putS_eq] at hk
      exact ⟨d, hk, hf⟩
    cases gd with
    | none =>
      obtain ⟨d, hk, hf⟩ := run h
      exact go d hk hf
    | some q =>
      obtain ⟨t, w⟩ := q
      simp only [xqs] at h
      have no : (putN n (some s) .undef st fun st2 => xqs P n l st2 K) → (st.fr t = .bool (!w) ∨ st.fr t = .undef) → ∃ ds, ds.length = (⟨some s, op, some (t, w)⟩ :: l : List COp).length ∧
          (∀ i c, (⟨some s, op, some (t, w)⟩ :: l : List COp)[i]? = some c → ∃ d, ds[i]? = some d ∧ xfact P { st with fr := puts ((⟨some s, op, some (t, w)⟩ :: l : List COp).take i) (ds.take i) st.fr } c d ∧ ∀ s, c.dst = some s → s < n) ∧ K { st with fr := puts (⟨some s, op, some (t, w)⟩ :: l) ds st.fr } :=
        fun hk ht => go .undef hk (.inr ⟨ht, rfl⟩)
      have yes : (xq P st (fun d => putS n (some s) d st fun st2 => xqs P n l st2 K) op) → st.fr t = .bool w → ∃ ds, ds.length = (⟨some s, op, some (t, w)⟩ :: l : List COp).length ∧
          (∀ i c, (⟨some s, op, some (t, w)⟩ :: l : List COp)[i]? = some c → ∃ d, ds[i]? = some d ∧ xfact P { st with fr := puts ((⟨some s, op, some (t, w)⟩ :: l : List COp).take i) (ds.take i) st.fr } c d ∧ ∀ s, c.dst = some s → s < n) ∧ K { st with fr := puts (⟨some s, op, some (t, w)⟩ :: l) ds st.fr } :=
        fun h ht => by
          obtain ⟨d, hk, hf⟩ := run h
          exact go d hk (.inl ⟨ht, hf⟩)
      cases ht : st.fr t
      case bool b =>
        rw [ht] at h
        cases b <;> cases w <;> simp only [xguard] at h
        · exact yes (h.no rfl) ht
        · exact no (h.no rfl) (.inl ht)
        · exact no (h.yes rfl) (.inl ht)
        · exact yes (h.yes rfl) ht
      case undef =>
        rw [ht] at h
        exact no h (.inr ht)
      all_goals (rw [ht] at h; simp [xguard] at h)
theorem distB_some : ∀ {l : List COp}, distB l = true → (l.all fun c => c.dst.isSome) = true
  | [], _ => rfl
  | c :: l, h => by
    simp only [distB] at h
    split at h
    · rename_i s hs
      simp only [Bool.and_eq_true] at h
      simp [hs, distB_some h.2, List.all_cons] <;> simpa using distB_some h.2
    · cases h
theorem distB_ix : ∀ {l : List COp}, distB l = true → ∀ {i : Nat} {c : COp} {s : Nat}, l[i]? = some c → c.dst = some s → dix l s = some i
  | [], _, i, c, s, h, _ => by simp at h
  | x :: l, hd, i, c, s, h, hs => by
    simp only [distB] at hd
    split at hd
    · rename_i s0 hs0
      simp only [Bool.and_eq_true, Option.isNone_iff_eq_none] at hd
      cases i with
      | zero => simp at h; subst h; simp [dix, hs]
      | succ i =>
        have := distB_ix hd.2 (i := i) (by simpa using h) hs
        have hne : ¬ x.dst = some s := fun e => by
          rw [hs0] at e
          cases e
          rw [hd.1] at this
          cases this
        simp [dix, hne, this]
    · cases hd
theorem dix_get : ∀ {l : List COp} {s j : Nat}, dix l s = some j → ∃ c, l[j]? = some c ∧ c.dst = some s
  | [], s, j, h => by simp [dix] at h
  | c :: l, s, j, h => by
    simp only [dix] at h
    split at h
    · simp at h; subst h; exact ⟨c, rfl, ‹_›⟩
    · simp only [Option.map_eq_some_iff] at h
      obtain ⟨k, hk, rfl⟩ := h
      obtain ⟨c', h1, h2⟩ := dix_get hk
      exact ⟨c', by simpa using h1, h2⟩
theorem puts_eq : ∀ {l : List COp} {ds : List D} {fr : Nat → D} {s : Nat}, distB l = true → ds.length = l.length → puts l ds fr s = match dix l s with
    | some j => ds.getD j .undef
    | none => fr s
  | [], ds, fr, s, _, _ => by cases ds <;> rfl
  | c :: l, [], fr, s, _, h => by simp at h
  | c :: l, d :: ds, fr, s, hd, hl => by
    simp only [distB] at hd
    split at hd
    · rename_i s0 hs0
      simp only [Bool.and_eq_true, Option.isNone_iff_eq_none] at hd
      simp only [puts, hs0, updO]
      rw [puts_eq hd.2 (by simpa using hl)]
      by_cases e : s0 = s
      · subst e
        simp [dix, hs0, hd.1, upd_apply]
      · have hne : ¬ c.dst = some s := fun q => e (by rw [hs0] at q; cases q; rfl)
        simp only [dix, if_neg hne]
        cases hx : dix l s with
        | none => simp [upd_apply, Ne.symm e]
        | some j => simp
    · cases hd
theorem dix_take : ∀ {l : List COp} {i s : Nat}, dix (l.take i) s = (dix l s).filter (fun j => decide (j < i))
  | [], i, s => by simp [dix]
  | c :: l, 0, s => by
    cases hq : dix (c :: l) s <;> simp [dix]
  | c :: l, i + 1, s => by
    simp only [List.take_succ_cons, dix]
    by_cases hq : c.dst = some s
    · rw [if_pos hq, if_pos hq]
      simp [Option.filter]
    · rw [if_neg hq, if_neg hq, dix_take]
      cases hx : dix l s with
      | none => rfl
      | some j => by_cases hj : j < i <;> simp [Option.filter, hj]
theorem distB_take : ∀ {l : List COp} {i : Nat}, distB l = true → distB (l.take i) = true
  | [], i, _ => by simp [distB]
  | c :: l, 0, _ => rfl
  | c :: l, i + 1, h => by
    simp only [distB] at h
    split at h
    · rename_i s hs
      simp only [Bool.and_eq_true, Option.isNone_iff_eq_none] at h
      simp only [List.take_succ_cons, distB, hs, Bool.and_eq_true, Option.isNone_iff_eq_none]
      exact ⟨by rw [dix_take, h.1]; rfl, distB_take h.2⟩
    · cases h
theorem depGo_get {l : List COp} : ∀ {cs : List COp} {os : List Oper} {k : Nat}, depGo l k cs os = true → cs.length = os.length ∧ ∀ i c o, cs[i]? = some c → os[i]? = some o → depAt l (k + i) c o = true
  | [], [], k, _ => ⟨rfl, fun i c o h => by simp at h⟩
  | [], _ :: _, k, h => by simp [depGo] at h
  | _ :: _, [], k, h => by simp [depGo] at h
  | c :: cs, o :: os, k, h => by
    simp only [depGo, Bool.and_eq_true] at h
    obtain ⟨h1, h2⟩ := depGo_get h.2
    refine ⟨by simp [h1], fun i c' o' hc ho => ?_⟩
    cases i with
    | zero => simp at hc ho; subst hc; subst ho; exact h.1
    | succ i =>
      have := h2 i c' o' (by simpa using hc) (by simpa using ho)
      rw [show k + (i + 1) = k + 1 + i by omega]
      exact this
theorem cOpers_get {ops : Array Oper} : ∀ {os : List Oper} {l : List COp}, cOpers P ops os = some l → ∀ {i : Nat} {o : Oper}, os[i]? = some o → ∃ c, l[i]? = some c ∧ cOper P ops o = some c
  | [], l, h, i, o, ho => by simp at ho
  | x :: os, l, h, i, o, ho => by
    simp only [cOpers] at h
    split at h
    · rename_i c l' h1 h2
      simp only [Option.some.injEq] at h
      subst h
      cases i with
      | zero => simp at ho; subst ho; exact ⟨c, rfl, h1⟩
      | succ i =>
        obtain ⟨c', q1, q2⟩ := cOpers_get h2 (i := i) (by simpa using ho)
        exact ⟨c', by simpa using q1, q2⟩
    · cases h
theorem countP_one {f g : Nat → Bool} {i : Nat} (hf : f i = true) (hg : g i = false) (ho : ∀ j, j ≠ i → f j = g j) : ∀ m, i < m → (List.range m).countP f = (List.range m).countP g + 1
  | 0, h => by omega
  | m + 1, h => by
    rw [List.range_succ, List.countP_append, List.countP_append]
    by_cases e : i = m
    · subst e
      have : (List.range i).countP f = (List.range i).countP g := List.countP_congr fun j hj => by
        have : j ≠ i := by have := List.mem_range.1 hj; omega
        rw [ho j this]
      rw [this]
      simp [hf, hg]
    · have := countP_one hf hg ho m (by omega)
      rw [this]
      have hm : f m = g m := ho m (Ne.symm e)
      simp [List.countP_cons, hm]
      omega
def gfr (l : List COp) (ds : List D) (fr : Nat → D) (listed : Array Bool) (s : Nat) : D := match dix l s with
  | some j => if listed.getD j false = true then ds.getD j .undef else fr s
  | none => fr s
theorem any_sound {ops : Array Oper} {l : List COp} {ds : List D} {Q : Post} (hl : cOpers P ops ops.toList = some l) (hd : depB ops l = true) (hlen : ds.length = l.length)
    (hf : ∀ i c, l[i]? = some c → ∃ d, ds[i]? = some d ∧ xfact P { st with fr := puts (l.take i) (ds.take i) st.fr } c d ∧ ∀ s, c.dst = some s → s < n)
    (hQ : Q .normal { st with fr := puts l ds st.fr }) {F : Fix} :
    ∀ (fuel : Nat) (listed : Array Bool) (g : G) (a : Act) (w : World), listed.size = ops.size → (List.range ops.size).countP (fun j => !listed.getD j true) = fuel →
      Holds F n g { st with fr := gfr l ds st.fr listed } a w → wpAny P .any ops (lift F n Q) fuel listed a w := by
  simp only [depB, Bool.and_eq_true] at hd
  obtain ⟨hdist, hgo⟩ := hd
  obtain ⟨hll, hdep⟩ := depGo_get hgo
  have fin : ∀ (listed : Array Bool) (g : G) (a : Act) (w : World), (∀ j, j < ops.size → listed.getD j false = true) → Holds F n g { st with fr := gfr l ds st.fr listed } a w → lift F n Q .normal a w := fun listed g a w hall hH => by
    refine ⟨g, _, hH, ?_⟩
    have e : gfr l ds st.fr listed = puts l ds st.fr := by
      funext s
      rw [puts_eq hdist hlen]
      unfold gfr
      cases hx : dix l s with
      | none => rfl
      | some j =>
        obtain ⟨c, hc, _⟩ := dix_get hx
        have hj : j < l.length := (List.getElem?_eq_some_iff.1 hc).1
        have : j < ops.size := by rw [hll] at hj; simpa using hj
        simp only [if_pos (hall j this)]
    show Q .normal { st with fr := gfr l ds st.fr listed }
    rw [e]
    exact hQ
  have hbase : ∀ (listed : Array Bool), listed.size = ops.size → Region.ready .any ops listed = [] → ∀ j, j < ops.size → listed.getD j false = true := fun listed hsz hr j => by
    induction j using Nat.strongRecOn with
    | ind j ih =>
      intro hj
      cases hq : listed.getD j false with
      | true => rfl
      | false =>
        exfalso
        have hjs : j < listed.size := by omega
        have : j ∈ Region.ready .any ops listed := by
          rw [mem_ready]
          have ho : ops[j]? = some ops[j] := by simp [hj]
          refine ⟨by simpa [hjs] using hq, ops[j], ho, fun e he hb => ?_⟩
          obtain ⟨c, hc, _⟩ := cOpers_get hl (i := j) (o := ops[j]) (by simp [hj])
          have hA := hdep j c ops[j] hc (by simp [hj])
          simp only [depAt, Bool.and_eq_true, Nat.zero_add] at hA
          have := (Array.all_eq_true'.1 hA.2) e he
          simp only [hb, Bool.not_true, Bool.false_or, decide_eq_true_eq] at this
          exact ih e.on this (by omega)
        rw [hr] at this
        cases this
  intro fuel
  induction fuel with
  | zero =>
    intro listed g a w hsz hcnt hH
    have hall : ∀ j, j < ops.size → listed.getD j false = true := fun j hj => by
      have := (List.countP_eq_zero.1 hcnt) j (List.mem_range.2 hj)
      have hjs : j < listed.size := by omega
      simpa [hjs] using this
    refine ⟨?_, fin listed g a w hall hH⟩
    cases hr : Region.ready .any ops listed with
    | nil => rfl
    | cons i is =>
      exfalso
      have hi : i ∈ Region.ready .any ops listed := by rw [hr]; exact List.mem_cons_self ..
      obtain ⟨h1, o, h2, _⟩ := mem_ready.1 hi
      have hlt : i < ops.size := (Array.getElem?_eq_some_iff.1 h2).1
      have := hall i hlt
      have his : i < listed.size := by omega
      simp [his] at h1 this
      rw [h1] at this
      cases this
  | succ fuel ih =>
    intro listed g a w hsz hcnt hH
    refine ⟨fun hr => fin listed g a w (hbase listed hsz hr) hH, fun i hi => ?_⟩
    obtain ⟨hun, o, ho, haf⟩ := mem_ready.1 hi
    have hlt : i < ops.size := (Array.getElem?_eq_some_iff.1 ho).1
    have his : i < listed.size := by omega
    have ho' : ops.toList[i]? = some o := by simpa using ho
    obtain ⟨c, hc, hco⟩ := cOpers_get hl ho'
    obtain ⟨d, hdi, hfact, hsn⟩ := hf i c hc
    obtain ⟨hdst, hop, hg⟩ := cOper_spec hco
    have hA := hdep i c o hc ho'
    simp only [depAt, Bool.and_eq_true, Nat.zero_add] at hA
    have hdl : ds.getD i .undef = d := by simp [hdi]
    obtain ⟨s, hs⟩ : ∃ s, c.dst = some s := by
      have := distB_some hdist
      rw [List.all_eq_true] at this
      exact Option.isSome_iff_exists.1 (this c (List.mem_of_getElem? hc))
    have hfact' : xfact P { st with fr := gfr l ds st.fr listed } c d := by
      refine xfact_fr (st := st) (f1 := puts (l.take i) (ds.take i) st.fr) (fun t ht => ?_) hfact
      rw [puts_eq (distB_take hdist) (by simp [hlen]), dix_take]
      have hq := (List.all_eq_true.1 hA.1) t ht
      unfold gfr
      cases hx : dix l t with
      | none => rfl
      | some j =>
        rw [hx] at hq
        simp only [Bool.and_eq_true, decide_eq_true_eq] at hq
        obtain ⟨hj, hw⟩ := hq
        obtain ⟨e, he, hb⟩ := Array.any_eq_true'.1 hw
        simp only [Bool.and_eq_true, beq_iff_eq] at hb
        have hlist := haf e he hb.1
        rw [hb.2] at hlist
        have hds : j < ds.length := by
          obtain ⟨c2, hc2, _⟩ := dix_get hx
          have := (List.getElem?_eq_some_iff.1 hc2).1
          omega
        simp only [Option.filter, hj, decide_true, if_true, hlist]
        simp [hj, hds, List.getElem?_take]
    have next : ∀ (g' : G) (v : Value) (w' : World), Holds F n g' { st with fr := gfr l ds st.fr listed } a w' → RelS g' { st with fr := gfr l ds st.fr listed } w' d v → wpAny P .any ops (lift F n Q) fuel (listed.setIfInBounds i true) (a.put o.dst v) w' := fun g' v w' hH' hR' => by
      have h1 := hH'.put (hsn s hs) hR'
      have e1 : (({ st with fr := gfr l ds st.fr listed } : St).put s d) = { st with fr := gfr l ds st.fr (listed.setIfInBounds i true) } := by
        show ({ st with fr := upd (gfr l ds st.fr listed) s d } : St) = _
        congr 1
        funext t
        rw [upd_apply]
        split
        · rename_i ht
          subst ht
          unfold gfr
          rw [distB_ix hdist hc hs]
          have : (listed.setIfInBounds i true).getD i false = true := by simp [his]
          simp only [this, if_true, hdl]
        · rename_i ht
          unfold gfr
          cases hx : dix l t with
          | none => rfl
          | some j =>
            have hji : i ≠ j := fun e => by
              subst e
              obtain ⟨c2, hc2, hd2⟩ := dix_get hx
              rw [hc] at hc2
              cases hc2
              rw [hs] at hd2
              cases hd2
              exact ht rfl
            simp only [getD_set_ne false hji]
      rw [e1] at h1
      rw [← hdst, hs]
      refine ih _ g' _ w' (by simp [hsz]) ?_ h1
      have := countP_one (f := fun j => !listed.getD j true) (g := fun j => !(listed.setIfInBounds i true).getD j true) (i := i) (by simp only [hun]; rfl) (by simp [his]) (fun j hj => by rw [getD_set_ne true (Ne.symm hj)]) ops.size hlt
      omega
    show wpOp P ops (lift F n Q) i _ a w
    unfold wpOp
    rw [ho]
    simp only
    have run : xf1 P { st with fr := gfr l ds st.fr listed } c.op d → o.wp P a w (wpAny P .any ops (lift F n Q) fuel (listed.setIfInBounds i true)) (lift F n Q) := fun h1 =>
      xop_sound hH o (xo_sound hop (xf1_xo (dst := o.dst) h1)) fun d' v st' g' w' hK hH' hR' => by
        obtain ⟨rfl, rfl⟩ := hK
        exact next g' v w' hH' hR'
    unfold xfact at hfact'
    cases hgd : c.gd with
    | none =>
      rw [hgd] at hg
      simp only [hgd] at hfact'
      rw [if_pos (wanted_none hg _)]
      exact .inl (run hfact')
    | some q =>
      obtain ⟨t, want⟩ := q
      rw [hgd] at hg
      simp only [hgd] at hfact'
      obtain ⟨hw1, hw2⟩ := wanted_of hH hg
      rcases hfact' with ⟨ht, h1⟩ | ⟨ht, h1⟩
      · rw [hw1 _ ht]
        simp only [beq_self_eq_true, if_true]
        exact .inl (run h1)
      · have hno : Region.wanted o (yielded ops a.tmps) = false := by
          rcases ht with ht | ht
          · rw [hw1 _ ht]; cases want <;> rfl
          · exact hw2 ht
        rw [hno]
        simp only [Bool.false_eq_true, if_false]
        subst h1
        exact next g undef w hH rfl
theorem region_any (hm : P.follows .mixedOrders = true) {id : Nat} {ops : Array Oper} {l : List COp} {Q : Post} (hl : cOpers P ops ops.toList = some l) (hd : depB ops l = true) (h : xqs P n l st fun st' => Q .normal st') : Sem P n (.region id ops true) st Q := fun F g a w hH => by
  have hd' := hd
  simp only [depB, Bool.and_eq_true] at hd'
  obtain ⟨ds, h1, h2, h3⟩ := xqs_facts (distB_some hd'.1) h
  refine wp_region_any hm ?_
  have hb : Below w.heap.size w { w with drawn := w.drawn + 1 } := (Below.refl _ _).drew
  refine any_sound hl hd h1 h2 h3 _ _ g a _ (by simp) ?_ ?_
  · rw [List.countP_eq_length.2]
    · simp
    · intro j hj
      have := List.mem_range.1 hj
      simp [this]
  · have e : gfr l ds st.fr (Array.replicate ops.size false) = st.fr := by
      funext s
      unfold gfr
      split
      · rename_i j hj
        have : (Array.replicate ops.size false).getD j false = false := by
          rcases Nat.lt_or_ge j ops.size with h | h <;> simp [h]
        simp [this]
      · rfl
    rw [e]
    exact hH.below hb
theorem lastOf_eq : ∀ {l lp : List COp} {x : COp}, lastOf l = some (lp, x) → l = lp ++ [x]
  | [], lp, x, h => by simp [lastOf] at h
  | [c], lp, x, h => by simp [lastOf] at h; obtain ⟨rfl, rfl⟩ := h; rfl
  | c :: d :: l, lp, x, h => by
    simp only [lastOf] at h
    split at h
    · rename_i p y hq
      simp only [Option.some.injEq, Prod.mk.injEq] at h
      obtain ⟨rfl, rfl⟩ := h
      have := lastOf_eq (l := d :: l) hq
      rw [this]
      rfl
    · cases h
theorem elemN_no : ∀ {l : List Nat} {s : Nat}, elemN s l = false → ∀ t ∈ l, t ≠ s
  | a :: l, s, h, t, ht => by
    simp only [elemN, Bool.or_eq_false_iff, beq_eq_false_iff_ne] at h
    rcases List.mem_cons.1 ht with rfl | ht
    · exact h.1
    · exact elemN_no h.2 t ht
  | [], _, _, t, ht => by simp at ht
theorem preGo_get {lp : List COp} {s : Nat} {z : D} : ∀ {cs : List COp} {os : List Oper} {k : Nat}, preGo lp s z k cs os = true → ∀ i c o, cs[i]? = some c → os[i]? = some o → (c.op.alB = true ∧ c.gd = none) ∨ (c.op.alB = false ∧ (∀ t ∈ c.slots, t ≠ s) ∧ ∀ t ∈ c.slots, ∀ j, dix lp t = some j → j < k + i ∧ waitB o j = true)
  | [], os, k, _, i, c, o, hc, _ => by simp at hc
  | c0 :: cs, [], k, h, i, c, o, hc, ho => by simp at ho
  | c0 :: cs, o0 :: os, k, h, i, c, o, hc, ho => by
    simp only [preGo, Bool.and_eq_true] at h
    cases i with
    | zero =>
      simp at hc ho
      subst hc
      subst ho
      obtain ⟨h1, _⟩ := h
      split at h1
      · rename_i z' hop
        exact .inl ⟨by rw [hop]; rfl, by simpa using h1⟩
      · rename_i hop
        simp only [Bool.and_eq_true, Bool.not_eq_true'] at h1
        obtain ⟨⟨_, h2⟩, h3⟩ := h1
        refine .inr ⟨?_, elemN_no h2, fun t ht j hj => ?_⟩
        · cases hq : c0.op <;> first | rfl | exact absurd hq (hop _)
        · have := (List.all_eq_true.1 h3) t ht
          rw [hj] at this
          simp only [Bool.and_eq_true, decide_eq_true_eq] at this
          exact this
    | succ i =>
      have := preGo_get h.2 i c o (by simpa using hc) (by simpa using ho)
      rw [show k + (i + 1) = k + 1 + i by omega]
      exact this
theorem backGo_get : ∀ {os : List Oper} {k : Nat}, backGo k os = true → ∀ i o, os[i]? = some o → ∀ e ∈ o.after, Region.binds .any e = true → e.on < k + i
  | [], k, _, i, o, ho => by simp at ho
  | o0 :: os, k, h, i, o, ho => by
    simp only [backGo, Bool.and_eq_true] at h
    cases i with
    | zero =>
      simp at ho
      subst ho
      intro e he hb
      have := (Array.all_eq_true'.1 h.1) e he
      simpa [hb] using this
    | succ i =>
      have := backGo_get h.2 i o (by simpa using ho)
      rw [show k + (i + 1) = k + 1 + i by omega]
      exact this
theorem sinkGo_get {os : List Oper} {N : Nat} : ∀ {m j : Nat}, sinkGo os N m = true → j < m → ∃ k o, j < k ∧ k ≤ N ∧ os[k]? = some o ∧ waitB o j = true
  | 0, j, _, h => by omega
  | m + 1, j, h, hj => by
    simp only [sinkGo, Bool.and_eq_true] at h
    by_cases e : j = m
    · subst e
      obtain ⟨k, hk, h2⟩ := List.any_eq_true.1 h.1
      simp only [Bool.and_eq_true, decide_eq_true_eq] at h2
      obtain ⟨h3, h4⟩ := h2
      split at h4
      · rename_i o ho
        exact ⟨k, o, h3, by have := List.mem_range.1 hk; omega, ho, h4⟩
      · cases h4
    · exact sinkGo_get h.2 (by omega)
theorem xaddr_bx {s : Nat} {z d : D} {p : Prop} (hs : st.lc s = none) (h : xaddr st d p) : xaddr (st.box s z) d p := by
  cases d <;> try exact h
  obtain ⟨h1, h2, h3⟩ := h
  rename_i s' g q o
  have hne : s' ≠ s := fun e => by rw [e, hs] at h2; cases h2
  exact ⟨by simp [St.box, upd_apply, hne, h1], by simp [St.box, upd_apply, hne, h2], h3⟩
theorem xfield_bx {s off sz f : Nat} {z d : D} {K : D → Prop} (hs : st.lc s = none) (h : xfield st off sz f d K) : xfield (st.box s z) off sz f d K := by
  cases d <;> try exact h
  rotate_left
  · rename_i d'; cases d' <;> exact h
  obtain ⟨h1, h2, h3⟩ := h
  rename_i s' g q o
  have hne : s' ≠ s := fun e => by rw [e, hs] at h2; cases h2
  exact ⟨by simp [St.box, upd_apply, hne, h1], by simp [St.box, upd_apply, hne, h2], h3⟩
theorem xidx_bx {s es : Nat} {z d i : D} {K : D → Prop} (hs : st.lc s = none) (h : xidx st es d i K) : xidx (st.box s z) es d i K := by
  cases d <;> cases i <;> try exact h
  obtain ⟨h1, h2, h3⟩ := h
  rename_i s' g q c _ _
  have hne : s' ≠ s := fun e => by rw [e, hs] at h2; cases h2
  exact ⟨by simp [St.box, upd_apply, hne, h1], by simp [St.box, upd_apply, hne, h2], h3⟩
theorem xload_bx {s sz : Nat} {ag : Bool} {z d : D} {K : D → Prop} (hs : st.lc s = none) (h : xload st sz ag d K) : xload (st.box s z) sz ag d K := by
  cases d <;> try exact h
  obtain ⟨h1, h2⟩ := h
  rename_i s' g q o
  have hne : s' ≠ s := fun e => by rw [e, hs] at h2; exact h2
  have e1 : (st.box s z).lc s' = st.lc s' := by simp [St.box, upd_apply, hne]
  refine ⟨by simp [St.box, upd_apply, hne, h1], ?_⟩
  rw [e1]
  exact h2
theorem xlenl_bx {s : Nat} {z d : D} {K : D → Prop} (hs : st.lc s = none) (h : xlenl st d K) : xlenl (st.box s z) d K := by
  cases d <;> try exact h
  obtain ⟨h1, h2, h3⟩ := h
  rename_i s' g q c
  have hne : s' ≠ s := fun e => by rw [e, hs] at h2; cases h2
  exact ⟨by simp [St.box, upd_apply, hne, h1], by simp [St.box, upd_apply, hne, h2], h3⟩
theorem xlk_bx {s : Nat} {z d e : D} {K : D → Prop} (hs : st.lc s = none) (h : xlk st d e K) : xlk (st.box s z) d e K := by
  cases d <;> cases e <;> try exact h
  obtain ⟨h1, h2⟩ := h
  rename_i s' g k
  have hne : s' ≠ s := fun e => by rw [e, hs] at h2; exact h2
  have e1 : (st.box s z).lc s' = st.lc s' := by simp [St.box, upd_apply, hne]
  refine ⟨by simp [St.box, upd_apply, hne, h1], ?_⟩
  rw [e1]
  exact h2
theorem ev_bx {s : Nat} {z : D} (x : Opd) : x.ev (st.box s z) = x.ev st := by cases x <;> rfl
theorem xf1_bx {s : Nat} {z d : D} {op : XOp} (hs : st.lc s = none) (h : xf1 P st op d) : xf1 P (st.box s z) op d := by
  cases op
  case call f xs =>
    have e : xs.map (Opd.ev (st.box s z)) = xs.map (Opd.ev st) := List.map_congr_left fun x _ => ev_bx x
    simp only [xf1] at h ⊢
    rw [e]
    exact h
  case fnm f xs =>
    have e : xs.map (Opd.ev (st.box s z)) = xs.map (Opd.ev st) := List.map_congr_left fun x _ => ev_bx x
    simp only [xf1, xp] at h ⊢
    rw [e]
    exact h
  all_goals simp only [xf1, xp, ev_bx] at h ⊢
  case nilc => exact xaddr_bx hs h
  case fa => exact xfield_bx hs h
  case ix => exact xidx_bx hs h
  case ld => exact xload_bx hs h
  case lenl => exact xlenl_bx hs h
  case lk => exact xlk_bx hs h
  all_goals exact h
theorem xfact_bx {s : Nat} {z d : D} {c : COp} (hs : st.lc s = none) (h : xfact P st c d) : xfact P (st.box s z) c d := by
  unfold xfact at h ⊢
  cases hg : c.gd with
  | none => simp only [hg] at h ⊢; exact xf1_bx hs h
  | some q =>
    obtain ⟨t, w⟩ := q
    simp only [hg] at h ⊢
    exact h.imp (fun q => ⟨q.1, xf1_bx hs q.2⟩) id
def gfrG (lp : List COp) (G fr : Nat → D) (listed : Array Bool) (t : Nat) : D := match dix lp t with
  | some j => if listed.getD j false = true then G t else fr t
  | none => fr t
def stD (st : St) (lp : List COp) (G : Nat → D) (s : Nat) (z : D) (ia : Nat) (listed : Array Bool) : St :=
  if listed.getD ia false = true then ({ st with fr := gfrG lp G st.fr listed } : St).box s z else { st with fr := gfrG lp G st.fr listed }
theorem stD_fr {lp : List COp} {G : Nat → D} {s ia : Nat} {z : D} {listed : Array Bool} : (stD st lp G s z ia listed).fr = gfrG lp G st.fr listed := by
  unfold stD
  split <;> rfl
theorem alOf_get {s : Nat} {z : D} : ∀ {lp : List COp}, alOf s lp = some z → ∃ (i : Nat) (c : COp), lp[i]? = some c ∧ c.op = .al z ∧ c.dst = some s
  | [], h => by simp [alOf] at h
  | c :: l, h => by
    simp only [alOf] at h
    split at h
    · rename_i z' hop
      split at h
      · rename_i hd
        simp only [Option.some.injEq] at h
        subst h
        exact ⟨0, c, rfl, hop, hd⟩
      · cases h
    · obtain ⟨i, c', h1, h2⟩ := alOf_get h
      exact ⟨i + 1, c', by simpa using h1, h2⟩
theorem oneAl_get {s : Nat} : ∀ {lp : List COp}, oneAl s lp = true → ∀ c ∈ lp, c.op.alB = true → c.dst = some s
  | [], _, c, h, _ => by simp at h
  | x :: l, hh, c, h, ha => by
    simp only [oneAl, Bool.and_eq_true] at hh
    rcases List.mem_cons.1 h with rfl | h
    · simpa [ha] using hh.1
    · exact oneAl_get hh.2 c h ha
theorem wpAny_done {ops : Array Oper} {Q : Exit → Act → World → Prop} {listed : Array Bool} {a : Act} {w : World} (hall : ∀ j, j < ops.size → listed.getD j true = true) (hQ : Q .normal a w) (fuel : Nat) : wpAny P .any ops Q fuel listed a w := by
  have hr : Region.ready .any ops listed = [] := by
    cases hr : Region.ready .any ops listed with
    | nil => rfl
    | cons i is =>
      exfalso
      have hi : i ∈ Region.ready .any ops listed := by rw [hr]; exact List.mem_cons_self ..
      obtain ⟨h1, o, h2, _⟩ := mem_ready.1 hi
      rw [hall i (Array.getElem?_eq_some_iff.1 h2).1] at h1
      cases h1
  cases fuel with
  | zero => exact ⟨hr, hQ⟩
  | succ f => exact ⟨fun _ => hQ, fun i hi => by rw [hr] at hi; cases hi⟩
theorem put_stD {lp : List COp} {G : Nat → D} {s ia i t : Nat} {z d : D} {listed : Array Bool} {c : COp} (hdist : distB lp = true) (hc : lp[i]? = some c) (ht : c.dst = some t) (hG : G t = d) (hia : i ≠ ia) (his : i < listed.size) :
    (stD st lp G s z ia listed).put t d = stD st lp G s z ia (listed.setIfInBounds i true) := by
  have e : upd (gfrG lp G st.fr listed) t d = gfrG lp G st.fr (listed.setIfInBounds i true) := by
    funext u
    rw [upd_apply]
    unfold gfrG
    split
    · rename_i hu
      subst hu
      rw [distB_ix hdist hc ht]
      have : (listed.setIfInBounds i true).getD i false = true := by simp [his]
      simp only [this, if_true, hG]
    · rename_i hu
      cases hx : dix lp u with
      | none => rfl
      | some j =>
        have hji : i ≠ j := fun e => by
          subst e
          obtain ⟨c2, hc2, hd2⟩ := dix_get hx
          rw [hc] at hc2
          cases hc2
          rw [ht] at hd2
          cases hd2
          exact hu rfl
        simp only [getD_set_ne false hji]
  unfold stD
  rw [getD_set_ne false hia, ← e]
  split <;> rfl
theorem any_decl {ops : Array Oper} {lp : List COp} {s sz : Nat} {z : D} {v : Opd} {G0 : Nat → D} {Q : Post}
    (hl : cOpers P ops ops.toList = some (lp ++ [⟨none, .st sz (.t s) v, none⟩])) (hd : declB ops lp s z v = true) (hal : alOf s lp = some z)
    (hfact : ∀ (i : Nat) (c : COp), lp[i]? = some c → c.op.alB = false → ∃ (d : D) (t : Nat), c.dst = some t ∧ G0 t = d ∧ t < n ∧ xfact P { st with fr := G0 } c d)
    (hfree : ∀ t, dix lp t = none → G0 t = st.fr t) (hlc : st.lc s = none) (hsn : s < n)
    (hm : (v.ev { st with fr := G0 }).memB = true) (hln : (v.ev { st with fr := G0 }).len = sz) (hzl : z.len = sz) (hza : (v.ev { st with fr := G0 }).isAgg = z.isAgg)
    (hQ : Q .normal (({ st with fr := upd G0 s (.lref s (st.gen s + 1) [] 0) } : St).box s (v.ev { st with fr := G0 }))) {F : Fix} (ia : Nat) (hia : dix lp s = some ia) :
    ∀ (fuel : Nat) (listed : Array Bool) (g : G) (a : Act) (w : World), listed.size = ops.size → (List.range ops.size).countP (fun j => !listed.getD j true) = fuel →
      (∀ j o, ops[j]? = some o → listed.getD j false = true → ∀ e ∈ o.after, Region.binds .any e = true → listed.getD e.on false = true) → listed.getD lp.length true = false →
      Holds F n g (stD st lp (upd G0 s (.lref s (st.gen s + 1) [] 0)) s z ia listed) a w → wpAny P .any ops (lift F n Q) fuel listed a w := by
  simp only [declB, Bool.and_eq_true, decide_eq_true_eq, Bool.not_eq_true'] at hd
  obtain ⟨⟨⟨⟨⟨⟨⟨hdist, hpre⟩, hback⟩, hsink⟩, hone⟩, hvs⟩, hsize⟩, hzmp⟩ := hd
  have hvev : ∀ (f : Nat → D) (d : D), v.ev ({ st with fr := upd f s d } : St) = v.ev { st with fr := f } := fun f d => by
    cases v with
    | k d => rfl
    | t i =>
      have hne : ¬ i = s := by simpa [notT] using hvs
      show upd f s d i = f i
      rw [upd_apply, if_neg hne]
  obtain ⟨ia', ca, hca, hcaop, hcad⟩ := alOf_get hal
  have hia' : ia' = ia := by
    have := distB_ix hdist hca hcad
    rw [hia] at this
    cases this
    rfl
  subst hia'
  generalize hG : upd G0 s (.lref s (st.gen s + 1) [] 0) = G at *
  have hGs : G s = .lref s (st.gen s + 1) [] 0 := by rw [← hG, upd_apply, if_pos rfl]
  have hGo : ∀ t, t ≠ s → G t = G0 t := fun t ht => by rw [← hG, upd_apply, if_neg ht]
  have hbk : ∀ i o, ops[i]? = some o → ∀ e ∈ o.after, Region.binds .any e = true → e.on < i := fun i o ho e he hb => by
    have := backGo_get hback i o (by simpa using ho) e he hb
    omega
  intro fuel
  induction fuel with
  | zero =>
    intro listed g a w hsz hcnt hcl hN hH
    exfalso
    have := (List.countP_eq_zero.1 hcnt) lp.length (List.mem_range.2 (by omega))
    rw [hN] at this
    simp at this
  | succ fuel ih =>
    intro listed g a w hsz hcnt hcl hN hH
    refine ⟨fun hr => ?_, fun i hi => ?_⟩
    · exfalso
      have hall : ∀ j, j < ops.size → listed.getD j false = true := fun j => by
        induction j using Nat.strongRecOn with
        | ind j ihj =>
          intro hj
          cases hq : listed.getD j false with
          | true => rfl
          | false =>
            exfalso
            have hjs : j < listed.size := by omega
            have : j ∈ Region.ready .any ops listed := by
              rw [mem_ready]
              have ho : ops[j]? = some ops[j] := by simp [hj]
              refine ⟨by simpa [hjs] using hq, ops[j], ho, fun e he hb => ?_⟩
              have := hbk j _ ho e he hb
              exact ihj e.on this (by omega)
            rw [hr] at this
            cases this
      have h1 := hall lp.length (by omega)
      have hls : lp.length < listed.size := by omega
      simp [hls] at h1 hN
      rw [h1] at hN
      cases hN
    obtain ⟨hun, o, ho, haf⟩ := mem_ready.1 hi
    have hlt : i < ops.size := (Array.getElem?_eq_some_iff.1 ho).1
    have his : i < listed.size := by omega
    have hunf : listed.getD i false = false := by simpa [his] using hun
    have ho' : ops.toList[i]? = some o := by simpa using ho
    obtain ⟨c, hc, hco⟩ := cOpers_get hl ho'
    obtain ⟨hdst, hop, hg⟩ := cOper_spec hco
    have hcl' : ∀ j o, ops[j]? = some o → (listed.setIfInBounds i true).getD j false = true → ∀ e ∈ o.after, Region.binds .any e = true → (listed.setIfInBounds i true).getD e.on false = true := fun j o2 ho2 hj e he hb => by
      by_cases hij : i = j
      · subst hij
        rw [ho] at ho2
        cases ho2
        exact getD_set_true (haf e he hb)
      · rw [getD_set_ne false hij] at hj
        exact getD_set_true (hcl j o2 ho2 hj e he hb)
    have hcnt' : (List.range ops.size).countP (fun j => !(listed.setIfInBounds i true).getD j true) = fuel := by
      have := countP_one (f := fun j => !listed.getD j true) (g := fun j => !(listed.setIfInBounds i true).getD j true) (i := i) (by simp only [hun]; rfl) (by simp [his]) (fun j hj => by rw [getD_set_ne true (Ne.symm hj)]) ops.size hlt
      omega
    show wpOp P ops (lift F n Q) i _ a w
    unfold wpOp
    rw [ho]
    simp only
    by_cases hiN : i = lp.length
    · subst hiN
      have hcc : c = ⟨none, .st sz (.t s) v, none⟩ := by simpa using hc.symm
      subst hcc
      simp only at hdst hop hg
      have hlist : ∀ m j, j < lp.length → lp.length - j = m → listed.getD j false = true := fun m => by
        induction m using Nat.strongRecOn with
        | ind m ihm =>
          intro j hj hjm
          obtain ⟨k, ok, h1, h2, h3, h4⟩ := sinkGo_get hsink hj
          obtain ⟨e, he, hb⟩ := Array.any_eq_true'.1 h4
          simp only [Bool.and_eq_true, beq_iff_eq] at hb
          have h3' : ops[k]? = some ok := by simpa using h3
          by_cases hk : k = lp.length
          · subst hk
            rw [ho] at h3'
            cases h3'
            have := haf e he hb.1
            rwa [hb.2] at this
          · have hk' := ihm (lp.length - k) (by omega) k (by omega) rfl
            have := hcl k ok h3' hk' e he hb.1
            rwa [hb.2] at this
      have hial : listed.getD ia' false = true := by
        have : ia' < lp.length := (List.getElem?_eq_some_iff.1 hca).1
        exact hlist _ ia' this rfl
      have hgf : gfrG lp G st.fr listed = G := by
        funext t
        unfold gfrG
        cases hx : dix lp t with
        | none =>
          have hne : t ≠ s := fun e => by subst e; rw [hia] at hx; cases hx
          rw [hGo t hne, hfree t hx]
        | some j =>
          obtain ⟨c2, hc2, _⟩ := dix_get hx
          have := hlist _ j (List.getElem?_eq_some_iff.1 hc2).1 rfl
          simp only [this, if_true]
      have hst : stD st lp G s z ia' listed = ({ st with fr := G } : St).box s z := by
        unfold stD
        rw [if_pos hial, hgf]
      rw [hst] at hH
      rw [if_pos (wanted_none hg _)]
      have hve : v.ev (({ st with fr := G } : St).box s z) = v.ev { st with fr := G0 } := by
        rw [ev_bx, ← hG, hvev]
      have hlcs : (({ st with fr := G } : St).box s z).lc s = some z := by simp [St.box, upd_apply]
      have hgens : (({ st with fr := G } : St).box s z).gen s = st.gen s + 1 := by simp [St.box, upd_apply]
      have hat : z.at [] = some (z, 0) := by cases z <;> rfl
      have hse : z.set [] (v.ev { st with fr := G0 }) = some (v.ev { st with fr := G0 }) := by
        have : z.set [] (v.ev { st with fr := G0 }) = if z.len = (v.ev { st with fr := G0 }).len ∧ z.isAgg = (v.ev { st with fr := G0 }).isAgg then some (v.ev { st with fr := G0 }) else none := by cases z <;> rfl
        rw [this, if_pos ⟨by rw [hzl, hln], hza.symm⟩]
      have hx : xo P none (({ st with fr := G } : St).box s z) (fun d' st' => d' = .undef ∧ st' = ({ st with fr := G } : St).box s (v.ev { st with fr := G0 })) (.st sz (.t s) v) := by
        simp only [xo]
        rw [deepK_eq, hve]
        refine ⟨hm, hln, ?_⟩
        have hps : (Opd.t s).ev (({ st with fr := G } : St).box s z) = .lref s (st.gen s + 1) [] 0 := hGs
        rw [hps]
        simp only [xst, hlcs, hgens, hat, hse, xat, xset, deepK_eq]
        refine ⟨trivial, hzmp, trivial, trivial, ?_⟩
        unfold St.setLc St.box
        simp only
        congr 1
        funext t
        simp only [upd_apply]
        split <;> rfl
      refine .inl (xop_sound hH o (xo_sound hop (hdst ▸ hx)) fun d' v' st' g' w' hK hH' hR' => ?_)
      obtain ⟨rfl, rfl⟩ := hK
      rw [← hdst]
      refine wpAny_done (fun j hj => ?_) ⟨g', _, hH', hQ⟩ fuel
      by_cases hjN : j = lp.length
      · subst hjN
        simp [his]
      · rw [getD_set_ne true (Ne.symm hjN)]
        have := hlist _ j (by omega) rfl
        have hjs : j < listed.size := by omega
        simpa [hjs] using this
    have hiL : i < lp.length := by omega
    have hcp : lp[i]? = some c := by
      rw [List.getElem?_append_left hiL] at hc
      exact hc
    have hN' : (listed.setIfInBounds i true).getD lp.length true = false := by rw [getD_set_ne true hiN]; exact hN
    rcases preGo_get hpre i c o hcp ho' with ⟨hAl, hgd⟩ | ⟨hAl, hns, hdep⟩
    · have hcd := oneAl_get hone c (List.mem_of_getElem? hcp) hAl
      have hii : i = ia' := by
        have := distB_ix hdist hcp hcd
        rw [hia] at this
        cases this
        rfl
      subst hii
      have hcc : c = ca := by rw [hcp] at hca; cases hca; rfl
      rw [hgd] at hg
      rw [if_pos (wanted_none hg _)]
      have hst : stD st lp G s z i listed = { st with fr := gfrG lp G st.fr listed } := by
        unfold stD
        rw [hunf]
        rfl
      rw [hst] at hH
      have hx : xo P (some s) ({ st with fr := gfrG lp G st.fr listed } : St) (fun d' st' => d' = .lref s (st.gen s + 1) [] 0 ∧ st' = ({ st with fr := gfrG lp G st.fr listed } : St).box s z) c.op := by
        rw [hcc, hcaop]
        exact ⟨rfl, rfl⟩
      refine .inl (xop_sound hH o (xo_sound hop (by rw [← hdst, hcd]; exact hx)) fun d' v' st' g' w' hK hH' hR' => ?_)
      obtain ⟨rfl, rfl⟩ := hK
      rw [← hdst, hcd]
      refine ih _ g' _ w' (by simp [hsz]) hcnt' hcl' hN' ?_
      have h1 := hH'.put hsn hR'
      have e1 : (({ st with fr := gfrG lp G st.fr listed } : St).box s z).put s (.lref s (st.gen s + 1) [] 0) = stD st lp G s z i (listed.setIfInBounds i true) := by
        unfold stD
        have : (listed.setIfInBounds i true).getD i false = true := by simp [his]
        rw [if_pos this]
        have e : upd (gfrG lp G st.fr listed) s (.lref s (st.gen s + 1) [] 0) = gfrG lp G st.fr (listed.setIfInBounds i true) := by
          funext u
          rw [upd_apply]
          unfold gfrG
          split
          · rename_i hu
            subst hu
            rw [hia]
            simp only [this, if_true, hGs]
          · rename_i hu
            cases hx : dix lp u with
            | none => rfl
            | some j =>
              have hji : i ≠ j := fun e => by
                subst e
                obtain ⟨c2, hc2, hd2⟩ := dix_get hx
                rw [hcp] at hc2
                cases hc2
                rw [hcd] at hd2
                cases hd2
                exact hu rfl
              simp only [getD_set_ne false hji]
        rw [← e]
        rfl
      rw [e1] at h1
      exact h1
    · obtain ⟨d, t, hct, hGt, htn, hf⟩ := hfact i c hcp hAl
      have hts : t ≠ s := fun e => by
        subst e
        have := distB_ix hdist hcp hct
        rw [hia] at this
        cases this
        rw [hcp] at hca
        cases hca
        rw [hcaop] at hAl
        cases hAl
      have hii : i ≠ ia' := fun e => by
        subst e
        rw [hcp] at hca
        cases hca
        rw [hcaop] at hAl
        cases hAl
      have hf1 : xfact P { st with fr := gfrG lp G st.fr listed } c d := xfact_fr (st := st) (f1 := G0) (fun u hu => by
        unfold gfrG
        cases hx : dix lp u with
        | none => exact (hfree u hx).symm
        | some j =>
          obtain ⟨hj, hw⟩ := hdep u hu j hx
          obtain ⟨e, he, hb⟩ := Array.any_eq_true'.1 hw
          simp only [Bool.and_eq_true, beq_iff_eq] at hb
          have hlist := haf e he hb.1
          rw [hb.2] at hlist
          simp only [hlist, if_true]
          exact hGo u (hns u hu)) hf
      have hf2 : xfact P (stD st lp G s z ia' listed) c d := by
        unfold stD
        split
        · exact xfact_bx (st := { st with fr := gfrG lp G st.fr listed }) hlc hf1
        · exact hf1
      have next : ∀ (g' : Go.Ab.G) (v' : Value) (w' : World), Holds F n g' (stD st lp G s z ia' listed) a w' → RelS g' (stD st lp G s z ia' listed) w' d v' → wpAny P .any ops (lift F n Q) fuel (listed.setIfInBounds i true) (a.put o.dst v') w' := fun g' v' w' hH' hR' => by
        rw [← hdst, hct]
        refine ih _ g' _ w' (by simp [hsz]) hcnt' hcl' hN' ?_
        have h1 := hH'.put htn hR'
        rw [put_stD hdist hcp hct (by rw [hGo t hts, hGt]) hii his] at h1
        exact h1
      have run : xf1 P (stD st lp G s z ia' listed) c.op d → o.wp P a w (wpAny P .any ops (lift F n Q) fuel (listed.setIfInBounds i true)) (lift F n Q) := fun h1 =>
        xop_sound hH o (xo_sound hop (xf1_xo (dst := o.dst) h1)) fun d' v' st' g' w' hK hH' hR' => by
          obtain ⟨rfl, rfl⟩ := hK
          exact next g' v' w' hH' hR'
      unfold xfact at hf2
      cases hgd : c.gd with
      | none =>
        rw [hgd] at hg
        simp only [hgd] at hf2
        rw [if_pos (wanted_none hg _)]
        exact .inl (run hf2)
      | some q =>
        obtain ⟨tt, want⟩ := q
        rw [hgd] at hg
        simp only [hgd] at hf2
        obtain ⟨hw1, hw2⟩ := wanted_of hH hg
        rcases hf2 with ⟨ht, h1⟩ | ⟨ht, h1⟩
        · rw [hw1 _ ht]
          simp only [beq_self_eq_true, if_true]
          exact .inl (run h1)
        · have hno : Region.wanted o (yielded ops a.tmps) = false := by
            rcases ht with ht | ht
            · rw [hw1 _ ht]; cases want <;> rfl
            · exact hw2 ht
          rw [hno]
          simp only [Bool.false_eq_true, if_false]
          subst h1
          exact next g undef w hH rfl
theorem dix_no : ∀ {l : List COp} {u : Nat}, (∀ c ∈ l, c.dst ≠ some u) → dix l u = none
  | [], u, _ => rfl
  | c :: l, u, h => by
    simp only [dix, if_neg (h c (List.mem_cons_self ..))]
    rw [dix_no fun c' hc => h c' (List.mem_cons_of_mem _ hc)]
    rfl
theorem dix_none : ∀ {l : List COp} {u : Nat}, dix l u = none → ∀ c ∈ l, c.dst ≠ some u
  | c :: l, u, h, c', hc => by
    simp only [dix] at h
    split at h
    · cases h
    · rename_i hne
      rcases List.mem_cons.1 hc with rfl | hc
      · exact hne
      · exact dix_none (by simpa using h) c' hc
  | [], _, _, c', hc => by simp at hc
theorem dix_app : ∀ {X Y : List COp} {u j : Nat}, dix X u = some j → dix (X ++ Y) u = some j ∧ j < X.length
  | [], Y, u, j, h => by simp [dix] at h
  | c :: X, Y, u, j, h => by
    simp only [dix, List.cons_append] at h ⊢
    split at h
    · rename_i hc
      simp only [Option.some.injEq] at h
      subst h
      exact ⟨by rw [if_pos hc], by simp⟩
    · rename_i hc
      simp only [Option.map_eq_some_iff] at h
      obtain ⟨k, hk, rfl⟩ := h
      obtain ⟨h1, h2⟩ := dix_app (Y := Y) hk
      exact ⟨by rw [if_neg hc, h1]; rfl, by simp; omega⟩
theorem distB_filter {p : COp → Bool} : ∀ {l : List COp}, distB l = true → distB (l.filter p) = true
  | [], _ => rfl
  | c :: l, h => by
    simp only [distB] at h
    split at h
    · rename_i s hs
      simp only [Bool.and_eq_true, Option.isNone_iff_eq_none] at h
      rw [List.filter_cons]
      split
      · simp only [distB, hs, Bool.and_eq_true, Option.isNone_iff_eq_none]
        exact ⟨dix_no fun c' hc => dix_none h.1 c' (List.mem_filter.1 hc).1, distB_filter h.2⟩
      · exact distB_filter h.2
    · cases h
theorem region_decl (hm : P.follows .mixedOrders = true) {id : Nat} {ops : Array Oper} {l lq : List COp} {s sz : Nat} {z : D} {v : Opd} {Q : Post} (hl : cOpers P ops ops.toList = some l) (hd : declOf ops l = some (lq, s, z, sz, v))
    (h : xqs P n lq st fun st' => st'.lc s = none ∧ Nat.ble (s + 1) n = true ∧ deepK (v.ev st') fun x => x.memB = true ∧ x.len = sz ∧ z.len = sz ∧ x.isAgg = z.isAgg ∧ Q .normal ((st'.put s (.lref s (st'.gen s + 1) [] 0)).box s x)) : Sem P n (.region id ops true) st Q := fun F g a w hH => by
  unfold declOf at hd
  split at hd
  · rename_i lp sz' s' v' hlast
    split at hd
    · rename_i z' hal
      split at hd
      · rename_i hB
        simp only [Option.some.injEq, Prod.mk.injEq] at hd
        obtain ⟨rfl, rfl, rfl, rfl, rfl⟩ := hd
        have hll := lastOf_eq hlast
        rw [hll] at hl
        have hB' := hB
        simp only [declB, Bool.and_eq_true, decide_eq_true_eq] at hB
        obtain ⟨⟨⟨⟨⟨⟨⟨hdist, hpre⟩, hback⟩, hsink⟩, hone⟩, hvs⟩, hsize⟩, hzmp⟩ := hB
        have hdq : distB (lp.filter fun c => !c.op.alB) = true := distB_filter hdist
        obtain ⟨ds, h1, h2, h3⟩ := xqs_facts (distB_some hdq) h
        obtain ⟨hlc, hsn, h3⟩ := h3
        rw [deepK_eq] at h3
        obtain ⟨hm1, hln, hzl, hza, hQ⟩ := h3
        have hne : ∀ c ∈ lp, c.op.alB = true → c.dst = some s' := oneAl_get hone
        have hfree : ∀ t, dix lp t = none → puts (lp.filter fun c => !c.op.alB) ds st.fr t = st.fr t := fun t ht => by
          rw [puts_eq hdq h1, dix_no fun c hc => dix_none ht c (List.mem_filter.1 hc).1]
        have hfact : ∀ (i : Nat) (c : COp), lp[i]? = some c → c.op.alB = false → ∃ (d : D) (t : Nat), c.dst = some t ∧ puts (lp.filter fun c => !c.op.alB) ds st.fr t = d ∧ t < n ∧ xfact P { st with fr := puts (lp.filter fun c => !c.op.alB) ds st.fr } c d := fun i c hc ha => by
          have hi : i < lp.length := (List.getElem?_eq_some_iff.1 hc).1
          have hci : lp[i] = c := (List.getElem?_eq_some_iff.1 hc).2
          have hsp : lp = lp.take i ++ c :: lp.drop (i + 1) := by
            rw [← hci]
            simp
          have hfl : (lp.filter fun c => !c.op.alB) = ((lp.take i).filter fun c => !c.op.alB) ++ c :: (lp.drop (i + 1)).filter fun c => !c.op.alB := by
            conv => lhs; rw [hsp]
            rw [List.filter_append, List.filter_cons, if_pos (by simp [ha])]
          have hk : (lp.filter fun c => !c.op.alB)[((lp.take i).filter fun c => !c.op.alB).length]? = some c := by
            rw [hfl]
            simp
          have htk : (lp.filter fun c => !c.op.alB).take ((lp.take i).filter fun c => !c.op.alB).length = (lp.take i).filter fun c => !c.op.alB := by
            rw [hfl]
            simp
          obtain ⟨d, hd1, hd2, hd3⟩ := h2 _ c hk
          obtain ⟨t, ht⟩ : ∃ t, c.dst = some t := by
            have := distB_some hdist
            rw [List.all_eq_true] at this
            exact Option.isSome_iff_exists.1 (this c (List.mem_of_getElem? hc))
          refine ⟨d, t, ht, ?_, hd3 t ht, ?_⟩
          · rw [puts_eq hdq h1, distB_ix hdq hk ht]
            simp [hd1]
          · refine xfact_fr (st := st) (f1 := puts ((lp.filter fun c => !c.op.alB).take ((lp.take i).filter fun c => !c.op.alB).length) (ds.take ((lp.take i).filter fun c => !c.op.alB).length) st.fr) (fun u hu => ?_) hd2
            rw [puts_eq hdq h1, puts_eq (distB_take hdq) (by simp [h1]), htk]
            have ho : ops.toList[i]? = some (ops[i]'(by omega)) := by
              have : i < ops.size := by omega
              simp [this]
            rcases preGo_get hpre i c _ hc ho with ⟨q, _⟩ | ⟨_, hns, hdep⟩
            · rw [ha] at q; cases q
            cases hx : dix lp u with
            | none =>
              have e1 : dix (lp.filter fun c => !c.op.alB) u = none := dix_no fun c' hc' => dix_none hx c' (List.mem_filter.1 hc').1
              have e2 : dix ((lp.take i).filter fun c => !c.op.alB) u = none := dix_no fun c' hc' => dix_none hx c' (List.mem_of_mem_take (List.mem_filter.1 hc').1)
              rw [e1, e2]
            | some j =>
              obtain ⟨hj, _⟩ := hdep u hu j hx
              obtain ⟨c2, hc2, hd2'⟩ := dix_get hx
              have hmem : c2 ∈ (lp.take i).filter fun c => !c.op.alB := by
                refine List.mem_filter.2 ⟨List.mem_of_getElem? (i := j) (by rw [List.getElem?_take, if_pos (by omega)]; exact hc2), ?_⟩
                cases hq : c2.op.alB with
                | false => rfl
                | true =>
                  have := hne c2 (List.mem_of_getElem? hc2) hq
                  rw [hd2'] at this
                  cases this
                  exact absurd rfl (hns _ hu)
              cases hy : dix ((lp.take i).filter fun c => !c.op.alB) u with
              | none => exact absurd hd2' (dix_none hy c2 hmem)
              | some k =>
                obtain ⟨q1, q2⟩ := dix_app (Y := c :: (lp.drop (i + 1)).filter fun c => !c.op.alB) hy
                rw [← hfl] at q1
                rw [q1]
                simp [List.getElem?_take, q2]
        obtain ⟨ia, ca, hca, hcaop, hcad⟩ := alOf_get hal
        have hia := distB_ix hdist hca hcad
        refine wp_region_any hm ?_
        have hb : Below w.heap.size w { w with drawn := w.drawn + 1 } := (Below.refl _ _).drew
        have hrep : ∀ j, (Array.replicate ops.size false).getD j false = false := fun j => by
          rcases Nat.lt_or_ge j ops.size with h | h <;> simp [h]
        refine any_decl hl hB' hal hfact hfree hlc (Nat.le_of_ble_eq_true hsn) hm1 hln hzl hza hQ ia hia _ _ g a _ (by simp) ?_ (fun j o _ hj => by rw [hrep] at hj; cases hj) ?_ ?_
        · rw [List.countP_eq_length.2]
          · simp
          · intro j hj
            have := List.mem_range.1 hj
            simp [this]
        · have : lp.length < ops.size := by omega
          simp [this]
        · have e : ∀ G : Nat → D, stD st lp G s' z' ia (Array.replicate ops.size false) = st := fun G => by
            unfold stD
            rw [hrep]
            have e2 : gfrG lp G st.fr (Array.replicate ops.size false) = st.fr := by
              funext u
              unfold gfrG
              split
              · rename_i j hj
                rw [hrep]
                rfl
              · rfl
            rw [e2]
            rfl
          rw [e]
          exact hH.below hb
      · cases hd
    · cases hd
  · cases hd
theorem xcond_mono {d : D} {A B A' B' : Prop} (ha : A → A') (hb : B → B') (h : xcond d A B) : xcond d A' B' := by
  cases d <;> first | exact h.elim | exact Br.mono ha hb h
theorem Sem.mono {c : Code} {Q Q' : Post} (hq : ∀ e st, Q e st → Q' e st) (h : Sem P n c st Q) : Sem P n c st Q' := fun F g a w hH =>
  wp_mono (h F g a w hH) fun e a' w' hl => by
    cases e with
    | normal => obtain ⟨g', st', h1, h2⟩ := hl; exact ⟨g', st', h1, hq _ _ h2⟩
    | exit id => obtain ⟨g', st', h1, h2⟩ := hl; exact ⟨g', st', h1, hq _ _ h2⟩
    | ret => obtain ⟨g', st', h1, h2⟩ := hl; exact ⟨g', st', h1, hq _ _ h2⟩
    | goto l => exact hl.elim
    | panic c => exact hl.elim
    | outgrown => exact hl.elim
theorem xw_sound (hm : P.follows .mixedOrders = true) {nq : List Nat} : ∀ (c : Code) {cc : CC} {st : St} {Q : Post}, compile P nq c = some cc → xw P n cc st Q → Sem P n c st Q
  | .skip, cc, st, Q, hc, h => fun F g a w hH => by simp only [compile, Option.some.injEq] at hc; subst hc; exact wp_skip ⟨g, st, hH, h⟩
  | .region id ops false, cc, st, Q, hc, h => fun F g a w hH => by
    simp only [compile, Option.map_eq_some_iff] at hc
    obtain ⟨l, hl, rfl⟩ := hc
    exact wp_region_list (xops_sound ops.toList hH (xos_sound hl h))
  | .region id ops true, cc, st, Q, hc, h => by
    simp only [compile] at hc
    split at hc
    · rename_i l hl
      split at hc
      · rename_i hb
        simp only [Option.some.injEq] at hc
        subst hc
        simp only [Bool.and_eq_true] at hb
        exact region_any hm hl hb.1.1 h
      · split at hc
        · rename_i lq s z sz v hdl
          split at hc
          · simp only [Option.some.injEq] at hc
            subst hc
            exact region_decl hm hl hdl h
          · simp only [Option.some.injEq] at hc
            subst hc
            exact h.sem hm Q (fun _ h => h)
        · simp only [Option.some.injEq] at hc
          subst hc
          exact h.sem hm Q (fun _ h => h)
    · simp only [Option.some.injEq] at hc
      subst hc
      exact h.sem hm Q (fun _ h => h)
  | .seq x y, cc, st, Q, hc, h => fun F g a w hH => by
    simp only [compile] at hc
    split at hc
    · rename_i p q h1 h2
      simp only [Option.some.injEq] at hc
      subst hc
      refine wp_seq (wp_mono (xw_sound hm x h1 h F g a w hH) fun e a' w' hq => ?_)
      cases e with
      | normal =>
        obtain ⟨g', st', hH', hx⟩ := hq
        exact hx.sem hm nq y h2 F g' a' w' hH'
      | exit id => exact hq
      | ret => exact hq
      | goto l => exact hq
      | panic c => exact hq
      | outgrown => exact hq
    · cases hc
  | .cond c x y, cc, st, Q, hc, h => fun F g a w hH => by
    simp only [compile] at hc
    split at hc
    · rename_i p q h1 h2
      simp only [Option.some.injEq] at hc
      subst hc
      simp only [xw, cOpd_ev] at h
      have hc := hH.ev c
      cases hd : st.ev c
      case bool b =>
        rw [hd] at h hc
        have hv : a.eval c = .bool b := by simpa [RelS, RelV, RelW, RelC] using hc
        cases b
        · exact wp_cond_false hv (xw_sound hm y h2 (h.no rfl) F g a w hH)
        · exact wp_cond_true hv (xw_sound hm x h1 (h.yes rfl) F g a w hH)
      all_goals (rw [hd] at h; exact h.elim)
    · cases hc
  | .block id c, cc, st, Q, hc, h => fun F g a w hH => by
    simp only [compile, Option.map_eq_some_iff] at hc
    obtain ⟨l, hl, rfl⟩ := hc
    refine wp_block (wp_mono (xw_sound hm c hl h F g a w hH) fun e a' w' hq => ?_)
    cases e with
    | normal => exact hq
    | exit i =>
      obtain ⟨g', st', hH', hx⟩ := hq
      simp only [Exit.inBlock]
      by_cases hi : i = id
      · simp only [hi, if_true] at hx ⊢
        exact ⟨g', st', hH', hx⟩
      · simp only [hi, if_false] at hx ⊢
        exact ⟨g', st', hH', hx⟩
    | ret => exact hq
    | goto l => exact hq
    | panic c => exact hq
    | outgrown => exact hq
  | .loop c, cc, st, Q, hc, h => by
    simp only [compile, Option.map_eq_some_iff] at hc
    obtain ⟨l, hl, rfl⟩ := hc
    exact h.sem hm nq c hl
  | .exit id, cc, st, Q, hc, h => fun F g a w hH => by simp only [compile, Option.some.injEq] at hc; subst hc; exact wp_exit ⟨g, st, hH, h⟩
  | .ret, cc, st, Q, hc, h => fun F g a w hH => by simp only [compile, Option.some.injEq] at hc; subst hc; exact wp_ret ⟨g, st, hH, h⟩
  | .rangeFunc .., _, _, _, hc, _ | .scope _, _, _, _, hc, _ | .label _, _, _, _, hc, _ | .goto _, _, _, _, hc, _ | .refuse _, _, _, _, hc, _ => by simp [compile] at hc
theorem XS.go {cc : CC} {Q : Post} (h : xw P n cc st Q) : XS P n cc st Q := ⟨fun hm nq c hc => xw_sound hm c hc h⟩
theorem XS.ghost {cc : CC} {st' : St} {Q : Post} (hg : ∀ F g a w, Holds F n g st a w → ∃ g', Holds F n g' st' a w) (h : XS P n cc st' Q) : XS P n cc st Q :=
  ⟨fun hm nq c hc F g a w hH => by
    obtain ⟨g', hH'⟩ := hg F g a w hH
    exact h.sem hm nq c hc F g' a w hH'⟩
theorem XS.freezeB {cc : CC} {Q : Post} (s : Nat) {c : D} (hl : st.lc s = some c) (h : XS P n cc (st.freezeB s c) Q) (hmp : c.mpB = false := by rfl) : XS P n cc st Q :=
  h.ghost fun _ _ _ _ hH => ⟨_, hH.freezeB hl hmp⟩
theorem XLc.mk' {body : CC} {Q : Post} (I : St → Prop) (m : St → Nat) (h0 : I st) (step : ∀ st', I st' → xw P n body st' fun e st2 => match e with
    | .normal => I st2 ∧ m st2 < m st'
    | e => Q e st2) : XLc P n body st Q :=
  ⟨fun hm nq c hc F g a w hH => by
    refine wp_loop_ix (fun k a w => ∃ g st, Holds F n g st a w ∧ I st ∧ m st = k) ⟨g, st, hH, h0, rfl⟩ ?_
    rintro k a' w' ⟨g', st', hH', hI, rfl⟩
    refine wp_mono (xw_sound hm c hc (step st' hI) F g' a' w' hH') fun e a2 w2 hq => ?_
    cases e with
    | normal =>
      obtain ⟨g2, st2, hH2, hI2, hlt⟩ := hq
      exact ⟨_, hlt, g2, st2, hH2, hI2, rfl⟩
    | exit id => exact hq
    | ret => exact hq
    | goto l => exact hq
    | panic c => exact hq
    | outgrown => exact hq⟩

/-- The results of compiled code. -/
inductive CR where
  | t (i : Nat)
  | c (i sz : Nat) (ag : Bool)
def cRes (P : Program) : List ResultVar → Option (List CR)
  | [] => some []
  | .tmp t :: rs => (cRes P rs).map (.t t :: ·)
  | .cell t ty :: rs => match varOf P ty, cRes P rs with
    | some (sz, ag), some l => some (.c t sz ag :: l)
    | _, _ => none
def xr (st : St) : List CR → (List D → Prop) → Prop
  | [], K => K []
  | .t i :: rs, K => (st.fr i).noL = true ∧ xr st rs fun ds => K (st.fr i :: ds)
  | .c i sz ag :: rs, K => xload st sz ag (st.fr i) fun d => d.noL = true ∧ xr st rs fun ds => K (d :: ds)
theorem xload_mono {sz : Nat} {ag : Bool} {x : D} {K K' : D → Prop} (hk : ∀ d, K d → K' d) (h : xload st sz ag x K) : xload st sz ag x K' := by
  have := xp_mono (st := st) (x := .ld sz ag (.k x)) hk h
  exact this
theorem xr_sound : ∀ {rs : List ResultVar} {l : List CR} {K : List D → Prop}, cRes P rs = some l → xr st l K → xres P st rs K
  | [], l, K, hc, h => by simp only [cRes, Option.some.injEq] at hc; subst hc; exact h
  | .tmp t :: rs, l, K, hc, h => by
    simp only [cRes, Option.map_eq_some_iff] at hc
    obtain ⟨l', hl, rfl⟩ := hc
    exact ⟨h.1, xr_sound hl h.2⟩
  | .cell t ty :: rs, l, K, hc, h => by
    simp only [cRes] at hc
    split at hc
    · rename_i sz ag l' h1 h2
      simp only [Option.some.injEq] at hc
      subst hc
      simp only [xres, h1]
      exact xload_mono (fun d hd => ⟨hd.1, xr_sound h2 hd.2⟩) h
    · cases hc
/-- A whole function, compiled. -/
structure CF where
  n : Nat
  res : List CR
  code : CC
def compileF (P : Program) (nq : List Nat) (f : FuncId) : Option CF :=
  match P.funcs[f]? with
  | some fn => match fn.body with
    | some c => if fn.name == "runtime.NumGoroutine" then none else
      match compile P nq c, cRes P fn.results.toList with
      | some cc, some rs => some ⟨fn.ntmps, rs, cc⟩
      | _, _ => none
    | none => none
  | none => none
def xend (st : St) (rs : List CR) (K : D → (Nat → Option Row) → Prop) : Prop := xr st rs fun ds => K (mkRes ds) st.hp
/-- The same, with a local row handed out. -/
def xendR (st : St) (rs : List CR) (K : D → (Nat → Option Row) → Prop) : Prop :=
  ∃ i s n c ds es, rs = [.t i] ∧ st.fr i = .lsl s (st.gen s) n c ∧ st.lc s = some (.agg ds) ∧ n ≤ ds.length ∧ (∀ d ∈ ds, d.len = es) ∧ K (.ro es (ds.take n)) st.hp
theorem Sem.ghost {n : Nat} {P : Program} {c : Code} {st : St} {Q Q' : Post} (hq : ∀ F g e st a w, Holds F n g st a w → Q e st → ∃ g' st', Holds F n g' st' a w ∧ Q' e st') (h : Sem P n c st Q) : Sem P n c st Q' := fun F g a w hH =>
  wp_mono (h F g a w hH) fun e a' w' hl => by
    cases e with
    | normal => obtain ⟨g', st', h1, h2⟩ := hl; exact hq _ _ _ _ _ _ h1 h2
    | exit id => obtain ⟨g', st', h1, h2⟩ := hl; exact hq _ _ _ _ _ _ h1 h2
    | ret => obtain ⟨g', st', h1, h2⟩ := hl; exact hq _ _ _ _ _ _ h1 h2
    | goto l => exact hl.elim
    | panic c => exact hl.elim
    | outgrown => exact hl.elim
theorem xendR_go {n : Nat} {F : Fix} {g : G} {st : St} {a : Act} {w : World} {rs : List CR} {K : D → (Nat → Option Row) → Prop} (h : Holds F n g st a w) (hx : xend st rs K ∨ xendR st rs K) : ∃ g' st', Holds F n g' st' a w ∧ xend st' rs K := by
  rcases hx with hx | ⟨i, s, n', c, ds, es, rfl, h1, h2, h3, h4, h5⟩
  · exact ⟨g, st, h, hx⟩
  · refine ⟨_, _, h.freeze h2 h4, ?_⟩
    unfold xend
    have e : (st.freeze s es ds).fr i = .ro es (ds.take n') := by
      show frz s (st.gen s) es ds (st.fr i) = _
      rw [h1]
      simp [frz, h3]
    refine ⟨by rw [e]; rfl, ?_⟩
    show K (mkRes [(st.freeze s es ds).fr i]) _
    rw [e]
    exact h5
theorem XC.introR (hm : P.follows .mixedOrders = true) {nq : List Nat} {f : FuncId} {cf : CF} {ds : List D} {hp : Nat → Option Row} {K : D → (Nat → Option Row) → Prop}
    (hc : compileF P nq f = some cf) (hl : ds.length ≤ cf.n)
    (h : xw P cf.n cf.code (St.entry ds hp) fun e st' => match e with
      | .exit _ => False
      | _ => xend st' cf.res K ∨ xendR st' cf.res K) : XC P f ds hp K := by
  unfold compileF at hc
  split at hc
  · rename_i fn hf
    split at hc
    · rename_i c hb
      split at hc
      · cases hc
      · rename_i hnm
        split at hc
        · rename_i cc rs h1 h2
          simp only [Option.some.injEq] at hc
          subst hc
          refine XC.intro (n := fn.ntmps) hf hb ?_ rfl hl ?_
          · unfold callable
            rw [hf]
            simp only [hb, Option.isSome_some, Bool.true_and]
            simpa using hnm
          · refine Sem.ghost ?_ (xw_sound hm c h1 h)
            intro F g e st' a w hH hq
            cases e with
            | normal => obtain ⟨g', st2, q1, q2⟩ := xendR_go hH hq; exact ⟨g', st2, q1, xr_sound h2 q2⟩
            | ret => obtain ⟨g', st2, q1, q2⟩ := xendR_go hH hq; exact ⟨g', st2, q1, xr_sound h2 q2⟩
            | exit id => exact hq.elim
        · cases hc
    · cases hc
  · cases hc
theorem XC.intro' (hm : P.follows .mixedOrders = true) {nq : List Nat} {f : FuncId} {cf : CF} {ds : List D} {hp : Nat → Option Row} {K : D → (Nat → Option Row) → Prop}
    (hc : compileF P nq f = some cf) (hl : ds.length ≤ cf.n)
    (h : xw P cf.n cf.code (St.entry ds hp) fun e st' => match e with
      | .exit _ => False
      | _ => xend st' cf.res K) : XC P f ds hp K := by
  unfold compileF at hc
  split at hc
  · rename_i fn hf
    split at hc
    · rename_i c hb
      split at hc
      · cases hc
      · rename_i hnm
        split at hc
        · rename_i cc rs h1 h2
          simp only [Option.some.injEq] at hc
          subst hc
          refine XC.intro (n := fn.ntmps) hf hb ?_ rfl hl ?_
          · unfold callable
            rw [hf]
            simp only [hb, Option.isSome_some, Bool.true_and]
            simpa using hnm
          · refine Sem.mono ?_ (xw_sound hm c h1 h)
            intro e st' hq
            cases e with
            | normal => exact xr_sound h2 hq
            | ret => exact xr_sound h2 hq
            | exit id => exact hq
        · cases hc
    · cases hc
  · cases hc
theorem Rdr.intro' (hm : P.follows .mixedOrders = true) {nq : List Nat} {f : FuncId} {cf : CF} {ds : List D} {d : D}
    (hc : compileF P nq f = some cf) (hl : ds.length ≤ cf.n)
    (h : xw P cf.n cf.code (St.entry ds fun _ => none) fun e st' => match e with
      | .exit _ => False
      | _ => xend st' cf.res fun d' _ => d' = d) : Rdr P f ds d := .of_XC (.intro' hm hc hl h)
theorem Rdr.introR (hm : P.follows .mixedOrders = true) {nq : List Nat} {f : FuncId} {cf : CF} {ds : List D} {d : D}
    (hc : compileF P nq f = some cf) (hl : ds.length ≤ cf.n)
    (h : xw P cf.n cf.code (St.entry ds fun _ => none) fun e st' => match e with
      | .exit _ => False
      | _ => (xend st' cf.res fun d' _ => d' = d) ∨ xendR st' cf.res fun d' _ => d' = d) : Rdr P f ds d := .of_XC (.introR hm hc hl h)
end
end Go.Ab
