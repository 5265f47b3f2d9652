/- A part of the proof that a law returns true: EvDef EvRel EvState EvHeap EvMem EvStore EvEq EvBin EvSlice EvApp EvOp1 EvOp2. -/
import GoSem.Claims
import Derived.Calls
import Derived.Defers
import Derived.Laws.Sem
import Derived.Laws.StructEq
set_option linter.all false
set_option linter.unusedVariables false
set_option linter.unusedSimpArgs false
set_option linter.unnecessarySimpa false
/- The evaluator: a deterministic big-step reading of the loaded Go code over abstract values, in continuation-passing form. -/
namespace Go.Ev
open Go
noncomputable section

def fail {α : Type} (_ : String) : Option α := none

inductive AV where
  | bool (b : Bool)
  | int (k : IntKind) (n : Int)
  | str (s : List UInt8)
  | nilp
  | ptr (b o : Nat)
  | gptr (g o : Nat)
  | lptr (cs : List AV) (o : Nat)
  | sl (b o len : Nat) (cap : Option Nat)
  | nils
  | list (cs : List AV) (len : Nat) (full : Bool)
  | nilm
  | map (b : Nat)
  | gmap (g : Nat)
  | func (f : FuncId) (first cap : List AV)
  | yield (b : Nat)
  | nilFunc
  | iface (t : TypeId) (v : AV)
  | nilIface
  | agg (cs : List AV)
  | tuple (vs : List AV)
  deriving Inhabited

inductive Tr where
  | nil
  | node (l : Tr) (v : Option AV) (r : Tr)
  deriving Inhabited

noncomputable def Tr.get (t : Tr) : Nat → Option AV :=
  Tr.rec (motive := fun _ => Nat → Option AV) (fun _ => none) (fun _ v _ gl gr i => Bool.rec (Bool.rec (gr (Nat.sub (Nat.div i 2) 1)) (gl (Nat.div i 2)) (Nat.beq (Nat.mod i 2) 1)) v (Nat.beq i 0)) t

noncomputable def Tr.one (x : AV) (f : Nat) : Nat → Tr :=
  Nat.rec (motive := fun _ => Nat → Tr) (fun _ => .nil) (fun _ g i => Bool.rec (Bool.rec (.node .nil none (g (Nat.sub (Nat.div i 2) 1))) (.node (g (Nat.div i 2)) none .nil) (Nat.beq (Nat.mod i 2) 1)) (.node .nil (some x) .nil) (Nat.beq i 0)) f

noncomputable def Tr.set (t : Tr) (i : Nat) (x : AV) : Tr :=
  Tr.rec (motive := fun _ => Nat → Tr) (fun i => Tr.one x (Nat.succ i) i) (fun l v r sl sr i => Bool.rec (Bool.rec (.node l v (sr (Nat.sub (Nat.div i 2) 1))) (.node (sl (Nat.div i 2)) v r) (Nat.beq (Nat.mod i 2) 1)) (.node l (some x) r) (Nat.beq i 0)) t i

def Tr.del : Tr → Nat → Tr
  | .nil, _ => .nil
  | .node l v r, i => bif i == 0 then .node l none r else bif i % 2 == 1 then .node (l.del (i / 2)) v r else .node l v (r.del (i / 2 - 1))

def Tr.ofList : List AV → Nat → Tr → Tr
  | [], _, t => t
  | x :: xs, i, t => ofList xs (i + 1) (t.set i x)

/-- the temporaries that an operation looks at or writes -/
def namesOf (all : Array Oper) (o : Oper) : List Nat :=
  o.dst.toList ++ o.op.operands.toList.filterMap (fun | .tmp t => some t | _ => none) ++
  (match o.guard with
  | some (g, _) => ((all[g]?).bind (·.dst)).toList
  | none => [])

/-- an operation comes behind what it is ordered behind; who writes a temporary is ordered with all others that look at it or write it -/
def regionOk (all : Array Oper) (bef : Array Nat) : Bool :=
  all.toList.zipIdx.all fun (o, j) => o.after.all (fun e => !Region.binds .any e || decide (e.on < j)) &&
    (namesOf all o).all fun d => all.toList.zipIdx.all fun (o', i) => i == j || !(o'.dst == some d) || (bef.getD (max i j) 0).testBit (min i j)

def dstOk (nt : Nat) (ops : Array Oper) : Bool := ops.all fun o => match o.dst with
  | some d => decide (d < nt)
  | none => true

/-- what is asked of a function's code: its regions' temporaries are there, and those that draw an order are well ordered -/
def codeOk (nt : Nat) : Code → Bool
  | .seq a b | .cond _ a b => codeOk nt a && codeOk nt b
  | .block _ b | .loop b | .scope b => codeOk nt b
  | .region _ ops draw => dstOk nt ops && (!draw || regionOk ops (Region.before ops))
  | .rangeFunc _ params assign body => (params.all fun t => decide (t < nt)) && codeOk nt assign && codeOk nt body
  | _ => true

inductive LState where
  | ready | busy | done
  deriving DecidableEq, Inhabited

structure LoopB where
  st : LState
  pending : Option Code
  env : Tr
  nt : Nat
  params : List Nat
  assign : Code
  body : Code
  fn : FuncId
  ok1 : codeOk nt assign = true
  ok2 : codeOk nt body = true

instance : Inhabited LoopB := ⟨{ st := .ready, pending := none, env := .nil, nt := 0, params := [], assign := .skip, body := .skip, fn := 0, ok1 := rfl, ok2 := rfl }⟩

inductive Blk where
  | dead
  | cells (elem : TypeId) (cs : List (Option AV)) (tail frz : Bool)
  | map (es : List (AV × AV))
  | loop (l : LoopB)
  /-- where the machine keeps the deferred calls of the rounds of a range over a function: none -/
  | dmark
  deriving Inhabited

inductive Pan where
  | no | live (v : AV) | done
  deriving Inhabited

inductive Dfr where
  | mark (b : Nat)
  | call (f : FuncId) (args : List AV)
  deriving Inhabited

/-- the blocks, and which cells have been written (block, first cell, how many) -/
structure Hp where
  bl : List Blk
  log : List (Nat × Nat × Nat)
  deriving Inhabited

structure St where
  env : Tr
  nt : Nat
  heap : Hp
  defers : List Dfr
  pan : Pan
  rnd : Bool
  deriving Inhabited

inductive Ex where
  | normal | exit (id : Nat) | ret | panic (v : AV)
  deriving Inhabited

inductive Outc where
  | ret (v : AV) | panic (v : AV)
  deriving Inhabited

/-- what a contract says: a tree of questions -/
inductive CT where
  | leaf (o : Outc)
  | br (b : Bool) (t f : CT)

def CT.ev : CT → Outc
  | .leaf o => o
  | .br b t f => bif b then t.ev else f.ev

def CT.go {R : Type} (k : Outc → Option R) : CT → Option R
  | .leaf o => k o
  | .br b t f => bif b then t.go k else f.go k

theorem CT.go_eq {R : Type} (k : Outc → Option R) (T : CT) : T.go k = k T.ev := by
  induction T with
  | leaf o => rfl
  | br b t f h1 h2 => cases b <;> simp only [CT.go, CT.ev, cond_false, cond_true, h1, h2]

inductive Mode where
  | returning | panicking (v : AV)
  deriving Inhabited

/-- what the evaluator is told beside the program: the globals' cells and maps, contracts that stand for functions -/
structure Ctx where
  P : Program
  /- tables, for the kernel's sake -/
  und : TypeId → Option TypeDesc
  und_ok : ∀ t d, und t = some d → P.underlying t = some d
  info : TypeId → Option TypeInfo
  info_ok : ∀ t i, info t = some i → P.info? t = some i
  fn : FuncId → Option Func
  fn_ok : ∀ f x, fn f = some x → P.funcs[f]? = some x
  held : TypeId → Bool
  held_ok : ∀ t, held t = false → P.stoodInHeld t = false
  grd : TypeId → Bool
  grd_ok : ∀ t, grd t = false → P.eqGuardType P.depth t = false
  glob : Nat → Option (List AV)
  gmaps : Nat → Option (List (AV × AV))
  ov : FuncId → Option (List AV → Option (Bool × CT))
  /-- contracts for arguments with addresses -/
  ovh : FuncId → Option (List AV → Hp → Option (Bool × CT × Hp))
  ext : FuncId → Option (List AV → Option AV)
  frz : FuncId → Bool
  /-- functions that only read the slices that they are given, and hand back plain values -/
  fin : FuncId → Bool

/-- an operation that was carried out in a region that draws its order -/
structure Rec where
  j : Nat
  heavy : Bool
  wr : List (Nat × Nat × Nat)
  rd : Option (Nat × Nat × Nat)
  lo : Nat
  hi : Nat
  deriving Inhabited

inductive Task where
  | code (c : Code) (st : St)
  | ops (all : Array Oper) (rest : List Oper) (st : St)
  | draw (all : Array Oper) (bef : Array Nat) (j : Nat) (rest : List Oper) (st : St) (recs : List Rec) (dead : Nat) (pn : Option (AV × Nat))
  | op (o : Oper) (st : St)
  /-- an operation that neither defers nor recovers -/
  | opl (o : Oper) (st : St)
  | call (f : FuncId) (args : List AV) (heap : Hp)
  | dcall (f : FuncId) (args : List AV) (heap : Hp) (pan : Pan)
  | round (b : Nat) (args : List AV) (heap : Hp)
  | leave (fn : Func) (st : St) (m : Mode)

inductive Res where
  | ex (e : Ex) (st : St)
  | out (o : Outc) (heap : Hp) (pan : Pan)
  /-- of one operation: its value, or a panic; the state with its memory, its temporaries not yet put -/
  | val (v : AV) (st : St)
  | pan (v : AV) (st : St)

/- ## values -/

def AV.hasAddr : AV → Bool
  | .ptr .. | .sl .. | .map _ | .yield _ => true
  | .func _ a b => go a || go b
  | .iface _ v => v.hasAddr
  | .agg cs => go cs
  | .tuple cs => go cs
  | _ => false
where go : List AV → Bool
  | [] => false
  | x :: xs => x.hasAddr || go xs

def AV.shift (n : Nat) : AV → AV
  | .ptr b o => .ptr (b + n) o
  | .sl b o l c => .sl (b + n) o l c
  | .map b => .map (b + n)
  | .yield b => .yield (b + n)
  | .func f a b => .func f (go n a) (go n b)
  | .iface t v => .iface t (v.shift n)
  | .agg cs => .agg (go n cs)
  | .tuple cs => .tuple (go n cs)
  | v => v
where go (n : Nat) : List AV → List AV
  | [] => []
  | x :: xs => x.shift n :: go n xs

def AV.oneCell : AV → Bool
  | .agg _ | .tuple _ => false
  | _ => true

def AV.cells : AV → List AV
  | .agg cs => cs
  | v => [v]

def ofV1 : Value → Option AV
  | .bool b => some (.bool b)
  | .int k n => some (.int k n)
  | .string s => some (.str s.data.toList)
  | .pointer none => some .nilp
  | .slice none 0 0 => some .nils
  | .map none => some .nilm
  | .nilFunc => some .nilFunc
  | .nilIface => some .nilIface
  | .func (.func f) a b => bif a.size == 0 && b.size == 0 then some (.func f [] []) else none
  | _ => none

def mapO {α β : Type} (f : α → Option β) : List α → Option (List β)
  | [] => some []
  | x :: xs => match f x with
    | none => none
    | some y => match mapO f xs with
      | none => none
      | some ys => some (y :: ys)

def ofV : Value → Option AV
  | .agg cs => match mapO ofV1 cs.toList with
    | some l => some (.agg l)
    | none => none
  | v => ofV1 v

def St.ev (st : St) : Operand → Option AV
  | .tmp t => st.env.get t
  | .const v => ofV v
  | .global g => some (.gptr g 0)
  | .func f => some (.func f [] [])

def St.evs (st : St) (l : List Operand) : Option (List AV) := mapO st.ev l

def St.put (st : St) (dst : Option Tmp) (v : AV) : St :=
  match dst with
  | some d => match st with | ⟨env, nt, heap, defers, pan, rnd⟩ => ⟨env.set d v, nt, heap, defers, pan, rnd⟩
  | none => st

def St.setHeap (st : St) (h : Hp) : St := match st with | ⟨env, nt, _, defers, pan, rnd⟩ => ⟨env, nt, h, defers, pan, rnd⟩

def undefA : AV := .tuple []

/- ## types -/

def Ctx.size (C : Ctx) (t : TypeId) : Option Nat := match C.info t with
  | some i => some i.size
  | none => none
def Ctx.bytes (C : Ctx) (t : TypeId) : Option Nat := match C.info t with
  | some i => some i.bytes
  | none => none
def Ctx.isAgg (C : Ctx) (t : TypeId) : Option Bool := match C.und t with
  | some (.struct _) | some (.array _ _) => some true
  | some _ => some false
  | none => none
def Ctx.zero (C : Ctx) (t : TypeId) : Option AV := match C.info t with
  | some i => match i.zero with
    | some v => ofV v
    | none => none
  | none => none

/- ## memory -/

def allSome {α : Type} : List (Option α) → Option (List α)
  | [] => some []
  | none :: _ => none
  | some x :: xs => match allSome xs with
    | some ys => some (x :: ys)
    | none => none

/-- exactly n elements from o on -/
def cut {α : Type} (l : List α) (o n : Nat) : Option (List α) :=
  let r := (l.drop o).take n
  bif r.length == n then some r else none

def setAt {α : Type} : List α → Nat → α → List α
  | [], _, _ => []
  | _ :: xs, 0, y => y :: xs
  | x :: xs, n + 1, y => x :: setAt xs n y

def Hp.new (h : Hp) (b : Blk) : Hp := ⟨h.bl ++ [b], h.log⟩

def Hp.put (h : Hp) (b : Nat) (x : Blk) (o n : Nat) : Hp := ⟨setAt h.bl b x, (b, o, n) :: h.log⟩

/-- more cells than any block has: 'the whole of it' -/
def whole : Nat := 2 ^ 60

def getCells (C : Ctx) (h : Hp) (a : AV) (n : Nat) : Option (List AV) :=
  match a with
  | .ptr b o => match h.bl[b]? with
    | some (.cells _ cs _ _) => match cut cs o n with
      | some l => allSome l
      | none => none
    | _ => none
  | .gptr g o => match C.glob g with
    | some cs => cut cs o n
    | none => none
  | .lptr cs o => cut cs o n
  | _ => none

/-- cells are written over cells that are there -/
def over (cs : List (Option AV)) (o : Nat) (new : List AV) : Option (List (Option AV)) :=
  match o, cs, new with
  | _, _, [] => some cs
  | 0, some _ :: cs, x :: new => match over cs 0 new with
    | some r => some (some x :: r)
    | none => none
  | 0, _, _ => none
  | o + 1, c :: cs, new => match over cs o new with
    | some r => some (c :: r)
    | none => none
  | _ + 1, [], _ => none

def setCells (h : Hp) (a : AV) (new : List AV) : Option Hp :=
  match a with
  | .ptr b o => match h.bl[b]? with
    | some (.cells e cs t false) => match over cs o new with
      | some cs' => some (h.put b (.cells e cs' t false) o new.length)
      | none => none
    | _ => none
  | _ => none

def loadT (C : Ctx) (h : Hp) (t : TypeId) (a : AV) : Option AV :=
  match C.isAgg t, C.size t with
  | some true, some n => match getCells C h a n with
    | some l => some (.agg l)
    | none => none
  | some false, some _ => match getCells C h a 1 with
    | some [x] => some x
    | _ => none
  | _, _ => none

def addOff (a : AV) (n : Nat) : Option AV :=
  match a with
  | .ptr b o => some (.ptr b (o + n))
  | .gptr b o => some (.gptr b (o + n))
  | .lptr b o => some (.lptr b (o + n))
  | _ => none

/- ## equality -/

def sameAV : TypeDesc → AV → AV → Option Bool
  | .bool, .bool a, .bool b => some (a == b)
  | .int _, .int j a, .int k b => bif j == k then some (a == b) else none
  | .string, .str a, .str b => some (a == b)
  | _, _, _ => none

def partA (C : Ctx) (t : TypeId) (cs : List AV) (off : Nat) : Option AV :=
  match C.isAgg t, C.size t with
  | some true, some n => match cut cs off n with
    | some l => some (.agg l)
    | none => none
  | some false, some _ => cs[off]?
  | _, _ => none

def eqFields (C : Ctx) (eq : TypeId → AV → AV → Option Bool) : List Field → List AV → List AV → Option Bool
  | [], _, _ => some true
  | f :: fs, xs, ys => bif f.name == "_" then none else
    match partA C f.type xs f.offset, partA C f.type ys f.offset with
    | some a, some b => match eq f.type a b, eqFields C eq fs xs ys with
      | some r, some s => some (r && s)
      | _, _ => none
    | _, _ => none

def eqElems (C : Ctx) (eq : TypeId → AV → AV → Option Bool) (e : TypeId) (n : Nat) : Nat → Nat → List AV → List AV → Option Bool
  | 0, _, _, _ => some true
  | k + 1, i, xs, ys =>
    match partA C e xs (i * n), partA C e ys (i * n) with
    | some a, some b => match eq e a b, eqElems C eq e n k (i + 1) xs ys with
      | some r, some s => some (r && s)
      | _, _ => none
    | _, _ => none

def eqAV (C : Ctx) : Nat → TypeId → AV → AV → Option Bool
  | 0, _, _, _ => none
  | d + 1, t, x, y =>
    match C.und t, x, y with
    | some .bool, .bool a, .bool b => some (a == b)
    | some (.int _), .int k a, .int k' b => bif k == k' then some (a == b) else none
    | some .string, .str a, .str b => some (a == b)
    | some (.pointer _), .nilp, .nilp => some true
    | some (.pointer _), .nilp, .ptr .. | some (.pointer _), .ptr .., .nilp => some false
    | some (.pointer e), .ptr b o, .ptr b' o' => match C.size e with
      | some 0 => none
      | some _ => bif b == b' then some (o == o') else none
      | none => none
    | some (.interface _), .nilIface, .nilIface => some true
    | some (.interface _), .nilIface, .iface _ _ | some (.interface _), .iface _ _, .nilIface => some false
    | some (.slice _), .nils, .nils => some true
    | some (.slice _), .list .., .nils => some false
    | some (.slice _), .sl .., .nils => some false
    | some (.map _ _), .nilm, .nilm => some true
    | some (.map _ _), .map _, .nilm => some false
    | some (.func _ _ _), .nilFunc, .nilFunc => some true
    | some (.func _ _ _), .func .., .nilFunc | some (.func _ _ _), .yield _, .nilFunc => some false
    | some (.struct fields), .agg xs, .agg ys => bif C.held t then none else eqFields C (eqAV C d) fields.toList xs ys
    | some (.array len e), .agg xs, .agg ys => match C.size e with
      | some n => eqElems C (eqAV C d) e n len 0 xs ys
      | none => none
    | _, _, _ => none

def isConst : Operand → Bool
  | .const _ => true
  | _ => false

/-- may '==' be asked: no two nil interfaces of which neither is the literal -/
def guardOk (C : Ctx) (t : TypeId) (x y : Operand) : AV → AV → Bool
  | .nilIface, .nilIface => isConst x || isConst y
  | .agg _, .agg _ => !C.grd t
  | _, _ => true

def guardA (C : Ctx) (op : BinOp) (t : TypeId) (x y : Operand) (a b : AV) : Bool := match op with
  | .eql | .neq => guardOk C t x y a b
  | _ => true

def bytesLess : List UInt8 → List UInt8 → Bool
  | _, [] => false
  | [], _ :: _ => true
  | a :: x, b :: y => a < b || (a == b && bytesLess x y)

def strOp (op : BinOp) (x y : List UInt8) : Option AV :=
  match op with
  | .add => bif (x.length + y.length) < 2 ^ 62 then some (.str (x ++ y)) else none
  | .eql => some (.bool (x == y))
  | .neq => some (.bool (!(x == y)))
  | .lss => some (.bool (bytesLess x y))
  | .leq => some (.bool (bytesLess x y || x == y))
  | .gtr => some (.bool (!(bytesLess x y || x == y)))
  | .geq => some (.bool (!bytesLess x y))
  | _ => none

def intCmpA (op : BinOp) (x y : Int) : Option AV :=
  match op with
  | .eql => some (.bool (x == y))
  | .neq => some (.bool (x != y))
  | .lss => some (.bool (decide (x < y)))
  | .leq => some (.bool (decide (x ≤ y)))
  | .gtr => some (.bool (decide (x > y)))
  | .geq => some (.bool (decide (x ≥ y)))
  | _ => none

def binA {R : Type} (C : Ctx) (op : BinOp) (t : TypeId) (x y : AV) (k : AV → Option R) : Option R :=
  match x, y with
  | .int ka a, .int kb b =>
    match op with
    | .shl => bif decide (b < 0) then none else k (.int ka (ka.wrap (a * 2 ^ (min b.toNat ka.bits))))
    | .shr => bif decide (b < 0) then none else k (.int ka (a.fdiv (2 ^ (min b.toNat ka.bits))))
    | _ => bif ka == kb then
      match op with
      | .add => k (.int ka (ka.wrap (a + b)))
      | .sub => k (.int ka (ka.wrap (a - b)))
      | .mul => k (.int ka (ka.wrap (a * b)))
      | .quo => bif b == 0 then none else k (.int ka (ka.wrap (a.tdiv b)))
      | .rem => bif b == 0 then none else k (.int ka (a.tmod b))
      | .and => k (.int ka (ka.wrap (BitVec.ofInt ka.bits a &&& BitVec.ofInt ka.bits b).toNat))
      | .or => k (.int ka (ka.wrap (BitVec.ofInt ka.bits a ||| BitVec.ofInt ka.bits b).toNat))
      | .xor => k (.int ka (ka.wrap (BitVec.ofInt ka.bits a ^^^ BitVec.ofInt ka.bits b).toNat))
      | .andNot => k (.int ka (ka.wrap (BitVec.ofInt ka.bits a &&& ~~~ BitVec.ofInt ka.bits b).toNat))
      | _ => match intCmpA op a b with
        | some v => k v
        | none => none
      else none
  | .str a, .str b => match strOp op a b with
    | some v => k v
    | none => none
  | x, y => match op with
    | .eql => match eqAV C 40 t x y with
      | some b => k (.bool b)
      | none => fail "eql"
    | .neq => match eqAV C 40 t x y with
      | some b => k (.bool (!b))
      | none => fail "neq"
    | _ => fail "binop"

/- ## the operations but for calls -/

def asNatIn {R : Type} (v : AV) (lo hi : Nat) (k : Nat → Option R) : Option R :=
  match v with
  | .int _ i => bif decide ((lo : Int) ≤ i) && decide (i ≤ (hi : Int)) then k i.toNat else fail "bounds"
  | _ => fail "bound: int"

def lowA {R : Type} (lo : Option AV) (h : Nat) (m : Option Nat) (k : Nat → Nat → Option Nat → Option R) : Option R :=
  match lo with
  | none => k 0 h m
  | some v => asNatIn v 0 h fun l => k l h m

/-- the bounds of a slice expression, against what is known of the capacity -/
def boundsA {R : Type} (len cap : Nat) (lo hi mx : Option AV) (k : Nat → Nat → Option Nat → Option R) : Option R :=
  match mx with
  | none => match hi with
    | none => lowA lo len none k
    | some v => asNatIn v 0 cap fun h => lowA lo h none k
  | some v => asNatIn v 0 cap fun m => match hi with
    | none => none
    | some u => asNatIn u 0 m fun h => lowA lo h (some m) k

def fullOf (m : Option Nat) (full : Bool) (h len : Nat) : Bool := match m with
  | some m => m == h
  | none => full && h == len

def capAfter (m cap : Option Nat) (l : Nat) : Option Nat := match m with
  | some m => some (m - l)
  | none => match cap with
    | some c => some (c - l)
    | none => none

def badCut (cap : Option Nat) (l h : Nat) : Bool := (match cap with | some _ => false | none => !(l == 0)) || (l == h && !(l == 0))

def slArr {R : Type} (C : Ctx) (lo hi mx : Option AV) (len : Nat) (e : TypeId) (x : AV) (k : AV → Option R) : Option R :=
  match C.size e with
  | none => none
  | some n => boundsA len len lo hi mx fun l h m =>
    bif l == h && !(l == 0) then fail "slice: empty, not at the begin" else
    match x with
    | .ptr b o => k (.sl b (o + l * n) (h - l) (some (m.getD len - l)))
    | .gptr .. | .lptr .. => match getCells C ⟨[], []⟩ x (len * n) with
      | some cs => k (.list ((cs.drop (l * n)).take ((h - l) * n)) (h - l) (fullOf m true h len))
      | none => none
    | _ => fail "slice of array"

def sliceA {R : Type} (C : Ctx) (t : TypeId) (x : AV) (lo hi mx : Option AV) (k : AV → Option R) : Option R :=
  match C.und t, x with
  | some .string, .str s => match mx with
    | some _ => none
    | none => boundsA s.length s.length lo hi none fun l h _ => k (.str ((s.drop l).take (h - l)))
  | some (.slice e), .nils => match C.size e with
    | none => none
    | some _ => boundsA 0 0 lo hi mx fun _ _ _ => k .nils
  | some (.slice e), .list cs len full => match C.size e with
    | none => none
    | some n => boundsA len len lo hi mx fun l h m =>
      k (.list ((cs.drop (l * n)).take ((h - l) * n)) (h - l) (fullOf m full h len))
  | some (.slice e), .sl b o len cap => match C.size e with
    | none => none
    | some n => bif decide (len ≤ cap.getD len) then boundsA len (cap.getD len) lo hi mx fun l h m =>
        bif badCut cap l h then fail "slice of a slice" else
        k (.sl b (o + l * n) (h - l) (capAfter m cap l))
      else none
  | some (.array len e), x => slArr C lo hi mx len e x k
  | some (.pointer a), x => match C.und a with
    | some (.array len e) => slArr C lo hi mx len e x k
    | _ => none
  | _, _ => fail "slice"
/-- the cells of the first n elements of a slice or a string -/
def contents (h : Hp) (size n : Nat) : AV → Option (List AV)
  | .list cs _ _ => cut cs 0 (n * size)
  | .sl b o _ _ => match h.bl[b]? with
    | some (.cells _ cs _ _) => match cut cs o (n * size) with
      | some l => allSome l
      | none => none
    | _ => none
  | .str s => some ((s.take n).map fun b => .int .u8 b.toNat)
  | .nils => bif n == 0 then some [] else none
  | _ => none

def lenA : AV → Option Nat
  | .nils => some 0
  | .list _ n _ => some n
  | .sl _ _ n _ => some n
  | .str s => some s.length
  | _ => none

def replZ : Nat → List AV → List AV
  | 0, _ => []
  | n + 1, z => z ++ replZ n z

def sliceLen : AV → Option Nat
  | .nils => some 0
  | .list _ n _ => some n
  | .sl _ _ n _ => some n
  | _ => none

/-- is what is appended a make(..) whose length alone is handed over (or of no known type)? -/
def ofMake (C : Ctx) (argTypes : Array TypeId) : Bool :=
  match argTypes[1]? with
  | some xt => (match C.und xt with
    | some (.int _) => true
    | some _ => false
    | none => true)
  | none => false

def growA {R : Type} (C : Ctx) (h : Hp) (e : TypeId) (size len : Nat) (old new : List AV) (k : AV → Hp → Option R) : Option R :=
  match C.zero e with
  | some z => bif z.cells.length == size then k (.sl h.bl.length 0 len none) (h.new (.cells e ((old ++ new).map some) true false)) else none
  | none => none

def appendA {R : Type} (C : Ctx) (h : Hp) (argTypes : Array TypeId) (s x : AV) (k : AV → Hp → Option R) : Option R :=
  match argTypes[0]? with
  | none => none
  | some sT => match C.und sT with
  | some (.slice e) =>
    bif ofMake C argTypes then none else
    match C.size e, C.bytes e, sliceLen s, lenA x with
    | some size, some bytes, some sLen, some n =>
      match contents h size n x with
      | none => fail "append: contents of x"
      | some new =>
      bif n == 0 then k s h else
      bif !(new.length == n * size) then none else
      bif decide (2 ^ 46 < (2 * (sLen + n) + 1000) * (bytes + 1)) then none else
      match contents h size sLen s with
      | none => fail "append: contents of s"
      | some old =>
      match s with
      | .nils | .list _ _ true => growA C h e size (sLen + n) old new k
      | .sl b o _ (some c) => bif decide (sLen + n ≤ c) then
          match setCells h (.ptr b (o + sLen * size)) new with
          | some h' => k (.sl b o (sLen + n) (some c)) h'
          | none => fail "append in place"
        else growA C h e size (sLen + n) old new k
      | .sl b o _ none => match h.bl[b]? with
        | some (.cells e' cs true false) => bif e' == e && cs.length == o + sLen * size then
            growA C (h.put b .dead 0 whole) e size (sLen + n) old new k
          else fail "append: not at the frontier"
        | _ => fail "append: block"
      | _ => fail "append: what slice"
    | _, _, _, _ => none
  | _ => none

def copyA {R : Type} (C : Ctx) (h : Hp) (argTypes : Array TypeId) (d s : AV) (k : AV → Hp → Option R) : Option R :=
  match argTypes[0]? with
  | none => none
  | some sT => match C.und sT with
  | some (.slice e) =>
    match C.size e, lenA s, d with
    | some size, some sLen, .sl b o dLen _ =>
      let n := min sLen dLen
      match contents h size n s with
      | none => none
      | some new => match setCells h (.ptr b o) new with
        | some h' => k (.int .i64 n) h'
        | none => none
    | some _, some _, .nils => k (.int .i64 0) h
    | some _, some _, .list [] 0 _ => k (.int .i64 0) h
    | _, _, _ => none
  | _ => none

def lenB (C : Ctx) (h : Hp) (argTypes : Array TypeId) (x : AV) : Option Nat :=
  match argTypes[0]? with
  | none => none
  | some t => match C.und t, x with
    | some .string, .str s => some s.length
    | some (.array n _), _ => some n
    | some (.pointer a), _ => match C.und a with
      | some (.array n _) => some n
      | _ => none
    | some (.slice _), .nils => some 0
    | some (.slice _), .list _ n _ => some n
    | some (.slice _), .sl _ _ n _ => some n
    | some (.map _ _), .nilm => some 0
    | some (.map _ _), .map b => match h.bl[b]? with
      | some (.map es) => some es.length
      | _ => none
    | _, _ => none

def minmax (mx : Bool) : AV → List AV → Option AV
  | x, [] => some x
  | .int k a, .int _ b :: rest => minmax mx (.int k (bif (bif mx then decide (b > a) else decide (b < a)) then b else a)) rest
  | _, _ => none

def findA {R : Type} (kd : TypeDesc) (key : AV) : List (AV × AV) → Nat → (Option (Nat × AV) → Option R) → Option R
  | [], _, k => k none
  | (a, v) :: es, i, k => match sameAV kd key a with
    | some b => bif b then k (some (i, v)) else findA kd key es (i + 1) k
    | none => none

def plainKey (C : Ctx) (t : TypeId) (key : AV) : Option TypeDesc := match C.und t, key with
  | some (.int k), .int _ _ => some (.int k)
  | some .string, .str _ => some .string
  | some .bool, .bool _ => some .bool
  | _, _ => none

def lookupA {R : Type} (C : Ctx) (h : Hp) (t : TypeId) (m key : AV) (ok : Bool) (k : AV → Option R) : Option R :=
  match C.und t with
  | some (.map kt e) => match plainKey C kt key with
    | none => fail "map key"
    | some kd => match (match m with
      | .nilm => some []
      | .map b => (match h.bl[b]? with | some (.map es) => some es | _ => none)
      | .gmap g => C.gmaps g
      | _ => none : Option (List (AV × AV))) with
    | none => none
    | some es => findA kd key es 0 fun r => match r with
      | some (_, v) => k (bif ok then .tuple [v, .bool true] else v)
      | none => match C.zero e with
        | some z => k (bif ok then .tuple [z, .bool false] else z)
        | none => none
  | _ => none

def mapPut {R : Type} (C : Ctx) (h : Hp) (t : TypeId) (m key v : AV) (k : Hp → Option R) : Option R :=
  match C.und t with
  | some (.map kt _) => match plainKey C kt key with
    | none => fail "map key"
    | some kd => match m with
      | .map b => match h.bl[b]? with
        | some (.map es) => findA kd key es 0 fun r => match r with
          | some (i, _) => k (h.put b (.map (setAt es i (key, v))) 0 whole)
          | none => k (h.put b (.map (es ++ [(key, v)])) 0 whole)
        | _ => none
      | _ => none
  | _ => none

def fillA (place : Nat → Option (Nat × Nat)) (cells : List AV) : List (Nat × AV) → Option (List AV)
  | [] => some cells
  | (i, v) :: rest =>
    match place i with
    | none => none
    | some (off, size) =>
      bif v.cells.all AV.oneCell && v.cells.length == size && decide (off + size ≤ cells.length) then
        fillA place (cells.take off ++ v.cells ++ cells.drop (off + size)) rest
      else none

def placesOf (C : Ctx) (fields : List Field) : Option (List (Nat × Nat)) := mapO (fun f => match C.size f.type with
  | some n => some (f.offset, n)
  | none => none) fields

def evParts (st : St) : List (Nat × Operand) → Option (List (Nat × AV))
  | [] => some []
  | (i, x) :: rest => match st.ev x, evParts st rest with
    | some v, some r => some ((i, v) :: r)
    | _, _ => none

def byteOf : AV → Option UInt8
  | .int .u8 x => some (UInt8.ofNat x.toNat)
  | _ => none

def optEv (st : St) : Option Operand → Option (Option AV)
  | none => some none
  | some x => match st.ev x with
    | some v => some (some v)
    | none => none

inductive OR where
  | val (v : AV) (h : Hp)
  | call (f : FuncId) (args : List AV)
  | yield (b : Nat) (args : List AV)
  | defer (f : FuncId) (args : List AV)
  | recover
  | panic (v : AV)

/-- one operation; calls of functions are handed back -/
def opA0 {R : Type} (C : Ctx) (st : St) (o : Oper) (k : OR → Option R) : Option R :=
  let h := st.heap
  let val (v : AV) : Option R := k (.val v h)
  match o.op with
  | .move x | .assign x => match st.ev x with
    | some v => val v
    | none => fail "move"
  | .pick c a b => match st.ev c with
    | some (.bool t) => bif t then (match st.ev a with | some v => val v | none => none) else (match st.ev b with | some v => val v | none => none)
    | _ => fail "pick"
  | .alloc e => match C.zero e with
    | some z => bif z.cells.all AV.oneCell then k (.val (.ptr h.bl.length 0) (h.new (.cells e (z.cells.map some) false false))) else none
    | none => fail "alloc"
  | .box e x => match st.ev x, C.size e with
    | some v, some _ => bif v.cells.all AV.oneCell then k (.val (.ptr h.bl.length 0) (h.new (.cells e (v.cells.map some) false false))) else fail "box"
    | _, _ => fail "box"
  | .build t parts => match C.zero t, C.und t, evParts st parts.toList with
    | some z, some (.struct fields), some ps =>
      (match placesOf C fields.toList with
      | some pls => (match fillA (fun i => pls[i]?) z.cells ps with
        | some cs => val (.agg cs)
        | none => fail "build")
      | none => none)
    | some z, some (.array _ e), some ps => (match C.size e with
      | some n => (match fillA (fun i => some (i * n, n)) z.cells ps with
        | some cs => val (.agg cs)
        | none => fail "build")
      | none => none)
    | _, _, _ => fail "build"
  | .buildSlice t len parts => match C.und t, evParts st parts.toList with
    | some (.slice e), some ps => (match C.size e, C.zero e with
      | some n, some z => bif decide (len * n ≤ 2 ^ 20) && z.cells.length == n && z.cells.all AV.oneCell then (match fillA (fun i => some (i * n, n)) (replZ len z.cells) ps with
        | some cs => k (.val (.sl h.bl.length 0 len (some len)) (h.new (.cells e (cs.map some) false false)))
        | none => fail "buildSlice") else none
      | _, _ => none)
    | _, _ => fail "buildSlice"
  | .load t a => match st.ev a with
    | some p => (match loadT C h t p with
      | some v => val v
      | none => fail "load")
    | none => fail "load"
  | .store t a x => match st.ev a, st.ev x, C.size t with
    | some p, some v, some n => bif v.cells.all AV.oneCell && v.cells.length == n then (match setCells h p v.cells with
      | some h' => k (.val undefA h')
      | none => fail "store") else fail "store size"
    | _, _, _ => fail "store"
  | .nilCheck x => match st.ev x with
    | some (.ptr b o) => val (.ptr b o)
    | some (.gptr b o) => val (.gptr b o)
    | some (.lptr b o) => val (.lptr b o)
    | some (.func f a b) => val (.func f a b)
    | _ => fail "nilCheck"
  | .binOp op t x y _ => match st.ev x, st.ev y with
    | some a, some b => (bif guardA C op t x y a b then binA C op t a b fun v => val v else fail "eqGuard")
    | _, _ => fail "binOp operand"
  | .unOp op _ x => match op, st.ev x with
    | .neg, some (.int k n) => val (.int k (k.wrap (0 - n)))
    | .xor, some (.int k n) => val (.int k (k.wrap (BitVec.ofInt k.bits (bif k.signed then -1 else k.max) ^^^ BitVec.ofInt k.bits n).toNat))
    | .not, some (.bool b) => val (.bool (!b))
    | _, _ => fail "unOp"
  | .convert src dst x => match C.und src, C.und dst, st.ev x with
    | some (.int _), some (.int kd), some (.int _ n) => val (.int kd (kd.wrap n))
    | some .string, some .string, some (.str s) => val (.str s)
    | some .string, some (.slice e), some (.str s) => (match C.und e with
      | some (.int .u8) => val (.list (s.map fun b => .int .u8 b.toNat) s.length false)
      | _ => none)
    | some (.slice e), some .string, some v => (match C.und e, sliceLen v with
      | some (.int .u8), some n => (match contents h 1 n v with
        | some l => (match mapO byteOf l with
          | some bs => val (.str bs)
          | none => none)
        | none => none)
      | _, _ => none)
    | some (.pointer e), some .unsafePointer, some (.ptr b 0) => (match C.size e, h.bl[b]? with
      | some (n + 1), some (.cells e' cs false _) => bif e == e' && decide (n + 1 ≤ cs.length) then val (.ptr b 0) else fail "convert: pointer"
      | _, _ => none)
    | some .unsafePointer, some (.pointer e), some (.ptr b 0) => (match C.size e, h.bl[b]? with
      | some (n + 1), some (.cells e' cs false _) => bif e == e' && decide (n + 1 ≤ cs.length) then val (.ptr b 0) else fail "convert: pointer"
      | _, _ => none)
    | _, _, _ => fail "convert"
  | .makeInterface t x => match C.und t, st.ev x with
    | some (.interface _), _ => none
    | some _, some v => val (.iface t v)
    | _, _ => fail "makeInterface"
  | .makeFunc (.func f) first cap => match st.evs first.toList, st.evs cap.toList with
    | some a, some b => val (.func f a b)
    | _, _ => fail "makeFunc"
  | .makeMap _ none => k (.val (.map h.bl.length) (h.new (.map [])))
  | .makeSlice t l c => match C.und t, st.ev l, st.ev c with
    | some (.slice e), some (.int _ l), some (.int _ c) => (match C.size e, C.bytes e, C.zero e with
      | some n, some bytes, some z =>
        bif z.cells.length == n && z.cells.all AV.oneCell && decide (0 ≤ l) && decide (l ≤ c) && decide ((bytes : Int) * c ≤ 2 ^ 40) && decide (c ≤ 2 ^ 40) then
          k (.val (.sl h.bl.length 0 l.toNat (some c.toNat)) (h.new (.cells e ((replZ c.toNat z.cells).map some) false false)))
        else fail "makeSlice"
      | _, _, _ => none)
    | _, _, _ => fail "makeSlice"
  | .slice t x lo hi mx => match st.ev x, optEv st lo, optEv st hi, optEv st mx with
    | some v, some l, some h, some m => sliceA C t v l h m fun r => val r
    | _, _, _, _ => fail "slice"
  | .fieldAddr s x f => match C.und s, st.ev x with
    | some (.struct fields), some p => (match fields[f]? with
      | some fd => (match C.size fd.type with
        | some (_ + 1) => (match addOff p fd.offset with
          | some q => val q
          | none => fail "fieldAddr")
        | _ => none)
      | none => none)
    | _, _ => fail "fieldAddr"
  | .field t x f => match C.und t, st.ev x with
    | some (.struct fields), some (.agg cs) => (match fields[f]? with
      | some fd => (match partA C fd.type cs fd.offset with
        | some v => val v
        | none => none)
      | none => none)
    | _, _ => fail "field"
  | .indexAddr t x i => match C.und t, st.ev x, st.ev i with
    | some (.array len e), some p, some (.int _ n) => (match C.size e with
      | some size => bif decide (0 ≤ n) && decide (n < (len : Int)) then (match addOff p (n.toNat * size) with
        | some q => val q
        | none => fail "indexAddr") else fail "index out of range"
      | none => none)
    | some (.slice e), some (.sl b o len _), some (.int _ n) => (match C.size e with
      | some size => bif decide (0 ≤ n) && decide (n < (len : Int)) then val (.ptr b (o + n.toNat * size)) else fail "index out of range"
      | none => none)
    | some (.slice e), some (.list cs len _), some (.int _ n) => (match C.size e with
      | some size => bif decide (0 ≤ n) && decide (n < (len : Int)) then val (.lptr cs (n.toNat * size)) else fail "index out of range"
      | none => none)
    | _, _, _ => fail "indexAddr"
  | .index t x i => match C.und t, st.ev x, st.ev i with
    | some (.array len e), some (.agg cs), some (.int _ n) => (match C.size e with
      | some size => bif decide (0 ≤ n) && decide (n < (len : Int)) then (match partA C e cs (n.toNat * size) with
        | some v => val v
        | none => none) else fail "index out of range"
      | none => none)
    | some .string, some (.str s), some (.int _ n) => bif decide (0 ≤ n) then (match s[n.toNat]? with
      | some b => val (.int .u8 b.toNat)
      | none => fail "index out of range") else fail "index out of range"
    | _, _, _ => fail "index"
  | .lookup t x i ok => match st.ev x, st.ev i with
    | some m, some key => lookupA C h t m key ok fun v => val v
    | _, _ => fail "lookup"
  | .mapUpdate t m key x | .insert t m key x => match st.ev m, st.ev key, st.ev x with
    | some m, some key, some v => mapPut C h t m key v fun h' => k (.val undefA h')
    | _, _, _ => fail "mapUpdate"
  | .typeAssert x _ t ok => match C.und t, st.ev x with
    | some (.interface _), _ => fail "typeAssert to an interface"
    | some _, some (.iface u v) => bif u == t then val (bif ok then .tuple [v, .bool true] else v) else
      (bif ok then (match C.zero t with | some z => val (.tuple [z, .bool false]) | none => none) else fail "typeAssert")
    | some _, some .nilIface => bif ok then (match C.zero t with | some z => val (.tuple [z, .bool false]) | none => none) else fail "typeAssert"
    | _, _ => fail "typeAssert"
  | .extract x i => match st.ev x with
    | some (.tuple vs) => (match vs[i]? with
      | some v => val v
      | none => none)
    | _ => fail "extract"
  | .panic x => match st.ev x with
    | some (.iface t v) => k (.panic (.iface t v))
    | _ => fail "panic"
  | .defer c => match c.callee, st.evs c.args.toList with
    | .value f, some args => (match st.ev f with
      | some (.func g first cap) => k (.defer g (first ++ args ++ cap))
      | _ => fail "defer")
    | _, _ => fail "defer"
  | .call c => match c.callee, st.evs c.args.toList with
    | .value f, some args => (match st.ev f with
      | some (.func g first cap) => k (.call g (first ++ args ++ cap))
      | some (.yield b) => k (.yield b args)
      | _ => fail "call of what")
    | .builtin .append, some [s, x] => appendA C h c.argTypes s x fun v h' => k (.val v h')
    | .builtin .copy, some [d, s] => copyA C h c.argTypes d s fun v h' => k (.val v h')
    | .builtin .len, some [x] => (match lenB C h c.argTypes x with
      | some n => val (.int .i64 n)
      | none => fail "len")
    | .builtin .max, some (x :: xs) => (match minmax true x xs with | some v => val v | none => none)
    | .builtin .min, some (x :: xs) => (match minmax false x xs with | some v => val v | none => none)
    | .builtin .recover, some [] => k .recover
    | .builtin .unsafeSliceData, some [.sl b o _ (some (_ + 1))] => val (.ptr b o)
    | .builtin .unsafeSliceData, some [.sl b o (_ + 1) none] => val (.ptr b o)
    | .builtin .unsafeString, some [.ptr b o, .int _ n] => bif decide (0 < n) && decide (n ≤ 2 ^ 40) then
        (match h.bl[b]?, (c.argTypes[0]?).bind C.und with
        | some (.cells e cs t false), some (.pointer e') => bif e == e' then (match C.size e, cut cs o n.toNat with
          | some 1, some l => (match allSome l with
            | some l => (match mapO byteOf l with
              | some bs => k (.val (.str bs) (h.put b (.cells e cs t true) 0 whole))
              | none => none)
            | none => none)
          | _, _ => none) else none
        | _, _ => none) else none
    | _, _ => fail "call"
  | _ => fail "operation"

/- ## lists, by recursors alone: quicker for the kernel -/
noncomputable def getF {α : Type} (l : List α) : Nat → Option α := List.rec (motive := fun _ => Nat → Option α) (fun _ => none) (fun x _ ih i => Nat.rec (some x) (fun j _ => ih j) i) l
theorem getF_eq {α : Type} (l : List α) (i : Nat) : getF l i = l[i]? := by
  induction l generalizing i with
  | nil => rfl
  | cons x t ih => cases i with
    | zero => rfl
    | succ i => rw [List.getElem?_cons_succ, ← ih i]; rfl
noncomputable def lenFF {α : Type} (l : List α) : Nat := List.rec 0 (fun _ _ n => Nat.succ n) l
theorem lenFF_eq {α : Type} (l : List α) : lenFF l = l.length := by
  induction l with
  | nil => rfl
  | cons x t ih => rw [List.length_cons, ← ih]; rfl
noncomputable def snocF {α : Type} (l : List α) (b : α) : List α := List.rec [b] (fun x _ r => x :: r) l
theorem snocF_eq {α : Type} (l : List α) (b : α) : snocF l b = l ++ [b] := by
  induction l with
  | nil => rfl
  | cons x t ih => rw [List.cons_append, ← ih]; rfl
noncomputable def dropF {α : Type} (o : Nat) : List α → List α := Nat.rec (motive := fun _ => List α → List α) (fun l => l) (fun _ ih l => List.rec [] (fun _ t _ => ih t) l) o
theorem dropF_eq {α : Type} (o : Nat) (l : List α) : dropF o l = l.drop o := by
  induction o generalizing l with
  | zero => rfl
  | succ o ih => cases l with
    | nil => rw [List.drop_nil]; rfl
    | cons x t => rw [List.drop_succ_cons, ← ih t]; rfl
def consO {α : Type} (x : α) (r : Option (List α)) : Option (List α) := match r with
  | some r => some (x :: r)
  | none => none
def consS (x : Option AV) (r : Option (List AV)) : Option (List AV) := match x with
  | some v => consO v r
  | none => none
noncomputable def takeO {α : Type} (n : Nat) : List α → Option (List α) := Nat.rec (motive := fun _ => List α → Option (List α)) (fun _ => some []) (fun _ ih l => List.rec none (fun x t _ => consO x (ih t)) l) n
noncomputable def takeS (n : Nat) : List (Option AV) → Option (List AV) := Nat.rec (motive := fun _ => List (Option AV) → Option (List AV)) (fun _ => some []) (fun _ ih l => List.rec none (fun x t _ => consS x (ih t)) l) n
theorem takeO_succ {α : Type} (n : Nat) (x : α) (t : List α) : takeO (n + 1) (x :: t) = consO x (takeO n t) := rfl
theorem takeS_succ (n : Nat) (x : Option AV) (t : List (Option AV)) : takeS (n + 1) (x :: t) = consS x (takeS n t) := rfl
theorem takeO_eq {α : Type} (n : Nat) (l : List α) : takeO n l = bif (l.take n).length == n then some (l.take n) else none := by
  induction n generalizing l with
  | zero => rfl
  | succ n ih => cases l with
    | nil => rfl
    | cons x t =>
      rw [takeO_succ, ih t, List.take_succ_cons, List.length_cons]
      have e : ((t.take n).length + 1 == n + 1) = ((t.take n).length == n) := by
        rw [Bool.eq_iff_iff]; simp
      rw [e]
      cases (t.take n).length == n <;> rfl
theorem takeS_eq (n : Nat) (l : List (Option AV)) : takeS n l = match takeO n l with | some r => allSome r | none => none := by
  induction n generalizing l with
  | zero => rfl
  | succ n ih => cases l with
    | nil => rfl
    | cons x t =>
      rw [takeO_succ, takeS_succ, ih t]
      cases takeO n t with
      | none => cases x <;> rfl
      | some r => cases x with
        | none => rfl
        | some v => simp only [consS, consO, allSome]
theorem cutF_eq {α : Type} (l : List α) (o n : Nat) : takeO n (dropF o l) = cut l o n := by rw [dropF_eq, takeO_eq]; rfl
theorem cutS_eq (l : List (Option AV)) (o n : Nat) : takeS n (dropF o l) = match cut l o n with | some r => allSome r | none => none := by rw [takeS_eq, cutF_eq]

noncomputable def getCellsF (C : Ctx) (h : Hp) (a : AV) (n : Nat) : Option (List AV) :=
  match a with
  | .ptr b o => match getF h.bl b with
    | some (.cells _ cs _ _) => takeS n (dropF o cs)
    | _ => none
  | .gptr g o => match C.glob g with
    | some cs => takeO n (dropF o cs)
    | none => none
  | .lptr cs o => takeO n (dropF o cs)
  | _ => none
theorem getCellsF_eq (C : Ctx) (h : Hp) (a : AV) (n : Nat) : getCellsF C h a n = getCells C h a n := by
  unfold getCellsF getCells
  simp only [getF_eq, cutF_eq, cutS_eq]
noncomputable def loadTF (C : Ctx) (h : Hp) (t : TypeId) (a : AV) : Option AV :=
  match C.isAgg t, C.size t with
  | some true, some n => match getCellsF C h a n with
    | some l => some (.agg l)
    | none => none
  | some false, some _ => match getCellsF C h a 1 with
    | some [x] => some x
    | _ => none
  | _, _ => none
theorem loadTF_eq (C : Ctx) (h : Hp) (t : TypeId) (a : AV) : loadTF C h t a = loadT C h t a := by
  unfold loadTF loadT
  simp only [getCellsF_eq]

noncomputable def over0 (new : List AV) : List (Option AV) → Option (List (Option AV)) := List.rec (motive := fun _ => List (Option AV) → Option (List (Option AV))) (fun cs => some cs)
  (fun x _ ih cs => List.rec none (fun c t _ => (match c with | some _ => consO (some x) (ih t) | none => none)) cs) new
theorem over0_eq (new : List AV) (cs : List (Option AV)) : over0 new cs = over cs 0 new := by
  induction new generalizing cs with
  | nil => cases cs <;> rfl
  | cons x t ih => cases cs with
    | nil => rfl
    | cons c cs => cases c with
      | none => rfl
      | some v =>
        show consO (some x) (over0 t cs) = _
        rw [ih cs, over]
        cases over cs 0 t <;> rfl
noncomputable def overN (o : Nat) (new : List AV) : List (Option AV) → Option (List (Option AV)) := Nat.rec (motive := fun _ => List (Option AV) → Option (List (Option AV))) (over0 new)
  (fun _ ih cs => List.rec none (fun c t _ => consO c (ih t)) cs) o
noncomputable def overF (cs : List (Option AV)) (o : Nat) (new : List AV) : Option (List (Option AV)) := List.rec (some cs) (fun _ _ _ => overN o new cs) new
theorem overN_eq (x : AV) (new : List AV) (o : Nat) (cs : List (Option AV)) : overN o (x :: new) cs = over cs o (x :: new) := by
  induction o generalizing cs with
  | zero =>
    show over0 (x :: new) cs = _
    exact over0_eq (x :: new) cs
  | succ o ih => cases cs with
    | nil => rfl
    | cons c cs =>
      show consO c (overN o (x :: new) cs) = _
      rw [ih cs]
      have e : over (c :: cs) (o + 1) (x :: new) = match over cs o (x :: new) with | some r => some (c :: r) | none => none := by
        rw [over]
        intro h; cases h
      rw [e]
      cases over cs o (x :: new) <;> rfl
theorem overF_eq (cs : List (Option AV)) (o : Nat) (new : List AV) : overF cs o new = over cs o new := by
  cases new with
  | nil => unfold over; rfl
  | cons x t => exact overN_eq x t o cs
noncomputable def setAtF {α : Type} (y : α) (l : List α) : Nat → List α := List.rec (motive := fun _ => Nat → List α) (fun _ => []) (fun x t ih i => Nat.rec (y :: t) (fun j _ => x :: ih j) i) l
theorem setAtF_eq {α : Type} (y : α) (l : List α) (i : Nat) : setAtF y l i = setAt l i y := by
  induction l generalizing i with
  | nil => cases i <;> rfl
  | cons x t ih => cases i with
    | zero => rfl
    | succ i => rw [setAt, ← ih i]; rfl
noncomputable def setCellsF (h : Hp) (a : AV) (new : List AV) : Option Hp :=
  match a with
  | .ptr b o => match getF h.bl b with
    | some (.cells e cs t false) => match overF cs o new with
      | some cs' => some ⟨setAtF (.cells e cs' t false) h.bl b, (b, o, lenFF new) :: h.log⟩
      | none => none
    | _ => none
  | _ => none
theorem setCellsF_eq (h : Hp) (a : AV) (new : List AV) : setCellsF h a new = setCells h a new := by
  unfold setCellsF setCells
  simp only [getF_eq, overF_eq, setAtF_eq, lenFF_eq]
  rfl
noncomputable def newF (h : Hp) (b : Blk) : Hp := ⟨snocF h.bl b, h.log⟩
theorem newF_eq (h : Hp) (b : Blk) : newF h b = h.new b := by unfold newF; rw [snocF_eq]; rfl

/-- a truth value that is not known yet is asked at once -/
def splitB {R : Type} (v : AV) (k : AV → Option R) : Option R := match v with
  | .bool b => Bool.rec (k (.bool false)) (k (.bool true)) b
  | v => k v

theorem splitB_eq {R : Type} (v : AV) (k : AV → Option R) : splitB v k = k v := by
  unfold splitB
  cases v with
  | bool b => cases b <;> rfl
  | _ => rfl

def xo_mv {R : Type} (C : Ctx) (st : St) (kv : AV → Hp → Option R) (ko : OR → Option R) (x : Operand) : Option R :=
  let h := st.heap
  let val (v : AV) : Option R := kv v h
  match st.ev x with
    | some v => val v
    | none => fail "move"

def xo_pick {R : Type} (C : Ctx) (st : St) (kv : AV → Hp → Option R) (ko : OR → Option R) (c a b : Operand) : Option R :=
  let h := st.heap
  let val (v : AV) : Option R := kv v h
  match st.ev c with
    | some (.bool t) => bif t then (match st.ev a with | some v => val v | none => none) else (match st.ev b with | some v => val v | none => none)
    | _ => fail "pick"

def xo_alloc {R : Type} (C : Ctx) (st : St) (kv : AV → Hp → Option R) (ko : OR → Option R) (e : TypeId) : Option R :=
  let h := st.heap
  let val (v : AV) : Option R := kv v h
  match C.zero e with
    | some z => bif z.cells.all AV.oneCell then kv (.ptr (lenFF h.bl) 0) (newF h (.cells e (z.cells.map some) false false)) else none
    | none => fail "alloc"

def xo_box {R : Type} (C : Ctx) (st : St) (kv : AV → Hp → Option R) (ko : OR → Option R) (e : TypeId) (x : Operand) : Option R :=
  let h := st.heap
  let val (v : AV) : Option R := kv v h
  match st.ev x, C.size e with
    | some v, some _ => bif v.cells.all AV.oneCell then kv (.ptr (lenFF h.bl) 0) (newF h (.cells e (v.cells.map some) false false)) else fail "box"
    | _, _ => fail "box"

def xo_load {R : Type} (C : Ctx) (st : St) (kv : AV → Hp → Option R) (ko : OR → Option R) (t : TypeId) (a : Operand) : Option R :=
  let h := st.heap
  let val (v : AV) : Option R := kv v h
  match st.ev a with
    | some p => (match loadTF C h t p with
      | some v => val v
      | none => fail "load")
    | none => fail "load"

def xo_store {R : Type} (C : Ctx) (st : St) (kv : AV → Hp → Option R) (ko : OR → Option R) (t : TypeId) (a x : Operand) : Option R :=
  let h := st.heap
  let val (v : AV) : Option R := kv v h
  match st.ev a, st.ev x, C.size t with
    | some p, some v, some n => bif v.cells.all AV.oneCell && lenFF v.cells == n then (match setCellsF h p v.cells with
      | some h' => kv undefA h'
      | none => fail "store") else fail "store size"
    | _, _, _ => fail "store"

def xo_bin {R : Type} (C : Ctx) (st : St) (kv : AV → Hp → Option R) (ko : OR → Option R) (op : BinOp) (t : TypeId) (x y : Operand) : Option R :=
  let h := st.heap
  let val (v : AV) : Option R := kv v h
  match st.ev x, st.ev y with
    | some a, some b => (bif guardA C op t x y a b then binA C op t a b fun v => splitB v val else fail "eqGuard")
    | _, _ => fail "binOp operand"

def xo_un {R : Type} (C : Ctx) (st : St) (kv : AV → Hp → Option R) (ko : OR → Option R) (op : UnOp) (x : Operand) : Option R :=
  let h := st.heap
  let val (v : AV) : Option R := kv v h
  match op, st.ev x with
    | .neg, some (.int k n) => val (.int k (k.wrap (0 - n)))
    | .xor, some (.int k n) => val (.int k (k.wrap (BitVec.ofInt k.bits (bif k.signed then -1 else k.max) ^^^ BitVec.ofInt k.bits n).toNat))
    | .not, some (.bool b) => splitB (.bool (!b)) val
    | _, _ => fail "unOp"

def xo_conv {R : Type} (C : Ctx) (st : St) (kv : AV → Hp → Option R) (ko : OR → Option R) (src dst : TypeId) (x : Operand) : Option R :=
  let h := st.heap
  let val (v : AV) : Option R := kv v h
  match C.und src, C.und dst, st.ev x with
    | some (.int _), some (.int kd), some (.int _ n) => val (.int kd (kd.wrap n))
    | some .string, some .string, some (.str s) => val (.str s)
    | some .string, some (.slice e), some (.str s) => (match C.und e with
      | some (.int .u8) => val (.list (s.map fun b => .int .u8 b.toNat) s.length false)
      | _ => none)
    | some (.slice e), some .string, some v => (match C.und e, sliceLen v with
      | some (.int .u8), some n => (match contents h 1 n v with
        | some l => (match mapO byteOf l with
          | some bs => val (.str bs)
          | none => none)
        | none => none)
      | _, _ => none)
    | some (.pointer e), some .unsafePointer, some (.ptr b 0) => (match C.size e, h.bl[b]? with
      | some (n + 1), some (.cells e' cs false _) => bif e == e' && decide (n + 1 ≤ cs.length) then val (.ptr b 0) else fail "convert: pointer"
      | _, _ => none)
    | some .unsafePointer, some (.pointer e), some (.ptr b 0) => (match C.size e, h.bl[b]? with
      | some (n + 1), some (.cells e' cs false _) => bif e == e' && decide (n + 1 ≤ cs.length) then val (.ptr b 0) else fail "convert: pointer"
      | _, _ => none)
    | _, _, _ => fail "convert"

def xo_slc {R : Type} (C : Ctx) (st : St) (kv : AV → Hp → Option R) (ko : OR → Option R) (t : TypeId) (x : Operand) (lo hi mx : Option Operand) : Option R :=
  let h := st.heap
  let val (v : AV) : Option R := kv v h
  match st.ev x, optEv st lo, optEv st hi, optEv st mx with
    | some v, some l, some h, some m => sliceA C t v l h m fun r => val r
    | _, _, _, _ => fail "slice"

def xo_fa {R : Type} (C : Ctx) (st : St) (kv : AV → Hp → Option R) (ko : OR → Option R) (s : TypeId) (x : Operand) (f : Nat) : Option R :=
  let h := st.heap
  let val (v : AV) : Option R := kv v h
  match C.und s, st.ev x with
    | some (.struct fields), some p => (match fields[f]? with
      | some fd => (match C.size fd.type with
        | some (_ + 1) => (match addOff p fd.offset with
          | some q => val q
          | none => fail "fieldAddr")
        | _ => none)
      | none => none)
    | _, _ => fail "fieldAddr"

def xo_fld {R : Type} (C : Ctx) (st : St) (kv : AV → Hp → Option R) (ko : OR → Option R) (t : TypeId) (x : Operand) (f : Nat) : Option R :=
  let h := st.heap
  let val (v : AV) : Option R := kv v h
  match C.und t, st.ev x with
    | some (.struct fields), some (.agg cs) => (match fields[f]? with
      | some fd => (match partA C fd.type cs fd.offset with
        | some v => val v
        | none => none)
      | none => none)
    | _, _ => fail "field"

def xo_ia {R : Type} (C : Ctx) (st : St) (kv : AV → Hp → Option R) (ko : OR → Option R) (t : TypeId) (x i : Operand) : Option R :=
  let h := st.heap
  let val (v : AV) : Option R := kv v h
  match C.und t, st.ev x, st.ev i with
    | some (.array len e), some p, some (.int _ n) => (match C.size e with
      | some size => bif decide (0 ≤ n) && decide (n < (len : Int)) then (match addOff p (n.toNat * size) with
        | some q => val q
        | none => fail "indexAddr") else fail "index out of range"
      | none => none)
    | some (.slice e), some (.sl b o len _), some (.int _ n) => (match C.size e with
      | some size => bif decide (0 ≤ n) && decide (n < (len : Int)) then val (.ptr b (o + n.toNat * size)) else fail "index out of range"
      | none => none)
    | some (.slice e), some (.list cs len _), some (.int _ n) => (match C.size e with
      | some size => bif decide (0 ≤ n) && decide (n < (len : Int)) then val (.lptr cs (n.toNat * size)) else fail "index out of range"
      | none => none)
    | _, _, _ => fail "indexAddr"

def xo_ix {R : Type} (C : Ctx) (st : St) (kv : AV → Hp → Option R) (ko : OR → Option R) (t : TypeId) (x i : Operand) : Option R :=
  let h := st.heap
  let val (v : AV) : Option R := kv v h
  match C.und t, st.ev x, st.ev i with
    | some (.array len e), some (.agg cs), some (.int _ n) => (match C.size e with
      | some size => bif decide (0 ≤ n) && decide (n < (len : Int)) then (match partA C e cs (n.toNat * size) with
        | some v => val v
        | none => none) else fail "index out of range"
      | none => none)
    | some .string, some (.str s), some (.int _ n) => bif decide (0 ≤ n) then (match s[n.toNat]? with
      | some b => val (.int .u8 b.toNat)
      | none => fail "index out of range") else fail "index out of range"
    | _, _, _ => fail "index"

def xo_ext {R : Type} (C : Ctx) (st : St) (kv : AV → Hp → Option R) (ko : OR → Option R) (x : Operand) (i : Nat) : Option R :=
  let h := st.heap
  let val (v : AV) : Option R := kv v h
  match st.ev x with
    | some (.tuple vs) => (match vs[i]? with
      | some v => val v
      | none => none)
    | _ => fail "extract"

def xo_call {R : Type} (C : Ctx) (st : St) (kv : AV → Hp → Option R) (ko : OR → Option R) (c : Call) : Option R :=
  let h := st.heap
  let val (v : AV) : Option R := kv v h
  match c.callee, st.evs c.args.toList with
    | .value f, some args => (match st.ev f with
      | some (.func g first cap) => ko (.call g (first ++ args ++ cap))
      | some (.yield b) => ko (.yield b args)
      | _ => fail "call of what")
    | .builtin .append, some [s, x] => appendA C h c.argTypes s x fun v h' => kv v h'
    | .builtin .copy, some [d, s] => copyA C h c.argTypes d s fun v h' => kv v h'
    | .builtin .len, some [x] => (match lenB C h c.argTypes x with
      | some n => val (.int .i64 n)
      | none => fail "len")
    | .builtin .max, some (x :: xs) => (match minmax true x xs with | some v => val v | none => none)
    | .builtin .min, some (x :: xs) => (match minmax false x xs with | some v => val v | none => none)
    | .builtin .recover, some [] => ko .recover
    | .builtin .unsafeSliceData, some [.sl b o _ (some (_ + 1))] => val (.ptr b o)
    | .builtin .unsafeSliceData, some [.sl b o (_ + 1) none] => val (.ptr b o)
    | .builtin .unsafeString, some [.ptr b o, .int _ n] => bif decide (0 < n) && decide (n ≤ 2 ^ 40) then
        (match h.bl[b]?, (c.argTypes[0]?).bind C.und with
        | some (.cells e cs t false), some (.pointer e') => bif e == e' then (match C.size e, cut cs o n.toNat with
          | some 1, some l => (match allSome l with
            | some l => (match mapO byteOf l with
              | some bs => kv (.str bs) (h.put b (.cells e cs t true) 0 whole)
              | none => none)
            | none => none)
          | _, _ => none) else none
        | _, _ => none) else none
    | _, _ => fail "call"

def xo_rest {R : Type} (C : Ctx) (st : St) (o : Oper) (kv : AV → Hp → Option R) (ko : OR → Option R) : Option R :=
  let h := st.heap
  let val (v : AV) : Option R := kv v h
  match o.op with
  | .build t parts => match C.zero t, C.und t, evParts st parts.toList with
    | some z, some (.struct fields), some ps =>
      (match placesOf C fields.toList with
      | some pls => (match fillA (fun i => pls[i]?) z.cells ps with
        | some cs => val (.agg cs)
        | none => fail "build")
      | none => none)
    | some z, some (.array _ e), some ps => (match C.size e with
      | some n => (match fillA (fun i => some (i * n, n)) z.cells ps with
        | some cs => val (.agg cs)
        | none => fail "build")
      | none => none)
    | _, _, _ => fail "build"
  | .buildSlice t len parts => match C.und t, evParts st parts.toList with
    | some (.slice e), some ps => (match C.size e, C.zero e with
      | some n, some z => bif decide (len * n ≤ 2 ^ 20) && z.cells.length == n && z.cells.all AV.oneCell then (match fillA (fun i => some (i * n, n)) (replZ len z.cells) ps with
        | some cs => kv (.sl h.bl.length 0 len (some len)) (h.new (.cells e (cs.map some) false false))
        | none => fail "buildSlice") else none
      | _, _ => none)
    | _, _ => fail "buildSlice"
  | .nilCheck x => match st.ev x with
    | some (.ptr b o) => val (.ptr b o)
    | some (.gptr b o) => val (.gptr b o)
    | some (.lptr b o) => val (.lptr b o)
    | some (.func f a b) => val (.func f a b)
    | _ => fail "nilCheck"
  | .makeInterface t x => match C.und t, st.ev x with
    | some (.interface _), _ => none
    | some _, some v => val (.iface t v)
    | _, _ => fail "makeInterface"
  | .makeFunc (.func f) first cap => match st.evs first.toList, st.evs cap.toList with
    | some a, some b => val (.func f a b)
    | _, _ => fail "makeFunc"
  | .makeMap _ none => kv (.map h.bl.length) (h.new (.map []))
  | .makeSlice t l c => match C.und t, st.ev l, st.ev c with
    | some (.slice e), some (.int _ l), some (.int _ c) => (match C.size e, C.bytes e, C.zero e with
      | some n, some bytes, some z =>
        bif z.cells.length == n && z.cells.all AV.oneCell && decide (0 ≤ l) && decide (l ≤ c) && decide ((bytes : Int) * c ≤ 2 ^ 40) && decide (c ≤ 2 ^ 40) then
          kv (.sl h.bl.length 0 l.toNat (some c.toNat)) (h.new (.cells e ((replZ c.toNat z.cells).map some) false false))
        else fail "makeSlice"
      | _, _, _ => none)
    | _, _, _ => fail "makeSlice"
  | .lookup t x i ok => match st.ev x, st.ev i with
    | some m, some key => lookupA C h t m key ok fun v => val v
    | _, _ => fail "lookup"
  | .mapUpdate t m key x | .insert t m key x => match st.ev m, st.ev key, st.ev x with
    | some m, some key, some v => mapPut C h t m key v fun h' => kv undefA h'
    | _, _, _ => fail "mapUpdate"
  | .typeAssert x _ t ok => match C.und t, st.ev x with
    | some (.interface _), _ => fail "typeAssert to an interface"
    | some _, some (.iface u v) => bif u == t then val (bif ok then .tuple [v, .bool true] else v) else
      (bif ok then (match C.zero t with | some z => val (.tuple [z, .bool false]) | none => none) else fail "typeAssert")
    | some _, some .nilIface => bif ok then (match C.zero t with | some z => val (.tuple [z, .bool false]) | none => none) else fail "typeAssert"
    | _, _ => fail "typeAssert"
  | .panic x => match st.ev x with
    | some (.iface t v) => ko (.panic (.iface t v))
    | _ => fail "panic"
  | .defer c => match c.callee, st.evs c.args.toList with
    | .value f, some args => (match st.ev f with
      | some (.func g first cap) => ko (.defer g (first ++ args ++ cap))
      | _ => fail "defer")
    | _, _ => fail "defer"
  | _ => fail "operation"

/-- an operation, read off its text: the kernel keeps what it reads -/
structure Box (R : Type) where
  f : St → (AV → Hp → Option R) → (OR → Option R) → Option R

def boxOp {R : Type} (C : Ctx) (o : Oper) : Box R := match o.op with
  | .move x | .assign x => ⟨fun st kv ko => xo_mv C st kv ko x⟩
  | .pick c a b => ⟨fun st kv ko => xo_pick C st kv ko c a b⟩
  | .alloc e => ⟨fun st kv ko => xo_alloc C st kv ko e⟩
  | .box e x => ⟨fun st kv ko => xo_box C st kv ko e x⟩
  | .load t a => ⟨fun st kv ko => xo_load C st kv ko t a⟩
  | .store t a x => ⟨fun st kv ko => xo_store C st kv ko t a x⟩
  | .binOp op t x y _ => ⟨fun st kv ko => xo_bin C st kv ko op t x y⟩
  | .unOp op _ x => ⟨fun st kv ko => xo_un C st kv ko op x⟩
  | .convert src dst x => ⟨fun st kv ko => xo_conv C st kv ko src dst x⟩
  | .slice t x lo hi mx => ⟨fun st kv ko => xo_slc C st kv ko t x lo hi mx⟩
  | .fieldAddr s x f => ⟨fun st kv ko => xo_fa C st kv ko s x f⟩
  | .field t x f => ⟨fun st kv ko => xo_fld C st kv ko t x f⟩
  | .indexAddr t x i => ⟨fun st kv ko => xo_ia C st kv ko t x i⟩
  | .index t x i => ⟨fun st kv ko => xo_ix C st kv ko t x i⟩
  | .extract x i => ⟨fun st kv ko => xo_ext C st kv ko x i⟩
  | .call c => ⟨fun st kv ko => xo_call C st kv ko c⟩
  | _ => ⟨fun st kv ko => xo_rest C st o kv ko⟩

theorem boxOp_eq {R : Type} (C : Ctx) (o : Oper) (st : St) (k : OR → Option R) : (boxOp C o).f st (fun v h => k (.val v h)) k = opA0 C st o k := by
  unfold opA0
  obtain ⟨dst, op, ty, pos, af, g⟩ := o
  cases op <;> first
    | rfl
    | (simp only [boxOp, xo_bin, xo_un, splitB_eq]; done)
    | (simp only [boxOp, xo_alloc, xo_box, xo_load, xo_store, lenFF_eq, newF_eq, loadTF_eq, setCellsF_eq]; done)
    | (simp only [boxOp, xo_alloc, xo_box, xo_load, xo_store, lenFF_eq, newF_eq, loadTF_eq, setCellsF_eq]; rfl)
    | (simp only [boxOp, xo_bin, xo_un, splitB_eq]; rfl)
    | (rename_i f _ _; cases f <;> rfl)
    | (rename_i _ x; cases x <;> rfl)

def opA {R : Type} (C : Ctx) (st : St) (o : Oper) (k : OR → Option R) : Option R := opA0 C st o k

theorem opA_eq {R : Type} (C : Ctx) (st : St) (o : Oper) (k : OR → Option R) : opA C st o k = opA0 C st o k := rfl

/- ## the machine -/

def wantedA {R : Type} (all : Array Oper) (st : St) (o : Oper) (yes no : Unit → Option R) : Option R :=
  match o.guard with
  | none => yes ()
  | some (j, want) => match (all[j]?).bind (·.dst) with
    | none => no ()
    | some d => match st.env.get d with
      | some (.bool b) => match want with
        | true => bif b then yes () else no ()
        | false => bif b then no () else yes ()
      | some _ => no ()
      | none => none

def resultsA (C : Ctx) (st : St) : List ResultVar → Option (List AV)
  | [] => some []
  | .tmp t :: rs => match st.env.get t, resultsA C st rs with
    | some v, some vs => some (v :: vs)
    | _, _ => none
  | .cell a t :: rs => match st.env.get a with
    | some p => match loadT C st.heap t p, resultsA C st rs with
      | some v, some vs => some (v :: vs)
      | _, _ => none
    | none => none

def resultA : List AV → AV
  | [v] => v
  | vs => .tuple vs

def shiftB (n : Nat) : Blk → Blk
  | .cells e cs t f => bif f then .dead else .cells e (cs.map (Option.map (AV.shift n))) t f
  | .map es => .map (es.map fun (a, b) => (a.shift n, b.shift n))
  | _ => .dead

/-- slices of memory that nobody else will write again, as plain lists -/
def frzV (C : Ctx) (h : Hp) : AV → Option AV
  | .sl b o len cap => match h.bl[b]? with
    | some (.cells e cs _ _) => match C.size e with
      | some n => match cut cs o (len * n) with
        | some l => match allSome l with
          | some l => bif AV.hasAddr.go l then none else some (.list l len (match cap with | some c => c == len | none => false))
          | none => none
        | none => none
      | none => none
    | _ => none
  | .agg cs => match frzs cs with
    | some l => some (.agg l)
    | none => none
  | .tuple cs => match frzs cs with
    | some l => some (.tuple l)
    | none => none
  | v => bif v.hasAddr then none else some v
where frzs : List AV → Option (List AV)
  | [] => some []
  | x :: xs => match frzV C h x, frzs xs with
    | some y, some ys => some (y :: ys)
    | _, _ => none

/-- .. also slices in slices -/
def frz2 (C : Ctx) (h : Hp) : AV → Option AV
  | .sl b o len cap => match h.bl[b]? with
    | some (.cells e cs _ _) => match C.size e with
      | some n => match cut cs o (len * n) with
        | some l => match allSome l with
          | some l => match frzV.frzs C h l with
            | some l' => some (.list l' len (match cap with | some c => c == len | none => false))
            | none => none
          | none => none
        | none => none
      | none => none
    | _ => none
  | .agg cs => match go cs with
    | some l => some (.agg l)
    | none => none
  | v => frzV C h v
where go : List AV → Option (List AV)
  | [] => some []
  | x :: xs => match frz2 C h x, go xs with
    | some y, some ys => some (y :: ys)
    | _, _ => none

/-- values that do not hang on any memory -/
def AV.plain : AV → Bool
  | .bool _ | .int _ _ | .str _ | .nilp | .nils | .nilm | .nilFunc | .nilIface | .gptr _ _ => true
  | .iface _ v => v.plain
  | .agg cs => go cs
  | .tuple cs => go cs
  | _ => false
where go : List AV → Bool
  | [] => true
  | x :: xs => x.plain && go xs

def finK {R : Type} (heap : Hp) (k : Res → Option R) (r : Res) : Option R := match r with
  | .out (.ret v) _ _ => bif v.plain then k (.out (.ret v) heap .no) else none
  | .out (.panic v) _ _ => bif v.plain then k (.out (.panic v) heap .no) else none
  | _ => none

def outA {R : Type} (C : Ctx) (f : FuncId) (heap : Hp) (r : Res) (k : Res → Option R) : Option R :=
  match r with
  | .out (.ret v) h _ =>
    match (bif C.frz f then frzV C h v else none) with
    | some v' => k (.out (.ret v') heap .no)
    | none => bif v.hasAddr then k (.out (.ret (v.shift heap.bl.length)) ⟨heap.bl ++ h.bl.map (shiftB heap.bl.length), heap.log⟩ .no) else k (.out (.ret v) heap .no)
  | .out (.panic v) _ _ => bif v.hasAddr then none else k (.out (.panic v) heap .no)
  | _ => none

/- regions that draw their order -/

inductive Cls where
  | plain | heavy | ld (t : TypeId) (b o n : Nat)

def cls (C : Ctx) (st : St) (o : Oper) : Cls :=
  match o.op with
  | .move _ | .assign _ | .pick .. | .alloc _ | .box .. | .build .. | .buildSlice .. | .nilCheck _ | .unOp .. | .makeInterface .. | .makeFunc .. | .makeMap .. | .makeSlice ..
  | .slice .. | .fieldAddr .. | .field .. | .indexAddr .. | .index .. | .typeAssert .. | .extract .. | .binOp .. => .plain
  | .load t a => match st.ev a with
    | some (.ptr b o) => (match C.isAgg t, C.size t with
      | some true, some (n + 1) => .ld t b o (n + 1)
      | some false, some _ => .ld t b o 1
      | _, _ => .heavy)
    | some (.gptr ..) | some (.lptr ..) => .plain
    | _ => .heavy
  | .convert _ _ x => match st.ev x with
    | some (.int ..) | some (.str _) => .plain
    | _ => .heavy
  | .call c => match c.callee with
    | .builtin .len => match c.args.toList with
      | [x] => match st.ev x with
        | some (.map _) | none => .heavy
        | _ => .plain
      | _ => .heavy
    | .builtin .max | .builtin .min => .plain
    | .value f => match st.ev f, st.evs c.args.toList with
      | some (.func _ first cap), some args => bif AV.hasAddr.go first || AV.hasAddr.go args || AV.hasAddr.go cap then .heavy else .plain
      | _, _ => .heavy
    | _ => .heavy
  | _ => .heavy

def apartW (r : Nat × Nat × Nat) (w : Nat × Nat × Nat) : Bool :=
  !(r.1 == w.1) || (!(w.2.2 == whole) && (decide (r.2.1 + r.2.2 ≤ w.2.1) || decide (w.2.1 + w.2.2 ≤ r.2.1)))

def apartAll (r : Nat × Nat × Nat) (ws : List (Nat × Nat × Nat)) : Bool := ws.all (apartW r)

/-- is i ordered ahead of whatever has the set 's' ahead of it? -/
def ahead (s : Nat) (i : Nat) : Bool := s.testBit i

/-- blocks from lo on up to hi are hidden -/
def hide (lo hi : Nat) : Nat → List Blk → List Blk
  | _, [] => []
  | i, b :: bs => (bif decide (lo ≤ i) && decide (i < hi) then .dead else b) :: hide lo hi (i + 1) bs

/-- what was made by operations that are not ahead is hidden -/
def hideAll (s : Nat) (recs : List Rec) (h : List Blk) : List Blk :=
  recs.foldl (fun h r => bif ahead s r.j || r.lo == r.hi then h else hide r.lo r.hi 0 h) h

/-- what was hidden is shown again -/
def unhide : List Blk → List Blk → List Blk → List Blk
  | o :: os, .dead :: hs, _ :: cs => o :: unhide os hs cs
  | _ :: os, _ :: hs, c :: cs => c :: unhide os hs cs
  | _, _, cs => cs

def putIf (t e : Tr) (i : Nat) : Tr := match t.get i with
  | some v => e.set i v
  | none => e

/-- the temporaries that an operation looks at -/
def envOf (all : Array Oper) (t : Tr) (o : Oper) : Tr :=
  let e := o.op.operands.foldl (fun e x => match x with
    | .tmp i => putIf t e i
    | _ => e) .nil
  match o.guard with
  | some (g, _) => (match (all[g]?).bind (·.dst) with
    | some d => putIf t e d
    | none => e)
  | none => e

def delDst (all : List Oper) (t : Tr) : Tr :=
  all.foldl (fun t o => match o.dst with | some d => t.del d | none => t) t

abbrev Kn (R : Type) : Type := Res → Option R

/-- the evaluator's levels, as one record: the kernel keeps each -/
structure RecF (R : Type) where
  code : Code → St → Kn R → Option R
  ops : Array Oper → List Oper → St → Kn R → Option R
  draw : Array Oper → Array Nat → Nat → List Oper → St → List Rec → Nat → Option (AV × Nat) → Kn R → Option R
  op : Oper → St → Kn R → Option R
  opF : Oper → St → (AV → Hp → Option R) → Kn R → Option R
  opl : Oper → St → Kn R → Option R
  call : FuncId → List AV → Hp → Kn R → Option R
  dcall : FuncId → List AV → Hp → Pan → Kn R → Option R
  round : Nat → List AV → Hp → Kn R → Option R
  leave : Func → St → Mode → Kn R → Option R

def seqK {R : Type} (rec : RecF R) (b : Code) (k : Kn R) (r : Res) : Option R := match r with
  | .ex .normal st' => rec.code b st' k
  | r => k r

def blockK {R : Type} (id : Nat) (k : Kn R) (r : Res) : Option R := match r with
  | .ex (.exit id') st' => bif id' == id then k (.ex .normal st') else k (.ex (.exit id') st')
  | r => k r

def loopK {R : Type} (rec : RecF R) (b : Code) (k : Kn R) (r : Res) : Option R := match r with
  | .ex .normal st' => rec.code (.loop b) st' k
  | r => k r

def step_range {R : Type} (C : Ctx) (rec : RecF R) (f : Operand) (params : Array Tmp) (assign body : Code) (st : St) (k : Res → Option R) : Option R :=
      bif st.rnd || !(params.all fun t => decide (t < st.nt)) then fail "range over a function in a round" else
      match st.ev f with
      | some (.func g first cap) =>
        let d := st.heap.bl.length
        let b := d + 1
        if hc : codeOk st.nt assign = true ∧ codeOk st.nt body = true then
        let l : LoopB := { st := .ready, pending := none, env := st.env, nt := st.nt, params := params.toList, assign, body, fn := 0, ok1 := hc.1, ok2 := hc.2 }
        rec.call g (first ++ [.yield b] ++ cap) ((st.heap.new .dmark).new (.loop l)) fun r => match r with
          | .out (.ret _) h' _ => (match h'.bl[b]? with
            | some (.loop l') =>
              let st' := { st with heap := h'.put b .dead 0 whole, defers := .mark d :: st.defers }
              (match l'.st with
              | .busy => fail "range func busy"
              | _ => (match l'.pending with
                | none => k (.ex .normal st')
                | some (.exit id) => k (.ex (.exit id) st')
                | some .ret => k (.ex .ret st')
                | some _ => none))
            | _ => none)
          | .out (.panic v) h' _ => k (.ex (.panic v) { st with heap := h'.put b .dead 0 whole, defers := .mark d :: st.defers })
          | _ => none
        else none
      | _ => fail "rangeFunc"

def step_cond {R : Type} (rec : RecF R) (c : Operand) (a b : Code) (st : St) (k : Kn R) : Option R := match st.ev c with
  | some (.bool t) => bif t then rec.code a st k else rec.code b st k
  | _ => fail "cond"

structure BoxC (R : Type) where
  f : RecF R → St → Kn R → Option R

def boxCode {R : Type} (C : Ctx) (c : Code) : BoxC R := match c with
  | .skip | .label _ => ⟨fun _ st k => k (.ex .normal st)⟩
  | .seq a b => ⟨fun rec st k => rec.code a st (seqK rec b k)⟩
  | .cond c a b => ⟨fun rec st k => step_cond rec c a b st k⟩
  | .block id b => ⟨fun rec st k => rec.code b st (blockK id k)⟩
  | .loop b => ⟨fun rec st k => rec.code b st (loopK rec b k)⟩
  | .scope b => ⟨fun rec st k => rec.code b st k⟩
  | .exit id => ⟨fun _ st k => k (.ex (.exit id) st)⟩
  | .ret => ⟨fun _ st k => k (.ex .ret st)⟩
  | .region _ ops true => ⟨fun rec st k => rec.draw ops (Region.before ops) 0 ops.toList st [] 0 none k⟩
  | .region _ ops false => ⟨fun rec st k => rec.ops ops ops.toList st k⟩
  | .rangeFunc f params assign body => ⟨fun rec st k => step_range C rec f params assign body st k⟩
  | .goto _ | .refuse _ => ⟨fun _ _ _ => fail "code"⟩

def step_code {R : Type} (C : Ctx) (rec : RecF R) (c : Code) (st : St) (k : Kn R) : Option R := (boxCode C c).f rec st k

/-- an operation's value is put, then the next -/
def St.putH (st : St) (h : Hp) (dst : Option Tmp) (v : AV) : St := match dst with
  | some d => match st with | ⟨env, nt, _, defers, pan, rnd⟩ => ⟨env.set d v, nt, h, defers, pan, rnd⟩
  | none => match st with | ⟨env, nt, _, defers, pan, rnd⟩ => ⟨env, nt, h, defers, pan, rnd⟩

def opsK {R : Type} (rec : RecF R) (all : Array Oper) (rest : List Oper) (dst : Option Tmp) (k : Kn R) (r : Res) : Option R := match r with
  | .val v st' => rec.ops all rest (st'.put dst v) k
  | .pan v st' => k (.ex (.panic v) st')
  | _ => none

def opsV {R : Type} (rec : RecF R) (all : Array Oper) (rest : List Oper) (dst : Option Tmp) (k : Kn R) (st : St) (v : AV) (h : Hp) : Option R := rec.ops all rest (st.putH h dst v) k

def opsGo {R : Type} (rec : RecF R) (all : Array Oper) (o : Oper) (rest : List Oper) (dst : Option Tmp) (st : St) (k : Kn R) : Option R := rec.opF o st (opsV rec all rest dst k st) (opsK rec all rest dst k)

def boxOps {R : Type} (all : Array Oper) (rest : List Oper) : BoxC R := match rest with
  | [] => ⟨fun _ st k => k (.ex .normal st)⟩
  | o :: rest => match o.guard with
    | none => ⟨fun rec st k => opsGo rec all o rest o.dst st k⟩
    | some _ => ⟨fun rec st k => wantedA all st o (fun _ => opsGo rec all o rest o.dst st k) (fun _ => rec.ops all rest (st.put o.dst undefA) k)⟩

def step_ops {R : Type} (rec : RecF R) (all : Array Oper) (rest : List Oper) (st : St) (k : Kn R) : Option R := (boxOps all rest).f rec st k

def callK {R : Type} (st : St) (k : Kn R) (r : Res) : Option R := match r with
  | .out (.ret v) h _ => k (.val v (st.setHeap h))
  | .out (.panic v) h _ => k (.pan v (st.setHeap h))
  | _ => none

def opK {R : Type} (rec : RecF R) (st : St) (k : Kn R) (r : OR) : Option R := match r with
  | .val v h => k (.val v (st.setHeap h))
  | .call f args => rec.call f args st.heap (callK st k)
  | .yield b args => rec.round b args st.heap (callK st k)
  | .defer f args => bif st.rnd then none else k (.val undefA { st with defers := .call f args :: st.defers })
  | .recover => bif st.rnd then none else match st.pan with
    | .no | .done => k (.val .nilIface st)
    | .live v => k (.val v { st with pan := .done })
  | .panic v => k (.pan v st)

def step_op {R : Type} (C : Ctx) (rec : RecF R) (o : Oper) (st : St) (k : Kn R) : Option R := opA C st o (opK rec st k)

def step_opF {R : Type} (C : Ctx) (rec : RecF R) (o : Oper) (st : St) (kv : AV → Hp → Option R) (k : Kn R) : Option R := (boxOp C o).f st kv (opK rec st k)

def step_opl {R : Type} (C : Ctx) (rec : RecF R) (o : Oper) (st : St) (k : Res → Option R) : Option R :=
    opA C st o fun r => match r with
      | .val v h => k (.val v { st with heap := h })
      | .call f args => rec.call f args st.heap fun r => match r with
        | .out (.ret v) h _ => k (.val v { st with heap := h })
        | .out (.panic v) h _ => k (.pan v { st with heap := h })
        | _ => none
      | .yield b args => rec.round b args st.heap fun r => match r with
        | .out (.ret v) h _ => k (.val v { st with heap := h })
        | .out (.panic v) h _ => k (.pan v { st with heap := h })
        | _ => none
      | .panic v => k (.pan v st)
      | _ => fail "draw: defer or recover"

def step_draw {R : Type} (C : Ctx) (rec : RecF R) (all : Array Oper) (bef : Array Nat) (j : Nat) (rest : List Oper) (st : St) (recs : List Rec) (dead : Nat) (pn : Option (AV × Nat)) (k : Res → Option R) : Option R := match rest with
  | [] => match pn with
    | none => k (.ex .normal st)
    | some (v, j) => k (.ex (.panic v) { st with env := delDst all.toList st.env, heap := { st.heap with bl := hideAll (bef.getD j 0) (recs.filter fun x => !(x.j == j)) st.heap.bl } })
  | o :: rest =>
    let s := bef.getD j 0
    bif !(s &&& dead == 0) then rec.draw all bef (j + 1) rest st recs (dead ||| 2 ^ j) pn k else
    let lo := st.heap.bl.length
    let st1 := { st with env := envOf all st.env o }
    wantedA all st1 o
      (fun _ => match cls C st1 o with
        | .plain => rec.opl o { st1 with heap := ⟨List.replicate lo .dead, []⟩ } fun r => match r with
          | .val v st' => rec.draw all bef (j + 1) rest ({ st with heap := ⟨st.heap.bl ++ st'.heap.bl.drop lo, st.heap.log⟩ }.put o.dst v)
              ({ j, heavy := false, wr := [], rd := none, lo, hi := st'.heap.bl.length } :: recs) dead pn k
          | .pan v st' => (match pn with
            | some _ => fail "draw: two panics"
            | none => bif recs.all (fun r => !r.heavy || ahead s r.j) then
                rec.draw all bef (j + 1) rest { st with heap := ⟨st.heap.bl ++ st'.heap.bl.drop lo, st.heap.log⟩ }
                  ({ j, heavy := false, wr := [], rd := none, lo, hi := st'.heap.bl.length } :: recs) (dead ||| 2 ^ j) (some (v, j)) k else fail "draw: panic")
          | _ => none
        | .ld t b p m => bif recs.all (fun r => ahead s r.j || ((decide (b < r.lo) || decide (r.hi ≤ b)) && (!r.heavy || apartAll (b, p, m) r.wr))) then
            (match loadT C st.heap t (.ptr b p) with
            | some v => rec.draw all bef (j + 1) rest (st.put o.dst v)
                ({ j, heavy := false, wr := [], rd := some (b, p, m), lo, hi := lo } :: recs) dead pn k
            | none => fail "draw: load fails")
          else fail "draw: load"
        | .heavy => (match pn with
          | some _ => fail "draw: behind a panic"
          | none => bif recs.all (fun r => !r.heavy || ahead s r.j) then
            let hid := hideAll s recs st.heap.bl
            rec.opl o { st1 with heap := ⟨hid, []⟩ } fun r => match r with
            | .val v st' => bif recs.all (fun r => ahead s r.j || (match r.rd with | some x => apartAll x st'.heap.log | none => true)) then
                rec.draw all bef (j + 1) rest ({ st with heap := ⟨unhide st.heap.bl hid st'.heap.bl, st'.heap.log ++ st.heap.log⟩ }.put o.dst v)
                  ({ j, heavy := true, wr := st'.heap.log, rd := none, lo, hi := st'.heap.bl.length } :: recs) dead pn k else fail "draw: heavy"
            | .pan v st' => bif recs.all (fun r => ahead s r.j || (match r.rd with | some x => apartAll x st'.heap.log | none => true)) then
                rec.draw all bef (j + 1) rest { st with heap := ⟨unhide st.heap.bl hid st'.heap.bl, st'.heap.log ++ st.heap.log⟩ }
                  ({ j, heavy := true, wr := st'.heap.log, rd := none, lo, hi := st'.heap.bl.length } :: recs) (dead ||| 2 ^ j) (some (v, j)) k else fail "draw: heavy"
            | _ => none
          else fail "draw: heavy order"))
      (fun _ => rec.draw all bef (j + 1) rest (st.put o.dst undefA) ({ j, heavy := false, wr := [], rd := none, lo, hi := lo } :: recs) dead pn k)

def bodyK {R : Type} (rec : RecF R) (fn : Func) (k : Kn R) (r : Res) : Option R := match r with
  | .ex e st => (match e with
    | .normal | .ret => rec.leave fn st .returning k
    | .panic v => rec.leave fn st (.panicking v) k
    | .exit _ => none)
  | _ => none

structure BoxF (R : Type) where
  f : RecF R → List AV → Hp → Kn R → Option R

def callOv {R : Type} (C : Ctx) (rec : RecF R) (f : FuncId) (fn : Func) (body : Code) (args : List AV) (heap : Hp) (k : Kn R) (o : Option (Bool × CT)) : Option R := match o with
  | some (c, o) => bif c then o.go (fun o => k (.out o heap .no)) else none
  | none => rec.code body { env := Tr.ofList args 0 .nil, nt := fn.ntmps, heap := ⟨[], []⟩, defers := [], pan := .no, rnd := false } (bodyK rec fn fun r => outA C f heap r k)

def callFin {R : Type} (rec : RecF R) (f : FuncId) (fn : Func) (body : Code) (args : List AV) (heap : Hp) (k : Kn R) (o : Option (List AV)) : Option R := match o with
  | some args' => rec.call f args' ⟨[], []⟩ (finK heap k)
  | none => rec.code body { env := Tr.ofList args 0 .nil, nt := fn.ntmps, heap, defers := [], pan := .no, rnd := false } (bodyK rec fn k)

def callOvh {R : Type} (C : Ctx) (rec : RecF R) (f : FuncId) (fn : Func) (body : Code) (args : List AV) (heap : Hp) (k : Kn R) (o : Option (Bool × CT × Hp)) : Option R := match o with
  | some (c, o, h') => bif c then o.go (fun o => k (.out o h' .no)) else none
  | none => callFin rec f fn body args heap k (bif C.fin f then frz2.go C heap args else none)

def boxCall {R : Type} (C : Ctx) (f : FuncId) : BoxF R := match C.fn f with
  | none => ⟨fun _ _ _ _ => none⟩
  | some fn => match fn.body with
    | none => (match C.ext f with
      | some g => ⟨fun _ args heap k => (match g args with | some v => k (.out (.ret v) heap .no) | none => fail "extern args")⟩
      | none => ⟨fun _ _ _ _ => fail "extern"⟩)
    | some body => (match C.ovh f with
      | some gh => ⟨fun rec args heap k => bif AV.hasAddr.go args then callOvh C rec f fn body args heap k (gh args heap) else callOv C rec f fn body args heap k (match C.ov f with | some g => g args | none => none)⟩
      | none => match C.fin f with
        | true => ⟨fun rec args heap k => bif AV.hasAddr.go args then callFin rec f fn body args heap k (frz2.go C heap args) else callOv C rec f fn body args heap k (match C.ov f with | some g => g args | none => none)⟩
        | false => match C.ov f with
      | some g => ⟨fun rec args heap k => bif AV.hasAddr.go args then rec.code body { env := Tr.ofList args 0 .nil, nt := fn.ntmps, heap, defers := [], pan := .no, rnd := false } (bodyK rec fn k) else callOv C rec f fn body args heap k (g args)⟩
      | none => ⟨fun rec args heap k => bif AV.hasAddr.go args then rec.code body { env := Tr.ofList args 0 .nil, nt := fn.ntmps, heap, defers := [], pan := .no, rnd := false } (bodyK rec fn k) else
          rec.code body { env := Tr.ofList args 0 .nil, nt := fn.ntmps, heap := ⟨[], []⟩, defers := [], pan := .no, rnd := false } (bodyK rec fn fun r => outA C f heap r k)⟩)

def step_call {R : Type} (C : Ctx) (rec : RecF R) (f : FuncId) (args : List AV) (heap : Hp) (k : Kn R) : Option R := (boxCall C f).f rec args heap k

def step_dcall {R : Type} (C : Ctx) (rec : RecF R) (f : FuncId) (args : List AV) (heap : Hp) (pan : Pan) (k : Res → Option R) : Option R :=
    match C.fn f with
    | none => none
    | some fn => match fn.body with
      | none => none
      | some body =>
        rec.code body { env := Tr.ofList args 0 .nil, nt := fn.ntmps, heap, defers := [], pan, rnd := false } fun r => match r with
          | .ex e st => (match e, st.defers, resultsA C st fn.results.toList with
            | .normal, [], some vs => k (.out (.ret (resultA vs)) st.heap st.pan)
            | .ret, [], some vs => k (.out (.ret (resultA vs)) st.heap st.pan)
            | _, _, _ => fail "deferred")
          | _ => none

def step_round {R : Type} (rec : RecF R) (b : Nat) (args : List AV) (heap : Hp) (k : Res → Option R) : Option R :=
    match heap.bl[b]? with
    | some (.loop l) => match l.st with
      | .ready => bif args.length == l.params.length then
          let env := (l.params.zip args).foldl (fun e (t, a) => e.set t a) l.env
          rec.code l.assign { env, nt := l.nt, heap, defers := [], pan := .no, rnd := true } fun r => match r with
            | .ex .normal st => (match st.heap.bl[b]? with
              | some (.loop l1) => (match l1.st with
                | .ready => rec.code l.body { st with heap := st.heap.put b (.loop { l1 with st := .busy }) 0 whole } fun r => match r with
                  | .ex e st => (match st.heap.bl[b]? with
                    | some (.loop l2) => (match e with
                      | .normal => k (.out (.ret (.bool true)) (st.heap.put b (.loop { l2 with st := .ready, pending := none }) 0 whole) .no)
                      | .exit id => k (.out (.ret (.bool false)) (st.heap.put b (.loop { l2 with st := .done, pending := some (.exit id) }) 0 whole) .no)
                      | .ret => k (.out (.ret (.bool false)) (st.heap.put b (.loop { l2 with st := .done, pending := some .ret }) 0 whole) .no)
                      | .panic v => (match st.defers with
                        | [] => k (.out (.panic v) st.heap .no)
                        | _ => none))
                    | _ => none)
                  | _ => none
                | _ => none)
              | _ => none)
            | _ => none
        else none
      | _ => fail "round: loop not ready"
    | _ => none

def step_leave {R : Type} (C : Ctx) (rec : RecF R) (fn : Func) (st : St) (m : Mode) (k : Res → Option R) : Option R :=
    match st.defers with
    | [] => match m with
      | .returning => match resultsA C st fn.results.toList with
        | some vs => k (.out (.ret (resultA vs)) st.heap st.pan)
        | none => fail "results"
      | .panicking v => k (.out (.panic v) st.heap st.pan)
    | .mark b :: ds => match st.heap.bl[b]? with
      | some .dmark => rec.leave fn { st with heap := st.heap.put b .dead 0 whole, defers := ds } m k
      | _ => none
    | .call f args :: ds => rec.dcall f args st.heap (match m with | .returning => .no | .panicking v => .live v) fun r => match r with
      | .out (.ret _) h p =>
        let m' : Mode := match m, p with
          | .panicking _, .done => .returning
          | m, _ => m
        rec.leave fn { st with heap := h, defers := ds } m' k
      | _ => fail "deferred panics"

def recS {R : Type} (C : Ctx) (rec : RecF R) : RecF R :=
  ⟨step_code C rec, step_ops rec, step_draw C rec, step_op C rec, step_opF C rec, step_opl C rec, step_call C rec, step_dcall C rec, step_round rec, step_leave C rec⟩

def rec0 {R : Type} : RecF R := ⟨fun _ _ _ => none, fun _ _ _ _ => none, fun _ _ _ _ _ _ _ _ _ => none, fun _ _ _ => none, fun _ _ _ _ => none, fun _ _ _ => none, fun _ _ _ _ => none, fun _ _ _ _ _ => none, fun _ _ _ _ => none, fun _ _ _ _ => none⟩

def recF {R : Type} (C : Ctx) (n : Nat) : RecF R := Nat.rec (motive := fun _ => RecF R) rec0 (fun _ rec => recS C rec) n

def run {R : Type} (C : Ctx) (n : Nat) (t : Task) (k : Kn R) : Option R := match t with
  | .code c st => (recF C n).code c st k
  | .ops all rest st => (recF C n).ops all rest st k
  | .draw all bef j rest st recs dead pn => (recF C n).draw all bef j rest st recs dead pn k
  | .op o st => (recF C n).op o st k
  | .opl o st => (recF C n).opl o st k
  | .call f args heap => (recF C n).call f args heap k
  | .dcall f args heap pan => (recF C n).dcall f args heap pan k
  | .round b args heap => (recF C n).round b args heap k
  | .leave fn st m => (recF C n).leave fn st m k

/-- one level of the evaluator, in one piece -/
def runS {R : Type} (C : Ctx) (n : Nat) : Task → (Res → Option R) → Option R
  | .code c st, k =>
    match c with
    | .skip | .label _ => k (.ex .normal st)
    | .seq a b => run C n (.code a st) fun r => match r with
      | .ex .normal st' => run C n (.code b st') k
      | r => k r
    | .cond c a b => match st.ev c with
      | some (.bool t) => bif t then run C n (.code a st) k else run C n (.code b st) k
      | _ => fail "cond"
    | .block id b => run C n (.code b st) fun r => match r with
      | .ex (.exit id') st' => bif id' == id then k (.ex .normal st') else k (.ex (.exit id') st')
      | r => k r
    | .loop b => run C n (.code b st) fun r => match r with
      | .ex .normal st' => run C n (.code (.loop b) st') k
      | r => k r
    | .scope b => run C n (.code b st) k
    | .exit id => k (.ex (.exit id) st)
    | .ret => k (.ex .ret st)
    | .region _ ops draw => (bif draw then
          let bef := Region.before ops
          run C n (.draw ops bef 0 ops.toList st [] 0 none) k
        else run C n (.ops ops ops.toList st) k)
    | .rangeFunc f params assign body =>
      bif st.rnd || !(params.all fun t => decide (t < st.nt)) then fail "range over a function in a round" else
      match st.ev f with
      | some (.func g first cap) =>
        let d := st.heap.bl.length
        let b := d + 1
        if hc : codeOk st.nt assign = true ∧ codeOk st.nt body = true then
        let l : LoopB := { st := .ready, pending := none, env := st.env, nt := st.nt, params := params.toList, assign, body, fn := 0, ok1 := hc.1, ok2 := hc.2 }
        run C n (.call g (first ++ [.yield b] ++ cap) ((st.heap.new .dmark).new (.loop l))) fun r => match r with
          | .out (.ret _) h' _ => (match h'.bl[b]? with
            | some (.loop l') =>
              let st' := { st with heap := h'.put b .dead 0 whole, defers := .mark d :: st.defers }
              (match l'.st with
              | .busy => fail "range func busy"
              | _ => (match l'.pending with
                | none => k (.ex .normal st')
                | some (.exit id) => k (.ex (.exit id) st')
                | some .ret => k (.ex .ret st')
                | some _ => none))
            | _ => none)
          | .out (.panic v) h' _ => k (.ex (.panic v) { st with heap := h'.put b .dead 0 whole, defers := .mark d :: st.defers })
          | _ => none
        else none
      | _ => fail "rangeFunc"
    | .goto _ | .refuse _ => fail "code"
  | .ops _ [] st, k => k (.ex .normal st)
  | .ops all (o :: rest) st, k =>
    wantedA all st o
      (fun _ => run C n (.op o st) fun r => match r with
        | .val v st' => run C n (.ops all rest (st'.put o.dst v)) k
        | .pan v st' => k (.ex (.panic v) st')
        | _ => none)
      (fun _ => run C n (.ops all rest (st.put o.dst undefA)) k)
  | .op o st, k =>
    opA C st o fun r => match r with
      | .val v h => k (.val v { st with heap := h })
      | .call f args => run C n (.call f args st.heap) fun r => match r with
        | .out (.ret v) h _ => k (.val v { st with heap := h })
        | .out (.panic v) h _ => k (.pan v { st with heap := h })
        | _ => none
      | .yield b args => run C n (.round b args st.heap) fun r => match r with
        | .out (.ret v) h _ => k (.val v { st with heap := h })
        | .out (.panic v) h _ => k (.pan v { st with heap := h })
        | _ => none
      | .defer f args => bif st.rnd then none else k (.val undefA { st with defers := .call f args :: st.defers })
      | .recover => bif st.rnd then none else match st.pan with
        | .no | .done => k (.val .nilIface st)
        | .live v => k (.val v { st with pan := .done })
      | .panic v => k (.pan v st)
  | .opl o st, k =>
    opA C st o fun r => match r with
      | .val v h => k (.val v { st with heap := h })
      | .call f args => run C n (.call f args st.heap) fun r => match r with
        | .out (.ret v) h _ => k (.val v { st with heap := h })
        | .out (.panic v) h _ => k (.pan v { st with heap := h })
        | _ => none
      | .yield b args => run C n (.round b args st.heap) fun r => match r with
        | .out (.ret v) h _ => k (.val v { st with heap := h })
        | .out (.panic v) h _ => k (.pan v { st with heap := h })
        | _ => none
      | .panic v => k (.pan v st)
      | _ => fail "draw: defer or recover"
  | .draw all bef _ [] st recs _ pn, k => match pn with
    | none => k (.ex .normal st)
    | some (v, j) => k (.ex (.panic v) { st with env := delDst all.toList st.env, heap := { st.heap with bl := hideAll (bef.getD j 0) (recs.filter fun x => !(x.j == j)) st.heap.bl } })
  | .draw all bef j (o :: rest) st recs dead pn, k =>
    let s := bef.getD j 0
    bif !(s &&& dead == 0) then run C n (.draw all bef (j + 1) rest st recs (dead ||| 2 ^ j) pn) k else
    let lo := st.heap.bl.length
    let st1 := { st with env := envOf all st.env o }
    wantedA all st1 o
      (fun _ => match cls C st1 o with
        | .plain => run C n (.opl o { st1 with heap := ⟨List.replicate lo .dead, []⟩ }) fun r => match r with
          | .val v st' => run C n (.draw all bef (j + 1) rest ({ st with heap := ⟨st.heap.bl ++ st'.heap.bl.drop lo, st.heap.log⟩ }.put o.dst v)
              ({ j, heavy := false, wr := [], rd := none, lo, hi := st'.heap.bl.length } :: recs) dead pn) k
          | .pan v st' => (match pn with
            | some _ => fail "draw: two panics"
            | none => bif recs.all (fun r => !r.heavy || ahead s r.j) then
                run C n (.draw all bef (j + 1) rest { st with heap := ⟨st.heap.bl ++ st'.heap.bl.drop lo, st.heap.log⟩ }
                  ({ j, heavy := false, wr := [], rd := none, lo, hi := st'.heap.bl.length } :: recs) (dead ||| 2 ^ j) (some (v, j))) k else fail "draw: panic")
          | _ => none
        | .ld t b p m => bif recs.all (fun r => ahead s r.j || ((decide (b < r.lo) || decide (r.hi ≤ b)) && (!r.heavy || apartAll (b, p, m) r.wr))) then
            (match loadT C st.heap t (.ptr b p) with
            | some v => run C n (.draw all bef (j + 1) rest (st.put o.dst v)
                ({ j, heavy := false, wr := [], rd := some (b, p, m), lo, hi := lo } :: recs) dead pn) k
            | none => fail "draw: load fails")
          else fail "draw: load"
        | .heavy => (match pn with
          | some _ => fail "draw: behind a panic"
          | none => bif recs.all (fun r => !r.heavy || ahead s r.j) then
            let hid := hideAll s recs st.heap.bl
            run C n (.opl o { st1 with heap := ⟨hid, []⟩ }) fun r => match r with
            | .val v st' => bif recs.all (fun r => ahead s r.j || (match r.rd with | some x => apartAll x st'.heap.log | none => true)) then
                run C n (.draw all bef (j + 1) rest ({ st with heap := ⟨unhide st.heap.bl hid st'.heap.bl, st'.heap.log ++ st.heap.log⟩ }.put o.dst v)
                  ({ j, heavy := true, wr := st'.heap.log, rd := none, lo, hi := st'.heap.bl.length } :: recs) dead pn) k else fail "draw: heavy"
            | .pan v st' => bif recs.all (fun r => ahead s r.j || (match r.rd with | some x => apartAll x st'.heap.log | none => true)) then
                run C n (.draw all bef (j + 1) rest { st with heap := ⟨unhide st.heap.bl hid st'.heap.bl, st'.heap.log ++ st.heap.log⟩ }
                  ({ j, heavy := true, wr := st'.heap.log, rd := none, lo, hi := st'.heap.bl.length } :: recs) (dead ||| 2 ^ j) (some (v, j))) k else fail "draw: heavy"
            | _ => none
          else fail "draw: heavy order"))
      (fun _ => run C n (.draw all bef (j + 1) rest (st.put o.dst undefA) ({ j, heavy := false, wr := [], rd := none, lo, hi := lo } :: recs) dead pn) k)
  | .call f args heap, k =>
    match C.fn f with
    | none => none
    | some fn => match fn.body with
      | none => (match C.ext f with
        | some g => (match g args with | some v => k (.out (.ret v) heap .no) | none => fail "extern args")
        | none => fail "extern")
      | some body =>
        bif AV.hasAddr.go args then (match (match C.ovh f with | some g => g args heap | none => none) with
          | some (c, o, h') => bif c then o.go (fun o => k (.out o h' .no)) else none
          | none => match (bif C.fin f then frz2.go C heap args else none) with
            | some args' => run C n (.call f args' ⟨[], []⟩) (finK heap k)
            | none =>
              run C n (.code body { env := Tr.ofList args 0 .nil, nt := fn.ntmps, heap, defers := [], pan := .no, rnd := false }) fun r => match r with
              | .ex e st => (match e with
                | .normal | .ret => run C n (.leave fn st .returning) k
                | .panic v => run C n (.leave fn st (.panicking v)) k
                | .exit _ => none)
              | _ => none)
        else match (match C.ov f with | some g => g args | none => none) with
          | some (c, o) => bif c then o.go (fun o => k (.out o heap .no)) else none
          | none =>
            run C n (.code body { env := Tr.ofList args 0 .nil, nt := fn.ntmps, heap := ⟨[], []⟩, defers := [], pan := .no, rnd := false }) fun r => match r with
            | .ex e st => (match e with
              | .normal | .ret => run C n (.leave fn st .returning) fun r => outA C f heap r k
              | .panic v => run C n (.leave fn st (.panicking v)) fun r => outA C f heap r k
              | .exit _ => none)
            | _ => none
  | .dcall f args heap pan, k =>
    match C.fn f with
    | none => none
    | some fn => match fn.body with
      | none => none
      | some body =>
        run C n (.code body { env := Tr.ofList args 0 .nil, nt := fn.ntmps, heap, defers := [], pan, rnd := false }) fun r => match r with
          | .ex e st => (match e, st.defers, resultsA C st fn.results.toList with
            | .normal, [], some vs => k (.out (.ret (resultA vs)) st.heap st.pan)
            | .ret, [], some vs => k (.out (.ret (resultA vs)) st.heap st.pan)
            | _, _, _ => fail "deferred")
          | _ => none
  | .round b args heap, k =>
    match heap.bl[b]? with
    | some (.loop l) => match l.st with
      | .ready => bif args.length == l.params.length then
          let env := (l.params.zip args).foldl (fun e (t, a) => e.set t a) l.env
          run C n (.code l.assign { env, nt := l.nt, heap, defers := [], pan := .no, rnd := true }) fun r => match r with
            | .ex .normal st => (match st.heap.bl[b]? with
              | some (.loop l1) => (match l1.st with
                | .ready => run C n (.code l.body { st with heap := st.heap.put b (.loop { l1 with st := .busy }) 0 whole }) fun r => match r with
                  | .ex e st => (match st.heap.bl[b]? with
                    | some (.loop l2) => (match e with
                      | .normal => k (.out (.ret (.bool true)) (st.heap.put b (.loop { l2 with st := .ready, pending := none }) 0 whole) .no)
                      | .exit id => k (.out (.ret (.bool false)) (st.heap.put b (.loop { l2 with st := .done, pending := some (.exit id) }) 0 whole) .no)
                      | .ret => k (.out (.ret (.bool false)) (st.heap.put b (.loop { l2 with st := .done, pending := some .ret }) 0 whole) .no)
                      | .panic v => (match st.defers with
                        | [] => k (.out (.panic v) st.heap .no)
                        | _ => none))
                    | _ => none)
                  | _ => none
                | _ => none)
              | _ => none)
            | _ => none
        else none
      | _ => fail "round: loop not ready"
    | _ => none
  | .leave fn st m, k =>
    match st.defers with
    | [] => match m with
      | .returning => match resultsA C st fn.results.toList with
        | some vs => k (.out (.ret (resultA vs)) st.heap st.pan)
        | none => fail "results"
      | .panicking v => k (.out (.panic v) st.heap st.pan)
    | .mark b :: ds => match st.heap.bl[b]? with
      | some .dmark => run C n (.leave fn { st with heap := st.heap.put b .dead 0 whole, defers := ds } m) k
      | _ => none
    | .call f args :: ds => run C n (.dcall f args st.heap (match m with | .returning => .no | .panicking v => .live v)) fun r => match r with
      | .out (.ret _) h p =>
        let m' : Mode := match m, p with
          | .panicking _, .done => .returning
          | m, _ => m
        run C n (.leave fn { st with heap := h, defers := ds } m') k
      | _ => fail "deferred panics"

theorem run_zero {R : Type} (C : Ctx) (t : Task) (k : Res → Option R) : run C 0 t k = none := by cases t <;> rfl

theorem callK_eq {R : Type} (st : St) (k : Res → Option R) : callK st k = fun r => match r with
    | .out (.ret v) h _ => k (.val v { st with heap := h })
    | .out (.panic v) h _ => k (.pan v { st with heap := h })
    | _ => none := by
  funext r
  unfold callK
  rcases r with _ | ⟨(_ | _), _, _⟩ | _ | _ <;> rfl

theorem opF_eq {R : Type} (C : Ctx) (n : Nat) (o : Oper) (st : St) (kv : AV → Hp → Option R) (k : Kn R) (h : ∀ v hp, kv v hp = k (.val v (st.setHeap hp))) : (recF C n).opF o st kv k = (recF C n).op o st k := by
  cases n with
  | zero => rfl
  | succ n =>
    show (boxOp C o).f st kv (opK (recF C n) st k) = opA C st o (opK (recF C n) st k)
    have : kv = fun v hp => opK (recF C n) st k (.val v hp) := by funext v hp; exact h v hp
    rw [this, boxOp_eq]
    rfl

theorem putH_eq (st : St) (h : Hp) (dst : Option Tmp) (v : AV) : st.putH h dst v = (st.setHeap h).put dst v := by
  cases dst <;> rfl

theorem run_succ {R : Type} (C : Ctx) (n : Nat) (t : Task) (k : Res → Option R) : run C (n + 1) t k = runS C n t k := by
  cases t with
  | code c st =>
    show (boxCode C c).f (recF C n) st k = _
    cases c with
    | region id ops draw => cases draw <;> rfl
    | _ => rfl
  | ops all rest st =>
    show (boxOps all rest).f (recF C n) st k = _
    cases rest with
    | nil => rfl
    | cons o rest =>
      have hgo : opsGo (recF C n) all o rest o.dst st k = run C n (.op o st) fun r => match r with
          | .val v st' => run C n (.ops all rest (st'.put o.dst v)) k
          | .pan v st' => k (.ex (.panic v) st')
          | _ => none := by
        have hk : opsK (recF C n) all rest o.dst k = fun r => match r with
            | .val v st' => run C n (.ops all rest (st'.put o.dst v)) k
            | .pan v st' => k (.ex (.panic v) st')
            | _ => none := by
          funext r
          unfold opsK
          rcases r with _ | _ | _ | _ <;> rfl
        unfold opsGo
        rw [opF_eq C n o st _ _ (fun v hp => by
          show (recF C n).ops all rest (st.putH hp o.dst v) k = (recF C n).ops all rest ((st.setHeap hp).put o.dst v) k
          rw [putH_eq]), hk]
        rfl
      simp only [runS]
      rw [← hgo]
      cases hg : o.guard with
      | none => simp only [wantedA, hg, boxOps]
      | some x => simp only [boxOps, hg]; rfl
  | draw all bef j rest st recs dead pn => cases rest <;> rfl
  | op o st =>
    refine congrArg (opA C st o) (funext fun r => ?_)
    cases r <;> simp only [opK, callK_eq] <;> rfl
  | opl o st => rfl
  | call f args heap =>
    show (boxCall C f).f (recF C n) args heap k = _
    have hk : ∀ (fn : Func) (k : Res → Option R), bodyK (recF C n) fn k = fun r => match r with
            | .ex e st => (match e with
              | .normal | .ret => run C n (.leave fn st .returning) k
              | .panic v => run C n (.leave fn st (.panicking v)) k
              | .exit _ => none)
            | _ => none := fun fn k => by
      funext r
      unfold bodyK
      rcases r with ⟨e, _⟩ | _ | _ | _ <;> (try cases e) <;> rfl
    simp only [runS, boxCall]
    cases C.fn f with
    | none => rfl
    | some fn =>
      dsimp only
      cases fn.body with
      | none =>
        dsimp only
        cases C.ext f <;> rfl
      | some body =>
        dsimp only
        cases C.ovh f with
        | none =>
          dsimp only
          cases C.fin f with
          | false =>
            dsimp only
            cases C.ov f with
            | none => simp only [hk]; rfl
            | some g =>
              simp only [hk, callOv]
              cases g args <;> rfl
          | true =>
            simp only [hk, callOv, callFin, cond_true]
            cases frz2.go C heap args <;> cases C.ov f with
            | none => rfl
            | some g => dsimp only; cases g args <;> rfl
        | some gh =>
          simp only [hk, callOv, callOvh, callFin]
          cases gh args heap <;> cases (bif C.fin f then frz2.go C heap args else none) <;> cases C.ov f with
          | none => rfl
          | some g => dsimp only; cases g args <;> rfl
  | dcall f args heap pan => rfl
  | round b args heap => rfl
  | leave fn st m => rfl

end
end Go.Ev

/- What the evaluator's values and memory stand for in the model's world; that this is kept while the world grows. -/

namespace Go.Ev
open Go

structure Loc where
  cb : Nat
  base : Nat
  total : Nat
  esz : Nat

abbrev Mu := Nat → Option Loc
def mu0 : Mu := fun _ => none

def oneV : Value → Bool
  | .agg _ | .tuple _ => false
  | _ => true

/-- from offset off on the block's cells are these -/
def CellsAt (w : World) (cb off : Nat) (vs : List Value) : Prop :=
  ∃ c e fr, w.heap[cb]? = some (.cells c e fr) ∧ ∀ i v, vs[i]? = some v → c[off + i]? = some v

/-- the same entries, in whatever order; the keys are numbers, each once -/
structure MapAlike (kvs kvs' : List (AV × AV)) : Prop where
  mem : ∀ x, x ∈ kvs' ↔ x ∈ kvs
  keys : ∀ x ∈ kvs, ∃ n, x.1 = .int .i64 n
  once : ∀ x ∈ kvs, ∀ y ∈ kvs, x.1 = y.1 → x = y


mutual
inductive VR (C : Ctx) (w : World) (I : Nat → Prop) : Mu → AV → Value → Prop
  | bool (μ : Mu) (b : Bool) : VR C w I μ (.bool b) (.bool b)
  | int (μ : Mu) (k : IntKind) (n : Int) : VR C w I μ (.int k n) (.int k n)
  | str (μ : Mu) (s : ByteArray) : VR C w I μ (.str s.data.toList) (.string s)
  | nilp (μ : Mu) : VR C w I μ .nilp (.pointer none)
  | ptr (μ : Mu) (b o : Nat) (L : Loc) : μ b = some L → VR C w I μ (.ptr b o) (.pointer (some ⟨L.cb, L.base + o, none⟩))
  | gptr (μ : Mu) (g o : Nat) : VR C w I μ (.gptr g o) (.pointer (some ⟨g, o, none⟩))
  | lptr (μ : Mu) (cs : List AV) (vs : List Value) (cb off o : Nat) : I cb → CellsAt w cb off vs → VRs C w I mu0 cs vs → (cs.all AV.oneCell = true) → VR C w I μ (.lptr cs o) (.pointer (some ⟨cb, off + o, none⟩))
  | sl (μ : Mu) (b o len : Nat) (cap : Option Nat) (c' : Nat) (L : Loc) : μ b = some L → (∀ c, cap = some c → c' = c) → (cap = none → L.base + o + c' * L.esz ≤ L.total) → len ≤ c' → VR C w I μ (.sl b o len cap) (.slice (some ⟨L.cb, L.base + o, none⟩) len c')
  | nils (μ : Mu) : VR C w I μ .nils (.slice none 0 0)
  | list (μ : Mu) (cs : List AV) (vs : List Value) (cb off len c' : Nat) (full : Bool) : I cb → CellsAt w cb off vs → VRs C w I mu0 cs vs → (cs.all AV.oneCell = true) → len ≤ c' → (full = true → c' = len) → VR C w I μ (.list cs len full) (.slice (some ⟨cb, off, none⟩) len c')
  | nilm (μ : Mu) : VR C w I μ .nilm (.map none)
  | map (μ : Mu) (b : Nat) (L : Loc) : μ b = some L → VR C w I μ (.map b) (.map (some L.cb))
  | gmap (μ : Mu) (g r : Nat) (kvs kvs' : List (AV × AV)) (en : Array MapEntry) (clk : Nat) : C.gmaps g = some kvs → I r → w.heap[r]? = some (.map en clk) → MapAlike kvs kvs' → VRs C w I mu0 (kvs'.map (·.1)) (en.toList.map (·.key)) → VRs C w I mu0 (kvs'.map (·.2)) (en.toList.map (·.val)) → VR C w I μ (.gmap g) (.map (some r))
  | func (μ : Mu) (f : FuncId) (first cap : List AV) (v1 v2 : List Value) : VRs C w I μ first v1 → VRs C w I μ cap v2 → VR C w I μ (.func f first cap) (.func (.func f) v1.toArray v2.toArray)
  | yield (μ : Mu) (b : Nat) (L : Loc) : μ b = some L → VR C w I μ (.yield b) (.func (.yield L.cb) #[] #[])
  | nilFunc (μ : Mu) : VR C w I μ .nilFunc .nilFunc
  | iface (μ : Mu) (t : TypeId) (a : AV) (v : Value) : VR C w I μ a v → VR C w I μ (.iface t a) (.iface t v)
  | nilIface (μ : Mu) : VR C w I μ .nilIface .nilIface
  | agg (μ : Mu) (cs : List AV) (vs : List Value) : VRs C w I μ cs vs → (cs.all AV.oneCell = true) → VR C w I μ (.agg cs) (.agg vs.toArray)
  | tuple (μ : Mu) (cs : List AV) (vs : List Value) : VRs C w I μ cs vs → VR C w I μ (.tuple cs) (.tuple vs.toArray)
inductive VRs (C : Ctx) (w : World) (I : Nat → Prop) : Mu → List AV → List Value → Prop
  | nil (μ : Mu) : VRs C w I μ [] []
  | cons (μ : Mu) (a : AV) (v : Value) (as : List AV) (vs : List Value) : VR C w I μ a v → VRs C w I μ as vs → VRs C w I μ (a :: as) (v :: vs)
end

section
variable {C : Ctx} {w w' : World} {I I' : Nat → Prop}

theorem CellsAt.kept {cb off : Nat} {vs : List Value} (h : CellsAt w cb off vs) (hk : w'.heap[cb]? = w.heap[cb]?) : CellsAt w' cb off vs := by
  obtain ⟨c, e, fr, h1, h2⟩ := h
  exact ⟨c, e, fr, by rw [hk]; exact h1, h2⟩

mutual
theorem VR.mono {μ μ' : Mu} {a : AV} {v : Value} (hI : ∀ cb, I cb → I' cb) (hw : ∀ cb, I cb → w'.heap[cb]? = w.heap[cb]?)
    (hμ : ∀ b L, μ b = some L → μ' b = some L) : VR C w I μ a v → VR C w' I' μ' a v
  | .bool _ b => .bool _ b
  | .int _ k n => .int _ k n
  | .str _ s => .str _ s
  | .nilp _ => .nilp _
  | .ptr _ b o L h => .ptr _ b o L (hμ _ _ h)
  | .gptr _ g o => .gptr _ g o
  | .lptr _ cs vs cb off o h1 h2 h3 h4 => .lptr _ cs vs cb off o (hI _ h1) (h2.kept (hw _ h1)) (VRs.mono hI hw (fun _ _ h => h) h3) h4
  | .sl _ b o len cap c' L h1 h2 h3 h4 => .sl _ b o len cap c' L (hμ _ _ h1) h2 h3 h4
  | .nils _ => .nils _
  | .list _ cs vs cb off len c' full h1 h2 h3 h4 h5 h6 => .list _ cs vs cb off len c' full (hI _ h1) (h2.kept (hw _ h1)) (VRs.mono hI hw (fun _ _ h => h) h3) h4 h5 h6
  | .nilm _ => .nilm _
  | .map _ b L h => .map _ b L (hμ _ _ h)
  | .gmap _ g r kvs kvs' en clk h1 h2 h3 h0 h4 h5 => .gmap _ g r kvs kvs' en clk h1 (hI _ h2) (by rw [hw _ h2]; exact h3) h0 (VRs.mono hI hw (fun _ _ h => h) h4) (VRs.mono hI hw (fun _ _ h => h) h5)
  | .func _ f first cap v1 v2 h1 h2 => .func _ f first cap v1 v2 (VRs.mono hI hw hμ h1) (VRs.mono hI hw hμ h2)
  | .yield _ b L h => .yield _ b L (hμ _ _ h)
  | .nilFunc _ => .nilFunc _
  | .iface _ t a v h => .iface _ t a v (VR.mono hI hw hμ h)
  | .nilIface _ => .nilIface _
  | .agg _ cs vs h1 h2 => .agg _ cs vs (VRs.mono hI hw hμ h1) h2
  | .tuple _ cs vs h1 => .tuple _ cs vs (VRs.mono hI hw hμ h1)
theorem VRs.mono {μ μ' : Mu} {as : List AV} {vs : List Value} (hI : ∀ cb, I cb → I' cb) (hw : ∀ cb, I cb → w'.heap[cb]? = w.heap[cb]?)
    (hμ : ∀ b L, μ b = some L → μ' b = some L) : VRs C w I μ as vs → VRs C w' I' μ' as vs
  | .nil _ => .nil _
  | .cons _ a v as vs h1 h2 => .cons _ a v as vs (VR.mono hI hw hμ h1) (VRs.mono hI hw hμ h2)
end

mutual
/-- what has no address in it stands for the same under every map of the blocks -/
theorem VR.closed {μ μ' : Mu} {a : AV} {v : Value} : VR C w I μ a v → a.hasAddr = false → VR C w I μ' a v
  | .bool _ b, _ => .bool _ b
  | .int _ k n, _ => .int _ k n
  | .str _ s, _ => .str _ s
  | .nilp _, _ => .nilp _
  | .ptr _ b o L h, hc => by simp [AV.hasAddr] at hc
  | .gptr _ g o, _ => .gptr _ g o
  | .lptr _ cs vs cb off o h1 h2 h3 h4, _ => .lptr _ cs vs cb off o h1 h2 h3 h4
  | .sl _ b o len cap c' L h1 h2 h3 h4, hc => by simp [AV.hasAddr] at hc
  | .nils _, _ => .nils _
  | .list _ cs vs cb off len c' full h1 h2 h3 h4 h5 h6, _ => .list _ cs vs cb off len c' full h1 h2 h3 h4 h5 h6
  | .nilm _, _ => .nilm _
  | .map _ b L h, hc => by simp [AV.hasAddr] at hc
  | .gmap _ g r kvs kvs' en clk h1 h2 h3 h0 h4 h5, _ => .gmap _ g r kvs kvs' en clk h1 h2 h3 h0 h4 h5
  | .func _ f first cap v1 v2 h1 h2, hc => .func _ f first cap v1 v2 (VRs.closed h1 (by simp [AV.hasAddr] at hc; exact hc.1)) (VRs.closed h2 (by simp [AV.hasAddr] at hc; exact hc.2))
  | .yield _ b L h, hc => by simp [AV.hasAddr] at hc
  | .nilFunc _, _ => .nilFunc _
  | .iface _ t a v h, hc => .iface _ t a v (VR.closed h (by simpa [AV.hasAddr] using hc))
  | .nilIface _, _ => .nilIface _
  | .agg _ cs vs h1 h2, hc => .agg _ cs vs (VRs.closed h1 (by simpa [AV.hasAddr] using hc)) h2
  | .tuple _ cs vs h1, hc => .tuple _ cs vs (VRs.closed h1 (by simpa [AV.hasAddr] using hc))
theorem VRs.closed {μ μ' : Mu} {as : List AV} {vs : List Value} : VRs C w I μ as vs → AV.hasAddr.go as = false → VRs C w I μ' as vs
  | .nil _, _ => .nil _
  | .cons _ a v as vs h1 h2, hc => .cons _ a v as vs (VR.closed h1 (by simp [AV.hasAddr.go] at hc; exact hc.1)) (VRs.closed h2 (by simp [AV.hasAddr.go] at hc; exact hc.2))
end

mutual
theorem VR.shift {μ μ' : Mu} {n : Nat} {a : AV} {v : Value} (hμ : ∀ b L, μ b = some L → μ' (b + n) = some L) : VR C w I μ a v → VR C w I μ' (a.shift n) v
  | .bool _ b => .bool _ b
  | .int _ k m => .int _ k m
  | .str _ s => .str _ s
  | .nilp _ => .nilp _
  | .ptr _ b o L h => .ptr _ (b + n) o L (hμ _ _ h)
  | .gptr _ g o => .gptr _ g o
  | .lptr _ cs vs cb off o h1 h2 h3 h4 => .lptr _ cs vs cb off o h1 h2 h3 h4
  | .sl _ b o len cap c' L h1 h2 h3 h4 => .sl _ (b + n) o len cap c' L (hμ _ _ h1) h2 h3 h4
  | .nils _ => .nils _
  | .list _ cs vs cb off len c' full h1 h2 h3 h4 h5 h6 => .list _ cs vs cb off len c' full h1 h2 h3 h4 h5 h6
  | .nilm _ => .nilm _
  | .map _ b L h => .map _ (b + n) L (hμ _ _ h)
  | .gmap _ g r kvs kvs' en clk h1 h2 h3 h0 h4 h5 => .gmap _ g r kvs kvs' en clk h1 h2 h3 h0 h4 h5
  | .func _ f first cap v1 v2 h1 h2 => .func _ f _ _ v1 v2 (VRs.shift hμ h1) (VRs.shift hμ h2)
  | .yield _ b L h => .yield _ (b + n) L (hμ _ _ h)
  | .nilFunc _ => .nilFunc _
  | .iface _ t a v h => .iface _ t _ v (VR.shift hμ h)
  | .nilIface _ => .nilIface _
  | .agg _ cs vs h1 h2 => .agg _ _ vs (VRs.shift hμ h1) (by rw [oneCell_shift]; exact h2)
  | .tuple _ cs vs h1 => .tuple _ _ vs (VRs.shift hμ h1)
theorem VRs.shift {μ μ' : Mu} {n : Nat} {as : List AV} {vs : List Value} (hμ : ∀ b L, μ b = some L → μ' (b + n) = some L) : VRs C w I μ as vs → VRs C w I μ' (AV.shift.go n as) vs
  | .nil _ => .nil _
  | .cons _ a v as vs h1 h2 => .cons _ _ v _ vs (VR.shift hμ h1) (VRs.shift hμ h2)
theorem oneCell_shift {n : Nat} {cs : List AV} : (AV.shift.go n cs).all AV.oneCell = cs.all AV.oneCell := by
  induction cs with
  | nil => rfl
  | cons a cs ih =>
    simp only [AV.shift.go, List.all_cons, ih]
    cases a <;> simp [AV.shift, AV.oneCell]
end

theorem VRs.length {μ : Mu} {as : List AV} {vs : List Value} (h : VRs C w I μ as vs) : as.length = vs.length := by
  induction as generalizing vs with
  | nil => cases h; rfl
  | cons a as ih => cases h with | cons _ _ v _ vs h1 h2 => simp [ih h2]

theorem VRs.get {μ : Mu} {as : List AV} {vs : List Value} (h : VRs C w I μ as vs) {i : Nat} {a : AV} (hi : as[i]? = some a) : ∃ v, vs[i]? = some v ∧ VR C w I μ a v := by
  induction as generalizing vs i with
  | nil => simp at hi
  | cons b as ih =>
    cases h with
    | cons _ _ v _ vs h1 h2 =>
      cases i with
      | zero => simp at hi; subst hi; exact ⟨v, rfl, h1⟩
      | succ i => simpa using ih h2 (by simpa using hi)

theorem VRs.append {μ : Mu} {as bs : List AV} {vs us : List Value} (h : VRs C w I μ as vs) (h' : VRs C w I μ bs us) : VRs C w I μ (as ++ bs) (vs ++ us) := by
  induction as generalizing vs with
  | nil => cases h; simpa using h'
  | cons a as ih => cases h with | cons _ _ v _ vs h1 h2 => exact .cons _ _ _ _ _ h1 (ih h2)

theorem VRs.drop {μ : Mu} {as : List AV} {vs : List Value} (n : Nat) (h : VRs C w I μ as vs) : VRs C w I μ (as.drop n) (vs.drop n) := by
  induction n generalizing as vs with
  | zero => simpa using h
  | succ n ih =>
    cases h with
    | nil => simpa using VRs.nil _
    | cons _ a v as vs h1 h2 => simpa using ih h2

theorem VRs.take {μ : Mu} {as : List AV} {vs : List Value} (n : Nat) (h : VRs C w I μ as vs) : VRs C w I μ (as.take n) (vs.take n) := by
  induction n generalizing as vs with
  | zero => simpa using VRs.nil _
  | succ n ih =>
    cases h with
    | nil => simpa using VRs.nil _
    | cons _ a v as vs h1 h2 => exact .cons _ _ _ _ _ h1 (ih h2)

theorem VR.one {μ : Mu} {a : AV} {v : Value} (h : VR C w I μ a v) : oneV v = a.oneCell := by
  cases h <;> rfl

end
end Go.Ev

/- The evaluator's memory and the world's: what stands for what, and what a piece of the run keeps. -/
namespace Go.Ev
open Go

/- ## lists and the temporaries' tree -/

theorem getElem?_setAt {α : Type} (l : List α) (i j : Nat) (y : α) : (setAt l i y)[j]? = if i = j ∧ j < l.length then some y else l[j]? := by
  induction l generalizing i j with
  | nil => cases i <;> simp [setAt]
  | cons x xs ih =>
    cases i with
    | zero => cases j <;> simp [setAt]
    | succ i => cases j <;> simp [setAt, ih]

theorem length_setAt {α : Type} (l : List α) (i : Nat) (y : α) : (setAt l i y).length = l.length := by
  induction l generalizing i with
  | nil => cases i <;> simp [setAt]
  | cons x xs ih => cases i <;> simp [setAt, ih]

theorem Tr.get_nil (i : Nat) : Tr.nil.get i = none := rfl

theorem nbeq (a b : Nat) : Nat.beq a b = decide (a = b) := by
  cases h : Nat.beq a b with
  | true => simp [Nat.eq_of_beq_eq_true h]
  | false => simp [Nat.ne_of_beq_eq_false h]

theorem Tr.get_node (l : Tr) (v : Option AV) (r : Tr) (i : Nat) : (Tr.node l v r).get i = if i = 0 then v else if i % 2 = 1 then l.get (i / 2) else r.get (i / 2 - 1) := by
  show (Bool.rec (Bool.rec (r.get (i / 2 - 1)) (l.get (i / 2)) (Nat.beq (i % 2) 1)) v (Nat.beq i 0) : Option AV) = _
  rw [nbeq, nbeq]
  by_cases h : i = 0
  · simp [h]
  · by_cases h2 : i % 2 = 1 <;> simp [h, h2]

theorem Tr.one_succ (x : AV) (f i : Nat) : Tr.one x (f + 1) i = if i = 0 then .node .nil (some x) .nil else if i % 2 = 1 then .node (Tr.one x f (i / 2)) none .nil else .node .nil none (Tr.one x f (i / 2 - 1)) := by
  show (Bool.rec (Bool.rec (.node .nil none (Tr.one x f (i / 2 - 1))) (.node (Tr.one x f (i / 2)) none .nil) (Nat.beq (i % 2) 1)) (.node .nil (some x) .nil) (Nat.beq i 0) : Tr) = _
  rw [nbeq, nbeq]
  by_cases h : i = 0
  · simp [h]
  · by_cases h2 : i % 2 = 1 <;> simp [h, h2]

theorem Tr.set_node (l : Tr) (v : Option AV) (r : Tr) (i : Nat) (x : AV) : (Tr.node l v r).set i x = if i = 0 then .node l (some x) r else if i % 2 = 1 then .node (l.set (i / 2) x) v r else .node l v (r.set (i / 2 - 1) x) := by
  show (Bool.rec (Bool.rec (.node l v (r.set (i / 2 - 1) x)) (.node (l.set (i / 2) x) v r) (Nat.beq (i % 2) 1)) (.node l (some x) r) (Nat.beq i 0) : Tr) = _
  rw [nbeq, nbeq]
  by_cases h : i = 0
  · simp [h]
  · by_cases h2 : i % 2 = 1 <;> simp [h, h2]

theorem Tr.get_one (x : AV) (f i j : Nat) (h : i < f) : (Tr.one x f i).get j = if i = j then some x else none := by
  induction f generalizing i j with
  | zero => omega
  | succ f ih =>
    rw [Tr.one_succ]
    by_cases hi : i = 0
    · subst hi
      rw [if_pos rfl, Tr.get_node]
      by_cases hj : j = 0
      · simp [hj]
      · have h0 : ¬ 0 = j := fun e => hj e.symm
        simp only [hj, h0, if_false]
        split <;> rfl
    · rw [if_neg hi]
      by_cases hm : i % 2 = 1
      · rw [if_pos hm, Tr.get_node]
        by_cases hj : j = 0
        · rw [if_pos hj, if_neg (by omega)]
        · rw [if_neg hj]
          by_cases hjm : j % 2 = 1
          · rw [if_pos hjm, ih _ _ (by omega)]
            by_cases e : i = j
            · subst e; simp
            · rw [if_neg (by omega), if_neg e]
          · rw [if_neg hjm, if_neg (by omega)]; rfl
      · rw [if_neg hm, Tr.get_node]
        by_cases hj : j = 0
        · rw [if_pos hj, if_neg (by omega)]
        · rw [if_neg hj]
          by_cases hjm : j % 2 = 1
          · rw [if_pos hjm, if_neg (by omega)]; rfl
          · rw [if_neg hjm, ih _ _ (by omega)]
            by_cases e : i = j
            · subst e; simp
            · rw [if_neg (by omega), if_neg e]

theorem Tr.get_set (t : Tr) (i j : Nat) (x : AV) : (t.set i x).get j = if i = j then some x else t.get j := by
  induction t generalizing i j with
  | nil => exact (Tr.get_one x (i + 1) i j (by omega))
  | node l v r ihl ihr =>
    rw [Tr.set_node]
    by_cases hi : i = 0
    · subst hi
      rw [if_pos rfl, Tr.get_node, Tr.get_node]
      by_cases hj : j = 0
      · simp [hj]
      · have h0 : ¬ 0 = j := fun e => hj e.symm
        simp only [hj, h0, if_false]
    · rw [if_neg hi]
      by_cases hm : i % 2 = 1
      · rw [if_pos hm, Tr.get_node, Tr.get_node]
        by_cases hj : j = 0
        · rw [if_pos hj, if_neg (by omega), if_pos hj]
        · rw [if_neg hj, if_neg hj]
          by_cases hjm : j % 2 = 1
          · rw [if_pos hjm, if_pos hjm, ihl]
            by_cases e : i = j
            · subst e; simp
            · rw [if_neg (by omega), if_neg e]
          · rw [if_neg hjm, if_neg hjm, if_neg (by omega)]
      · rw [if_neg hm, Tr.get_node, Tr.get_node]
        by_cases hj : j = 0
        · rw [if_pos hj, if_neg (by omega), if_pos hj]
        · rw [if_neg hj, if_neg hj]
          by_cases hjm : j % 2 = 1
          · rw [if_pos hjm, if_pos hjm, if_neg (by omega)]
          · rw [if_neg hjm, if_neg hjm, ihr]
            by_cases e : i = j
            · subst e; simp
            · rw [if_neg (by omega), if_neg e]

theorem Tr.get_del (t : Tr) (i j : Nat) : (t.del i).get j = if i = j then none else t.get j := by
  induction t generalizing i j with
  | nil => simp [Tr.del, Tr.get_nil]
  | node l v r ihl ihr =>
    simp only [Tr.del]
    by_cases h0 : i = 0
    · subst h0
      simp only [beq_self_eq_true, cond_true]
      rw [Tr.get_node, Tr.get_node]
      by_cases hj : j = 0
      · simp [hj]
      · have h0 : ¬ 0 = j := fun e => hj e.symm
        simp only [hj, h0, if_false]
    · have e0 : (i == 0) = false := by simp [h0]
      rw [e0]
      simp only [cond_false]
      by_cases hm : i % 2 = 1
      · have em : (i % 2 == 1) = true := by simp [hm]
        rw [em]
        simp only [cond_true]
        rw [Tr.get_node, Tr.get_node]
        by_cases hj : j = 0
        · rw [if_pos hj, if_neg (by omega), if_pos hj]
        · rw [if_neg hj, if_neg hj]
          by_cases hjm : j % 2 = 1
          · rw [if_pos hjm, if_pos hjm, ihl]
            by_cases e : i = j
            · subst e; simp
            · rw [if_neg (by omega), if_neg e]
          · rw [if_neg hjm, if_neg hjm, if_neg (by omega)]
      · have em : (i % 2 == 1) = false := by simp [hm]
        rw [em]
        simp only [cond_false]
        rw [Tr.get_node, Tr.get_node]
        by_cases hj : j = 0
        · rw [if_pos hj, if_neg (by omega), if_pos hj]
        · rw [if_neg hj, if_neg hj]
          by_cases hjm : j % 2 = 1
          · rw [if_pos hjm, if_pos hjm, if_neg (by omega)]
          · rw [if_neg hjm, if_neg hjm, ihr]
            by_cases e : i = j
            · subst e; simp
            · rw [if_neg (by omega), if_neg e]

/- ## memory -/

def Blk.mut : Blk → Bool
  | .dead => false
  | .cells _ _ _ frz => !frz
  | .map _ => true
  | .loop _ => true
  | .dmark => true

def Blk.live : Blk → Bool
  | .dead => false
  | _ => true

theorem Blk.live_of_mut {x : Blk} (h : x.mut = true) : x.live = true := by cases x <;> simp_all [Blk.mut, Blk.live]

def LState.to : LState → LoopState
  | .ready => .ready
  | .busy => .busy
  | .done => .done

/-- the temporaries that are known hold what they should -/
def ER (C : Ctx) (w : World) (I : Nat → Prop) (μ : Mu) (env : Tr) (tmps : Array Value) : Prop :=
  ∀ t a, env.get t = some a → ∃ v, tmps[t]? = some v ∧ VR C w I μ a v

structure LR (C : Ctx) (w : World) (I : Nat → Prop) (μ : Mu) (l : LoopB) (lo : Loop) : Prop where
  st : lo.state = l.st.to
  pending : lo.pending = l.pending
  size : l.nt ≤ lo.tmps.size
  env : ER C w I μ l.env lo.tmps
  params : lo.params.toList = l.params
  assign : lo.assign = l.assign
  body : lo.body = l.body
  lt : ∀ t, t ∈ l.params → t < l.nt

def BR (C : Ctx) (w : World) (I : Nat → Prop) (μ : Mu) (L : Loc) : Blk → Prop
  | .dead => True
  | .cells e cs t frz => ∃ c fr, w.heap[L.cb]? = some (.cells c e fr) ∧ c.size = L.total ∧ C.size e = some L.esz ∧ L.base + cs.length ≤ c.size ∧
      (∀ i a, cs[i]? = some (some a) → a.oneCell = true ∧ ∃ v, c[L.base + i]? = some v ∧ VR C w I μ a v) ∧ (frz = false → fr = (0, 0)) ∧ (t = false → L.base = 0)
  | .map es => ∃ en clk, w.heap[L.cb]? = some (.map en clk) ∧ VRs C w I μ (es.map (·.1)) (en.toList.map (·.key)) ∧ VRs C w I μ (es.map (·.2)) (en.toList.map (·.val))
  | .loop l => ∃ lo, w.heap[L.cb]? = some (.loop lo) ∧ LR C w I μ l lo
  | .dmark => w.heap[L.cb]? = some (.deferred (some []))

structure HR (C : Ctx) (w : World) (I : Nat → Prop) (μ : Mu) (H : List Blk) : Prop where
  blk : ∀ b x, H[b]? = some x → x.live = true → ∃ L, μ b = some L ∧ BR C w I μ L x
  apart : ∀ b b' x x' L L', H[b]? = some x → H[b']? = some x' → x.mut = true → x'.live = true → μ b = some L → μ b' = some L' → L.cb = L'.cb → b = b'
  mt : ∀ b x L, H[b]? = some x → x.mut = true → μ b = some L → ¬ I L.cb
  fro : ∀ b x L, H[b]? = some x → x.live = true → x.mut = false → μ b = some L → I L.cb
  lt : ∀ cb, I cb → cb < w.heap.size
  glob : ∀ g cs, C.glob g = some cs → I g ∧ cs.all AV.oneCell = true ∧ ∃ vs, CellsAt w g 0 vs ∧ VRs C w I mu0 cs vs

/-- the blocks that the run may write -/
def Own (μ : Mu) (H : List Blk) (cb : Nat) : Prop := ∃ b x L, H[b]? = some x ∧ x.mut = true ∧ μ b = some L ∧ L.cb = cb

structure Keep (w w' : World) (own : Nat → Prop) : Prop where
  os : w'.os = w.os
  tape : w'.tape = w.tape
  output : w'.output = w.output
  size : w.heap.size ≤ w'.heap.size
  blk : ∀ cb, cb < w.heap.size → ¬ own cb → w'.heap[cb]? = w.heap[cb]?

structure Post (C : Ctx) (w : World) (I : Nat → Prop) (μ : Mu) (H : List Blk) (w' : World) (I' : Nat → Prop) (μ' : Mu) (H' : List Blk) : Prop where
  keep : Keep w w' (Own μ H)
  sub : ∀ cb, I cb → I' cb
  new : ∀ cb, I' cb → I cb ∨ Own μ H cb ∨ w.heap.size ≤ cb
  mu : ∀ b, b < H.length ∨ H'.length ≤ b → μ' b = μ b
  len : H.length ≤ H'.length
  hr : HR C w' I' μ' H'
  own : ∀ cb, Own μ' H' cb → Own μ H cb ∨ w.heap.size ≤ cb

/-- the numbers that the new blocks will bear are free -/
def Fresh (μ : Mu) (lo hi : Nat) : Prop := ∀ b, lo ≤ b → b < hi → μ b = none

section
variable {C : Ctx} {w w' w'' : World} {I I' I'' : Nat → Prop} {μ μ' μ'' : Mu} {H H' H'' : List Blk}

theorem HR.not_own (h : HR C w I μ H) {cb : Nat} (hi : I cb) : ¬ Own μ H cb := by
  rintro ⟨b, x, L, h1, h2, h3, rfl⟩
  exact h.mt b x L h1 h2 h3 hi

theorem Keep.refl (w : World) (own : Nat → Prop) : Keep w w own := ⟨rfl, rfl, rfl, Nat.le_refl _, fun _ _ _ => rfl⟩

theorem Post.refl (h : HR C w I μ H) : Post C w I μ H w I μ H :=
  ⟨.refl _ _, fun _ h => h, fun _ h => .inl h, fun _ _ => rfl, Nat.le_refl _, h, fun _ h => .inl h⟩

/-- what is not written in the first piece, nor made, is not written in the second -/
theorem Post.imm (p : Post C w I μ H w' I' μ' H') (h : HR C w I μ H) {cb : Nat} (hi : I cb) : w'.heap[cb]? = w.heap[cb]? :=
  p.keep.blk cb (h.lt cb hi) (h.not_own hi)

theorem Post.trans (p : Post C w I μ H w' I' μ' H') (q : Post C w' I' μ' H' w'' I'' μ'' H'') : Post C w I μ H w'' I'' μ'' H'' := by
  refine ⟨⟨q.keep.os.trans p.keep.os, q.keep.tape.trans p.keep.tape, q.keep.output.trans p.keep.output, Nat.le_trans p.keep.size q.keep.size, fun cb hc ho => ?_⟩,
    fun cb h => q.sub cb (p.sub cb h), fun cb h => ?_, fun b hb => ?_, Nat.le_trans p.len q.len, q.hr, fun cb h => ?_⟩
  · have ho' : ¬ Own μ' H' cb := fun h => by
      rcases p.own cb h with h | h
      · exact ho h
      · omega
    rw [q.keep.blk cb (Nat.lt_of_lt_of_le hc p.keep.size) ho', p.keep.blk cb hc ho]
  · rcases q.new cb h with h | h | h
    · exact p.new cb h
    · exact (p.own cb h).elim (fun h => .inr (.inl h)) (fun h => .inr (.inr h))
    · exact .inr (.inr (Nat.le_trans p.keep.size h))
  · have := p.len; have := q.len
    rcases hb with hb | hb
    · rw [q.mu b (.inl (by omega)), p.mu b (.inl hb)]
    · rw [q.mu b (.inr hb), p.mu b (.inr (by omega))]
  · rcases q.own cb h with h | h
    · exact p.own cb h
    · exact .inr (Nat.le_trans p.keep.size h)

theorem Fresh.left {lo mid hi : Nat} (h : Fresh μ lo hi) (hm : mid ≤ hi) : Fresh μ lo mid := fun b h1 h2 => h b h1 (by omega)

theorem Post.fresh {hi : Nat} (p : Post C w I μ H w' I' μ' H') (h : Fresh μ H.length hi) : Fresh μ' H'.length hi := fun b h1 h2 => by
  have := p.len
  rw [p.mu b (.inr h1)]; exact h b (by omega) h2

/-- the map of the blocks only grows, where the new numbers were free -/
theorem Post.grows (p : Post C w I μ H w' I' μ' H') (h : Fresh μ H.length H'.length) : ∀ b L, μ b = some L → μ' b = some L := fun b L hb => by
  by_cases h1 : b < H.length
  · rw [p.mu b (.inl h1)]; exact hb
  · by_cases h2 : H'.length ≤ b
    · rw [p.mu b (.inr h2)]; exact hb
    · rw [h b (by omega) (by omega)] at hb; exact absurd hb (by simp)

theorem VR.step {a : AV} {v : Value} (hv : VR C w I μ a v) (h : HR C w I μ H) (p : Post C w I μ H w' I' μ' H') (hf : Fresh μ H.length H'.length) : VR C w' I' μ' a v :=
  hv.mono p.sub (fun _ hi => p.imm h hi) (p.grows hf)

theorem VRs.step {as : List AV} {vs : List Value} (hv : VRs C w I μ as vs) (h : HR C w I μ H) (p : Post C w I μ H w' I' μ' H') (hf : Fresh μ H.length H'.length) : VRs C w' I' μ' as vs :=
  hv.mono p.sub (fun _ hi => p.imm h hi) (p.grows hf)

theorem ER.mono {env : Tr} {tmps : Array Value} (h : ER C w I μ env tmps) (hI : ∀ cb, I cb → I' cb) (hw : ∀ cb, I cb → w'.heap[cb]? = w.heap[cb]?)
    (hμ : ∀ b L, μ b = some L → μ' b = some L) : ER C w' I' μ' env tmps := fun t a ht =>
  let ⟨v, h1, h2⟩ := h t a ht; ⟨v, h1, h2.mono hI hw hμ⟩

theorem ER.step {env : Tr} {tmps : Array Value} (hv : ER C w I μ env tmps) (h : HR C w I μ H) (p : Post C w I μ H w' I' μ' H') (hf : Fresh μ H.length H'.length) : ER C w' I' μ' env tmps :=
  hv.mono p.sub (fun _ hi => p.imm h hi) (p.grows hf)

theorem LR.mono {l : LoopB} {lo : Loop} (h : LR C w I μ l lo) (hI : ∀ cb, I cb → I' cb) (hw : ∀ cb, I cb → w'.heap[cb]? = w.heap[cb]?)
    (hμ : ∀ b L, μ b = some L → μ' b = some L) : LR C w' I' μ' l lo :=
  ⟨h.st, h.pending, h.size, h.env.mono hI hw hμ, h.params, h.assign, h.body, h.lt⟩

theorem BR.mono {L : Loc} {x : Blk} (h : BR C w I μ L x) (hI : ∀ cb, I cb → I' cb) (hw : ∀ cb, I cb → w'.heap[cb]? = w.heap[cb]?)
    (hμ : ∀ b L, μ b = some L → μ' b = some L) (hb : w'.heap[L.cb]? = w.heap[L.cb]?) : BR C w' I' μ' L x := by
  cases x with
  | dead => trivial
  | cells e cs t frz =>
    obtain ⟨c, fr, h1, h2, h3, h4, h5, h6⟩ := h
    refine ⟨c, fr, by rw [hb]; exact h1, h2, h3, h4, fun i a hi => ?_, h6⟩
    obtain ⟨h7, v, h8, h9⟩ := h5 i a hi
    exact ⟨h7, v, h8, h9.mono hI hw hμ⟩
  | map es =>
    obtain ⟨en, clk, h1, h2, h3⟩ := h
    exact ⟨en, clk, by rw [hb]; exact h1, h2.mono hI hw hμ, h3.mono hI hw hμ⟩
  | loop l =>
    obtain ⟨lo, h1, h2⟩ := h
    exact ⟨lo, by rw [hb]; exact h1, h2.mono hI hw hμ⟩
  | dmark =>
    have h1 : w.heap[L.cb]? = some (.deferred (some [])) := h
    show w'.heap[L.cb]? = some (.deferred (some []))
    rw [hb]; exact h1

theorem BR.lt {L : Loc} {x : Blk} (h : BR C w I μ L x) (hl : x.live = true) : L.cb < w.heap.size := by
  have key : ∀ {o : Obj}, w.heap[L.cb]? = some o → L.cb < w.heap.size := fun h => (Array.getElem?_eq_some_iff.1 h).1
  cases x with
  | dead => simp [Blk.live] at hl
  | cells e cs t frz => obtain ⟨c, fr, h1, _⟩ := h; exact key h1
  | map es => obtain ⟨en, clk, h1, _⟩ := h; exact key h1
  | loop l => obtain ⟨lo, h1, _⟩ := h; exact key h1
  | dmark => exact key (show w.heap[L.cb]? = some (.deferred (some [])) from h)

theorem globs_mono (h : HR C w I μ H) (hI : ∀ cb, I cb → I' cb) (hw : ∀ cb, I cb → w'.heap[cb]? = w.heap[cb]?) :
    ∀ g cs, C.glob g = some cs → I' g ∧ cs.all AV.oneCell = true ∧ ∃ vs, CellsAt w' g 0 vs ∧ VRs C w' I' mu0 cs vs := fun g cs hg => by
  obtain ⟨h1, h2, vs, h3, h4⟩ := h.glob g cs hg
  exact ⟨hI _ h1, h2, vs, h3.kept (hw _ h1), h4.mono hI hw (fun _ _ h => h)⟩

end
end Go.Ev

/- The ways in which memory changes: a new block, a block that is written, one that moves. -/
namespace Go.Ev
open Go

/-- all but memory and the count of draws -/
structure Beside (w w' : World) : Prop where
  os : w'.os = w.os
  tape : w'.tape = w.tape
  output : w'.output = w.output

theorem Beside.refl (w : World) : Beside w w := ⟨rfl, rfl, rfl⟩

def Mu.upd (μ : Mu) (b : Nat) (L : Loc) : Mu := fun i => if i = b then some L else μ i

section
variable {C : Ctx} {w w' : World} {I : Nat → Prop} {μ : Mu} {H : List Blk}

theorem getElem?_snoc {α : Type} (l : List α) (x : α) (i : Nat) : (l ++ [x])[i]? = if i = l.length then some x else l[i]? := by
  by_cases h : i = l.length
  · subst h; simp
  · by_cases h2 : i < l.length
    · simp [List.getElem?_append_left h2, h]
    · rw [if_neg h, List.getElem?_eq_none (by simp; omega), List.getElem?_eq_none (by omega)]

/-- nothing of memory has turned -/
theorem HR.same (h : HR C w I μ H) (hh : w'.heap = w.heap) : HR C w' I μ H := by
  have hw : ∀ cb, I cb → w'.heap[cb]? = w.heap[cb]? := fun cb _ => by rw [hh]
  refine ⟨fun b x hb hl => ?_, h.apart, h.mt, h.fro, fun cb hi => by rw [hh]; exact h.lt cb hi, globs_mono h (fun _ h => h) hw⟩
  obtain ⟨L, h1, h2⟩ := h.blk b x hb hl
  exact ⟨L, h1, h2.mono (fun _ h => h) hw (fun _ _ h => h) (by rw [hh])⟩

theorem post_same (h : HR C w I μ H) (hs : Beside w w') (hh : w'.heap = w.heap) : Post C w I μ H w' I μ H :=
  ⟨⟨hs.os, hs.tape, hs.output, by rw [hh]; exact Nat.le_refl _, fun cb _ _ => by rw [hh]⟩, fun _ h => h, fun _ h => .inl h, fun _ _ => rfl, Nat.le_refl _, h.same hh, fun _ h => .inl h⟩

/-- a new block of the world's, and of the evaluator's -/
theorem post_new (h : HR C w I μ H) (hf : Fresh μ H.length (H.length + 1)) (hs : Beside w w') {o : Obj} (hh : w'.heap = w.heap.push o) {x : Blk} {L : Loc}
    (hL : L.cb = w.heap.size) (hm : x.mut = true) (hx : BR C w' I (μ.upd H.length L) L x) : Post C w I μ H w' I (μ.upd H.length L) (H ++ [x]) := by
  have hfree : μ H.length = none := hf _ (Nat.le_refl _) (by omega)
  have hgrow : ∀ b L', μ b = some L' → (μ.upd H.length L) b = some L' := fun b L' hb => by
    unfold Mu.upd
    split
    · rename_i e; subst e; rw [hfree] at hb; exact absurd hb (by simp)
    · exact hb
  have hold : ∀ cb, cb < w.heap.size → w'.heap[cb]? = w.heap[cb]? := fun cb hc => by rw [hh, Array.getElem?_push, if_neg (by omega)]
  have hsz : w'.heap.size = w.heap.size + 1 := by rw [hh]; simp
  have hw : ∀ cb, I cb → w'.heap[cb]? = w.heap[cb]? := fun cb hi => hold cb (h.lt cb hi)
  have hat : ∀ b y, (H ++ [x])[b]? = some y → (b = H.length ∧ y = x) ∨ (b ≠ H.length ∧ H[b]? = some y) := fun b y hb => by
    rw [getElem?_snoc] at hb
    split at hb
    · rename_i e; exact .inl ⟨e, by simpa using hb.symm⟩
    · rename_i e; exact .inr ⟨e, hb⟩
  have hmu : ∀ b, b ≠ H.length → (μ.upd H.length L) b = μ b := fun b hb => by simp [Mu.upd, hb]
  have hmuL : (μ.upd H.length L) H.length = some L := by simp [Mu.upd]
  have hxl := Blk.live_of_mut hm
  refine ⟨⟨hs.os, hs.tape, hs.output, by omega, fun cb hc _ => hold cb hc⟩, fun _ h => h, fun _ h => .inl h, fun b hb => ?_, by simp, ⟨?_, ?_, ?_, ?_, ?_, ?_⟩, ?_⟩
  · refine hmu b ?_
    simp at hb; omega
  · intro b y hb hl
    rcases hat b y hb with ⟨rfl, rfl⟩ | ⟨hne, hb⟩
    · exact ⟨L, hmuL, hx⟩
    · obtain ⟨L', h1, h2⟩ := h.blk b y hb hl
      exact ⟨L', hgrow _ _ h1, h2.mono (fun _ h => h) hw hgrow (hold _ (h2.lt hl))⟩
  · intro b b' y y' L1 L2 h1 h2 hl1 hl2 m1 m2 e
    rcases hat b y h1 with ⟨rfl, rfl⟩ | ⟨hne, k1⟩ <;> rcases hat b' y' h2 with ⟨rfl, rfl⟩ | ⟨hne', k2⟩
    · rfl
    · rw [hmuL] at m1; rw [hmu _ hne'] at m2
      obtain ⟨L', h3, h4⟩ := h.blk b' y' k2 hl2
      rw [m2] at h3; cases h3
      have := h4.lt hl2
      cases m1; omega
    · rw [hmuL] at m2; rw [hmu _ hne] at m1
      obtain ⟨L', h3, h4⟩ := h.blk b y k1 (Blk.live_of_mut hl1)
      rw [m1] at h3; cases h3
      have := h4.lt (Blk.live_of_mut hl1)
      cases m2; omega
    · rw [hmu _ hne] at m1; rw [hmu _ hne'] at m2
      exact h.apart b b' y y' L1 L2 k1 k2 hl1 hl2 m1 m2 e
  · intro b y L1 hb hy m1
    rcases hat b y hb with ⟨rfl, rfl⟩ | ⟨hne, hb⟩
    · rw [hmuL] at m1; cases m1
      intro hi; have := h.lt _ hi; omega
    · rw [hmu _ hne] at m1; exact h.mt b y L1 hb hy m1
  · intro b y L1 hb hl hy m1
    rcases hat b y hb with ⟨rfl, rfl⟩ | ⟨hne, hb⟩
    · rw [hm] at hy; exact absurd hy (by simp)
    · rw [hmu _ hne] at m1; exact h.fro b y L1 hb hl hy m1
  · intro cb hi; have := h.lt cb hi; omega
  · exact globs_mono h (fun _ h => h) hw
  · rintro cb ⟨b, y, L1, hb, hy, m1, rfl⟩
    rcases hat b y hb with ⟨rfl, rfl⟩ | ⟨hne, hb⟩
    · rw [hmuL] at m1; cases m1; exact .inr (by omega)
    · rw [hmu _ hne] at m1; exact .inl ⟨b, y, L1, hb, hy, m1, rfl⟩

/-- a block that may be written is written; behind it it may be frozen for good, or given up -/
theorem post_set (h : HR C w I μ H) (hs : Beside w w') {b : Nat} {x x' : Blk} {L : Loc} (hb : H[b]? = some x) (hm : x.mut = true) (hμ : μ b = some L) {o : Obj}
    (hh : w'.heap = w.heap.setIfInBounds L.cb o) (fz : Bool) (hfz : x'.live = true → x'.mut = !fz)
    (hx : x'.live = true → BR C w' (fun cb => I cb ∨ (fz = true ∧ cb = L.cb)) μ L x') : Post C w I μ H w' (fun cb => I cb ∨ (fz = true ∧ cb = L.cb)) μ (setAt H b x') := by
  have hbl : b < H.length := (List.getElem?_eq_some_iff.1 hb).1
  have hnI := h.mt b x L hb hm hμ
  have hxl := Blk.live_of_mut hm
  have hlt : L.cb < w.heap.size := by
    obtain ⟨L', h1, h2⟩ := h.blk b x hb hxl
    rw [hμ] at h1; cases h1; exact h2.lt hxl
  have hold : ∀ cb, cb ≠ L.cb → w'.heap[cb]? = w.heap[cb]? := fun cb hc => by
    rw [hh, Array.getElem?_setIfInBounds_ne (fun e => hc e.symm)]
  have hsz : w'.heap.size = w.heap.size := by rw [hh]; simp
  have hw : ∀ cb, I cb → w'.heap[cb]? = w.heap[cb]? := fun cb hi => hold cb (fun e => hnI (e ▸ hi))
  have hsub : ∀ cb, I cb → (I cb ∨ (fz = true ∧ cb = L.cb)) := fun _ h => .inl h
  have hat : ∀ i y, (setAt H b x')[i]? = some y → (i = b ∧ y = x') ∨ (i ≠ b ∧ H[i]? = some y) := fun i y hi => by
    rw [getElem?_setAt] at hi
    split at hi
    · rename_i e; exact .inl ⟨e.1.symm, by simpa using hi.symm⟩
    · rename_i e
      refine .inr ⟨fun e' => ?_, hi⟩
      subst e'; exact e ⟨rfl, hbl⟩
  have hown : Own μ H L.cb := ⟨b, x, L, hb, hm, hμ, rfl⟩
  refine ⟨⟨hs.os, hs.tape, hs.output, by omega, fun cb _ ho => hold cb (fun e => ho (e ▸ hown))⟩, hsub, fun cb hi => ?_, fun _ _ => rfl, by rw [length_setAt]; exact Nat.le_refl _, ⟨?_, ?_, ?_, ?_, ?_, ?_⟩, ?_⟩
  · rcases hi with hi | ⟨_, rfl⟩
    · exact .inl hi
    · exact .inr (.inl hown)
  · intro i y hi hl
    rcases hat i y hi with ⟨rfl, rfl⟩ | ⟨hne, hi⟩
    · exact ⟨L, hμ, hx hl⟩
    · obtain ⟨L', h1, h2⟩ := h.blk i y hi hl
      refine ⟨L', h1, h2.mono hsub hw (fun _ _ h => h) (hold _ fun e => hne (h.apart b i x y L L' hb hi hm hl hμ h1 e.symm).symm)⟩
  · intro i i' y y' L1 L2 h1 h2 hl1 hl2 m1 m2 e
    rcases hat i y h1 with ⟨rfl, rfl⟩ | ⟨hne, k1⟩ <;> rcases hat i' y' h2 with ⟨rfl, rfl⟩ | ⟨hne', k2⟩
    · rfl
    · exact h.apart _ i' x y' L1 L2 hb k2 hm hl2 m1 m2 e
    · exact h.apart i _ y x L1 L2 k1 hb hl1 hxl m1 m2 e
    · exact h.apart i i' y y' L1 L2 k1 k2 hl1 hl2 m1 m2 e
  · intro i y L1 hi hy m1
    rcases hat i y hi with ⟨rfl, rfl⟩ | ⟨hne, hi⟩
    · rw [hμ] at m1; cases m1
      have := hfz (Blk.live_of_mut hy)
      rw [hy] at this
      rintro (hI | ⟨hf, _⟩)
      · exact hnI hI
      · rw [hf] at this; simp at this
    · rintro (hI | ⟨_, e⟩)
      · exact h.mt i y L1 hi hy m1 hI
      · exact hne (h.apart i b y x L1 L hi hb hy hxl m1 hμ e)
  · intro i y L1 hi hl hy m1
    rcases hat i y hi with ⟨rfl, rfl⟩ | ⟨hne, hi⟩
    · rw [hμ] at m1; cases m1
      have := hfz hl
      rw [hy] at this
      exact .inr ⟨by cases fz with | true => rfl | false => exact absurd this (by decide), rfl⟩
    · exact .inl (h.fro i y L1 hi hl hy m1)
  · rintro cb (hi | ⟨_, rfl⟩)
    · rw [hsz]; exact h.lt cb hi
    · omega
  · exact globs_mono h hsub hw
  · rintro cb ⟨i, y, L1, hi, hy, m1, rfl⟩
    rcases hat i y hi with ⟨rfl, rfl⟩ | ⟨hne, hi⟩
    · rw [hμ] at m1; cases m1; exact .inl hown
    · exact .inl ⟨i, y, L1, hi, hy, m1, rfl⟩

/-- a block that may be written goes on under a new number, from a later cell on -/
theorem post_move (h : HR C w I μ H) (hf : Fresh μ H.length (H.length + 1)) (hs : Beside w w') {b : Nat} {x x' : Blk} {L L' : Loc} (hb : H[b]? = some x) (hm : x.mut = true) (hμ : μ b = some L) {o : Obj}
    (hh : w'.heap = w.heap.setIfInBounds L.cb o) (hL : L'.cb = L.cb) (hm' : x'.mut = true) (hx : BR C w' I (μ.upd H.length L') L' x') :
    Post C w I μ H w' I (μ.upd H.length L') (setAt H b .dead ++ [x']) := by
  have hbl : b < H.length := (List.getElem?_eq_some_iff.1 hb).1
  have hnI := h.mt b x L hb hm hμ
  have hxl := Blk.live_of_mut hm
  have hlt : L.cb < w.heap.size := by
    obtain ⟨L', h1, h2⟩ := h.blk b x hb hxl
    rw [hμ] at h1; cases h1; exact h2.lt hxl
  have hold : ∀ cb, cb ≠ L.cb → w'.heap[cb]? = w.heap[cb]? := fun cb hc => by
    rw [hh, Array.getElem?_setIfInBounds_ne (fun e => hc e.symm)]
  have hsz : w'.heap.size = w.heap.size := by rw [hh]; simp
  have hw : ∀ cb, I cb → w'.heap[cb]? = w.heap[cb]? := fun cb hi => hold cb (fun e => hnI (e ▸ hi))
  have hfree : μ H.length = none := hf _ (Nat.le_refl _) (by omega)
  have hgrow : ∀ b L1, μ b = some L1 → (μ.upd H.length L') b = some L1 := fun b L1 hb => by
    unfold Mu.upd
    split
    · rename_i e; subst e; rw [hfree] at hb; exact absurd hb (by simp)
    · exact hb
  have hmu : ∀ b, b ≠ H.length → (μ.upd H.length L') b = μ b := fun b hb => by simp [Mu.upd, hb]
  have hmuL : (μ.upd H.length L') H.length = some L' := by simp [Mu.upd]
  have hat : ∀ i y, (setAt H b .dead ++ [x'])[i]? = some y → y.live = true → (i = H.length ∧ y = x') ∨ (i ≠ H.length ∧ i ≠ b ∧ H[i]? = some y) := fun i y hi hl => by
    rw [getElem?_snoc, length_setAt] at hi
    split at hi
    · rename_i e; exact .inl ⟨e, by simpa using hi.symm⟩
    · rename_i e
      rw [getElem?_setAt] at hi
      split at hi
      · cases hi; simp [Blk.live] at hl
      · rename_i e'
        refine .inr ⟨e, fun e2 => ?_, hi⟩
        subst e2; exact e' ⟨rfl, hbl⟩
  have hown : Own μ H L.cb := ⟨b, x, L, hb, hm, hμ, rfl⟩
  refine ⟨⟨hs.os, hs.tape, hs.output, by omega, fun cb _ ho => hold cb (fun e => ho (e ▸ hown))⟩, fun _ h => h, fun _ h => .inl h, fun b hb => ?_, by simp [length_setAt], ⟨?_, ?_, ?_, ?_, ?_, ?_⟩, ?_⟩
  · refine hmu b ?_
    simp [length_setAt] at hb; omega
  · intro i y hi hl
    rcases hat i y hi hl with ⟨rfl, rfl⟩ | ⟨hne, hnb, hi⟩
    · exact ⟨L', hmuL, hx⟩
    · obtain ⟨L1, h1, h2⟩ := h.blk i y hi hl
      exact ⟨L1, hgrow _ _ h1, h2.mono (fun _ h => h) hw hgrow (hold _ fun e => hnb (h.apart b i x y L L1 hb hi hm hl hμ h1 e.symm).symm)⟩
  · intro i i' y y' L1 L2 h1 h2 hl1 hl2 m1 m2 e
    rcases hat i y h1 (Blk.live_of_mut hl1) with ⟨rfl, rfl⟩ | ⟨hne, hnb, k1⟩ <;> rcases hat i' y' h2 hl2 with ⟨rfl, rfl⟩ | ⟨hne', hnb', k2⟩
    · rfl
    · rw [hmuL] at m1; rw [hmu _ hne'] at m2; cases m1
      exact absurd (h.apart b i' x y' L L2 hb k2 hm hl2 hμ m2 (by rw [← e, hL])).symm hnb'
    · rw [hmuL] at m2; rw [hmu _ hne] at m1; cases m2
      exact absurd (h.apart i b y x L1 L k1 hb hl1 hxl m1 hμ (by rw [e, hL])) hnb
    · rw [hmu _ hne] at m1; rw [hmu _ hne'] at m2
      exact h.apart i i' y y' L1 L2 k1 k2 hl1 hl2 m1 m2 e
  · intro i y L1 hi hy m1
    rcases hat i y hi (Blk.live_of_mut hy) with ⟨rfl, rfl⟩ | ⟨hne, hnb, hi⟩
    · rw [hmuL] at m1; cases m1; rw [hL]; exact hnI
    · rw [hmu _ hne] at m1; exact h.mt i y L1 hi hy m1
  · intro i y L1 hi hl hy m1
    rcases hat i y hi hl with ⟨rfl, rfl⟩ | ⟨hne, hnb, hi⟩
    · rw [hm'] at hy; exact absurd hy (by simp)
    · rw [hmu _ hne] at m1; exact h.fro i y L1 hi hl hy m1
  · intro cb hi; rw [hsz]; exact h.lt cb hi
  · exact globs_mono h (fun _ h => h) hw
  · rintro cb ⟨i, y, L1, hi, hy, m1, rfl⟩
    rcases hat i y hi (Blk.live_of_mut hy) with ⟨rfl, rfl⟩ | ⟨hne, hnb, hi⟩
    · rw [hmuL] at m1; cases m1; rw [hL]; exact .inl hown
    · rw [hmu _ hne] at m1; exact .inl ⟨i, y, L1, hi, hy, m1, rfl⟩

/-- a new block of the world's alone, that will never be written -/
theorem post_const (h : HR C w I μ H) (hs : Beside w w') {o : Obj} (hh : w'.heap = w.heap.push o) : Post C w I μ H w' (fun cb => I cb ∨ cb = w.heap.size) μ H := by
  have hold : ∀ cb, cb < w.heap.size → w'.heap[cb]? = w.heap[cb]? := fun cb hc => by rw [hh, Array.getElem?_push, if_neg (by omega)]
  have hsz : w'.heap.size = w.heap.size + 1 := by rw [hh]; simp
  have hw : ∀ cb, I cb → w'.heap[cb]? = w.heap[cb]? := fun cb hi => hold cb (h.lt cb hi)
  refine ⟨⟨hs.os, hs.tape, hs.output, by omega, fun cb hc _ => hold cb hc⟩, fun _ h => .inl h, fun cb hi => ?_, fun _ _ => rfl, Nat.le_refl _, ⟨?_, h.apart, ?_, ?_, ?_, ?_⟩, fun _ h => .inl h⟩
  · rcases hi with hi | rfl
    · exact .inl hi
    · exact .inr (.inr (Nat.le_refl _))
  · intro b y hb hl
    obtain ⟨L', h1, h2⟩ := h.blk b y hb hl
    exact ⟨L', h1, h2.mono (fun _ h => .inl h) hw (fun _ _ h => h) (hold _ (h2.lt hl))⟩
  · intro b y L1 hb hy m1 hi
    rcases hi with hi | e
    · exact h.mt b y L1 hb hy m1 hi
    · obtain ⟨L', h1, h2⟩ := h.blk b y hb (Blk.live_of_mut hy)
      rw [m1] at h1; cases h1
      have := h2.lt (Blk.live_of_mut hy)
      omega
  · intro b y L1 hb hl hy m1; exact .inl (h.fro b y L1 hb hl hy m1)
  · rintro cb (hi | rfl)
    · have := h.lt cb hi; omega
    · omega
  · exact globs_mono h (fun _ h => .inl h) hw

end
end Go.Ev

/- Reading and writing memory: the evaluator's way and the model's. -/
namespace Go.Ev
open Go

section
variable {C : Ctx} {w w' : World} {I : Nat → Prop} {μ : Mu} {H : Hp}

/- ## types -/

theorem run_underlying' {C : Ctx} {w : World} {t : TypeId} {d : TypeDesc} (h : C.und t = some d) : (underlying t).run C.P w = .ok d w := by
  replace h := C.und_ok _ _ h
  simp [underlying, h]

theorem run_typeInfo' {C : Ctx} {w : World} {t : TypeId} {i : TypeInfo} (h : C.info t = some i) : (typeInfo t).run C.P w = .ok i w := by
  replace h := C.info_ok _ _ h
  simp [typeInfo, h]

theorem size_info {t : TypeId} {n : Nat} (h : C.size t = some n) : ∃ i, C.info t = some i ∧ i.size = n := by
  unfold Ctx.size at h
  split at h
  · rename_i i hi; exact ⟨i, hi, by simpa using h⟩
  · simp at h

theorem run_sizeOf' {w : World} {t : TypeId} {n : Nat} (h : C.size t = some n) : (sizeOf t).run C.P w = .ok n w := by
  obtain ⟨i, h1, h2⟩ := size_info h
  simp [sizeOf, run_typeInfo' h1, h2]

theorem bytes_info {t : TypeId} {n : Nat} (h : C.bytes t = some n) : ∃ i, C.info t = some i ∧ i.bytes = n := by
  unfold Ctx.bytes at h
  split at h
  · rename_i i hi; exact ⟨i, hi, by simpa using h⟩
  · simp at h

theorem run_isAgg' {w : World} {t : TypeId} {b : Bool} (h : C.isAgg t = some b) : (isAgg t).run C.P w = .ok b w := by
  unfold Ctx.isAgg at h
  split at h
  · rename_i fs hu; simp [isAgg, run_underlying' hu]; simpa using h
  · rename_i n e hu; simp [isAgg, run_underlying' hu]; simpa using h
  · rename_i d hn1 hn2 hu
    have : b = false := by simpa using h.symm
    subst this
    simp only [isAgg, Sem.run_bind, run_underlying' hu, Result.andThen_ok]
    rfl
  · simp at h

theorem ofV1_rel {v : Value} {a : AV} (h : ofV1 v = some a) : VR C w I μ a v ∧ a.oneCell = true := by
  unfold ofV1 at h
  split at h <;> first
    | (simp at h; done)
    | (rename_i f a b
       cases hb : (a.size == 0 && b.size == 0) with
       | false => rw [hb] at h; simp at h
       | true =>
         rw [hb] at h
         have := Option.some.inj h; subst this
         simp at hb
         obtain ⟨rfl, rfl⟩ := hb
         exact ⟨.func _ _ _ _ [] [] (.nil _) (.nil _), rfl⟩)
    | (have := Option.some.inj h; subst this; refine ⟨?_, rfl⟩; first | exact .bool _ _ | exact .int _ _ _ | exact .str _ _ | exact .nilp _ | exact .nils _ | exact .nilm _ | exact .nilFunc _ | exact .nilIface _)

theorem mapO_ofV1_rel {l : List Value} {as : List AV} (h : mapO ofV1 l = some as) : VRs C w I μ as l ∧ as.all AV.oneCell = true := by
  induction l generalizing as with
  | nil => simp [mapO] at h; subst h; exact ⟨.nil _, rfl⟩
  | cons v l ih =>
    simp only [mapO] at h
    split at h
    · simp at h
    · rename_i a ha
      split at h
      · simp at h
      · rename_i bs hbs
        have := Option.some.inj h; subst this
        obtain ⟨h1, h2⟩ := ofV1_rel (w := w) (I := I) (μ := μ) (C := C) ha
        obtain ⟨h3, h4⟩ := ih hbs
        exact ⟨.cons _ _ _ _ _ h1 h3, by simp [h2, h4]⟩

theorem ofV_rel {v : Value} {a : AV} (h : ofV v = some a) : VR C w I μ a v := by
  unfold ofV at h
  split at h
  · rename_i cs
    split at h
    · rename_i l hl
      have := Option.some.inj h; subst this
      obtain ⟨h1, h2⟩ := mapO_ofV1_rel (w := w) (I := I) (μ := μ) (C := C) hl
      have := VR.agg μ l cs.toList h1 h2
      simpa using this
    · simp at h
  · exact (ofV1_rel h).1

theorem zero_rel {t : TypeId} {z : AV} (h : C.zero t = some z) : ∃ v, (∀ w, (zeroValue t).run C.P w = .ok v w) ∧ ∀ w I μ, VR C w I μ z v := by
  unfold Ctx.zero at h
  split at h
  · rename_i i hi
    split at h
    · rename_i v hv
      exact ⟨v, fun w => by simp [zeroValue, run_typeInfo' hi, hv], fun w I μ => ofV_rel h⟩
    · simp at h
  · simp at h

/- ## cells -/

theorem cell_at {cb off : Nat} {c : Array Value} {e : TypeId} {fr : Nat × Nat} (h : w.heap[cb]? = some (.cells c e fr)) : w.cell? ⟨cb, off, none⟩ = c[off]? := by
  simp [World.cell?, h]

theorem addr_add (cb off i : Nat) : (⟨cb, off, none⟩ : Addr).add i = ⟨cb, off + i, none⟩ := by
  unfold Addr.add
  split
  · rename_i h; subst h; rfl
  · rfl

theorem run_loadCellsFrom {P : Program} (a : Addr) (vs : List Value) (i : Nat) (acc : Array Value) (h : ∀ j v, vs[j]? = some v → w.cell? (a.add (i + j)) = some v) :
    (loadCellsFrom a i vs.length acc).run P w = .ok (acc ++ vs.toArray) w := by
  induction vs generalizing i acc with
  | nil => simp [loadCellsFrom]
  | cons v vs ih =>
    have h0 := h 0 v rfl
    simp only [Nat.add_zero] at h0
    simp only [List.length_cons, loadCellsFrom, Sem.run_bind, run_load, h0, Result.andThen_ok]
    rw [ih]
    · simp
    · intro j u hj
      have := h (j + 1) u (by simpa using hj)
      rwa [show i + 1 + j = i + (j + 1) by omega]

theorem run_loadCells {P : Program} (a : Addr) (vs : List Value) (h : ∀ j v, vs[j]? = some v → w.cell? (a.add j) = some v) :
    (loadCells a vs.length).run P w = .ok vs.toArray w := by
  unfold loadCells
  rw [run_loadCellsFrom a vs 0 #[] (by simpa using h)]
  simp

theorem cut_spec {α : Type} {l r : List α} {o n : Nat} (h : cut l o n = some r) : r = (l.drop o).take n ∧ r.length = n := by
  unfold cut at h
  dsimp only at h
  cases hb : ((l.drop o).take n).length == n with
  | false => rw [hb] at h; simp at h
  | true =>
    rw [hb] at h
    have := Option.some.inj h
    subst this
    exact ⟨rfl, by simpa using hb⟩

theorem allSome_get {α : Type} {l : List (Option α)} {r : List α} (h : allSome l = some r) : l = r.map some := by
  induction l generalizing r with
  | nil => simp [allSome] at h; subst h; rfl
  | cons x xs ih =>
    cases x with
    | none => simp [allSome] at h
    | some x =>
      simp only [allSome] at h
      split at h
      · rename_i ys hys
        have := Option.some.inj h; subst this
        simp [ih hys]
      · simp at h

theorem VRs.of_get {as : List AV} {vs : List Value} (hl : as.length = vs.length) (h : ∀ (i : Nat) (a : AV), as[i]? = some a → ∃ v, vs[i]? = some v ∧ VR C w I μ a v) : VRs C w I μ as vs := by
  induction as generalizing vs with
  | nil => cases vs with | nil => exact .nil _ | cons => simp at hl
  | cons a as ih =>
    cases vs with
    | nil => simp at hl
    | cons v vs =>
      obtain ⟨u, h1, h2⟩ := h 0 a rfl
      simp at h1; subst h1
      exact .cons _ _ _ _ _ h2 (ih (by simpa using hl) fun i b hb => by simpa using h (i + 1) b (by simpa using hb))

/-- the values of n cells from an offset on -/
theorem list_of_cells {as : List AV} {c : Array Value} {off : Nat} (h : ∀ (i : Nat) (a : AV), as[i]? = some a → ∃ v, c[off + i]? = some v ∧ VR C w I μ a v) :
    ∃ vs : List Value, vs.length = as.length ∧ VRs C w I μ as vs ∧ ∀ (i : Nat) (v : Value), vs[i]? = some v → c[off + i]? = some v := by
  induction as generalizing off with
  | nil => exact ⟨[], rfl, .nil _, fun i v hv => by simp at hv⟩
  | cons a as ih =>
    obtain ⟨v, h1, h2⟩ := h 0 a rfl
    obtain ⟨vs, h3, h4, h5⟩ := ih (off := off + 1) fun i b hb => by
      obtain ⟨u, h6, h7⟩ := h (i + 1) b (by simpa using hb)
      exact ⟨u, by rwa [show off + 1 + i = off + (i + 1) by omega], h7⟩
    refine ⟨v :: vs, by simp [h3], .cons _ _ _ _ _ h2 h4, fun i u hu => ?_⟩
    cases i with
    | zero => simp at hu; subst hu; simpa using h1
    | succ i => have := h5 i u (by simpa using hu); rwa [show off + (i + 1) = off + 1 + i by omega]

/-- what 'getCells' reads is what lies there -/
theorem getCells_rel (h : HR C w I μ H.bl) {a : AV} {n : Nat} {l : List AV} (hg : getCells C H a n = some l) {v : Value} (hv : VR C w I μ a v) :
    ∃ ad vs, v = .pointer (some ad) ∧ vs.length = n ∧ VRs C w I μ l vs ∧ l.all AV.oneCell = true ∧ ∀ (j : Nat) (u : Value), vs[j]? = some u → w.cell? (ad.add j) = some u := by
  unfold getCells at hg
  split at hg
  · rename_i b o
    cases hv with
    | ptr _ _ _ L hμ =>
      split at hg
      · rename_i e cs t f hb
        split at hg
        · rename_i r hr
          obtain ⟨h1, h2⟩ := cut_spec hr
          have h3 := allSome_get hg
          obtain ⟨L', hL', c, fr, h4, h5, h6, h7, h8, h9⟩ := h.blk b _ hb rfl
          rw [hμ] at hL'; cases hL'
          have hat : ∀ (i : Nat) (a : AV), l[i]? = some a → cs[o + i]? = some (some a) := fun i a hi => by
            have e1 : r[i]? = some (some a) := by rw [h3]; simp [hi]
            rw [h1, List.getElem?_take] at e1
            split at e1
            · rwa [List.getElem?_drop] at e1
            · simp at e1
          obtain ⟨vs, h10, h11, h12⟩ := list_of_cells (C := C) (w := w) (I := I) (μ := μ) (as := l) (c := c) (off := L.base + o) fun i a hi => by
            obtain ⟨_, u, h13, h14⟩ := h8 (o + i) a (hat i a hi)
            exact ⟨u, by rwa [show L.base + o + i = L.base + (o + i) by omega], h14⟩
          refine ⟨_, vs, rfl, ?_, h11, ?_, fun j u hj => ?_⟩
          · rw [h10]; rw [h3] at h2; simpa using h2
          · rw [List.all_eq_true]
            intro a ha
            obtain ⟨i, hi⟩ := List.getElem?_of_mem ha
            exact (h8 (o + i) a (hat i a hi)).1
          · rw [addr_add, cell_at h4]; exact h12 j u hj
        · simp at hg
      · simp at hg
  · rename_i g o
    cases hv with
    | gptr _ _ _ =>
      split at hg
      · rename_i cs hcs
        obtain ⟨h1, h2⟩ := cut_spec hg
        obtain ⟨_, h3, us, ⟨c, e, fr, h4, h5⟩, h6⟩ := h.glob g cs hcs
        have h7 : VRs C w I μ ((cs.drop o).take n) ((us.drop o).take n) := (VRs.take n (VRs.drop o (VRs.mono (μ' := μ) (fun _ h => h) (fun _ _ => rfl) (fun b L hb => by simp [mu0] at hb) h6)))
        subst h1
        refine ⟨_, _, rfl, ?_, h7, ?_, fun j u hj => ?_⟩
        · rw [← h7.length]; exact h2
        · rw [List.all_eq_true] at h3 ⊢
          intro a ha
          exact h3 a (List.mem_of_mem_drop (List.mem_of_mem_take ha))
        · rw [addr_add, cell_at h4]
          rw [List.getElem?_take] at hj
          split at hj
          · rw [List.getElem?_drop] at hj
            have := h5 _ _ hj
            simpa using this
          · simp at hj
      · simp at hg
  · rename_i cs o
    cases hv with
    | lptr _ _ us cb off _ hI hc hvs hone =>
      obtain ⟨h1, h2⟩ := cut_spec hg
      obtain ⟨c, e, fr, h4, h5⟩ := hc
      have h7 : VRs C w I μ ((cs.drop o).take n) ((us.drop o).take n) := (VRs.take n (VRs.drop o (VRs.mono (μ' := μ) (fun _ h => h) (fun _ _ => rfl) (fun b L hb => by simp [mu0] at hb) hvs)))
      subst h1
      refine ⟨_, _, rfl, ?_, h7, ?_, fun j u hj => ?_⟩
      · rw [← h7.length]; exact h2
      · rw [List.all_eq_true] at hone ⊢
        intro a ha
        exact hone a (List.mem_of_mem_drop (List.mem_of_mem_take ha))
      · rw [addr_add, cell_at h4]
        rw [List.getElem?_take] at hj
        split at hj
        · rw [List.getElem?_drop] at hj
          have := h5 _ _ hj
          rwa [show off + o + j = off + (o + j) by omega]
        · simp at hj
  · simp at hg

theorem loadT_rel (h : HR C w I μ H.bl) {t : TypeId} {a x : AV} (hg : loadT C H t a = some x) {v : Value} (hv : VR C w I μ a v) :
    ∃ ad u, v = .pointer (some ad) ∧ (loadVar t ad).run C.P w = .ok u w ∧ VR C w I μ x u := by
  unfold loadT at hg
  split at hg
  · rename_i n ha hs
    split at hg
    · rename_i l hl
      have := Option.some.inj hg; subst this
      obtain ⟨ad, vs, h1, h2, h3, h4, h5⟩ := getCells_rel h hl hv
      refine ⟨ad, .agg vs.toArray, h1, ?_, .agg _ _ _ h3 h4⟩
      simp only [loadVar, Sem.run_bind, run_isAgg' ha, Result.andThen_ok, if_true, run_sizeOf' hs]
      rw [← h2, run_loadCells ad vs h5]
      rfl
    · simp at hg
  · rename_i n ha hs
    split at hg
    · rename_i y hl
      have := Option.some.inj hg; subst this
      obtain ⟨ad, vs, h1, h2, h3, h4, h5⟩ := getCells_rel h hl hv
      cases h3 with
      | cons _ _ u _ us h6 h7 =>
        refine ⟨ad, u, h1, ?_, h6⟩
        have := h5 0 u rfl
        simp only [loadVar, Sem.run_bind, run_isAgg' ha, Result.andThen_ok, Bool.false_eq_true, if_false, run_load]
        rw [show ad.add 0 = ad from by simp [Addr.add]] at this
        rw [this]
    · simp at hg
  · simp at hg

end
end Go.Ev

/- Writing cells; which cells have been written. -/
namespace Go.Ev
open Go

/- ## the record of writes -/

def cellOf (bl : List Blk) (b o : Nat) : Option AV :=
  match bl[b]? with
  | some (.cells _ cs _ _) => match cs[o]? with
    | some x => x
    | none => none
  | _ => none

def covers (x : Nat × Nat × Nat) (b o : Nat) : Prop := x.1 = b ∧ (x.2.2 = whole ∨ (x.2.1 ≤ o ∧ o < x.2.1 + x.2.2))

/-- from h to h' no cell has turned but those that the record names; the elements' types stand -/
def LogOK (h h' : Hp) : Prop := ∃ new, h'.log = new ++ h.log ∧ h.bl.length ≤ h'.bl.length ∧
  ∀ b o, b < h.bl.length → (∀ x ∈ new, ¬ covers x b o) → cellOf h'.bl b o = cellOf h.bl b o

theorem LogOK.refl (h : Hp) : LogOK h h := ⟨[], rfl, Nat.le_refl _, fun _ _ _ _ => rfl⟩

theorem LogOK.trans {a b c : Hp} (h : LogOK a b) (k : LogOK b c) : LogOK a c := by
  obtain ⟨n1, h1, h2, h3⟩ := h
  obtain ⟨n2, k1, k2, k3⟩ := k
  refine ⟨n2 ++ n1, by rw [k1, h1, List.append_assoc], Nat.le_trans h2 k2, fun i o hi hn => ?_⟩
  rw [k3 i o (by omega) fun x hx => hn x (by simp [hx]), h3 i o hi fun x hx => hn x (by simp [hx])]

theorem LogOK.new (h : Hp) (x : Blk) : LogOK h (h.new x) := by
  refine ⟨[], rfl, by simp [Hp.new], fun b o hb _ => ?_⟩
  simp [cellOf, Hp.new, List.getElem?_append_left hb]

theorem LogOK.put (h : Hp) (b : Nat) (x : Blk) : LogOK h (h.put b x 0 whole) := by
  refine ⟨[(b, 0, whole)], rfl, by simp [Hp.put, length_setAt], fun i o hi hn => ?_⟩
  have : b ≠ i := fun e => hn _ (List.mem_singleton.2 rfl) ⟨e, .inl rfl⟩
  simp [cellOf, Hp.put, getElem?_setAt, this]

section
variable {C : Ctx} {w w' : World} {I : Nat → Prop} {μ : Mu} {H H' : Hp}

def writeC (c : Array Value) (off : Nat) : List Value → Array Value
  | [] => c
  | v :: vs => writeC (c.setIfInBounds off v) (off + 1) vs

theorem size_writeC (c : Array Value) (off : Nat) (vs : List Value) : (writeC c off vs).size = c.size := by
  induction vs generalizing c off with
  | nil => rfl
  | cons v vs ih => simp [writeC, ih]

theorem get_writeC (c : Array Value) (off : Nat) (vs : List Value) (j : Nat) (h : ∀ i, i < vs.length → off + i < c.size) :
    (writeC c off vs)[j]? = if off ≤ j ∧ j < off + vs.length then vs[j - off]? else c[j]? := by
  induction vs generalizing c off with
  | nil => simp [writeC]; omega
  | cons v vs ih =>
    rw [writeC, ih]
    · have h0 := h 0 (by simp)
      simp only [Nat.add_zero] at h0
      by_cases h1 : off + 1 ≤ j ∧ j < off + 1 + vs.length
      · rw [if_pos h1, if_pos (by simp; omega)]
        rw [show j - off = (j - (off + 1)) + 1 by omega]; rfl
      · rw [if_neg h1]
        by_cases h2 : j = off
        · subst h2; simp [h0]
        · rw [if_neg (by simp; omega), Array.getElem?_setIfInBounds_ne (fun e => h2 e.symm)]
    · intro i hi
      have := h (i + 1) (by simp; omega)
      simp; omega

theorem set_same {α : Type} {a : Array α} {i : Nat} {x : α} (h : a[i]? = some x) : a.setIfInBounds i x = a := by
  apply Array.ext_getElem?
  intro j
  by_cases e : i = j
  · subst e
    have hl : i < a.size := (Array.getElem?_eq_some_iff.1 h).1
    rw [Array.getElem?_setIfInBounds_self_of_lt hl, h]
  · rw [Array.getElem?_setIfInBounds_ne e]

theorem set_set {α : Type} (a : Array α) (i : Nat) (x y : α) : (a.setIfInBounds i x).setIfInBounds i y = a.setIfInBounds i y := by
  apply Array.ext_getElem?
  intro j
  by_cases e : i = j
  · subst e
    by_cases hl : i < a.size
    · rw [Array.getElem?_setIfInBounds_self_of_lt (by simpa using hl), Array.getElem?_setIfInBounds_self_of_lt hl]
    · rw [Array.getElem?_eq_none (by simpa using hl), Array.getElem?_eq_none (by simpa using hl)]
  · rw [Array.getElem?_setIfInBounds_ne e, Array.getElem?_setIfInBounds_ne e, Array.getElem?_setIfInBounds_ne e]

theorem get_set_same {α : Type} {a : Array α} {i : Nat} {x y : α} (h : a[i]? = some x) : (a.setIfInBounds i y)[i]? = some y := by
  rw [Array.getElem?_setIfInBounds_self_of_lt (Array.getElem?_eq_some_iff.1 h).1]

theorem setCell_heap {cb off : Nat} {c : Array Value} {e : TypeId} {fr : Nat × Nat} (h : w.heap[cb]? = some (.cells c e fr)) (v : Value) :
    (w.setCell ⟨cb, off, none⟩ v).heap = w.heap.setIfInBounds cb (.cells (c.setIfInBounds off v) e fr) := by
  apply Array.ext_getElem?
  intro j
  simp only [World.setCell, Array.getElem?_modify]
  by_cases e : cb = j
  · subst e; rw [if_pos rfl, get_set_same h, h]; simp
  · rw [if_neg e, Array.getElem?_setIfInBounds_ne e]

theorem run_storeCells {P : Program} {cb off : Nat} {e : TypeId} (vs : List Value) (i : Nat) (w : World) (c : Array Value) (h : w.heap[cb]? = some (.cells c e (0, 0)))
    (hb : ∀ j, j < vs.length → off + i + j < c.size) (hone : ∀ v ∈ vs, oneV v = true) :
    ∃ w', (storeCells ⟨cb, off, none⟩ vs i).run P w = .ok () w' ∧ Beside w w' ∧ w'.heap = w.heap.setIfInBounds cb (.cells (writeC c (off + i) vs) e (0, 0)) := by
  induction vs generalizing i w c with
  | nil => exact ⟨w, rfl, .refl w, (set_same h).symm⟩
  | cons v vs ih =>
    have h0 := hb 0 (by simp)
    simp only [Nat.add_zero] at h0
    have hc : w.cell? ⟨cb, off + i, none⟩ = some c[off + i] := by rw [cell_at h]; simp [h0]
    have hf : w.frozen? ⟨cb, off + i, none⟩ = false := by simp [World.frozen?, h]
    have hv : v.oneCell' = true := by have := hone v (by simp); cases v <;> simp_all [oneV, Value.oneCell']
    have hst : (store ((⟨cb, off, none⟩ : Addr).add i) v).run P w = .ok () (w.setCell ⟨cb, off + i, none⟩ v) := by
      rw [addr_add, run_store _ _ _ _ _ hv, hc, hf]; rfl
    have hheap := setCell_heap (off := off + i) h v
    obtain ⟨w', h1, h2, h3⟩ := ih (i + 1) (w.setCell ⟨cb, off + i, none⟩ v) (c.setIfInBounds (off + i) v) (by rw [hheap]; exact get_set_same h)
      (fun j hj => by have := hb (j + 1) (by simp; omega); simp; omega) (fun u hu => hone u (by simp [hu]))
    refine ⟨w', ?_, ⟨h2.os, h2.tape, h2.output⟩, ?_⟩
    · simp only [storeCells, Sem.run_bind, hst, Result.andThen_ok]; exact h1
    · rw [h3, hheap, set_set]; rfl

theorem over_spec {cs cs' : List (Option AV)} {o : Nat} {new : List AV} (h : over cs o new = some cs') :
    cs'.length = cs.length ∧ (∀ i : Nat, cs'[i]? = if o ≤ i ∧ i < o + new.length then (new[i - o]?).map some else cs[i]?) ∧ (∀ i : Nat, i < new.length → o + i < cs.length) := by
  induction cs generalizing o new cs' with
  | nil =>
    cases new with
    | nil => cases o <;> (simp [over] at h; subst h; refine ⟨rfl, fun i => ?_, by simp⟩; simp; try omega)
    | cons x new => cases o <;> simp [over] at h
  | cons c cs ih =>
    cases new with
    | nil => cases o <;> (simp [over] at h; subst h; refine ⟨rfl, fun i => ?_, by simp⟩; simp; try omega)
    | cons x new =>
      cases o with
      | zero =>
        cases c with
        | none => simp [over] at h
        | some c =>
          simp only [over] at h
          split at h
          · rename_i r hr
            have := Option.some.inj h; subst this
            obtain ⟨h1, h2, h3⟩ := ih hr
            refine ⟨by simp [h1], fun i => ?_, fun i hi => ?_⟩
            · cases i with
              | zero => simp
              | succ i =>
                have := h2 i
                simp only [List.getElem?_cons_succ, this, List.length_cons]
                by_cases hi : i < new.length
                · rw [if_pos (by omega), if_pos (by omega)]; simp
                · rw [if_neg (by omega), if_neg (by omega)]
            · cases i with
              | zero => simp
              | succ i => have := h3 i (by simpa using hi); simp; omega
          · simp at h
      | succ o =>
        simp only [over] at h
        split at h
        · rename_i r hr
          have := Option.some.inj h; subst this
          obtain ⟨h1, h2, h3⟩ := ih hr
          refine ⟨by simp [h1], fun i => ?_, fun i hi => ?_⟩
          · cases i with
            | zero => simp
            | succ i =>
              have := h2 i
              simp only [List.getElem?_cons_succ, this]
              by_cases hi : o ≤ i ∧ i < o + (x :: new).length
              · rw [if_pos hi, if_pos (by omega), show i + 1 - (o + 1) = i - o by omega]
              · rw [if_neg hi, if_neg (by omega)]
          · have := h3 i hi; simp; omega
        · simp at h

theorem setCells_rel (h : HR C w I μ H.bl) {a : AV} {new : List AV} (hs : setCells H a new = some H') {v : Value} (hv : VR C w I μ a v)
    {vs : List Value} (hvs : VRs C w I μ new vs) (hone : new.all AV.oneCell = true) :
    LogOK H H' ∧ H'.bl.length = H.bl.length ∧ ∃ ad w' I', v = .pointer (some ad) ∧ (storeCells ad vs).run C.P w = .ok () w' ∧ Post C w I μ H.bl w' I' μ H'.bl := by
  unfold setCells at hs
  split at hs
  · rename_i b o
    cases hv with
    | ptr _ _ _ L hμ =>
      split at hs
      · rename_i e cs t hb
        split at hs
        · rename_i cs' hcs
          have := Option.some.inj hs; subst this
          obtain ⟨h1, h2, h3⟩ := over_spec hcs
          obtain ⟨L', hL', c, fr, h4, h5, h6, h7, h8, h9⟩ := h.blk b _ hb rfl
          rw [hμ] at hL'; cases hL'
          have hfr := h9.1 rfl; subst hfr
          have hlen := hvs.length
          have hnI : ¬ I L.cb := h.mt b _ L hb rfl hμ
          have hbd : ∀ j, j < vs.length → L.base + o + 0 + j < c.size := fun j hj => by have := h3 j (by omega); omega
          have honev : ∀ v ∈ vs, oneV v = true := fun v hv => by
            obtain ⟨i, hi⟩ := List.getElem?_of_mem hv
            have hil : i < vs.length := (List.getElem?_eq_some_iff.1 hi).1
            obtain ⟨a, ha⟩ : ∃ a, new[i]? = some a := ⟨new[i]'(by omega), by simp⟩
            obtain ⟨u, hu, hr⟩ := hvs.get ha
            rw [hi] at hu; cases hu
            rw [hr.one]
            exact (List.all_eq_true.1 hone) a (List.mem_of_getElem? ha)
          obtain ⟨w', k1, k2, k3⟩ := run_storeCells (P := C.P) vs 0 w c h4 hbd honev
          refine ⟨⟨[(b, o, new.length)], rfl, by simp [Hp.put, length_setAt], fun i p hi hn => ?_⟩, by simp [Hp.put, length_setAt], _, w', (fun cb => I cb ∨ (false = true ∧ cb = L.cb)), rfl, k1, ?_⟩
          · simp only [cellOf, Hp.put, getElem?_setAt]
            by_cases e2 : b = i
            · subst e2
              rw [if_pos ⟨rfl, hi⟩, hb]
              dsimp only
              have hnc := hn _ (List.mem_singleton.2 rfl)
              have : ¬ (o ≤ p ∧ p < o + new.length) := fun hh => hnc ⟨rfl, .inr hh⟩
              rw [h2 p, if_neg this]
            · rw [if_neg (fun hh => e2 hh.1)]
          · have hw : ∀ cb, I cb → w'.heap[cb]? = w.heap[cb]? := fun cb hi => by
              have hne : L.cb ≠ cb := fun e => hnI (by rw [e]; exact hi)
              rw [k3, Array.getElem?_setIfInBounds_ne hne]
            refine post_set h k2 (x' := .cells e cs' t false) hb rfl hμ k3 false (fun _ => rfl) fun _ => ?_
            refine ⟨writeC c (L.base + o + 0) vs, (0, 0), by rw [k3]; exact get_set_same h4, by rw [size_writeC]; exact h5, h6, by rw [size_writeC]; omega, fun i a hi => ?_, fun _ => rfl, h9.2⟩
            rw [h2 i] at hi
            rw [get_writeC _ _ _ _ hbd]
            by_cases hr : o ≤ i ∧ i < o + new.length
            · rw [if_pos hr] at hi
              rw [if_pos (by omega)]
              simp at hi
              obtain ⟨u, hu, hru⟩ := hvs.get hi
              refine ⟨(List.all_eq_true.1 hone) a (List.mem_of_getElem? hi), u, ?_, hru.mono (fun _ h => .inl h) hw (fun _ _ h => h)⟩
              rw [show L.base + i - (L.base + o + 0) = i - o by omega]; exact hu
            · rw [if_neg hr] at hi
              rw [if_neg (by omega)]
              obtain ⟨p1, u, p2, p3⟩ := h8 i a hi
              exact ⟨p1, u, p2, p3.mono (fun _ h => .inl h) hw (fun _ _ h => h)⟩
        · simp at hs
      · simp at hs
  · simp at hs

end
end Go.Ev

/- Arithmetic, comparisons, '==': the evaluator's way and the model's. -/
namespace Go.Ev
open Go

section
variable {C : Ctx} {w : World} {I : Nat → Prop} {μ : Mu}

theorem partA_rel {t : TypeId} {cs : List AV} {vs : List Value} {off : Nat} {a : AV} (hvs : VRs C w I μ cs vs) (hone : cs.all AV.oneCell = true) (h : partA C t cs off = some a) :
    ∃ v, (∀ w', (part t vs.toArray off).run C.P w' = .ok v w') ∧ VR C w I μ a v := by
  unfold partA at h
  split at h
  · rename_i n ha hs
    split at h
    · rename_i l hl
      have := Option.some.inj h; subst this
      obtain ⟨h1, h2⟩ := cut_spec hl
      subst h1
      have hr := VRs.take n (VRs.drop off hvs)
      refine ⟨.agg (((vs.drop off).take n).toArray), fun w' => ?_, .agg _ _ _ hr ?_⟩
      · simp only [part, Sem.run_bind, run_isAgg' ha, Result.andThen_ok, if_true, run_sizeOf' hs, Sem.run_pure]
        congr 2
        apply Array.ext_getElem?
        intro i
        simp only [Array.getElem?_extract, List.getElem?_toArray, List.getElem?_take, List.getElem?_drop, List.size_toArray]
        by_cases hi : i < n
        · simp only [hi, if_true]
          by_cases hv : off + i < vs.length
          · rw [if_pos (by omega)]
          · rw [List.getElem?_eq_none (by omega)]; simp
        · simp only [hi, if_false]
          rw [if_neg (by omega)]
      · rw [List.all_eq_true] at hone ⊢
        intro a ha
        exact hone a (List.mem_of_mem_drop (List.mem_of_mem_take ha))
    · simp at h
  · rename_i n ha hs
    obtain ⟨v, h1, h2⟩ := hvs.get h
    refine ⟨v, fun w' => ?_, h2⟩
    simp only [part, Sem.run_bind, run_isAgg' ha, Result.andThen_ok, Bool.false_eq_true, if_false]
    simp [h1]
  · simp at h

theorem fieldsOf_eq {C : Ctx} {t : TypeId} {fs : Array Field} (h : C.und t = some (.struct fs)) : C.P.fieldsOf t = fs := by
  replace h := C.und_ok _ _ h
  simp [Program.fieldsOf, h]

theorem ba_eq (a b : ByteArray) : (a == b) = (a.data.toList == b.data.toList) := by
  rw [beq_toListBytes, ByteArray.toList_eq, ByteArray.toList_eq]

/-- '==' -/
theorem eqAV_rel (d : Nat) : ∀ {t : TypeId} {x y : AV} {b : Bool} {cx cy : Value} (D : Nat), d ≤ D → eqAV C d t x y = some b → VR C w I μ x cx → VR C w I μ y cy →
    ∀ w', (Op.equalIn D t cx cy).run C.P w' = .ok b w' := by
  induction d with
  | zero => intro t x y b cx cy D _ h; simp [eqAV] at h
  | succ d ih =>
    intro t x y b cx cy D hD h hx hy w'
    obtain ⟨D, rfl⟩ : ∃ D', D = D' + 1 := ⟨D - 1, by omega⟩
    have hD' : d ≤ D := by omega
    have fieldsR : ∀ (fs : List Field) (xs ys : List AV) (us vs : List Value) (b : Bool), VRs C w I μ xs us → VRs C w I μ ys vs → xs.all AV.oneCell = true → ys.all AV.oneCell = true →
        eqFields C (eqAV C d) fs xs ys = some b → ∀ w', (Op.eqFields D us.toArray vs.toArray fs).run C.P w' = .ok b w' := by
      intro fs
      induction fs with
      | nil => intro xs ys us vs b _ _ _ _ he w'; simp [eqFields] at he; subst he; rfl
      | cons f fs ihf =>
        intro xs ys us vs b h1 h2 o1 o2 he w'
        simp only [eqFields] at he
        cases hn : (f.name == "_") with
        | true => simp [hn] at he
        | false =>
          simp only [hn, cond_false] at he
          have hn' : f.name ≠ "_" := by simpa using hn
          split at he
          · rename_i a a' ha ha'
            split at he
            · rename_i r s hr hs
              have := Option.some.inj he; subst this
              obtain ⟨v, e1, e2⟩ := partA_rel h1 o1 ha
              obtain ⟨v', e3, e4⟩ := partA_rel h2 o2 ha'
              have e5 := ih D hD' hr e2 e4
              have e6 := ihf xs ys us vs s h1 h2 o1 o2 hs
              simp only [Op.eqFields, hn', ne_eq, not_false_eq_true, if_true, Sem.run_bind, e1, e3, Result.andThen_ok, e5, Sem.run_ite]
              cases r with
              | true => simp only [Bool.not_true, Bool.false_eq_true, if_false, Bool.true_and]; exact e6 w'
              | false => simp
            · simp at he
          · simp at he
    have elemsR : ∀ (e : TypeId) (n k i : Nat) (xs ys : List AV) (us vs : List Value) (b : Bool), VRs C w I μ xs us → VRs C w I μ ys vs → xs.all AV.oneCell = true → ys.all AV.oneCell = true →
        eqElems C (eqAV C d) e n k i xs ys = some b → ∀ w', ((forIn (List.range' i k) ((none, ()) : Option Bool × Unit) fun j _ => (do
            if (!(← Op.equalIn D e (← part e us.toArray (j * n)) (← part e vs.toArray (j * n)))) = true then pure (ForInStep.done (some false, ())) else pure (ForInStep.yield (none, ())) : Sem (ForInStep (Option Bool × Unit)))) : Sem (Option Bool × Unit)).run C.P w' =
          .ok (if b then (none, ()) else (some false, ())) w' := by
      intro e n k
      induction k with
      | zero => intro i xs ys us vs b _ _ _ _ he w'; simp [eqElems] at he; subst he; rfl
      | succ k ihk =>
        intro i xs ys us vs b h1 h2 o1 o2 he w'
        simp only [eqElems] at he
        split at he
        · rename_i a a' ha ha'
          split at he
          · rename_i r s hr hs
            have := Option.some.inj he; subst this
            obtain ⟨v, e1, e2⟩ := partA_rel h1 o1 ha
            obtain ⟨v', e3, e4⟩ := partA_rel h2 o2 ha'
            have e5 := ih D hD' hr e2 e4
            have e6 := ihk (i + 1) xs ys us vs s h1 h2 o1 o2 hs
            simp only [List.range'_succ, List.forIn_cons, Sem.run_bind, e1, e3, Result.andThen_ok, e5]
            cases r with
            | true =>
              simp only [Bool.not_true, Bool.false_eq_true, if_false, Sem.run_pure, Result.andThen_ok, Bool.true_and]
              exact e6 w'
            | false => simp
          · simp at he
        · simp at he
    unfold eqAV at h
    split at h
    · rename_i hu; cases hx; cases hy; simp at h; subst h; simp [Op.equalIn, run_underlying' hu]
    · rename_i kd k m k' m' hu
      cases hx; cases hy
      cases hk : (k == k') with
      | false => simp [hk] at h
      | true =>
        simp [hk] at h; subst h
        have : k = k' := by simpa using hk
        subst this
        simp [Op.equalIn, run_underlying' hu]
    · rename_i hu; cases hx; cases hy; simp at h; subst h; simp [Op.equalIn, run_underlying' hu, ba_eq]
    · rename_i hu; cases hx; cases hy; simp at h; subst h; simp [Op.equalIn, run_underlying' hu]
    · rename_i hu; cases hx; cases hy; simp at h; subst h; simp [Op.equalIn, run_underlying' hu]
    · rename_i hu; cases hx; cases hy; simp at h; subst h; simp [Op.equalIn, run_underlying' hu]
    · rename_i e b1 o b2 o' hu
      split at h
      · simp at h
      · rename_i n hn0 hn
        cases hb : (b1 == b2) with
        | false => simp [hb] at h
        | true =>
          simp [hb] at h; subst h
          have : b1 = b2 := by simpa using hb
          subst this
          cases hx with
          | ptr _ _ _ L h1 =>
          cases hy with
          | ptr _ _ _ L' h2 =>
          rw [h1] at h2; cases h2
          have hn' : n ≠ 0 := hn0
          simp only [Op.equalIn, Sem.run_bind, run_underlying' hu, Result.andThen_ok, run_sizeOf' hn, ne_eq, hn', not_false_eq_true, if_true, sameAddr, beq_self_eq_true, Sem.run_pure]
          congr 1
          by_cases ho : o = o'
          · subst ho; simp
          · have h3 : (o == o') = false := by simpa using ho
            rw [h3]
            simp only [beq_eq_false_iff_ne, ne_eq, Addr.mk.injEq, true_and, and_true]
            omega
      · simp at h
    · rename_i hu; cases hx; cases hy; simp at h; subst h; simp [Op.equalIn, run_underlying' hu]
    · rename_i hu; cases hx; cases hy; simp at h; subst h; simp [Op.equalIn, run_underlying' hu]
    · rename_i hu; cases hx; cases hy; simp at h; subst h; simp [Op.equalIn, run_underlying' hu]
    · rename_i hu; cases hx; cases hy; simp at h; subst h; simp [Op.equalIn, run_underlying' hu]
    · rename_i hu; cases hx; cases hy; simp at h; subst h; simp [Op.equalIn, run_underlying' hu]
    · rename_i hu; cases hx; cases hy; simp at h; subst h; simp [Op.equalIn, run_underlying' hu]
    · rename_i hu; cases hx; cases hy; simp at h; subst h; simp [Op.equalIn, run_underlying' hu]
    · rename_i hu; cases hx; cases hy; simp at h; subst h; simp [Op.equalIn, run_underlying' hu]
    · rename_i hu; cases hx; cases hy; simp at h; subst h; simp [Op.equalIn, run_underlying' hu]
    · rename_i hu; cases hx; cases hy; simp at h; subst h; simp [Op.equalIn, run_underlying' hu]
    · rename_i hu; cases hx; cases hy; simp at h; subst h; simp [Op.equalIn, run_underlying' hu]
    · rename_i fields xs ys hu
      cases hx with
      | agg _ _ us hxs ho =>
      cases hy with
      | agg _ _ vs hys ho' =>
      cases hp0 : C.held t with
      | true => simp [hp0] at h
      | false =>
        have hp := C.held_ok t hp0
        simp only [hp0, cond_false] at h
        have hf := fieldsOf_eq hu
        rw [run_equalIn_struct w' D t _ _ (by rw [hf]; exact C.und_ok _ _ hu) hp, hf]
        exact fieldsR _ xs ys us vs b hxs hys ho ho' h w'
    · rename_i len e xs ys hu
      cases hx with
      | agg _ _ us hxs ho =>
      cases hy with
      | agg _ _ vs hys ho' =>
      split at h
      · rename_i n hn
        have := elemsR e n len 0 xs ys us vs b hxs hys ho ho' h w'
        simp only [Op.equalIn, Sem.run_bind, run_underlying' hu, Result.andThen_ok, run_sizeOf' hn]
        rw [Std.Legacy.Range.forIn_eq_forIn_range']
        simp only [Std.Legacy.Range.size, Nat.sub_zero, Nat.add_sub_cancel, Nat.div_one]
        rw [this]
        cases b <;> rfl
      · simp at h
    · simp at h

end
end Go.Ev

/- Operators, slices of things, look-ups: the evaluator's way and the model's. -/
namespace Go.Ev
open Go

section
variable {C : Ctx} {w : World} {I : Nat → Prop} {μ : Mu} {R : Type}

theorem bytesLess_eq (a b : List UInt8) : bytesLess a b = Op.bytesLess a b := by
  induction a generalizing b with
  | nil => cases b <;> rfl
  | cons x a ih => cases b with
    | nil => rfl
    | cons y b => simp [bytesLess, Op.bytesLess, ih]

theorem VR.str' (μ : Mu) (s : ByteArray) {l : List UInt8} (h : l = s.data.toList) : VR C w I μ (.str l) (.string s) := by
  subst h; exact .str _ _

theorem strOp_rel {op : BinOp} {s t : ByteArray} {v : AV} (h : strOp op s.data.toList t.data.toList = some v) :
    ∃ cv, (∀ w', (Op.stringOp op s t).run C.P w' = .ok cv w') ∧ VR C w I μ v cv := by
  have e1 : ∀ (s : ByteArray), s.toList = s.data.toList := ByteArray.toList_eq
  cases op <;> simp only [strOp] at h <;> first
    | (simp at h; done)
    | (have := Option.some.inj h; subst this; refine ⟨_, fun w' => ?_, .bool _ _⟩; simp only [Op.stringOp, e1, ← bytesLess_eq]; rfl)
    | (cases hb : decide (s.data.toList.length + t.data.toList.length < 2 ^ 62) with
       | false => rw [hb] at h; simp at h
       | true =>
         rw [hb] at h
         have := Option.some.inj h; subst this
         refine ⟨.string (s ++ t), fun w' => ?_, .str' _ _ (by simp [ByteArray.data_append])⟩
         have hl : s.size + t.size < 2 ^ 62 := by simpa [← ByteArray.size_data] using hb
         simp only [Op.stringOp]
         rw [if_neg (by simp only [IntKind.max, IntKind.signed, IntKind.bits]; omega)]
         rfl)

theorem intCmpA_rel {op : BinOp} {a b : Int} {v : AV} (h : intCmpA op a b = some v) :
    ∃ cv, (∀ w', (Op.intCmp op a b).run C.P w' = .ok cv w') ∧ VR C w I μ v cv := by
  cases op <;> simp only [intCmpA] at h <;> first
    | (simp at h; done)
    | (have := Option.some.inj h; subst this; exact ⟨_, fun w' => rfl, .bool _ _⟩)

/-- a binary operator -/
theorem binA_rel {op : BinOp} {t : TypeId} {x y : AV} {k : AV → Option R} {r : R} (h : binA C op t x y k = some r) :
    ∃ v, k v = some r ∧ ∀ w I μ cx cy, VR C w I μ x cx → VR C w I μ y cy → ∃ cv, (∀ w', (binOp op t cx cy).run C.P w' = .ok cv w') ∧ VR C w I μ v cv := by
  unfold binA at h
  split at h
  · rename_i ka a kb b
    have ints : ∀ (v : AV) (s : Sem Value), k v = some r → (∀ w I μ, ∃ cv, (∀ w', s.run C.P w' = .ok cv w') ∧ VR C w I μ v cv) → (binOp op t (.int ka a) (.int kb b) = s) →
        ∃ v, k v = some r ∧ ∀ w I μ cx cy, VR C w I μ (.int ka a) cx → VR C w I μ (.int kb b) cy → ∃ cv, (∀ w', (binOp op t cx cy).run C.P w' = .ok cv w') ∧ VR C w I μ v cv :=
      fun v s h1 h2 h3 => ⟨v, h1, fun w I μ cx cy hx hy => by cases hx; cases hy; rw [h3]; exact h2 w I μ⟩
    split at h
    · cases hb : decide (b < 0) with
      | true => rw [hb] at h; simp at h
      | false =>
        rw [hb] at h
        have hb' : ¬ b < 0 := by simpa using hb
        refine ints _ _ h (fun w I μ => ⟨_, fun w' => ?_, .int _ _ _⟩) rfl
        simp only [binOp, Op.shift]
        rw [if_neg hb']; rfl
    · cases hb : decide (b < 0) with
      | true => rw [hb] at h; simp at h
      | false =>
        rw [hb] at h
        have hb' : ¬ b < 0 := by simpa using hb
        refine ints _ _ h (fun w I μ => ⟨_, fun w' => ?_, .int _ _ _⟩) rfl
        simp only [binOp, Op.shift]
        rw [if_neg hb']; rfl
    · rename_i hn1 hn2
      cases hk : (ka == kb) with
      | false => rw [hk] at h; simp at h
      | true =>
        rw [hk] at h
        have : ka = kb := by simpa using hk
        subst this
        simp only [cond_true] at h
        split at h
        · exact ints _ _ h (fun w I μ => ⟨_, fun w' => by simp only [binOp, ne_eq, not_true_eq_false, if_false, Op.intArith]; rfl, .int _ _ _⟩) rfl
        · exact ints _ _ h (fun w I μ => ⟨_, fun w' => by simp only [binOp, ne_eq, not_true_eq_false, if_false, Op.intArith]; rfl, .int _ _ _⟩) rfl
        · exact ints _ _ h (fun w I μ => ⟨_, fun w' => by simp only [binOp, ne_eq, not_true_eq_false, if_false, Op.intArith]; rfl, .int _ _ _⟩) rfl
        · cases hb : (b == 0) with
          | true => rw [hb] at h; simp at h
          | false =>
            rw [hb] at h
            have hb' : ¬ b = 0 := by simpa using hb
            exact ints _ _ h (fun w I μ => ⟨_, fun w' => by simp only [binOp, ne_eq, not_true_eq_false, if_false, Op.intDiv, hb']; rfl, .int _ _ _⟩) rfl
        · cases hb : (b == 0) with
          | true => rw [hb] at h; simp at h
          | false =>
            rw [hb] at h
            have hb' : ¬ b = 0 := by simpa using hb
            exact ints _ _ h (fun w I μ => ⟨_, fun w' => by simp only [binOp, ne_eq, not_true_eq_false, if_false, Op.intDiv, hb']; rfl, .int _ _ _⟩) rfl
        · exact ints _ _ h (fun w I μ => ⟨_, fun w' => by simp only [binOp, ne_eq, not_true_eq_false, if_false, Op.intBits]; rfl, .int _ _ _⟩) rfl
        · exact ints _ _ h (fun w I μ => ⟨_, fun w' => by simp only [binOp, ne_eq, not_true_eq_false, if_false, Op.intBits]; rfl, .int _ _ _⟩) rfl
        · exact ints _ _ h (fun w I μ => ⟨_, fun w' => by simp only [binOp, ne_eq, not_true_eq_false, if_false, Op.intBits]; rfl, .int _ _ _⟩) rfl
        · exact ints _ _ h (fun w I μ => ⟨_, fun w' => by simp only [binOp, ne_eq, not_true_eq_false, if_false, Op.intBits]; rfl, .int _ _ _⟩) rfl
        · split at h
          · rename_i v hv
            refine ints v _ h (fun w I μ => intCmpA_rel hv) ?_
            cases op <;> first | (simp [intCmpA] at hv; done) | (simp only [binOp, ne_eq, not_true_eq_false, if_false])
          · simp at h
  · rename_i a b
    split at h
    · rename_i v hv
      refine ⟨v, h, fun w I μ cx cy hx hy => ?_⟩
      generalize ha : AV.str a = x at hx
      generalize hb : AV.str b = y at hy
      cases hx <;> first | (simp at ha; done) | skip
      cases hy <;> first | (simp at hb; done) | skip
      rename_i s t'
      have ha' := AV.str.inj ha
      have hb' := AV.str.inj hb
      subst ha' hb'
      obtain ⟨cv, h1, h2⟩ := strOp_rel (C := C) (w := w) (I := I) (μ := μ) hv
      refine ⟨cv, fun w' => ?_, h2⟩
      rw [← h1 w']
      cases op <;> rfl
    · simp at h
  · rename_i hn1 hn2
    have other : ∀ w I μ cx cy, VR C w I μ x cx → VR C w I μ y cy → ∀ (neg : Bool), (neg = false → binOp .eql t cx cy = (do pure (.bool (← Op.equal t cx cy)))) ∧ (neg = true → binOp .neq t cx cy = (do pure (.bool (!(← Op.equal t cx cy))))) := by
      intro w I μ cx cy hx hy neg
      cases hx <;> cases hy <;> first
        | exact absurd rfl (hn1 _ _ _ _ rfl)
        | exact absurd rfl (hn2 _ _ rfl)
        | exact ⟨fun _ => rfl, fun _ => rfl⟩
    split at h
    · split at h
      · rename_i b hb
        refine ⟨_, h, fun w I μ cx cy hx hy => ⟨_, fun w' => ?_, .bool _ _⟩⟩
        rw [(other w I μ cx cy hx hy false).1 rfl]
        simp only [Sem.run_bind, Op.equal, eqAV_rel 40 Op.maxDepth (by decide) hb hx hy w', Result.andThen_ok]
        rfl
      · simp [fail] at h
    · split at h
      · rename_i b hb
        refine ⟨_, h, fun w I μ cx cy hx hy => ⟨_, fun w' => ?_, .bool _ _⟩⟩
        rw [(other w I μ cx cy hx hy true).2 rfl]
        simp only [Sem.run_bind, Op.equal, eqAV_rel 40 Op.maxDepth (by decide) hb hx hy w', Result.andThen_ok]
        rfl
      · simp [fail] at h
    · simp [fail] at h

theorem grd_of {t : TypeId} {x y : Operand} {a b : List AV} (h : guardOk C t x y (.agg a) (.agg b) = true) : C.P.eqGuardType C.P.depth t = false :=
  C.grd_ok t (by simpa [guardOk] using h)

theorem eqGuard_agg {op : BinOp} (hop : op = .eql ∨ op = .neq) {t : TypeId} {x y : Operand} {a b : List AV} (h : guardOk C t x y (.agg a) (.agg b) = true) (u v : Array Value) (w' : World) :
    (eqGuard op t x y (.agg u) (.agg v)).run C.P w' = .ok () w' := by
  have hg := grd_of h
  rcases hop with rfl | rfl <;> simp [eqGuard, hg]

/-- the question whether two nil interfaces are held against one another -/
theorem guardOk_rel {op : BinOp} {t : TypeId} {x y : Operand} {a b : AV} (h : guardA C op t x y a b = true) {cx cy : Value}
    (hx : VR C w I μ a cx) (hy : VR C w I μ b cy) (w' : World) : (eqGuard op t x y cx cy).run C.P w' = .ok () w' := by
  have key : guardOk C t x y a b = true → ∀ op, (op = .eql ∨ op = .neq) → (eqGuard op t x y cx cy).run C.P w' = .ok () w' := by
    intro hg op hop
    rcases hop with rfl | rfl
    · cases hx with
      | agg _ _ _ _ _ =>
        cases hy with
        | agg _ _ _ _ _ => exact eqGuard_agg (.inl rfl) hg _ _ w'
        | _ => rfl
      | nilIface _ =>
        cases hy with
        | nilIface _ => cases x <;> cases y <;> first | rfl | (simp [guardOk, isConst] at hg)
        | _ => rfl
      | _ => cases hy <;> rfl
    · cases hx with
      | agg _ _ _ _ _ =>
        cases hy with
        | agg _ _ _ _ _ => exact eqGuard_agg (.inr rfl) hg _ _ w'
        | _ => rfl
      | nilIface _ =>
        cases hy with
        | nilIface _ => cases x <;> cases y <;> first | rfl | (simp [guardOk, isConst] at hg)
        | _ => rfl
      | _ => cases hy <;> rfl
  cases op <;> first
    | exact key h _ (.inl rfl)
    | exact key h _ (.inr rfl)
    | rfl

end
end Go.Ev

/- Slices: cutting them, reading them, appending to them. -/
namespace Go.Ev
open Go

section
variable {C : Ctx} {w : World} {I : Nat → Prop} {μ : Mu} {R : Type}

def OV (C : Ctx) (w : World) (I : Nat → Prop) (μ : Mu) : Option AV → Option Value → Prop
  | none, none => True
  | some a, some v => VR C w I μ a v
  | _, _ => False

theorem asNatIn_rel {v : AV} {lo hi : Nat} {k : Nat → Option R} {r : R} (h : asNatIn v lo hi k = some r) :
    ∃ n, k n = some r ∧ lo ≤ n ∧ n ≤ hi ∧ ∀ w I μ cv, VR C w I μ v cv → ∃ kd, cv = .int kd n := by
  unfold asNatIn at h
  split at h
  · rename_i kd i
    cases hb : (decide ((lo : Int) ≤ i) && decide (i ≤ (hi : Int))) with
    | false => rw [hb] at h; simp [fail] at h
    | true =>
      rw [hb] at h
      simp only [Bool.and_eq_true, decide_eq_true_eq] at hb
      refine ⟨i.toNat, h, by omega, by omega, fun w I μ cv hv => ?_⟩
      cases hv
      exact ⟨kd, by rw [Int.toNat_of_nonneg (by omega)]⟩
  · simp [fail] at h

theorem run_sliceBound {P : Program} {kd : IntKind} {n y : Nat} (h : n ≤ y) (code : BoundsCode) (w : World) : (Instr.sliceBound (.int kd (n : Int)) y code).run P w = .ok n w := by
  simp only [Instr.sliceBound, asIntOf, Sem.run_bind, Sem.run_pure, Result.andThen_ok]
  rw [if_pos (by omega)]
  simp

theorem lowA_rel {lo : Option AV} {hh : Nat} {m : Option Nat} {k : Nat → Nat → Option Nat → Option R} {r : R} (h : lowA lo hh m k = some r) :
    ∃ l, k l hh m = some r ∧ l ≤ hh ∧ ∀ w I μ clo (code : BoundsCode), OV C w I μ lo clo → ∀ w', (match clo with | some v => Instr.sliceBound v hh code | none => (pure 0 : Sem Nat) : Sem Nat).run C.P w' = Result.ok l w' := by
  unfold lowA at h
  split at h
  · refine ⟨0, h, Nat.zero_le _, fun w I μ clo code ho w' => ?_⟩
    cases clo with
    | none => rfl
    | some v => exact ho.elim
  · obtain ⟨n, h1, h2, h3, h4⟩ := asNatIn_rel (C := C) h
    refine ⟨n, h1, h3, fun w I μ clo code ho w' => ?_⟩
    cases clo with
    | none => exact ho.elim
    | some v => obtain ⟨kd, rfl⟩ := h4 _ _ _ _ ho; exact run_sliceBound h3 code w'

theorem boundsA_rel {len cap : Nat} {lo hi mx : Option AV} {k : Nat → Nat → Option Nat → Option R} {r : R} (hl : len ≤ cap)
    (h : boundsA len cap lo hi mx k = some r) :
    ∃ l hh m, k l hh m = some r ∧ l ≤ hh ∧ hh ≤ cap ∧ (∀ m', m = some m' → hh ≤ m' ∧ m' ≤ cap) ∧ (mx = none → m = none) ∧ ∀ cap', cap ≤ cap' → ∀ w I μ isS clo chi cmx, OV C w I μ lo clo → OV C w I μ hi chi → OV C w I μ mx cmx →
      ∀ w', (Instr.sliceBounds isS len cap' clo chi cmx).run C.P w' = .ok (l, hh, m.getD cap') w' := by
  unfold boundsA at h
  cases mx with
  | none =>
    cases hi with
    | none =>
      obtain ⟨l, h1, h2, h3⟩ := lowA_rel (C := C) h
      refine ⟨l, len, none, h1, h2, hl, fun _ hm => by simp at hm, fun _ => rfl, fun cap' hc w I μ isS clo chi cmx o1 o2 o3 w' => ?_⟩
      cases cmx with
      | some _ => exact o3.elim
      | none =>
      cases chi with
      | some _ => exact o2.elim
      | none =>
        have := h3 w I μ clo .sliceB o1 w'
        simp only [Instr.sliceBounds, Sem.run_bind, Sem.run_pure, Result.andThen_ok, Option.isSome_none, Bool.false_eq_true, if_false, Option.getD_none]
        cases clo with
        | none => have e : 0 = l := by simpa using this
                  subst e; rfl
        | some v => simp only [Sem.run_bind, this, Result.andThen_ok, Sem.run_pure]
    | some v =>
      obtain ⟨n, k1, _, k3, k4⟩ := asNatIn_rel (C := C) h
      obtain ⟨l, h1, h2, h3⟩ := lowA_rel (C := C) k1
      refine ⟨l, n, none, h1, h2, k3, fun _ hm => by simp at hm, fun _ => rfl, fun cap' hc w I μ isS clo chi cmx o1 o2 o3 w' => ?_⟩
      cases cmx with
      | some _ => exact o3.elim
      | none =>
      cases chi with
      | none => exact o2.elim
      | some cv =>
        obtain ⟨kd, rfl⟩ := k4 _ _ _ _ o2
        have := h3 w I μ clo .sliceB o1 w'
        simp only [Instr.sliceBounds, Sem.run_bind, Sem.run_pure, Result.andThen_ok, run_sliceBound (Nat.le_trans k3 hc), Option.isSome_none, Bool.false_eq_true, if_false, Option.getD_none]
        cases clo with
        | none => have e : 0 = l := by simpa using this
                  subst e; rfl
        | some v => simp only [Sem.run_bind, this, Result.andThen_ok, Sem.run_pure]
  | some v =>
    obtain ⟨m, k1, _, k3, k4⟩ := asNatIn_rel (C := C) h
    cases hi with
    | none => simp at k1
    | some u =>
      obtain ⟨n, j1, _, j3, j4⟩ := asNatIn_rel (C := C) k1
      obtain ⟨l, h1, h2, h3⟩ := lowA_rel (C := C) j1
      refine ⟨l, n, some m, h1, h2, by omega, fun m' hm => by simp at hm; omega, fun e => by simp at e, fun cap' hc w I μ isS clo chi cmx o1 o2 o3 w' => ?_⟩
      cases cmx with
      | none => exact o3.elim
      | some cm =>
      cases chi with
      | none => exact o2.elim
      | some cv =>
        obtain ⟨kd, rfl⟩ := j4 _ _ _ _ o2
        obtain ⟨kd', rfl⟩ := k4 _ _ _ _ o3
        have := h3 w I μ clo .slice3C o1 w'
        simp only [Instr.sliceBounds, Sem.run_bind, Sem.run_pure, Result.andThen_ok, run_sliceBound (Nat.le_trans k3 hc), run_sliceBound j3, Option.isSome_some, if_true, Option.getD_some]
        cases clo with
        | none => have e : 0 = l := by simpa using this
                  subst e; rfl
        | some v => simp only [Sem.run_bind, this, Result.andThen_ok, Sem.run_pure]

theorem getCells_any {h : Hp} {a : AV} {n : Nat} {l : List AV} (ha : ∀ b o, a ≠ .ptr b o) (hg : getCells C ⟨[], []⟩ a n = some l) : getCells C h a n = some l := by
  unfold getCells at hg ⊢
  split at hg
  · exact absurd rfl (ha _ _)
  · exact hg
  · exact hg
  · simp at hg

/-- a slice of an array behind a pointer -/
theorem slArr_rel {lo hi mx : Option AV} {len : Nat} {e : TypeId} {x : AV} {k : AV → Option R} {r : R} (h : slArr C lo hi mx len e x k = some r) :
    ∃ v, k v = some r ∧ ∀ w I μ H, HR C w I μ H → ∀ cx clo chi cmx, VR C w I μ x cx → OV C w I μ lo clo → OV C w I μ hi chi → OV C w I μ mx cmx →
      ∃ ad l hh m size, cx = .pointer (some ad) ∧ (∀ w', (Instr.sliceBounds false len len clo chi cmx).run C.P w' = .ok (l, hh, m) w') ∧ (∀ w', (sizeOf e).run C.P w' = .ok size w') ∧
        VR C w I μ v (.slice (some (if m = l then ad else ad.add (l * size))) (hh - l) (m - l)) := by
  unfold slArr at h
  split at h
  · simp at h
  · rename_i size hsz
    obtain ⟨l, hh, m, h1, h2, h3, h4, h5, h6⟩ := boundsA_rel (C := C) (Nat.le_refl _) h
    have hm : hh ≤ m.getD len := by cases m with | none => exact h3 | some m => exact (h4 m rfl).1
    cases hb : (l == hh && !(l == 0)) with
    | true => rw [hb] at h1; simp [fail] at h1
    | false =>
      rw [hb] at h1
      simp only [cond_false] at h1
      -- the address: either the slice is not empty, or it begins at 0
      have hadd : ∀ ad : Addr, ad.spot = none → (if m.getD len = l then ad else ad.add (l * size)) = ad.add (l * size) := by
        intro ad hs
        split
        · rename_i he
          have e1 : l = hh := by omega
          have : l = 0 := by
            subst e1; simp at hb; exact hb
          subst this; simp [Addr.add]
        · rfl
      split at h1
      · rename_i b o
        refine ⟨_, h1, fun w I μ H hr cx clo chi cmx hx o1 o2 o3 => ?_⟩
        cases hx with
        | ptr _ _ _ L hμ =>
          refine ⟨_, l, hh, m.getD len, size, rfl, h6 _ (Nat.le_refl _) w I μ false clo chi cmx o1 o2 o3, fun w' => run_sizeOf' hsz, ?_⟩
          rw [hadd _ rfl, addr_add]
          rw [Nat.add_assoc]
          refine .sl μ b _ _ _ _ L hμ (fun c hc => ?_) (fun hc => by simp at hc) (by omega)
          cases hc; rfl
      · rename_i g o
        split at h1
        · rename_i cs hcs
          refine ⟨_, h1, fun w I μ H hr cx clo chi cmx hx o1 o2 o3 => ?_⟩
          have hg := getCells_any (h := ⟨H, []⟩) (fun _ _ e => by simp at e) hcs
          cases hx with
          | gptr =>
            refine ⟨_, l, hh, m.getD len, size, rfl, h6 _ (Nat.le_refl _) w I μ false clo chi cmx o1 o2 o3, fun w' => run_sizeOf' hsz, ?_⟩
            rw [hadd _ rfl, addr_add]
            simp only [getCells] at hcs
            split at hcs
            · rename_i cs0 hg0
              obtain ⟨e1, e2⟩ := cut_spec hcs
              obtain ⟨hI, hone, vs, hca, hvs⟩ := hr.glob g cs0 hg0
              have hvs' : VRs C w I mu0 ((cs.drop (l * size)).take ((hh - l) * size)) ((((vs.drop o).take (len * size)).drop (l * size)).take ((hh - l) * size)) := by
                rw [e1]; exact VRs.take _ (VRs.drop _ (VRs.take _ (VRs.drop _ hvs)))
              refine .list μ _ _ g (o + l * size) (hh - l) _ _ hI ?_ hvs' ?_ (by omega) ?_
              · obtain ⟨c, e, fr, q1, q2⟩ := hca
                refine ⟨c, e, fr, q1, fun i v hi => ?_⟩
                simp only [List.getElem?_take, List.getElem?_drop] at hi
                split at hi
                · split at hi
                  · have := q2 _ _ hi
                    rw [← this]; congr 1; omega
                  · simp at hi
                · simp at hi
              · rw [List.all_eq_true] at hone ⊢
                intro a ha
                have := List.mem_of_mem_drop (List.mem_of_mem_take ha)
                rw [e1] at this
                exact hone a (List.mem_of_mem_drop (List.mem_of_mem_take this))
              · intro hf
                cases m with
                | none => simp [fullOf] at hf; simp; omega
                | some m => simp [fullOf] at hf; simp; omega
            · simp at hcs
        · simp at h1
      · rename_i g o
        split at h1
        · rename_i cs hcs
          refine ⟨_, h1, fun w I μ H hr cx clo chi cmx hx o1 o2 o3 => ?_⟩
          cases hx with
          | lptr _ _ vs cb off _ hI hca hvs hone =>
            refine ⟨_, l, hh, m.getD len, size, rfl, h6 _ (Nat.le_refl _) w I μ false clo chi cmx o1 o2 o3, fun w' => run_sizeOf' hsz, ?_⟩
            rw [hadd _ rfl, addr_add]
            simp only [getCells] at hcs
            obtain ⟨e1, e2⟩ := cut_spec hcs
            have hvs' : VRs C w I mu0 ((cs.drop (l * size)).take ((hh - l) * size)) ((((vs.drop o).take (len * size)).drop (l * size)).take ((hh - l) * size)) := by
              rw [e1]; exact VRs.take _ (VRs.drop _ (VRs.take _ (VRs.drop _ hvs)))
            refine .list μ _ _ cb (off + o + l * size) (hh - l) _ _ hI ?_ hvs' ?_ (by omega) ?_
            · obtain ⟨c, e, fr, q1, q2⟩ := hca
              refine ⟨c, e, fr, q1, fun i v hi => ?_⟩
              simp only [List.getElem?_take, List.getElem?_drop] at hi
              split at hi
              · split at hi
                · have := q2 _ _ hi
                  rw [← this]; congr 1; omega
                · simp at hi
              · simp at hi
            · rw [List.all_eq_true] at hone ⊢
              intro a ha
              have := List.mem_of_mem_drop (List.mem_of_mem_take ha)
              rw [e1] at this
              exact hone a (List.mem_of_mem_drop (List.mem_of_mem_take this))
            · intro hf
              cases m with
              | none => simp [fullOf] at hf; simp; omega
              | some m => simp [fullOf] at hf; simp; omega
        · simp at h1
      · simp [fail] at h1

/-- a slice expression -/
theorem sliceA_rel {t : TypeId} {x : AV} {lo hi mx : Option AV} {k : AV → Option R} {r : R} (h : sliceA C t x lo hi mx k = some r) :
    ∃ v, k v = some r ∧ ∀ w I μ H, HR C w I μ H → ∀ cx clo chi cmx, VR C w I μ x cx → OV C w I μ lo clo → OV C w I μ hi chi → OV C w I μ mx cmx →
      ∃ cv, (∀ w', (Instr.sliceAt t cx clo chi cmx).run C.P w' = .ok cv w') ∧ VR C w I μ v cv := by
  unfold sliceA at h
  split at h
  · -- a string
    rename_i s hu
    split at h
    · simp at h
    · obtain ⟨l, hh, m, h1, h2, h3, h4, h5, h6⟩ := boundsA_rel (C := C) (Nat.le_refl _) h
      refine ⟨_, h1, fun w I μ H hr cx clo chi cmx hx o1 o2 o3 => ?_⟩
      cases cmx with
      | some _ => exact o3.elim
      | none =>
      generalize hs : AV.str s = x at hx
      cases hx <;> first | (simp at hs; done) | skip
      rename_i bs
      have hs' := AV.str.inj hs
      have hlen : s.length = bs.size := by rw [hs', ← ByteArray.size_data]; simp
      refine ⟨.string (bs.extract l hh), fun w' => ?_, .str' _ _ ?_⟩
      · have := h6 _ (Nat.le_refl _) w I μ false clo chi none o1 o2 trivial w'
        rw [hlen] at this
        simp only [Instr.sliceAt, Sem.run_bind, run_underlying' hu, Result.andThen_ok, Instr.slice, Option.isSome_none, Bool.false_eq_true, if_false, this]
        rfl
      · rw [ByteArray.data_extract, hs']
        simp [Array.toList_extract, List.extract_eq_take_drop]
  · -- nil
    rename_i e hu
    split at h
    · simp at h
    · rename_i size hsz
      obtain ⟨l, hh, m, h1, h2, h3, h4, h5, h6⟩ := boundsA_rel (C := C) (Nat.le_refl _) h
      refine ⟨_, h1, fun w I μ H hr cx clo chi cmx hx o1 o2 o3 => ?_⟩
      cases hx
      have hm0 : m.getD 0 = 0 := by cases m with | none => rfl | some m => have := (h4 m rfl).2; simp; omega
      have hl0 : l = 0 := by omega
      have hh0 : hh = 0 := by omega
      refine ⟨.slice none 0 0, fun w' => ?_, .nils _⟩
      have := h6 _ (Nat.le_refl _) w I μ true clo chi cmx o1 o2 o3 w'
      simp only [Instr.sliceAt, Instr.slice, Sem.run_bind, run_underlying' hu, Result.andThen_ok, this, run_sizeOf' hsz, Sem.run_pure, hm0, hl0, hh0]
      rfl
  · -- a list
    rename_i e cs len full hu
    split at h
    · simp at h
    · rename_i size hsz
      obtain ⟨l, hh, m, h1, h2, h3, h4, h5, h6⟩ := boundsA_rel (C := C) (Nat.le_refl _) h
      refine ⟨_, h1, fun w I μ H hr cx clo chi cmx hx o1 o2 o3 => ?_⟩
      cases hx with
      | list _ _ vs cb off _ c' _ q1 q2 q3 q4 q5 q6 =>
      have hm : hh ≤ m.getD c' := by cases m with | none => simp; omega | some m => exact (h4 m rfl).1
      have hrun := h6 c' q5 w I μ true clo chi cmx o1 o2 o3
      have hone : ((cs.drop (l * size)).take ((hh - l) * size)).all AV.oneCell = true := by
        rw [List.all_eq_true] at q4 ⊢
        intro a ha
        exact q4 a (List.mem_of_mem_drop (List.mem_of_mem_take ha))
      have hfull : fullOf m full hh len = true → m.getD c' - l = hh - l := by
        intro hf
        cases m with
        | none => simp [fullOf] at hf; have := q6 hf.1; simp; omega
        | some m => simp [fullOf] at hf; simp; omega
      have hsl : ∀ w', (Instr.sliceAt t (.slice (some ⟨cb, off, none⟩) len c') clo chi cmx).run C.P w' =
          .ok (.slice (if m.getD c' = l then some ⟨cb, off, none⟩ else some ⟨cb, off + l * size, none⟩) (hh - l) (m.getD c' - l)) w' := fun w' => by
        have := hrun w'
        simp only [Instr.sliceAt, Instr.slice, Sem.run_bind, run_underlying' hu, Result.andThen_ok, this, run_sizeOf' hsz, Sem.run_pure, Option.map_some, addr_add]
      refine ⟨_, hsl, ?_⟩
      by_cases he : m.getD c' = l
      · rw [if_pos he]
        have e0 : hh - l = 0 := by omega
        rw [e0, Nat.zero_mul, List.take_zero]
        refine .list μ [] [] cb off 0 _ _ q1 ?_ (.nil _) rfl (Nat.zero_le _) (fun hf => by have := hfull hf; omega)
        obtain ⟨c, e, fr, p1, p2⟩ := q2
        exact ⟨c, e, fr, p1, fun i v hi => by simp at hi⟩
      · rw [if_neg he]
        refine .list μ _ _ cb (off + l * size) (hh - l) _ _ q1 ?_ (VRs.take _ (VRs.drop _ q3)) hone (by omega) hfull
        obtain ⟨c, e, fr, p1, p2⟩ := q2
        refine ⟨c, e, fr, p1, fun i v hi => ?_⟩
        simp only [List.getElem?_take, List.getElem?_drop] at hi
        split at hi
        · have := p2 _ _ hi
          rw [← this]; congr 1; omega
        · simp at hi
  · -- a slice of memory
    rename_i e b o len cap hu
    split at h
    · simp at h
    · rename_i size hsz
      cases hcap' : decide (len ≤ cap.getD len) with
      | false => rw [hcap'] at h; simp at h
      | true =>
        rw [hcap'] at h
        have hcap : len ≤ cap.getD len := by simpa using hcap'
        simp only [cond_true] at h
        obtain ⟨l, hh, m, h1, h2, h3, h4, h5, h6⟩ := boundsA_rel (C := C) hcap h
        cases hb : badCut cap l hh with
        | true => rw [hb] at h1; simp [fail] at h1
        | false =>
          rw [hb] at h1
          simp only [cond_false] at h1
          simp only [badCut, Bool.or_eq_false_iff] at hb
          obtain ⟨hb1, hb2⟩ := hb
          refine ⟨_, h1, fun w I μ H hr cx clo chi cmx hx o1 o2 o3 => ?_⟩
          cases hx with
          | sl _ _ _ _ _ c' L q1 q2 q3 q4 =>
          have hc' : cap.getD len ≤ c' := by
            cases cap with
            | none => exact q4
            | some c => exact Nat.le_of_eq (q2 c rfl).symm
          have hm : hh ≤ m.getD c' := by cases m with | none => simp; omega | some m => exact (h4 m rfl).1
          have hrun := h6 c' hc' w I μ true clo chi cmx o1 o2 o3
          have hl0 : m.getD c' = l → l = 0 := fun he => by
            have e1 : l = hh := by omega
            subst e1; simp at hb2; exact hb2
          have hsl : ∀ w', (Instr.sliceAt t (.slice (some ⟨L.cb, L.base + o, none⟩) len c') clo chi cmx).run C.P w' =
              .ok (.slice (some ⟨L.cb, L.base + (o + l * size), none⟩) (hh - l) (m.getD c' - l)) w' := fun w' => by
            have := hrun w'
            simp only [Instr.sliceAt, Instr.slice, Sem.run_bind, run_underlying' hu, Result.andThen_ok, this, run_sizeOf' hsz, Sem.run_pure, Option.map_some, addr_add]
            by_cases he : m.getD c' = l
            · rw [if_pos he]
              have := hl0 he
              subst this; simp
            · rw [if_neg he, Nat.add_assoc]
          refine ⟨_, hsl, .sl μ b (o + l * size) (hh - l) _ _ L q1 (fun c hc => ?_) (fun hc => ?_) (by omega)⟩
          · cases m with
            | some m => simp [capAfter] at hc; simp; omega
            | none =>
              cases cap with
              | none => simp [capAfter] at hc
              | some c0 => have := q2 c0 rfl; simp [capAfter] at hc; simp; omega
          · cases m with
            | some m => simp [capAfter] at hc
            | none =>
              cases cap with
              | some c0 => simp [capAfter] at hc
              | none =>
                have hl : l = 0 := by simpa using hb1
                subst hl
                have := q3 rfl
                simpa using this
  · -- an array
    rename_i len e x' hu
    obtain ⟨v, h1, h2⟩ := slArr_rel h
    refine ⟨v, h1, fun w I μ H hr cx clo chi cmx hx o1 o2 o3 => ?_⟩
    obtain ⟨ad, l, hh, m, size, rfl, e2, e3, e4⟩ := h2 w I μ H hr cx clo chi cmx hx o1 o2 o3
    refine ⟨_, fun w' => ?_, e4⟩
    simp only [Instr.sliceAt, Sem.run_bind, run_underlying' hu, Result.andThen_ok, Instr.sureAddr, Sem.run_pure, e2, e3]
  · -- a pointer to an array
    rename_i a x' hu
    split at h
    · rename_i len e hu2
      obtain ⟨v, h1, h2⟩ := slArr_rel h
      refine ⟨v, h1, fun w I μ H hr cx clo chi cmx hx o1 o2 o3 => ?_⟩
      obtain ⟨ad, l, hh, m, size, rfl, e2, e3, e4⟩ := h2 w I μ H hr cx clo chi cmx hx o1 o2 o3
      refine ⟨_, fun w' => ?_, e4⟩
      simp only [Instr.sliceAt, Instr.slice, Sem.run_bind, run_underlying' hu, run_underlying' hu2, Result.andThen_ok, asAddr, Sem.run_pure, e2, e3]
    · simp at h
  · simp [fail] at h

end
end Go.Ev

/- append, copy, len, maps, literals. -/
namespace Go.Ev
open Go

section
variable {C : Ctx} {w : World} {I : Nat → Prop} {μ : Mu} {R : Type}

theorem lenA_rel {x : AV} {n : Nat} (h : lenA x = some n) {cx : Value} (hx : VR C w I μ x cx) (w' : World) : (Builtin.lenOf cx).run C.P w' = .ok n w' := by
  cases hx <;> simp [lenA] at h <;> subst h <;> first
    | rfl
    | (simp only [Builtin.lenOf, Sem.run_pure]; congr 1; rw [← ByteArray.size_data]; simp)

theorem cell_heap {w' : World} (h : w'.heap = w.heap) (a : Addr) : w'.cell? a = w.cell? a := by simp [World.cell?, h]

/-- the cells of the first n elements -/
theorem contents_rel {H : Hp} (hr : HR C w I μ H.bl) {size n : Nat} {x : AV} {l : List AV} (h : contents H size n x = some l) (hn : ∀ m, lenA x = some m → n ≤ m) {cx : Value} (hx : VR C w I μ x cx) :
    ∃ vs, VRs C w I μ l vs ∧ l.all AV.oneCell = true ∧ ∀ w', w'.heap = w.heap → (Builtin.firstCells size n cx).run C.P w' = .ok vs.toArray w' := by
  unfold contents at h
  split at h
  · rename_i cs len full
    cases hx with
    | list _ _ vs cb off _ c' _ q1 q2 q3 q4 q5 q6 =>
      obtain ⟨e1, e2⟩ := cut_spec h
      rw [List.drop_zero] at e1
      have hvs : VRs C w I μ l (vs.take (n * size)) := by
        rw [e1]; exact VRs.take _ (VRs.mono (fun _ h => h) (fun _ _ => rfl) (fun b L hb => by simp [mu0] at hb) q3)
      refine ⟨_, hvs, ?_, ?_⟩
      · rw [e1]; rw [List.all_eq_true] at q4 ⊢
        intro a ha; exact q4 a (List.mem_of_mem_take ha)
      · intro w' hw'
        obtain ⟨c, e, fr, p1, p2⟩ := q2
        simp only [Builtin.firstCells]
        have hl : n * size = (vs.take (n * size)).length := by rw [← hvs.length, e2]
        rw [show (loadCells ⟨cb, off, none⟩ (n * size)) = loadCells ⟨cb, off, none⟩ (vs.take (n * size)).length from by rw [← hl]]
        refine run_loadCells _ _ fun j u hj => ?_
        rw [addr_add, cell_heap hw', cell_at p1]
        rw [List.getElem?_take] at hj
        split at hj
        · exact p2 _ _ hj
        · simp at hj
  · rename_i b o len cap
    cases hx with
    | sl _ _ _ _ _ c' L q1 q2 q3 q4 =>
      split at h
      · rename_i e cs t f hb
        have hg : getCells C H (.ptr b o) (n * size) = some l := by simp only [getCells, hb]; exact h
        obtain ⟨ad, vs, h1, h2, h3, h4, h5⟩ := getCells_rel hr hg (.ptr μ b o L q1)
        cases h1
        refine ⟨vs, h3, h4, fun w' hw' => ?_⟩
        simp only [Builtin.firstCells]
        rw [← h2]
        exact run_loadCells _ _ fun j u hj => by rw [cell_heap hw']; exact h5 j u hj
      · simp at h
  · rename_i s
    generalize hs : AV.str s = x at hx
    cases hx <;> first | (simp at hs; done) | skip
    rename_i bs
    have hs' := AV.str.inj hs
    have := Option.some.inj h
    subst this
    refine ⟨((s.take n).map fun b => Value.int .u8 b.toNat), ?_, ?_, ?_⟩
    · generalize s.take n = l
      induction l with
      | nil => exact .nil _
      | cons b l ih => exact .cons _ _ _ _ _ (.int _ _ _) ih
    · rw [List.all_eq_true]; intro a ha; obtain ⟨b, _, rfl⟩ := List.mem_map.1 ha; rfl
    · intro w' _
      simp only [Builtin.firstCells, Sem.run_pure]
      congr 1
      apply Array.ext'
      simp [ByteArray.data_extract, Array.toList_extract, List.extract_eq_take_drop, hs']
  · cases hx
    cases hb : (n == 0) with
    | false => rw [hb] at h; simp at h
    | true =>
      rw [hb] at h
      have := Option.some.inj h
      subst this
      exact ⟨[], .nil _, rfl, fun _ _ => rfl⟩
  · simp at h

theorem growBy_le (newLen : Nat) : ∀ (r c : Nat), c ≤ 2 * newLen + 400 → Builtin.growBy newLen r c ≤ 2 * newLen + 400
  | 0, c, h => h
  | r + 1, c, h => by
    unfold Builtin.growBy
    split
    · exact h
    · exact growBy_le newLen r _ (by omega)

theorem nextslicecap_le {newLen oldCap : Nat} (h : oldCap < newLen) : Builtin.nextslicecap newLen oldCap ≤ 2 * newLen + 400 := by
  unfold Builtin.nextslicecap
  split
  · omega
  · split
    · omega
    · exact growBy_le _ _ _ (by omega)

theorem ofMake_cases {argTypes : Array TypeId} (h : ofMake C argTypes = false) :
    argTypes[1]? = none ∨ ∃ xt d, argTypes[1]? = some xt ∧ C.und xt = some d ∧ ∀ k, d ≠ .int k := by
  unfold ofMake at h
  cases ha : argTypes[1]? with
  | none => exact .inl rfl
  | some xt =>
    rw [ha] at h
    dsimp only at h
    cases hux : C.und xt with
    | none => rw [hux] at h; simp at h
    | some d =>
      rw [hux] at h
      exact .inr ⟨xt, d, rfl, hux, fun k e => by subst e; simp at h⟩

theorem not_int_match {d : TypeDesc} (h : ∀ k, d ≠ .int k) : (match d with | .int _ => true | _ => false) = false := by
  cases d <;> first | rfl | exact absurd rfl (h _)

/-- 'append' where there is room -/
theorem append_room {argTypes : Array TypeId} {sT e : TypeId} (hsT : argTypes[0]? = some sT) (hu : C.und sT = some (.slice e)) (hz : ofMake C argTypes = false) {size sLen n sCap : Nat}
    (hsz : C.size e = some size) {cx : Value} (hlx : ∀ w, (Builtin.lenOf cx).run C.P w = .ok n w) {new : List Value} (hnew : (Builtin.firstCells size n cx).run C.P w = .ok new.toArray w) {base : Option Addr}
    (hroom : sLen + n ≤ sCap) {w' : World} (hst : ∀ a, base = some a → (storeCells (a.add (sLen * size)) new).run C.P w = .ok () w') (hb : base = none → w' = w) (ty : TypeId) :
    (Builtin.append_ argTypes ty #[.slice base sLen sCap, cx]).run C.P w = .ok (.slice base (sLen + n) sCap) w' := by
  have hsz' := run_sizeOf' (w := w) hsz
  rcases ofMake_cases hz with hz | ⟨xt, d, hz, hd, hni⟩
  · cases base with
    | none => rw [hb rfl]; simp [Builtin.append_, hsT, run_underlying' hu, hsz', hz, hlx, hroom, hnew]
    | some a => simp [Builtin.append_, hsT, run_underlying' hu, hsz', hz, hlx, hroom, hnew, hst a rfl]
  · have hm := not_int_match hni
    cases base with
    | none => rw [hb rfl]; simp [Builtin.append_, hsT, run_underlying' hu, run_underlying' hd, hsz', hz, hlx, hroom, hnew, hm]
    | some a => simp [Builtin.append_, hsT, run_underlying' hu, run_underlying' hd, hsz', hz, hlx, hroom, hnew, hst a rfl, hm]

/-- 'append' where there is none -/
theorem append_grows {argTypes : Array TypeId} {sT e : TypeId} (hsT : argTypes[0]? = some sT) (hu : C.und sT = some (.slice e)) (hz : ofMake C argTypes = false) {size bytes sLen n sCap : Nat}
    (hsz : C.size e = some size) (hby : C.bytes e = some bytes) {cx : Value} (hlx : ∀ w, (Builtin.lenOf cx).run C.P w = .ok n w) {old new : List Value} {base : Option Addr}
    (hnew : ∀ w', w'.heap = w.heap → (Builtin.firstCells size n cx).run C.P w' = .ok new.toArray w') (hold : ∀ w', w'.heap = w.heap → (Builtin.firstCells size sLen (.slice base sLen sCap)).run C.P w' = .ok old.toArray w')
    (hroom : ¬ sLen + n ≤ sCap) (hbig : ¬ 2 ^ 46 < (2 * (sLen + n) + 1000) * (bytes + 1)) {z : Value} (hzero : ∀ w, (zeroValue e).run C.P w = .ok z w) :
    ∃ cap w', sLen + n ≤ cap ∧ (∀ ty, (Builtin.append_ argTypes ty #[.slice base sLen sCap, cx]).run C.P w = .ok (.slice (some ⟨w.heap.size, 0, none⟩) (sLen + n) cap) w') ∧ Beside w w' ∧
      w'.heap = w.heap.push (.cells (old.toArray ++ new.toArray ++ Builtin.zeroCells z.cells (cap - (sLen + n))) e) := by
  obtain ⟨i, hi1, hi2⟩ := bytes_info hby
  have hnc := nextslicecap_le (show sCap < sLen + n by omega)
  have hb2 : (2 * (sLen + n) + 1000) * (bytes + 1) ≤ 2 ^ 46 := Nat.le_of_not_lt hbig
  have hmul : Builtin.nextslicecap (sLen + n) sCap * bytes ≤ 2 ^ 46 := Nat.le_trans (Nat.mul_le_mul (by omega) (by omega)) hb2
  have hlen : sLen + n ≤ 2 ^ 46 := Nat.le_trans (Nat.le_trans (by omega) (Nat.le_mul_of_pos_right (2 * (sLen + n) + 1000) (Nat.succ_pos bytes))) hb2
  have h63' : ¬ (9223372036854775807 < ((sLen : Int) + (n : Int))) := by omega
  have h48' : ¬ (281474976710656 < Builtin.nextslicecap (sLen + n) sCap * i.bytes) := by rw [hi2]; omega
  have hsz' : ∀ w, (sizeOf e).run C.P w = .ok size w := fun w => run_sizeOf' hsz
  have hti : ∀ w, (typeInfo e).run C.P w = .ok i w := fun w => run_typeInfo' hi1
  refine ⟨(Question.appendCap (sLen + n) sCap e).cut (w.tape w.drawn (.appendCap (sLen + n) sCap e)),
    w.drew.alloc (.cells (old.toArray ++ new.toArray ++ Builtin.zeroCells z.cells ((Question.appendCap (sLen + n) sCap e).cut (w.tape w.drawn (.appendCap (sLen + n) sCap e)) - (sLen + n))) e),
    by simp only [Question.cut]; omega, fun ty => ?_, ⟨rfl, rfl, rfl⟩, rfl⟩
  have hn' := hnew w.drew rfl
  have ho' := hold w.drew rfl
  rcases ofMake_cases hz with hz | ⟨xt, d, hz, hd, hni⟩
  · simp [Builtin.append_, hsT, run_underlying' hu, hsz', hti, hz, hlx, hroom, h63', h48', Question.forced, hn', ho', hzero, newRow]
    congr 2; apply Array.ext'; simp [List.append_assoc]
  · have hm := not_int_match hni
    simp [Builtin.append_, hsT, run_underlying' hu, run_underlying' hd, hsz', hti, hz, hlx, hroom, h63', h48', Question.forced, hn', ho', hzero, newRow, hm]
    congr 2; apply Array.ext'; simp [List.append_assoc]

theorem size_zeroCells (z : Array Value) (n : Nat) : (Builtin.zeroCells z n).size = n * z.size := by simp [Builtin.zeroCells]

theorem get_app3 (a b : List Value) (c' : Array Value) (i : Nat) (v : Value) (h : (a ++ b)[i]? = some v) : (a.toArray ++ b.toArray ++ c')[i]? = some v := by
  have hl := (List.getElem?_eq_some_iff.1 h).1
  rw [Array.getElem?_append_left (by simpa using hl)]
  simpa using h

theorem VRs.getcell {as : List AV} {vs : List Value} (h : VRs C w I μ as vs) (hone : as.all AV.oneCell = true) {i : Nat} {a : AV} (hi : (as.map some)[i]? = some (some a)) :
    a.oneCell = true ∧ ∃ v, vs[i]? = some v ∧ VR C w I μ a v := by
  have hi' : as[i]? = some a := by
    rw [List.getElem?_map] at hi
    cases h2 : as[i]? with
    | none => rw [h2] at hi; simp at hi
    | some b => rw [h2] at hi; simp at hi; rw [hi]
  exact ⟨(List.all_eq_true.1 hone) a (List.mem_of_getElem? hi'), h.get hi'⟩

theorem Beside.trans {w w' w'' : World} (h : Beside w w') (k : Beside w' w'') : Beside w w'' := ⟨k.os.trans h.os, k.tape.trans h.tape, k.output.trans h.output⟩

theorem setCells_log {H H' : Hp} {a : AV} {new : List AV} (hs : setCells H a new = some H') : LogOK H H' ∧ H'.bl.length = H.bl.length := by
  unfold setCells at hs
  split at hs
  · rename_i b o
    split at hs
    · rename_i e cs t hb
      split at hs
      · rename_i cs' hcs
        have := Option.some.inj hs; subst this
        obtain ⟨h1, h2, h3⟩ := over_spec hcs
        refine ⟨⟨[(b, o, new.length)], rfl, by simp [Hp.put, length_setAt], fun i p hi hn => ?_⟩, by simp [Hp.put, length_setAt]⟩
        simp only [cellOf, Hp.put, getElem?_setAt]
        by_cases e2 : b = i
        · subst e2
          rw [if_pos ⟨rfl, hi⟩, hb]
          dsimp only
          have hnc := hn _ (List.mem_singleton.2 rfl)
          have : ¬ (o ≤ p ∧ p < o + new.length) := fun hh => hnc ⟨rfl, .inr hh⟩
          rw [h2 p, if_neg this]
        · rw [if_neg (fun hh => e2 hh.1)]
      · simp at hs
    · simp at hs
  · simp at hs

/-- what a grown slice stands for -/
theorem grown_post {H : Hp} (hr : HR C w I μ H.bl) (hf : Fresh μ H.bl.length (H.bl.length + 1)) {e : TypeId} {size len cap : Nat} (hsz : C.size e = some size) {old new : List AV} {co cn : List Value}
    (ho : VRs C w I μ old co) (hn : VRs C w I μ new cn) (h1 : old.all AV.oneCell = true) (h2 : new.all AV.oneCell = true) {z : Array Value} (hz : z.size = size) {w' : World} (hs : Beside w w') (hlen : len ≤ cap)
    (hl : (old ++ new).length = len * size)
    (hh : w'.heap = w.heap.push (.cells (co.toArray ++ cn.toArray ++ Builtin.zeroCells z (cap - len)) e)) :
    ∃ μ', VR C w' I μ' (.sl H.bl.length 0 len none) (.slice (some ⟨w.heap.size, 0, none⟩) len cap) ∧ Post C w I μ H.bl w' I μ' (H.new (.cells e ((old ++ new).map some) true false)).bl := by
  let L : Loc := ⟨w.heap.size, 0, cap * size, size⟩
  have hon := ho.append hn
  have hone : (old ++ new).all AV.oneCell = true := by rw [List.all_append, h1, h2]; rfl
  have hlc := hon.length
  have hsize : (co.toArray ++ cn.toArray ++ Builtin.zeroCells z (cap - len)).size = cap * size := by
    have : co.length + cn.length = len * size := by rw [← hl, hlc]; simp
    simp only [Array.size_append, size_zeroCells, List.size_toArray, hz]
    rw [this, ← Nat.add_mul]; congr 1; omega
  have hw : ∀ cb, I cb → w'.heap[cb]? = w.heap[cb]? := fun cb hi => by rw [hh, Array.getElem?_push, if_neg (by have := hr.lt cb hi; omega)]
  have hg : ∀ b L', μ b = some L' → (μ.upd H.bl.length L) b = some L' := fun b L' hb => by
    unfold Mu.upd
    split
    · rename_i e; subst e; rw [hf _ (Nat.le_refl _) (by omega)] at hb; exact absurd hb (by simp)
    · exact hb
  refine ⟨μ.upd H.bl.length L, ?_, ?_⟩
  · have := VR.sl (C := C) (w := w') (I := I) (μ.upd H.bl.length L) H.bl.length 0 len none cap L (by simp [Mu.upd]) (fun c hc => by simp at hc) (fun _ => by simp [L]) hlen
    simpa [L] using this
  · refine post_new hr hf hs hh (L := L) rfl rfl ⟨_, (0, 0), by rw [hh, Array.getElem?_push, if_pos rfl], hsize, hsz, ?_, fun i a hi => ?_, fun _ => rfl, fun _ => rfl⟩
    · simp only [L, List.length_map, hl, hsize]
      have : len * size ≤ cap * size := Nat.mul_le_mul_right _ hlen
      omega
    · obtain ⟨q1, v, q2, q3⟩ := hon.getcell hone hi
      refine ⟨q1, v, ?_, q3.mono (fun _ h => h) hw hg⟩
      simp only [L, Nat.zero_add]
      exact get_app3 _ _ _ _ _ q2

theorem contents_length {H : Hp} {size n : Nat} {x : AV} {l : List AV} (h : contents H size n x = some l) (hn : lenA x = some n) : (∃ s, x = .str s ∧ l.length = n) ∨ l.length = n * size := by
  unfold contents at h
  split at h
  · exact .inr (cut_spec h).2
  · split at h
    · split at h
      · rename_i r hr
        have := allSome_get h
        have h2 := (cut_spec hr).2
        rw [this] at h2
        exact .inr (by simpa using h2)
      · simp at h
    · simp at h
  · rename_i s
    have := Option.some.inj h
    subst this
    simp [lenA] at hn
    exact .inl ⟨s, rfl, by simp; omega⟩
  · simp [lenA] at hn
    subst hn
    simp at h
    subst h
    exact .inr (by simp)
  · simp at h

theorem VR.cells_size {a : AV} {v : Value} (h : VR C w I μ a v) : a.cells.length = v.cells.size := by
  cases h <;> simp [AV.cells, Value.cells]
  rename_i h; exact h.length

theorem VR.heap {w' : World} (h : w'.heap = w.heap) {a : AV} {v : Value} (hv : VR C w I μ a v) : VR C w' I μ a v :=
  hv.mono (fun _ h => h) (fun _ _ => by rw [h]) (fun _ _ h => h)

theorem VRs.heap {w' : World} (h : w'.heap = w.heap) {a : List AV} {v : List Value} (hv : VRs C w I μ a v) : VRs C w' I μ a v :=
  hv.mono (fun _ h => h) (fun _ _ => by rw [h]) (fun _ _ h => h)

theorem growA_spec {H : Hp} {e : TypeId} {size len : Nat} {old new : List AV} {k : AV → Hp → Option R} {r : R} (h : growA C H e size len old new k = some r) :
    ∃ z, C.zero e = some z ∧ z.cells.length = size ∧ k (.sl H.bl.length 0 len none) (H.new (.cells e ((old ++ new).map some) true false)) = some r := by
  unfold growA at h
  split at h
  · rename_i z hz
    cases hb : (z.cells.length == size) with
    | false => rw [hb] at h; simp at h
    | true => rw [hb] at h; exact ⟨z, hz, by simpa using hb, h⟩
  · simp at h

/-- 'append' where there is no room, and what it leaves -/
theorem grow_run {H : Hp} (hr : HR C w I μ H.bl) (hf : Fresh μ H.bl.length (H.bl.length + 1)) {argTypes : Array TypeId} {sT e : TypeId} (hsT : argTypes[0]? = some sT) (hu : C.und sT = some (.slice e))
    (hz : ofMake C argTypes = false) {size bytes sLen n sCap : Nat} (hsz : C.size e = some size) (hby : C.bytes e = some bytes) {base : Option Addr} {x : AV} {cx : Value} (hx : VR C w I μ x cx) (hlx : lenA x = some n)
    {old new : List AV} {co cn : List Value} (ho : VRs C w I μ old co) (h1 : old.all AV.oneCell = true) (hold : ∀ w', w'.heap = w.heap → (Builtin.firstCells size sLen (.slice base sLen sCap)).run C.P w' = .ok co.toArray w')
    (hn : VRs C w I μ new cn) (h2 : new.all AV.oneCell = true) (hnew : ∀ w', w'.heap = w.heap → (Builtin.firstCells size n cx).run C.P w' = .ok cn.toArray w')
    (hl : (old ++ new).length = (sLen + n) * size) (hroom : ¬ sLen + n ≤ sCap) (hbig : ¬ 2 ^ 46 < (2 * (sLen + n) + 1000) * (bytes + 1)) {z : AV} (hzero : C.zero e = some z) (hzl : z.cells.length = size) :
    ∃ cv w' μ', (∀ ty, (Builtin.append_ argTypes ty #[.slice base sLen sCap, cx]).run C.P w = .ok cv w') ∧ VR C w' I μ' (.sl H.bl.length 0 (sLen + n) none) cv ∧
      Post C w I μ H.bl w' I μ' (H.new (.cells e ((old ++ new).map some) true false)).bl := by
  obtain ⟨zv, k1, k2⟩ := zero_rel hzero
  obtain ⟨cap, w', j1, j2, j3, j4⟩ := append_grows (C := C) (w := w) hsT hu hz hsz hby (fun w => lenA_rel hlx hx w) (base := base) (sCap := sCap) (sLen := sLen) hnew hold hroom hbig k1
  have hzs : zv.cells.size = size := by rw [← (k2 w I μ).cells_size]; exact hzl
  obtain ⟨μ', g1, g2⟩ := grown_post (C := C) hr hf hsz ho hn h1 h2 hzs j3 j1 hl j4
  exact ⟨_, w', μ', j2, g1, g2⟩

/-- 'append' -/
theorem appendA_rel {H : Hp} {argTypes : Array TypeId} {s x : AV} {k : AV → Hp → Option R} {r : R} (h : appendA C H argTypes s x k = some r) :
    ∃ v H', k v H' = some r ∧ LogOK H H' ∧ ∀ w I μ, HR C w I μ H.bl → Fresh μ H.bl.length H'.bl.length → ∀ cs cx, VR C w I μ s cs → VR C w I μ x cx →
      ∃ cv w' I' μ', (∀ ty, (Builtin.append_ argTypes ty #[cs, cx]).run C.P w = .ok cv w') ∧ VR C w' I' μ' v cv ∧ Post C w I μ H.bl w' I' μ' H'.bl := by
  unfold appendA at h
  split at h
  · simp at h
  · rename_i sT hsT
    split at h
    · rename_i e hu
      cases hz : ofMake C argTypes with
      | true => rw [hz] at h; simp at h
      | false =>
        rw [hz] at h
        simp only [cond_false] at h
        split at h
        · rename_i size bytes sLen n hsz hby hls hlx
          split at h
          · simp [fail] at h
          · rename_i new hnew
            have hlen0 := contents_length hnew hlx
            cases hn0 : (n == 0) with
            | true =>
              rw [hn0] at h
              have hn0' : n = 0 := by simpa using hn0
              subst hn0'
              refine ⟨s, H, h, .refl _, fun w I μ hr hf cs cx hs hx => ?_⟩
              obtain ⟨vs, q1, q2, q3⟩ := contents_rel (C := C) hr hnew (fun m hm => Nat.zero_le _) hx
              have hvs : vs = [] := by
                have : new.length = 0 := by rcases hlen0 with ⟨_, _, h⟩ | h <;> omega
                have h2 := q1.length
                exact List.eq_nil_of_length_eq_zero (by omega)
              subst hvs
              refine ⟨cs, w, I, μ, fun ty => ?_, hs, .refl hr⟩
              have key : ∀ base sCap, sLen ≤ sCap → cs = .slice base sLen sCap → (Builtin.append_ argTypes ty #[cs, cx]).run C.P w = .ok cs w := by
                intro base sCap hle hc
                rw [hc]
                have := append_room (C := C) (w := w) (w' := w) (n := 0) hsT hu hz hsz (fun w => lenA_rel hlx hx w) (q3 w rfl) (base := base) (sCap := sCap) (sLen := sLen) (by omega) (fun a _ => rfl) (fun _ => rfl) ty
                simpa using this
              cases hs <;> simp [sliceLen] at hls <;> subst hls
              · rename_i L _ _ _ _
                exact key _ _ ‹_› rfl
              · exact key _ _ (Nat.le_refl _) rfl
              · exact key _ _ ‹_› rfl
            | false =>
              rw [hn0] at h
              have hnpos : n ≠ 0 := by simpa using hn0
              simp only [cond_false] at h
              cases hsl : (new.length == n * size) with
              | false => rw [hsl] at h; simp at h
              | true =>
              rw [hsl] at h
              simp only [Bool.not_true, cond_false] at h
              have hnl : new.length = n * size := by simpa using hsl
              cases hbig : decide (2 ^ 46 < (2 * (sLen + n) + 1000) * (bytes + 1)) with
              | true => rw [hbig] at h; simp at h
              | false =>
                rw [hbig] at h
                have hbig' : ¬ 2 ^ 46 < (2 * (sLen + n) + 1000) * (bytes + 1) := by simpa using hbig
                simp only [cond_false] at h
                split at h
                · simp [fail] at h
                · rename_i old hold
                  have holdl : old.length = sLen * size := by
                    rcases contents_length hold (by cases s <;> simp_all [sliceLen, lenA]) with ⟨t, e, _⟩ | h
                    · subst e; simp [sliceLen] at hls
                    · exact h
                  have hl : (old ++ new).length = (sLen + n) * size := by rw [List.length_append, holdl, hnl, Nat.add_mul]
                  -- it grows, for whatever stands for s
                  have grow : ∀ w I μ, HR C w I μ H.bl → Fresh μ H.bl.length (H.bl.length + 1) → ∀ base sCap cx, VR C w I μ s (.slice base sLen sCap) → VR C w I μ x cx → ¬ sLen + n ≤ sCap → ∀ z, C.zero e = some z → z.cells.length = size →
                      ∃ cv w' μ', (∀ ty, (Builtin.append_ argTypes ty #[.slice base sLen sCap, cx]).run C.P w = .ok cv w') ∧ VR C w' I μ' (.sl H.bl.length 0 (sLen + n) none) cv ∧
                        Post C w I μ H.bl w' I μ' (H.new (.cells e ((old ++ new).map some) true false)).bl := by
                    intro w I μ hr hf base sCap cx hs hx hroom z hz1 hz2
                    obtain ⟨co, p1, p2, p3⟩ := contents_rel (C := C) hr hold (fun m hm => by cases s <;> simp_all [sliceLen, lenA]) hs
                    obtain ⟨cn, q1, q2, q3⟩ := contents_rel (C := C) hr hnew (fun m hm => by rw [hlx] at hm; cases hm; exact Nat.le_refl _) hx
                    exact grow_run hr hf hsT hu hz hsz hby hx hlx p1 p2 p3 q1 q2 q3 hl hroom hbig' hz1 hz2
                  split at h
                  · -- nils
                    obtain ⟨z, g1, g2, g3⟩ := growA_spec h
                    simp [sliceLen] at hls
                    subst hls
                    refine ⟨_, _, g3, .new _ _, fun w I μ hr hf cs cx hs hx => ?_⟩
                    have hs' := hs
                    cases hs
                    obtain ⟨cv, w', μ', a1, a2, a3⟩ := grow w I μ hr (by simpa [Hp.new] using hf) _ _ cx hs' hx (by omega) z g1 g2
                    exact ⟨cv, w', I, μ', a1, a2, a3⟩
                  · -- a list that is full
                    rename_i cs0 len0
                    obtain ⟨z, g1, g2, g3⟩ := growA_spec h
                    simp [sliceLen] at hls
                    subst hls
                    refine ⟨_, _, g3, .new _ _, fun w I μ hr hf cs cx hs hx => ?_⟩
                    have hs' := hs
                    cases hs
                    rename_i hfull
                    have := hfull rfl
                    obtain ⟨cv, w', μ', a1, a2, a3⟩ := grow w I μ hr (by simpa [Hp.new] using hf) _ _ cx hs' hx (by omega) z g1 g2
                    exact ⟨cv, w', I, μ', a1, a2, a3⟩
                  · -- a slice whose capacity is known
                    rename_i b o len0 c
                    simp [sliceLen] at hls
                    subst hls
                    cases hroom : decide (len0 + n ≤ c) with
                    | true =>
                      rw [hroom] at h
                      simp only [cond_true] at h
                      have hroom' : len0 + n ≤ c := by simpa using hroom
                      split at h
                      · rename_i H' hst
                        obtain ⟨l1, l2⟩ := setCells_log hst
                        refine ⟨_, _, h, l1, fun w I μ hr hf cs cx hs hx => ?_⟩
                        cases hs
                        rename_i c' L hμ hle hc hno
                        have := hc c rfl; subst this
                        obtain ⟨cn, q1, q2, q3⟩ := contents_rel (C := C) hr hnew (fun m hm => by rw [hlx] at hm; cases hm; exact Nat.le_refl _) hx
                        obtain ⟨_, _, ad, w', I', e1, e2, e3⟩ := setCells_rel hr hst (.ptr μ b (o + len0 * size) L hμ) q1 q2
                        cases e1
                        refine ⟨_, w', I', μ, fun ty => append_room (C := C) (w := w) hsT hu hz hsz (fun w => lenA_rel hlx hx w) (q3 w rfl) hroom' (fun a ha => ?_) (fun hb => by simp at hb) ty, .sl μ b o (len0 + n) (some c') c' L hμ (fun _ h => by simpa using h) (fun h => by simp at h) hroom', e3⟩
                        cases ha
                        rw [addr_add, Nat.add_assoc]; exact e2
                      · simp [fail] at h
                    | false =>
                      rw [hroom] at h
                      have hroom' : ¬ len0 + n ≤ c := by simpa using hroom
                      obtain ⟨z, g1, g2, g3⟩ := growA_spec h
                      refine ⟨_, _, g3, .new _ _, fun w I μ hr hf cs cx hs hx => ?_⟩
                      have hs' := hs
                      cases hs
                      rename_i hc _
                      have := hc c rfl
                      obtain ⟨cv, w', μ', a1, a2, a3⟩ := grow w I μ hr (by simpa [Hp.new] using hf) _ _ cx hs' hx (by omega) z g1 g2
                      exact ⟨cv, w', I, μ', a1, a2, a3⟩
                  · -- a slice whose capacity is not known
                    rename_i b o len0
                    simp [sliceLen] at hls
                    subst hls
                    split at h
                    · rename_i e' cs0 hblk
                      cases hck : (e' == e && cs0.length == o + len0 * size) with
                      | false => rw [hck] at h; simp [fail] at h
                      | true =>
                      rw [hck] at h
                      simp only [Bool.and_eq_true, beq_iff_eq] at hck
                      obtain ⟨rfl, hcl⟩ := hck
                      obtain ⟨z, g1, g2, g3⟩ := growA_spec h
                      refine ⟨_, _, g3, (LogOK.put _ _ _).trans (.new _ _), fun w I μ hr hf cs cx hs hx => ?_⟩
                      have hlen : (H.put b .dead 0 whole).bl.length = H.bl.length := by simp [Hp.put, length_setAt]
                      have hf1 : Fresh μ H.bl.length (H.bl.length + 1) := by simpa [Hp.new, hlen] using hf
                      obtain ⟨co, p1, p2, p3⟩ := contents_rel (C := C) hr hold (fun m hm => by simp [lenA] at hm; omega) hs
                      obtain ⟨cn, q1, q2, q3⟩ := contents_rel (C := C) hr hnew (fun m hm => by rw [hlx] at hm; cases hm; exact Nat.le_refl _) hx
                      have hs' := hs
                      cases hs
                      rename_i c' L hμ hle hc hno
                      have hno := hno rfl
                      obtain ⟨L1, m1, c, fr, m2, m3, m4, m5, m6, m7⟩ := hr.blk b _ hblk rfl
                      rw [hμ] at m1; cases m1
                      have := m7.1 rfl; subst this
                      have hesz : L.esz = size := by rw [hsz] at m4; exact (Option.some.inj m4).symm
                      by_cases hroom : len0 + n ≤ c'
                      · have hmul : (len0 + n) * size ≤ c' * size := Nat.mul_le_mul_right _ hroom
                        have hadd : (len0 + n) * size = len0 * size + n * size := Nat.add_mul _ _ _
                        have hcn := q1.length
                        rw [hesz] at hno
                        have hbd : ∀ j, j < cn.length → (L.base + o + len0 * size) + 0 + j < c.size := fun j hj => by omega
                        have honev : ∀ v ∈ cn, oneV v = true := fun v hv => by
                          obtain ⟨i, hi⟩ := List.getElem?_of_mem hv
                          have hil : i < cn.length := (List.getElem?_eq_some_iff.1 hi).1
                          obtain ⟨a, ha⟩ : ∃ a, new[i]? = some a := ⟨new[i]'(by omega), by simp⟩
                          obtain ⟨u, hu, hr⟩ := q1.get ha
                          rw [hi] at hu; cases hu
                          rw [hr.one]
                          exact (List.all_eq_true.1 q2) a (List.mem_of_getElem? ha)
                        obtain ⟨w', k1, k2, k3⟩ := run_storeCells (P := C.P) cn 0 w c m2 hbd honev
                        have hnI : ¬ I L.cb := hr.mt b _ L hblk rfl hμ
                        have hw : ∀ cb, I cb → w'.heap[cb]? = w.heap[cb]? := fun cb hi => by
                          have hne : L.cb ≠ cb := fun e => hnI (by rw [e]; exact hi)
                          rw [k3, Array.getElem?_setIfInBounds_ne hne]
                        let L' : Loc := ⟨L.cb, L.base + o, L.total, L.esz⟩
                        have hg : ∀ b L1, μ b = some L1 → (μ.upd H.bl.length L') b = some L1 := fun b L1 hb => by
                          unfold Mu.upd
                          split
                          · rename_i e; subst e; rw [hf1 _ (Nat.le_refl _) (by omega)] at hb; exact absurd hb (by simp)
                          · exact hb
                        refine ⟨_, w', I, μ.upd H.bl.length L', fun ty => append_room (C := C) (w := w) hsT hu hz hsz (fun w => lenA_rel hlx hx w) (q3 w rfl) hroom (fun a ha => ?_) (fun hb => by simp at hb) ty, ?_, ?_⟩
                        · cases ha
                          rw [addr_add]; exact k1
                        · have := VR.sl (C := C) (w := w') (I := I) (μ.upd H.bl.length L') (H.put b .dead 0 whole).bl.length 0 (len0 + n) none c' L' (by rw [hlen]; simp [Mu.upd]) (fun c hc => by simp at hc) (fun _ => by simp only [L']; rw [hesz]; omega) hroom
                          simpa [L'] using this
                        · refine post_move (L' := L') hr hf1 k2 hblk rfl hμ k3 rfl rfl ⟨writeC c (L.base + o + len0 * size + 0) cn, (0, 0), by rw [k3]; exact get_set_same m2, by rw [size_writeC]; exact m3, m4, ?_, fun i a hi => ?_, fun _ => rfl, fun h => by simp at h⟩
                          · rw [size_writeC, List.length_map, hl]; simp only [L']; omega
                          · rw [get_writeC _ _ _ _ hbd]
                            have hi' : (old ++ new)[i]? = some a := by
                              rw [List.getElem?_map] at hi
                              cases h2 : (old ++ new)[i]? with
                              | none => rw [h2] at hi; simp at hi
                              | some b => rw [h2] at hi; simp at hi; rw [hi]
                            by_cases hi2 : i < old.length
                            · rw [List.getElem?_append_left hi2] at hi'
                              rw [if_neg (by simp only [L']; omega)]
                              have hcs : cs0[o + i]? = some (some a) := by
                                unfold contents at hold
                                simp only [hblk] at hold
                                split at hold
                                · rename_i l hcut
                                  obtain ⟨c1, c2⟩ := cut_spec hcut
                                  have c3 := allSome_get hold
                                  have : l[i]? = some (some a) := by rw [c3, List.getElem?_map, hi']; rfl
                                  rw [c1, List.getElem?_take] at this
                                  split at this
                                  · rw [List.getElem?_drop] at this; exact this
                                  · simp at this
                                · simp at hold
                              obtain ⟨r1, v, r2, r3⟩ := m6 _ _ hcs
                              refine ⟨r1, v, ?_, r3.mono (fun _ h => h) hw hg⟩
                              simp only [L']; rw [Nat.add_assoc]; exact r2
                            · rw [List.getElem?_append_right (by omega)] at hi'
                              have hin : i - old.length < new.length := (List.getElem?_eq_some_iff.1 hi').1
                              rw [if_pos (by simp only [L']; omega)]
                              obtain ⟨v, r2, r3⟩ := q1.get hi'
                              refine ⟨(List.all_eq_true.1 q2) a (List.mem_of_getElem? hi'), v, ?_, r3.mono (fun _ h => h) hw hg⟩
                              have hix : L'.base + i - (L.base + o + len0 * size + 0) = i - old.length := by simp only [L']; omega
                              rw [hix]; exact r2
                      · have hset : w.heap = w.heap.setIfInBounds L.cb (.cells c e' (0, 0)) := (set_same m2).symm
                        have hdead : Post C w I μ H.bl w (fun cb => I cb ∨ (false = true ∧ cb = L.cb)) μ (setAt H.bl b .dead) :=
                          post_set hr (.refl w) hblk rfl hμ hset false (fun h => by simp [Blk.live] at h) (fun h => by simp [Blk.live] at h)
                        have hI : ∀ cb, I cb → (I cb ∨ (false = true ∧ cb = L.cb)) := fun _ h => .inl h
                        obtain ⟨cv, w', μ', a1, a2, a3⟩ := grow_run (H := H.put b .dead 0 whole) hdead.hr (by rw [hlen]; exact hf1) hsT hu hz hsz hby (hx.mono hI (fun _ _ => rfl) (fun _ _ h => h)) hlx
                          (p1.mono hI (fun _ _ => rfl) (fun _ _ h => h)) p2 p3 (q1.mono hI (fun _ _ => rfl) (fun _ _ h => h)) q2 q3 hl hroom hbig' g1 g2
                        exact ⟨cv, w', _, μ', a1, a2, hdead.trans a3⟩
                    · simp [fail] at h
                  · simp [fail] at h
        · simp at h
    · simp at h

end
end Go.Ev

/- Single operations: values, addresses, loads and stores. -/
namespace Go.Ev
open Go

/-- what is known of the operands is so -/
def EvR (C : Ctx) (w : World) (I : Nat → Prop) (μ : Mu) (st : St) (ρ : Operand → Value) : Prop := ∀ x a, st.ev x = some a → VR C w I μ a (ρ x)

/-- what an operation hands on -/
def NextIs (nx : Next) (cv : Value) : Prop := nx = .value cv ∨ (nx = .skip ∧ cv = .tuple #[])

def OpSim (C : Ctx) (st : St) (o : Oper) : OR → Prop
  | .val v H' => LogOK st.heap H' ∧ ∀ w I μ ρ, HR C w I μ st.heap.bl → Fresh μ st.heap.bl.length H'.bl.length → EvR C w I μ st ρ →
      ∃ nx cv w' I' μ', (execOp ρ o).run C.P w = .ok nx w' ∧ NextIs nx cv ∧ VR C w' I' μ' v cv ∧ Post C w I μ st.heap.bl w' I' μ' H'.bl
  | .call f args => ∀ w I μ ρ, EvR C w I μ st ρ → ∃ vargs, (execOp ρ o).run C.P w = (callFunc f vargs.toArray).run C.P w ∧ VRs C w I μ args vargs
  | .yield b args => ∀ w I μ ρ, EvR C w I μ st ρ → ∃ L vargs, μ b = some L ∧ (execOp ρ o).run C.P w = (Instr.yield L.cb vargs.toArray).run C.P w ∧ VRs C w I μ args vargs
  | .defer f args => ∀ w I μ ρ, EvR C w I μ st ρ → ∃ d : Deferred, ∃ v1 v2 a1 a2, (execOp ρ o).run C.P w = .ok (.defer d) w ∧ d = { target := .fn (.func f) v2.toArray, args := v1.toArray } ∧ args = a1 ++ a2 ∧ VRs C w I μ a1 v1 ∧ VRs C w I μ a2 v2
  | .recover => ∀ w ρ, (execOp ρ o).run C.P w = .ok .recover w
  | .panic v => ∀ w I μ ρ, EvR C w I μ st ρ → ∃ cv, (execOp ρ o).run C.P w = .halt (.panic cv) w ∧ VR C w I μ v cv

section
variable {C : Ctx} {st : St} {o : Oper} {R : Type} {k : OR → Option R} {r : R}

theorem sim_val {v : AV} {H' : Hp} (hl : LogOK st.heap H') (h : ∀ w I μ ρ, HR C w I μ st.heap.bl → Fresh μ st.heap.bl.length H'.bl.length → EvR C w I μ st ρ →
      ∃ nx cv w' I' μ', (execOp ρ o).run C.P w = .ok nx w' ∧ NextIs nx cv ∧ VR C w' I' μ' v cv ∧ Post C w I μ st.heap.bl w' I' μ' H'.bl) : OpSim C st o (.val v H') := ⟨hl, h⟩

theorem sim_pure {v : AV} (h : ∀ w I μ ρ, HR C w I μ st.heap.bl → EvR C w I μ st ρ → ∃ cv, (execOp ρ o).run C.P w = .ok (.value cv) w ∧ VR C w I μ v cv) : OpSim C st o (.val v st.heap) := by
  refine ⟨.refl _, fun w I μ ρ hr hf he => ?_⟩
  obtain ⟨cv, h1, h2⟩ := h w I μ ρ hr he
  exact ⟨_, cv, w, I, μ, h1, .inl rfl, h2, .refl hr⟩

theorem op_move {x : Operand} (ho : o.op = .move x ∨ o.op = .assign x) (h : opA C st o k = some r) : ∃ res, OpSim C st o res ∧ k res = some r := by
  have h' : (match st.ev x with | some v => k (.val v st.heap) | none => fail "move") = some r := by
    rcases ho with ho | ho <;> (rw [opA_eq] at h; unfold opA0 at h; rw [ho] at h; exact h)
  split at h'
  · rename_i v hv
    refine ⟨_, sim_pure fun w I μ ρ hr he => ⟨ρ x, ?_, he x v hv⟩, h'⟩
    rcases ho with ho | ho <;> simp [execOp, ho]
  · simp [fail] at h'

theorem op_pick {c a b : Operand} (ho : o.op = .pick c a b) (h : opA C st o k = some r) : ∃ res, OpSim C st o res ∧ k res = some r := by
  rw [opA_eq] at h; unfold opA0 at h
  simp only [ho] at h
  split at h
  · rename_i t hc
    cases t with
    | true =>
      simp only [cond_true] at h
      split at h
      · rename_i v hv
        refine ⟨_, sim_pure fun w I μ ρ hr he => ⟨ρ a, ?_, he a v hv⟩, h⟩
        have := he c _ hc
        generalize hρ : ρ c = u at this
        cases this
        simp [execOp, ho, hρ, asBool]
      · simp at h
    | false =>
      simp only [cond_false] at h
      split at h
      · rename_i v hv
        refine ⟨_, sim_pure fun w I μ ρ hr he => ⟨ρ b, ?_, he b v hv⟩, h⟩
        have := he c _ hc
        generalize hρ : ρ c = u at this
        cases this
        simp [execOp, ho, hρ, asBool]
      · simp at h
  · simp [fail] at h

theorem VR.cells_rel {w : World} {I : Nat → Prop} {μ : Mu} {v : AV} {cv : Value} (h : VR C w I μ v cv) : VRs C w I μ v.cells cv.cells.toList := by
  have one : ∀ (a : AV) (u : Value), VR C w I μ a u → VRs C w I μ [a] [u] := fun a u h => .cons _ _ _ _ _ h (.nil _)
  have h0 := h
  cases h <;> first
    | exact one _ _ h0
    | (rename_i h1 _; simpa [AV.cells, Value.cells] using h1)
    | (rename_i h1; simpa [AV.cells, Value.cells] using h1)

theorem zero_has {t : TypeId} {z : AV} (h : C.zero t = some z) : ∃ n, C.size t = some n := by
  unfold Ctx.zero at h
  unfold Ctx.size
  split at h
  · exact ⟨_, rfl⟩
  · simp at h

/-- a new variable -/
theorem newVar_rel {w : World} {I : Nat → Prop} {μ : Mu} {H : Hp} (hr : HR C w I μ H.bl) (hf : Fresh μ H.bl.length (H.bl.length + 1)) {e : TypeId} {n : Nat} (hn : C.size e = some n) {cs : List AV} {vs : Array Value}
    (h : VRs C w I μ cs vs.toList) (hone : cs.all AV.oneCell = true) :
    ∃ w' μ', (newRow e vs).run C.P w = .ok ⟨w.heap.size, 0, none⟩ w' ∧ VR C w' I μ' (.ptr H.bl.length 0) (.pointer (some ⟨w.heap.size, 0, none⟩)) ∧
      (∀ len cap, len ≤ cap → VR C w' I μ' (.sl H.bl.length 0 len (some cap)) (.slice (some ⟨w.heap.size, 0, none⟩) len cap)) ∧
      Post C w I μ H.bl w' I μ' (H.new (.cells e (cs.map some) false false)).bl := by
  let L : Loc := ⟨w.heap.size, 0, vs.size, n⟩
  have hlc := h.length
  simp only [Array.length_toList] at hlc
  refine ⟨w.alloc (.cells vs e), μ.upd H.bl.length L, rfl, ?_, fun len cap hle => ?_, ?_⟩
  · have := VR.ptr (C := C) (w := w.alloc (.cells vs e)) (I := I) (μ.upd H.bl.length L) H.bl.length 0 L (by simp [Mu.upd])
    simpa [L] using this
  · have := VR.sl (C := C) (w := w.alloc (.cells vs e)) (I := I) (μ.upd H.bl.length L) H.bl.length 0 len (some cap) cap L (by simp [Mu.upd]) (fun c hc => by simpa using hc) (fun hc => by simp at hc) hle
    simpa [L] using this
  · have hh : (w.alloc (.cells vs e)).heap = w.heap.push (.cells vs e) := rfl
    refine post_new (w' := w.alloc (.cells vs e)) hr hf ⟨rfl, rfl, rfl⟩ hh (L := L) rfl rfl ⟨vs, (0, 0), ?_, rfl, hn, ?_, fun i a hi => ?_, fun _ => rfl, fun _ => rfl⟩
    · rw [hh, Array.getElem?_push, if_pos rfl]
    · simp [L]; omega
    · have hw : ∀ cb, I cb → (w.alloc (.cells vs e)).heap[cb]? = w.heap[cb]? := fun cb hi => by rw [hh, Array.getElem?_push, if_neg (by have := hr.lt cb hi; omega)]
      have hg : ∀ b L', μ b = some L' → (μ.upd H.bl.length L) b = some L' := fun b L' hb => by
        unfold Mu.upd
        split
        · rename_i e; subst e; rw [hf _ (Nat.le_refl _) (by omega)] at hb; exact absurd hb (by simp)
        · exact hb
      obtain ⟨q1, v, q2, q3⟩ := h.getcell hone hi
      refine ⟨q1, v, ?_, q3.mono (fun _ h => h) hw hg⟩
      simpa [L] using q2

theorem op_load {t : TypeId} {a : Operand} (ho : o.op = .load t a) (h : opA C st o k = some r) : ∃ res, OpSim C st o res ∧ k res = some r := by
  rw [opA_eq] at h; unfold opA0 at h
  simp only [ho] at h
  split at h
  · rename_i p hp
    split at h
    · rename_i v hv
      refine ⟨_, sim_pure fun w I μ ρ hr he => ?_, h⟩
      obtain ⟨ad, cv, h1, h2, h3⟩ := loadT_rel hr hv (he a p hp)
      refine ⟨cv, ?_, h3⟩
      simp [execOp, ho, Instr.loadAt, h1, Instr.sureAddr, h2]
    · simp [fail] at h
  · simp [fail] at h

theorem op_alloc {e : TypeId} (ho : o.op = .alloc e) (h : opA C st o k = some r) : ∃ res, OpSim C st o res ∧ k res = some r := by
  rw [opA_eq] at h; unfold opA0 at h
  simp only [ho] at h
  split at h
  · rename_i z hz
    cases hb : z.cells.all AV.oneCell with
    | false => rw [hb] at h; simp at h
    | true =>
      rw [hb] at h
      refine ⟨_, ?_, h⟩
      refine sim_val (.new _ _) fun w I μ ρ hr hf he => ?_
      obtain ⟨n, hn⟩ := zero_has hz
      obtain ⟨zv, h1, h2⟩ := zero_rel hz
      obtain ⟨w', μ', k1, k2, _, k3⟩ := newVar_rel hr (by simpa [Hp.new] using hf) hn (h2 w I μ).cells_rel hb
      refine ⟨_, _, w', I, μ', ?_, .inl rfl, k2, k3⟩
      simp [execOp, ho, Instr.alloc, h1, newVar, k1]
  · simp [fail] at h

theorem op_box {e : TypeId} {x : Operand} (ho : o.op = .box e x) (h : opA C st o k = some r) : ∃ res, OpSim C st o res ∧ k res = some r := by
  rw [opA_eq] at h; unfold opA0 at h
  simp only [ho] at h
  split at h
  · rename_i v n hv hn
    cases hb : v.cells.all AV.oneCell with
    | false => rw [hb] at h; simp [fail] at h
    | true =>
      rw [hb] at h
      refine ⟨_, ?_, h⟩
      refine sim_val (.new _ _) fun w I μ ρ hr hf he => ?_
      obtain ⟨w', μ', k1, k2, _, k3⟩ := newVar_rel hr (by simpa [Hp.new] using hf) hn (he x v hv).cells_rel hb
      refine ⟨_, _, w', I, μ', ?_, .inl rfl, k2, k3⟩
      simp [execOp, ho, Instr.box, newVar, k1]
  · simp [fail] at h

theorem op_store {t : TypeId} {a x : Operand} (ho : o.op = .store t a x) (h : opA C st o k = some r) : ∃ res, OpSim C st o res ∧ k res = some r := by
  rw [opA_eq] at h; unfold opA0 at h
  simp only [ho] at h
  split at h
  · rename_i p v n hp hv hn
    cases hb : (v.cells.all AV.oneCell && v.cells.length == n) with
    | false => rw [hb] at h; simp [fail] at h
    | true =>
      rw [hb] at h
      simp only [Bool.and_eq_true, beq_iff_eq] at hb
      obtain ⟨hb1, hb2⟩ := hb
      simp only [cond_true] at h
      split at h
      · rename_i H' hst
        refine ⟨_, ?_, h⟩
        refine sim_val (setCells_log hst).1 fun w I μ ρ hr hf he => ?_
        obtain ⟨_, _, ad, w', I', e1, e2, e3⟩ := setCells_rel hr hst (he a p hp) (he x v hv).cells_rel hb1
        refine ⟨.skip, _, w', I', μ, ?_, .inr ⟨rfl, rfl⟩, .tuple _ _ _ (.nil _), e3⟩
        have hsz : (ρ x).cells.size = n := by rw [← hb2, (he x v hv).cells_size]
        simp [execOp, ho, Instr.storeAt, e1, Instr.sureAddr, storeVar, run_sizeOf' hn, hsz, e2]
      · simp [fail] at h
  · simp [fail] at h

theorem op_nilCheck {x : Operand} (ho : o.op = .nilCheck x) (h : opA C st o k = some r) : ∃ res, OpSim C st o res ∧ k res = some r := by
  rw [opA_eq] at h; unfold opA0 at h
  simp only [ho] at h
  have key : ∀ a, st.ev x = some a → (∀ w I μ cv, VR C w I μ a cv → (match cv with | .pointer none | .nilIface | .nilFunc => False | .func (.method _) _ _ => False | _ => True)) → k (.val a st.heap) = some r →
      ∃ res, OpSim C st o res ∧ k res = some r := fun a ha hn h => by
    refine ⟨_, sim_pure fun w I μ ρ hr he => ⟨ρ x, ?_, he x a ha⟩, h⟩
    have h1 := hn w I μ _ (he x a ha)
    simp only [execOp, ho]
    generalize ρ x = u at h1
    split <;> simp_all
  split at h
  · rename_i b p hp; exact key _ hp (fun w I μ cv hv => by cases hv; trivial) h
  · rename_i b p hp; exact key _ hp (fun w I μ cv hv => by cases hv; trivial) h
  · rename_i b p hp; exact key _ hp (fun w I μ cv hv => by cases hv; trivial) h
  · rename_i f a b hp; exact key _ hp (fun w I μ cv hv => by cases hv; trivial) h
  · simp [fail] at h

theorem op_bin {op : BinOp} {t : TypeId} {x y : Operand} {i : _} (ho : o.op = .binOp op t x y i) (h : opA C st o k = some r) : ∃ res, OpSim C st o res ∧ k res = some r := by
  rw [opA_eq] at h; unfold opA0 at h
  simp only [ho] at h
  split at h
  · rename_i a b ha hb
    cases hg : guardA C op t x y a b with
    | false => rw [hg] at h; simp [fail] at h
    | true =>
      rw [hg] at h
      simp only [cond_true] at h
      obtain ⟨v, h1, h2⟩ := binA_rel h
      refine ⟨_, sim_pure fun w I μ ρ hr he => ?_, h1⟩
      obtain ⟨cv, h3, h4⟩ := h2 w I μ _ _ (he x a ha) (he y b hb)
      refine ⟨cv, ?_, h4⟩
      have h5 := guardOk_rel (C := C) hg (he x a ha) (he y b hb) w
      simp [execOp, ho, h5, h3]
  · simp [fail] at h

theorem op_un {op : UnOp} {t : _} {x : Operand} (ho : o.op = .unOp op t x) (h : opA C st o k = some r) : ∃ res, OpSim C st o res ∧ k res = some r := by
  rw [opA_eq] at h; unfold opA0 at h
  simp only [ho] at h
  split at h
  · rename_i kd n hx
    refine ⟨_, sim_pure fun w I μ ρ hr he => ?_, h⟩
    have := he x _ hx
    generalize hρ : ρ x = u at this
    cases this
    exact ⟨_, by simp [execOp, ho, hρ, Op.unary, Op.intArith], .int _ _ _⟩
  · rename_i kd n hx
    refine ⟨_, sim_pure fun w I μ ρ hr he => ?_, h⟩
    have := he x _ hx
    generalize hρ : ρ x = u at this
    cases this
    refine ⟨.int kd (kd.wrap (BitVec.ofInt kd.bits (bif kd.signed then -1 else kd.max) ^^^ BitVec.ofInt kd.bits n).toNat), ?_, .int _ _ _⟩
    simp [execOp, ho, hρ, Op.unary, Op.intBits]
    cases kd.signed <;> rfl
  · rename_i b hx
    refine ⟨_, sim_pure fun w I μ ρ hr he => ?_, h⟩
    have := he x _ hx
    generalize hρ : ρ x = u at this
    cases this
    exact ⟨_, by simp [execOp, ho, hρ, Op.unary], .bool _ _⟩
  · simp [fail] at h

end
end Go.Ev

/- Single operations: fields, elements, interfaces, functions, slices. -/
namespace Go.Ev
open Go

section
variable {C : Ctx} {st : St} {o : Oper} {R : Type} {k : OR → Option R} {r : R}

theorem op_makeInterface {t : TypeId} {x : Operand} (ho : o.op = .makeInterface t x) (h : opA C st o k = some r) : ∃ res, OpSim C st o res ∧ k res = some r := by
  rw [opA_eq] at h; unfold opA0 at h
  simp only [ho] at h
  split at h
  · simp at h
  · rename_i d v hn hd hv
    refine ⟨_, sim_pure fun w I μ ρ hr he => ⟨.iface t (ρ x), ?_, .iface _ _ _ _ (he x v hv)⟩, h⟩
    have := run_underlying' (w := w) hd
    simp only [execOp, ho, Instr.makeInterface, Sem.run_bind, this, Result.andThen_ok]
    cases d <;> first
      | exact absurd rfl (hn _)
      | rfl
  · simp [fail] at h

theorem evs_rel {l : List Operand} {as : List AV} {w : World} {I : Nat → Prop} {μ : Mu} {ρ : Operand → Value} (he : EvR C w I μ st ρ) (h : st.evs l = some as) : VRs C w I μ as (l.map ρ) := by
  unfold St.evs at h
  induction l generalizing as with
  | nil => simp [mapO] at h; subst h; exact .nil _
  | cons x l ih =>
    simp only [mapO] at h
    split at h
    · simp at h
    · rename_i a ha
      split at h
      · simp at h
      · rename_i as' has
        have := Option.some.inj h; subst this
        exact .cons _ _ _ _ _ (he x a ha) (ih has)

theorem op_makeFunc {f : Fn} {first cap : Array Operand} (ho : o.op = .makeFunc f first cap) (h : opA C st o k = some r) : ∃ res, OpSim C st o res ∧ k res = some r := by
  rw [opA_eq] at h; unfold opA0 at h
  simp only [ho] at h
  cases f with
  | func f =>
    simp only at h
    split at h
    · rename_i a b ha hb
      refine ⟨_, sim_pure fun w I μ ρ hr he => ⟨.func (.func f) (first.map ρ) (cap.map ρ), ?_, ?_⟩, h⟩
      · simp [execOp, ho, Instr.makeFunc]
      · have := VR.func (C := C) (w := w) (I := I) μ f a b _ _ (evs_rel he ha) (evs_rel he hb)
        rwa [← Array.toList_map, ← Array.toList_map, Array.toArray_toList, Array.toArray_toList] at this
    · simp [fail] at h
  | _ => exact absurd (show (none : Option R) = some r from h) (by simp)

theorem op_makeMap {t : TypeId} (ho : o.op = .makeMap t none) (h : opA C st o k = some r) : ∃ res, OpSim C st o res ∧ k res = some r := by
  rw [opA_eq] at h; unfold opA0 at h
  simp only [ho] at h
  refine ⟨_, ?_, h⟩
  refine sim_val (.new _ _) fun w I μ ρ hr hf he => ?_
  let L : Loc := ⟨w.heap.size, 0, 0, 0⟩
  have hh : (w.alloc (.map #[] 0)).heap = w.heap.push (.map #[] 0) := rfl
  refine ⟨_, .map (some w.heap.size), w.alloc (.map #[] 0), I, μ.upd st.heap.bl.length L, ?_, .inl rfl, ?_, ?_⟩
  · simp only [execOp, ho, Instr.makeMap, newObj, Option.map_none]; rfl
  · exact .map _ _ L (by simp [Mu.upd])
  · refine post_new (w' := w.alloc (.map #[] 0)) hr (by simpa [Hp.new] using hf) ⟨rfl, rfl, rfl⟩ hh (L := L) rfl rfl ⟨#[], 0, ?_, .nil _, .nil _⟩
    rw [hh, Array.getElem?_push, if_pos rfl]

theorem optEv_rel {x : Option Operand} {a : Option AV} {w : World} {I : Nat → Prop} {μ : Mu} {ρ : Operand → Value} (he : EvR C w I μ st ρ) (h : optEv st x = some a) : OV C w I μ a (x.map ρ) := by
  unfold optEv at h
  cases x with
  | none => cases Option.some.inj h; trivial
  | some x =>
    simp only at h
    split at h
    · rename_i v hv; cases Option.some.inj h; exact he x v hv
    · simp at h

theorem op_slice {t : TypeId} {x : Operand} {lo hi mx : Option Operand} (ho : o.op = .slice t x lo hi mx) (h : opA C st o k = some r) : ∃ res, OpSim C st o res ∧ k res = some r := by
  rw [opA_eq] at h; unfold opA0 at h
  simp only [ho] at h
  split at h
  · rename_i v l hh m hv hl hhi hm
    obtain ⟨v', h1, h2⟩ := sliceA_rel h
    refine ⟨_, sim_pure fun w I μ ρ hr he => ?_, h1⟩
    obtain ⟨cv, h3, h4⟩ := h2 w I μ _ hr _ _ _ _ (he x v hv) (optEv_rel he hl) (optEv_rel he hhi) (optEv_rel he hm)
    refine ⟨cv, ?_, h4⟩
    simp [execOp, ho, h3]
  · simp [fail] at h

theorem addOff_rel {a b : AV} {n : Nat} (h : addOff a n = some b) {w : World} {I : Nat → Prop} {μ : Mu} {v : Value} (hv : VR C w I μ a v) : ∃ ad, v = .pointer (some ad) ∧ VR C w I μ b (.pointer (some (ad.add n))) := by
  unfold addOff at h
  split at h <;> (try simp at h) <;> subst h <;> cases hv
  · rename_i L hL
    exact ⟨_, rfl, by rw [addr_add, Nat.add_assoc]; exact .ptr _ _ _ _ hL⟩
  · exact ⟨_, rfl, by rw [addr_add]; exact .gptr _ _ _⟩
  · rename_i h1 h2 h3 h4
    exact ⟨_, rfl, by rw [addr_add, Nat.add_assoc]; exact .lptr _ _ _ _ _ _ h1 h2 h3 h4⟩

theorem op_fieldAddr {s : TypeId} {x : Operand} {f : Nat} (ho : o.op = .fieldAddr s x f) (h : opA C st o k = some r) : ∃ res, OpSim C st o res ∧ k res = some r := by
  rw [opA_eq] at h; unfold opA0 at h
  simp only [ho] at h
  split at h
  · rename_i fields p hs hp
    split at h
    · rename_i fd hfd
      split at h
      · rename_i n hn
        split at h
        · rename_i q hq
          refine ⟨_, sim_pure fun w I μ ρ hr he => ?_, h⟩
          obtain ⟨ad, h1, h2⟩ := addOff_rel hq (he x p hp)
          refine ⟨_, ?_, h2⟩
          simp [execOp, ho, Instr.fieldAt, run_underlying' hs, hfd, h1, Instr.sureAddr, fieldPlace, run_sizeOf' hn]
        · simp [fail] at h
      · simp at h
    · simp at h
  · simp [fail] at h

theorem op_field {t : TypeId} {x : Operand} {f : Nat} (ho : o.op = .field t x f) (h : opA C st o k = some r) : ∃ res, OpSim C st o res ∧ k res = some r := by
  rw [opA_eq] at h; unfold opA0 at h
  simp only [ho] at h
  split at h
  · rename_i fields cs hs hp
    split at h
    · rename_i fd hfd
      split at h
      · rename_i v hv
        refine ⟨_, sim_pure fun w I μ ρ hr he => ?_, h⟩
        have := he x _ hp
        generalize hρ : ρ x = u at this
        cases this with
        | agg _ _ vs q1 q2 =>
          obtain ⟨cv, h1, h2⟩ := partA_rel q1 q2 hv
          refine ⟨cv, ?_, h2⟩
          simp [execOp, ho, Instr.field, run_underlying' hs, hfd, hρ, asAgg, h1]
      · simp at h
    · simp at h
  · simp [fail] at h

theorem op_indexAddr {t : TypeId} {x i : Operand} (ho : o.op = .indexAddr t x i) (h : opA C st o k = some r) : ∃ res, OpSim C st o res ∧ k res = some r := by
  rw [opA_eq] at h; unfold opA0 at h
  simp only [ho] at h
  split at h
  · rename_i len e p kd n ht hp hn
    split at h
    · rename_i size hsz
      cases hb : (decide (0 ≤ n) && decide (n < (len : Int))) with
      | false => rw [hb] at h; simp [fail] at h
      | true =>
        rw [hb] at h
        simp only [Bool.and_eq_true, decide_eq_true_eq] at hb
        simp only [cond_true] at h
        split at h
        · rename_i q hq
          refine ⟨_, sim_pure fun w I μ ρ hr he => ?_, h⟩
          obtain ⟨ad, h1, h2⟩ := addOff_rel hq (he x p hp)
          have := he i _ hn
          generalize hρ : ρ i = u at this
          cases this
          refine ⟨_, ?_, h2⟩
          simp [execOp, ho, Instr.indexAt, hρ, asIntOf, run_underlying' ht, h1, Instr.sureAddr, run_sizeOf' hsz, hb]
        · simp [fail] at h
    · simp at h
  · rename_i e b p len cap kd n ht hp hn
    split at h
    · rename_i size hsz
      cases hb : (decide (0 ≤ n) && decide (n < (len : Int))) with
      | false => rw [hb] at h; simp [fail] at h
      | true =>
        rw [hb] at h
        simp only [Bool.and_eq_true, decide_eq_true_eq] at hb
        simp only [cond_true] at h
        refine ⟨_, sim_pure fun w I μ ρ hr he => ?_, h⟩
        have h1 := he x _ hp
        generalize hρx : ρ x = ux at h1
        cases h1
        rename_i L hμ _ _ _
        have := he i _ hn
        generalize hρ : ρ i = u at this
        cases this
        refine ⟨_, ?_, .ptr _ _ _ L ‹_›⟩
        simp [execOp, ho, Instr.indexAt, hρ, hρx, asIntOf, run_underlying' ht, run_sizeOf' hsz, hb, addr_add, Nat.add_assoc]
    · simp at h
  · rename_i e cs len full kd n ht hp hn
    split at h
    · rename_i size hsz
      cases hb : (decide (0 ≤ n) && decide (n < (len : Int))) with
      | false => rw [hb] at h; simp [fail] at h
      | true =>
        rw [hb] at h
        simp only [Bool.and_eq_true, decide_eq_true_eq] at hb
        simp only [cond_true] at h
        refine ⟨_, sim_pure fun w I μ ρ hr he => ?_, h⟩
        have h1 := he x _ hp
        generalize hρx : ρ x = ux at h1
        cases h1 with
        | list _ _ vs cb off _ c' _ q1 q2 q3 q4 q5 q6 =>
          have := he i _ hn
          generalize hρ : ρ i = u at this
          cases this
          refine ⟨_, ?_, .lptr _ _ _ cb off _ q1 q2 q3 q4⟩
          simp [execOp, ho, Instr.indexAt, hρ, hρx, asIntOf, run_underlying' ht, run_sizeOf' hsz, hb, addr_add]
    · simp at h
  · simp [fail] at h

theorem op_index {t : TypeId} {x i : Operand} (ho : o.op = .index t x i) (h : opA C st o k = some r) : ∃ res, OpSim C st o res ∧ k res = some r := by
  rw [opA_eq] at h; unfold opA0 at h
  simp only [ho] at h
  split at h
  · rename_i len e cs kd n ht hp hn
    split at h
    · rename_i size hsz
      cases hb : (decide (0 ≤ n) && decide (n < (len : Int))) with
      | false => rw [hb] at h; simp [fail] at h
      | true =>
        rw [hb] at h
        simp only [Bool.and_eq_true, decide_eq_true_eq] at hb
        simp only [cond_true] at h
        split at h
        · rename_i v hv
          refine ⟨_, sim_pure fun w I μ ρ hr he => ?_, h⟩
          have h1 := he x _ hp
          generalize hρx : ρ x = ux at h1
          cases h1 with
          | agg _ _ vs q1 q2 =>
            obtain ⟨cv, h1, h2⟩ := partA_rel q1 q2 hv
            have := he i _ hn
            generalize hρ : ρ i = u at this
            cases this
            refine ⟨cv, ?_, h2⟩
            simp [execOp, ho, Instr.index, hρ, hρx, asIntOf, run_underlying' ht, run_sizeOf' hsz, hb, h1]
        · simp at h
    · simp at h
  · rename_i s kd n ht hp hn
    cases hb : decide (0 ≤ n) with
    | false => rw [hb] at h; simp [fail] at h
    | true =>
      rw [hb] at h
      simp only [decide_eq_true_eq] at hb
      simp only [cond_true] at h
      split at h
      · rename_i b hbn
        refine ⟨_, sim_pure fun w I μ ρ hr he => ?_, h⟩
        have h1 := he x _ hp
        generalize hρx : ρ x = ux at h1
        generalize hs : AV.str s = a at h1
        cases h1 <;> first | (simp at hs; done) | skip
        rename_i bs
        have hs' := AV.str.inj hs
        have := he i _ hn
        generalize hρ : ρ i = u at this
        cases this
        refine ⟨_, ?_, .int _ _ _⟩
        have hbs : bs[n.toNat]? = some b := by
          rw [hs'] at hbn
          have hl := (List.getElem?_eq_some_iff.1 hbn)
          obtain ⟨hl, he⟩ := hl
          rw [getElem?_pos bs n.toNat (by simpa using hl)]
          rw [← he]; rfl
        simp [execOp, ho, Instr.index, hρ, hρx, asIntOf, run_underlying' ht, hb, hbs]
      · simp [fail] at h
  · simp [fail] at h

theorem op_extract {x : Operand} {i : Nat} (ho : o.op = .extract x i) (h : opA C st o k = some r) : ∃ res, OpSim C st o res ∧ k res = some r := by
  rw [opA_eq] at h; unfold opA0 at h
  simp only [ho] at h
  split at h
  · rename_i vs hp
    split at h
    · rename_i v hv
      refine ⟨_, sim_pure fun w I μ ρ hr he => ?_, h⟩
      have h1 := he x _ hp
      generalize hρx : ρ x = ux at h1
      cases h1 with
      | tuple _ _ us q =>
        obtain ⟨u, q1, q2⟩ := q.get hv
        refine ⟨u, ?_, q2⟩
        simp [execOp, ho, Instr.extract, hρx, q1]
    · simp at h
  · simp [fail] at h

end
end Go.Ev

