/- What is proved here: an evaluator of the code on abstract states and the relation to worlds; no condition. -/
import Derived.Calls
import Derived.Deep.AppendSrc
import Derived.Deep.MidRow
import Derived.Laws.Sem
set_option linter.unusedVariables false
set_option linter.unusedSimpArgs false
namespace Go.Ev
inductive K where
  | int (k : IntKind) | bool | str | sl (e : K) | pr (a b : K)
  deriving DecidableEq, Inhabited
@[reducible] def K.T : K → Type
  | .int _ => Int
  | .bool => Bool
  | .str => ByteArray
  | .sl e => List e.T
  | .pr a b => a.T × b.T
def K.sz : K → Nat
  | .pr a b => a.sz + b.sz
  | _ => 1
def K.zero : (k : K) → k.T
  | .int _ => (0 : Int)
  | .bool => false
  | .str => ByteArray.empty
  | .sl _ => []
  | .pr a b => (a.zero, b.zero)
def K.flat : K → Bool
  | .sl _ => false
  | .pr a b => a.flat && b.flat
  | _ => true
inductive Tg where
  | no | cap | ec (a j : Nat)
  deriving DecidableEq, Inhabited
inductive Leaf where
  | int (k : IntKind) (x : Int)
  | bool (b : Bool)
  | str (s : ByteArray)
  | sl (e : K) (l : List e.T) (x : Tg)
  | nil
  | own (id : Nat)
  | sub (id off len : Nat)
  | ptr (b off : Nat)
  | fn (f : FuncId) (caps : List (Nat × Nat))
  | ifp (t : TypeId) (agg : Bool) (b off : Nat)
  | nilp | nilf | nili | ifx
  | dead
def K.lv : (k : K) → k.T → List Leaf
  | .int k, x => [.int k x]
  | .bool, b => [.bool b]
  | .str, s => [.str s]
  | .sl e, l => [.sl e l .no]
  | .pr a b, x => a.lv x.1 ++ b.lv x.2
def K.rd : (k : K) → List Leaf → Option k.T
  | .int k, ls => match ls with
    | [.int k' x] => if k' = k then some x else none
    | _ => none
  | .bool, ls => match ls with
    | [.bool b] => some b
    | _ => none
  | .str, ls => match ls with
    | [.str s] => some s
    | _ => none
  | .sl e, ls => match ls with
    | [.sl e' l _] => if h : e' = e then some (h ▸ l) else none
    | [.nil] => some []
    | _ => none
  | .pr a b, ls =>
    match a.rd (ls.take a.sz), b.rd (ls.drop a.sz) with
    | some x, some y => some (x, y)
    | _, _ => none
structure Arr where
  e : K
  l : List e.T
  deep : Bool
inductive Slot where
  | lf (l : Leaf)
  | ag (ls : List Leaf)
  | tp (vs : List (Bool × List Leaf))
  | ep (id i off : Nat)
  | rp (ls : List Leaf)
  | dead
inductive Tr (α : Type) where
  | nil
  | nd (v : Option α) (l r : Tr α)
namespace Tr
variable {α : Type}
def get : Tr α → Nat → Option α
  | .nil, _ => none
  | .nd v l r, i => bif i == 0 then v else bif i % 2 == 1 then l.get (i / 2) else r.get (i / 2 - 1)
def setF : Nat → Tr α → Nat → Option α → Tr α
  | 0, t, _, _ => t
  | f + 1, .nil, i, v => bif i == 0 then .nd v .nil .nil else bif i % 2 == 1 then .nd none (setF f .nil (i / 2) v) .nil else .nd none .nil (setF f .nil (i / 2 - 1) v)
  | f + 1, .nd w l r, i, v => bif i == 0 then .nd v l r else bif i % 2 == 1 then .nd w (setF f l (i / 2) v) r else .nd w l (setF f r (i / 2 - 1) v)
def set (t : Tr α) (i : Nat) (v : Option α) : Tr α := setF 16 t i v
def map {β : Type} (g : α → Option β) : Tr α → Tr β
  | .nil => .nil
  | .nd v l r => .nd (v.bind g) (l.map g) (r.map g)
end Tr
structure St where
  n : Nat
  env : Tr Slot
  box : Tr (List Leaf)
  arr : Tr Arr
inductive TD where
  | struct (fs : List (Nat × Nat × Bool))
  | slice (e : TypeId)
  | other
structure TI where
  d : TD
  agg : Bool
  size : Nat
  bytes : Nat
  zero : List Leaf
  kd : Option K
abbrev Ty := TypeId → Option TI
def constLeaf : Value → Leaf
  | .int k n => .int k n
  | .bool b => .bool b
  | .string s => .str s
  | .slice none 0 0 => .nil
  | .pointer none => .nilp
  | .nilFunc => .nilf
  | .nilIface => .nili
  | _ => .dead
def constSlot : Value → Slot
  | .agg cs => bif cs.toList.all (·.oneCell') then .ag (cs.toList.map constLeaf) else .dead
  | .tuple _ => .dead
  | v => .lf (constLeaf v)
def St.ev (st : St) : Operand → Slot
  | .tmp t => (st.env.get t).getD .dead
  | .const v => constSlot v
  | .func f => .lf (.fn f [])
  | .global _ => .dead
def St.put (st : St) (d : Option Tmp) (s : Slot) : St :=
  match d with
  | some d => { st with env := st.env.set d (some s) }
  | none => st
def Slot.leafs : Slot → List Leaf
  | .lf l => [l]
  | .ag ls => ls
  | _ => []
def Slot.isAg : Slot → Bool
  | .ag _ => true
  | _ => false
abbrev w64 (x : Int) : Int := IntKind.i64.wrap x
def ib (i : Int) (n : Nat) : Bool := decide (0 ≤ i ∧ i < (n : Int))
def mn (x y : Int) : Int := if y < x then y else x
def mx (x y : Int) : Int := if x < y then y else x
def room (n bytes : Nat) : Bool := decide (n * bytes ≤ 140737488355328)
def splice {α : Type} (l : List α) (o : Nat) (v : List α) : List α := l.take o ++ (v ++ l.drop (o + v.length))
namespace Leaf
def kill (id : Nat) : Leaf → Leaf
  | .own j => bif j == id then .dead else .own j
  | .sub j o n => bif j == id then .dead else .sub j o n
  | l => l
def freeze (id : Nat) (a : Arr) : Leaf → Leaf
  | .own j => bif j == id then .sl a.e a.l .no else .own j
  | .sub j o n => bif j == id then .sl a.e ((a.l.drop o).take n) .no else .sub j o n
  | l => l
end Leaf
namespace Slot
def map (g : Leaf → Leaf) : Slot → Slot
  | .lf l => .lf (g l)
  | .ag ls => .ag (ls.map g)
  | .tp vs => .tp (vs.map fun v => (v.1, v.2.map g))
  | .rp ls => .rp (ls.map g)
  | s => s
def kill (id : Nat) : Slot → Slot
  | .ep j i o => bif j == id then .dead else .ep j i o
  | s => s.map (Leaf.kill id)
def freeze (id : Nat) (a : Arr) : Slot → Slot
  | .ep j i o => bif j == id then .rp ((a.e.lv (a.l.getD i a.e.zero)).drop o) else .ep j i o
  | s => s.map (Leaf.freeze id a)
end Slot
namespace St
def kill (st : St) (id : Nat) : St :=
  { st with env := st.env.map fun s => some (s.kill id), box := st.box.map fun ls => some (ls.map (Leaf.kill id)), arr := st.arr.set id none }
def freeze (st : St) (id : Nat) (a : Arr) : St :=
  { st with env := st.env.map fun s => some (s.freeze id a), box := st.box.map fun ls => some (ls.map (Leaf.freeze id a)), arr := st.arr.set id none }
end St
def isBoolT (ty : Ty) (t : TypeId) : Bool :=
  match ty t with
  | some ⟨_, _, _, _, _, some .bool⟩ => true
  | _ => false
def binK {R : Type} (bt : Bool) (op : BinOp) (x y : Leaf) (k : Leaf → Option R) : Option R :=
  match x, y with
  | .int kd a, .int kd' b =>
    match op with
    | .shl => cond (decide (b < 0)) none (k (.int kd (kd.wrap (a * 2 ^ min b.toNat kd.bits))))
    | .shr => cond (decide (b < 0)) none (k (.int kd (a.fdiv (2 ^ min b.toNat kd.bits))))
    | _ =>
    if kd ≠ kd' then none else
    match op with
    | .add => k (.int kd (kd.wrap (a + b)))
    | .sub => k (.int kd (kd.wrap (a - b)))
    | .mul => k (.int kd (kd.wrap (a * b)))
    | .quo => cond (b == 0) none (k (.int kd (kd.wrap (a.tdiv b))))
    | .rem => cond (b == 0) none (k (.int kd (a.tmod b)))
    | .and => k (.int kd (kd.wrap (BitVec.ofInt kd.bits a &&& BitVec.ofInt kd.bits b).toNat))
    | .or => k (.int kd (kd.wrap (BitVec.ofInt kd.bits a ||| BitVec.ofInt kd.bits b).toNat))
    | .xor => k (.int kd (kd.wrap (BitVec.ofInt kd.bits a ^^^ BitVec.ofInt kd.bits b).toNat))
    | .eql => k (.bool (a == b))
    | .neq => k (.bool (a != b))
    | .lss => k (.bool (decide (a < b)))
    | .leq => k (.bool (decide (a ≤ b)))
    | .gtr => k (.bool (decide (a > b)))
    | .geq => k (.bool (decide (a ≥ b)))
    | _ => none
  | .str a, .str b =>
    match op with
    | .eql => k (.bool (a.toList == b.toList))
    | .neq => k (.bool !(a.toList == b.toList))
    | .add => cond (decide (((a.size + b.size : Nat) : Int) > 9223372036854775807)) none (k (.str (a ++ b)))
    | _ => none
  | .bool a, .bool b =>
    match op with
    | .eql => bif bt then k (.bool (a == b)) else none
    | .neq => bif bt then k (.bool !(a == b)) else none
    | _ => none
  | _, _ => none
inductive Ex where
  | normal
  | exit (id : Nat)
  | ret
def addL {α : Type} : List (Nat × α) → Tr α → Tr α
  | [], t => t
  | p :: l, t => (addL l t).set p.1 (some p.2)
def St.add (st : St) (nb : List (Nat × List Leaf)) (na : List (Nat × Arr)) : St := ⟨st.n, st.env, addL nb st.box, addL na st.arr⟩
abbrev Sum := St → List Slot → Nat → (R : Type) → (St → Slot → Option R) → Option R
structure SumX where
  calm : Bool
  fresh : Bool
  g : Sum
abbrev LSum := St → (R : Type) → (Ex → St → Option R) → Option R
def packN : Nat → St → List Leaf → St × List Leaf × Bool
  | 0, st, ls => (st, ls, ls.isEmpty)
  | n + 1, st, ls =>
    match ls with
    | [] => (st, [], true)
    | l :: ls =>
      match l with
      | .own id =>
        match st.arr.get id with
        | some a => let r := packN n (st.freeze id a) (ls.map (Leaf.freeze id a)); (r.1, .sl a.e a.l .no :: r.2.1, a.deep && r.2.2)
        | none => let r := packN n st ls; (r.1, .dead :: r.2.1, false)
      | .sub id o k =>
        match st.arr.get id with
        | some a => let r := packN n (st.freeze id a) (ls.map (Leaf.freeze id a)); (r.1, .sl a.e ((a.l.drop o).take k) .no :: r.2.1, (a.deep && a.e.flat) && r.2.2)
        | none => let r := packN n st ls; (r.1, .dead :: r.2.1, false)
      | .int k x => let r := packN n st ls; (r.1, .int k x :: r.2.1, r.2.2)
      | .bool x => let r := packN n st ls; (r.1, .bool x :: r.2.1, r.2.2)
      | .str x => let r := packN n st ls; (r.1, .str x :: r.2.1, r.2.2)
      | .nil => let r := packN n st ls; (r.1, .nil :: r.2.1, r.2.2)
      | l => let r := packN n st ls; (r.1, l :: r.2.1, false)
def pack (st : St) (ls : List Leaf) : St × List Leaf × Bool := packN ls.length st ls
def St.cont (st : St) (e : K) : Leaf → Option (List e.T)
  | .sl e' l _ => if h : e' = e then some (h ▸ l) else none
  | .own id => (st.arr.get id).bind fun a => if h : a.e = e then some (h ▸ a.l) else none
  | .sub id o n => (st.arr.get id).bind fun a => if h : a.e = e then some (((h ▸ a.l : List e.T).drop o).take n) else none
  | .nil => some []
  | _ => none
def lenK {R : Type} (st : St) (l : Leaf) (k : Nat → Option R) : Option R :=
  match l with
  | .sl _ l _ => k l.length
  | .nil => k 0
  | .own id => match st.arr.get id with | some a => k a.l.length | none => none
  | .sub _ _ n => k n
  | _ => none
def St.renew (st : St) (id : Nat) (a : Arr) : St :=
  let st' := st.kill id
  { st' with arr := st'.arr.set id (some a) }
def St.newArr (st : St) (id : Nat) (a : Arr) : St := { st with arr := st.arr.set id (some a) }
def srcOf (st : St) (e : K) (x : Leaf) : Option (List e.T × Bool × St) :=
  match st.cont e x with
  | none => none
  | some xs =>
    bif e.flat then some (xs, true, st) else
    match x with
    | .own id => match st.arr.get id with
      | some a => some (xs, a.deep, st.freeze id a)
      | none => none
    | .nil => some (xs, true, st)
    | _ => some (xs, false, st)
def appK {R : Type} (ty : Ty) (st : St) (d : Nat) (t : TypeId) (s x : Leaf) (k : St → Leaf → Option R) : Option R :=
  match ty t with
  | some ⟨.slice et, _, _, _, _, _⟩ =>
    match ty et with
    | some ⟨_, _, _, bytes, _, some e⟩ =>
      match st.cont e s, srcOf st e x with
      | some l, some (xs, dx, st1) =>
        match s with
        | .own id => match st1.arr.get id with
          | some a => cond (Nat.blt id 64000) (cond (room (l ++ xs).length bytes) (k (st1.renew id ⟨e, l ++ xs, a.deep && dx⟩) (.own id)) none) none
          | none => none
        | .sub id _ _ => match st1.arr.get id with
          | some a => cond (Nat.blt id 64000) (cond (room (l ++ xs).length bytes) (k (st1.renew id ⟨e, l ++ xs, a.deep && e.flat⟩) (.own id)) none) none
          | none => none
        | .nil => match st1.arr.get (d * 4) with
          | some _ => none
          | none => cond (room xs.length bytes) (k (st1.newArr (d * 4) ⟨e, xs, dx⟩) (.own (d * 4))) none
        | .sl _ _ .cap => match st1.arr.get (d * 4) with
          | some _ => none
          | none => cond (l.isEmpty || !xs.isEmpty) (cond (room (l ++ xs).length bytes) (k (st1.newArr (d * 4) ⟨e, l ++ xs, e.flat || (l.isEmpty && dx)⟩) (.own (d * 4))) none) none
        | _ => none
      | _, _ => none
    | _ => none
  | _ => none
def appZK {R : Type} (ty : Ty) (st : St) (d : Nat) (t t' : TypeId) (s x : Leaf) (k : St → Leaf → Option R) : Option R :=
  match ty t with
  | some ⟨.slice et, _, _, _, _, _⟩ =>
    match ty et with
    | some ⟨_, _, _, bytes, _, some e⟩ =>
      match ty t' with
      | some ⟨_, _, _, _, _, some (.int _)⟩ =>
        match s, x with
        | .nil, .int .i64 n => match st.arr.get (d * 4) with
          | some _ => none
          | none => cond (decide (0 ≤ n)) (cond (room n.toNat bytes) (k (st.newArr (d * 4) ⟨e, List.replicate n.toNat e.zero, true⟩) (.own (d * 4))) none) none
        | _, _ => none
      | _ => none
    | _ => none
  | _ => none
def elemSz (ty : Ty) (t : TypeId) : Option Nat :=
  match ty t with
  | some ⟨.slice et, _, _, _, _, _⟩ => match ty et with
    | some ti => some ti.size
    | none => none
  | _ => none
def copyK {R : Type} (ty : Ty) (st : St) (t : TypeId) (s x : Leaf) (k : St → Leaf → Option R) : Option R :=
  match s with
  | .own id => match st.arr.get id with
    | some rr => bif rr.e.flat && elemSz ty t == some rr.e.sz then (match st.cont rr.e x with
      | some xs => k (st.newArr id ⟨rr.e, splice rr.l 0 (xs.take rr.l.length), rr.deep⟩) (.int .i64 (Nat.min xs.length rr.l.length : Nat))
      | none => none) else none
    | none => none
  | .sub id o n => match st.arr.get id with
    | some rr => bif rr.e.flat && elemSz ty t == some rr.e.sz then (match st.cont rr.e x with
      | some xs => k (st.newArr id ⟨rr.e, splice rr.l o (xs.take n), rr.deep⟩) (.int .i64 (Nat.min xs.length n : Nat))
      | none => none) else none
    | none => none
  | _ => none
def St.leafsAt (st : St) (size : Nat) : Slot → Option (List Leaf)
  | .lf (.ptr b o) => (st.box.get b).map fun ls => (ls.drop o).take size
  | .ep id i o => (st.arr.get id).map fun a => ((a.e.lv (a.l.getD i a.e.zero)).drop o).take size
  | .rp ls => some (ls.take size)
  | _ => none
def mkSlot (agg : Bool) (ls : List Leaf) : Option Slot :=
  bif agg then some (.ag ls) else match ls with | [l] => some (.lf l) | _ => none
def partsOf (st : St) (e : K) : List (Nat × Operand) → Nat → Option (St × List e.T × Bool)
  | [], _ => some (st, [], true)
  | (i, x) :: ps, j =>
    bif i == j then
      let r := pack st (st.ev x).leafs
      match e.rd r.2.1 with
      | some y => match partsOf r.1 e ps (j + 1) with
        | some (st', l, dp) => some (st', y :: l, r.2.2 && dp)
        | none => none
      | none => none
    else none
def fillLeafs (fs : List (Nat × Nat × Bool)) (st : St) : List (Nat × Operand) → List Leaf → Option (List Leaf)
  | [], ls => some ls
  | (i, x) :: ps, ls =>
    match fs[i]? with
    | some (off, size, agg) =>
      let s := st.ev x
      bif s.leafs.length == size && s.isAg == agg && Nat.ble (off + size) ls.length then fillLeafs fs st ps (splice ls off s.leafs) else none
    | none => none
def minK {R : Type} (g : Int → Int → Int) (kd : IntKind) : Int → List Slot → (Leaf → Option R) → Option R
  | a, [], k => k (.int kd a)
  | a, .lf (.int k' b) :: ls, k => if k' = kd then minK g kd (g a b) ls k else none
  | _, _, _ => none
def asI : Slot → Option Int
  | .lf (.int _ n) => some n
  | _ => none
def bnd (st : St) : Option Operand → Option (Option Int)
  | none => some none
  | some x => (asI (st.ev x)).map some
section
variable {R : Type}
def allocK (ty : Ty) (d : Nat) (t : TypeId) (st : St) (k : St → Slot → Option R) : Option R :=
  match ty t, st.box.get d with
  | some ti, none => k { st with box := st.box.set d (some ti.zero) } (.lf (.ptr d 0))
  | _, _ => none
def boxK (d : Nat) (s : Slot) (st : St) (k : St → Slot → Option R) : Option R :=
  match st.box.get d, s with
  | none, .lf l => k { st with box := st.box.set d (some [l]) } (.lf (.ptr d 0))
  | none, .ag ls => k { st with box := st.box.set d (some ls) } (.lf (.ptr d 0))
  | _, _ => none
def buildK (ty : Ty) (t : TypeId) (ps : List (Nat × Operand)) (st : St) (k : St → Slot → Option R) : Option R :=
  match ty t with
  | some ⟨.struct fs, _, _, _, zero, _⟩ => match fillLeafs fs st ps zero with
    | some ls => k st (.ag ls)
    | none => none
  | _ => none
def buildSliceK (ty : Ty) (d : Nat) (t : TypeId) (n : Nat) (ps : List (Nat × Operand)) (st : St) (k : St → Slot → Option R) : Option R :=
  match ty t with
  | some ⟨.slice et, _, _, _, _, _⟩ => match ty et with
    | some ⟨_, _, _, _, _, some e⟩ =>
      bif ps.length == n && Nat.ble (n * e.sz) 16777216 then
        match partsOf st e ps 0 with
        | some (st', l, dp) => match st'.arr.get (d * 4) with
          | some _ => none
          | none => k (st'.newArr (d * 4) ⟨e, l, dp⟩) (.lf (.own (d * 4)))
        | none => none
      else none
    | _ => none
  | _ => none
def loadK (ty : Ty) (t : TypeId) (a : Slot) (st : St) (k : St → Slot → Option R) : Option R :=
  match ty t with
  | some ti =>
    match st.leafsAt ti.size a with
    | some ls => bif ls.length == ti.size then (match mkSlot ti.agg ls with | some s => k st s | none => none) else none
    | none => none
  | none => none
def storeK (ty : Ty) (t : TypeId) (a v : Slot) (st : St) (k : St → Slot → Option R) : Option R :=
  match ty t with
  | some ti =>
    bif v.leafs.length == ti.size && Nat.blt 0 ti.size then
      match a with
      | .lf (.ptr b o) => match st.box.get b with
        | some ls => bif Nat.ble (o + v.leafs.length) ls.length then k { st with box := st.box.set b (some (splice ls o v.leafs)) } .dead else none
        | none => none
      | .ep id i o =>
        match (pack st v.leafs).1.arr.get id with
        | some a => match a.e.rd (splice (a.e.lv (a.l.getD i a.e.zero)) o (pack st v.leafs).2.1) with
          | some y => bif Nat.ble (o + v.leafs.length) a.e.sz then k ((pack st v.leafs).1.newArr id ⟨a.e, a.l.set i y, a.deep && ((a.e.flat || Nat.beq v.leafs.length a.e.sz) && (pack st v.leafs).2.2)⟩) .dead else none
          | none => none
        | none => none
      | _ => none
    else none
  | none => none
def nilCheckK (x : Slot) (st : St) (k : St → Slot → Option R) : Option R :=
  match x with
  | .lf (.ptr b o) => k st (.lf (.ptr b o))
  | .lf (.fn f c) => k st (.lf (.fn f c))
  | .lf (.ifp t g b o) => k st (.lf (.ifp t g b o))
  | .ep id i o => k st (.ep id i o)
  | .rp ls => k st (.rp ls)
  | _ => none
def convertK (ty : Ty) (t : TypeId) (x : Slot) (st : St) (k : St → Slot → Option R) : Option R :=
  match x, ty t with
  | .lf (.int _ n), some ⟨_, _, _, _, _, some (.int kd)⟩ => k st (.lf (.int kd (kd.wrap n)))
  | _, _ => none
def makeSliceK (ty : Ty) (d : Nat) (t : TypeId) (l c : Slot) (st : St) (k : St → Slot → Option R) : Option R :=
  match ty t, l, c with
  | some ⟨.slice et, _, _, _, _, _⟩, .lf (.int _ n), .lf (.int _ m) => match ty et with
    | some ⟨_, _, _, bytes, _, some e⟩ =>
      match st.arr.get (d * 4) with
      | some _ => none
      | none => cond (decide (0 ≤ n ∧ n ≤ m)) (cond (room m.toNat bytes) (k (st.newArr (d * 4) ⟨e, List.replicate n.toNat e.zero, true⟩) (.lf (.own (d * 4)))) none) none
    | _ => none
  | _, _, _ => none
def isStr (ty : Ty) (t : TypeId) : Bool :=
  match ty t with
  | some ⟨_, _, _, _, _, some .str⟩ => true
  | _ => false
def sliceK (ty : Ty) (t : TypeId) (x : Slot) (lo hi : Option Int) (st : St) (k : St → Slot → Option R) : Option R :=
  match x with
  | .lf (.str s) =>
    bif isStr ty t then cond (decide (0 ≤ lo.getD 0 ∧ lo.getD 0 ≤ hi.getD s.size ∧ hi.getD s.size ≤ s.size)) (k st (.lf (.str (s.extract (lo.getD 0).toNat (hi.getD s.size).toNat)))) none else none
  | .lf (.sl e l _) =>
    bif elemSz ty t == some e.sz then
      cond (decide (0 ≤ lo.getD 0 ∧ lo.getD 0 ≤ hi.getD l.length ∧ hi.getD l.length ≤ l.length)) (k st (.lf (.sl e ((l.take (hi.getD l.length).toNat).drop (lo.getD 0).toNat) .no))) none
    else none
  | .lf (.own id) => match st.arr.get id with
    | some r => bif elemSz ty t == some r.e.sz then
        cond (decide (0 ≤ lo.getD 0 ∧ lo.getD 0 ≤ hi.getD r.l.length ∧ hi.getD r.l.length ≤ r.l.length)) (k st (.lf (.sub id (lo.getD 0).toNat ((hi.getD r.l.length).toNat - (lo.getD 0).toNat)))) none
      else none
    | none => none
  | .lf (.sub id o n) => match st.arr.get id with
    | some r => bif elemSz ty t == some r.e.sz then
        cond (decide (0 ≤ lo.getD 0 ∧ lo.getD 0 ≤ hi.getD n ∧ hi.getD n ≤ n)) (k st (.lf (.sub id (o + (lo.getD 0).toNat) ((hi.getD n).toNat - (lo.getD 0).toNat)))) none
      else none
    | none => none
  | .lf .nil => bif (elemSz ty t).isSome then cond (decide (0 ≤ lo.getD 0 ∧ lo.getD 0 ≤ hi.getD 0 ∧ hi.getD 0 ≤ 0)) (k st (.lf .nil)) none else none
  | _ => none
def slice3K (ty : Ty) (t : TypeId) (x : Slot) (lo : Option Int) (hi : Int) (st : St) (k : St → Slot → Option R) : Option R :=
  match x with
  | .lf (.sl e l _) =>
    bif elemSz ty t == some e.sz then
      cond (decide (0 ≤ lo.getD 0 ∧ lo.getD 0 ≤ hi ∧ hi ≤ l.length)) (k st (.lf (.sl e ((l.take hi.toNat).drop (lo.getD 0).toNat) .cap))) none
    else none
  | .lf (.own id) => match st.arr.get id with
    | some r => bif elemSz ty t == some r.e.sz then
        cond (decide (0 ≤ lo.getD 0 ∧ lo.getD 0 ≤ hi ∧ hi ≤ r.l.length)) (k (st.freeze id r) (.lf (.sl r.e ((r.l.take hi.toNat).drop (lo.getD 0).toNat) .cap))) none
      else none
    | none => none
  | _ => none
def fieldAddrK (ty : Ty) (t : TypeId) (x : Slot) (f : Nat) (st : St) (k : St → Slot → Option R) : Option R :=
  match ty t with
  | some ⟨.struct fs, _, _, _, _, _⟩ => match fs[f]?, x with
    | some (off, _), .lf (.ptr b o) => k st (.lf (.ptr b (o + off)))
    | some (off, _), .ep id i o => k st (.ep id i (o + off))
    | some (off, _), .rp ls => k st (.rp (ls.drop off))
    | _, _ => none
  | _ => none
def fieldK (ty : Ty) (t : TypeId) (x : Slot) (f : Nat) (st : St) (k : St → Slot → Option R) : Option R :=
  match ty t, x with
  | some ⟨.struct fs, _, _, _, _, _⟩, .ag ls => match fs[f]? with
    | some (off, size, agg) => bif Nat.ble (off + size) ls.length then (match mkSlot agg ((ls.drop off).take size) with | some s => k st s | none => none) else none
    | none => none
  | _, _ => none
def indexAddrK (ty : Ty) (t : TypeId) (x i : Slot) (st : St) (k : St → Slot → Option R) : Option R :=
  match x, i with
  | .lf (.sl e l _), .lf (.int _ i) => bif elemSz ty t == some e.sz then cond (ib i l.length) (k st (.rp (e.lv (l.getD i.toNat e.zero)))) none else none
  | .lf (.own id), .lf (.int _ i) => match st.arr.get id with
    | some a => bif elemSz ty t == some a.e.sz then cond (ib i a.l.length) (k st (.ep id i.toNat 0)) none else none
    | none => none
  | .lf (.sub id o n), .lf (.int _ i) => match st.arr.get id with
    | some a => bif elemSz ty t == some a.e.sz then cond (ib i n) (k st (.ep id (o + i.toNat) 0)) none else none
    | none => none
  | _, _ => none
def indexK (ty : Ty) (t : TypeId) (x i : Slot) (st : St) (k : St → Slot → Option R) : Option R :=
  match x, i with
  | .lf (.str s), .lf (.int _ i) => bif isStr ty t then cond (ib i s.size) (k st (.lf (.int .u8 (s.data.toList.getD i.toNat 0).toNat))) none else none
  | _, _ => none
def extractK (x : Slot) (i : Nat) (st : St) (k : St → Slot → Option R) : Option R :=
  match x with
  | .tp vs => match vs[i]? with
    | some (agg, ls) => match mkSlot agg ls with | some s => k st s | none => none
    | none => none
  | _ => none
def unOpK (op : UnOp) (x : Slot) (st : St) (k : St → Slot → Option R) : Option R :=
  match op, x with
  | .not, .lf (.bool b) => k st (.lf (.bool !b))
  | .neg, .lf (.int kd n) => k st (.lf (.int kd (kd.wrap (0 - n))))
  | _, _ => none
def capsOf (st : St) : List Operand → Option (List (Nat × Nat))
  | [] => some []
  | c :: cs => match st.ev c, capsOf st cs with
    | .lf (.ptr b o), some r => some ((b, o) :: r)
    | _, _ => none
def ptrs (caps : List (Nat × Nat)) : List Slot := caps.map fun p => .lf (.ptr p.1 p.2)
def callK (ty : Ty) (Γ : FuncId → Option SumX) (d : Nat) (c : Call) (st : St) (k : St → Slot → Option R) : Option R :=
  match c.callee with
  | .value f => match st.ev f with
    | .lf (.fn f caps) => match Γ f with
      | some g => g.g st (c.args.toList.map st.ev ++ ptrs caps) d R k
      | none => none
    | _ => none
  | .builtin .len => match c.args.toList, c.argTypes.toList with
    | [x], [t] => match st.ev x with
      | .lf (.str s) => bif isStr ty t then k st (.lf (.int .i64 s.size)) else none
      | .lf l => bif (elemSz ty t).isSome then lenK st l fun n => k st (.lf (.int .i64 n)) else none
      | _ => none
    | _, _ => none
  | .builtin .cap => match c.args.toList, c.argTypes.toList with
    | [x], [t] => match st.ev x with
      | .lf .nil => bif (elemSz ty t).isSome then k st (.lf (.int .i64 0)) else none
      | _ => none
    | _, _ => none
  | .builtin .append => match c.args.toList.map st.ev, c.argTypes.toList with
    | [.lf s, .lf x], [t, t'] => bif t == t' then appK ty st d t s x fun st l => k st (.lf l) else appZK ty st d t t' s x fun st l => k st (.lf l)
    | _, _ => none
  | .builtin .copy => match c.args.toList.map st.ev, c.argTypes.toList with
    | [.lf s, .lf x], [t, _] => copyK ty st t s x fun st l => k st (.lf l)
    | _, _ => none
  | .builtin .min => match c.args.toList.map st.ev with
    | .lf (.int kd a) :: ss => minK mn kd a ss fun l => k st (.lf l)
    | _ => none
  | .builtin .max => match c.args.toList.map st.ev with
    | .lf (.int kd a) :: ss => minK mx kd a ss fun l => k st (.lf l)
    | _ => none
  | _ => none
def isNilC : Operand → Bool
  | .const (.slice none 0 0) => true
  | _ => false
noncomputable def nilB (b : Bool) (x y : Option R) : Option R := bif b then (@ite _ (x = y) (Classical.propDecidable _) y none) else y
noncomputable def nilK (ty : Ty) (op : BinOp) (t : TypeId) (s : Slot) (st : St) (k : St → Slot → Option R) : Option R :=
  bif (elemSz ty t).isSome then
    match op with
    | .eql => match s with
      | .lf .nil => k st (.lf (.bool true))
      | .lf (.sl _ l _) => nilB l.isEmpty (k st (.lf (.bool true))) (k st (.lf (.bool false)))
      | .lf (.own id) => match st.arr.get id with
        | some a => nilB a.l.isEmpty (k st (.lf (.bool true))) (k st (.lf (.bool false)))
        | none => none
      | _ => none
    | _ => none
  else none
noncomputable def opK (ty : Ty) (Γ : FuncId → Option SumX) (o : Oper) (st : St) (k : St → Slot → Option R) : Option R :=
  match o.op with
  | .move x | .assign x => k st (st.ev x)
  | .pick c a b =>
    match st.ev c with
    | .lf (.bool x) => cond x (k st (st.ev a)) (k st (st.ev b))
    | _ => none
  | .alloc t => allocK ty (o.dst.getD 0) t st k
  | .box _ x => boxK (o.dst.getD 0) (st.ev x) st k
  | .build t ps => buildK ty t ps.toList st k
  | .buildSlice t n ps => buildSliceK ty (o.dst.getD 0) t n ps.toList st k
  | .load t a => loadK ty t (st.ev a) st k
  | .store t a x => storeK ty t (st.ev a) (st.ev x) st k
  | .nilCheck x => nilCheckK (st.ev x) st k
  | .binOp op t x y _ =>
    bif isNilC y then nilK ty op t (st.ev x) st k else
    match st.ev x, st.ev y with
    | .lf a, .lf b => binK (isBoolT ty t) op a b fun l => k st (.lf l)
    | _, _ => none
  | .unOp op _ x => unOpK op (st.ev x) st k
  | .convert s t x => bif (ty s).isSome then convertK ty t (st.ev x) st k else none
  | .makeFunc (.func f) first caps =>
    bif first.size == 0 then
      match capsOf st caps.toList with
      | some cs => k st (.lf (.fn f cs))
      | none => none
    else none
  | .makeSlice t l c => makeSliceK ty (o.dst.getD 0) t (st.ev l) (st.ev c) st k
  | .slice t x lo hi none =>
    match bnd st lo, bnd st hi with
    | some a, some h => sliceK ty t (st.ev x) a h st k
    | _, _ => none
  | .slice t x lo (some hi) (some mx) =>
    match bnd st lo, asI (st.ev hi), asI (st.ev mx) with
    | some a, some h, some m => cond (decide (h = m)) (slice3K ty t (st.ev x) a h st k) none
    | _, _, _ => none
  | .fieldAddr t x f => fieldAddrK ty t (st.ev x) f st k
  | .field t x f => fieldK ty t (st.ev x) f st k
  | .indexAddr t x i => indexAddrK ty t (st.ev x) (st.ev i) st k
  | .index t x i => indexK ty t (st.ev x) (st.ev i) st k
  | .extract t i => extractK (st.ev t) i st k
  | .call c => callK ty Γ (o.dst.getD 0) c st k
  | _ => none
def putK (st : St) (d : Option Tmp) (s : Slot) (K : St → Option R) : Option R := K (st.put d s)
def St.setEnv (st : St) (t : Nat) (s : Slot) : St := { st with env := st.env.set t (some s) }
noncomputable def evOper (ty : Ty) (Γ : FuncId → Option SumX) (ops : Array Oper) (o : Oper) (st : St) (K : St → Option R) : Option R :=
  bif Nat.blt (o.dst.getD 0) st.n then
    match o.guard with
    | none => opK ty Γ o st fun st s => putK st o.dst s K
    | some (j, b) =>
      match (ops[j]?).bind (·.dst) with
      | none => none
      | some g =>
        match st.env.get g with
        | some (.lf (.bool x)) =>
          cond x
            (cond b (opK ty Γ o (st.setEnv g (.lf (.bool true))) fun st s => putK st o.dst s K) (putK (st.setEnv g (.lf (.bool true))) o.dst (.tp []) K))
            (cond b (putK (st.setEnv g (.lf (.bool false))) o.dst (.tp []) K) (opK ty Γ o (st.setEnv g (.lf (.bool false))) fun st s => putK st o.dst s K))
        | some (.tp []) => putK st o.dst (.tp []) K
        | _ => none
  else none
noncomputable def evOps (ty : Ty) (Γ : FuncId → Option SumX) (ops : Array Oper) : List Oper → St → (St → Option R) → Option R
  | [], st, K => K st
  | o :: os, st, K => evOper ty Γ ops o st fun st => evOps ty Γ ops os st K
end
def firstRegion : Code → Option Nat
  | .region id _ _ => some id
  | .seq a b => (firstRegion a).or (firstRegion b)
  | .cond _ a b => (firstRegion a).or (firstRegion b)
  | .block _ a | .loop a | .scope a => firstRegion a
  | _ => none
def calmOp (Γ : FuncId → Option SumX) (o : Oper) : Bool :=
  match o.op with
  | .binOp _ _ _ y _ => !isNilC y
  | .move _ | .assign _ | .pick .. | .load .. | .nilCheck _ | .unOp .. | .convert .. | .fieldAddr .. | .field .. | .indexAddr .. | .index .. | .extract .. | .build .. | .slice _ _ _ _ none => true
  | .call c => match c.callee with
    | .value (.func f) => match Γ f with
      | some x => x.calm
      | none => false
    | .builtin .len | .builtin .min | .builtin .max | .builtin .cap => true
    | _ => false
  | _ => false
def freshOp (Γ : FuncId → Option SumX) (o : Oper) : Bool :=
  match o.op with
  | .alloc _ | .box .. | .makeSlice .. => true
  | .call c => match c.callee with
    | .value (.func f) => match Γ f with
      | some x => x.fresh
      | none => false
    | _ => false
  | _ => false
def bindsOn (ops : Array Oper) (i j : Nat) : Bool :=
  match ops[j]? with
  | some o => o.after.toList.any fun e => Region.binds .any e && e.on == i
  | none => false
def ordd (ops : Array Oper) : Nat → Nat → Nat → Bool
  | 0, _, _ => false
  | f + 1, i, j => bindsOn ops i j || (List.range ops.size).any fun k => bindsOn ops i k && ordd ops f k j
def tmpsOf : List Operand → List Tmp
  | [] => []
  | .tmp t :: l => t :: tmpsOf l
  | _ :: l => tmpsOf l
def looks (ops : Array Oper) (o : Oper) : List Tmp :=
  tmpsOf o.op.operands.toList ++ (match o.guard with
    | some (g, _) => match (ops[g]?).bind (·.dst) with
      | some t => [t]
      | none => []
    | none => [])
def apartD (x : Option Tmp) (l : List Tmp) : Bool :=
  match x with
  | some d => !l.any (· == d)
  | none => true
def allocOp (o : Oper) : Bool :=
  match o.op with
  | .alloc _ | .box .. | .makeSlice .. => true
  | _ => false
def constOp (o : Oper) : Bool :=
  match o.op, o.guard, o.dst with
  | .move _, none, some _ => true
  | _, _, _ => false
def buildOp (o : Oper) : Bool :=
  match o.op, o.guard with
  | .buildSlice _ _ _, none => true
  | .call c, none => match c.callee with
    | .builtin .copy => true
    | _ => false
  | _, _ => false
def swapOk (Γ : FuncId → Option SumX) (ops : Array Oper) (x y : Oper) : Bool :=
  (((calmOp Γ x && (calmOp Γ y || freshOp Γ y)) || (freshOp Γ x && allocOp y)) || (constOp x && buildOp y)) && (apartD x.dst (looks ops y ++ y.dst.toList) && (apartD y.dst (looks ops x) && (Nat.blt (x.dst.getD 0) 16000 && Nat.blt (y.dst.getD 0) 16000)))
def bsOp (o : Oper) : Bool :=
  match o.op, o.guard with
  | .buildSlice _ _ _, none => true
  | _, _ => false
def beforeOf (ops : Array Oper) (j : Nat) : List Nat := match ops[j]? with
  | some o => (o.after.toList.filter fun e => Region.binds .any e).map (·.on)
  | none => []
def ordGo (Γ : FuncId → Option SumX) (ops : Array Oper) : Nat → List Nat → List Nat
  | 0, done => done.reverse
  | f + 1, done =>
    let rs := (List.range ops.size).filter fun j => !done.contains j && (beforeOf ops j).all fun i => done.contains i
    match rs.find? fun j => match ops[j]? with | some o => calmOp Γ o | none => false with
    | some j => ordGo Γ ops f (j :: done)
    | none => match rs.find? fun j => match ops[j]? with | some o => bsOp o | none => false with
     | some j => ordGo Γ ops f (j :: done)
     | none => match rs.find? fun j => match ops[j]? with | some o => !allocOp o | none => false with
      | some j => ordGo Γ ops f (j :: done)
      | none => match rs with
        | j :: _ => ordGo Γ ops f (j :: done)
        | [] => done.reverse
def ordOf (Γ : FuncId → Option SumX) (ops : Array Oper) : List Nat := ordGo Γ ops ops.size []
def pairOk (Γ : FuncId → Option SumX) (ops : Array Oper) (i j : Nat) : Bool :=
  (!(i == j) && !bindsOn ops j i) && ((match ops[i]?, ops[j]? with
    | some oi, some oj => swapOk Γ ops oi oj
    | _, _ => false) || ordd ops 14 i j)
def pairsOk (Γ : FuncId → Option SumX) (ops : Array Oper) : List Nat → Bool
  | [] => true
  | i :: l => l.all (pairOk Γ ops i) && pairsOk Γ ops l
def drawOk (Γ : FuncId → Option SumX) (ops : Array Oper) (ord : List Nat) : Bool :=
  ((ord.length == ops.size && ord.all fun i => Nat.blt i ops.size) && (List.range ops.size).all fun i => ord.contains i) && (ops.toList.zipIdx.all (fun p => (beforeOf ops p.2).all fun i => Nat.blt i ops.size && !(i == p.2)) && pairsOk Γ ops ord)
def noOwnL : Leaf → Bool
  | .own _ => false
  | .sub _ _ _ => false
  | _ => true
def noOwn : Slot → Bool
  | .lf l => noOwnL l
  | .ag ls => ls.all noOwnL
  | .rp ls => ls.all noOwnL
  | _ => false
def loneTmp (o : Oper) : Option Tmp :=
  match o.op, o.guard, o.dst with
  | .move (.tmp t), none, some _ => some t
  | .nilCheck (.tmp t), none, some _ => some t
  | .fieldAddr _ (.tmp t) _, none, some _ => some t
  | .load _ (.tmp t), none, some _ => some t
  | _, _, _ => none
def sliceOp (o : Oper) : Bool :=
  match o.op, o.guard, o.dst with
  | .slice _ (.tmp _) _ _ none, none, some _ => true
  | _, _, _ => false
def mapOp (o : Oper) : Bool :=
  match o.op, o.guard with
  | .call c, none => match c.callee with
    | .builtin .append => true
    | _ => false
  | .slice _ _ _ _ (some _), none => true
  | _, _ => false
def s3Op (o : Oper) : Bool :=
  match o.op, o.guard with
  | .slice _ _ _ _ (some _), none => true
  | _, _ => false
def storeOp (o : Oper) : Bool :=
  match o.op, o.guard with
  | .store _ (.tmp _) _, none => true
  | _, _ => false
def sameK (a b : Oper) : Bool := a.dst == b.dst && (tmpsOf a.op.operands.toList == tmpsOf b.op.operands.toList)
def unordK (ops : Array Oper) (a b : Oper) : Bool :=
  (List.range ops.size).any fun i => match ops[i]? with
    | some x => sameK x a && (List.range ops.size).any fun j => match ops[j]? with
      | some y => sameK y b && (!(i == j) && (!ordd ops 14 i j && !ordd ops 14 j i))
      | none => false
    | none => false
def setIn (ops : Array Oper) (t : Tmp) : Bool := ops.toList.any fun o => o.dst == some t
def rootOf (ops : Array Oper) : Nat → Tmp → Tmp
  | 0, t => t
  | f + 1, t => match ops.toList.find? fun o => o.dst == some t with
    | some o => match o.op with
      | .fieldAddr _ (.tmp u) _ => rootOf ops f u
      | .nilCheck (.tmp u) => rootOf ops f u
      | .move (.tmp u) => rootOf ops f u
      | _ => t
    | none => t
def addrT (o : Oper) : Tmp :=
  match o.op with
  | .store _ (.tmp a) _ => a
  | _ => 0
def readOp (o : Oper) : Bool := (loneTmp o).isSome || sliceOp o
def needM (ops : Array Oper) (o : Oper) : Bool := (loneTmp o).isSome && ops.toList.any fun y => mapOp y && unordK ops o y
def needS (ops : Array Oper) (o : Oper) : Bool := readOp o && ops.toList.any fun y => storeOp y && unordK ops o y
def needB (ops : Array Oper) (o : Oper) : Bool := bsOp o && ops.toList.any fun x => !constOp x && unordK ops x o
def needY (ops : Array Oper) (o : Oper) : Bool := storeOp o && ops.toList.any fun x => readOp x && unordK ops x o
def slotOk (st : St) (o : Oper) : Bool :=
  match loneTmp o with
  | some t => match st.env.get t with
    | some s => noOwn s
    | none => false
  | none => true
def rootOk (ops : Array Oper) (st : St) (t : Tmp) (b : Nat) : Bool :=
  !setIn ops (rootOf ops 6 t) && match st.env.get (rootOf ops 6 t) with
    | some (.lf (.ptr b' _)) => b' == b
    | _ => false
def notBox (ops : Array Oper) (st : St) (t : Tmp) (b : Nat) : Bool :=
  setIn ops t || match st.env.get t with
    | some (.lf (.ptr b' _)) => !(b' == b)
    | some s => noOwn s
    | none => false
def stX (ops : Array Oper) (st : St) (o : Oper) : Bool :=
  match loneTmp o with
  | some t => match st.env.get t with
    | some s => noOwn s && match o.op, s with
      | .load _ _, .lf (.ptr b _) => ops.toList.all fun y => !(storeOp y && unordK ops o y) || notBox ops st (rootOf ops 6 (addrT y)) b
      | _, _ => true
    | none => false
  | none => true
def stY (ops : Array Oper) (st : St) (o : Oper) : Bool :=
  match o.op with
  | .store _ (.tmp a) x => match st.env.get a with
    | some (.ep id _ _) => Nat.blt id 65000 && noOwn (st.ev x)
    | some (.lf (.ptr b _)) => rootOk ops st a b
    | _ => false
  | _ => false
def bsOk (st : St) (o : Oper) : Bool :=
  match o.op with
  | .buildSlice _ _ ps => ps.toList.all fun p => noOwn (st.ev p.2)
  | _ => false
def needD (ops : Array Oper) (o : Oper) : Bool := s3Op o && ops.toList.any fun x => bsOp x && unordK ops x o
def s3Ok (ops : Array Oper) (st : St) (o : Oper) : Bool :=
  match o.op with
  | .slice _ x _ _ _ => match st.ev x with
    | .lf (.own id) => ops.toList.all fun y => !(bsOp y && unordK ops y o) || !(id == y.dst.getD 0 * 4)
    | .lf (.sl ..) => true
    | _ => false
  | _ => false
def chk (ops : Array Oper) (st : St) (o : Oper) : Bool :=
  ((!needM ops o || slotOk st o) && (!needS ops o || stX ops st o)) && ((!needB ops o || bsOk st o) && ((!needY ops o || stY ops st o) && (!needD ops o || s3Ok ops st o)))
def post (ops : Array Oper) (st : St) (o : Oper) : Bool :=
  !needM ops o || match o.dst with
    | some d => match st.env.get d with
      | some s => noOwn s
      | none => false
    | none => true
noncomputable def evOpL {R : Type} (ty : Ty) (Γ : FuncId → Option SumX) (ops : Array Oper) (o : Oper) (st : St) (K : St → Option R) : Option R :=
  bif chk ops st o then evOper ty Γ ops o st fun st1 => bif post ops st1 o then K st1 else none else none
noncomputable def evOpsL {R : Type} (ty : Ty) (Γ : FuncId → Option SumX) (ops : Array Oper) : List Oper → St → (St → Option R) → Option R
  | [], st, K => K st
  | o :: os, st, K => evOpL ty Γ ops o st fun st => evOpsL ty Γ ops os st K
def inD (ops : Array Oper) (o : Oper) : Bool := ops.toList.any fun x => x.dst == o.dst
def kindsOk (Γ : FuncId → Option SumX) (ops : Array Oper) (x y : Oper) : Bool :=
  (swapOk Γ ops x y && !(constOp x && buildOp y && (needM ops x || needS ops x))) ||
  (((needM ops x && mapOp y) || (calmOp Γ x && needB ops y)) || (((needB ops x && needD ops y) && unordK ops x y) || ((needS ops x && needY ops y) && unordK ops x y)))
def swapOkL (Γ : FuncId → Option SumX) (ops : Array Oper) (x y : Oper) : Bool :=
  kindsOk Γ ops x y && ((inD ops x && inD ops y) && (apartD x.dst (looks ops y ++ y.dst.toList) && (apartD y.dst (looks ops x) && (Nat.blt (x.dst.getD 0) 16000 && Nat.blt (y.dst.getD 0) 16000))))
def pairOkL (Γ : FuncId → Option SumX) (ops : Array Oper) (i j : Nat) : Bool :=
  (!(i == j) && !bindsOn ops j i) && ((match ops[i]?, ops[j]? with
    | some oi, some oj => swapOkL Γ ops oi oj
    | _, _ => false) || ordd ops 14 i j)
def pairsOkL (Γ : FuncId → Option SumX) (ops : Array Oper) : List Nat → Bool
  | [] => true
  | i :: l => l.all (pairOkL Γ ops i) && pairsOkL Γ ops l
def drawOkL (Γ : FuncId → Option SumX) (ops : Array Oper) (ord : List Nat) : Bool :=
  ((ord.length == ops.size && ord.all fun i => Nat.blt i ops.size) && (List.range ops.size).all fun i => ord.contains i) && (ops.toList.zipIdx.all (fun p => (beforeOf ops p.2).all fun i => Nat.blt i ops.size && !(i == p.2)) && pairsOkL Γ ops ord)
def atL (ops : Array Oper) (l : List Nat) : List Oper := l.filterMap (ops[·]?)
inductive SS where
  | val (g : Bool) (k : K) | rp (k : K) | fix (s : Slot)
@[reducible] def SS.T : SS → Type
  | .val _ k | .rp k => k.T
  | .fix _ => Unit
@[reducible] def EArgs : List (Nat × SS) → Type
  | [] => Unit
  | p :: l => p.2.T × EArgs l
def fixLeaf (st : St) : Leaf → Leaf → Bool
  | .own i, .own j => i == j
  | .own i, .nil => match st.arr.get i with
    | some ⟨_, [], _⟩ => true
    | _ => false
  | .ptr b o, .ptr b' o' => b == b' && o == o'
  | .fn f cs, .fn f' cs' => f == f' && cs == cs'
  | .ifp t g b o, .ifp t' g' b' o' => (t == t' && g == g') && (b == b' && o == o')
  | .nilp, .nilp | .nilf, .nilf | .nili, .nili | .nil, .nil | .ifx, .ifx | .ifx, .ifp .. | .dead, _ => true
  | _, _ => false
def fixSlot (st : St) : Slot → Slot → Bool
  | .lf l, .lf l' => fixLeaf st l l'
  | .dead, _ => true
  | _, _ => false
def leaf1 : List Leaf → Leaf
  | [l] => l
  | _ => .dead
def mkS (g : Bool) (k : K) (x : k.T) : Slot := bif g then .ag (k.lv x) else .lf (leaf1 (k.lv x))
def rdSS (st : St) : (s : SS) → Slot → Option s.T
  | .val g k, s => bif s.isAg == g then k.rd s.leafs else none
  | .rp k, s => match s with
    | .rp ls => k.rd (ls.take k.sz)
    | _ => none
  | .fix f, s => bif fixSlot st f s then some () else none
def mkSS : (s : SS) → s.T → Slot
  | .val g k, x => mkS g k x
  | .rp k, x => .rp (k.lv x)
  | .fix f, _ => f
def rdEnv (st : St) : (l : List (Nat × SS)) → Option (EArgs l)
  | [] => some ()
  | p :: l => match st.env.get p.1 with
    | some s => match rdSS st p.2 s with
      | some x => match rdEnv st l with
        | some xs => some (x, xs)
        | none => none
      | none => none
    | none => none
def addEnv : (l : List (Nat × SS)) → EArgs l → Tr Slot → Tr Slot
  | [], _, t => t
  | p :: l, x, t => (addEnv l x.2 t).set p.1 (some (mkSS p.2 x.1))
def dropEnv : List Oper → Tr Slot → Tr Slot
  | [], t => t
  | o :: os, t => match o.dst with
    | some d => (dropEnv os t).set d none
    | none => dropEnv os t
noncomputable def evJoin {R : Type} (ty : Ty) (Γ : FuncId → Option SumX) (ds : List (Nat × SS)) (ops : Array Oper) (st : St) (K : St → Option R) : Option R :=
  bif ops.toList.all (fun o => calmOp Γ o && Nat.blt (o.dst.getD 0) 65000) && ds.all (fun p => Nat.blt p.1 65000) then
    (evOps ty Γ ops ops.toList st fun st' => rdEnv st' ds).bind fun y => K { st with env := addEnv ds y (dropEnv ops.toList st.env) }
  else none
noncomputable def evReg {R : Type} (ty : Ty) (Γ : FuncId → Option SumX) (J : Nat → Option (List (Nat × SS))) (id : Nat) (ops : Array Oper) (st : St) (K : St → Option R) : Option R :=
  match J id with
  | some ds => evJoin ty Γ ds ops st K
  | none => evOps ty Γ ops ops.toList st K
noncomputable def evCode {R : Type} (ty : Ty) (Γ : FuncId → Option SumX) (J : Nat → Option (List (Nat × SS))) (Λ : Nat → Option LSum) : Code → St → (Ex → St → Option R) → Option R
  | .skip, st, K => K .normal st
  | .region id ops draw, st, K => bif draw then
      (match J id with
        | some ds => cond (drawOk Γ ops (List.range ops.size)) (evJoin ty Γ ds ops st (K .normal)) none
        | none => cond (drawOkL Γ ops (ordOf Γ ops)) (evOpsL ty Γ ops (atL ops (ordOf Γ ops)) st (K .normal)) none)
    else evReg ty Γ J id ops st (K .normal)
  | .seq a b, st, K => evCode ty Γ J Λ a st fun e st => match e with | .normal => evCode ty Γ J Λ b st K | .exit j => K (.exit j) st | .ret => K .ret st
  | .cond c a b, st, K =>
    match c with
    | .tmp t => match st.env.get t with
      | some (.lf (.bool x)) => cond x (evCode ty Γ J Λ a (st.setEnv t (.lf (.bool true))) K) (evCode ty Γ J Λ b (st.setEnv t (.lf (.bool false))) K)
      | _ => none
    | .const (.bool x) => cond x (evCode ty Γ J Λ a st K) (evCode ty Γ J Λ b st K)
    | _ => none
  | .block id a, st, K => evCode ty Γ J Λ a st fun e st => match e with | .normal => K .normal st | .exit j => bif j == id then K .normal st else K (.exit j) st | .ret => K .ret st
  | .loop a, st, K => match (firstRegion a).bind Λ with
    | some L => L st R K
    | none => none
  | .exit id, st, K => K (.exit id) st
  | .ret, st, K => K .ret st
  | _, _, _ => none
end Go.Ev

namespace Go.Ev
theorem K.sz_pos : ∀ k : K, 0 < k.sz
  | .int _ | .bool | .str | .sl _ => by simp [K.sz]
  | .pr a b => by have := K.sz_pos a; simp [K.sz]; omega
theorem addr_add_add (a : Addr) (m n : Nat) : (a.add m).add n = a.add (m + n) := by
  unfold Addr.add
  by_cases hm : m = 0 <;> by_cases hn : n = 0 <;> simp [hm, hn, Nat.add_assoc]
theorem addr_add_block (a : Addr) (m : Nat) : (a.add m).block = a.block := by
  unfold Addr.add; split <;> rfl
def RepT (w : World) (ok : Nat → Prop) : (k : K) → k.T → List Value → Prop
  | .int k, x, vs => vs = [.int k x]
  | .bool, b, vs => vs = [.bool b]
  | .str, s, vs => vs = [.string s]
  | .sl e, l, vs => ∃ A c, vs = [.slice A l.length c] ∧ l.length ≤ c ∧ ∀ i, i < l.length → ∃ ad, A = some ad ∧ ok ad.block ∧
      ∃ cs, RepT w ok e (l.getD i e.zero) cs ∧ ∀ j v, cs[j]? = some v → w.cell? (ad.add (i * e.sz + j)) = some v
  | .pr a b, x, vs => ∃ v1 v2, vs = v1 ++ v2 ∧ RepT w ok a x.1 v1 ∧ RepT w ok b x.2 v2
theorem RepT.length {w : World} {ok : Nat → Prop} : ∀ {k : K} {x : k.T} {vs : List Value}, RepT w ok k x vs → vs.length = k.sz
  | .int _, _, _, h | .bool, _, _, h | .str, _, _, h => by rw [h]; rfl
  | .sl _, _, _, h => by obtain ⟨A, c, rfl, _⟩ := h; rfl
  | .pr a b, _, _, h => by
    obtain ⟨v1, v2, rfl, h1, h2⟩ := h
    rw [List.length_append, h1.length, h2.length]; rfl
theorem RepT.trans {w w' : World} {ok ok' : Nat → Prop} (H : ∀ a v, ok a.block → w.cell? a = some v → ok' a.block ∧ w'.cell? a = some v) :
    ∀ {k : K} {x : k.T} {vs : List Value}, RepT w ok k x vs → RepT w' ok' k x vs
  | .int _, _, _, h | .bool, _, _, h | .str, _, _, h => h
  | .sl e, l, vs, h => by
    obtain ⟨A, c, hv, hc, hr⟩ := h
    refine ⟨A, c, hv, hc, fun i hi => ?_⟩
    obtain ⟨ad, hA, hok, cs, hcs, hcell⟩ := hr i hi
    have hlen := hcs.length
    have hpos := e.sz_pos
    have h0 : cs[0]? = some cs[0] := List.getElem?_eq_getElem (by omega)
    have hok0 : ok (ad.add (i * e.sz + 0)).block := by rw [addr_add_block]; exact hok
    have := (H _ _ hok0 (hcell 0 _ h0)).1
    rw [addr_add_block] at this
    refine ⟨ad, hA, this, cs, RepT.trans H hcs, fun j v hj => ?_⟩
    exact (H _ _ (by rw [addr_add_block]; exact hok) (hcell j v hj)).2
  | .pr a b, x, vs, h => by
    obtain ⟨v1, v2, hv, h1, h2⟩ := h
    exact ⟨v1, v2, hv, RepT.trans H h1, RepT.trans H h2⟩
theorem RepT.one {w : World} {ok : Nat → Prop} : ∀ {k : K} {x : k.T} {vs : List Value}, RepT w ok k x vs → ∀ v ∈ vs, v.oneCell' = true
  | .int _, _, _, h, v, hv | .bool, _, _, h, v, hv | .str, _, _, h, v, hv => by rw [h] at hv; simp at hv; subst hv; rfl
  | .sl _, _, _, h, v, hv => by obtain ⟨A, c, rfl, _⟩ := h; simp at hv; subst hv; rfl
  | .pr a b, _, _, h, v, hv => by
    obtain ⟨v1, v2, rfl, h1, h2⟩ := h
    rcases List.mem_append.1 hv with hv | hv
    · exact h1.one v hv
    · exact h2.one v hv
def OwnT (w : World) : (k : K) → k.T → List Value → List Nat → Prop
  | .int k, x, vs, F => vs = [.int k x] ∧ F = []
  | .bool, b, vs, F => vs = [.bool b] ∧ F = []
  | .str, s, vs, F => vs = [.string s] ∧ F = []
  | .sl e, l, vs, F => ∃ A c, vs = [.slice A l.length c] ∧ l.length ≤ c ∧ ((c = 0 ∧ F = []) ∨ ∃ (blk base : Nat) (Fs : List (List Nat)), A = some ⟨blk, base, none⟩ ∧ F = blk :: Fs.flatten ∧ Fs.length = l.length ∧
      (∀ j, j < c * e.sz → ∃ v, w.cell? ⟨blk, base + j, none⟩ = some v ∧ w.frozen? ⟨blk, base + j, none⟩ = false) ∧
      ∀ i, i < l.length → ∃ cs, OwnT w e (l.getD i e.zero) cs (Fs.getD i []) ∧ ∀ j v, cs[j]? = some v → w.cell? ⟨blk, base + (i * e.sz + j), none⟩ = some v)
  | .pr a b, x, vs, F => ∃ v1 v2 F1 F2, vs = v1 ++ v2 ∧ F = F1 ++ F2 ∧ OwnT w a x.1 v1 F1 ∧ OwnT w b x.2 v2 F2
theorem OwnT.trans {w w' : World} : ∀ {k : K} {x : k.T} {vs : List Value} {F : List Nat}, OwnT w k x vs F →
    (∀ a v, a.block ∈ F → w.cell? a = some v → w'.cell? a = some v ∧ w'.frozen? a = w.frozen? a) → OwnT w' k x vs F
  | .int _, _, _, _, h, _ | .bool, _, _, _, h, _ | .str, _, _, _, h, _ => h
  | .sl e, l, vs, F, h, H => by
    obtain ⟨A, c, hv, hc, hr⟩ := h
    refine ⟨A, c, hv, hc, ?_⟩
    rcases hr with hr | ⟨blk, base, Fs, hA, hF, hl, hw, hr⟩
    · exact .inl hr
    · subst hF
      refine .inr ⟨blk, base, Fs, hA, rfl, hl, fun j hj => ?_, fun i hi => ?_⟩
      · obtain ⟨v, h1, h2⟩ := hw j hj
        obtain ⟨h3, h4⟩ := H _ _ (by simp) h1
        exact ⟨v, h3, h4.trans h2⟩
      · obtain ⟨cs, h1, h2⟩ := hr i hi
        refine ⟨cs, OwnT.trans h1 fun a v ha => H a v (List.mem_cons_of_mem _ ?_), fun j v hj => (H _ _ (by simp) (h2 j v hj)).1⟩
        rw [List.getD_eq_getElem?_getD, List.getElem?_eq_getElem (by omega)] at ha
        exact List.mem_flatten.2 ⟨_, List.getElem_mem _, ha⟩
  | .pr a b, x, vs, F, h, H => by
    obtain ⟨v1, v2, F1, F2, hv, hF, h1, h2⟩ := h
    subst hF
    exact ⟨v1, v2, F1, F2, hv, rfl, OwnT.trans h1 fun a v ha => H a v (List.mem_append_left _ ha), OwnT.trans h2 fun a v ha => H a v (List.mem_append_right _ ha)⟩
theorem OwnT.rep {w : World} {ok : Nat → Prop} : ∀ {k : K} {x : k.T} {vs : List Value} {F : List Nat}, OwnT w k x vs F → (∀ b ∈ F, ok b) → RepT w ok k x vs
  | .int _, _, _, _, h, _ | .bool, _, _, _, h, _ | .str, _, _, _, h, _ => h.1
  | .sl e, l, vs, F, h, H => by
    obtain ⟨A, c, hv, hc, hr⟩ := h
    refine ⟨A, c, hv, hc, fun i hi => ?_⟩
    rcases hr with ⟨hr, _⟩ | ⟨blk, base, Fs, hA, hF, hl, hw, hr⟩
    · omega
    · subst hF
      obtain ⟨cs, h1, h2⟩ := hr i hi
      refine ⟨_, hA, H blk (by simp), cs, OwnT.rep h1 fun b hb => H b (List.mem_cons_of_mem _ ?_), fun j v hj => by rw [Addr.add_mid]; exact h2 j v hj⟩
      rw [List.getD_eq_getElem?_getD, List.getElem?_eq_getElem (by omega)] at hb
      exact List.mem_flatten.2 ⟨_, List.getElem_mem _, hb⟩
  | .pr a b, x, vs, F, h, H => by
    obtain ⟨v1, v2, F1, F2, hv, hF, h1, h2⟩ := h
    subst hF
    exact ⟨v1, v2, hv, OwnT.rep h1 fun b hb => H b (List.mem_append_left _ hb), OwnT.rep h2 fun b hb => H b (List.mem_append_right _ hb)⟩
theorem OwnT.length {w : World} {k : K} {x : k.T} {vs : List Value} {F : List Nat} (h : OwnT w k x vs F) : vs.length = k.sz :=
  (h.rep (ok := fun _ => True) fun _ _ => trivial).length
theorem RepT.own {w : World} {ok : Nat → Prop} : ∀ {k : K} {x : k.T} {vs : List Value}, k.flat = true → RepT w ok k x vs → OwnT w k x vs []
  | .int _, _, _, _, h | .bool, _, _, _, h | .str, _, _, _, h => ⟨h, rfl⟩
  | .sl _, _, _, hf, _ => by simp [K.flat] at hf
  | .pr a b, x, vs, hf, h => by
    simp [K.flat] at hf
    obtain ⟨v1, v2, hv, h1, h2⟩ := h
    exact ⟨v1, v2, [], [], hv, rfl, h1.own hf.1, h2.own hf.2⟩
structure AI where
  sz : Nat
  n : Nat
  loc : Option (Nat × Nat × Nat)
structure Gh where
  B : Nat → Option (Nat × Nat)
  A : Nat → Option AI
  F : Nat → List (List Nat)
  E : Nat → Nat → Value
def Gh.inner (G : Gh) (id : Nat) : List Nat := (G.F id).flatten
def Gh.wr (G : Gh) (i : Nat) : Prop :=
  (∃ b base, G.B b = some (i, base)) ∨ (∃ id ai base m, G.A id = some ai ∧ ai.loc = some (i, base, m))
structure Cx where
  X : Nat → Prop
  T0 : Addr → Prop
  O : Nat → Prop
  w0 : World
  pin : Nat → Option (Nat × Nat)
  pinA : Nat → Option AI
  E : Nat → Nat → Value
def Cx.N0 (C : Cx) : Nat := C.w0.heap.size
def Cx.all (C : Cx) (b : Nat) : Prop := C.N0 ≤ b ∨ C.O b
def Gh.ok (G : Gh) (C : Cx) (i : Nat) : Prop := ¬ C.X i ∧ ¬ G.wr i
def PtrAt (G : Gh) (b off : Nat) (v : Value) : Prop := ∃ blk base, G.B b = some (blk, base) ∧ v = .pointer (some ⟨blk, base + off, none⟩)
def CapsAt (G : Gh) : List (Nat × Nat) → List Value → Prop
  | [], [] => True
  | p :: ps, v :: vs => PtrAt G p.1 p.2 v ∧ CapsAt G ps vs
  | _, _ => False
def RepLeaf (w : World) (ok : Nat → Prop) (G : Gh) : Leaf → Value → Prop
  | .int k x, v => v = .int k x
  | .bool b, v => v = .bool b
  | .str s, v => v = .string s
  | .sl e l x, v => RepT w ok (.sl e) l [v] ∧ ((x = .cap → ∃ A, v = .slice A l.length l.length) ∧ ∀ a j, x = .ec a j → v = G.E a j)
  | .nil, v => v = .slice none 0 0
  | .own id, v => ∃ ai a c, G.A id = some ai ∧ v = .slice a ai.n c ∧ ai.n ≤ c ∧
      (0 < c → ∃ blk base m, ai.loc = some (blk, base, m) ∧ a = some ⟨blk, base, none⟩ ∧ c * ai.sz ≤ m)
  | .sub id off len, v => ∃ ai a c, G.A id = some ai ∧ v = .slice a len c ∧ len ≤ c ∧ off + len ≤ ai.n ∧
      (0 < c → ∃ blk base m, ai.loc = some (blk, base, m) ∧ a = some ⟨blk, base + off * ai.sz, none⟩ ∧ (off + c) * ai.sz ≤ m)
  | .ptr b off, v => PtrAt G b off v
  | .fn f caps, v => ∃ cs : List Value, v = .func (.func f) #[] cs.toArray ∧ CapsAt G caps cs
  | .ifp t g b off, v => ∃ p, PtrAt G b off p ∧ v = .iface t (if g then .agg #[p] else p)
  | .nilp, v => v = .pointer none
  | .nilf, v => v = .nilFunc
  | .nili, v => v = .nilIface
  | .ifx, v => ∃ t x, v = .iface t x
  | .dead, v => v.oneCell' = true
theorem RepLeaf.one {w : World} {ok : Nat → Prop} {G : Gh} {l : Leaf} {v : Value} (h : RepLeaf w ok G l v) : v.oneCell' = true := by
  cases l <;> simp only [RepLeaf] at h
  case sl e l x => exact h.1.one v (by simp)
  case own => obtain ⟨_, _, _, _, rfl, _⟩ := h; rfl
  case sub => obtain ⟨_, _, _, _, rfl, _⟩ := h; rfl
  case ptr => obtain ⟨_, _, _, rfl⟩ := h; rfl
  case fn => obtain ⟨_, rfl, _⟩ := h; rfl
  case ifp => obtain ⟨_, _, rfl⟩ := h; rfl
  case ifx => obtain ⟨_, _, rfl⟩ := h; rfl
  case dead => exact h
  all_goals (subst h; rfl)
structure Gh.Le (G G' : Gh) : Prop where
  B : ∀ b p, G.B b = some p → G'.B b = some p
  A : ∀ id ai, G.A id = some ai → G'.A id = some ai
  E : G'.E = G.E
theorem Gh.Le.refl (G : Gh) : G.Le G := ⟨fun _ _ h => h, fun _ _ h => h, rfl⟩
theorem PtrAt.mono {G G' : Gh} (h : ∀ b p, G.B b = some p → G'.B b = some p) {b off : Nat} {v : Value} (hp : PtrAt G b off v) : PtrAt G' b off v := by
  obtain ⟨blk, base, hb, hv⟩ := hp
  exact ⟨blk, base, h _ _ hb, hv⟩
theorem CapsAt.mono {G G' : Gh} (h : ∀ b p, G.B b = some p → G'.B b = some p) : ∀ {ps : List (Nat × Nat)} {vs : List Value}, CapsAt G ps vs → CapsAt G' ps vs
  | [], [], _ => trivial
  | p :: ps, v :: vs, hc => ⟨hc.1.mono h, CapsAt.mono h hc.2⟩
  | [], _ :: _, hc => hc.elim
  | _ :: _, [], hc => hc.elim
def Keeps (w w' : World) (ok ok' : Nat → Prop) : Prop := ∀ a v, ok a.block → w.cell? a = some v → ok' a.block ∧ w'.cell? a = some v
theorem Keeps.refl (w : World) (ok : Nat → Prop) : Keeps w w ok ok := fun _ _ h1 h2 => ⟨h1, h2⟩
theorem Keeps.mono (w : World) {ok ok' : Nat → Prop} (h : ∀ i, ok i → ok' i) : Keeps w w ok ok' := fun _ _ h1 h2 => ⟨h _ h1, h2⟩
theorem RepLeaf.trans {w w' : World} {ok ok' : Nat → Prop} {G G' : Gh} (H : Keeps w w' ok ok') (hG : G.Le G') {l : Leaf} {v : Value} (h : RepLeaf w ok G l v) : RepLeaf w' ok' G' l v := by
  cases l <;> simp only [RepLeaf] at h ⊢
  case sl e l x => exact ⟨h.1.trans H, h.2.1, by rw [hG.E]; exact h.2.2⟩
  case own => obtain ⟨ai, a, c, h1, h2⟩ := h; exact ⟨ai, a, c, hG.A _ _ h1, h2⟩
  case sub => obtain ⟨ai, a, c, h1, h2⟩ := h; exact ⟨ai, a, c, hG.A _ _ h1, h2⟩
  case ptr => exact h.mono hG.B
  case fn => obtain ⟨cs, h1, h2⟩ := h; exact ⟨cs, h1, h2.mono hG.B⟩
  case ifp => obtain ⟨p, h1, h2⟩ := h; exact ⟨p, h1.mono hG.B, h2⟩
  all_goals exact h
def RepLeafs (w : World) (ok : Nat → Prop) (G : Gh) : List Leaf → List Value → Prop
  | [], [] => True
  | l :: ls, v :: vs => RepLeaf w ok G l v ∧ RepLeafs w ok G ls vs
  | _, _ => False
section
variable {w w' : World} {ok ok' : Nat → Prop} {G G' : Gh}
theorem RepLeafs.length : ∀ {ls : List Leaf} {vs : List Value}, RepLeafs w ok G ls vs → ls.length = vs.length
  | [], [], _ => rfl
  | _ :: _, _ :: _, h => by simp [RepLeafs.length h.2]
  | [], _ :: _, h => h.elim
  | _ :: _, [], h => h.elim
theorem RepLeafs.map {g : Leaf → Leaf} (hg : ∀ l v, RepLeaf w ok G l v → RepLeaf w' ok' G' (g l) v) : ∀ {ls : List Leaf} {vs : List Value}, RepLeafs w ok G ls vs → RepLeafs w' ok' G' (ls.map g) vs
  | [], [], _ => trivial
  | _ :: _, _ :: _, h => ⟨hg _ _ h.1, RepLeafs.map hg h.2⟩
  | [], _ :: _, h => h.elim
  | _ :: _, [], h => h.elim
theorem RepLeafs.trans (H : Keeps w w' ok ok') (hG : G.Le G') {ls : List Leaf} {vs : List Value} (h : RepLeafs w ok G ls vs) : RepLeafs w' ok' G' ls vs := by
  have := RepLeafs.map (g := id) (fun l v h => RepLeaf.trans H hG h) h
  simpa using this
theorem RepLeafs.get : ∀ {ls : List Leaf} {vs : List Value}, RepLeafs w ok G ls vs → ∀ (i : Nat) (l : Leaf), ls[i]? = some l → ∃ v, vs[i]? = some v ∧ RepLeaf w ok G l v
  | l :: ls, v :: vs, h, 0, _, e => by simp at e; subst e; exact ⟨v, rfl, h.1⟩
  | l :: ls, v :: vs, h, i + 1, _, e => by simpa using RepLeafs.get h.2 i _ (by simpa using e)
  | [], [], _, _, _, e => by simp at e
  | [], _ :: _, h, _, _, _ => h.elim
  | _ :: _, [], h, _, _, _ => h.elim
theorem RepLeafs.of_get : ∀ {ls : List Leaf} {vs : List Value}, ls.length = vs.length → (∀ (i : Nat) (l : Leaf) (v : Value), ls[i]? = some l → vs[i]? = some v → RepLeaf w ok G l v) → RepLeafs w ok G ls vs
  | [], [], _, _ => trivial
  | l :: ls, v :: vs, hl, h => ⟨h 0 l v rfl rfl, RepLeafs.of_get (by simpa using hl) fun i l v h1 h2 => h (i + 1) l v (by simpa using h1) (by simpa using h2)⟩
  | [], _ :: _, hl, _ => by simp at hl
  | _ :: _, [], hl, _ => by simp at hl
theorem RepLeafs.append : ∀ {ls ls' : List Leaf} {vs vs' : List Value}, RepLeafs w ok G ls vs → RepLeafs w ok G ls' vs' → RepLeafs w ok G (ls ++ ls') (vs ++ vs')
  | [], _, [], _, _, h' => h'
  | _ :: _, _, _ :: _, _, h, h' => ⟨h.1, RepLeafs.append h.2 h'⟩
  | [], _, _ :: _, _, h, _ => h.elim
  | _ :: _, _, [], _, h, _ => h.elim
theorem RepLeafs.take {ls : List Leaf} {vs : List Value} (h : RepLeafs w ok G ls vs) (n : Nat) : RepLeafs w ok G (ls.take n) (vs.take n) :=
  RepLeafs.of_get (by simp [h.length]) fun i l v h1 h2 => by
    rw [List.getElem?_take] at h1 h2
    split at h1
    · rename_i hi
      rw [if_pos hi] at h2
      obtain ⟨v', hv', hr⟩ := h.get i l h1
      rw [h2] at hv'; cases hv'; exact hr
    · cases h1
theorem RepLeafs.drop {ls : List Leaf} {vs : List Value} (h : RepLeafs w ok G ls vs) (n : Nat) : RepLeafs w ok G (ls.drop n) (vs.drop n) :=
  RepLeafs.of_get (by simp [h.length]) fun i l v h1 h2 => by
    rw [List.getElem?_drop] at h1 h2
    obtain ⟨v', hv', hr⟩ := h.get _ l h1
    rw [h2] at hv'; cases hv'; exact hr
theorem RepLeafs.one {ls : List Leaf} {vs : List Value} (h : RepLeafs w ok G ls vs) : ∀ v ∈ vs, v.oneCell' = true := by
  intro v hv
  obtain ⟨i, hi⟩ := List.getElem?_of_mem hv
  have hlt : i < vs.length := (List.getElem?_eq_some_iff.1 hi).1
  obtain ⟨v', h1, h2⟩ := h.get i (ls[i]'(by rw [h.length]; exact hlt)) (List.getElem?_eq_getElem _)
  rw [hi] at h1; cases h1; exact h2.one
end
theorem RepT.lv {w : World} {ok : Nat → Prop} {G : Gh} : ∀ {k : K} {x : k.T} {vs : List Value}, RepT w ok k x vs → RepLeafs w ok G (k.lv x) vs
  | .int _, _, _, h | .bool, _, _, h | .str, _, _, h => by rw [h]; exact ⟨rfl, trivial⟩
  | .sl e, l, vs, h => by
    obtain ⟨A, c, rfl, h1, h2⟩ := h
    exact ⟨⟨⟨A, c, rfl, h1, h2⟩, fun h => (by cases h), fun _ _ h => (by cases h)⟩, trivial⟩
  | .pr a b, x, vs, h => by
    obtain ⟨v1, v2, rfl, h1, h2⟩ := h
    exact RepLeafs.append h1.lv h2.lv
theorem K.lv_length : ∀ (k : K) (x : k.T), (k.lv x).length = k.sz
  | .int _, _ | .bool, _ | .str, _ | .sl _, _ => rfl
  | .pr a b, x => by simp [K.lv, K.sz, K.lv_length a, K.lv_length b]
theorem RepLeafs.rd {w : World} {ok : Nat → Prop} {G : Gh} : ∀ {k : K} {ls : List Leaf} {vs : List Value} {x : k.T}, RepLeafs w ok G ls vs → k.rd ls = some x → RepT w ok k x vs
  | .int k, ls, vs, x, h, e => by
    match ls, vs, h, e with
    | [.int k' y], [v], h, e =>
      simp only [K.rd] at e
      split at e
      · rename_i hk; subst hk; cases e; have := h.1; simp only [RepLeaf] at this; subst this; rfl
      · cases e
  | .bool, ls, vs, x, h, e => by
    match ls, vs, h, e with
    | [.bool y], [v], h, e => simp only [K.rd, Option.some.injEq] at e; subst e; have := h.1; simp only [RepLeaf] at this; subst this; rfl
  | .str, ls, vs, x, h, e => by
    match ls, vs, h, e with
    | [.str y], [v], h, e => simp only [K.rd, Option.some.injEq] at e; subst e; have := h.1; simp only [RepLeaf] at this; subst this; rfl
  | .sl k, ls, vs, x, h, e => by
    match ls, vs, h, e with
    | [.sl e' l b], [v], h, e =>
      simp only [K.rd] at e
      split at e
      · rename_i hk; subst hk; cases e; exact h.1.1
      · cases e
    | [.nil], [v], h, e =>
      simp only [K.rd, Option.some.injEq] at e; subst e
      have := h.1; simp only [RepLeaf] at this; subst this
      exact ⟨none, 0, rfl, Nat.le_refl _, fun i hi => absurd hi (by simp)⟩
  | .pr a b, ls, vs, x, h, e => by
    simp only [K.rd] at e
    split at e
    · rename_i y z h1 h2
      cases e
      refine ⟨vs.take a.sz, vs.drop a.sz, (List.take_append_drop _ _).symm, RepLeafs.rd (h.take _) h1, RepLeafs.rd (h.drop _) h2⟩
    · cases e
def RepTup (w : World) (ok : Nat → Prop) (G : Gh) : List (Bool × List Leaf) → List Value → Prop
  | [], [] => True
  | x :: xs, v :: vs => (∃ cs, RepLeafs w ok G x.2 cs ∧ ((x.1 = true ∧ v = .agg cs.toArray) ∨ (x.1 = false ∧ cs = [v]))) ∧ RepTup w ok G xs vs
  | _, _ => False
def RepSlot (w : World) (ok : Nat → Prop) (G : Gh) : Slot → Value → Prop
  | .lf l, v => RepLeaf w ok G l v
  | .ag ls, v => ∃ vs, v = .agg vs.toArray ∧ RepLeafs w ok G ls vs
  | .tp xs, v => ∃ vs, v = .tuple vs.toArray ∧ RepTup w ok G xs vs
  | .ep id i off, v => ∃ ai blk base m, G.A id = some ai ∧ ai.loc = some (blk, base, m) ∧ i < ai.n ∧ v = .pointer (some ⟨blk, base + i * ai.sz + off, none⟩)
  | .rp ls, v => ∃ ad, v = .pointer (some ad) ∧ (ls ≠ [] → ok ad.block) ∧ ∃ cs, RepLeafs w ok G ls cs ∧ ∀ j c, cs[j]? = some c → w.cell? (ad.add j) = some c
  | .dead, _ => True
theorem RepTup.map {w w' : World} {ok ok' : Nat → Prop} {G G' : Gh} {g : Leaf → Leaf} (hg : ∀ l v, RepLeaf w ok G l v → RepLeaf w' ok' G' (g l) v) :
    ∀ {xs : List (Bool × List Leaf)} {vs : List Value}, RepTup w ok G xs vs → RepTup w' ok' G' (xs.map fun v => (v.1, v.2.map g)) vs
  | [], [], _ => trivial
  | x :: xs, v :: vs, h => by
    obtain ⟨⟨cs, h1, h2⟩, h3⟩ := h
    exact ⟨⟨cs, h1.map hg, h2⟩, RepTup.map hg h3⟩
  | [], _ :: _, h => h.elim
  | _ :: _, [], h => h.elim
theorem RepTup.trans {w w' : World} {ok ok' : Nat → Prop} {G G' : Gh} (H : Keeps w w' ok ok') (hG : G.Le G') {xs : List (Bool × List Leaf)} {vs : List Value} (h : RepTup w ok G xs vs) : RepTup w' ok' G' xs vs := by
  have := RepTup.map (g := id) (fun l v h => RepLeaf.trans H hG h) h
  simpa using this
theorem RepSlot.trans {w w' : World} {ok ok' : Nat → Prop} {G G' : Gh} (H : Keeps w w' ok ok') (hG : G.Le G') {s : Slot} {v : Value} (h : RepSlot w ok G s v) : RepSlot w' ok' G' s v := by
  cases s <;> simp only [RepSlot] at h ⊢
  case lf => exact h.trans H hG
  case ag => obtain ⟨vs, h1, h2⟩ := h; exact ⟨vs, h1, h2.trans H hG⟩
  case tp => obtain ⟨vs, h1, h2⟩ := h; exact ⟨vs, h1, h2.trans H hG⟩
  case ep => obtain ⟨ai, blk, base, m, h1, h2⟩ := h; exact ⟨ai, blk, base, m, hG.A _ _ h1, h2⟩
  case rp ls =>
    obtain ⟨ad, h1, h2, cs, h3, h4⟩ := h
    by_cases hn : ls = []
    · subst hn
      refine ⟨ad, h1, fun h => absurd rfl h, cs, h3.trans H hG, fun j c hj => ?_⟩
      have := h3.length
      simp at this
      have : cs = [] := List.eq_nil_of_length_eq_zero this.symm
      subst this; simp at hj
    · have hok := h2 hn
      have hl := h3.length
      have hpos : 0 < cs.length := by rw [← hl]; exact List.length_pos_iff.2 hn
      have hc0 := h4 0 _ (List.getElem?_eq_getElem hpos)
      refine ⟨ad, h1, fun _ => ?_, cs, h3.trans H hG, fun j c hj => (H _ _ (by rw [addr_add_block]; exact hok) (h4 j c hj)).2⟩
      have := (H _ _ (by rw [addr_add_block]; exact hok) hc0).1
      rwa [addr_add_block] at this
namespace Tr
variable {α : Type}
theorem get_zero (v : Option α) (l r : Tr α) : (Tr.nd v l r).get 0 = v := rfl
theorem get_odd (v : Option α) (l r : Tr α) {i : Nat} (h : i % 2 = 1) : (Tr.nd v l r).get i = l.get (i / 2) := by
  have h0 : (i == 0) = false := beq_eq_false_iff_ne.2 (by omega)
  simp [get, h0, h]
theorem get_even (v : Option α) (l r : Tr α) {i : Nat} (h0 : i ≠ 0) (h : i % 2 ≠ 1) : (Tr.nd v l r).get i = r.get (i / 2 - 1) := by
  have h1 : (i == 0) = false := beq_eq_false_iff_ne.2 h0
  have h2 : (i % 2 == 1) = false := beq_eq_false_iff_ne.2 h
  simp [get, h1, h2]
def parts : Tr α → Option α × Tr α × Tr α
  | .nil => (none, .nil, .nil)
  | .nd v l r => (v, l, r)
theorem get_parts (t : Tr α) (i : Nat) : t.get i = (Tr.nd t.parts.1 t.parts.2.1 t.parts.2.2).get i := by
  cases t with
  | nil => by_cases h0 : i = 0
           · subst h0; rfl
           · by_cases h : i % 2 = 1
             · rw [get_odd _ _ _ h]; rfl
             · rw [get_even _ _ _ h0 h]; rfl
  | nd => rfl
theorem setF_parts (f : Nat) (t : Tr α) (i : Nat) (v : Option α) : setF (f + 1) t i v =
    if i = 0 then .nd v t.parts.2.1 t.parts.2.2 else if i % 2 = 1 then .nd t.parts.1 (setF f t.parts.2.1 (i / 2) v) t.parts.2.2 else .nd t.parts.1 t.parts.2.1 (setF f t.parts.2.2 (i / 2 - 1) v) := by
  by_cases h0 : i = 0
  · subst h0; cases t <;> rfl
  · have h1 : (i == 0) = false := beq_eq_false_iff_ne.2 h0
    by_cases h : i % 2 = 1
    · cases t <;> simp [setF, h1, h, h0, parts]
    · have h2 : (i % 2 == 1) = false := beq_eq_false_iff_ne.2 h
      cases t <;> simp [setF, h1, h2, h, h0, parts]
theorem get_setF_ne : ∀ (f : Nat) (t : Tr α) (i j : Nat) (v : Option α), j ≠ i → (setF f t i v).get j = t.get j
  | 0, _, _, _, _, _ => rfl
  | f + 1, t, i, j, v, h => by
    rw [setF_parts, get_parts t j]
    by_cases hj : j = 0
    · subst hj
      rw [if_neg (fun e => h e.symm)]
      split <;> rfl
    · by_cases h0 : i = 0
      · rw [if_pos h0]
        by_cases hj1 : j % 2 = 1
        · rw [get_odd _ _ _ hj1, get_odd _ _ _ hj1]
        · rw [get_even _ _ _ hj hj1, get_even _ _ _ hj hj1]
      · rw [if_neg h0]
        by_cases hj1 : j % 2 = 1
        · rw [get_odd _ _ _ hj1]
          split
          · rw [get_odd _ _ _ hj1, get_setF_ne f _ _ _ _ (by omega)]
          · rw [get_odd _ _ _ hj1]
        · rw [get_even _ _ _ hj hj1]
          split
          · rw [get_even _ _ _ hj hj1]
          · rw [get_even _ _ _ hj hj1, get_setF_ne f _ _ _ _ (by omega)]
theorem get_setF_same : ∀ (f : Nat) (t : Tr α) (i : Nat) (v : Option α), i + 1 < 2 ^ f → (setF f t i v).get i = v
  | 0, _, i, _, h => by simp at h
  | f + 1, t, i, v, h => by
    rw [setF_parts]
    rw [Nat.pow_succ] at h
    by_cases h0 : i = 0
    · subst h0; rfl
    · rw [if_neg h0]
      by_cases h1 : i % 2 = 1
      · rw [if_pos h1, get_odd _ _ _ h1]
        exact get_setF_same f _ _ _ (by omega)
      · rw [if_neg h1, get_even _ _ _ h0 h1]
        exact get_setF_same f _ _ _ (by omega)
theorem get_set_ne (t : Tr α) {i j : Nat} (v : Option α) (h : j ≠ i) : (t.set i v).get j = t.get j := get_setF_ne 16 t i j v h
theorem get_set_same (t : Tr α) {i : Nat} (v : Option α) (h : i < 65000) : (t.set i v).get i = v := get_setF_same 16 t i v (by omega)
theorem get_set (t : Tr α) {i : Nat} (v : Option α) (h : i < 65000) (j : Nat) : (t.set i v).get j = if j = i then v else t.get j := by
  split
  · rename_i e; subst e; exact get_set_same t v h
  · rename_i e; exact get_set_ne t v e
theorem get_map {β : Type} (g : α → Option β) : ∀ (t : Tr α) (i : Nat), (t.map g).get i = (t.get i).bind g
  | .nil, _ => rfl
  | .nd v l r, i => by
    by_cases h0 : i = 0
    · subst h0; rfl
    · by_cases h : i % 2 = 1
      · rw [get_odd _ _ _ h, map, get_odd _ _ _ h, get_map g l]
      · rw [get_even _ _ _ h0 h, map, get_even _ _ _ h0 h, get_map g r]
end Tr
end Go.Ev

namespace Go.Ev
def Cx.may (C : Cx) (blk : Nat) : Prop := C.N0 ≤ blk ∨ ∃ o, C.T0 ⟨blk, o, none⟩
structure BoxAt (C : Cx) (G : Gh) (w : World) (blk base : Nat) (ls : List Leaf) : Prop where
  wr : ∀ i, i < ls.length → C.N0 ≤ blk ∨ C.T0 ⟨blk, base + i, none⟩
  fz : ∀ i, i < ls.length → w.frozen? ⟨blk, base + i, none⟩ = false
  vs : ∃ vs, RepLeafs w (G.ok C) G ls vs ∧ w.rangeAt blk base vs
structure ArrAt (C : Cx) (G : Gh) (w : World) (ai : AI) (a : Arr) : Prop where
  sz : ai.sz = a.e.sz
  n : ai.n = a.l.length
  nil : ai.loc = none → ai.n = 0
  may : ∀ blk base m, ai.loc = some (blk, base, m) → C.may blk
  wr : ∀ blk base m, ai.loc = some (blk, base, m) → ∀ j, j < m → C.N0 ≤ blk ∨ C.T0 ⟨blk, base + j, none⟩
  le : ∀ blk base m, ai.loc = some (blk, base, m) → ai.n * ai.sz ≤ m
  there : ∀ blk base m, ai.loc = some (blk, base, m) → ∀ j, j < m → ∃ v, w.cell? ⟨blk, base + j, none⟩ = some v ∧ w.frozen? ⟨blk, base + j, none⟩ = false
  el : ∀ blk base m, ai.loc = some (blk, base, m) → ∀ i, i < ai.n → ∃ cs, RepT w (G.ok C) a.e (a.l.getD i a.e.zero) cs ∧ ∀ j v, cs[j]? = some v → w.cell? ⟨blk, base + (i * ai.sz + j), none⟩ = some v
structure OwnArr (C : Cx) (w : World) (ai : AI) (a : Arr) (Fs : List (List Nat)) : Prop where
  new : ∀ blk base m, ai.loc = some (blk, base, m) → C.all blk
  len : Fs.length = a.l.length
  el : ∀ blk base m, ai.loc = some (blk, base, m) → ∀ i, i < ai.n → ∃ cs, OwnT w a.e (a.l.getD i a.e.zero) cs (Fs.getD i []) ∧ ∀ j v, cs[j]? = some v → w.cell? ⟨blk, base + (i * ai.sz + j), none⟩ = some v
structure MemR (C : Cx) (G : Gh) (box : Tr (List Leaf)) (arr : Tr Arr) (w : World) : Prop where
  bdom : ∀ b p, G.B b = some p → ∃ ls, box.get b = some ls
  adom : ∀ id ai, G.A id = some ai → ∃ a, arr.get id = some a
  boxR : ∀ b ls, box.get b = some ls → ∃ blk base, G.B b = some (blk, base) ∧ BoxAt C G w blk base ls
  arrR : ∀ id a, arr.get id = some a → ∃ ai, G.A id = some ai ∧ ArrAt C G w ai a
  lt : ∀ i, G.wr i → i < w.heap.size
  bb : ∀ b b' ls ls' blk base base', b ≠ b' → box.get b = some ls → box.get b' = some ls' → G.B b = some (blk, base) → G.B b' = some (blk, base') → base + ls.length ≤ base' ∨ base' + ls'.length ≤ base
  aa : ∀ id id' ai ai' blk base m base' m', id ≠ id' → G.A id = some ai → G.A id' = some ai' → ai.loc = some (blk, base, m) → ai'.loc = some (blk, base', m') → False
  ab : ∀ b id ai blk base base' m, G.B b = some (blk, base) → G.A id = some ai → ai.loc = some (blk, base', m) → False
  own : ∀ id a ai, arr.get id = some a → G.A id = some ai → a.deep = true → OwnArr C w ai a (G.F id)
  fnd : ∀ id, (G.inner id).Nodup
  fdj : ∀ id id', id ≠ id' → ∀ b, b ∈ G.inner id → b ∉ G.inner id'
  fwr : ∀ id b, b ∈ G.inner id → C.all b ∧ b < w.heap.size ∧ ¬ G.wr b
  X : ∀ i, C.X i → ¬ C.may i ∧ ¬ C.O i
  size : C.N0 ≤ w.heap.size
  ia : ∀ id ai, G.A id = some ai → id < 65000
  ib : ∀ b p, G.B b = some p → b < 65000
  pin : ∀ b p, C.pin b = some p → G.B b = some p ∧ 60000 ≤ b ∧ b < 60016
  pinA : ∀ id p, C.pinA id = some p → (64000 ≤ id ∧ id < 65000) ∧ ∀ ai, G.A id = some ai → ai = p
  E : G.E = C.E
def Gh.setA (G : Gh) (id : Nat) (ai : Option AI) (F : List (List Nat)) : Gh :=
  { G with A := fun j => if j = id then ai else G.A j, F := fun j => if j = id then F else G.F j }
def Gh.setB (G : Gh) (b : Nat) (p : Nat × Nat) : Gh := { G with B := fun j => if j = b then some p else G.B j }
theorem Gh.setA_same (G : Gh) (id : Nat) (ai : Option AI) (F : List (List Nat)) : (G.setA id ai F).A id = ai := if_pos rfl
theorem Gh.setA_ne (G : Gh) {id j : Nat} (ai : Option AI) (F : List (List Nat)) (h : j ≠ id) : (G.setA id ai F).A j = G.A j := if_neg h
theorem Gh.inner_same (G : Gh) (id : Nat) (ai : Option AI) (F : List (List Nat)) : (G.setA id ai F).inner id = F.flatten := by simp [Gh.inner, Gh.setA]
theorem Gh.inner_ne (G : Gh) {id j : Nat} (ai : Option AI) (F : List (List Nat)) (h : j ≠ id) : (G.setA id ai F).inner j = G.inner j := by simp [Gh.inner, Gh.setA, h]
theorem Gh.wr_of_B {G : Gh} {b blk base : Nat} (h : G.B b = some (blk, base)) : G.wr blk := .inl ⟨b, base, h⟩
theorem Gh.wr_of_A {G : Gh} {id : Nat} {ai : AI} {blk base m : Nat} (h : G.A id = some ai) (hl : ai.loc = some (blk, base, m)) : G.wr blk := .inr ⟨id, ai, base, m, h, hl⟩
theorem mem_inner {G : Gh} {id i b : Nat} (h : b ∈ (G.F id).getD i []) : b ∈ G.inner id := by
  rw [List.getD_eq_getElem?_getD] at h
  cases hi : (G.F id)[i]? with
  | none => rw [hi] at h; simp at h
  | some l =>
    rw [hi] at h
    exact List.mem_flatten.2 ⟨l, List.mem_of_getElem? hi, h⟩
section
variable {C : Cx} {G : Gh} {box : Tr (List Leaf)} {arr : Tr Arr} {w w' : World}
theorem BoxAt.trans {G' : Gh} {blk base : Nat} {ls : List Leaf} {g : Leaf → Leaf} (h : BoxAt C G w blk base ls)
    (hg : ∀ l v, RepLeaf w (G.ok C) G l v → RepLeaf w' (G'.ok C) G' (g l) v)
    (hw : ∀ i v, i < ls.length → w.cell? ⟨blk, base + i, none⟩ = some v → w'.cell? ⟨blk, base + i, none⟩ = some v ∧ w'.frozen? ⟨blk, base + i, none⟩ = w.frozen? ⟨blk, base + i, none⟩) : BoxAt C G' w' blk base (ls.map g) := by
  obtain ⟨vs, h1, h2⟩ := h.vs
  have hl := h1.length
  refine ⟨fun i hi => h.wr i (by simpa using hi), fun i hi => ?_, vs, h1.map hg, fun j v hj => ?_⟩
  · have hi' : i < ls.length := by simpa using hi
    rw [(hw i _ hi' (h2 i _ (List.getElem?_eq_getElem (by omega)))).2]
    exact h.fz i hi'
  · have : j < vs.length := (List.getElem?_eq_some_iff.1 hj).1
    exact (hw j v (by omega) (h2 j v hj)).1
theorem ArrAt.trans {G' : Gh} {ai : AI} {a : Arr} (h : ArrAt C G w ai a) (H : Keeps w w' (G.ok C) (G'.ok C))
    (hw : ∀ blk base m, ai.loc = some (blk, base, m) → ∀ o v, w.cell? ⟨blk, o, none⟩ = some v → w'.cell? ⟨blk, o, none⟩ = some v ∧ w'.frozen? ⟨blk, o, none⟩ = w.frozen? ⟨blk, o, none⟩) : ArrAt C G' w' ai a := by
  refine ⟨h.sz, h.n, h.nil, h.may, h.wr, h.le, fun blk base m hl j hj => ?_, fun blk base m hl i hi => ?_⟩
  · obtain ⟨v, h1, h2⟩ := h.there blk base m hl j hj
    obtain ⟨h3, h4⟩ := hw blk base m hl _ v h1
    exact ⟨v, h3, h4.trans h2⟩
  · obtain ⟨cs, h1, h2⟩ := h.el blk base m hl i hi
    exact ⟨cs, h1.trans H, fun j v hj => (hw blk base m hl _ v (h2 j v hj)).1⟩
theorem OwnArr.trans {ai : AI} {a : Arr} {Fs : List (List Nat)} (h : OwnArr C w ai a Fs)
    (hF : ∀ x v, x.block ∈ Fs.flatten → w.cell? x = some v → w'.cell? x = some v ∧ w'.frozen? x = w.frozen? x)
    (hw : ∀ blk base m, ai.loc = some (blk, base, m) → ∀ o v, w.cell? ⟨blk, o, none⟩ = some v → w'.cell? ⟨blk, o, none⟩ = some v) : OwnArr C w' ai a Fs := by
  refine ⟨h.new, h.len, fun blk base m hl i hi => ?_⟩
  obtain ⟨cs, h1, h2⟩ := h.el blk base m hl i hi
  refine ⟨cs, h1.trans fun x v hx => hF x v ?_, fun j v hj => hw blk base m hl _ v (h2 j v hj)⟩
  rw [List.getD_eq_getElem?_getD] at hx
  cases hi : Fs[i]? with
  | none => rw [hi] at hx; simp at hx
  | some l => rw [hi] at hx; exact List.mem_flatten.2 ⟨l, List.mem_of_getElem? hi, hx⟩
theorem MemR.upd_arr (h : MemR C G box arr w) {id : Nat} (hid : id < 65000) {a' : Arr} {ai' : AI} {F' : List (List Nat)} {g : Leaf → Leaf} {box' : Tr (List Leaf)}
    (hsize : w.heap.size ≤ w'.heap.size)
    (hw : ∀ x v, (∀ ai blk base m, G.A id = some ai → ai.loc = some (blk, base, m) → x.block ≠ blk) → w.cell? x = some v → w'.cell? x = some v ∧ w'.frozen? x = w.frozen? x)
    (hl : ∀ blk base m, ai'.loc = some (blk, base, m) → (w.heap.size ≤ blk ∧ blk < w'.heap.size) ∨ ∃ ai base m, G.A id = some ai ∧ ai.loc = some (blk, base, m))
    (ha : Keeps w w' (G.ok C) ((G.setA id (some ai') F').ok C) → ArrAt C (G.setA id (some ai') F') w' ai' a')
    (ho : a'.deep = true → OwnArr C w' ai' a' F')
    (hF : F'.flatten.Nodup)
    (hF2 : ∀ b ∈ F'.flatten, C.all b ∧ b < w'.heap.size ∧ ¬ (G.setA id (some ai') F').wr b ∧ ∀ id', id' ≠ id → b ∉ G.inner id')
    (hg : Keeps w w' (G.ok C) ((G.setA id (some ai') F').ok C) → ∀ l v, RepLeaf w (G.ok C) G l v → RepLeaf w' ((G.setA id (some ai') F').ok C) (G.setA id (some ai') F') (g l) v)
    (hb : ∀ b, box'.get b = (box.get b).map (List.map g)) (hpin : ∀ p, C.pinA id = some p → ai' = p) :
    MemR C (G.setA id (some ai') F') box' (arr.set id (some a')) w' ∧ Keeps w w' (G.ok C) ((G.setA id (some ai') F').ok C) := by
  have hwr : ∀ i, (G.setA id (some ai') F').wr i → G.wr i ∨ (w.heap.size ≤ i ∧ i < w'.heap.size) := by
    rintro i (⟨b, base, hb⟩ | ⟨j, ai, base, m, hj, hloc⟩)
    · exact .inl (Gh.wr_of_B hb)
    · by_cases e : j = id
      · subst e
        rw [Gh.setA_same] at hj; cases hj
        rcases hl _ _ _ hloc with h1 | ⟨ai, base, m, h1, h2⟩
        · exact .inr h1
        · exact .inl (Gh.wr_of_A h1 h2)
      · rw [Gh.setA_ne _ _ _ e] at hj
        exact .inl (Gh.wr_of_A hj hloc)
  have H : Keeps w w' (G.ok C) ((G.setA id (some ai') F').ok C) := by
    intro x v hok hx
    refine ⟨⟨hok.1, fun hc => ?_⟩, (hw x v (fun ai blk base m h1 h2 e => hok.2 (e ▸ Gh.wr_of_A h1 h2)) hx).1⟩
    rcases hwr _ hc with hc | ⟨hc, _⟩
    · exact hok.2 hc
    · have := World.block_lt_of_cell? w _ hx; omega
  refine ⟨?_, H⟩
  have hg' := hg H
  have hoth : ∀ {blk o v}, (∀ ai base m, G.A id = some ai → ai.loc = some (blk, base, m) → False) → w.cell? ⟨blk, o, none⟩ = some v → w'.cell? ⟨blk, o, none⟩ = some v ∧ w'.frozen? ⟨blk, o, none⟩ = w.frozen? ⟨blk, o, none⟩ :=
    fun {blk o v} hne hx => hw _ v (fun ai blk' base m h1 h2 (e : blk = blk') => hne ai base m h1 (e ▸ h2)) hx
  constructor
  · intro b p hp
    obtain ⟨ls, hls⟩ := h.bdom b p hp
    exact ⟨ls.map g, by rw [hb, hls]; rfl⟩
  · intro j ai hj
    by_cases e : j = id
    · exact ⟨a', by rw [e, Tr.get_set_same _ _ hid]⟩
    · rw [Gh.setA_ne _ _ _ e] at hj
      obtain ⟨a, ha⟩ := h.adom j ai hj
      exact ⟨a, by rw [Tr.get_set_ne _ _ e]; exact ha⟩
  · intro b ls hls
    rw [hb] at hls
    obtain ⟨ls0, h0, rfl⟩ := Option.map_eq_some_iff.1 hls
    obtain ⟨blk, base, hB, hat⟩ := h.boxR b ls0 h0
    exact ⟨blk, base, hB, hat.trans hg' fun i v hi hx => hoth (fun ai base' m h1 h2 => h.ab b id ai blk base base' m hB h1 h2) hx⟩
  · intro j a hj
    by_cases e : j = id
    · subst e
      rw [Tr.get_set_same _ _ hid] at hj; cases hj
      exact ⟨ai', Gh.setA_same .., ha H⟩
    · rw [Tr.get_set_ne _ _ e] at hj
      obtain ⟨ai, h1, h2⟩ := h.arrR j a hj
      refine ⟨ai, by rw [Gh.setA_ne _ _ _ e]; exact h1, h2.trans H fun blk base m hloc o v hx => hoth (fun ai' base' m' h3 h4 => h.aa j id ai ai' blk base m base' m' e h1 h3 hloc h4) hx⟩
  · intro i hi
    rcases hwr i hi with hi | ⟨_, hi⟩
    · have := h.lt i hi; omega
    · exact hi
  · intro b b' ls ls' blk base base' hne h1 h2 hB hB'
    rw [hb] at h1 h2
    obtain ⟨l1, e1, rfl⟩ := Option.map_eq_some_iff.1 h1
    obtain ⟨l2, e2, rfl⟩ := Option.map_eq_some_iff.1 h2
    simpa using h.bb b b' l1 l2 blk base base' hne e1 e2 hB hB'
  · intro i j ai aj blk base m base' m' hne h1 h2 h3 h4
    by_cases e : i = id
    · subst e
      rw [Gh.setA_same] at h1; cases h1
      rw [Gh.setA_ne _ _ _ (Ne.symm hne)] at h2
      rcases hl _ _ _ h3 with ⟨h5, _⟩ | ⟨ai, base2, m2, h5, h6⟩
      · have := h.lt blk (Gh.wr_of_A h2 h4); omega
      · exact h.aa i j ai aj blk base2 m2 base' m' hne h5 h2 h6 h4
    · rw [Gh.setA_ne _ _ _ e] at h1
      by_cases e' : j = id
      · subst e'
        rw [Gh.setA_same] at h2; cases h2
        rcases hl _ _ _ h4 with ⟨h5, _⟩ | ⟨ai2, base2, m2, h5, h6⟩
        · have := h.lt blk (Gh.wr_of_A h1 h3); omega
        · exact h.aa i j ai ai2 blk base m base2 m2 hne h1 h5 h3 h6
      · rw [Gh.setA_ne _ _ _ e'] at h2
        exact h.aa i j ai aj blk base m base' m' hne h1 h2 h3 h4
  · intro b j ai blk base base' m hB h1 h2
    by_cases e : j = id
    · subst e
      rw [Gh.setA_same] at h1; cases h1
      rcases hl _ _ _ h2 with ⟨h5, _⟩ | ⟨ai2, base2, m2, h5, h6⟩
      · have := h.lt blk (Gh.wr_of_B hB); omega
      · exact h.ab b j ai2 blk base base2 m2 hB h5 h6
    · rw [Gh.setA_ne _ _ _ e] at h1
      exact h.ab b j ai blk base base' m hB h1 h2
  · intro j a ai hj hA hd
    by_cases e : j = id
    · subst e
      rw [Tr.get_set_same _ _ hid] at hj; cases hj
      rw [Gh.setA_same] at hA; cases hA
      simpa [Gh.setA] using ho hd
    · rw [Tr.get_set_ne _ _ e] at hj
      rw [Gh.setA_ne _ _ _ e] at hA
      have := h.own j a ai hj hA hd
      have hFj : (G.setA id (some ai') F').F j = G.F j := by simp [Gh.setA, e]
      rw [hFj]
      refine this.trans (fun x v hx hc => hw x v (fun ai2 blk base m h1 h2 e2 => ?_) hc) fun blk base m hloc o v hx => (hoth (fun ai2 base' m' h3 h4 => h.aa j id ai ai2 blk base m base' m' e hA h3 hloc h4) hx).1
      exact (h.fwr j x.block hx).2.2 (e2 ▸ Gh.wr_of_A h1 h2)
  · intro j
    by_cases e : j = id
    · subst e; rw [Gh.inner_same]; exact hF
    · rw [Gh.inner_ne _ _ _ e]; exact h.fnd j
  · intro i j hne b h1 h2
    by_cases e : i = id
    · subst e
      rw [Gh.inner_same] at h1
      rw [Gh.inner_ne _ _ _ (Ne.symm hne)] at h2
      exact (hF2 b h1).2.2.2 j (Ne.symm hne) h2
    · rw [Gh.inner_ne _ _ _ e] at h1
      by_cases e' : j = id
      · subst e'
        rw [Gh.inner_same] at h2
        exact (hF2 b h2).2.2.2 i e h1
      · rw [Gh.inner_ne _ _ _ e'] at h2
        exact h.fdj i j hne b h1 h2
  · intro j b hb
    by_cases e : j = id
    · subst e
      rw [Gh.inner_same] at hb
      exact ⟨(hF2 b hb).1, (hF2 b hb).2.1, (hF2 b hb).2.2.1⟩
    · rw [Gh.inner_ne _ _ _ e] at hb
      obtain ⟨h1, h2, h3⟩ := h.fwr j b hb
      refine ⟨h1, by omega, fun hc => ?_⟩
      rcases hwr b hc with hc | ⟨hc, _⟩
      · exact h3 hc
      · omega
  · exact h.X
  · have := h.size; omega
  · intro j aj hj
    by_cases e : j = id
    · rw [e]; exact hid
    · rw [Gh.setA_ne _ _ _ e] at hj; exact h.ia j aj hj
  · exact h.ib
  · exact h.pin
  · intro j p hp
    refine ⟨(h.pinA j p hp).1, fun ai hj => ?_⟩
    by_cases e : j = id
    · subst e; rw [Gh.setA_same] at hj; cases hj; exact hpin p hp
    · rw [Gh.setA_ne _ _ _ e] at hj; exact (h.pinA j p hp).2 ai hj
  · exact h.E
theorem MemR.rm_arr (h : MemR C G box arr w) {id : Nat} (hid : id < 65000) {g : Leaf → Leaf} {box' : Tr (List Leaf)}
    (hg : Keeps w w (G.ok C) ((G.setA id none []).ok C) → ∀ l v, RepLeaf w (G.ok C) G l v → RepLeaf w ((G.setA id none []).ok C) (G.setA id none []) (g l) v)
    (hb : ∀ b, box'.get b = (box.get b).map (List.map g)) :
    MemR C (G.setA id none []) box' (arr.set id none) w ∧ Keeps w w (G.ok C) ((G.setA id none []).ok C) := by
  have hwr : ∀ i, (G.setA id none []).wr i → G.wr i := by
    rintro i (⟨b, base, hb⟩ | ⟨j, ai, base, m, hj, hloc⟩)
    · exact Gh.wr_of_B hb
    · by_cases e : j = id
      · subst e; rw [Gh.setA_same] at hj; cases hj
      · rw [Gh.setA_ne _ _ _ e] at hj; exact Gh.wr_of_A hj hloc
  have H : Keeps w w (G.ok C) ((G.setA id none []).ok C) := Keeps.mono w fun i hi => ⟨hi.1, fun hc => hi.2 (hwr i hc)⟩
  refine ⟨?_, H⟩
  have hg' := hg H
  have hA : ∀ {j ai}, (G.setA id none []).A j = some ai → j ≠ id ∧ G.A j = some ai := by
    intro j ai hj
    by_cases e : j = id
    · subst e; rw [Gh.setA_same] at hj; cases hj
    · rw [Gh.setA_ne _ _ _ e] at hj; exact ⟨e, hj⟩
  constructor
  · intro b p hp
    obtain ⟨ls, hls⟩ := h.bdom b p hp
    exact ⟨ls.map g, by rw [hb, hls]; rfl⟩
  · intro j ai hj
    obtain ⟨e, hj⟩ := hA hj
    obtain ⟨a, ha⟩ := h.adom j ai hj
    exact ⟨a, by rw [Tr.get_set_ne _ _ e]; exact ha⟩
  · intro b ls hls
    rw [hb] at hls
    obtain ⟨ls0, h0, rfl⟩ := Option.map_eq_some_iff.1 hls
    obtain ⟨blk, base, hB, hat⟩ := h.boxR b ls0 h0
    exact ⟨blk, base, hB, hat.trans hg' fun i v hi hx => ⟨hx, rfl⟩⟩
  · intro j a hj
    by_cases e : j = id
    · subst e; rw [Tr.get_set_same _ _ hid] at hj; cases hj
    · rw [Tr.get_set_ne _ _ e] at hj
      obtain ⟨ai, h1, h2⟩ := h.arrR j a hj
      exact ⟨ai, by rw [Gh.setA_ne _ _ _ e]; exact h1, h2.trans H fun _ _ _ _ _ _ hx => ⟨hx, rfl⟩⟩
  · intro i hi; exact h.lt i (hwr i hi)
  · intro b b' ls ls' blk base base' hne h1 h2 hB hB'
    rw [hb] at h1 h2
    obtain ⟨l1, e1, rfl⟩ := Option.map_eq_some_iff.1 h1
    obtain ⟨l2, e2, rfl⟩ := Option.map_eq_some_iff.1 h2
    simpa using h.bb b b' l1 l2 blk base base' hne e1 e2 hB hB'
  · intro i j ai aj blk base m base' m' hne h1 h2 h3 h4
    exact h.aa i j ai aj blk base m base' m' hne (hA h1).2 (hA h2).2 h3 h4
  · intro b j ai blk base base' m hB h1 h2
    exact h.ab b j ai blk base base' m hB (hA h1).2 h2
  · intro j a ai hj hAj hd
    obtain ⟨e, hAj⟩ := hA hAj
    rw [Tr.get_set_ne _ _ e] at hj
    have hFj : (G.setA id none []).F j = G.F j := by simp [Gh.setA, e]
    rw [hFj]
    exact h.own j a ai hj hAj hd
  · intro j
    by_cases e : j = id
    · subst e; rw [Gh.inner_same]; simp
    · rw [Gh.inner_ne _ _ _ e]; exact h.fnd j
  · intro i j hne b h1 h2
    by_cases e : i = id
    · subst e; rw [Gh.inner_same] at h1; simp at h1
    · by_cases e' : j = id
      · subst e'; rw [Gh.inner_same] at h2; simp at h2
      · rw [Gh.inner_ne _ _ _ e] at h1; rw [Gh.inner_ne _ _ _ e'] at h2; exact h.fdj i j hne b h1 h2
  · intro j b hb
    by_cases e : j = id
    · subst e; rw [Gh.inner_same] at hb; simp at hb
    · rw [Gh.inner_ne _ _ _ e] at hb
      obtain ⟨h1, h2, h3⟩ := h.fwr j b hb
      exact ⟨h1, h2, fun hc => h3 (hwr b hc)⟩
  · exact h.X
  · exact h.size
  · intro j aj hj; exact h.ia j aj (hA hj).2
  · exact h.ib
  · exact h.pin
  · intro j p hp
    exact ⟨(h.pinA j p hp).1, fun ai hj => (h.pinA j p hp).2 ai (hA hj).2⟩
  · exact h.E
theorem Gh.le_setB {G : Gh} {b : Nat} {p : Nat × Nat} (h : ∀ q, G.B b = some q → q = p) : G.Le (G.setB b p) :=
  ⟨fun j q hj => by
    by_cases e : j = b
    · subst e; simp [Gh.setB, h q hj]
    · simp [Gh.setB, e, hj], fun id ai h => h, rfl⟩
theorem MemR.upd_box (h : MemR C G box arr w) {b : Nat} (hid : b < 65000) {ls' : List Leaf} {blk base : Nat}
    (hsize : w.heap.size ≤ w'.heap.size)
    (hw : ∀ x v, (∀ ls i, box.get b = some ls → i < ls.length → x ≠ ⟨blk, base + i, none⟩) → w.cell? x = some v → w'.cell? x = some v ∧ w'.frozen? x = w.frozen? x)
    (hl : (G.B b = none ∧ w.heap.size ≤ blk ∧ blk < w'.heap.size) ∨ (G.B b = some (blk, base) ∧ ∀ ls, box.get b = some ls → ls'.length = ls.length))
    (ha : Keeps w w' (G.ok C) ((G.setB b (blk, base)).ok C) → BoxAt C (G.setB b (blk, base)) w' blk base ls') :
    MemR C (G.setB b (blk, base)) (box.set b (some ls')) arr w' ∧ Keeps w w' (G.ok C) ((G.setB b (blk, base)).ok C) ∧ G.Le (G.setB b (blk, base)) := by
  have hle : G.Le (G.setB b (blk, base)) := Gh.le_setB fun q hq => by
    rcases hl with ⟨h1, _⟩ | ⟨h1, _⟩ <;> rw [h1] at hq <;> cases hq; rfl
  have hwr : ∀ i, (G.setB b (blk, base)).wr i → G.wr i ∨ (G.B b = none ∧ i = blk ∧ w.heap.size ≤ blk ∧ blk < w'.heap.size) := by
    rintro i (⟨c, base', hc⟩ | ⟨j, ai, base', m, hj, hloc⟩)
    · by_cases e : c = b
      · subst e
        simp [Gh.setB] at hc
        obtain ⟨rfl, rfl⟩ := hc
        rcases hl with ⟨h1, h2⟩ | ⟨h1, _⟩
        · exact .inr ⟨h1, rfl, h2⟩
        · exact .inl (Gh.wr_of_B h1)
      · simp [Gh.setB, e] at hc; exact .inl (Gh.wr_of_B hc)
    · exact .inl (Gh.wr_of_A hj hloc)
  have hnone : G.B b = none → box.get b = none := fun hn => by
    cases hb : box.get b with
    | none => rfl
    | some ls => obtain ⟨_, _, h1, _⟩ := h.boxR b ls hb; rw [hn] at h1; cases h1
  have hnb : ∀ x v, ¬ (G.B b = some (blk, base) ∧ x.block = blk) → w.cell? x = some v → w'.cell? x = some v ∧ w'.frozen? x = w.frozen? x := by
    intro x v hx hc
    refine hw x v (fun ls i h1 h2 e => ?_) hc
    rcases hl with ⟨hn, _⟩ | ⟨hs, _⟩
    · rw [hnone hn] at h1; cases h1
    · exact hx ⟨hs, by rw [e]⟩
  have H : Keeps w w' (G.ok C) ((G.setB b (blk, base)).ok C) := by
    intro x v hok hx
    refine ⟨⟨hok.1, fun hc => ?_⟩, (hnb x v (fun ⟨h1, h2⟩ => hok.2 (h2 ▸ Gh.wr_of_B h1)) hx).1⟩
    rcases hwr _ hc with hc | ⟨_, hc, hc2, _⟩
    · exact hok.2 hc
    · have := World.block_lt_of_cell? w _ hx; omega
  refine ⟨?_, H, hle⟩
  have hB : ∀ {c p}, c ≠ b → (G.setB b (blk, base)).B c = some p → G.B c = some p := fun {c p} e hc => by simpa [Gh.setB, e] using hc
  have hBs : (G.setB b (blk, base)).B b = some (blk, base) := by simp [Gh.setB]
  have hfresh : ∀ {i}, G.wr i → G.B b = none → i = blk → False := fun {i} hi hn e => by
    have := h.lt i hi
    rcases hl with ⟨_, h2, _⟩ | ⟨h1, _⟩
    · omega
    · rw [hn] at h1; cases h1
  constructor
  · intro c p hc
    by_cases e : c = b
    · exact ⟨ls', by rw [e, Tr.get_set_same _ _ hid]⟩
    · obtain ⟨ls, hls⟩ := h.bdom c p (hB e hc)
      exact ⟨ls, by rw [Tr.get_set_ne _ _ e]; exact hls⟩
  · exact h.adom
  · intro c ls hls
    by_cases e : c = b
    · subst e
      rw [Tr.get_set_same _ _ hid] at hls; cases hls
      exact ⟨blk, base, hBs, ha H⟩
    · rw [Tr.get_set_ne _ _ e] at hls
      obtain ⟨blk', base', h1, h2⟩ := h.boxR c ls hls
      refine ⟨blk', base', hle.B _ _ h1, ?_⟩
      have := h2.trans (G' := G.setB b (blk, base)) (w' := w') (g := id) (fun l v hr => hr.trans H hle) fun i v hi hx => hw _ v (fun ls0 j h3 h4 e2 => by
        rcases hl with ⟨hn, _⟩ | ⟨hs, _⟩
        · rw [hnone hn] at h3; cases h3
        · injection e2 with e3 e4
          subst e3
          rcases h.bb c b ls ls0 blk' base' base e hls h3 h1 hs with hh | hh <;> omega) hx
      simpa using this
  · intro j a hj
    obtain ⟨ai, h1, h2⟩ := h.arrR j a hj
    refine ⟨ai, h1, h2.trans H fun blk' base' m hloc o v hx => hnb _ v (fun ⟨h3, h4⟩ => ?_) hx⟩
    simp at h4; subst h4
    exact h.ab b j ai _ base base' m h3 h1 hloc
  · intro i hi
    rcases hwr i hi with hi | ⟨_, hi, _, h3⟩
    · have := h.lt i hi; omega
    · omega
  · intro c c' ls ls0 blk' bs bs' hne h1 h2 hb hb'
    by_cases e : c = b
    · subst e
      rw [Tr.get_set_same _ _ hid] at h1; cases h1
      rw [hBs] at hb; cases hb
      rw [Tr.get_set_ne _ _ (Ne.symm hne)] at h2
      have hb' := hB (Ne.symm hne) hb'
      rcases hl with ⟨hn, h3, _⟩ | ⟨hs, hlen⟩
      · exact (hfresh (Gh.wr_of_B hb') hn rfl).elim
      · obtain ⟨l0, hl0⟩ := h.bdom c _ hs
        rw [hlen _ hl0]
        exact h.bb c c' l0 ls0 blk base bs' hne hl0 h2 hs hb'
    · rw [Tr.get_set_ne _ _ e] at h1
      have hb0 := hB e hb
      by_cases e' : c' = b
      · subst e'
        rw [Tr.get_set_same _ _ hid] at h2; cases h2
        rw [hBs] at hb'; cases hb'
        rcases hl with ⟨hn, h3, _⟩ | ⟨hs, hlen⟩
        · exact (hfresh (Gh.wr_of_B hb0) hn rfl).elim
        · obtain ⟨l0, hl0⟩ := h.bdom c' _ hs
          rw [hlen _ hl0]
          exact h.bb c c' ls l0 blk bs base hne h1 hl0 hb0 hs
      · rw [Tr.get_set_ne _ _ e'] at h2
        exact h.bb c c' ls ls0 blk' bs bs' hne h1 h2 hb0 (hB e' hb')
  · exact h.aa
  · intro c j ai blk' bs bs' m hb h1 h2
    by_cases e : c = b
    · subst e
      rw [hBs] at hb; cases hb
      rcases hl with ⟨hn, h3, _⟩ | ⟨hs, hlen⟩
      · exact hfresh (Gh.wr_of_A h1 h2) hn rfl
      · exact h.ab c j ai _ base bs' m hs h1 h2
    · exact h.ab c j ai blk' bs bs' m (hB e hb) h1 h2
  · intro j a ai hj hA hd
    refine (h.own j a ai hj hA hd).trans (fun x v hx hc => hnb x v (fun ⟨h1, h2⟩ => (h.fwr j x.block hx).2.2 (h2 ▸ Gh.wr_of_B h1)) hc) fun blk' base' m hloc o v hx => (hnb _ v (fun ⟨h3, h4⟩ => ?_) hx).1
    simp at h4; subst h4
    exact h.ab b j ai _ base base' m h3 hA hloc
  · exact h.fnd
  · exact h.fdj
  · intro j c hc
    obtain ⟨h1, h2, h3⟩ := h.fwr j c hc
    refine ⟨h1, by omega, fun hcc => ?_⟩
    rcases hwr c hcc with hcc | ⟨_, hcc, h4, _⟩
    · exact h3 hcc
    · omega
  · exact h.X
  · have := h.size; omega
  · exact h.ia
  · intro c p hc
    by_cases e : c = b
    · rw [e]; exact hid
    · exact h.ib c p (hB e hc)
  · intro c p hc
    have := h.pin c p hc
    exact ⟨hle.B c p this.1, this.2⟩
  · exact h.pinA
  · exact h.E
theorem MemR.grow (h : MemR C G box arr w) (hsize : w.heap.size ≤ w'.heap.size)
    (hw : ∀ x v, w.cell? x = some v → w'.cell? x = some v ∧ w'.frozen? x = w.frozen? x) : MemR C G box arr w' ∧ Keeps w w' (G.ok C) (G.ok C) := by
  have H : Keeps w w' (G.ok C) (G.ok C) := fun x v hok hx => ⟨hok, (hw x v hx).1⟩
  refine ⟨?_, H⟩
  constructor
  · exact h.bdom
  · exact h.adom
  · intro b ls hls
    obtain ⟨blk, base, hB, hat⟩ := h.boxR b ls hls
    have := hat.trans (g := id) (fun l v hr => hr.trans H (Gh.Le.refl G)) fun i v hi hx => hw _ v hx
    exact ⟨blk, base, hB, by simpa using this⟩
  · intro j a hj
    obtain ⟨ai, h1, h2⟩ := h.arrR j a hj
    exact ⟨ai, h1, h2.trans H fun _ _ _ _ _ v hx => hw _ v hx⟩
  · intro i hi; have := h.lt i hi; omega
  · exact h.bb
  · exact h.aa
  · exact h.ab
  · intro j a ai hj hA hd
    exact (h.own j a ai hj hA hd).trans (fun x v _ hc => hw x v hc) fun _ _ _ _ _ v hx => (hw _ v hx).1
  · exact h.fnd
  · exact h.fdj
  · intro j b hb
    obtain ⟨h1, h2, h3⟩ := h.fwr j b hb
    exact ⟨h1, by omega, h3⟩
  · exact h.X
  · have := h.size; omega
  · exact h.ia
  · exact h.ib
  · exact h.pin
  · exact h.pinA
  · exact h.E
end
end Go.Ev

namespace Go.Ev
structure Fr (C : Cx) (w : World) : Prop where
  os : w.os = C.w0.os
  tape : w.tape = C.w0.tape
  output : w.output = C.w0.output
  size : C.N0 ≤ w.heap.size
  block : ∀ i, i < C.N0 → (∀ o, ¬ C.T0 ⟨i, o, none⟩) → w.heap[i]? = C.w0.heap[i]?
  cell : ∀ x : Addr, x.block < C.N0 → ¬ C.T0 x → w.cell? x = C.w0.cell? x ∧ w.frozen? x = C.w0.frozen? x
theorem size_setCells (blk : Nat) : ∀ (vs : List Value) (o : Nat) (w : World), (w.setCells blk o vs).heap.size = w.heap.size
  | [], _, _ => rfl
  | v :: vs, o, w => by rw [World.setCells, size_setCells blk vs]; simp
theorem Fr.alloc {C : Cx} {w : World} (h : Fr C w) (o : Obj) : Fr C (w.alloc o) := by
  have hs := h.size
  refine ⟨h.os, h.tape, h.output, by simp; omega, fun i hi hn => ?_, fun x hx hn => ?_⟩
  · rw [Go.heap_alloc_old _ _ _ (by omega)]; exact h.block i hi hn
  · rw [World.cell?_alloc_lt _ _ _ (by omega), World.frozen?_alloc_old _ _ _ (by omega)]
    exact h.cell x hx hn
theorem Fr.setCells {C : Cx} {blk : Nat} : ∀ (vs : List Value) (o : Nat) {w : World}, Fr C w → (∀ j, j < vs.length → C.N0 ≤ blk ∨ C.T0 ⟨blk, o + j, none⟩) → Fr C (w.setCells blk o vs)
  | [], _, _, h, _ => h
  | v :: vs, o, w, h, hw => by
    rw [World.setCells]
    have h0 := hw 0 (by simp)
    refine Fr.setCells vs (o + 1) ?_ fun j hj => by have := hw (j + 1) (by simp; omega); rwa [show o + (j + 1) = o + 1 + j by omega] at this
    refine ⟨h.os, h.tape, h.output, by simp; exact h.size, fun i hi hn => ?_, fun x hx hn => ?_⟩
    · rw [heap_setCell_other _ _ _ _ (fun e => ?_)]
      · exact h.block i hi hn
      · simp at e; subst e
        rcases h0 with h0 | h0
        · omega
        · exact hn _ h0
    · rw [World.frozen?_setCell, World.cell?_setCell_other _ _ _ _ (fun e => ?_)]
      · exact h.cell x hx hn
      · subst e
        rcases h0 with h0 | h0
        · simp at hx; omega
        · exact hn h0
theorem Fr.drawn {C : Cx} {w : World} (h : Fr C w) (n : Nat) : Fr C { w with drawn := n } := ⟨h.os, h.tape, h.output, h.size, h.block, h.cell⟩
structure Rel (C : Cx) (G : Gh) (st : St) (a : Act) (w : World) : Prop where
  size : a.tmps.size = st.n
  n : st.n ≤ 16000
  dfr : a.defers = []
  env : ∀ t s, st.env.get t = some s → t < st.n ∧ RepSlot w (G.ok C) G s (a.tmps.getD t undef)
  mem : MemR C G st.box st.arr w
  fr : Fr C w
theorem constLeaf_rep (w : World) (ok : Nat → Prop) (G : Gh) (v : Value) (h : v.oneCell' = true) : RepLeaf w ok G (constLeaf v) v := by
  unfold constLeaf
  split <;> first | rfl | exact h
theorem constLeafs_rep (w : World) (ok : Nat → Prop) (G : Gh) : ∀ (vs : List Value), (∀ v ∈ vs, v.oneCell' = true) → RepLeafs w ok G (vs.map constLeaf) vs
  | [], _ => trivial
  | v :: vs, h => ⟨constLeaf_rep w ok G v (h v (by simp)), constLeafs_rep w ok G vs fun x hx => h x (by simp [hx])⟩
theorem constSlot_rep (w : World) (ok : Nat → Prop) (G : Gh) (v : Value) : RepSlot w ok G (constSlot v) v := by
  unfold constSlot
  split
  · rename_i cs
    cases hb : cs.toList.all (·.oneCell')
    · exact trivial
    · refine ⟨cs.toList, by simp, constLeafs_rep w ok G _ fun v hv => List.all_eq_true.1 hb v hv⟩
  · exact trivial
  · rename_i h1 h2
    exact constLeaf_rep w ok G v (by cases v <;> first | rfl | exact absurd rfl (h1 _) | exact absurd rfl (h2 _))
section
variable {C : Cx} {G : Gh} {st : St} {a : Act} {w w' : World}
theorem Rel.ev (h : Rel C G st a w) (x : Operand) : RepSlot w (G.ok C) G (st.ev x) (a.eval x) := by
  cases x with
  | tmp t =>
    show RepSlot _ _ _ ((st.env.get t).getD .dead) (a.tmps.getD t undef)
    cases hs : st.env.get t with
    | none => exact trivial
    | some s => exact (h.env t s hs).2
  | const v => exact constSlot_rep _ _ _ v
  | func f => exact ⟨[], rfl, trivial⟩
  | global g => exact trivial
theorem Rel.put (h : Rel C G st a w) {d : Option Tmp} {s : Slot} {v : Value} (hd : d.getD 0 < st.n) (hs : RepSlot w (G.ok C) G s v) : Rel C G (st.put d s) (a.put d v) w := by
  cases d with
  | none => exact h
  | some d =>
    have hd' : d < st.n := hd
    have hn := h.n
    refine ⟨by simp [St.put, Act.put, h.size], h.n, h.dfr, fun t s' ht => ?_, h.mem, h.fr⟩
    simp only [St.put, Act.put] at ht ⊢
    rw [Tr.get_set _ _ (Nat.lt_of_lt_of_le hd' (Nat.le_trans hn (by omega)))] at ht
    by_cases e : t = d
    · subst e
      rw [if_pos rfl] at ht; cases ht
      refine ⟨hd', ?_⟩
      have : t < a.tmps.size := by rw [h.size]; exact hd'
      simpa [Array.getD, this] using hs
    · rw [if_neg e] at ht
      obtain ⟨h1, h2⟩ := h.env t s' ht
      refine ⟨h1, ?_⟩
      have : (a.tmps.setIfInBounds d v).getD t undef = a.tmps.getD t undef := by
        simp only [Array.getD_eq_getD_getElem?]
        rw [Array.getElem?_setIfInBounds_ne (fun h => e h.symm)]
      rw [this]; exact h2
theorem Rel.setEnv (h : Rel C G st a w) {t : Nat} {s : Slot} (ht : t < st.n) (hs : RepSlot w (G.ok C) G s (a.tmps.getD t undef)) : Rel C G (st.setEnv t s) a w := by
  have hn := h.n
  refine ⟨h.size, h.n, h.dfr, fun u s' hu => ?_, h.mem, h.fr⟩
  simp only [St.setEnv] at hu
  rw [Tr.get_set _ _ (by omega)] at hu
  by_cases e : u = t
  · subst e; rw [if_pos rfl] at hu; cases hu; exact ⟨ht, hs⟩
  · rw [if_neg e] at hu; exact h.env u s' hu
theorem Rel.of_mem (h : Rel C G st a w) {G' : Gh} {box : Tr (List Leaf)} {arr : Tr Arr} (hm : MemR C G' box arr w') (H : Keeps w w' (G.ok C) (G'.ok C)) (hG : G.Le G') (hf : Fr C w') :
    Rel C G' { st with box := box, arr := arr } a w' :=
  ⟨h.size, h.n, h.dfr, fun t s ht => ⟨(h.env t s ht).1, (h.env t s ht).2.trans H hG⟩, hm, hf⟩
theorem Rel.grow (h : Rel C G st a w) (hsize : w.heap.size ≤ w'.heap.size) (hw : ∀ x v, w.cell? x = some v → w'.cell? x = some v ∧ w'.frozen? x = w.frozen? x) (hf : Fr C w') : Rel C G st a w' := by
  obtain ⟨hm, H⟩ := h.mem.grow hsize hw
  exact h.of_mem hm H (Gh.Le.refl G) hf
theorem Rel.drawn (h : Rel C G st a w) (n : Nat) : Rel C G st a { w with drawn := n } :=
  h.grow (Nat.le_refl _) (fun x v hx => ⟨hx, rfl⟩) (h.fr.drawn n)
theorem alloc_keeps (w : World) (o : Obj) : ∀ x v, w.cell? x = some v → (w.alloc o).cell? x = some v ∧ (w.alloc o).frozen? x = w.frozen? x := by
  intro x v hx
  have := World.block_lt_of_cell? w _ hx
  exact ⟨by rw [World.cell?_alloc_lt _ _ _ this]; exact hx, World.frozen?_alloc_old _ _ _ (by omega)⟩
theorem Rel.new_box (h : Rel C G st a w) {d : Nat} (hd : d < 65000) (hb : st.box.get d = none) {ls : List Leaf} {cs : Array Value} (t : TypeId) (hr : RepLeafs w (G.ok C) G ls cs.toList) :
    ∃ G', Rel C G' { st with box := st.box.set d (some ls) } a (w.alloc (.cells cs t)) ∧ RepSlot (w.alloc (.cells cs t)) (G'.ok C) G' (.lf (.ptr d 0)) (.pointer (some ⟨w.heap.size, 0, none⟩)) := by
  have hB : G.B d = none := by
    cases hq : G.B d with
    | none => rfl
    | some p => obtain ⟨ls, h1⟩ := h.mem.bdom d p hq; rw [hb] at h1; cases h1
  have hsz := h.mem.size
  obtain ⟨hm, H, hle⟩ := h.mem.upd_box (w' := w.alloc (.cells cs t)) hd (ls' := ls) (blk := w.heap.size) (base := 0) (by simp) (fun x v _ hx => alloc_keeps w _ x v hx)
    (.inl ⟨hB, Nat.le_refl _, by simp⟩) fun H => by
      refine ⟨fun i _ => .inl hsz, fun i _ => by simp, cs.toList, hr.trans H (Gh.le_setB fun q hq => by rw [hB] at hq; cases hq), fun j v hj => ?_⟩
      simpa using hj
  refine ⟨_, h.of_mem hm H hle (h.fr.alloc _), ?_⟩
  exact ⟨w.heap.size, 0, by simp [Gh.setB], rfl⟩
theorem Rel.store_box (h : Rel C G st a w) {b o : Nat} (hid : b < 65000) {ls us : List Leaf} {blk base : Nat} {vs : List Value} (hb : st.box.get b = some ls) (hB : G.B b = some (blk, base)) (ho : o + us.length ≤ ls.length)
    (hr : RepLeafs w (G.ok C) G us vs) :
    Rel C G { st with box := st.box.set b (some (splice ls o us)) } a (w.setCells blk (base + o) vs) := by
  obtain ⟨blk', base', hB', hat⟩ := h.mem.boxR b ls hb
  rw [hB] at hB'; cases hB'
  obtain ⟨vs0, hv1, hv2⟩ := hat.vs
  have hl0 := hv1.length
  have hl := hr.length
  have hlen : (splice ls o us).length = ls.length := by simp [splice]; omega
  have hsome : ∀ j, j < vs.length → (w.cell? ⟨blk, base + o + j, none⟩).isSome = true := fun j hj => by
    have := hv2 (o + j) _ (List.getElem?_eq_getElem (by omega))
    rw [show base + o + j = base + (o + j) by omega, this]; rfl
  have hG : G.setB b (blk, base) = G := by
    unfold Gh.setB
    congr 1
    funext j
    split
    · rename_i e; rw [e, hB]
    · rfl
  have hkeep : ∀ x v, (∀ ls' i, st.box.get b = some ls' → i < ls'.length → x ≠ ⟨blk, base + i, none⟩) → w.cell? x = some v →
      (w.setCells blk (base + o) vs).cell? x = some v ∧ (w.setCells blk (base + o) vs).frozen? x = w.frozen? x := fun x v hx hc => by
    refine ⟨?_, World.frozen?_setCells ..⟩
    rw [World.cell?_setCells_out blk vs (base + o) w x fun h1 h2 => ?_]
    · exact hc
    · by_cases e : x.off < base + o
      · exact .inl e
      · by_cases e2 : base + o + vs.length ≤ x.off
        · exact .inr e2
        · refine absurd ?_ (hx ls (x.off - base) hb (by omega))
          obtain ⟨xb, xo, xs⟩ := x
          simp at h1 h2 e e2 ⊢
          exact ⟨h1, by omega, h2⟩
  have := h.mem.upd_box (w' := w.setCells blk (base + o) vs) hid (ls' := splice ls o us) (blk := blk) (base := base) (by rw [size_setCells]; exact Nat.le_refl _) hkeep
    (.inr ⟨hB, fun ls' h' => by rw [hb] at h'; cases h'; exact hlen⟩)
  rw [hG] at this
  obtain ⟨hm, H, hle⟩ := this fun H => by
    refine ⟨fun i hi => hat.wr i (by omega), fun i hi => ?_, splice vs0 o vs, ?_, fun j v hj => ?_⟩
    · rw [World.frozen?_setCells]; exact hat.fz i (by omega)
    · have h1 := ((hv1.take o).append (hr.append (hv1.drop (o + us.length)))).trans H (Gh.Le.refl G)
      rw [hl] at h1
      simpa [splice, hl] using h1
    · by_cases h1 : j < o
      · have : vs0[j]? = some v := by
          simp only [splice] at hj
          rw [List.getElem?_append_left (by simp; omega), List.getElem?_take, if_pos h1] at hj
          exact hj
        rw [World.cell?_setCells_out _ _ _ _ _ fun _ _ => .inl (by simp; omega)]
        exact hv2 j v this
      · by_cases h2 : j < o + vs.length
        · have : vs[j - o]? = some v := by
            simp only [splice] at hj
            rw [List.getElem?_append_right (by simp; omega)] at hj
            rw [List.getElem?_append_left (by simp; omega)] at hj
            simpa [Nat.min_eq_left (show o ≤ vs0.length by omega)] using hj
          have h3 := World.cell?_setCells_in blk vs (base + o) w hsome (j - o) (by omega)
          rw [show base + o + (j - o) = base + j by omega] at h3
          rw [h3, ← this, List.getElem?_eq_getElem (by omega)]
        · have : vs0[j]? = some v := by
            simp only [splice] at hj
            rw [List.getElem?_append_right (by simp; omega)] at hj
            rw [List.getElem?_append_right (by simp; omega), List.getElem?_drop] at hj
            rw [List.length_take, Nat.min_eq_left (show o ≤ vs0.length by omega)] at hj
            rwa [show o + vs.length + (j - o - vs.length) = j by omega] at hj
          rw [World.cell?_setCells_out _ _ _ _ _ fun _ _ => .inr (by simp; omega)]
          exact hv2 j v this
  exact h.of_mem hm H hle (h.fr.setCells vs _ fun j hj => by
    have := hat.wr (o + j) (by omega)
    rwa [show base + (o + j) = base + o + j by omega] at this)
end
end Go.Ev

namespace Go.Ev
theorem getD_eq {α : Type} (l : List α) (i : Nat) (d : α) (h : i < l.length) : l.getD i d = l[i] := by
  rw [List.getD_eq_getElem?_getD, List.getElem?_eq_getElem h]; rfl
section
variable {C : Cx} {G : Gh} {st : St} {a : Act} {w w' : World}
theorem Leaf.kill_rep {ok ok' : Nat → Prop} {id : Nat} {x : Option AI} {F : List (List Nat)} (H : Keeps w w' ok ok') {l : Leaf} {v : Value} (h : RepLeaf w ok G l v) :
    RepLeaf w' ok' (G.setA id x F) (l.kill id) v := by
  have h1 := h.one
  have hB : ∀ b p, G.B b = some p → (G.setA id x F).B b = some p := fun _ _ h => h
  cases l with
  | own j =>
    by_cases e : j = id
    · subst e; simpa [Leaf.kill, RepLeaf] using h1
    · have : (j == id) = false := beq_eq_false_iff_ne.2 e
      obtain ⟨ai, p, c, h2, h3⟩ := h
      simp only [Leaf.kill, this, cond_false]
      exact ⟨ai, p, c, by rw [Gh.setA_ne _ _ _ e]; exact h2, h3⟩
  | sub j o n =>
    by_cases e : j = id
    · subst e; simpa [Leaf.kill, RepLeaf] using h1
    · have : (j == id) = false := beq_eq_false_iff_ne.2 e
      obtain ⟨ai, p, c, h2, h3⟩ := h
      simp only [Leaf.kill, this, cond_false]
      exact ⟨ai, p, c, by rw [Gh.setA_ne _ _ _ e]; exact h2, h3⟩
  | sl e l x => exact ⟨h.1.trans H, h.2⟩
  | ptr b o => exact PtrAt.mono hB h
  | fn f caps => obtain ⟨cs, h2, h3⟩ := h; exact ⟨cs, h2, h3.mono hB⟩
  | ifp t g b o => obtain ⟨p, h2, h3⟩ := h; exact ⟨p, h2.mono hB, h3⟩
  | int | bool | str | nil | nilp | nilf | nili | ifx | dead => exact h
theorem rp_map {ok ok' : Nat → Prop} {G' : Gh} {g : Leaf → Leaf} (H : Keeps w w' ok ok') (hg : ∀ l v, RepLeaf w ok G l v → RepLeaf w' ok' G' (g l) v) {ls : List Leaf} {v : Value} (h : RepSlot w ok G (.rp ls) v) :
    RepSlot w' ok' G' (.rp (ls.map g)) v := by
  obtain ⟨ad, h1, h2, cs, h3, h4⟩ := h
  by_cases hn : ls = []
  · subst hn
    have := h3.length
    simp at this
    have : cs = [] := List.eq_nil_of_length_eq_zero this.symm
    subst this
    exact ⟨ad, h1, fun h => absurd rfl h, [], trivial, fun j c hj => by simp at hj⟩
  · have hok := h2 hn
    have hl := h3.length
    have hpos : 0 < cs.length := by rw [← hl]; exact List.length_pos_iff.2 hn
    have hc0 := h4 0 _ (List.getElem?_eq_getElem hpos)
    refine ⟨ad, h1, fun _ => ?_, cs, h3.map hg, fun j c hj => (H _ _ (by rw [addr_add_block]; exact hok) (h4 j c hj)).2⟩
    have := (H _ _ (by rw [addr_add_block]; exact hok) hc0).1
    rwa [addr_add_block] at this
theorem Slot.kill_rep {ok ok' : Nat → Prop} {id : Nat} {x : Option AI} {F : List (List Nat)} (H : Keeps w w' ok ok') {s : Slot} {v : Value} (h : RepSlot w ok G s v) :
    RepSlot w' ok' (G.setA id x F) (s.kill id) v := by
  cases s with
  | lf l => exact Leaf.kill_rep H h
  | ag ls => obtain ⟨vs, h1, h2⟩ := h; exact ⟨vs, h1, h2.map fun l v => Leaf.kill_rep H⟩
  | tp xs => obtain ⟨vs, h1, h2⟩ := h; exact ⟨vs, h1, h2.map fun l v => Leaf.kill_rep H⟩
  | ep j i o =>
    by_cases e : j = id
    · subst e; simp [Slot.kill, RepSlot]
    · have : (j == id) = false := beq_eq_false_iff_ne.2 e
      obtain ⟨ai, blk, base, m, h2, h3⟩ := h
      simp only [Slot.kill, this, cond_false]
      exact ⟨ai, blk, base, m, by rw [Gh.setA_ne _ _ _ e]; exact h2, h3⟩
  | rp ls => exact rp_map H (fun l v => Leaf.kill_rep H) h
  | dead => exact trivial
theorem ArrAt.rep {ai : AI} {r : Arr} (ha : ArrAt C G w ai r) {ok' : Nat → Prop} (H : Keeps w w (G.ok C) ok') (hblk : ∀ blk base m, ai.loc = some (blk, base, m) → ok' blk) {off len : Nat} (hlen : off + len ≤ ai.n) {p : Option Addr} {c : Nat} (hc : len ≤ c)
    (hp : 0 < c → ∃ blk base m, ai.loc = some (blk, base, m) ∧ p = some ⟨blk, base + off * ai.sz, none⟩) :
    RepT w ok' (.sl r.e) ((r.l.drop off).take len) [.slice p len c] := by
  have hn := ha.n
  have hll : ((r.l.drop off).take len).length = len := by simp; omega
  refine ⟨p, c, by rw [hll], by omega, fun i hi => ?_⟩
  rw [hll] at hi
  obtain ⟨blk, base, m, hloc, hp'⟩ := hp (by omega)
  obtain ⟨cs, h1, h2⟩ := ha.el blk base m hloc (off + i) (by omega)
  refine ⟨_, hp', hblk _ _ _ hloc, cs, ?_, fun j v hj => ?_⟩
  · have : ((r.l.drop off).take len).getD i r.e.zero = r.l.getD (off + i) r.e.zero := by
      rw [List.getD_eq_getElem?_getD, List.getD_eq_getElem?_getD, List.getElem?_take, if_pos hi, List.getElem?_drop]
    rw [this]
    exact h1.trans H
  · rw [Addr.add_mid]
    have := h2 j v hj
    rw [Nat.add_mul] at this
    rw [← ha.sz, show base + off * ai.sz + (i * ai.sz + j) = base + (off * ai.sz + i * ai.sz + j) by omega]
    exact this
theorem Leaf.freeze_rep {id : Nat} {r : Arr} {ai : AI} (hA : G.A id = some ai) (ha : ArrAt C G w ai r) {ok' : Nat → Prop} (H : Keeps w w (G.ok C) ok') (hblk : ∀ blk base m, ai.loc = some (blk, base, m) → ok' blk)
    {x : Option AI} {F : List (List Nat)} {l : Leaf} {v : Value} (h : RepLeaf w (G.ok C) G l v) : RepLeaf w ok' (G.setA id x F) (l.freeze id r) v := by
  have hB : ∀ b p, G.B b = some p → (G.setA id x F).B b = some p := fun _ _ h => h
  cases l with
  | own j =>
    by_cases e : j = id
    · subst e
      obtain ⟨ai', p, c, h2, rfl, h4, h5⟩ := h
      rw [hA] at h2; cases h2
      simp only [Leaf.freeze, beq_self_eq_true, cond_true, RepLeaf]
      have := ha.rep H hblk (off := 0) (len := ai.n) (by omega) h4 (p := p) (fun hc => by
        obtain ⟨blk, base, m, h6, h7, _⟩ := h5 hc
        exact ⟨blk, base, m, h6, by simpa using h7⟩)
      rw [List.drop_zero, List.take_of_length_le (by rw [ha.n]; exact Nat.le_refl _)] at this
      exact ⟨this, fun h => (by cases h), fun _ _ h => (by cases h)⟩
    · have : (j == id) = false := beq_eq_false_iff_ne.2 e
      obtain ⟨ai, p, c, h2, h3⟩ := h
      simp only [Leaf.freeze, this, cond_false]
      exact ⟨ai, p, c, by rw [Gh.setA_ne _ _ _ e]; exact h2, h3⟩
  | sub j o n =>
    by_cases e : j = id
    · subst e
      obtain ⟨ai', p, c, h2, rfl, h4, h5, h6⟩ := h
      rw [hA] at h2; cases h2
      simp only [Leaf.freeze, beq_self_eq_true, cond_true, RepLeaf]
      exact ⟨ha.rep H hblk h5 h4 fun hc => by
        obtain ⟨blk, base, m, h7, h8, _⟩ := h6 hc
        exact ⟨blk, base, m, h7, h8⟩, fun h => (by cases h), fun _ _ h => (by cases h)⟩
    · have : (j == id) = false := beq_eq_false_iff_ne.2 e
      obtain ⟨ai, p, c, h2, h3⟩ := h
      simp only [Leaf.freeze, this, cond_false]
      exact ⟨ai, p, c, by rw [Gh.setA_ne _ _ _ e]; exact h2, h3⟩
  | sl e l x => exact ⟨h.1.trans H, h.2⟩
  | ptr b o => exact PtrAt.mono hB h
  | fn f caps => obtain ⟨cs, h2, h3⟩ := h; exact ⟨cs, h2, h3.mono hB⟩
  | ifp t g b o => obtain ⟨p, h2, h3⟩ := h; exact ⟨p, h2.mono hB, h3⟩
  | int | bool | str | nil | nilp | nilf | nili | ifx | dead => exact h
theorem Slot.freeze_rep {id : Nat} {r : Arr} {ai : AI} (hA : G.A id = some ai) (ha : ArrAt C G w ai r) {ok' : Nat → Prop} (H : Keeps w w (G.ok C) ok') (hblk : ∀ blk base m, ai.loc = some (blk, base, m) → ok' blk)
    {x : Option AI} {F : List (List Nat)} {s : Slot} {v : Value} (h : RepSlot w (G.ok C) G s v) : RepSlot w ok' (G.setA id x F) (s.freeze id r) v := by
  have hg : ∀ l v, RepLeaf w (G.ok C) G l v → RepLeaf w ok' (G.setA id x F) (l.freeze id r) v := fun l v => Leaf.freeze_rep hA ha H hblk
  cases s with
  | lf l => exact hg _ _ h
  | ag ls => obtain ⟨vs, h1, h2⟩ := h; exact ⟨vs, h1, h2.map hg⟩
  | tp xs => obtain ⟨vs, h1, h2⟩ := h; exact ⟨vs, h1, h2.map hg⟩
  | ep j i o =>
    by_cases e : j = id
    · subst e
      obtain ⟨ai', blk, base, m, h2, h3, h4, h5⟩ := h
      rw [hA] at h2; cases h2
      simp only [Slot.freeze, beq_self_eq_true, cond_true]
      obtain ⟨cs, h6, h7⟩ := ha.el blk base m h3 i h4
      refine ⟨_, h5, fun _ => hblk _ _ _ h3, cs.drop o, (RepT.lv (h6.trans H)).drop o, fun k c hk => ?_⟩
      rw [List.getElem?_drop] at hk
      rw [Addr.add_mid, show base + i * ai.sz + o + k = base + (i * ai.sz + (o + k)) by omega]
      exact h7 _ _ hk
    · have : (j == id) = false := beq_eq_false_iff_ne.2 e
      obtain ⟨ai, blk, base, m, h2, h3⟩ := h
      simp only [Slot.freeze, this, cond_false]
      exact ⟨ai, blk, base, m, by rw [Gh.setA_ne _ _ _ e]; exact h2, h3⟩
  | rp ls => exact rp_map H hg h
  | dead => exact trivial
theorem Rel.freeze (h : Rel C G st a w) {id : Nat} (hid : id < 65000) {r : Arr} (hr : st.arr.get id = some r) :
    Rel C (G.setA id none []) (st.freeze id r) a w ∧ Keeps w w (G.ok C) ((G.setA id none []).ok C) ∧
      ∃ ai, G.A id = some ai ∧ ArrAt C G w ai r ∧ ∀ blk base m, ai.loc = some (blk, base, m) → (G.setA id none []).ok C blk := by
  obtain ⟨ai, hA, ha⟩ := h.mem.arrR id r hr
  have hblk : ∀ blk base m, ai.loc = some (blk, base, m) → (G.setA id none []).ok C blk := by
    intro blk base m hloc
    refine ⟨fun hx => (h.mem.X _ hx).1 (ha.may _ _ _ hloc), ?_⟩
    rintro (⟨b, base', hb⟩ | ⟨j, aj, base', m', hj, hl⟩)
    · exact h.mem.ab b id ai blk base' base m hb hA hloc
    · by_cases e : j = id
      · subst e; rw [Gh.setA_same] at hj; cases hj
      · rw [Gh.setA_ne _ _ _ e] at hj
        exact h.mem.aa j id aj ai blk base' m' base m e hj hA hl hloc
  obtain ⟨hm, H⟩ := h.mem.rm_arr hid (g := Leaf.freeze id r) (box' := st.box.map fun ls => some (ls.map (Leaf.freeze id r)))
    (fun H l v hl => Leaf.freeze_rep hA ha H hblk hl) (fun b => by rw [Tr.get_map]; cases st.box.get b <;> rfl)
  refine ⟨⟨h.size, h.n, h.dfr, fun t s ht => ?_, hm, h.fr⟩, H, ai, hA, ha, hblk⟩
  simp only [St.freeze, Tr.get_map] at ht
  obtain ⟨s0, h1, h2⟩ := Option.bind_eq_some_iff.1 ht
  cases h2
  obtain ⟨h3, h4⟩ := h.env t s0 h1
  exact ⟨h3, Slot.freeze_rep hA ha H hblk h4⟩
theorem Rel.renew (h : Rel C G st a w) {id : Nat} (hid0 : id < 64000) {a' : Arr} {ai' : AI} {F' : List (List Nat)}
    (hsize : w.heap.size ≤ w'.heap.size)
    (hw : ∀ x v, (∀ ai blk base m, G.A id = some ai → ai.loc = some (blk, base, m) → x.block ≠ blk) → w.cell? x = some v → w'.cell? x = some v ∧ w'.frozen? x = w.frozen? x)
    (hl : ∀ blk base m, ai'.loc = some (blk, base, m) → (w.heap.size ≤ blk ∧ blk < w'.heap.size) ∨ ∃ ai base m, G.A id = some ai ∧ ai.loc = some (blk, base, m))
    (ha : Keeps w w' (G.ok C) ((G.setA id (some ai') F').ok C) → ArrAt C (G.setA id (some ai') F') w' ai' a')
    (ho : a'.deep = true → OwnArr C w' ai' a' F')
    (hF : F'.flatten.Nodup)
    (hF2 : ∀ b ∈ F'.flatten, C.all b ∧ b < w'.heap.size ∧ ¬ (G.setA id (some ai') F').wr b ∧ ∀ id', id' ≠ id → b ∉ G.inner id')
    (hf : Fr C w') :
    Rel C (G.setA id (some ai') F') (st.renew id a') a w' ∧ Keeps w w' (G.ok C) ((G.setA id (some ai') F').ok C) := by
  have hid : id < 65000 := by omega
  obtain ⟨hm, H⟩ := h.mem.upd_arr hid (g := Leaf.kill id) (box' := st.box.map fun ls => some (ls.map (Leaf.kill id))) hsize hw hl ha ho hF hF2
    (fun H l v hl => Leaf.kill_rep H hl) (fun b => by rw [Tr.get_map]; cases st.box.get b <;> rfl) (fun p hp => by have := (h.mem.pinA id p hp).1; omega)
  refine ⟨⟨h.size, h.n, h.dfr, fun t s ht => ?_, ?_, hf⟩, H⟩
  · simp only [St.renew, St.kill, Tr.get_map] at ht
    obtain ⟨s0, h1, h2⟩ := Option.bind_eq_some_iff.1 ht
    cases h2
    obtain ⟨h3, h4⟩ := h.env t s0 h1
    exact ⟨h3, Slot.kill_rep H h4⟩
  · have : ∀ j, ((st.arr.set id none).set id (some a')).get j = (st.arr.set id (some a')).get j := fun j => by
      rw [Tr.get_set _ _ hid, Tr.get_set _ _ hid, Tr.get_set _ _ hid]; split <;> rfl
    refine ⟨hm.bdom, fun j ai hj => ?_, hm.boxR, fun j r hj => hm.arrR j r (by rw [← this]; exact hj), hm.lt, hm.bb, hm.aa, hm.ab, fun j r ai hj => hm.own j r ai (by rw [← this]; exact hj), hm.fnd, hm.fdj, hm.fwr, hm.X, hm.size, hm.ia, hm.ib, hm.pin, hm.pinA, hm.E⟩
    obtain ⟨r, hr⟩ := hm.adom j ai hj
    exact ⟨r, by show ((st.arr.set id none).set id (some a')).get j = _; rw [this]; exact hr⟩
theorem Rel.set_arr (h : Rel C G st a w) {id : Nat} (hid : id < 65000) {a' : Arr} {ai' : AI} {F' : List (List Nat)}
    (hnew : ∀ ai, G.A id = some ai → ai = ai') (hp0 : id < 64000 ∨ G.A id = some ai')
    (hsize : w.heap.size ≤ w'.heap.size)
    (hw : ∀ x v, (∀ ai blk base m, G.A id = some ai → ai.loc = some (blk, base, m) → x.block ≠ blk) → w.cell? x = some v → w'.cell? x = some v ∧ w'.frozen? x = w.frozen? x)
    (hl : ∀ blk base m, ai'.loc = some (blk, base, m) → (w.heap.size ≤ blk ∧ blk < w'.heap.size) ∨ ∃ ai base m, G.A id = some ai ∧ ai.loc = some (blk, base, m))
    (ha : Keeps w w' (G.ok C) ((G.setA id (some ai') F').ok C) → ArrAt C (G.setA id (some ai') F') w' ai' a')
    (ho : a'.deep = true → OwnArr C w' ai' a' F')
    (hF : F'.flatten.Nodup)
    (hF2 : ∀ b ∈ F'.flatten, C.all b ∧ b < w'.heap.size ∧ ¬ (G.setA id (some ai') F').wr b ∧ ∀ id', id' ≠ id → b ∉ G.inner id')
    (hf : Fr C w') :
    Rel C (G.setA id (some ai') F') (st.newArr id a') a w' ∧ Keeps w w' (G.ok C) ((G.setA id (some ai') F').ok C) ∧ G.Le (G.setA id (some ai') F') := by
  have hle : G.Le (G.setA id (some ai') F') := ⟨fun _ _ h => h, fun j ai hj => by
    by_cases e : j = id
    · subst e; rw [Gh.setA_same, hnew ai hj]
    · rw [Gh.setA_ne _ _ _ e]; exact hj, rfl⟩
  obtain ⟨hm, H⟩ := h.mem.upd_arr hid (g := fun l => l) (box' := st.box) hsize hw hl ha ho hF hF2
    (fun H l v hl => hl.trans H hle) (fun b => by cases st.box.get b <;> simp) (fun p hp => by
      rcases hp0 with h0 | h0
      · have := (h.mem.pinA id p hp).1; omega
      · exact (h.mem.pinA id p hp).2 ai' h0)
  exact ⟨h.of_mem hm H hle hf, H, hle⟩
end
end Go.Ev

namespace Go.Ev
def OwnLeaf (w : World) : Leaf → Value → List Nat → Prop
  | .int k x, v, F => v = .int k x ∧ F = []
  | .bool b, v, F => v = .bool b ∧ F = []
  | .str s, v, F => v = .string s ∧ F = []
  | .nil, v, F => v = .slice none 0 0 ∧ F = []
  | .sl e l _, v, F => OwnT w (.sl e) l [v] F
  | _, _, _ => False
def OwnLeafs (w : World) : List Leaf → List Value → List Nat → Prop
  | [], [], F => F = []
  | l :: ls, v :: vs, F => ∃ F1 F2, F = F1 ++ F2 ∧ OwnLeaf w l v F1 ∧ OwnLeafs w ls vs F2
  | _, _, _ => False
theorem OwnLeafs.split {w : World} : ∀ (n : Nat) {ls : List Leaf} {vs : List Value} {F : List Nat}, OwnLeafs w ls vs F →
    ∃ F1 F2, F = F1 ++ F2 ∧ OwnLeafs w (ls.take n) (vs.take n) F1 ∧ OwnLeafs w (ls.drop n) (vs.drop n) F2
  | 0, ls, vs, F, h => ⟨[], F, rfl, rfl, h⟩
  | n + 1, [], [], F, h => ⟨[], [], by simpa [OwnLeafs] using h, rfl, rfl⟩
  | n + 1, l :: ls, v :: vs, F, h => by
    obtain ⟨F1, F2, rfl, h1, h2⟩ := h
    obtain ⟨F3, F4, rfl, h3, h4⟩ := OwnLeafs.split n h2
    exact ⟨F1 ++ F3, F4, by simp, ⟨F1, F3, rfl, h1, h3⟩, h4⟩
  | n + 1, [], _ :: _, _, h => h.elim
  | n + 1, _ :: _, [], _, h => h.elim
theorem OwnLeafs.rd {w : World} : ∀ {k : K} {ls : List Leaf} {vs : List Value} {x : k.T} {F : List Nat}, OwnLeafs w ls vs F → k.rd ls = some x → OwnT w k x vs F
  | .int k, ls, vs, x, F, h, e => by
    match ls, vs, h, e with
    | [.int k' y], [v], h, e =>
      simp only [K.rd] at e
      split at e
      · rename_i hk; subst hk; cases e
        obtain ⟨F1, F2, rfl, ⟨rfl, rfl⟩, h3⟩ := h
        simp only [OwnLeafs] at h3; subst h3
        exact ⟨rfl, rfl⟩
      · cases e
  | .bool, ls, vs, x, F, h, e => by
    match ls, vs, h, e with
    | [.bool y], [v], h, e =>
      simp only [K.rd, Option.some.injEq] at e; subst e
      obtain ⟨F1, F2, rfl, ⟨rfl, rfl⟩, h3⟩ := h
      simp only [OwnLeafs] at h3; subst h3
      exact ⟨rfl, rfl⟩
  | .str, ls, vs, x, F, h, e => by
    match ls, vs, h, e with
    | [.str y], [v], h, e =>
      simp only [K.rd, Option.some.injEq] at e; subst e
      obtain ⟨F1, F2, rfl, ⟨rfl, rfl⟩, h3⟩ := h
      simp only [OwnLeafs] at h3; subst h3
      exact ⟨rfl, rfl⟩
  | .sl k, ls, vs, x, F, h, e => by
    match ls, vs, h, e with
    | [.sl e' l b], [v], h, e =>
      simp only [K.rd] at e
      split at e
      · rename_i hk; subst hk; cases e
        obtain ⟨F1, F2, rfl, h2, h3⟩ := h
        simp only [OwnLeafs] at h3; subst h3
        rw [List.append_nil]
        exact h2
      · cases e
    | [.nil], [v], h, e =>
      simp only [K.rd, Option.some.injEq] at e; subst e
      obtain ⟨F1, F2, rfl, ⟨rfl, rfl⟩, h3⟩ := h
      simp only [OwnLeafs] at h3; subst h3
      exact ⟨none, 0, rfl, Nat.le_refl _, .inl ⟨rfl, rfl⟩⟩
  | .pr a b, ls, vs, x, F, h, e => by
    simp only [K.rd] at e
    split at e
    · rename_i y z h1 h2
      cases e
      obtain ⟨F1, F2, rfl, h3, h4⟩ := h.split a.sz
      exact ⟨vs.take a.sz, vs.drop a.sz, F1, F2, (List.take_append_drop _ _).symm, rfl, OwnLeafs.rd h3 h1, OwnLeafs.rd h4 h2⟩
    · cases e
structure Loose (C : Cx) (G : Gh) (w : World) (F : List Nat) : Prop where
  nd : F.Nodup
  new : ∀ b ∈ F, C.all b
  lt : ∀ b ∈ F, b < w.heap.size
  wr : ∀ b ∈ F, ¬ G.wr b
  inn : ∀ b ∈ F, ∀ id, b ∉ G.inner id
theorem Loose.nil (C : Cx) (G : Gh) (w : World) : Loose C G w [] := by constructor <;> simp
structure Gh.Sub (G' G : Gh) : Prop where
  B : G'.B = G.B
  A : ∀ id ai, G'.A id = some ai → G.A id = some ai
  inn : ∀ id b, b ∈ G'.inner id → b ∈ G.inner id
  E : G'.E = G.E
theorem Gh.Sub.refl (G : Gh) : G.Sub G := ⟨rfl, fun _ _ h => h, fun _ _ h => h, rfl⟩
theorem Gh.Sub.trans {G1 G2 G3 : Gh} (h : G1.Sub G2) (k : G2.Sub G3) : G1.Sub G3 := ⟨h.B.trans k.B, fun id ai hi => k.A _ _ (h.A _ _ hi), fun id b hb => k.inn _ _ (h.inn _ _ hb), h.E.trans k.E⟩
theorem Gh.Sub.wr {G' G : Gh} (h : G'.Sub G) {i : Nat} (hi : G'.wr i) : G.wr i := by
  rcases hi with ⟨b, base, hb⟩ | ⟨id, ai, base, m, h1, h2⟩
  · exact .inl ⟨b, base, by rw [← h.B]; exact hb⟩
  · exact .inr ⟨id, ai, base, m, h.A _ _ h1, h2⟩
theorem Gh.sub_setA (G : Gh) (id : Nat) : (G.setA id none []).Sub G := by
  refine ⟨rfl, fun j ai hj => ?_, fun j b hb => ?_, rfl⟩
  · by_cases e : j = id
    · subst e; rw [Gh.setA_same] at hj; cases hj
    · rw [Gh.setA_ne _ _ _ e] at hj; exact hj
  · by_cases e : j = id
    · subst e; rw [Gh.inner_same] at hb; simp at hb
    · rw [Gh.inner_ne _ _ _ e] at hb; exact hb
theorem Loose.sub {C : Cx} {G' G : Gh} {w : World} {F : List Nat} (h : Loose C G w F) (hs : G'.Sub G) : Loose C G' w F :=
  ⟨h.nd, h.new, h.lt, fun b hb hw => h.wr b hb (hs.wr hw), fun b hb id hi => h.inn b hb id (hs.inn _ _ hi)⟩
section
variable {C : Cx} {a : Act} {w : World}
theorem own_leaf {G : Gh} {st : St} (h : Rel C G st a w) {id : Nat} {r : Arr} {ai : AI} (hr : st.arr.get id = some r) (hA : G.A id = some ai) (ha : ArrAt C G w ai r) (hd : r.deep = true)
    {off len : Nat} {p : Option Addr} {c : Nat} (hall : (off = 0 ∧ len = r.l.length) ∨ r.e.flat = true) (hlen : off + len ≤ ai.n) (hc : len ≤ c)
    (hp : 0 < c → ∃ blk base m, ai.loc = some (blk, base, m) ∧ p = some ⟨blk, base + off * ai.sz, none⟩ ∧ (off + c) * ai.sz ≤ m) :
    ∃ F, OwnT w (.sl r.e) ((r.l.drop off).take len) [.slice p len c] F ∧ Loose C (G.setA id none []) w F ∧ ∀ b ∈ F, G.wr b ∨ ∃ id, b ∈ G.inner id := by
  have ho := h.mem.own id r ai hr hA hd
  have hn := ha.n
  have hll : ((r.l.drop off).take len).length = len := by simp; omega
  by_cases h0 : c = 0
  · exact ⟨[], ⟨p, c, by rw [hll], by omega, .inl ⟨h0, rfl⟩⟩, Loose.nil _ _ _, by simp⟩
  · obtain ⟨blk, base, m, hloc, hp', hcm⟩ := hp (by omega)
    have hnew := ho.new _ _ _ hloc
    have hlt := h.mem.lt blk (Gh.wr_of_A hA hloc)
    have hnwr : ¬ (G.setA id none []).wr blk := by
      rintro (⟨b, base', hb⟩ | ⟨j, aj, base', m', hj, hl⟩)
      · exact h.mem.ab b id ai blk base' base m hb hA hloc
      · by_cases e : j = id
        · subst e; rw [Gh.setA_same] at hj; cases hj
        · rw [Gh.setA_ne _ _ _ e] at hj
          exact h.mem.aa j id aj ai blk base' m' base m e hj hA hl hloc
    have hinn : ∀ j, blk ∉ G.inner j := fun j hj => (h.mem.fwr j blk hj).2.2 (Gh.wr_of_A hA hloc)
    have hinn' : ∀ j, blk ∉ (G.setA id none []).inner j := fun j hj => hinn j ((Gh.sub_setA G id).inn _ _ hj)
    have hthere : ∀ j, j < c * r.e.sz → ∃ v, w.cell? ⟨blk, base + off * ai.sz + j, none⟩ = some v ∧ w.frozen? ⟨blk, base + off * ai.sz + j, none⟩ = false := fun j hj => by
      have := ha.there blk base m hloc (off * ai.sz + j) (by rw [Nat.add_mul, ha.sz] at hcm; rw [ha.sz]; omega)
      rwa [show base + (off * ai.sz + j) = base + off * ai.sz + j by omega] at this
    rcases hall with ⟨rfl, rfl⟩ | hflat
    · -- the whole
      refine ⟨blk :: (G.F id).flatten, ⟨p, c, by rw [hll], by omega, .inr ⟨blk, base + 0 * ai.sz, G.F id, hp', rfl, by rw [hll]; exact ho.len, hthere, fun i hi => ?_⟩⟩, ?_, ?_⟩
      · rw [hll] at hi
        obtain ⟨cs, h1, h2⟩ := ho.el blk base m hloc i (by omega)
        refine ⟨cs, ?_, fun j v hj => ?_⟩
        · have : ((r.l.drop 0).take r.l.length).getD i r.e.zero = r.l.getD i r.e.zero := by rw [List.drop_zero, List.take_length]
          rw [this]; exact h1
        · have := h2 j v hj
          rw [← ha.sz, Nat.zero_mul, Nat.add_zero]
          exact this
      · refine ⟨List.nodup_cons.2 ⟨hinn id, h.mem.fnd id⟩, fun b hb => ?_, fun b hb => ?_, fun b hb => ?_, fun b hb j => ?_⟩
        · rcases List.mem_cons.1 hb with rfl | hb
          · exact hnew
          · exact (h.mem.fwr id b hb).1
        · rcases List.mem_cons.1 hb with rfl | hb
          · exact hlt
          · exact (h.mem.fwr id b hb).2.1
        · rcases List.mem_cons.1 hb with rfl | hb
          · exact hnwr
          · exact fun hc => (h.mem.fwr id b hb).2.2 ((Gh.sub_setA G id).wr hc)
        · rcases List.mem_cons.1 hb with rfl | hb
          · exact hinn' j
          · intro hj
            by_cases e : j = id
            · subst e; rw [Gh.inner_same] at hj; simp at hj
            · rw [Gh.inner_ne _ _ _ e] at hj
              exact h.mem.fdj id j (Ne.symm e) b hb hj
      · intro b hb
        rcases List.mem_cons.1 hb with rfl | hb
        · exact .inl (Gh.wr_of_A hA hloc)
        · exact .inr ⟨id, hb⟩
    · refine ⟨[blk], ⟨p, c, by rw [hll], by omega, .inr ⟨blk, base + off * ai.sz, List.replicate len [], hp', by simp, by rw [hll]; simp, hthere, fun i hi => ?_⟩⟩, ?_, ?_⟩
      · rw [hll] at hi
        obtain ⟨cs, h1, h2⟩ := ha.el blk base m hloc (off + i) (by omega)
        refine ⟨cs, ?_, fun j v hj => ?_⟩
        · have e1 : ((r.l.drop off).take len).getD i r.e.zero = r.l.getD (off + i) r.e.zero := by
            rw [List.getD_eq_getElem?_getD, List.getD_eq_getElem?_getD, List.getElem?_take, if_pos hi, List.getElem?_drop]
          have e2 : (List.replicate len ([] : List Nat)).getD i [] = [] := by
            rw [List.getD_eq_getElem?_getD]; simp [hi]
          rw [e1, e2]
          exact h1.own hflat
        · have := h2 j v hj
          rw [Nat.add_mul] at this
          rw [← ha.sz, show base + off * ai.sz + (i * ai.sz + j) = base + (off * ai.sz + i * ai.sz + j) by omega]
          exact this
      · refine ⟨by simp, ?_, ?_, ?_, ?_⟩ <;> intro b hb <;> (have : b = blk := by simpa using hb) <;> subst this
        · exact hnew
        · exact hlt
        · exact hnwr
        · exact hinn'
      · intro b hb
        have : b = blk := by simpa using hb
        subst this
        exact .inl (Gh.wr_of_A hA hloc)
theorem packN_rep : ∀ (n : Nat) {G : Gh} {st : St} {ls : List Leaf} {vs : List Value}, ls.length ≤ n → Rel C G st a w → RepLeafs w (G.ok C) G ls vs →
    ∃ G', Rel C G' (packN n st ls).1 a w ∧ Keeps w w (G.ok C) (G'.ok C) ∧ G'.Sub G ∧ (∀ id r, (packN n st ls).1.arr.get id = some r → st.arr.get id = some r) ∧
      (packN n st ls).1.n = st.n ∧ RepLeafs w (G'.ok C) G' (packN n st ls).2.1 vs ∧
      ((packN n st ls).2.2 = true → ∃ F, OwnLeafs w (packN n st ls).2.1 vs F ∧ Loose C G' w F ∧ ∀ b ∈ F, G.wr b ∨ ∃ id, b ∈ G.inner id)
  | 0, G, st, ls, vs, hn, h, hr => by
    have : ls = [] := List.eq_nil_of_length_eq_zero (by omega)
    subst this
    have : vs = [] := List.eq_nil_of_length_eq_zero (by have := hr.length; simp at this; exact this.symm)
    subst this
    exact ⟨G, h, Keeps.refl _ _, Gh.Sub.refl G, fun _ _ h => h, rfl, trivial, fun _ => ⟨[], rfl, Loose.nil _ _ _, by simp⟩⟩
  | n + 1, G, st, [], vs, hn, h, hr => by
    have : vs = [] := List.eq_nil_of_length_eq_zero (by have := hr.length; simp at this; exact this.symm)
    subst this
    exact ⟨G, h, Keeps.refl _ _, Gh.Sub.refl G, fun _ _ h => h, rfl, trivial, fun _ => ⟨[], rfl, Loose.nil _ _ _, by simp⟩⟩
  | n + 1, G, st, l :: ls, [], hn, h, hr => hr.elim
  | n + 1, G, st, l :: ls, v :: vs, hn, h, hr => by
    obtain ⟨hr0, hrs⟩ := hr
    have hn' : ls.length ≤ n := by simpa using hn
    have stay : ∀ (l' : Leaf) (dp : Bool), packN (n + 1) st (l :: ls) = ((packN n st ls).1, l' :: (packN n st ls).2.1, dp && (packN n st ls).2.2) →
        (∀ (G' : Gh), Keeps w w (G.ok C) (G'.ok C) → G'.Sub G → RepLeaf w (G'.ok C) G' l' v) → (dp = true → OwnLeaf w l' v []) →
        ∃ G', Rel C G' (packN (n + 1) st (l :: ls)).1 a w ∧ Keeps w w (G.ok C) (G'.ok C) ∧ G'.Sub G ∧ (∀ id r, (packN (n + 1) st (l :: ls)).1.arr.get id = some r → st.arr.get id = some r) ∧
          (packN (n + 1) st (l :: ls)).1.n = st.n ∧ RepLeafs w (G'.ok C) G' (packN (n + 1) st (l :: ls)).2.1 (v :: vs) ∧
          ((packN (n + 1) st (l :: ls)).2.2 = true → ∃ F, OwnLeafs w (packN (n + 1) st (l :: ls)).2.1 (v :: vs) F ∧ Loose C G' w F ∧ ∀ b ∈ F, G.wr b ∨ ∃ id, b ∈ G.inner id) := by
      intro l' dp e hrep hown
      obtain ⟨G', h1, h2, h3, h4, h5, h6, h7⟩ := packN_rep n hn' h hrs
      rw [e]
      refine ⟨G', h1, h2, h3, h4, h5, ⟨hrep G' h2 h3, h6⟩, fun hd => ?_⟩
      simp only [Bool.and_eq_true] at hd
      obtain ⟨F, h8, h9, h10⟩ := h7 hd.2
      exact ⟨F, ⟨[], F, rfl, hown hd.1, h8⟩, h9, h10⟩
    have give : ∀ (id : Nat) (r : Arr) (x : List r.e.T) (dp : Bool), st.arr.get id = some r →
        packN (n + 1) st (l :: ls) = ((packN n (st.freeze id r) (ls.map (Leaf.freeze id r))).1, .sl r.e x .no :: (packN n (st.freeze id r) (ls.map (Leaf.freeze id r))).2.1, dp && (packN n (st.freeze id r) (ls.map (Leaf.freeze id r))).2.2) →
        l.freeze id r = .sl r.e x .no →
        (dp = true → ∃ F, OwnT w (.sl r.e) x [v] F ∧ Loose C (G.setA id none []) w F ∧ ∀ b ∈ F, G.wr b ∨ ∃ id, b ∈ G.inner id) →
        ∃ G', Rel C G' (packN (n + 1) st (l :: ls)).1 a w ∧ Keeps w w (G.ok C) (G'.ok C) ∧ G'.Sub G ∧ (∀ id r, (packN (n + 1) st (l :: ls)).1.arr.get id = some r → st.arr.get id = some r) ∧
          (packN (n + 1) st (l :: ls)).1.n = st.n ∧ RepLeafs w (G'.ok C) G' (packN (n + 1) st (l :: ls)).2.1 (v :: vs) ∧
          ((packN (n + 1) st (l :: ls)).2.2 = true → ∃ F, OwnLeafs w (packN (n + 1) st (l :: ls)).2.1 (v :: vs) F ∧ Loose C G' w F ∧ ∀ b ∈ F, G.wr b ∨ ∃ id, b ∈ G.inner id) := by
      intro id r x dp hr e hfz hown
      have hidlt : id < 65000 := by obtain ⟨ai, hA, _⟩ := h.mem.arrR id r hr; exact h.mem.ia id ai hA
      obtain ⟨h1, H1, ai, hA, ha, hblk⟩ := h.freeze hidlt hr
      have hfr : ∀ j s, (st.freeze id r).arr.get j = some s → st.arr.get j = some s := fun j s hj => by
        simp only [St.freeze] at hj
        by_cases e : j = id
        · subst e; rw [Tr.get_set_same _ _ hidlt] at hj; cases hj
        · rwa [Tr.get_set_ne _ _ e] at hj
      have hg : ∀ l v, RepLeaf w (G.ok C) G l v → RepLeaf w ((G.setA id none []).ok C) (G.setA id none []) (l.freeze id r) v := fun l v => Leaf.freeze_rep hA ha H1 hblk
      obtain ⟨G', h2, H2, h3, h4, h5, h6, h7⟩ := packN_rep n (by simpa using hn') h1 (hrs.map hg)
      have hv : RepLeaf w ((G.setA id none []).ok C) (G.setA id none []) (.sl r.e x .no) v := by rw [← hfz]; exact hg _ _ hr0
      rw [e]
      refine ⟨G', h2, fun b u hb hu => H2 b u (H1 b u hb hu).1 (H1 b u hb hu).2, h3.trans (Gh.sub_setA G id), fun j s hj => hfr j s (h4 j s hj), h5, ⟨⟨hv.1.trans H2, fun h => (by cases h), fun _ _ h => (by cases h)⟩, h6⟩, fun hd => ?_⟩
      simp only [Bool.and_eq_true] at hd
      obtain ⟨F1, g1, g2, g3⟩ := hown hd.1
      obtain ⟨F2, g4, g5, g6⟩ := h7 hd.2
      have g2' := g2.sub h3
      refine ⟨F1 ++ F2, ⟨F1, F2, rfl, g1, g4⟩, ⟨?_, ?_, ?_, ?_, ?_⟩, ?_⟩
      · refine List.nodup_append.2 ⟨g2.nd, g5.nd, fun b hb c hc e => ?_⟩
        subst e
        rcases g6 b hc with g | ⟨j, g⟩
        · exact g2.wr b hb g
        · exact g2.inn b hb j g
      · intro b hb; rcases List.mem_append.1 hb with hb | hb
        · exact g2.new b hb
        · exact g5.new b hb
      · intro b hb; rcases List.mem_append.1 hb with hb | hb
        · exact g2.lt b hb
        · exact g5.lt b hb
      · intro b hb; rcases List.mem_append.1 hb with hb | hb
        · exact g2'.wr b hb
        · exact g5.wr b hb
      · intro b hb; rcases List.mem_append.1 hb with hb | hb
        · exact g2'.inn b hb
        · exact g5.inn b hb
      · intro b hb; rcases List.mem_append.1 hb with hb | hb
        · exact g3 b hb
        · rcases g6 b hb with g | ⟨j, g⟩
          · exact .inl ((Gh.sub_setA G id).wr g)
          · exact .inr ⟨j, (Gh.sub_setA G id).inn _ _ g⟩
    cases l with
    | own id =>
      cases hg : st.arr.get id with
      | none => exact stay .dead false (by simp [packN, hg]) (fun G' _ _ => hr0.one) (fun h => by cases h)
      | some r =>
        refine give id r r.l r.deep hg (by simp [packN, hg]) (by simp [Leaf.freeze]) fun hd => ?_
        obtain ⟨ai, p, c, hA, rfl, hc, hp⟩ := hr0
        obtain ⟨ai', hA', ha⟩ := h.mem.arrR id r hg
        rw [hA] at hA'; cases hA'
        have := own_leaf h hg hA ha hd (off := 0) (len := r.l.length) (p := p) (c := c) (.inl ⟨rfl, rfl⟩) (by rw [ha.n]; omega) (by rw [← ha.n]; exact hc) (fun h0 => by
          obtain ⟨blk, base, m, h6, h7, h8⟩ := hp h0
          exact ⟨blk, base, m, h6, by simpa using h7, by simpa using h8⟩)
        rw [List.drop_zero, List.take_length, ← ha.n] at this
        exact this
    | sub id o k =>
      cases hg : st.arr.get id with
      | none => exact stay .dead false (by simp [packN, hg]) (fun G' _ _ => hr0.one) (fun h => by cases h)
      | some r =>
        refine give id r ((r.l.drop o).take k) (r.deep && r.e.flat) hg (by simp [packN, hg]) (by simp [Leaf.freeze]) fun hd => ?_
        simp only [Bool.and_eq_true] at hd
        obtain ⟨ai, p, c, hA, rfl, hc, hlen, hp⟩ := hr0
        obtain ⟨ai', hA', ha⟩ := h.mem.arrR id r hg
        rw [hA] at hA'; cases hA'
        exact own_leaf h hg hA ha hd.1 (.inr hd.2) hlen hc hp
    | int k x => exact stay (.int k x) true (by simp [packN]) (fun G' _ _ => hr0) (fun _ => ⟨hr0, rfl⟩)
    | bool x => exact stay (.bool x) true (by simp [packN]) (fun G' _ _ => hr0) (fun _ => ⟨hr0, rfl⟩)
    | str x => exact stay (.str x) true (by simp [packN]) (fun G' _ _ => hr0) (fun _ => ⟨hr0, rfl⟩)
    | nil => exact stay .nil true (by simp [packN]) (fun G' _ _ => hr0) (fun _ => ⟨hr0, rfl⟩)
    | sl e l x => exact stay (.sl e l x) false (by simp [packN]) (fun G' H hs => ⟨hr0.1.trans H, hr0.2.1, by rw [hs.E]; exact hr0.2.2⟩) (fun h => by cases h)
    | ptr b o => exact stay (.ptr b o) false (by simp [packN]) (fun G' _ hs => PtrAt.mono (fun b p hb => by rw [hs.B]; exact hb) hr0) (fun h => by cases h)
    | fn f caps => exact stay (.fn f caps) false (by simp [packN]) (fun G' _ hs => by obtain ⟨cs, h1, h2⟩ := hr0; exact ⟨cs, h1, h2.mono (fun b p hb => by rw [hs.B]; exact hb)⟩) (fun h => by cases h)
    | ifp t g b o => exact stay (.ifp t g b o) false (by simp [packN]) (fun G' _ hs => by obtain ⟨p, h1, h2⟩ := hr0; exact ⟨p, h1.mono (fun b p hb => by rw [hs.B]; exact hb), h2⟩) (fun h => by cases h)
    | nilp => exact stay .nilp false (by simp [packN]) (fun G' _ _ => hr0) (fun h => by cases h)
    | nilf => exact stay .nilf false (by simp [packN]) (fun G' _ _ => hr0) (fun h => by cases h)
    | nili => exact stay .nili false (by simp [packN]) (fun G' _ _ => hr0) (fun h => by cases h)
    | ifx => exact stay .ifx false (by simp [packN]) (fun G' _ _ => hr0) (fun h => by cases h)
    | dead => exact stay .dead false (by simp [packN]) (fun G' _ _ => hr0) (fun h => by cases h)
end
end Go.Ev

namespace Go.Ev
def leafIs : Leaf → Value → Bool
  | .int k x, .int k' y => decide (k = k') && decide (x = y)
  | .bool b, .bool c => b == c
  | .str s, .string t => s.size == 0 && t.size == 0
  | .nil, .slice none 0 0 => true
  | .nilp, .pointer none => true
  | .nilf, .nilFunc => true
  | .nili, .nilIface => true
  | .dead, v => v.oneCell'
  | _, _ => false
theorem byteArray_empty {s : ByteArray} (h : s.size = 0) : s = ByteArray.empty := by
  cases s with | mk d =>
  have : d = #[] := Array.eq_empty_of_size_eq_zero h
  subst this; rfl
theorem leafIs_rep {w : World} {ok : Nat → Prop} {G : Gh} {l : Leaf} {v : Value} (h : leafIs l v = true) : RepLeaf w ok G l v := by
  unfold leafIs at h
  split at h
  · simp only [Bool.and_eq_true, decide_eq_true_eq] at h; obtain ⟨rfl, rfl⟩ := h; rfl
  · simp only [beq_iff_eq] at h; subst h; rfl
  · simp only [Bool.and_eq_true, beq_iff_eq] at h
    rw [byteArray_empty h.1, byteArray_empty h.2]; rfl
  · rfl
  · rfl
  · rfl
  · rfl
  · exact h
  · cases h
def leafsAre : List Leaf → List Value → Bool
  | [], [] => true
  | l :: ls, v :: vs => leafIs l v && leafsAre ls vs
  | _, _ => false
theorem leafsAre_rep {w : World} {ok : Nat → Prop} {G : Gh} : ∀ {ls : List Leaf} {vs : List Value}, leafsAre ls vs = true → RepLeafs w ok G ls vs
  | [], [], _ => trivial
  | l :: ls, v :: vs, h => by
    simp only [leafsAre, Bool.and_eq_true] at h
    exact ⟨leafIs_rep h.1, leafsAre_rep h.2⟩
  | [], _ :: _, h => by cases h
  | _ :: _, [], h => by cases h
def zeroIs : K → List Value → Bool
  | .int k, vs => match vs with
    | [.int k' n] => decide (k = k') && decide (n = 0)
    | _ => false
  | .bool, vs => match vs with
    | [.bool b] => !b
    | _ => false
  | .str, vs => match vs with
    | [.string s] => s.size == 0
    | _ => false
  | .sl _, vs => match vs with
    | [.slice none 0 0] => true
    | _ => false
  | .pr a b, vs => zeroIs a (vs.take a.sz) && zeroIs b (vs.drop a.sz)
theorem zeroIs_own {w : World} : ∀ {k : K} {vs : List Value}, zeroIs k vs = true → OwnT w k k.zero vs []
  | .int k, vs, h => by
    simp only [zeroIs] at h
    split at h
    · simp only [Bool.and_eq_true, decide_eq_true_eq] at h; obtain ⟨rfl, rfl⟩ := h; exact ⟨rfl, rfl⟩
    · cases h
  | .bool, vs, h => by
    simp only [zeroIs] at h
    split at h
    · rename_i b; cases b
      · exact ⟨rfl, rfl⟩
      · cases h
    · cases h
  | .str, vs, h => by
    simp only [zeroIs] at h
    split at h
    · simp only [beq_iff_eq] at h; rw [byteArray_empty h]; exact ⟨rfl, rfl⟩
    · cases h
  | .sl e, vs, h => by
    simp only [zeroIs] at h
    split at h
    · exact ⟨none, 0, rfl, Nat.le_refl _, .inl ⟨rfl, rfl⟩⟩
    · cases h
  | .pr a b, vs, h => by
    simp only [zeroIs, Bool.and_eq_true] at h
    exact ⟨vs.take a.sz, vs.drop a.sz, [], [], (List.take_append_drop _ _).symm, rfl, zeroIs_own h.1, zeroIs_own h.2⟩
def rowT (P : Program) (t : TypeId) : Bool := match P.underlying t with | some d => d.isRow | none => false
def fieldsAre (P : Program) : List (Nat × Nat × Bool) → List Field → Bool
  | [], [] => true
  | x :: xs, f :: fs => x.1 == f.offset && x.2.1 == P.cellsOf f.type && x.2.2 == rowT P f.type && !(x.2.1 == 0) && (P.info? f.type).isSome && (P.underlying f.type).isSome && fieldsAre P xs fs
  | _, _ => false
structure TIok (P : Program) (t : TypeId) (ti : TI) : Prop where
  info : ∃ i z, P.info? t = some i ∧ i.size = ti.size ∧ i.bytes = ti.bytes ∧ i.zero = some z ∧ z.cells.size = ti.size ∧ leafsAre ti.zero z.cells.toList = true ∧
    ∀ k, ti.kd = some k → k.sz = ti.size ∧ 0 < ti.bytes ∧ zeroIs k z.cells.toList = true
  und : ∃ d, P.underlying t = some d ∧ d.isRow = ti.agg ∧
    (∀ fs, ti.d = .struct fs → ∃ fields, d = .struct fields ∧ fieldsAre P fs fields.toList = true) ∧
    (∀ e, ti.d = .slice e → d = .slice e) ∧ (∀ kk, ti.kd = some (.int kk) → d = .int kk) ∧ (ti.kd = some .str → d = .string) ∧ (ti.kd = some .bool → d = .bool)
def tiOk (P : Program) (t : TypeId) (ti : TI) : Bool :=
  (match P.info? t with
  | some i => i.size == ti.size && i.bytes == ti.bytes && (match i.zero with
    | some z => z.cells.size == ti.size && leafsAre ti.zero z.cells.toList && (match ti.kd with
      | some k => k.sz == ti.size && Nat.blt 0 ti.bytes && zeroIs k z.cells.toList
      | none => true)
    | none => false)
  | none => false) &&
  (match P.underlying t with
  | some d => d.isRow == ti.agg && (match ti.d, d with
    | .struct fs, .struct fields => fieldsAre P fs fields.toList
    | .slice e, .slice e' => e == e'
    | .other, _ => true
    | _, _ => false) && (match ti.kd, d with
    | some (.int kk), .int kk' => decide (kk = kk')
    | some (.int _), _ => false
    | some .str, .string => true
    | some .str, _ => false
    | some .bool, .bool => true
    | some .bool, _ => false
    | _, _ => true)
  | none => false)
theorem tiOk_spec {P : Program} {t : TypeId} {ti : TI} (h : tiOk P t ti = true) : TIok P t ti := by
  unfold tiOk at h
  rw [Bool.and_eq_true] at h
  obtain ⟨h1, h2⟩ := h
  constructor
  · cases hi : P.info? t with
    | none => rw [hi] at h1; cases h1
    | some i =>
      simp only [hi, Bool.and_eq_true, beq_iff_eq] at h1
      obtain ⟨⟨h3, h4⟩, h5⟩ := h1
      cases hz : i.zero with
      | none => rw [hz] at h5; cases h5
      | some z =>
        simp only [hz, Bool.and_eq_true, beq_iff_eq] at h5
        obtain ⟨⟨h6, h7⟩, h8⟩ := h5
        refine ⟨i, z, rfl, h3, h4, hz, h6, h7, fun k hk => ?_⟩
        simp only [hk, Bool.and_eq_true, beq_iff_eq] at h8
        exact ⟨h8.1.1, by have := h8.1.2; simp [Nat.blt] at this; omega, h8.2⟩
  · cases hd : P.underlying t with
    | none => rw [hd] at h2; cases h2
    | some d =>
      simp only [hd, Bool.and_eq_true, beq_iff_eq] at h2
      obtain ⟨⟨h3, h4⟩, h5⟩ := h2
      refine ⟨d, rfl, h3, fun fs hfs => ?_, fun e he => ?_, fun kk hk => ?_, fun hk => ?_, fun hk => ?_⟩
      · rw [hfs] at h4
        cases d <;> simp at h4
        exact ⟨_, rfl, h4⟩
      · rw [he] at h4
        cases d <;> simp at h4
        subst h4; rfl
      · rw [hk] at h5
        cases d <;> simp at h5
        subst h5; rfl
      · rw [hk] at h5
        cases d <;> simp at h5
        rfl
      · rw [hk] at h5
        cases d <;> simp at h5
        rfl
def TyOk (P : Program) (ty : Ty) : Prop := ∀ t ti, ty t = some ti → TIok P t ti
def Tr.ofList {α : Type} : List (Nat × α) → Tr α
  | [] => .nil
  | (i, v) :: l => (Tr.ofList l).set i (some v)
theorem Tr.get_ofList {α : Type} : ∀ (l : List (Nat × α)) (i : Nat) (v : α), l.all (fun p => Nat.blt p.1 65000) = true → (Tr.ofList l).get i = some v → (i, v) ∈ l
  | [], _, _, _, h => by cases h
  | (j, u) :: l, i, v, hl, h => by
    simp only [List.all_cons, Bool.and_eq_true] at hl
    have hj : j < 65000 := by have := hl.1; simp [Nat.blt] at this; omega
    rw [Tr.ofList, Tr.get_set _ _ hj] at h
    split at h
    · rename_i e; subst e; cases h; exact List.mem_cons_self
    · exact List.mem_cons_of_mem _ (Tr.get_ofList l i v hl.2 h)
def tabOk (P : Program) (l : List (Nat × TI)) : Bool := l.all (fun p => Nat.blt p.1 65000) && l.all fun p => tiOk P p.1 p.2
theorem tyOk_of_tab {P : Program} {l : List (Nat × TI)} (h : tabOk P l = true) : TyOk P fun t => (Tr.ofList l).get t := fun t ti ht => by
  unfold tabOk at h
  rw [Bool.and_eq_true] at h
  exact tiOk_spec (List.all_eq_true.1 h.2 _ (Tr.get_ofList l t ti h.1 ht))
section
variable {P : Program} {w : World}
theorem run_isAgg {t : TypeId} {d : TypeDesc} (h : P.underlying t = some d) (w : World) : (isAgg t).run P w = .ok d.isRow w := by
  unfold isAgg
  rw [Sem.run_bind, run_underlying h w]
  cases d <;> simp
theorem run_sizeOf {t : TypeId} {i : TypeInfo} (h : P.info? t = some i) (w : World) : (sizeOf t).run P w = .ok i.size w := by
  simp [sizeOf, typeInfo, h]
theorem run_zeroValue {t : TypeId} {i : TypeInfo} {z : Value} (h : P.info? t = some i) (hz : i.zero = some z) (w : World) : (zeroValue t).run P w = .ok z w := by
  simp [zeroValue, typeInfo, h, hz]
theorem run_load_cell {x : Addr} {v : Value} (h : w.cell? x = some v) : (load x).run P w = .ok v w := by
  simp [load, Sem.run, h]
theorem run_loadAt_gen {t : TypeId} {i : TypeInfo} {d : TypeDesc} (hi : P.info? t = some i) (hd : P.underlying t = some d) {ad : Addr} {cs : List Value} (hl : cs.length = i.size)
    (hc : ∀ j v, cs[j]? = some v → w.cell? (ad.add j) = some v) (v : Value) (hv : if d.isRow then v = .agg cs.toArray else cs = [v]) :
    (Instr.loadAt t (.pointer (some ad))).run P w = .ok v w := by
  simp only [Instr.loadAt, Instr.sureAddr, Sem.run_bind, Sem.run_pure, Result.andThen_ok, loadVar, run_isAgg hd]
  cases hr : d.isRow
  · rw [hr] at hv
    simp at hv
    subst hv
    have := hc 0 v rfl
    rw [Addr.add_zero'] at this
    simpa using run_load_cell (P := P) this
  · rw [hr] at hv
    simp at hv
    subst hv
    have := run_loadCells_list (P := P) w ad cs hc
    simp [Sem.run_bind, run_sizeOf hi, ← hl, this]
theorem run_storeAt_gen {t : TypeId} {i : TypeInfo} (hi : P.info? t = some i) {b o : Nat} {v : Value} {vs : List Value} (hv : v.cells.toList = vs) (hl : vs.length = i.size)
    (ht : w.there b o vs.length) (h1 : ∀ v ∈ vs, v.oneCell' = true) :
    (Instr.storeAt t (.pointer (some ⟨b, o, none⟩)) v).run P w = .ok () (w.setCells b o vs) := by
  have := run_storeCells_cells (P := P) b o vs 0 w (fun j hj => by simpa using (ht j hj).1) (fun j hj => by simpa using (ht j hj).2) h1
  simp only [Nat.add_zero] at this
  have hs : v.cells.size = i.size := by rw [← hl, ← hv]; simp
  simp only [Instr.storeAt, Instr.sureAddr, Sem.run_bind, Sem.run_pure, Result.andThen_ok, storeVar, run_sizeOf hi, hs, hv]
  simpa using this
theorem cells_one {v : Value} (h : v.oneCell' = true) : v.cells.toList = [v] := by
  cases v <;> first | rfl | cases h
theorem wp_value {o : Oper} {a : Act} {next : Act → World → Prop} {Q : Exit → Act → World → Prop} {v : Value} {w' : World} (h : (execOp a.eval o).run P w = .ok (.value v) w') (hn : next (a.put o.dst v) w') : o.wp P a w next Q := by
  unfold Oper.wp; rw [h]; exact hn
theorem wp_skip' {o : Oper} {a : Act} {next : Act → World → Prop} {Q : Exit → Act → World → Prop} {w' : World} (h : (execOp a.eval o).run P w = .ok .skip w') (hn : next (a.put o.dst undef) w') : o.wp P a w next Q := by
  unfold Oper.wp; rw [h]; exact hn
end
end Go.Ev

namespace Go.Ev
def Then (C : Cx) (a : Act) (dst : Option Tmp) (n : Nat) {R : Type} (k : St → Slot → Option R) (r : R) (next : Act → World → Prop) : Prop :=
  ∀ G' st' s v w', Rel C G' st' a w' → st'.n = n → RepSlot w' (G'.ok C) G' s v → k st' s = some r → next (a.put dst v) w'
section
variable {P : Program} {ty : Ty} {C : Cx} {G : Gh} {st : St} {a : Act} {w : World} {R : Type} {k : St → Slot → Option R} {r : R} {o : Oper} {next : Act → World → Prop} {Q : Exit → Act → World → Prop}
theorem run_v {α : Type} {s : Sem Value} {v : Value} {w' : World} (h : s.run P w = .ok v w') : (do pure (Next.value (← s)) : Sem Next).run P w = .ok (.value v) w' := by
  simp [Sem.run_bind, h]
theorem run_u {s : Sem Unit} {w' : World} (h : s.run P w = .ok () w') : (do s; pure Next.skip : Sem Next).run P w = .ok .skip w' := by
  simp [Sem.run_bind, h]
theorem ok_move {x : Operand} (hop : o.op = .move x ∨ o.op = .assign x) (h : Rel C G st a w) (hT : Then C a o.dst st.n k r next) (e : k st (st.ev x) = some r) : o.wp P a w next Q := by
  refine wp_value (v := a.eval x) (w' := w) ?_ (hT G st _ _ w h rfl (h.ev x) e)
  rcases hop with hop | hop <;> simp [execOp, hop]
theorem ok_pick {c x y : Operand} (hop : o.op = .pick c x y) (h : Rel C G st a w) (hT : Then C a o.dst st.n k r next)
    (e : (match st.ev c with | .lf (.bool b) => cond b (k st (st.ev x)) (k st (st.ev y)) | _ => none) = some r) : o.wp P a w next Q := by
  have hc := h.ev c
  split at e
  · rename_i b hb
    rw [hb] at hc
    have hc' : a.eval c = .bool b := hc
    cases b
    · refine wp_value (v := a.eval y) (w' := w) ?_ (hT G st _ _ w h rfl (h.ev y) e)
      simp [execOp, hop, hc', asBool]
    · refine wp_value (v := a.eval x) (w' := w) ?_ (hT G st _ _ w h rfl (h.ev x) e)
      simp [execOp, hop, hc', asBool]
  · cases e
theorem ok_alloc (hty : TyOk P ty) {t : TypeId} (hop : o.op = .alloc t) (h : Rel C G st a w) (hd : o.dst.getD 0 < st.n) (hT : Then C a o.dst st.n k r next) (e : allocK ty (o.dst.getD 0) t st k = some r) : o.wp P a w next Q := by
  unfold allocK at e
  split at e
  · rename_i ti hti hb
    obtain ⟨i, z, hi, hs, hby, hz, hzs, hzl, _⟩ := (hty t ti hti).info
    have hn := h.n
    obtain ⟨G', h1, h2⟩ := h.new_box (d := o.dst.getD 0) (Nat.lt_of_lt_of_le hd (Nat.le_trans hn (by decide))) hb t (leafsAre_rep hzl)
    refine wp_value (w' := w.alloc (.cells z.cells t)) (v := .pointer (some ⟨w.heap.size, 0, none⟩)) ?_ (hT G' _ _ _ _ h1 rfl h2 e)
    have : (Instr.alloc t true (.tuple #[])).run P w = .ok (.pointer (some ⟨w.heap.size, 0, none⟩)) (w.alloc (.cells z.cells t)) := by
      simp [Instr.alloc, Sem.run_bind, run_zeroValue hi hz, newVar, newRow]
    simp only [execOp, hop]
    exact run_v (α := Value) this
  · cases e
theorem ok_box {t : TypeId} {x : Operand} (hop : o.op = .box t x) (h : Rel C G st a w) (hd : o.dst.getD 0 < st.n) (hT : Then C a o.dst st.n k r next) (e : boxK (o.dst.getD 0) (st.ev x) st k = some r) : o.wp P a w next Q := by
  have hx := h.ev x
  have hn := h.n
  have hrun : ∀ cs : Array Value, (a.eval x).cells = cs → (execOp a.eval o).run P w = .ok (.value (.pointer (some ⟨w.heap.size, 0, none⟩))) (w.alloc (.cells cs t)) := fun cs hcs => by
    have : (Instr.box t (a.eval x)).run P w = .ok (.pointer (some ⟨w.heap.size, 0, none⟩)) (w.alloc (.cells cs t)) := by
      simp [Instr.box, newVar, newRow, hcs]
    simp only [execOp, hop]
    exact run_v (α := Value) this
  unfold boxK at e
  split at e
  · rename_i l hb hl
    rw [hl] at hx
    have h1 := RepLeaf.one hx
    have hc : (a.eval x).cells.toList = [a.eval x] := cells_one h1
    obtain ⟨G', h2, h3⟩ := h.new_box (d := o.dst.getD 0) (Nat.lt_of_lt_of_le hd (Nat.le_trans hn (by decide))) hb (ls := [l]) (cs := (a.eval x).cells) t (by rw [hc]; exact ⟨hx, trivial⟩)
    exact wp_value (hrun _ rfl) (hT G' _ _ _ _ h2 rfl h3 e)
  · rename_i ls hb hl
    rw [hl] at hx
    obtain ⟨vs, hv, hr⟩ := hx
    have hc : (a.eval x).cells = vs.toArray := by rw [hv]; rfl
    obtain ⟨G', h2, h3⟩ := h.new_box (d := o.dst.getD 0) (Nat.lt_of_lt_of_le hd (Nat.le_trans hn (by decide))) hb (ls := ls) (cs := vs.toArray) t (by simpa using hr)
    exact wp_value (hrun _ hc) (hT G' _ _ _ _ h2 rfl h3 e)
  · cases e
theorem mkSlot_rep {ok : Nat → Prop} {agg : Bool} {ls : List Leaf} {cs : List Value} {s : Slot} (hr : RepLeafs w ok G ls cs) (hs : mkSlot agg ls = some s) :
    ∃ v, RepSlot w ok G s v ∧ (if agg then v = .agg cs.toArray else cs = [v]) := by
  unfold mkSlot at hs
  cases agg
  · simp only [cond_false] at hs
    split at hs
    · rename_i l
      cases hs
      match cs, hr with
      | [v], hr => exact ⟨v, hr.1, by simp⟩
      | v :: _ :: _, hr => exact hr.2.elim
    · cases hs
  · simp only [cond_true, Option.some.injEq] at hs
    subst hs
    exact ⟨_, ⟨cs, rfl, hr⟩, by simp⟩
theorem leafsAt_rep (h : Rel C G st a w) {size : Nat} {s : Slot} {v : Value} (hs : RepSlot w (G.ok C) G s v) {ls : List Leaf} (e : st.leafsAt size s = some ls) :
    ∃ ad cs, v = .pointer (some ad) ∧ RepLeafs w (G.ok C) G ls cs ∧ ∀ j c, cs[j]? = some c → w.cell? (ad.add j) = some c := by
  unfold St.leafsAt at e
  split at e
  · rename_i b o
    obtain ⟨ls0, h1, rfl⟩ := Option.map_eq_some_iff.1 e
    obtain ⟨blk, base, hB, hv⟩ := hs
    obtain ⟨blk', base', hB', hat⟩ := h.mem.boxR b ls0 h1
    rw [hB] at hB'; cases hB'
    obtain ⟨vs, h2, h3⟩ := hat.vs
    refine ⟨_, (vs.drop o).take size, hv, (h2.drop o).take size, fun j c hj => ?_⟩
    rw [List.getElem?_take] at hj
    split at hj
    · rw [List.getElem?_drop] at hj
      rw [Addr.add_mid, show base + o + j = base + (o + j) by omega]
      exact h3 _ _ hj
    · cases hj
  · rename_i id i o
    obtain ⟨r0, h1, rfl⟩ := Option.map_eq_some_iff.1 e
    obtain ⟨ai, blk, base, m, hA, hl, hi, hv⟩ := hs
    obtain ⟨ai', hA', ha⟩ := h.mem.arrR id r0 h1
    rw [hA] at hA'; cases hA'
    obtain ⟨cs, h2, h3⟩ := ha.el blk base m hl i hi
    refine ⟨_, (cs.drop o).take size, hv, ((RepT.lv h2).drop o).take size, fun j c hj => ?_⟩
    rw [List.getElem?_take] at hj
    split at hj
    · rw [List.getElem?_drop] at hj
      rw [Addr.add_mid, show base + i * ai.sz + o + j = base + (i * ai.sz + (o + j)) by omega]
      exact h3 _ _ hj
    · cases hj
  · rename_i ls0
    cases e
    obtain ⟨ad, h1, h2, cs, h3, h4⟩ := hs
    refine ⟨ad, cs.take size, h1, h3.take size, fun j c hj => ?_⟩
    rw [List.getElem?_take] at hj
    split at hj
    · exact h4 _ _ hj
    · cases hj
  · cases e
theorem ok_load (hty : TyOk P ty) {t : TypeId} {x : Operand} (hop : o.op = .load t x) (h : Rel C G st a w) (hT : Then C a o.dst st.n k r next) (e : loadK ty t (st.ev x) st k = some r) : o.wp P a w next Q := by
  unfold loadK at e
  split at e
  · rename_i ti hti
    split at e
    · rename_i ls hls
      cases hlen : (ls.length == ti.size)
      · rw [hlen] at e; cases e
      · rw [hlen] at e
        simp only [cond_true] at e
        split at e
        · rename_i s hs
          obtain ⟨ad, cs, hv, hr, hc⟩ := leafsAt_rep h (h.ev x) hls
          obtain ⟨v, h1, h2⟩ := mkSlot_rep hr hs
          obtain ⟨i, z, hi, hsz, _⟩ := (hty t ti hti).info
          obtain ⟨d, hd, hrow, _⟩ := (hty t ti hti).und
          have hl : cs.length = i.size := by rw [hsz, ← hr.length]; simpa using hlen
          refine wp_value (v := v) (w' := w) ?_ (hT G st _ _ w h rfl h1 e)
          simp only [execOp, hop]
          refine run_v (α := Value) ?_
          rw [hv]
          exact run_loadAt_gen hi hd hl hc v (by rw [hrow]; exact h2)
        · cases e
    · cases e
  · cases e
theorem leafs_rep {ok : Nat → Prop} {s : Slot} {v : Value} (hs : RepSlot w ok G s v) {n : Nat} (hn : s.leafs.length = n) (h0 : 0 < n) : RepLeafs w ok G s.leafs v.cells.toList ∧ ∀ c ∈ v.cells.toList, c.oneCell' = true := by
  cases s with
  | lf l =>
    have h1 := RepLeaf.one hs
    rw [cells_one h1]
    exact ⟨⟨hs, trivial⟩, fun c hc => by simp at hc; subst hc; exact h1⟩
  | ag ls =>
    obtain ⟨vs, rfl, hr⟩ := hs
    have : (Value.agg vs.toArray).cells.toList = vs := by simp [Value.cells]
    rw [this]
    exact ⟨hr, hr.one⟩
  | tp | ep | rp | dead => simp [Slot.leafs] at hn; omega
theorem storeBox (hty : TyOk P ty) {t : TypeId} {x y : Operand} (hop : o.op = .store t x y) (h : Rel C G st a w) (hT : Then C a o.dst st.n k r next) {ti : TI} (hti : ty t = some ti)
    (hlen : (st.ev y).leafs.length = ti.size) (h0 : 0 < ti.size) {b off : Nat} (hx : st.ev x = .lf (.ptr b off)) {ls : List Leaf} (hb : st.box.get b = some ls) (hle : off + (st.ev y).leafs.length ≤ ls.length)
    (e : k { st with box := st.box.set b (some (splice ls off (st.ev y).leafs)) } .dead = some r) : o.wp P a w next Q := by
  obtain ⟨i, z, hi, hsz, _⟩ := (hty t ti hti).info
  have hxr := h.ev x
  rw [hx] at hxr
  obtain ⟨blk, base, hB, hv⟩ := hxr
  obtain ⟨h1, h2⟩ := leafs_rep (h.ev y) hlen h0
  have hl := h1.length
  have hst := h.store_box (b := b) (o := off) (h.mem.ib _ _ hB) hb hB hle h1
  obtain ⟨blk', base', hB', hat⟩ := h.mem.boxR b ls hb
  rw [hB] at hB'; cases hB'
  obtain ⟨vs0, hv1, hv2⟩ := hat.vs
  have hl0 := hv1.length
  refine wp_skip' (w' := w.setCells blk (base + off) (a.eval y).cells.toList) ?_ (hT G _ .dead undef _ hst rfl trivial e)
  simp only [execOp, hop]
  refine run_u ?_
  rw [hv]
  refine run_storeAt_gen hi rfl (by rw [hsz, ← hl, hlen]) (fun j hj => ?_) h2
  constructor
  · have := hv2 (off + j) _ (List.getElem?_eq_getElem (by omega))
    rw [show base + off + j = base + (off + j) by omega, this]; rfl
  · rw [show base + off + j = base + (off + j) by omega]
    exact hat.fz _ (by omega)
end
end Go.Ev

namespace Go.Ev
theorem fieldsAre_get {P : Program} : ∀ {fs : List (Nat × Nat × Bool)} {fields : List Field} {i : Nat} {x : Nat × Nat × Bool}, fieldsAre P fs fields = true → fs[i]? = some x →
    ∃ f, fields[i]? = some f ∧ f.offset = x.1 ∧ x.2.1 ≠ 0 ∧ (∃ ti, P.info? f.type = some ti ∧ ti.size = x.2.1) ∧ ∃ d, P.underlying f.type = some d ∧ d.isRow = x.2.2
  | y :: ys, f :: fl, 0, x, h, e => by
    simp only [List.getElem?_cons_zero, Option.some.injEq] at e; subst e
    simp only [fieldsAre, Bool.and_eq_true, beq_iff_eq, Bool.not_eq_true', beq_eq_false_iff_ne] at h
    obtain ⟨⟨⟨⟨⟨⟨h1, h2⟩, h3⟩, h4⟩, h5⟩, h6⟩, _⟩ := h
    obtain ⟨ti, hti⟩ := Option.isSome_iff_exists.1 h5
    obtain ⟨d, hd⟩ := Option.isSome_iff_exists.1 h6
    refine ⟨f, rfl, h1.symm, h4, ⟨ti, hti, ?_⟩, d, hd, ?_⟩
    · rw [h2]; simp [Program.cellsOf, hti]
    · rw [h3]; simp [rowT, hd]
  | y :: ys, f :: fl, i + 1, x, h, e => by
    simp only [fieldsAre, Bool.and_eq_true] at h
    simpa using fieldsAre_get (i := i) h.2 (by simpa using e)
  | [], _, _, _, _, e => by simp at e
  | _ :: _, [], _, _, h, _ => by cases h
section
variable {P : Program} {ty : Ty} {C : Cx} {G : Gh} {st : St} {a : Act} {w : World} {R : Type} {k : St → Slot → Option R} {r : R} {o : Oper} {next : Act → World → Prop} {Q : Exit → Act → World → Prop}
theorem ok_nilCheck {x : Operand} (hop : o.op = .nilCheck x) (h : Rel C G st a w) (hT : Then C a o.dst st.n k r next) (e : nilCheckK (st.ev x) st k = some r) : o.wp P a w next Q := by
  have hx := h.ev x
  unfold nilCheckK at e
  split at e
  · rename_i b off hs
    rw [hs] at hx
    refine wp_value (v := a.eval x) (w' := w) ?_ (hT G st _ _ w h rfl hx e)
    obtain ⟨blk, base, _, hv⟩ := hx
    simp [execOp, hop, hv]
  · rename_i f c hs
    rw [hs] at hx
    refine wp_value (v := a.eval x) (w' := w) ?_ (hT G st _ _ w h rfl hx e)
    obtain ⟨cs, hv, _⟩ := hx
    simp [execOp, hop, hv]
  · rename_i t g b off hs
    rw [hs] at hx
    refine wp_value (v := a.eval x) (w' := w) ?_ (hT G st _ _ w h rfl hx e)
    obtain ⟨p, _, hv⟩ := hx
    simp [execOp, hop, hv]
  · rename_i id i off hs
    rw [hs] at hx
    refine wp_value (v := a.eval x) (w' := w) ?_ (hT G st _ _ w h rfl hx e)
    obtain ⟨_, _, _, _, _, _, _, hv⟩ := hx
    simp [execOp, hop, hv]
  · rename_i ls hs
    rw [hs] at hx
    refine wp_value (v := a.eval x) (w' := w) ?_ (hT G st _ _ w h rfl hx e)
    obtain ⟨ad, hv, _⟩ := hx
    simp [execOp, hop, hv]
  · cases e
theorem run_fieldAt {t : TypeId} {fields : List Field} {d : TypeDesc} {arr : Array Field} (hd : P.underlying t = some d) (hs : d = .struct arr) {i : Nat} {f : Field} (hf : arr.toList[i]? = some f) {ti : TypeInfo} (hi : P.info? f.type = some ti) (h0 : ti.size ≠ 0) (ad : Addr) (w : World) :
    (Instr.fieldAt t (.pointer (some ad)) i).run P w = .ok (.pointer (some (ad.add f.offset))) w := by
  subst hs
  have hf' : arr[i]? = some f := by simpa using hf
  simp [Instr.fieldAt, Sem.run_bind, run_underlying hd, hf', Instr.sureAddr, fieldPlace, run_sizeOf hi, h0]
theorem ok_fieldAddr (hty : TyOk P ty) {t : TypeId} {x : Operand} {f : Nat} (hop : o.op = .fieldAddr t x f) (h : Rel C G st a w) (hT : Then C a o.dst st.n k r next) (e : fieldAddrK ty t (st.ev x) f st k = some r) : o.wp P a w next Q := by
  have hx := h.ev x
  unfold fieldAddrK at e
  split at e
  · rename_i fs b1 b2 b3 b4 b5 hti
    obtain ⟨d, hd, _, hst, _⟩ := (hty t _ hti).und
    obtain ⟨fields, hdd, hfs⟩ := hst fs rfl
    split at e
    · rename_i off sz b bo hf hs
      rw [hs] at hx
      obtain ⟨fd, h1, h2, h3, ⟨ti, h4, h5⟩, _⟩ := fieldsAre_get hfs hf
      obtain ⟨blk, base, hB, hv⟩ := hx
      refine wp_value (v := .pointer (some ⟨blk, base + (bo + off), none⟩)) (w' := w) ?_ (hT G st (.lf (.ptr b (bo + off))) _ w h rfl ⟨blk, base, hB, rfl⟩ e)
      simp only [execOp, hop]
      refine run_v (α := Value) ?_
      rw [hv, run_fieldAt (fields := []) hd hdd h1 h4 (by rw [h5]; exact h3), Addr.add_mid, h2]
      simp [Nat.add_assoc]
    · rename_i off sz id i bo hf hs
      rw [hs] at hx
      obtain ⟨fd, h1, h2, h3, ⟨ti, h4, h5⟩, _⟩ := fieldsAre_get hfs hf
      obtain ⟨ai, blk, base, m, hA, hl, hi, hv⟩ := hx
      refine wp_value (v := .pointer (some ⟨blk, base + i * ai.sz + (bo + off), none⟩)) (w' := w) ?_ (hT G st (.ep id i (bo + off)) _ w h rfl ⟨ai, blk, base, m, hA, hl, hi, rfl⟩ e)
      simp only [execOp, hop]
      refine run_v (α := Value) ?_
      rw [hv, run_fieldAt (fields := []) hd hdd h1 h4 (by rw [h5]; exact h3), Addr.add_mid, h2]
      simp [Nat.add_assoc]
    · rename_i off sz ls hf hs
      rw [hs] at hx
      obtain ⟨fd, h1, h2, h3, ⟨ti, h4, h5⟩, _⟩ := fieldsAre_get hfs hf
      obtain ⟨ad, hv, hok, cs, h6, h7⟩ := hx
      refine wp_value (v := .pointer (some (ad.add off))) (w' := w) ?_ (hT G st (.rp (ls.drop off)) _ w h rfl ⟨ad.add off, rfl, fun hn => ?_, cs.drop off, h6.drop off, fun j c hj => ?_⟩ e)
      · simp only [execOp, hop]
        refine run_v (α := Value) ?_
        rw [hv, run_fieldAt (fields := []) hd hdd h1 h4 (by rw [h5]; exact h3), h2]
      · rw [addr_add_block]
        exact hok fun hc => hn (by rw [hc]; simp)
      · rw [addr_add_add]
        rw [List.getElem?_drop] at hj
        exact h7 _ _ hj
    · cases e
  · cases e
theorem ok_field (hty : TyOk P ty) {t : TypeId} {x : Operand} {f : Nat} (hop : o.op = .field t x f) (h : Rel C G st a w) (hT : Then C a o.dst st.n k r next) (e : fieldK ty t (st.ev x) f st k = some r) : o.wp P a w next Q := by
  have hx := h.ev x
  unfold fieldK at e
  split at e
  · rename_i fs b1 b2 b3 b4 b5 ls hti hs
    rw [hs] at hx
    obtain ⟨d, hd, _, hst, _⟩ := (hty t _ hti).und
    obtain ⟨fields, hdd, hfs⟩ := hst fs rfl
    subst hdd
    split at e
    · rename_i off sz agg hf
      obtain ⟨fd, h1, h2, h3, ⟨ti, h4, h5⟩, d2, h6, h7⟩ := fieldsAre_get hfs hf
      have hf' : fields[f]? = some fd := by simpa using h1
      cases hle : Nat.ble (off + sz) ls.length
      · rw [hle] at e; cases e
      · rw [hle] at e
        simp only [cond_true] at e
        have hle' : off + sz ≤ ls.length := Nat.le_of_ble_eq_true hle
        split at e
        · rename_i s hms
          obtain ⟨vs, hv, hr⟩ := hx
          have hl := hr.length
          obtain ⟨v, h8, h9⟩ := mkSlot_rep ((hr.drop off).take sz) hms
          refine wp_value (v := v) (w' := w) ?_ (hT G st _ _ w h rfl h8 e)
          simp only [execOp, hop]
          refine run_v (α := Value) ?_
          simp only at h2 h3 h5 h7
          rw [hv]
          simp only [Instr.field, Sem.run_bind, run_underlying hd, Result.andThen_ok, hf', asAgg, Sem.run_pure, part, run_isAgg h6, h7]
          cases agg
          · simp only [Bool.false_eq_true, if_false] at h9 ⊢
            have : vs[off]? = some v := by
              have h10 : ((vs.drop off).take sz)[0]? = some v := by rw [h9]; rfl
              rw [List.getElem?_take] at h10
              split at h10
              · rw [List.getElem?_drop] at h10; simpa using h10
              · cases h10
            simp [h2, this]
          · simp only [if_true] at h9 ⊢
            simp only [Sem.run_bind, run_sizeOf h4, Result.andThen_ok, Sem.run_pure, h2, h5]
            rw [h9]
            congr 2
            apply Array.ext'
            simp
        · cases e
    · cases e
  · cases e
theorem elemSz_spec (hty : TyOk P ty) {t : TypeId} {n : Nat} (h : elemSz ty t = some n) : ∃ e i, P.underlying t = some (.slice e) ∧ P.info? e = some i ∧ i.size = n := by
  unfold elemSz at h
  split at h
  · rename_i et b1 b2 b3 b4 b5 hti
    obtain ⟨d, hd, _, _, hsl, _⟩ := (hty t _ hti).und
    split at h
    · rename_i ti hte
      cases h
      obtain ⟨i, z, hi, hs, _⟩ := (hty et ti hte).info
      exact ⟨et, i, by rw [hd, hsl et rfl], hi, hs⟩
    · cases h
  · cases h
theorem isStr_spec (hty : TyOk P ty) {t : TypeId} (h : isStr ty t = true) : P.underlying t = some .string := by
  unfold isStr at h
  split at h
  · rename_i d b1 b2 b3 b4 hti
    obtain ⟨d, hd, _, _, _, _, hs, _⟩ := (hty t _ hti).und
    rw [hd, hs rfl]
  · cases h
theorem isBoolT_spec (hty : TyOk P ty) {t : TypeId} (h : isBoolT ty t = true) : P.underlying t = some .bool := by
  unfold isBoolT at h
  split at h
  · rename_i d b1 b2 b3 b4 hti
    obtain ⟨d, hd, _, _, _, _, _, hs⟩ := (hty t _ hti).und
    rw [hd, hs rfl]
  · cases h
theorem run_indexAt {t e : TypeId} (hu : P.underlying t = some (.slice e)) {i : TypeInfo} (hi : P.info? e = some i) {ad : Addr} {n c : Nat} {kd : IntKind} {x : Int} (h0 : 0 ≤ x) (h1 : x < n) (w : World) :
    (Instr.indexAt t (.slice (some ad) n c) (.int kd x)).run P w = .ok (.pointer (some (ad.add (x.toNat * i.size)))) w := by
  simp [Instr.indexAt, Sem.run_bind, asIntOf, run_underlying hu, h0, h1, run_sizeOf hi]
theorem ib_spec {x : Int} {n : Nat} (h : ib x n = true) : 0 ≤ x ∧ x < n := by simpa [ib] using h
theorem ok_indexAddr (hty : TyOk P ty) {t : TypeId} {x y : Operand} (hop : o.op = .indexAddr t x y) (h : Rel C G st a w) (hT : Then C a o.dst st.n k r next) (e : indexAddrK ty t (st.ev x) (st.ev y) st k = some r) : o.wp P a w next Q := by
  have hx := h.ev x
  have hy := h.ev y
  unfold indexAddrK at e
  split at e
  · rename_i el l xf kd i hs1 hs2
    rw [hs1] at hx; rw [hs2] at hy
    have hy' : a.eval y = .int kd i := hy
    cases hsz : (elemSz ty t == some el.sz)
    · rw [hsz] at e; cases e
    · rw [hsz] at e
      simp only [cond_true] at e
      obtain ⟨et, ti, hu, hi, hs⟩ := elemSz_spec hty (by simpa using hsz)
      cases hib : ib i l.length
      · rw [hib] at e; cases e
      · rw [hib] at e
        obtain ⟨h0, h1⟩ := ib_spec hib
        obtain ⟨⟨A, c, hv, hc, hel⟩, _⟩ := hx
        obtain ⟨ad, rfl, hok, cs, h2, h3⟩ := hel i.toNat (by omega)
        refine wp_value (v := .pointer (some (ad.add (i.toNat * el.sz)))) (w' := w) ?_ (hT G st (.rp (el.lv (l.getD i.toNat el.zero))) _ w h rfl ⟨_, rfl, fun _ => by rw [addr_add_block]; exact hok, cs, RepT.lv h2, fun j u hj => by rw [addr_add_add]; exact h3 j u hj⟩ e)
        simp only [execOp, hop]
        refine run_v (α := Value) ?_
        simp only [List.cons.injEq, and_true] at hv
        rw [hv, hy', run_indexAt hu hi h0 h1, hs]
  · rename_i id kd i hs1 hs2
    rw [hs1] at hx; rw [hs2] at hy
    have hy' : a.eval y = .int kd i := hy
    split at e
    · rename_i rr hr
      cases hsz : (elemSz ty t == some rr.e.sz)
      · rw [hsz] at e; cases e
      · rw [hsz] at e
        simp only [cond_true] at e
        obtain ⟨et, ti, hu, hi, hs⟩ := elemSz_spec hty (by simpa using hsz)
        cases hib : ib i rr.l.length
        · rw [hib] at e; cases e
        · rw [hib] at e
          obtain ⟨h0, h1⟩ := ib_spec hib
          obtain ⟨ai, p, c, hA, hv, hc, hp⟩ := hx
          obtain ⟨ai', hA', ha⟩ := h.mem.arrR id rr hr
          rw [hA] at hA'; cases hA'
          have hn := ha.n
          obtain ⟨blk, base, m, hl, rfl, _⟩ := hp (by omega)
          refine wp_value (v := .pointer (some ⟨blk, base + i.toNat * ai.sz + 0, none⟩)) (w' := w) ?_ (hT G st (.ep id i.toNat 0) _ w h rfl ⟨ai, blk, base, m, hA, hl, by omega, rfl⟩ e)
          simp only [execOp, hop]
          refine run_v (α := Value) ?_
          rw [hv, hy', run_indexAt hu hi h0 (by omega), hs, Addr.add_mid, ha.sz]; rfl
    · cases e
  · rename_i id off n kd i hs1 hs2
    rw [hs1] at hx; rw [hs2] at hy
    have hy' : a.eval y = .int kd i := hy
    split at e
    · rename_i rr hr
      cases hsz : (elemSz ty t == some rr.e.sz)
      · rw [hsz] at e; cases e
      · rw [hsz] at e
        simp only [cond_true] at e
        obtain ⟨et, ti, hu, hi, hs⟩ := elemSz_spec hty (by simpa using hsz)
        cases hib : ib i n
        · rw [hib] at e; cases e
        · rw [hib] at e
          obtain ⟨h0, h1⟩ := ib_spec hib
          obtain ⟨ai, p, c, hA, hv, hc, hlen, hp⟩ := hx
          obtain ⟨ai', hA', ha⟩ := h.mem.arrR id rr hr
          rw [hA] at hA'; cases hA'
          obtain ⟨blk, base, m, hl, rfl, _⟩ := hp (by omega)
          refine wp_value (v := .pointer (some ⟨blk, base + (off + i.toNat) * ai.sz + 0, none⟩)) (w' := w) ?_ (hT G st (.ep id (off + i.toNat) 0) _ w h rfl ⟨ai, blk, base, m, hA, hl, by omega, rfl⟩ e)
          simp only [execOp, hop]
          refine run_v (α := Value) ?_
          rw [hv, hy', run_indexAt hu hi h0 h1, hs, Addr.add_mid, ha.sz, Nat.add_mul]
          simp [Nat.add_assoc]
    · cases e
  · cases e
theorem getElem?_byteArray (s : ByteArray) (i : Nat) (h : i < s.size) : s[i]? = some (s.data.toList.getD i 0) := by
  rw [getElem?_pos s i h]
  congr 1
  rw [List.getD_eq_getElem?_getD]
  have : i < s.data.toList.length := by simpa using h
  rw [List.getElem?_eq_getElem this]
  simp [ByteArray.getElem_eq_getElem_data]
theorem ok_index (hty : TyOk P ty) {t : TypeId} {x y : Operand} (hop : o.op = .index t x y) (h : Rel C G st a w) (hT : Then C a o.dst st.n k r next) (e : indexK ty t (st.ev x) (st.ev y) st k = some r) : o.wp P a w next Q := by
  have hx := h.ev x
  have hy := h.ev y
  unfold indexK at e
  split at e
  · rename_i s kd i hs1 hs2
    rw [hs1] at hx; rw [hs2] at hy
    have hx' : a.eval x = .string s := hx
    have hy' : a.eval y = .int kd i := hy
    cases hst : isStr ty t
    · rw [hst] at e; cases e
    · rw [hst] at e
      simp only [cond_true] at e
      cases hib : ib i s.size
      · rw [hib] at e; cases e
      · rw [hib] at e
        obtain ⟨h0, h1⟩ := ib_spec hib
        refine wp_value (v := (.int .u8 (s.data.toList.getD i.toNat 0).toNat)) (w' := w) ?_ (hT G st (.lf (.int .u8 (s.data.toList.getD i.toNat 0).toNat)) (.int .u8 (s.data.toList.getD i.toNat 0).toNat) w h rfl rfl e)
        simp only [execOp, hop]
        refine run_v (α := Value) ?_
        have hb := getElem?_byteArray s i.toNat (by omega)
        simp [Instr.index, Sem.run_bind, hx', hy', asIntOf, run_underlying (isStr_spec hty hst), h0, hb]
  · cases e
theorem RepTup.get {ok : Nat → Prop} : ∀ {xs : List (Bool × List Leaf)} {vs : List Value} {i : Nat} {x : Bool × List Leaf}, RepTup w ok G xs vs → xs[i]? = some x →
    ∃ v cs, vs[i]? = some v ∧ RepLeafs w ok G x.2 cs ∧ ((x.1 = true ∧ v = .agg cs.toArray) ∨ (x.1 = false ∧ cs = [v]))
  | y :: ys, v :: vs, 0, x, h, e => by
    simp at e; subst e
    obtain ⟨⟨cs, h1, h2⟩, _⟩ := h
    exact ⟨v, cs, rfl, h1, h2⟩
  | y :: ys, v :: vs, i + 1, x, h, e => by simpa using RepTup.get (i := i) h.2 (by simpa using e)
  | [], [], _, _, _, e => by simp at e
  | [], _ :: _, _, _, h, _ => h.elim
  | _ :: _, [], _, _, h, _ => h.elim
theorem ok_extract {x : Operand} {i : Nat} (hop : o.op = .extract x i) (h : Rel C G st a w) (hT : Then C a o.dst st.n k r next) (e : extractK (st.ev x) i st k = some r) : o.wp P a w next Q := by
  have hx := h.ev x
  unfold extractK at e
  split at e
  · rename_i vs hs
    rw [hs] at hx
    split at e
    · rename_i agg ls hg
      split at e
      · rename_i s hms
        obtain ⟨us, hv, hr⟩ := hx
        obtain ⟨v, cs, h1, h2, h3⟩ := hr.get hg
        obtain ⟨v', h4, h5⟩ := mkSlot_rep h2 hms
        have : v' = v := by
          rcases h3 with ⟨h6, h7⟩ | ⟨h6, h7⟩
          · simp only at h6; rw [h6] at h5; simp at h5; rw [h5, h7]
          · simp only at h6; rw [h6] at h5; simp at h5; rw [h7] at h5; simpa using h5.symm
        subst this
        refine wp_value (w' := w) ?_ (hT G st _ _ w h rfl h4 e)
        simp only [execOp, hop]
        refine run_v (α := Value) ?_
        simp [hv, Instr.extract, h1]
      · cases e
    · cases e
  · cases e
theorem ok_unOp {op : UnOp} {t : TypeId} {x : Operand} (hop : o.op = .unOp op t x) (h : Rel C G st a w) (hT : Then C a o.dst st.n k r next) (e : unOpK op (st.ev x) st k = some r) : o.wp P a w next Q := by
  have hx := h.ev x
  unfold unOpK at e
  split at e
  · rename_i b hs
    rw [hs] at hx
    have hx' : a.eval x = .bool b := hx
    refine wp_value (v := (.bool !b)) (w' := w) ?_ (hT G st (.lf (.bool !b)) (.bool !b) w h rfl rfl e)
    simp [execOp, hop, hx', Op.unary]
  · rename_i kd n hs
    rw [hs] at hx
    have hx' : a.eval x = .int kd n := hx
    refine wp_value (v := (.int kd (kd.wrap (0 - n)))) (w' := w) ?_ (hT G st (.lf (.int kd (kd.wrap (0 - n)))) (.int kd (kd.wrap (0 - n))) w h rfl rfl e)
    simp [execOp, hop, hx', Op.unary, Op.intArith]
  · cases e
theorem ok_convert (hty : TyOk P ty) {s t : TypeId} {x : Operand} (hop : o.op = .convert s t x) (h : Rel C G st a w) (hT : Then C a o.dst st.n k r next) (hsrc : (P.underlying s).isSome = true) (e : convertK ty t (st.ev x) st k = some r) : o.wp P a w next Q := by
  have hx := h.ev x
  unfold convertK at e
  split at e
  · rename_i kd' n d b1 b2 b3 b4 kd hs hti
    rw [hs] at hx
    have hx' : a.eval x = .int kd' n := hx
    obtain ⟨d2, hd, _, _, _, hk, _⟩ := (hty t _ hti).und
    have hd' : P.underlying t = some (.int kd) := by rw [hd, hk kd rfl]
    refine wp_value (v := (.int kd (kd.wrap n))) (w' := w) ?_ (hT G st (.lf (.int kd (kd.wrap n))) (.int kd (kd.wrap n)) w h rfl rfl e)
    simp only [execOp, hop]
    refine run_v (α := Value) ?_
    obtain ⟨ds, hds⟩ := Option.isSome_iff_exists.1 hsrc
    rw [hx']
    simp only [convert, Sem.run_bind, run_underlying hds, Result.andThen_ok, run_underlying hd']
    cases ds <;> simp [Conv.intToInt]
  · cases e
end
end Go.Ev
