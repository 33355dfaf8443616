/- The abstract interpreter: values, objects, compact code and its weakest preconditions. -/
import Derived.Calls
import Derived.Orders
import Derived.Below
import Derived.ArgAppend
import GoSem.ClaimData
import Derived.Deep.MidRow
import Derived.Laws.IdiomCopy
import Derived.Laws.Strings
import Derived.Laws.StructEq
import Derived.Laws.MakeOwn
import Derived.Laws.Tables
import Derived.Great.BuildSlice
set_option linter.unusedVariables false
namespace Go.Ab

/-- Data that lie in cells. -/
inductive PV where
  | int (k : IntKind) (n : Int)
  | bool (b : Bool)
  | str (s : List UInt8)
  | isl (nn : Bool) (z : Nat) (els : List (List PV))
  | own (nn : Bool) (z : Nat) (els : List (List PV))
  | nilp | nilf | nili | nilm
  | fn (f : FuncId)
  | ifs (t : TypeId) (c : PV)
  | ifa (t : TypeId) (cs : List PV)
  | any
  deriving Inhabited

structure Place where
  root : Nat
  path : List (Nat × Nat)
  deriving Inhabited, DecidableEq

def Place.snoc (p : Place) (i j : Nat) : Place := ⟨p.root, p.path ++ [(i, j)]⟩

/-- What a temporary holds. -/
inductive TV where
  | un
  | p (v : PV)
  | agg (cs : List TV)
  | ptr (pl : Place) (z i j : Nat)
  | cptr (cs : List PV) (j : Nat)
  | sl (nn : Bool) (pl : Place) (z : Nat) (off len : Int)
  | fn (f : FuncId) (caps : List TV)
  | tup (vs : List TV)
  | map (id : Nat)
  | ifv (t : TypeId) (v : TV)
  deriving Inhabited

/-- An object of the abstract memory. -/
inductive Ob where
  | box (cs : List TV)
  | lit (z : Nat) (els : List (List TV))
  | row (nn : Bool) (z : Nat) (els : List (List PV))
  | dead
  | free
  deriving Inhabited

structure AS where
  t : List (List TV)
  h : List Ob

/-! What is not to be worked out while code is walked: words for it, and (LI, LB, LS, LE) what they stand for. -/
inductive PI where
  | ari (op : BinOp) (k : IntKind) (a b : Int)
  | conv (k : IntKind) (a : Int)
  | len (l : List (List PV))
  | slen (s : List UInt8)
inductive PB where
  | cmp (op : BinOp) (a b : Int)
  | scmp (op : BinOp) (a b : List UInt8)
  | not (a : Bool)
  | eq (a b : Bool)
  | and (a b : Bool)
inductive PE where
  | sub (l : List (List PV)) (off len : Int)
  | fsub (l : List (List PV)) (off len : Int)
/-- Operands. -/
inductive X where
  | t (i : Nat)
  | c (v : TV)
  deriving Inhabited

/-- Compact operations. -/
inductive K where
  | mv (x : X)
  | pick (c a b : X)
  | box (x : X)
  | alloc (z : List PV)
  | build (z : List PV) (ps : List (Nat × Nat × X))
  | bsl (w : Nat) (z : List (List PV)) (ps : List (Nat × X))
  | ld (n : Nat) (g : Bool) (a : X)
  | st (n : Nat) (a v : X)
  | nilck (x : X)
  | ari (op : BinOp) (k : IntKind) (x y : X)
  | cmp (op : BinOp) (x y : X)
  | beq (ne : Bool) (x y : X)
  | aeq (ne : Bool) (pl : List (Nat × Nat)) (x y : X)
  | scmp (op : BinOp) (x y : X)
  | cat (x y : X)
  | eqnil (kd : Nat) (ne : Bool) (x : X)
  | not (x : X)
  | conv (k : IntKind) (x : X)
  | b2s (x : X)
  | s2b (x : X)
  | sid (x : X)
  | mki (t : TypeId) (x : X)
  | mkf (f : FuncId) (caps : List X)
  | mks (w bytes : Nat) (z : List PV) (l c : X)
  | ssl (x : X) (lo hi : Option X)
  | sls (w : Nat) (x : X) (lo hi mx : Option X)
  | fa (off : Nat) (x : X)
  | fld (off n : Nat) (g : Bool) (x : X)
  | ia (w : Nat) (x i : X)
  | iaA (n w : Nat) (x i : X)
  | ixS (x i : X)
  | ext (x : X) (i : Nat)
  | len (str : Bool) (x : X)
  | app (w bytes : Nat) (x y : X)
  | call (f : FuncId) (xs : List X)
  | calld (x : X) (xs : List X)
  | panic (x : X)
  deriving Inhabited

structure KO where
  d : Option Nat
  k : K
  g : Option (Nat × Bool)

/-- Compact code. -/
inductive CC where
  | skip
  | reg (ops : List KO)
  | regd (ops : List KO) (un : List (List Nat)) (pn : List Bool)
  | seq (a b : CC)
  | cond (c : X) (a b : CC)
  | block (id : Nat) (b : CC)
  | loop (live : List Nat) (b : CC)
  | exit (id : Nat)
  | ret
  deriving Inhabited

inductive AX where
  | nrm
  | ext (id : Nat)
  | ret
  | pan (v : TV)

inductive Out where
  | ret (v : TV) (objs : List Ob)
  | pan (v : TV) (objs : List Ob)

def getT : List (List TV) → Nat → TV := fun t i => (t.getD (i / 16) []).getD (i % 16) .un
def setRow : List TV → Nat → TV → List TV
  | [], _, _ => []
  | _ :: l, 0, v => v :: l
  | a :: l, n + 1, v => a :: setRow l n v
def setT2 : List (List TV) → Nat → Nat → TV → List (List TV)
  | [], _, _, _ => []
  | r :: l, 0, j, v => setRow r j v :: l
  | r :: l, n + 1, j, v => r :: setT2 l n j v
def setT (t : List (List TV)) (i : Nat) (v : TV) : List (List TV) := setT2 t (i / 16) (i % 16) v

def AS.ev (s : AS) : X → TV
  | .t i => getT s.t i
  | .c v => v
def AS.put (s : AS) (d : Option Nat) (v : TV) : AS :=
  match d with
  | some i => ⟨setT s.t i v, s.h⟩
  | none => s
def takeN {α : Type} : Nat → List α → Option (List α)
  | 0, _ => some []
  | _ + 1, [] => none
  | n + 1, a :: l => match takeN n l with | some r => some (a :: r) | none => none
def takeL {α : Type} : Nat → List α → List α
  | 0, _ => []
  | _ + 1, [] => []
  | n + 1, a :: l => a :: takeL n l
def dropN {α : Type} : Nat → List α → List α
  | 0, l => l
  | _ + 1, [] => []
  | n + 1, _ :: l => dropN n l
def isLen {α : Type} : Nat → List α → Bool
  | 0, [] => true
  | n + 1, _ :: l => isLen n l
  | _, _ => false
def mkV (g : Bool) (cs : List TV) : Option TV :=
  match g with
  | true => some (.agg cs)
  | false => match cs with | [c] => some c | _ => none
def ldCells (cs : List TV) (j n : Nat) (g : Bool) : Option TV :=
  match takeN n (dropN j cs) with
  | some l => mkV g l
  | none => none
def cellsOf : TV → List TV
  | .agg cs => cs
  | .un => []
  | v => [v]
/-- The cells from place j on, replaced. -/
def putCells {α : Type} : List α → Nat → List α → Option (List α)
  | cs, 0, [] => some cs
  | [], _, _ => none
  | _ :: cs, 0, v :: vs => match putCells cs 0 vs with | some r => some (v :: r) | none => none
  | c :: cs, j + 1, vs => match putCells cs j vs with | some r => some (c :: r) | none => none
def plainP : List PV → List TV
  | [] => []
  | c :: l => .p c :: plainP l
def liftP (LI : PI → Int) (pl : Place) (i : Nat) : Nat → List PV → List TV
  | _, [] => []
  | j, .own nn z els :: l => .sl nn (pl.snoc i j) z 0 (LI (.len els)) :: liftP LI pl i (j + 1) l
  | j, c :: l => .p c :: liftP LI pl i (j + 1) l
def lowP : List TV → Option (List PV)
  | [] => some []
  | .p c :: l => match lowP l with | some r => some (c :: r) | none => none
  | .fn f [] :: l => match lowP l with | some r => some (.fn f :: r) | none => none
  | _ :: _ => none
def lowEls : List (List TV) → Option (List (List PV))
  | [] => some []
  | e :: l => match lowP e, lowEls l with | some a, some b => some (a :: b) | _, _ => none
def nthO {α : Type} : List α → Nat → Option α
  | [], _ => none
  | a :: _, 0 => some a
  | _ :: l, n + 1 => nthO l n
def setO {α : Type} : List α → Nat → α → List α
  | [], _, _ => []
  | _ :: l, 0, b => b :: l
  | a :: l, n + 1, b => a :: setO l n b
/-- A row within a row. -/
def rowAt : Bool → List (List PV) → List (Nat × Nat) → Option (Bool × List (List PV))
  | nn, els, [] => some (nn, els)
  | _, els, (i, j) :: p => match (els[i]?).bind (·[j]?) with | some (.own nn _ els') => rowAt nn els' p | _ => none
def rowPut : List (List PV) → List (Nat × Nat) → List (List PV) → Option (List (List PV))
  | _, [], new => some new
  | els, (i, j) :: p, new => match els[i]? with
    | some cs => match cs[j]? with
      | some (.own nn z els') => match rowPut els' p new with | some r => some (els.set i (cs.set j (.own nn z r))) | none => none
      | _ => none
    | none => none
def noOwnB : List PV → Bool
  | [] => true
  | .own _ _ _ :: _ => false
  | _ :: l => noOwnB l

/-! ### references -/
mutual
def idsV : TV → List Nat
  | .ptr pl _ _ _ => [pl.root]
  | .sl _ pl _ _ _ => [pl.root]
  | .map r => [r]
  | .agg cs => idsL cs
  | .tup cs => idsL cs
  | .fn _ cs => idsL cs
  | .ifv _ v => idsV v
  | _ => []
def idsL : List TV → List Nat
  | [] => []
  | v :: l => idsV v ++ idsL l
end
def idsLL : List (List TV) → List Nat
  | [] => []
  | v :: l => idsL v ++ idsLL l
def idsO : Option Ob → List Nat
  | some (.box cs) => idsL cs
  | some (.lit _ els) => idsLL els
  | _ => []
def memN : Nat → List Nat → Bool
  | _, [] => false
  | n, m :: l => match Nat.beq n m with | true => true | false => memN n l
/-- Roots of which a row within is referred to. -/
def nestP : Place → List Nat
  | ⟨_, []⟩ => []
  | ⟨r, _ :: _⟩ => [r]
mutual
def nestV : TV → List Nat
  | .ptr pl _ _ _ => nestP pl
  | .sl _ pl _ _ _ => nestP pl
  | .agg cs => nestL cs
  | .tup cs => nestL cs
  | .fn _ cs => nestL cs
  | .ifv _ v => nestV v
  | _ => []
def nestL : List TV → List Nat
  | [] => []
  | v :: l => nestV v ++ nestL l
end
def nestLL : List (List TV) → List Nat
  | [] => []
  | v :: l => nestL v ++ nestLL l
def nestH : List Ob → List Nat
  | [] => []
  | .box cs :: l => nestL cs ++ nestH l
  | .lit _ els :: l => nestLL els ++ nestH l
  | _ :: l => nestH l
def disj : List Nat → List Nat → Bool
  | [], _ => true
  | a :: l, m => match memN a m with | true => false | false => disj l m

/-! ### freezing -/
/-- What a reference to the whole of a root reads as, once it is frozen: its element's cells and its elements. -/
def frzO : Option Ob → Option (Nat × List (List PV))
  | some (.row _ z els) => some (z, els)
  | some (.lit z els) => match lowEls els with | some l => some (z, l) | none => none
  | _ => none
mutual
def frzV (LE : PE → List (List PV)) (r z0 : Nat) (els : List (List PV)) : TV → TV
  | .sl nn ⟨r', []⟩ z off len => match Nat.beq r r' with
    | true => match Nat.beq z z0 with | true => .p (.isl nn z (LE (.fsub els off len))) | false => .un
    | false => .sl nn ⟨r', []⟩ z off len
  | .agg cs => .agg (frzL LE r z0 els cs)
  | .tup cs => .tup (frzL LE r z0 els cs)
  | .fn f cs => .fn f (frzL LE r z0 els cs)
  | v => v
def frzL (LE : PE → List (List PV)) (r z0 : Nat) (els : List (List PV)) : List TV → List TV
  | [] => []
  | v :: l => frzV LE r z0 els v :: frzL LE r z0 els l
end
def frzLL (LE : PE → List (List PV)) (r z0 : Nat) (els : List (List PV)) : List (List TV) → List (List TV)
  | [] => []
  | v :: l => frzL LE r z0 els v :: frzLL LE r z0 els l
def mapO (f : List TV → List TV) : Ob → Ob
  | .box cs => .box (f cs)
  | .lit z els => .lit z (els.map f)
  | o => o
def mapH (f : List TV → List TV) : List Ob → List Ob
  | [] => []
  | o :: l => mapO f o :: mapH f l

/-! ### steps that the world does not see -/
mutual
/-- Forgotten: references of which p is true. -/
def killV (p : Place → Bool) : TV → TV
  | .ptr pl z i j => match p pl with | true => .un | false => .ptr pl z i j
  | .sl nn pl z off len => match p pl with | true => .un | false => .sl nn pl z off len
  | .map r => match p ⟨r, []⟩ with | true => .un | false => .map r
  | .agg cs => .agg (killL p cs)
  | .tup cs => .tup (killL p cs)
  | .fn f cs => .fn f (killL p cs)
  | .ifv t v => .ifv t (killV p v)
  | v => v
def killL (p : Place → Bool) : List TV → List TV
  | [] => []
  | v :: l => killV p v :: killL p l
end
mutual
def renV (f : Nat → Nat) : TV → TV
  | .ptr ⟨r, q⟩ z i j => .ptr ⟨f r, q⟩ z i j
  | .sl nn ⟨r, q⟩ z o l => .sl nn ⟨f r, q⟩ z o l
  | .map r => .map (f r)
  | .agg cs => .agg (renL f cs)
  | .tup cs => .tup (renL f cs)
  | .fn g cs => .fn g (renL f cs)
  | .ifv t v => .ifv t (renV f v)
  | v => v
def renL (f : Nat → Nat) : List TV → List TV
  | [] => []
  | v :: l => renV f v :: renL f l
end
def renO (f : Nat → Nat) : Ob → Ob
  | .box cs => .box (renL f cs)
  | .lit z els => .lit z (els.map (renL f))
  | o => o
inductive Pre where
  | frz (r : Nat)
  | thaw (i z : Nat)
  | thawB (r j z : Nat)
  | kill (r : Nat)
  | mov (a b : Nat)
  | dead
  | drop (r : Nat)
def thawC (n z : Nat) : TV → Option TV
  | .p (.isl false _ []) => some (.sl false ⟨n, []⟩ z 0 0)
  | _ => none
def thawL (n z : Nat) : Nat → List TV → Option (List TV)
  | _, [] => none
  | 0, v :: l => match thawC n z v with | some v' => some (v' :: l) | none => none
  | j + 1, v :: l => match thawL n z j l with | some l' => some (v :: l') | none => none
def deadO : Option Ob → Bool
  | some .dead => true
  | _ => false
def movF (a b r : Nat) : Nat := match Nat.beq r a with | true => b | false => r
def rootIs (r : Nat) (pl : Place) : Bool := Nat.beq pl.root r
def nestIs (r : Nat) (pl : Place) : Bool := match pl.path with | [] => false | _ => Nat.beq pl.root r
def AS.pre (LE : PE → List (List PV)) (nb : Nat) (s : AS) : Pre → AS
  | .frz r => match frzO (nthO s.h r) with
    | some (z0, els) => ⟨frzLL LE r z0 els s.t, mapH (frzL LE r z0 els) (setO s.h r .dead)⟩
    | none => s
  | .thaw i z => match thawC s.h.length z (getT s.t i) with
    | some v => ⟨setT s.t i v, s.h ++ [.row false z []]⟩
    | none => s
  | .thawB r j z => match nthO s.h r with
    | some (.box cs) => match thawL s.h.length z j cs with
      | some cs' => ⟨s.t, setO s.h r (.box cs') ++ [.row false z []]⟩
      | none => s
    | _ => s
  | .kill r => ⟨s.t.map (killL (nestIs r)), mapH (killL (nestIs r)) s.h⟩
  | .mov a b => match nthO s.h a, deadO (nthO s.h b), Nat.ble nb b, Nat.beq a b with
    | some o, true, true, false => ⟨(s.t.map (killL (rootIs b))).map (renL (movF a b)),
        mapH (fun l => renL (movF a b) (killL (rootIs b) l)) (setO (setO s.h b o) a .dead)⟩
    | _, _, _, _ => s
  | .dead => ⟨s.t, s.h ++ [.dead]⟩
  | .drop r => match nthO s.h r with | some .free => s | _ => ⟨s.t, setO s.h r .dead⟩
def AS.pres (LE : PE → List (List PV)) (nb : Nat) (s : AS) : List Pre → AS
  | [] => s
  | p :: l => (s.pre LE nb p).pres LE nb l

/-! ### handing objects over -/
/-- All that is reached, each once, in the order in which it is met (the fuel bounds the steps). -/
def reach (h : List Ob) : Nat → List Nat → List Nat → List Nat
  | 0, _, acc => acc
  | _ + 1, [], acc => acc
  | n + 1, i :: todo, acc => match memN i acc with
    | true => reach h n todo acc
    | false => reach h n (idsO (nthO h i) ++ todo) (acc ++ [i])
def idx : List Nat → Nat → Nat
  | [], _ => 0
  | m :: l, n => match Nat.beq n m with | true => 0 | false => idx l n + 1
def pickO (h : List Ob) (f : Nat → Nat) : List Nat → List Ob
  | [] => []
  | i :: l => (match nthO h i with | some o => renO f o | none => .dead) :: pickO h f l
def backO (f : Nat → Nat) (h : List Ob) : List Nat → List Ob → List Ob
  | i :: l, o :: os => backO f (setO h i (renO f o)) l os
  | [], os => h ++ os.map (renO f)
  | _, [] => h
/-- Lent rows: read by the callee alone. -/
def lend (LE : PE → List (List PV)) (h : List Ob) : List Nat → List TV → List TV
  | [], vs => vs
  | r :: ln, vs => match frzO (nthO h r) with
    | some (z0, els) => lend LE h ln (frzL LE r z0 els vs)
    | none => lend LE h ln vs
def nth0 : List Nat → Nat → Nat → Nat
  | [], base, n => base + n
  | i :: _, _, 0 => i
  | _ :: l, base, n + 1 => nth0 l base n

/-- What a call of a function does: arguments, the objects that they lead to, what comes out. -/
abbrev Ro := FuncId → List TV → List Ob → Out → Prop

mutual
/-- Values without data that may not be turned. -/
def PV.closed : PV → Prop
  | .int _ _ | .bool _ | .str _ | .nilp | .nilf | .nili | .nilm | .fn _ => True
  | .isl nn _ els => nn = false ∧ els = []
  | .own _ _ els => closedEs els
  | .ifs _ c => c.closed
  | .ifa _ cs => closedC cs
  | _ => False
def closedC : List PV → Prop
  | [] => True
  | c :: l => c.closed ∧ closedC l
def closedEs : List (List PV) → Prop
  | [] => True
  | e :: l => closedC e ∧ closedEs l
end
mutual
def TV.closed : TV → Prop
  | .un => True
  | .p v => v.closed
  | .agg cs => closedL cs
  | .tup cs => closedL cs
  | .fn _ cs => closedL cs
  | .ptr _ _ _ _ | .sl _ _ _ _ _ | .map _ => True
  | .ifv _ v => v.closed
  | .cptr _ _ => False
def closedL : List TV → Prop
  | [] => True
  | v :: l => v.closed ∧ closedL l
end
def Ob.closed : Ob → Prop
  | .box cs => closedL cs
  | .lit _ els => ∀ e ∈ els, closedL e
  | .row _ _ els => closedEs els
  | _ => True
def Out.closed : Out → Prop
  | .ret v objs => v.closed ∧ ∀ o ∈ objs, o.closed
  | .pan v objs => v.closed ∧ ∀ o ∈ objs, o.closed

def outK (ids : List Nat) (h : List Ob) (k kp : TV → List Ob → Prop) : Out → Prop
  | .ret v objs => k (renV (nth0 ids h.length) v) (backO (nth0 ids h.length) h ids objs)
  | .pan v objs => kp (renV (nth0 ids h.length) v) (backO (nth0 ids h.length) h ids objs)

def subN : List Nat → List Nat → Bool
  | [], _ => true
  | a :: l, m => match memN a m with | true => subN l m | false => false
/-- What the objects named lead to is named. -/
def isSm : Option Ob → Bool
  | some _ => true
  | none => false
def clsd (h : List Ob) (ids : List Nat) : List Nat → Bool
  | [] => true
  | i :: l => match isSm (nthO h i), subN (idsO (nthO h i)) ids with | true, true => clsd h ids l | _, _ => false
def leL : List Nat → List Ob → Bool
  | [], _ => true
  | _ :: _, [] => false
  | _ :: l, _ :: m => leL l m
def Out.objs : Out → List Ob
  | .ret _ objs => objs
  | .pan _ objs => objs
def okIds (h : List Ob) (nr ln : List Nat) (vs : List TV) (ids : List Nat) : Bool :=
  match disj ids ln, disj ids nr, subN (idsL vs) ids with
  | true, true, true => clsd h ids ids
  | _, _, _ => false
def callI (R : Ro) (f : FuncId) (h : List Ob) (nr ln : List Nat) (vs : List TV) (ids : List Nat) (k kp : TV → List Ob → Prop) : Prop :=
  ∃ out : Out, R f (renL (idx ids) vs) (pickO h (idx ids) ids) out ∧ (ln = [] ∨ out.closed) ∧ okIds h nr ln vs ids = true ∧ leL ids out.objs = true ∧ outK ids h k kp out
def callV (R : Ro) (f : FuncId) (h : List Ob) (nr ln : List Nat) (vs : List TV) (k kp : TV → List Ob → Prop) : Prop :=
  callI R f h nr ln vs (reach h 500 (idsL vs) []) k kp

def callH (LE : PE → List (List PV)) (R : Ro) (f : FuncId) (h : List Ob) (nr : List Nat) (vs : List TV) (k kp : TV → List Ob → Prop) : Prop :=
  ∃ ln : List Nat, subN ln (idsL vs) = true ∧ callV R f h nr ln (lend LE h ln vs) k kp

def kEq : IntKind → IntKind → Bool
  | .i8, .i8 | .i16, .i16 | .i32, .i32 | .i64, .i64 | .u8, .u8 | .u16, .u16 | .u32, .u32 | .u64, .u64 => true
  | _, _ => false
/-- Cells that may be stored. -/
def oneC : List TV → Bool
  | [] => true
  | .agg _ :: _ => false
  | .tup _ :: _ => false
  | .un :: _ => false
  | _ :: l => oneC l
def u8s (l : List UInt8) : List (List PV) := l.map fun c => [.int .u8 c.toNat]

def evO (e : X → TV) : Option X → Option TV
  | some x => some (e x)
  | none => none
def evs (e : X → TV) : List X → List TV
  | [] => []
  | x :: l => e x :: evs e l
/-- Where a new object goes. -/
def newI : Option Nat → List Ob → Nat
  | none, h => h.length
  | some i, _ => i
def newH : Option Nat → List Ob → Ob → List Ob
  | none, h, o => h ++ [o]
  | some i, h, o => setO h i o
/-- Cells that are stored into a row: what they are there, what is left behind, and what is to be shown. -/
def lowW (LI : PI → Int) : List Ob → List TV → Option (List PV × List Ob × Prop)
  | h, [] => some ([], h, True)
  | h, .p c :: l => match lowW LI h l with | some (r, h', q) => some (c :: r, h', q) | none => none
  | h, .fn f [] :: l => match lowW LI h l with | some (r, h', q) => some (.fn f :: r, h', q) | none => none
  | h, .sl nn ⟨r, []⟩ z off len :: l => match nthO h r with
    | some (.row nn' z' els) => (match Nat.beq z z', lowW LI (setO h r .dead) l with
      | true, some (r, h', q) => some (.own nn z els :: r, h', off = 0 ∧ len = LI (.len els) ∧ nn = nn' ∧ q)
      | _, _ => none)
    | _ => none
  | _, _ :: _ => none
def lowWs (LI : PI → Int) : List Ob → List (List TV) → Option (List (List PV) × List Ob × Prop)
  | h, [] => some ([], h, True)
  | h, e :: l => match lowW LI h e with
    | some (c, h1, q1) => (match lowWs LI h1 l with | some (r, h2, q2) => some (c :: r, h2, q1 ∧ q2) | none => none)
    | none => none
/-- The elements that append takes. -/
def srcW (LI : PI → Int) (LE : PE → List (List PV)) (w : Nat) (h : List Ob) : TV → Option (List (List PV) × List Ob × Prop)
  | .p (.isl _ z els) => some (els, h, z = w ∨ els = [])
  | .p (.str l) => some (u8s l, h, w = 1)
  | .sl nn0 pl z off len => match nthO h pl.root with
    | some (.row nn _ els) => (match rowAt nn els pl.path with
      | some (b, r) => some (LE (.sub r off len), h, z = w ∧ nn0 = b ∧ ∀ e ∈ r, noOwnB e = true ∧ e.length = w)
      | none => none)
    | some (.lit z0 els) => (match pl.path, lowWs LI (setO h pl.root .dead) els with
      | [], some (els', h', q) => some (els', h', z = w ∧ z0 = w ∧ off = 0 ∧ len = LI (.len els') ∧ q)
      | _, _ => none)
    | _ => none
  | _ => none
/-- The elements that append adds to: how many, whether they are not nil, and what is left behind. -/
def dstW (LI : PI → Int) (w : Nat) (h : List Ob) : TV → Option (List (List PV) × Bool × Int × List Ob × Prop)
  | .p (.isl nn _ els) => some ([], false, 0, h, nn = false)
  | .sl nn ⟨r, []⟩ z off len => match nthO h r with
    | some (.row nn' z' els) => (match Nat.beq z w, Nat.beq z' w with | true, true => some (els, nn, len, setO h r .dead, off = 0 ∧ nn = nn') | _, _ => none)
    | some (.lit z' els) => (match Nat.beq z w, Nat.beq z' w, lowEls els with | true, true, some els' => some (els', nn, len, setO h r .dead, off = 0 ∧ nn = true) | _, _, _ => none)
    | _ => none
  | _ => none
def appH (LI : PI → Int) (LE : PE → List (List PV)) (sl : Option Nat) (w bytes : Nat) (x y : TV) (h : List Ob) (k : TV → List Ob → Prop) : Prop :=
  match srcW LI LE w h y with
  | some (els, h1, q1) => (match dstW LI w h1 x with
    | some (old, nn, len, h2, q2) => q1 ∧ q2 ∧ ∃ (n : Nat) (nn' : Bool) (new : List (List PV)) (len' : Int), len = n ∧ n ≤ old.length ∧ new = old.take n ++ els ∧ nn' = (nn || !els.isEmpty) ∧ len' = new.length ∧
        new.length * bytes ≤ 100000000000000 ∧ k (.sl nn' ⟨newI sl h, []⟩ w 0 len') (newH sl h2 (.row nn' w new))
    | none => False)
  | none => False

/-- Whether cells are the same, one by one. -/
def eqCells (LB : PB → Bool) : List (Nat × Nat) → List TV → List TV → Option Bool
  | [], _, _ => some true
  | (j, kd) :: l, cs, ds => match eqCells LB l cs ds, kd, nthO cs j, nthO ds j with
    | some r, 0, some (.p (.int k a)), some (.p (.int k' b)) => (match kEq k k' with | true => some (LB (.and (LB (.cmp .eql a b)) r)) | false => none)
    | some r, 1, some (.p (.bool a)), some (.p (.bool b)) => some (LB (.and (LB (.eq a b)) r))
    | some r, 2, some (.p (.str a)), some (.p (.str b)) => some (LB (.and (LB (.scmp .eql a b)) r))
    | _, _, _, _ => none
/-- One operation. -/
def wpK (LI : PI → Int) (LB : PB → Bool) (LE : PE → List (List PV)) (sl : Option Nat) (o : K) (e : X → TV) (h : List Ob) (k kp : TV → List Ob → Prop) : Prop :=
  match o with
  | .mv x => k (e x) h
  | .pick c a b => match e c with
    | .p (.bool v) => (match v with | true => k (e a) h | false => k (e b) h)
    | _ => False
  | .box x => k (.ptr ⟨newI sl h, []⟩ 0 0 0) (newH sl h (.box (cellsOf (e x))))
  | .alloc z => k (.ptr ⟨newI sl h, []⟩ 0 0 0) (newH sl h (.box (plainP z)))
  | .build z ps => match buildC e (plainP z) ps with | some cs => k (.agg cs) h | none => False
  | .bsl w z ps => match bslC e w (z.map plainP) ps with
    | some els => k (.sl true ⟨newI sl h, []⟩ w 0 (Int.ofNat z.length)) (newH sl h (.lit w els))
    | none => False
  | .ld n g a => match e a with
    | .cptr cs j => (match ldCells (plainP cs) j n g with | some v => k v h | none => False)
    | .ptr pl z i j => (match nthO h pl.root with
      | some (.box cs) => (match pl.path, i with
        | [], 0 => (match ldCells cs j n g with | some v => k v h | none => False)
        | _, _ => False)
      | some (.lit _ els) => (match pl.path with
        | [] => (match nthO els i with
          | some cs => (match isLen z cs with
            | true => (match ldCells cs j n g with | some v => k v h | none => False)
            | false => False)
          | none => False)
        | _ => False)
      | some (.row nn _ els) => ∃ b r cs, rowAt nn els pl.path = some (b, r) ∧ r[i]? = some cs ∧ (match isLen z cs with
          | true => (match ldCells (liftP LI pl i 0 cs) j n g with | some v => k v h | none => False)
          | false => False)
      | _ => False)
    | _ => False
  | .st n a v => match isLen n (cellsOf (e v)), oneC (cellsOf (e v)) with
    | true, true => (match e a with
      | .ptr pl z i j => (match nthO h pl.root with
        | some (.box cs) => (match pl.path, i with
          | [], 0 => (match putCells cs j (cellsOf (e v)) with | some cs' => k .un (setO h pl.root (.box cs')) | none => False)
          | _, _ => False)
        | some (.row nn w els) => (match lowW LI h (cellsOf (e v)) with
          | some (cv, h2, q) => q ∧ ∃ b r cs cs' els', rowAt nn els pl.path = some (b, r) ∧ r[i]? = some cs ∧ isLen z cs = true ∧ noOwnB (takeL n (dropN j cs)) = true ∧ putCells cs j cv = some cs' ∧
              rowPut els pl.path (r.set i cs') = some els' ∧ deadO (nthO h2 pl.root) = false ∧ k .un (setO h2 pl.root (.row nn w els'))
          | none => False)
        | _ => False)
      | _ => False)
    | _, _ => False
  | .nilck x => match e x with
    | .ptr pl z i j => k (.ptr pl z i j) h
    | .cptr cs j => k (.cptr cs j) h
    | .fn f cs => k (.fn f cs) h
    | .p (.fn f) => k (.p (.fn f)) h
    | _ => False
  | .ari op kd x y => match e x, e y with
    | .p (.int k1 a), .p (.int k2 b) => (match op with
      | .shl | .shr => (match kEq k1 kd with
        | true => ∀ q : Prop, (0 ≤ b → k (.p (.int kd (LI (.ari op kd a b)))) h → q) → q
        | false => False)
      | .quo | .rem => (match kEq k1 kd, kEq k2 kd with
        | true, true => ∀ q : Prop, (b ≠ 0 → k (.p (.int kd (LI (.ari op kd a b)))) h → q) → q
        | _, _ => False)
      | _ => (match kEq k1 kd, kEq k2 kd with
        | true, true => k (.p (.int kd (LI (.ari op kd a b)))) h
        | _, _ => False))
    | _, _ => False
  | .cmp op x y => match e x, e y with
    | .p (.int k1 a), .p (.int k2 b) => (match kEq k1 k2 with
      | true => k (.p (.bool (LB (.cmp op a b)))) h
      | false => False)
    | _, _ => False
  | .beq ne x y => match e x, e y with
    | .p (.bool a), .p (.bool b) => k (.p (.bool (match ne with | true => LB (.not (LB (.eq a b))) | false => LB (.eq a b)))) h
    | _, _ => False
  | .aeq ne pl x y => match e x, e y with
    | .agg cs, .agg ds => (match eqCells LB pl cs ds with | some r => k (.p (.bool (match ne with | true => LB (.not r) | false => r))) h | none => False)
    | _, _ => False
  | .scmp op x y => match e x, e y with
    | .p (.str a), .p (.str b) => k (.p (.bool (LB (.scmp op a b)))) h
    | _, _ => False
  | .cat x y => match e x, e y with
    | .p (.str a), .p (.str b) => ∀ q : Prop, (a.length + b.length ≤ 1000000000000 → k (.p (.str ((a ++ b)))) h → q) → q
    | _, _ => False
  | .eqnil kd ne x => match kd, e x with
    | 0, .p (.isl nn _ _) => k (.p (.bool (match ne with | true => nn | false => LB (.not nn)))) h
    | 0, .sl nn _ _ _ _ => k (.p (.bool (match ne with | true => nn | false => LB (.not nn)))) h
    | 1, .ptr _ _ _ _ => k (.p (.bool ne)) h
    | 1, .cptr _ _ => k (.p (.bool ne)) h
    | 1, .p .nilp => k (.p (.bool (match ne with | true => false | false => true))) h
    | 2, .fn _ _ => k (.p (.bool ne)) h
    | 2, .p (.fn _) => k (.p (.bool ne)) h
    | 2, .p .nilf => k (.p (.bool (match ne with | true => false | false => true))) h
    | _, _ => False
  | .not x => match e x with
    | .p (.bool a) => k (.p (.bool (LB (.not a)))) h
    | _ => False
  | .conv kd x => match e x with
    | .p (.int _ a) => k (.p (.int kd (LI (.conv kd a)))) h
    | _ => False
  | .b2s x => match e x with
    | .p (.isl _ _ els) => ∃ l, els = u8s l ∧ k (.p (.str l)) h
    | .sl _ pl z off len => (match nthO h pl.root with
      | some (.row nn _ els) => ∃ b r l, rowAt nn els pl.path = some (b, r) ∧ LE (.sub r off len) = u8s l ∧ (l.length : Int) = len ∧ z = 1 ∧ k (.p (.str l)) h
      | _ => False)
    | _ => False
  | .s2b x => match e x with
    | .p (.str l) => k (.sl true ⟨newI sl h, []⟩ 1 0 (LI (.slen l))) (newH sl h (.row true 1 (u8s l)))
    | _ => False
  | .sid x => match e x with
    | .p (.str l) => k (.p (.str l)) h
    | _ => False
  | .mki t x => match e x with
    | .p v => k (.p (.ifs t v)) h
    | .agg cs => (match lowP cs with | some l => k (.p (.ifa t l)) h | none => k (.ifv t (.agg cs)) h)
    | v => k (.ifv t v) h
  | .mkf f caps => k (.fn f (evs e caps)) h
  | .mks w bytes z l c => match e l, e c with
    | .p (.int _ n), .p (.int _ m) => ∃ els : Nat, n = els ∧ m = n ∧ els * bytes ≤ 100000000000000 ∧ els ≤ 100000000000000 ∧ k (.sl true ⟨newI sl h, []⟩ w 0 n) (newH sl h (.row true w (List.replicate els z)))
    | _, _ => False
  | .ssl x lo hi => match e x with
    | .p (.str l) => ∃ (a b : Nat) (r : List UInt8), (match evO e lo with | none => a = 0 | some (.p (.int _ v)) => v = a | _ => False) ∧
        (match evO e hi with | none => b = l.length | some (.p (.int _ v)) => v = b | _ => False) ∧ a ≤ b ∧ b ≤ l.length ∧ r = (l.drop a).take (b - a) ∧ k (.p (.str r)) h
    | _ => False
  | .sls w x lo hi mx => match e x with
    | .p (.isl nn z els) => (match mx with
      | none => ∃ (a b : Nat) (r : List (List PV)), (match evO e lo with | none => a = 0 | some (.p (.int _ v)) => v = a | _ => False) ∧
        (match evO e hi with | none => b = els.length | some (.p (.int _ v)) => v = b | _ => False) ∧ a ≤ b ∧ b ≤ els.length ∧ r = (els.drop a).take (b - a) ∧ (w = z ∨ r = []) ∧ k (.p (.isl nn z r)) h
      | some _ => False)
    | .sl nn pl z off len => ∃ (a b : Nat) (off' len' : Int), (match evO e lo with | none => a = 0 | some (.p (.int _ v)) => v = a | _ => False) ∧
        (match evO e hi with | none => (b : Int) = len | some (.p (.int _ v)) => v = b | _ => False) ∧ a ≤ b ∧ (b : Int) ≤ len ∧
        (match evO e mx with | none => True | some (.p (.int _ v)) => v = b | _ => False) ∧ off' = off + a ∧ len' = b - a ∧ w = z ∧ (a < b ∨ a = 0) ∧ k (.sl nn pl z off' len') h
    | _ => False
  | .fa off x => match e x with
    | .ptr pl z i j => k (.ptr pl z i (j + off)) h
    | .cptr cs j => k (.cptr cs (j + off)) h
    | _ => False
  | .fld off n g x => match e x with
    | .agg cs => (match ldCells cs off n g with | some v => k v h | none => False)
    | _ => False
  | .ia w x i => match e x, e i with
    | .p (.isl _ z els), .p (.int _ v) => ∃ (n : Nat) (cs : List PV), v = n ∧ els[n]? = some cs ∧ isLen w cs = true ∧ k (.cptr cs 0) h
    | .sl _ pl z off len, .p (.int _ v) => (match Nat.beq w z with
      | true => ∃ n m : Nat, v = n ∧ v < len ∧ off + v = m ∧ k (.ptr pl z m 0) h
      | false => False)
    | _, _ => False
  | .iaA m w x i => match e x, e i with
    | .ptr pl z a j, .p (.int _ v) => ∃ n jj : Nat, v = n ∧ n < m ∧ jj = j + n * w ∧ k (.ptr pl z a jj) h
    | _, _ => False
  | .ixS x i => match e x, e i with
    | .p (.str l), .p (.int _ v) => ∃ (n : Nat) (c : UInt8), v = n ∧ l[n]? = some c ∧ k (.p (.int .u8 c.toNat)) h
    | _, _ => False
  | .ext x i => match e x with
    | .tup vs => (match nthO vs i with | some v => k v h | none => False)
    | _ => False
  | .len str x => match str, e x with
    | false, .p (.isl _ _ els) => k (.p (.int .i64 (LI (.len els)))) h
    | true, .p (.str l) => k (.p (.int .i64 (LI (.slen l)))) h
    | false, .sl _ _ _ _ len => k (.p (.int .i64 len)) h
    | _, _ => False
  | .app _ _ _ _ => False
  | .call _ _ => False
  | .calld _ _ => False
  | .panic x => match e x with
    | .p (.ifs t v) => kp (.p (.ifs t v)) h
    | .p (.ifa t v) => kp (.p (.ifa t v)) h
    | _ => False
where
  buildC (e : X → TV) : List TV → List (Nat × Nat × X) → Option (List TV)
    | cs, [] => some cs
    | cs, (off, n, x) :: ps => match isLen n (cellsOf (e x)) with
      | true => (match putCells cs off (cellsOf (e x)) with | some cs' => buildC e cs' ps | none => none)
      | false => none
  bslC (e : X → TV) (w : Nat) : List (List TV) → List (Nat × X) → Option (List (List TV))
    | els, [] => some els
    | els, (i, x) :: ps => match isLen w (cellsOf (e x)) with | true => bslC e w (setO els i (cellsOf (e x))) ps | false => none

def drOk : Bool → List Pre → Prop
  | true, pre => pre = []
  | false, _ => True
/-- Roots of which a row within is referred to. -/
def AS.nr (s : AS) : List Nat := nestLL s.t ++ nestH s.h
def wpC (LE : PE → List (List PV)) (R : Ro) (f : FuncId) (s : AS) (vs : List TV) (d : Option Nat) (k : AS → Prop) (kp : TV → AS → Prop) : Prop :=
  callH LE R f s.h s.nr vs (fun v h => k (AS.put ⟨s.t, h⟩ d v)) (fun v h => kp v ⟨s.t, h⟩)
def wpCd (LE : PE → List (List PV)) (R : Ro) (s : AS) (x : TV) (vs : List TV) (d : Option Nat) (k : AS → Prop) (kp : TV → AS → Prop) : Prop :=
  match x with
  | .fn f caps => wpC LE R f s (vs ++ caps) d k kp
  | .p (.fn f) => wpC LE R f s vs d k kp
  | _ => False
/-- One operation, with what precedes it. -/
def wpA (LI : PI → Int) (LB : PB → Bool) (LE : PE → List (List PV)) (R : Ro) (nb : Nat) (dr : Bool) (sl : Option Nat) (o : KO) (s : AS) (k : AS → Prop) (kp : TV → AS → Prop) : Prop :=
  match o.k with
  | .call f xs => ∃ pre, drOk dr pre ∧ (fun s : AS => wpC LE R f s (evs s.ev xs) o.d k kp) (s.pres LE nb pre)
  | .calld x xs => ∃ pre, drOk dr pre ∧ (fun s : AS => wpCd LE R s (s.ev x) (evs s.ev xs) o.d k kp) (s.pres LE nb pre)
  | .app w b x y => ∃ pre, drOk dr pre ∧ (fun s : AS => appH LI LE sl w b (s.ev x) (s.ev y) s.h (fun v h => k (AS.put ⟨s.t, h⟩ o.d v))) (s.pres LE nb pre)
  | c => wpK LI LB LE sl c s.ev s.h (fun v h => k (AS.put ⟨s.t, h⟩ o.d v)) (fun v h => kp v ⟨s.t, h⟩)
def wpG (LI : PI → Int) (LB : PB → Bool) (LE : PE → List (List PV)) (R : Ro) (nb : Nat) (dr : Bool) (sl : Option Nat) (o : KO) (s : AS) (k : AS → Prop) (kp : TV → AS → Prop) : Prop :=
  match o.g with
  | none => wpA LI LB LE R nb dr sl o s k kp
  | some (j, want) => match getT s.t j with
    | .p (.bool b) => (match b, want with
      | true, true => wpA LI LB LE R nb dr sl o s k kp
      | false, false => wpA LI LB LE R nb dr sl o s k kp
      | true, false => k (s.put o.d .un)
      | false, true => k (s.put o.d .un))
    | _ => False
def wpOps (LI : PI → Int) (LB : PB → Bool) (LE : PE → List (List PV)) (R : Ro) (nb : Nat) : List KO → AS → (AS → Prop) → (TV → AS → Prop) → Prop
  | [], s, k, _ => k s
  | o :: os, s, k, kp => wpG LI LB LE R nb false none o s (fun s => wpOps LI LB LE R nb os s k kp) kp

/-- Operands. -/
def opsX : K → List X
  | .mv x | .box x | .nilck x | .not x | .conv _ x | .b2s x | .s2b x | .sid x | .mki _ x | .fa _ x | .fld _ _ _ x | .ext x _ | .len _ x | .panic x | .ld _ _ x | .eqnil _ _ x => [x]
  | .pick c a b => [c, a, b]
  | .alloc _ => []
  | .build _ ps => ps.map (·.2.2)
  | .bsl _ _ ps => ps.map (·.2)
  | .st _ x y | .ari _ _ x y | .cmp _ x y | .beq _ x y | .aeq _ _ x y | .scmp _ x y | .cat x y | .mks _ _ _ x y | .ia _ x y | .iaA _ _ x y | .ixS x y | .app _ _ x y => [x, y]
  | .mkf _ caps => caps
  | .ssl x lo hi => x :: (lo.toList ++ hi.toList)
  | .sls _ x lo hi mx => x :: (lo.toList ++ (hi.toList ++ mx.toList))
  | .call _ xs => xs
  | .calld x xs => x :: xs
def tmpsX : List X → List Nat
  | [] => []
  | .t i :: l => i :: tmpsX l
  | _ :: l => tmpsX l
def looksK (o : KO) : List Nat :=
  match o.g with
  | some (j, _) => j :: tmpsX (opsX o.k)
  | none => tmpsX (opsX o.k)

/-! ### operations whose order is open -/
def allocK : K → Bool
  | .box _ | .alloc _ | .bsl _ _ _ | .s2b _ | .mks _ _ _ _ _ | .app _ _ _ _ => true
  | _ => false
def slOf (k : K) (nx : Nat) : Option Nat := match allocK k with | true => some nx | false => none
def sucs : List Nat → List Nat
  | [] => []
  | a :: l => (a + 1) :: sucs l
def srcIds (h : List Ob) : TV → List Nat
  | .sl _ pl _ _ _ => idsO (nthO h pl.root)
  | _ => []
/-- Objects (as r + 1) and the number of objects (as 0) that an operation looks at, or turns. -/
def fpK (s : AS) : K → List Nat × List Nat
  | .ld _ _ a => match s.ev a with | .ptr pl _ _ _ => ([pl.root + 1], []) | _ => ([], [])
  | .b2s x => match s.ev x with | .sl _ pl _ _ _ => ([pl.root + 1], []) | _ => ([], [])
  | .st _ a v => match s.ev a with
    | .ptr pl _ _ _ => (match nthO s.h pl.root with
      | some (.row _ _ _) => ((pl.root + 1) :: sucs (idsV (s.ev v)), (pl.root + 1) :: sucs (idsV (s.ev v)))
      | _ => ([pl.root + 1], [pl.root + 1]))
    | _ => ([], [])
  | .app _ _ x y => (sucs (idsV (s.ev x) ++ (idsV (s.ev y) ++ srcIds s.h (s.ev y))), sucs (idsV (s.ev x) ++ (idsV (s.ev y) ++ srcIds s.h (s.ev y))))
  | .call _ xs => (0 :: sucs (reach s.h 500 (idsL (evs s.ev xs)) []), 0 :: sucs (reach s.h 500 (idsL (evs s.ev xs)) []))
  | .calld x xs => (0 :: sucs (reach s.h 500 (idsV (s.ev x) ++ idsL (evs s.ev xs)) []), 0 :: sucs (reach s.h 500 (idsV (s.ev x) ++ idsL (evs s.ev xs)) []))
  | _ => ([], [])
def rng : Nat → Nat → List Nat
  | _, 0 => []
  | a, n + 1 => (a + 1) :: rng (a + 1) n
structure LogE where
  f : List Nat
  w : List Nat
  n : List Nat
  c : Bool
def isCall : K → Bool
  | .call _ _ | .calld _ _ => true
  | _ => false
/-- All that a call can reach is told. -/
def okR (h : List Ob) (l : List Nat) (ids : List Nat) : Bool :=
  match subN l ids with
  | true => clsd h ids ids
  | false => false
def okK (s : AS) : K → Bool
  | .call _ xs => okR s.h (idsL (evs s.ev xs)) (reach s.h 500 (idsL (evs s.ev xs)) [])
  | .calld x xs => okR s.h (idsV (s.ev x) ++ idsL (evs s.ev xs)) (reach s.h 500 (idsV (s.ev x) ++ idsL (evs s.ev xs)) [])
  | _ => true
def nrD (d : Option Nat) (s : AS) : List Nat :=
  match d with
  | some d => nestV (getT s.t d) ++ nestH s.h
  | none => nestH s.h
def logE (o : KO) (sl : Option Nat) (s s' : AS) : LogE :=
  match sl with
  | some i => ⟨(i + 1) :: (fpK s o.k).1, (i + 1) :: (fpK s o.k).2, nrD o.d s', isCall o.k⟩
  | none => ⟨(fpK s o.k).1 ++ rng s.h.length (s'.h.length - s.h.length), (fpK s o.k).2 ++ rng s.h.length (s'.h.length - s.h.length), nrD o.d s', isCall o.k⟩
def chk1 (e : LogE) (log : List LogE) : List Nat → Bool
  | [] => true
  | j :: l => match nthO log j with
    | some e' => (match disj e.w e'.f, disj e'.w e.f with | true, true => chk1 e log l | _, _ => false)
    | none => false
def chkU (log : List LogE) : List LogE → List (List Nat) → Bool
  | [], _ => true
  | e :: l, u :: un => (match chk1 e log u with | true => chkU log l un | false => false)
  | _ :: _, [] => false
def chkN (n : List Nat) : List LogE → Bool
  | [] => true
  | e :: l => match e.c with
    | true => (match disj e.w (sucs n) with | true => chkN n l | false => false)
    | false => chkN n l
def allN : List LogE → List Nat
  | [] => []
  | e :: l => e.n ++ allN l
def chkL (n0 : List Nat) (log : List LogE) (un : List (List Nat)) : Bool :=
  match chkU log log un with
  | true => chkN (n0 ++ allN log) log
  | false => false
def freeO : Option Ob → Bool
  | some .free => true
  | _ => false
def blankD (t : List (List TV)) : List KO → List (List TV)
  | [] => t
  | o :: l => match o.d with
    | some d => blankD (setT t d .un) l
    | none => blankD t l
def wpOpsD (LI : PI → Int) (LB : PB → Bool) (LE : PE → List (List PV)) (R : Ro) (nb : Nat) (un : List (List Nat)) (n0 : List Nat) (all : List KO) : List KO → List Bool → Nat → List LogE → AS → (AS → Prop) → (TV → AS → Prop) → Prop
  | [], _, _, log, s, k, _ => chkL n0 log un = true ∧ k s
  | o :: os, pn :: pns, nx, log, s, k, kp => okK s o.k = true ∧ (match allocK o.k with | true => freeO (nthO s.h nx) = true | false => True) ∧ wpG LI LB LE R nb true (slOf o.k nx) o s
      (fun s' => wpOpsD LI LB LE R nb un n0 all os pns (match allocK o.k with | true => nx + 1 | false => nx) (log ++ [logE o (slOf o.k nx) s s']) s' k kp)
      (fun v s' => match pn with | true => chkL n0 (log ++ [logE o (slOf o.k nx) s s']) un = true ∧ kp v ⟨blankD s'.t all, s'.h⟩ | false => False)
  | _ :: _, [], _, _, _, _, _ => False
def freeN : List KO → List Ob
  | [] => []
  | o :: l => match allocK o.k with | true => .free :: freeN l | false => freeN l

/-! ### code -/
def blankL : List TV → List TV
  | [] => []
  | _ :: l => .un :: blankL l
def blankT : List (List TV) → List (List TV)
  | [] => []
  | r :: l => blankL r :: blankT l
def keepT (t : List (List TV)) : List Nat → List (List TV) → List (List TV)
  | [], acc => acc
  | i :: l, acc => keepT t l (setT acc i (getT t i))
def takeH : Nat → List Ob → List Ob
  | 0, _ => []
  | _ + 1, [] => []
  | n + 1, o :: l => o :: takeH n l
/-- At a loop's head: the temporaries that live on, and the first m objects. -/
def AS.norm (live : List Nat) (m : Nat) (s : AS) : AS :=
  ⟨(keepT s.t live (blankT s.t)).map (killL fun pl => Nat.ble m pl.root), mapH (killL fun pl => Nat.ble m pl.root) (takeH m s.h)⟩

def wp (LI : PI → Int) (LB : PB → Bool) (LE : PE → List (List PV)) (R : Ro) (nb : Nat) : CC → AS → (AX → AS → Prop) → Prop
  | .skip, s, q => q .nrm s
  | .reg ops, s, q => wpOps LI LB LE R nb ops s (q .nrm) (fun v s => q (.pan v) s)
  | .regd ops un pn, s, q => wpOpsD LI LB LE R nb un s.nr ops ops pn s.h.length [] ⟨s.t, s.h ++ freeN ops⟩ (q .nrm) (fun v s => q (.pan v) s)
  | .seq a b, s, q => wp LI LB LE R nb a s (fun x s => match x with | .nrm => wp LI LB LE R nb b s q | x => q x s)
  | .cond c a b, s, q => match s.ev c with
    | .p (.bool v) => (match v with | true => wp LI LB LE R nb a s q | false => wp LI LB LE R nb b s q)
    | _ => False
  | .block id b, s, q => wp LI LB LE R nb b s (fun x s => match x with
      | .ext i => (match Nat.beq i id with | true => q .nrm s | false => q (.ext i) s)
      | x => q x s)
  | .loop live b, s, q => ∃ (pre : List Pre) (m : Nat) (inv : Nat → AS → Prop), nb ≤ m ∧ (∃ n, inv n ((s.pres LE nb pre).norm live m)) ∧
      ∀ n s', inv n s' → wp LI LB LE R nb b s' (fun x s'' => match x with
        | .nrm => ∃ (pre' : List Pre) (n' : Nat), n' < n ∧ inv n' ((s''.pres LE nb pre').norm live m)
        | x => q x s'')
  | .exit id, s, q => q (.ext id) s
  | .ret, s, q => q .ret s

end Go.Ab
/- Code made compact. -/
set_option linter.unusedVariables false
namespace Go.Ab

def constV : Value → Option PV
  | .int k n => some (.int k n)
  | .bool b => some (.bool b)
  | .string s => if s.data.toList.length ≤ 1000000 then some (.str s.data.toList) else none
  | .pointer none => some .nilp
  | .slice none 0 0 => some (.isl false 0 [])
  | .map none => some .nilm
  | .nilFunc => some .nilf
  | .nilIface => some .nili
  | .func (.func f) a b => if a.isEmpty && b.isEmpty then some (.fn f) else none
  | _ => none
def constL : List Value → Option (List PV)
  | [] => some []
  | v :: l => match constV v, constL l with | some a, some b => some (a :: b) | _, _ => none
def constT : Value → Option TV
  | .agg cs => (constL cs.toList).map fun l => .agg (plainP l)
  | .tuple _ => some .un
  | v => (constV v).map .p
def opX : Operand → Option X
  | .tmp t => some (.t t)
  | .const v => (constT v).map .c
  | .func f => some (.c (.p (.fn f)))
  | .global _ => none
def opXs : List Operand → Option (List X)
  | [] => some []
  | x :: l => match opX x, opXs l with | some a, some b => some (a :: b) | _, _ => none
def opO : Option Operand → Option (Option X)
  | none => some none
  | some x => (opX x).map some
def isRowD : TypeDesc → Bool
  | .struct _ | .array _ _ => true
  | _ => false
def aggT (P : Program) (t : TypeId) : Option Bool := (P.underlying t).map isRowD
def sizeT (P : Program) (t : TypeId) : Option Nat := (P.info? t).map (·.size)
def zeroT (P : Program) (t : TypeId) : Option (List PV) := ((P.info? t).bind (·.zero)).bind fun z => constL z.cells.toList
def fieldParts (P : Program) (place : Nat → Option (Nat × Nat)) : List (Nat × Operand) → Option (List (Nat × Nat × X))
  | [] => some []
  | (i, x) :: l => match place i, opX x, fieldParts P place l with | some (o, n), some y, some r => some ((o, n, y) :: r) | _, _, _ => none
def slParts : List (Nat × Operand) → Option (List (Nat × X))
  | [] => some []
  | (i, x) :: l => match opX x, slParts l with | some y, some r => some ((i, y) :: r) | _, _ => none
def isNilK : Nat → Operand → Bool
  | 0, .const (.slice none 0 0) => true
  | 1, .const (.pointer none) => true
  | 2, .const .nilFunc => true
  | _, _ => false
def nilKind : TypeDesc → Option Nat
  | .slice _ => some 0
  | .pointer _ => some 1
  | .func .. => some 2
  | _ => none
/-- The cells that == looks at, and of which kind they are. -/
def eqFs (g : TypeId → Option (List (Nat × Nat))) (sz : TypeId → Option Nat) (tot : Nat) : List Field → Option (List (Nat × Nat))
  | [] => some []
  | f :: fs => if f.name == "_" then none else match g f.type, sz f.type, eqFs g sz tot fs with
    | some p, some n, some r => if Nat.ble (f.offset + n) tot && p.all (fun q => Nat.blt q.1 n) then some (p.map (fun q => (f.offset + q.1, q.2)) ++ r) else none
    | _, _, _ => none
def eqPlan (P : Program) : Nat → TypeId → Option (List (Nat × Nat))
  | 0, _ => none
  | d + 1, t => match P.underlying t with
    | some (.int _) => some [(0, 0)]
    | some .bool => some [(0, 1)]
    | some .string => some [(0, 2)]
    | some (.struct fs) => if P.stoodInHeld t then none else (sizeT P t).bind fun tot => eqFs (eqPlan P d) (sizeT P) tot fs.toList
    | _ => none
def compBin (P : Program) (op : BinOp) (t : TypeId) (x y : Operand) : Option K :=
  match P.underlying t with
  | some (.int k) => match opX x, opX y with
    | some a, some b => (match op with
      | .eql | .neq | .lss | .leq | .gtr | .geq => some (.cmp op a b)
      | _ => some (.ari op k a b))
    | _, _ => none
  | some .bool => match op, opX x, opX y with
    | .eql, some a, some b => some (.beq false a b)
    | .neq, some a, some b => some (.beq true a b)
    | _, _, _ => none
  | some .string => match opX x, opX y with
    | some a, some b => (match op with
      | .eql | .neq | .lss | .leq | .gtr | .geq => some (.scmp op a b)
      | .add => some (.cat a b)
      | _ => none)
    | _, _ => none
  | some (.struct _) => if P.eqGuardType P.depth t then none else match eqPlan P 20 t, opX x, opX y, op with
    | some pl, some a, some b, .eql => some (.aeq false pl a b)
    | some pl, some a, some b, .neq => some (.aeq true pl a b)
    | _, _, _, _ => none
  | some d => match nilKind d with
    | some kd => if isNilK kd y = true then (match op, opX x with
        | .eql, some a => some (.eqnil kd false a)
        | .neq, some a => some (.eqnil kd true a)
        | _, _ => none)
      else if isNilK kd x = true then (match op, opX y with
        | .eql, some b => some (.eqnil kd false b)
        | .neq, some b => some (.eqnil kd true b)
        | _, _ => none)
      else none
    | none => none
  | none => none
def compApp (P : Program) (e : TypeId) (x y : Operand) : Option K :=
  match P.info? e, zeroT P e, opX x, opX y with
  | some i, some z, some x, some y => if Nat.blt 0 i.size && Nat.blt 0 i.bytes && isLen i.size z then some (.app i.size i.bytes x y) else none
  | _, _, _, _ => none
def compK (P : Program) (o : Oper) : Option K :=
  match o.op with
  | .move x | .assign x => (opX x).map .mv
  | .pick c a b => match opX c, opX a, opX b with | some c, some a, some b => some (.pick c a b) | _, _, _ => none
  | .alloc t => (zeroT P t).map .alloc
  | .box _ x => (opX x).map .box
  | .build t ps => match P.underlying t, zeroT P t with
    | some (.struct fs), some z => match fs.toList.mapM (fun f => (P.info? f.type).map fun i => (f.offset, i.size)) with
      | some pls => match fieldParts P (fun i => pls[i]?) ps.toList with | some q => if q.all (fun q => Nat.blt 0 q.2.1) then some (.build z q) else none | none => none
      | none => none
    | some (.array _ e), some z => match P.info? e with
      | some ie => match fieldParts P (fun i => some (i * ie.size, ie.size)) ps.toList with | some q => if q.all (fun q => Nat.blt 0 q.2.1) then some (.build z q) else none | none => none
      | none => none
    | _, _ => none
  | .buildSlice t n ps => match P.underlying t with
    | some (.slice e) => match sizeT P e, zeroT P e, slParts ps.toList with
      | some w, some z, some q => if n * w ≤ 2 ^ 24 && Nat.blt 0 w && isLen w z && ps.toList.all (·.1 < n) then some (.bsl w (List.replicate n z) q) else none
      | _, _, _ => none
    | _ => none
  | .load t a => match sizeT P t, aggT P t, opX a with | some n, some g, some a => some (.ld n g a) | _, _, _ => none
  | .store t a v => match sizeT P t, opX a, opX v with | some (n + 1), some a, some v => some (.st (n + 1) a v) | _, _, _ => none
  | .nilCheck x => (opX x).map .nilck
  | .binOp op t x y _ => compBin P op t x y
  | .unOp .not _ x => (opX x).map .not
  | .unOp .neg t x => match P.underlying t with | some (.int k) => (opX x).map fun a => .ari .sub k (.c (.p (.int k 0))) a | _ => none
  | .convert s t x => match P.underlying s, P.underlying t with
    | some (.int _), some (.int k) => (opX x).map (.conv k)
    | some (.slice e), some .string => if P.underlying e matches some (.int .u8) then (opX x).map .b2s else none
    | some .string, some (.slice e) => if P.underlying e matches some (.int .u8) then (opX x).map .s2b else none
    | some .string, some .string => (opX x).map .sid
    | _, _ => none
  | .makeInterface t x => match P.underlying t with | some (.interface _) | none => none | _ => (opX x).map (.mki t)
  | .makeFunc (.func f) first caps => if first.isEmpty then (opXs caps.toList).map (.mkf f) else none
  | .makeSlice t l c => match P.underlying t with
    | some (.slice e) => match P.info? e, zeroT P e, opX l, opX c with
      | some i, some z, some l, some c => if Nat.blt 0 i.size && isLen i.size z then some (.mks i.size i.bytes z l c) else none
      | _, _, _, _ => none
    | _ => none
  | .slice t x lo hi mx => match P.underlying t, opX x, opO lo, opO hi, opO mx with
    | some .string, some x, some lo, some hi, some none => some (.ssl x lo hi)
    | some (.slice e), some x, some lo', some hi', some mx' => if hi.isNone && mx.isSome then none else (sizeT P e).map fun w => .sls w x lo' hi' mx'
    | _, _, _, _, _ => none
  | .fieldAddr t x f => match P.underlying t, opX x with
    | some (.struct fs), some x => (fs[f]?).bind fun f => match sizeT P f.type with | some (n + 1) => some (.fa f.offset x) | _ => none
    | _, _ => none
  | .field t x f => match P.underlying t, opX x with
    | some (.struct fs), some x => (fs[f]?).bind fun f => match sizeT P f.type, aggT P f.type with | some n, some g => some (.fld f.offset n g x) | _, _ => none
    | _, _ => none
  | .indexAddr t x i => match P.underlying t, opX x, opX i with
    | some (.slice e), some x, some i => (sizeT P e).map fun w => .ia w x i
    | some (.array n e), some x, some i => (sizeT P e).map fun w => .iaA n w x i
    | _, _, _ => none
  | .index t x i => match P.underlying t, opX x, opX i with
    | some .string, some x, some i => some (.ixS x i)
    | _, _, _ => none
  | .extract x i => (opX x).map fun x => .ext x i
  | .call c => match c.callee with
    | .value (.func f) => (opXs c.args.toList).map (.call f)
    | .value f => match opX f, opXs c.args.toList with | some f, some xs => some (.calld f xs) | _, _ => none
    | .builtin .len => match c.args.toList, c.argTypes.toList with
      | [x], [t] => (match P.underlying t with | some (.slice _) => (opX x).map (.len false) | some .string => (opX x).map (.len true) | _ => none)
      | _, _ => none
    | .builtin .append => match c.args.toList, c.argTypes.toList with
      | [x, y], [t, u] => (match P.underlying t, P.underlying u with
        | some (.slice e), some (.slice _) => compApp P e x y
        | some (.slice e), some .string => compApp P e x y
        | _, _ => none)
      | _, _ => none
    | .builtin .panic => match c.args.toList with | [x] => (opX x).map .panic | _ => none
    | _ => none
  | .panic x => (opX x).map .panic
  | _ => none
def dstOk (n : Nat) : Option Nat → Bool
  | some d => Nat.blt d n
  | none => true
def compO (P : Program) (n : Nat) (ops : Array Oper) (o : Oper) : Option KO :=
  if dstOk n o.dst = true then match compK P o, o.guard with
  | some k, none => some ⟨o.dst, k, none⟩
  | some k, some (j, w) => match (ops[j]?).bind (·.dst) with | some t => some ⟨o.dst, k, some (t, w)⟩ | none => none
  | none, _ => none
  else none
def compOs (P : Program) (n : Nat) (ops : Array Oper) : List Oper → Option (List KO)
  | [] => some []
  | o :: l => match compO P n ops o, compOs P n ops l with | some a, some b => some (a :: b) | _, _ => none
/-! ### operations whose order is open -/
def binding (o : Oper) : List Nat := (o.after.toList.filter fun e => Region.binds .any e).map (·.on)
def addN (l : List Nat) : List Nat → List Nat
  | [] => l
  | a :: m => match memN a l with | true => addN l m | false => addN (a :: l) m
/-- What surely lies ahead of an operation, given the same of those ahead of it in the list. -/
def bef1 (acc : List (List Nat)) : List Nat → List Nat
  | [] => []
  | j :: l => addN (addN [j] (acc.getD j [])) (bef1 acc l)
def befs : List Oper → List (List Nat) → List (List Nat)
  | [], acc => acc
  | o :: l, acc => befs l (acc ++ [bef1 acc (binding o)])
/-- 0: it only computes; 1: it looks at objects; 2: it turns or makes objects. -/
def clsK : K → Nat
  | .ld _ _ _ | .b2s _ => 1
  | .st _ _ _ | .app _ _ _ _ | .call _ _ | .calld _ _ | .box _ | .alloc _ | .bsl _ _ _ | .s2b _ | .mks _ _ _ _ _ => 2
  | _ => 0
def clsC (a b : Nat) : Bool := match a, b with | 0, _ => false | _, 0 => false | 1, 1 => false | _, _ => true
def dstL : Option Nat → List Nat
  | some d => [d]
  | none => []
/-- Their temporaries have nothing to do with each other. -/
def apartT (x y : KO) : Bool :=
  disj (dstL x.d) (dstL y.d ++ looksK y) && disj (dstL y.d) (looksK x)
/-- Of each operation: the ones ahead of it in the list that are not surely ahead of it. -/
def unR (k : Nat) (bef : List Nat) : List Nat := (List.range k).filter fun i => !(memN i bef)
def tmpsOk (ops : Array Oper) (ks : List KO) (bs : List (List Nat)) : Bool :=
  (List.range ops.size).all fun k => match ops[k]?, ks[k]? with
    | some o, some x => (binding o).all (fun j => Nat.blt j k) && (unR k (bs.getD k [])).all fun i => match ks[i]? with | some y => apartT x y | none => false
    | _, _ => false
def unOf (ks : List KO) (bs : List (List Nat)) : List (List Nat) :=
  (List.range ks.length).map fun k => (unR k (bs.getD k [])).filter fun i => clsC (((ks[i]?).map fun o => clsK o.k).getD 2) (((ks[k]?).map fun o => clsK o.k).getD 2)
/-- It only moves a value. -/
def mvO : KO → Bool
  | ⟨_, .mv (.t _), none⟩ => true
  | ⟨_, .mv (.c (.p _)), none⟩ => true
  | _ => false
def pnOf (ks : List KO) (bs : List (List Nat)) : List Bool :=
  (List.range ks.length).map fun k => (List.range ks.length).all fun i => Nat.beq i k || memN i (bs.getD k []) || memN k (bs.getD i []) ||
    (if Nat.blt i k then Nat.blt (((ks[i]?).map fun o => clsK o.k).getD 2) 2 else ((ks[i]?).map mvO).getD false)
def comp (P : Program) (n : Nat) : Code → List (List Nat) → Option (CC × List (List Nat))
  | .skip, ann => some (.skip, ann)
  | .region _ ops false, ann => match compOs P n ops ops.toList with | some l => some (.reg l, ann) | none => none
  | .region _ ops true, ann => match compOs P n ops ops.toList with
    | some l => if P.follows .mixedOrders && tmpsOk ops l (befs ops.toList []) then some (.regd l (unOf l (befs ops.toList [])) (pnOf l (befs ops.toList [])), ann) else none
    | none => none
  | .seq a b, ann => match comp P n a ann with
    | some (x, ann) => match comp P n b ann with | some (y, ann) => some (.seq x y, ann) | none => none
    | none => none
  | .cond c a b, ann => match opX c, comp P n a ann with
    | some c, some (x, ann) => match comp P n b ann with | some (y, ann) => some (.cond c x y, ann) | none => none
    | _, _ => none
  | .block id b, ann => match comp P n b ann with | some (x, ann) => some (.block id x, ann) | none => none
  | .loop b, ann => match ann with
    | live :: ann => match comp P n b ann with | some (x, ann) => some (.loop live x, ann) | none => none
    | [] => none
  | .exit id, ann => some (.exit id, ann)
  | .ret, ann => some (.ret, ann)
  | _, _ => none
end Go.Ab
/- What abstract values stand for in a world. -/
set_option linter.unusedVariables false
namespace Go.Ab

def at2 (els : List (List PV)) (i j : Nat) : Option PV := (els[i]?).bind (·[j]?)

/-- Data that nobody turns any more: they lie in blocks of Im. -/
inductive IR (w : World) (Im : Nat → Prop) : PV → Value → Prop
  | int (k : IntKind) (n : Int) : IR w Im (.int k n) (.int k n)
  | bool (b : Bool) : IR w Im (.bool b) (.bool b)
  | str (l : List UInt8) (h : l.length ≤ maxLen) : IR w Im (.str l) (.string ⟨l.toArray⟩)
  | isl0 (z : Nat) : IR w Im (.isl false z []) (.slice none 0 0)
  | isl1 (z : Nat) (els : List (List PV)) (a : Addr) (cap : Nat) (vs : Nat → Nat → Value) (hs : els ≠ [] → a.spot = none) (hI : els ≠ [] → Im a.block) (hl : els.length ≤ cap) (hm : cap ≤ maxLen)
      (hz : ∀ e ∈ els, e.length = z) (hc : ∀ i j c, at2 els i j = some c → w.cell? ⟨a.block, a.off + (i * z + j), none⟩ = some (vs i j))
      (hr : ∀ i j c, at2 els i j = some c → IR w Im c (vs i j)) : IR w Im (.isl true z els) (.slice (some a) els.length cap)
  | nilp : IR w Im .nilp (.pointer none)
  | nilf : IR w Im .nilf .nilFunc
  | nili : IR w Im .nili .nilIface
  | nilm : IR w Im .nilm (.map none)
  | fn (f : FuncId) : IR w Im (.fn f) (.func (.func f) #[] #[])
  | ifs (t : TypeId) (c : PV) (x : Value) (h : IR w Im c x) : IR w Im (.ifs t c) (.iface t x)
  | ifa (t : TypeId) (cs : List PV) (vs : Nat → Value) (h : ∀ i c, cs[i]? = some c → IR w Im c (vs i)) : IR w Im (.ifa t cs) (.iface t (.agg ((List.range cs.length).map vs).toArray))
  | any (x : Value) (h : x.oneCell' = true) : IR w Im .any x

theorem IR.mono {w w' : World} {Im Im' : Nat → Prop} {c : PV} {x : Value} (h : IR w Im c x) (hw : ∀ b, Im b → w'.heap[b]? = w.heap[b]?) (hi : ∀ b, Im b → Im' b) : IR w' Im' c x := by
  induction h with
  | int k n => exact .int k n
  | bool b => exact .bool b
  | str l h => exact .str l h
  | isl0 z => exact .isl0 z
  | isl1 z els a cap vs hs hI hl hm hz hc hr ih =>
    refine .isl1 z els a cap vs hs (fun h => hi _ (hI h)) hl hm hz (fun i j c h => ?_) ih
    have hne : els ≠ [] := by
      rintro rfl
      simp [at2] at h
    have := hc i j c h
    simp only [World.cell?] at this ⊢
    rw [hw _ (hI hne)]
    exact this
  | nilp => exact .nilp
  | nilf => exact .nilf
  | nili => exact .nili
  | nilm => exact .nilm
  | fn f => exact .fn f
  | ifs t c x h ih => exact .ifs t c x ih
  | ifa t cs vs h ih => exact .ifa t cs vs ih
  | any x h => exact .any x h

/-- The ghost: which block a place is, how many cells it has and how many elements, which blocks stay as they are. -/
structure G where
  β : Place → Nat
  C : Place → Nat × Nat
  Im : Nat → Prop

def NF (n : Nat) (fr : Nat × Nat) : Prop := ∀ o, o < n → ¬ (fr.1 ≤ o ∧ o < fr.2)

mutual
/-- A cell that may own a row. -/
inductive PR (w : World) (g : G) : Place → PV → Value → Prop
  | im (π : Place) (c : PV) (x : Value) (h : IR w g.Im c x) : PR w g π c x
  | own0 (π : Place) (z : Nat) (hC : (g.C π).2 = 0) : PR w g π (.own false z []) (.slice none 0 0)
  | own1 (π : Place) (z : Nat) (els : List (List PV)) (cap : Nat) (h : RowR w g π true z els) (hl : els.length ≤ cap) (hm : cap ≤ maxLen) (hc : cap * z ≤ (g.C π).1) :
      PR w g π (.own true z els) (.slice (some ⟨g.β π, 0, none⟩) els.length cap)
/-- A row that is owned; a nil one has no block. -/
inductive RowR (w : World) (g : G) : Place → Bool → Nat → List (List PV) → Prop
  | nil (π : Place) (z : Nat) (hC : (g.C π).2 = 0) : RowR w g π false z []
  | mk (π : Place) (z : Nat) (els : List (List PV)) (cur : Array Value) (t : TypeId) (fr : Nat × Nat) (vs : Nat → Nat → Value)
      (hb : w.heap[g.β π]? = some (.cells cur t fr)) (hC : (g.C π).1 ≤ cur.size) (hf : NF cur.size fr) (hz : ∀ e ∈ els, e.length = z) (hn : els.length * z ≤ (g.C π).1) (hN : els.length = (g.C π).2) (hp : 0 < z)
      (hc : ∀ i j c, at2 els i j = some c → cur[i * z + j]? = some (vs i j))
      (hr : ∀ i j c, at2 els i j = some c → PR w g (π.snoc i j) c (vs i j)) : RowR w g π true z els
end

mutual
/-- A temporary's value. -/
inductive TR (w : World) (g : G) : TV → Value → Prop
  | un (x : Value) : TR w g .un x
  | p (c : PV) (x : Value) (h : IR w g.Im c x) : TR w g (.p c) x
  | agg (cs : List TV) (vs : List Value) (h : TRL w g cs vs) : TR w g (.agg cs) (.agg vs.toArray)
  | ptr (pl : Place) (z i j : Nat) : TR w g (.ptr pl z i j) (.pointer (some ⟨g.β pl, i * z + j, none⟩))
  | cptr (cs : List PV) (j b o : Nat) (vs : Nat → Value) (hI : cs ≠ [] → g.Im b) (hc : ∀ k c, cs[k]? = some c → w.cell? ⟨b, o + k, none⟩ = some (vs k)) (hr : ∀ k c, cs[k]? = some c → IR w g.Im c (vs k)) :
      TR w g (.cptr cs j) (.pointer (some ⟨b, o + j, none⟩))
  | sl0 (pl : Place) (z : Nat) : TR w g (.sl false pl z 0 0) (.slice none 0 0)
  | sl1 (pl : Place) (z off len cap : Nat) (hl : len ≤ cap) (hm : cap ≤ maxLen) (hc : (off + cap) * z ≤ (g.C pl).1) (hN : off + len ≤ (g.C pl).2) : TR w g (.sl true pl z off len) (.slice (some ⟨g.β pl, off * z, none⟩) len cap)
  | fn (f : FuncId) (cs : List TV) (vs : List Value) (h : TRL w g cs vs) : TR w g (.fn f cs) (.func (.func f) #[] vs.toArray)
  | tup (cs : List TV) (vs : List Value) (h : TRL w g cs vs) : TR w g (.tup cs) (.tuple vs.toArray)
  | map (id : Nat) : TR w g (.map id) (.map (some (g.β ⟨id, []⟩)))
  | ifv (t : TypeId) (v : TV) (x : Value) (h : TR w g v x) : TR w g (.ifv t v) (.iface t x)
inductive TRL (w : World) (g : G) : List TV → List Value → Prop
  | nil : TRL w g [] []
  | cons (v : TV) (x : Value) (cs : List TV) (vs : List Value) (h : TR w g v x) (hs : TRL w g cs vs) : TRL w g (v :: cs) (x :: vs)
end

/-! ### places that are referred to -/
mutual
def plsV : TV → List Place
  | .ptr pl _ _ _ => [pl]
  | .sl _ pl _ _ _ => [pl]
  | .map r => [⟨r, []⟩]
  | .agg cs => plsL cs
  | .tup cs => plsL cs
  | .fn _ cs => plsL cs
  | .ifv _ v => plsV v
  | _ => []
def plsL : List TV → List Place
  | [] => []
  | v :: l => plsV v ++ plsL l
end
def plsLL : List (List TV) → List Place
  | [] => []
  | v :: l => plsL v ++ plsLL l
def plsOb : Ob → List Place
  | .box cs => plsL cs
  | .lit _ els => plsLL els
  | _ => []
theorem plsL_mem {l : List TV} {i : Place} : i ∈ plsL l ↔ ∃ v ∈ l, i ∈ plsV v := by
  induction l with
  | nil => simp [plsL]
  | cons a l ih => simp [plsL, ih]
theorem plsLL_mem {l : List (List TV)} {i : Place} : i ∈ plsLL l ↔ ∃ v ∈ l, i ∈ plsL v := by
  induction l with
  | nil => simp [plsLL]
  | cons a l ih => simp [plsLL, ih]

/-- A place that has a block. -/
def VP (h : List Ob) (π : Place) : Prop :=
  match nthO h π.root with
  | some (.row nn _ els) => ∃ r, rowAt nn els π.path = some (true, r)
  | some (.box _) => π.path = []
  | some (.lit _ _) => π.path = []
  | _ => False
/-- A place that may be referred to. -/
def OkP (h : List Ob) (π : Place) : Prop :=
  match nthO h π.root with
  | some (.row nn _ els) => (rowAt nn els π.path).isSome
  | some .free => False
  | none => False
  | _ => True

/-- What an object is in the world. -/
def ObR (w : World) (g : G) (r : Nat) : Ob → Prop
  | .box cs => ∃ cur t fr, w.heap[g.β ⟨r, []⟩]? = some (.cells cur t fr) ∧ NF cur.size fr ∧ ∃ vs : List Value, TRL w g cs vs ∧ ∀ (k : Nat) (x : Value), vs[k]? = some x → cur[k]? = some x
  | .lit z els => ∃ cur t fr, w.heap[g.β ⟨r, []⟩]? = some (.cells cur t fr) ∧ NF cur.size fr ∧ (g.C ⟨r, []⟩).1 ≤ cur.size ∧ els.length * z ≤ (g.C ⟨r, []⟩).1 ∧ els.length = (g.C ⟨r, []⟩).2 ∧ 0 < z ∧ (∀ e ∈ els, e.length = z) ∧
      ∀ i e, els[i]? = some e → ∃ vs : List Value, TRL w g e vs ∧ ∀ (k : Nat) (x : Value), vs[k]? = some x → cur[i * z + k]? = some x
  | .row nn z els => RowR w g ⟨r, []⟩ nn z els
  | _ => True

structure HOK (w : World) (g : G) (h : List Ob) : Prop where
  ob : ∀ r o, nthO h r = some o → ObR w g r o
  inj : ∀ π π', VP h π → VP h π' → g.β π = g.β π' → π = π'
  lt : ∀ π, VP h π → g.β π < w.heap.size
  dis : ∀ π, VP h π → ¬ g.Im (g.β π)
  im : ∀ b, g.Im b → b < w.heap.size

/-- What is referred to is there. -/
def RefV (h : List Ob) (v : TV) : Prop := ∀ π ∈ plsV v, OkP h π
def RefH (h : List Ob) : Prop := ∀ r o, nthO h r = some o → ∀ π ∈ plsOb o, OkP h π

/-- Where a call began: the world, the ghost, the objects that were handed over, and how many temporaries there are. -/
structure Ctx where
  w0 : World
  g0 : G
  h0 : List Ob
  n : Nat
def Ctx.FP (Γ : Ctx) (b : Nat) : Prop := ∃ π, VP Γ.h0 π ∧ Γ.g0.β π = b

structure Frm (Γ : Ctx) (w : World) (g : G) (h : List Ob) : Prop where
  os : w.os = Γ.w0.os
  tape : w.tape = Γ.w0.tape
  output : w.output = Γ.w0.output
  size : Γ.w0.heap.size ≤ w.heap.size
  block : ∀ b, b < Γ.w0.heap.size → ¬ Γ.FP b → w.heap[b]? = Γ.w0.heap[b]?
  vp : ∀ π, VP h π → Γ.FP (g.β π) ∨ Γ.w0.heap.size ≤ g.β π
  im0 : ∀ b, Γ.g0.Im b → g.Im b
  im1 : ∀ b, g.Im b → Γ.g0.Im b ∨ Γ.FP b ∨ Γ.w0.heap.size ≤ b
  root : ∀ r, r < Γ.h0.length → g.β ⟨r, []⟩ = Γ.g0.β ⟨r, []⟩ ∧ g.C ⟨r, []⟩ = Γ.g0.C ⟨r, []⟩
  nofree : ∀ r, r < Γ.h0.length → nthO h r ≠ some .free
  len : Γ.h0.length ≤ h.length

structure Sim (Γ : Ctx) (s : AS) (tm : Array Value) (w : World) (g : G) : Prop where
  tmp : ∀ i, TR w g (getT s.t i) (tm.getD i undef)
  n : tm.size = Γ.n
  hok : HOK w g s.h
  frm : Frm Γ w g s.h
  refT : ∀ i, RefV s.h (getT s.t i)
  refH : RefH s.h

/-- What comes out of a call. -/
def OutR (Γ : Ctx) (w : World) (e : Ending) : Out → Prop
  | .ret v objs => ∃ x g, e = .returned x ∧ TR w g v x ∧ HOK w g objs ∧ Frm Γ w g objs ∧ RefV objs v ∧ RefH objs
  | .pan v objs => ∃ x g, e = .panicked [{ v := x, recovered := false }] ∧ TR w g v x ∧ HOK w g objs ∧ Frm Γ w g objs ∧ RefV objs v ∧ RefH objs
/-- What a call comes to: of a function of Go's text, or of one that the model answers. -/
def Does (P : Program) (f : FuncId) (xs : Array Value) (w : World) (R : Ending → World → Prop) : Prop :=
  match (callFunc f xs).run P w with
  | .ok (.enter f' args) w' => Calls P f' args w' R
  | .ok (.value v) w' => R (.returned v) w'
  | _ => False
/-- The call of function f, with arguments and objects as told, comes to 'out'. -/
structure Runs (P : Program) (f : FuncId) (vs : List TV) (h : List Ob) (out : Out) : Prop where
  run : ∀ (w : World) (g : G) (xs : List Value), TRL w g vs xs → HOK w g h → (∀ v ∈ vs, RefV h v) → RefH h → (∀ r, nthO h r ≠ some .free) →
    Does P f xs.toArray w fun e w' => OutR ⟨w, g, h, 0⟩ w' e out

/-! ### lists -/
theorem nthO_eq {α : Type} (l : List α) (n : Nat) : nthO l n = l[n]? := by
  induction l generalizing n with
  | nil => simp [nthO]
  | cons a l ih => cases n <;> simp [nthO, ih]
theorem setO_eq {α : Type} (l : List α) (n : Nat) (b : α) : setO l n b = l.set n b := by
  induction l generalizing n with
  | nil => simp [setO]
  | cons a l ih => cases n <;> simp [setO, ih]
theorem dropN_eq {α : Type} (n : Nat) (l : List α) : dropN n l = l.drop n := by
  induction l generalizing n with
  | nil => cases n <;> simp [dropN]
  | cons a l ih => cases n <;> simp [dropN, ih]
theorem takeN_eq {α : Type} {n : Nat} {l r : List α} (h : takeN n l = some r) : r = l.take n ∧ r.length = n := by
  induction n generalizing l r with
  | zero => simp only [takeN, Option.some.injEq] at h; subst h; simp
  | succ n ih =>
    cases l with
    | nil => simp [takeN] at h
    | cons a l =>
      simp only [takeN] at h
      split at h
      · rename_i r' hr
        simp only [Option.some.injEq] at h
        subst h
        obtain ⟨h1, h2⟩ := ih hr
        subst h1
        simp_all
      · cases h
theorem takeH_eq (n : Nat) (l : List Ob) : takeH n l = l.take n := by
  induction l generalizing n with
  | nil => cases n <;> simp [takeH]
  | cons a l ih => cases n <;> simp [takeH, ih]
theorem memN_eq (n : Nat) (l : List Nat) : memN n l = true ↔ n ∈ l := by
  induction l with
  | nil => simp [memN]
  | cons a l ih =>
    simp only [memN]
    cases h : Nat.beq n a with
    | true => simp [Nat.eq_of_beq_eq_true h]
    | false =>
      have : n ≠ a := by rintro rfl; simp at h
      simp [ih, this]
theorem isLen_eq {α : Type} {n : Nat} {l : List α} (h : isLen n l = true) : l.length = n := by
  induction l generalizing n with
  | nil => cases n <;> simp_all [isLen]
  | cons a l ih =>
    cases n with
    | zero => simp [isLen] at h
    | succ n => simp only [isLen] at h; simp [ih h]

/-! ### temporaries -/
theorem setRow_length (l : List TV) (n : Nat) (v : TV) : (setRow l n v).length = l.length := by
  induction l generalizing n with
  | nil => simp [setRow]
  | cons a l ih => cases n <;> simp [setRow, ih]
theorem setRow_getD (l : List TV) (n m : Nat) (v : TV) : (setRow l n v).getD m .un = if n = m ∧ m < l.length then v else l.getD m .un := by
  induction l generalizing n m with
  | nil => simp [setRow]
  | cons a l ih =>
    cases n with
    | zero => cases m <;> simp [setRow]
    | succ n =>
      cases m with
      | zero => simp [setRow]
      | succ m => simpa [setRow] using ih n m
theorem setT2_getD (t : List (List TV)) (i j a b : Nat) (v : TV) :
    ((setT2 t i j v).getD a []).getD b .un = if i = a ∧ j = b ∧ b < (t.getD a []).length then v else (t.getD a []).getD b .un := by
  induction t generalizing i a with
  | nil => simp [setT2]
  | cons r t ih =>
    cases i with
    | zero =>
      cases a with
      | zero =>
        simp only [setT2, List.getD_cons_zero, setRow_getD]
        simp
      | succ a => simp [setT2]
    | succ i =>
      cases a with
      | zero => simp [setT2]
      | succ a =>
        simp only [setT2, List.getD_cons_succ, ih]
        simp
theorem getT_setT (t : List (List TV)) (i j : Nat) (v : TV) : getT (setT t i v) j = v ∧ i = j ∨ getT (setT t i v) j = getT t j ∧ (i ≠ j ∨ getT t j = .un) := by
  unfold getT setT
  rw [setT2_getD]
  by_cases h : i = j
  · subst h
    by_cases h2 : i % 16 < (t.getD (i / 16) []).length
    · exact .inl ⟨by rw [if_pos ⟨rfl, rfl, h2⟩], rfl⟩
    · right
      refine ⟨by rw [if_neg fun h => h2 h.2.2], .inr ?_⟩
      simp only [List.getD_eq_getElem?_getD] at h2 ⊢
      rw [List.getElem?_eq_none (by omega)]
      rfl
  · right
    have : ¬ (i / 16 = j / 16 ∧ i % 16 = j % 16 ∧ j % 16 < (t.getD (j / 16) []).length) := by
      rintro ⟨h1, h2, _⟩
      exact h (by omega)
    exact ⟨by rw [if_neg this], .inl h⟩

/-! ### what a change leaves -/
mutual
theorem TR.mono {w w' : World} {g g' : G} {v : TV} {x : Value} (h : TR w g v x) (hw : ∀ b, g.Im b → w'.heap[b]? = w.heap[b]?) (hi : ∀ b, g.Im b → g'.Im b)
    (hg : ∀ π ∈ plsV v, g'.β π = g.β π ∧ g'.C π = g.C π) : TR w' g' v x := by
  cases h with
  | un x => exact .un x
  | p c x h => exact .p c x (h.mono hw hi)
  | agg cs vs h => exact .agg cs vs (TRL.mono h hw hi (by simpa [plsV] using hg))
  | ptr pl z i j =>
    have := (hg pl (by simp [plsV])).1
    rw [← this]
    exact .ptr pl z i j
  | cptr cs j b o vs hI hc hr =>
    refine .cptr cs j b o vs (fun h => hi _ (hI h)) (fun k c h => ?_) (fun k c h => (hr k c h).mono hw hi)
    have hne : cs ≠ [] := by rintro rfl; simp at h
    have := hc k c h
    simp only [World.cell?] at this ⊢
    rw [hw _ (hI hne)]
    exact this
  | sl0 pl z => exact .sl0 pl z
  | sl1 pl z off len cap hl hm hc hN =>
    obtain ⟨h1, h2⟩ := hg pl (by simp [plsV])
    rw [← h1]
    exact .sl1 pl z off len cap hl hm (by rw [h2]; exact hc) (by rw [h2]; exact hN)
  | fn f cs vs h => exact .fn f cs vs (TRL.mono h hw hi (by simpa [plsV] using hg))
  | tup cs vs h => exact .tup cs vs (TRL.mono h hw hi (by simpa [plsV] using hg))
  | map id =>
    have := (hg ⟨id, []⟩ (by simp [plsV])).1
    rw [← this]
    exact .map id
  | ifv t v x h => exact .ifv t v x (TR.mono h hw hi (by simpa [plsV] using hg))
theorem TRL.mono {w w' : World} {g g' : G} {cs : List TV} {vs : List Value} (h : TRL w g cs vs) (hw : ∀ b, g.Im b → w'.heap[b]? = w.heap[b]?) (hi : ∀ b, g.Im b → g'.Im b)
    (hg : ∀ π ∈ plsL cs, g'.β π = g.β π ∧ g'.C π = g.C π) : TRL w' g' cs vs := by
  cases h with
  | nil => exact .nil
  | cons v x cs vs h hs => exact .cons v x cs vs (TR.mono h hw hi fun π hp => hg π (by simp [plsL, hp])) (TRL.mono hs hw hi fun π hp => hg π (by simp [plsL, hp]))
end

end Go.Ab
/- How objects live on: moved rows, new objects, changes. -/
set_option linter.unusedVariables false
namespace Go.Ab

def Place.app (π : Place) (p : List (Nat × Nat)) : Place := ⟨π.root, π.path ++ p⟩
theorem Place.app_nil (π : Place) : π.app [] = π := by simp [Place.app]
theorem Place.snoc_app (π : Place) (i j : Nat) (p : List (Nat × Nat)) : (π.snoc i j).app p = π.app ((i, j) :: p) := by simp [Place.app, Place.snoc]
theorem rowAt_cons (nn : Bool) (els : List (List PV)) (i j : Nat) (p : List (Nat × Nat)) : rowAt nn els ((i, j) :: p) = match at2 els i j with | some (.own nn' _ els') => rowAt nn' els' p | _ => none := rfl
theorem rowAt_nil (nn : Bool) (els : List (List PV)) : rowAt nn els [] = some (nn, els) := rfl

/-- What a row needs of a new world, ghost and place. -/
structure Moves (w w' : World) (g g' : G) (π π' : Place) (nn : Bool) (els : List (List PV)) : Prop where
  im : ∀ b, g.Im b → w'.heap[b]? = w.heap[b]?
  sub : ∀ b, g.Im b → g'.Im b
  blk : ∀ p r, rowAt nn els p = some (true, r) → w'.heap[g.β (π.app p)]? = w.heap[g.β (π.app p)]?
  β : ∀ p r, rowAt nn els p = some (true, r) → g'.β (π'.app p) = g.β (π.app p)
  C : ∀ p nb r, rowAt nn els p = some (nb, r) → g'.C (π'.app p) = g.C (π.app p)

theorem Moves.inner {w w' : World} {g g' : G} {π π' : Place} {nn : Bool} {els : List (List PV)} (h : Moves w w' g g' π π' nn els) {i j z : Nat} {nn' : Bool} {els' : List (List PV)} (ha : at2 els i j = some (.own nn' z els')) :
    Moves w w' g g' (π.snoc i j) (π'.snoc i j) nn' els' := by
  have key : ∀ p nb r, rowAt nn' els' p = some (nb, r) → rowAt nn els ((i, j) :: p) = some (nb, r) := fun p nb r hp => by rw [rowAt_cons, ha]; exact hp
  refine ⟨h.im, h.sub, fun p r hp => ?_, fun p r hp => ?_, fun p nb r hp => ?_⟩
  · rw [Place.snoc_app]; exact h.blk _ r (key p true r hp)
  · rw [Place.snoc_app, Place.snoc_app]; exact h.β _ r (key p true r hp)
  · rw [Place.snoc_app, Place.snoc_app]; exact h.C _ nb r (key p nb r hp)

theorem RowR.move {w w' : World} {g g' : G} {π π' : Place} {nn : Bool} {z : Nat} {els : List (List PV)} (h : RowR w g π nn z els) (m : Moves w w' g g' π π' nn els) : RowR w' g' π' nn z els := by
  refine RowR.rec (w := w) (g := g) (motive_1 := fun π c x _ => ∀ π', (∀ b, g.Im b → w'.heap[b]? = w.heap[b]?) → (∀ b, g.Im b → g'.Im b) → (∀ nn z els, c = .own nn z els → Moves w w' g g' π π' nn els) → PR w' g' π' c x)
    (motive_2 := fun π nn z els _ => ∀ π', Moves w w' g g' π π' nn els → RowR w' g' π' nn z els) ?_ ?_ ?_ ?_ ?_ h π' m
  · intro π c x h π' him hsub hm
    exact .im _ c x (h.mono him hsub)
  · intro π z hC π' him hsub hm
    have := (hm false z [] rfl).C [] false [] rfl
    simp only [Place.app_nil] at this
    exact .own0 _ _ (by rw [this]; exact hC)
  · intro π z els cap h hl hm2 hc ih π' him hsub hm
    have m := hm true z els rfl
    have e1 := m.β [] els rfl
    have e2 := m.C [] true els rfl
    simp only [Place.app_nil] at e1 e2
    rw [← e1]
    exact .own1 π' z els cap (ih π' m) hl hm2 (by rw [e2]; exact hc)
  · intro π z hC π' m
    have := m.C [] false [] rfl
    simp only [Place.app_nil] at this
    exact .nil _ _ (by rw [this]; exact hC)
  · intro π z els cur t fr vs hb hC hf hz hn hN hp hc hr ih π' m
    have e1 := m.β [] els rfl
    have e2 := m.C [] true els rfl
    have e3 := m.blk [] els rfl
    simp only [Place.app_nil] at e1 e2 e3
    refine .mk π' z els cur t fr vs (by rw [e1, e3]; exact hb) (by rw [e2]; exact hC) hf hz (by rw [e2]; exact hn) (by rw [e2]; exact hN) hp hc ?_
    intro i j c ha
    exact ih i j c ha _ m.im m.sub fun nn' z' els' e => m.inner (by rw [ha, e])
theorem PR.move {w w' : World} {g g' : G} {π π' : Place} {c : PV} {x : Value} (h : PR w g π c x) (him : ∀ b, g.Im b → w'.heap[b]? = w.heap[b]?) (hsub : ∀ b, g.Im b → g'.Im b)
    (hm : ∀ nn z els, c = .own nn z els → Moves w w' g g' π π' nn els) : PR w' g' π' c x := by
  cases h with
  | im _ c x h => exact .im _ c x (h.mono him hsub)
  | own0 _ z hC =>
    have := (hm false z [] rfl).C [] false [] rfl
    simp only [Place.app_nil] at this
    exact .own0 _ _ (by rw [this]; exact hC)
  | own1 _ z els cap h hl hm2 hc =>
    have m := hm true z els rfl
    have e1 := m.β [] els rfl
    have e2 := m.C [] true els rfl
    simp only [Place.app_nil] at e1 e2
    rw [← e1]
    exact .own1 π' z els cap (RowR.move h m) hl hm2 (by rw [e2]; exact hc)

theorem ObR.keep {w w' : World} {g g' : G} {r : Nat} {o : Ob} (h : ObR w g r o) (him : ∀ b, g.Im b → w'.heap[b]? = w.heap[b]?) (hsub : ∀ b, g.Im b → g'.Im b)
    (hroot : (∀ nn z els, o ≠ .row nn z els) → o ≠ .dead → o ≠ .free → w'.heap[g.β ⟨r, []⟩]? = w.heap[g.β ⟨r, []⟩]? ∧ g'.β ⟨r, []⟩ = g.β ⟨r, []⟩ ∧ g'.C ⟨r, []⟩ = g.C ⟨r, []⟩)
    (hrow : ∀ nn z els p e, o = .row nn z els → rowAt nn els p = some (true, e) → w'.heap[g.β ⟨r, p⟩]? = w.heap[g.β ⟨r, p⟩]? ∧ g'.β ⟨r, p⟩ = g.β ⟨r, p⟩)
    (hrowC : ∀ nn z els p nb e, o = .row nn z els → rowAt nn els p = some (nb, e) → g'.C ⟨r, p⟩ = g.C ⟨r, p⟩)
    (href : ∀ π ∈ plsOb o, g'.β π = g.β π ∧ g'.C π = g.C π) : ObR w' g' r o := by
  cases o with
  | box cs =>
    obtain ⟨cur, t, fr, hb, hf, vs, hv, hk⟩ := h
    obtain ⟨r1, r2, r3⟩ := hroot (by simp) (by simp) (by simp)
    exact ⟨cur, t, fr, by rw [r2, r1]; exact hb, hf, vs, hv.mono him hsub fun π hp => href π (by simpa [plsOb] using hp), hk⟩
  | lit z els =>
    obtain ⟨cur, t, fr, hb, hf, h1, h2, hN, h3, h4, h5⟩ := h
    obtain ⟨r1, r2, r3⟩ := hroot (by simp) (by simp) (by simp)
    refine ⟨cur, t, fr, by rw [r2, r1]; exact hb, hf, by rw [r3]; exact h1, by rw [r3]; exact h2, by rw [r3]; exact hN, h3, h4, fun i e he => ?_⟩
    obtain ⟨vs, hv, hk⟩ := h5 i e he
    exact ⟨vs, hv.mono him hsub fun π hp => href π (by simp only [plsOb]; exact plsLL_mem.2 ⟨e, List.mem_of_getElem? he, hp⟩), hk⟩
  | row nn z els =>
    have h' : RowR w g ⟨r, []⟩ nn z els := h
    refine h'.move ⟨him, hsub, fun p e hp => ?_, fun p e hp => ?_, fun p nb e hp => ?_⟩
    · simpa [Place.app] using (hrow nn z els p e rfl hp).1
    · simpa [Place.app] using (hrow nn z els p e rfl hp).2
    · simpa [Place.app] using hrowC nn z els p nb e rfl hp
  | dead => trivial
  | free => trivial

/-! ### places -/
theorem nthO_lt {α : Type} {h : List α} {r : Nat} {o : α} (e : nthO h r = some o) : r < h.length := by
  rw [nthO_eq] at e
  exact (List.getElem?_eq_some_iff.1 e).1
theorem VP_ok {h : List Ob} {π : Place} (v : VP h π) : OkP h π := by
  unfold VP at v
  unfold OkP
  cases e : nthO h π.root with
  | none => rw [e] at v; exact v
  | some o =>
    rw [e] at v
    cases o with
    | row nn z els => obtain ⟨r, hr⟩ := v; simp only; rw [hr]; rfl
    | _ => first | trivial | exact v
theorem OkP_lt {h : List Ob} {π : Place} (v : OkP h π) : π.root < h.length := by
  unfold OkP at v
  cases e : nthO h π.root with
  | none => rw [e] at v; exact v.elim
  | some o => exact nthO_lt e
theorem VP_lt {h : List Ob} {π : Place} (v : VP h π) : π.root < h.length := OkP_lt (VP_ok v)
theorem VP_root {h : List Ob} {r : Nat} {o : Ob} (e : nthO h r = some o) (hr : ∀ nn z els, o ≠ .row nn z els) (hd : o ≠ .dead) (hf : o ≠ .free) : VP h ⟨r, []⟩ := by
  unfold VP
  simp only [e]
  cases o with
  | dead => exact (hd rfl).elim
  | free => exact (hf rfl).elim
  | row nn z els => exact (hr _ _ _ rfl).elim
  | box cs => trivial
  | lit z els => trivial
theorem VP_row {h : List Ob} {r z : Nat} {nn : Bool} {els e : List (List PV)} {p : List (Nat × Nat)} (ho : nthO h r = some (.row nn z els)) (hp : rowAt nn els p = some (true, e)) : VP h ⟨r, p⟩ := by
  unfold VP
  simp only [ho]
  exact ⟨e, hp⟩
theorem OkP_row {h : List Ob} {r z : Nat} {nn nb : Bool} {els e : List (List PV)} {p : List (Nat × Nat)} (ho : nthO h r = some (.row nn z els)) (hp : rowAt nn els p = some (nb, e)) : OkP h ⟨r, p⟩ := by
  unfold OkP
  simp only [ho]
  rw [hp]
  rfl
theorem OkP_root {h : List Ob} {r : Nat} {o : Ob} (e : nthO h r = some o) (hf : o ≠ .free) : OkP h ⟨r, []⟩ := by
  unfold OkP
  simp only [e]
  cases o with
  | free => exact (hf rfl).elim
  | row nn z els => rfl
  | _ => trivial
/-- Whether a place may be referred to hangs on its root's object alone. -/
theorem VP_congr {h h' : List Ob} {π : Place} (e : nthO h' π.root = nthO h π.root) : VP h' π ↔ VP h π := by unfold VP; rw [e]
theorem OkP_congr {h h' : List Ob} {π : Place} (e : nthO h' π.root = nthO h π.root) : OkP h' π ↔ OkP h π := by unfold OkP; rw [e]

/-! ### a change -/
/-- From a world, ghost and objects to others. -/
structure Chg (Γ : Ctx) (w w' : World) (g g' : G) (h h' : List Ob) : Prop where
  os : w'.os = w.os
  tape : w'.tape = w.tape
  output : w'.output = w.output
  size : w.heap.size ≤ w'.heap.size
  blk : ∀ b, b < w.heap.size → (∀ π, VP h π → g.β π ≠ b) → w'.heap[b]? = w.heap[b]?
  im0 : ∀ b, g.Im b → g'.Im b
  im1 : ∀ b, g'.Im b → g.Im b ∨ (∃ π, VP h π ∧ g.β π = b) ∨ (w.heap.size ≤ b ∧ b < w'.heap.size)
  vp : ∀ π', VP h' π' → (∃ π, VP h π ∧ g.β π = g'.β π') ∨ (w.heap.size ≤ g'.β π' ∧ g'.β π' < w'.heap.size)
  inj : ∀ π1 π2, VP h' π1 → VP h' π2 → g'.β π1 = g'.β π2 → π1 = π2
  dis : ∀ π', VP h' π' → ¬ g'.Im (g'.β π')
  ob : ∀ r o, nthO h' r = some o → ObR w' g' r o
  len : h.length ≤ h'.length
  rt : ∀ r, r < Γ.h0.length → nthO h r ≠ some .free → nthO h' r ≠ some .free ∧ g'.β ⟨r, []⟩ = g.β ⟨r, []⟩ ∧ g'.C ⟨r, []⟩ = g.C ⟨r, []⟩

theorem HOK.imk {Γ : Ctx} {w w' : World} {g g' : G} {h h' : List Ob} (hk : HOK w g h) (c : Chg Γ w w' g g' h h') : ∀ b, g.Im b → w'.heap[b]? = w.heap[b]? :=
  fun b hb => c.blk b (hk.im b hb) fun π v e => hk.dis π v (e ▸ hb)
theorem HOK.chg {Γ : Ctx} {w w' : World} {g g' : G} {h h' : List Ob} (hk : HOK w g h) (c : Chg Γ w w' g g' h h') : HOK w' g' h' := by
  refine ⟨c.ob, c.inj, fun π v => ?_, c.dis, fun b hb => ?_⟩
  · rcases c.vp π v with ⟨π0, v0, e⟩ | ⟨_, h⟩
    · have := hk.lt _ v0
      have := c.size
      omega
    · exact h
  · rcases c.im1 b hb with h | ⟨π, v, rfl⟩ | h
    · have := hk.im b h
      have := c.size
      omega
    · have := hk.lt _ v
      have := c.size
      omega
    · exact h.2
theorem Frm.chg {Γ : Ctx} {w w' : World} {g g' : G} {h h' : List Ob} (hk : HOK w g h) (f : Frm Γ w g h) (c : Chg Γ w w' g g' h h') : Frm Γ w' g' h' := by
  refine ⟨c.os.trans f.os, c.tape.trans f.tape, c.output.trans f.output, Nat.le_trans f.size c.size, fun b hb hn => ?_, fun π v => ?_, fun b hb => c.im0 b (f.im0 b hb), fun b hb => ?_, fun r hr => ?_, fun r hr => (c.rt r hr (f.nofree r hr)).1, Nat.le_trans f.len c.len⟩
  · rw [c.blk b (Nat.lt_of_lt_of_le hb f.size) fun π v e => ?_]
    · exact f.block b hb hn
    · rcases f.vp π v with h | h
      · exact hn (e ▸ h)
      · omega
  · rcases c.vp π v with ⟨π0, v0, e⟩ | ⟨h, _⟩
    · rw [← e]; exact f.vp π0 v0
    · exact .inr (Nat.le_trans f.size h)
  · rcases c.im1 b hb with h | ⟨π, v, rfl⟩ | ⟨h, _⟩
    · exact f.im1 b h
    · exact .inr (f.vp π v)
    · exact .inr (.inr (Nat.le_trans f.size h))
  · obtain ⟨h2, h3⟩ := (c.rt r hr (f.nofree r hr)).2
    obtain ⟨h4, h5⟩ := f.root r hr
    exact ⟨h2.trans h4, h3.trans h5⟩

/-- The temporaries as they were. -/
theorem Sim.chg {Γ : Ctx} {t : List (List TV)} {h h' : List Ob} {tm : Array Value} {w w' : World} {g g' : G} (hs : Sim Γ ⟨t, h⟩ tm w g) (c : Chg Γ w w' g g' h h')
    (hok : ∀ π, OkP h π → OkP h' π ∧ g'.β π = g.β π ∧ g'.C π = g.C π) (hrf : RefH h') : Sim Γ ⟨t, h'⟩ tm w' g' :=
  ⟨fun i => (hs.tmp i).mono (hs.hok.imk c) c.im0 fun π hp => (hok π (hs.refT i π hp)).2, hs.n, hs.hok.chg c, hs.frm.chg hs.hok c, fun i π hp => (hok π (hs.refT i π hp)).1, hrf⟩

/-! ### a new object -/
/-- The ghost with a place of its own for the object r: block b, of n cells. -/
def G.new (g : G) (r b : Nat) (n : Nat × Nat) : G := ⟨fun π => if π.root = r then b else g.β π, fun π => if π.root = r then n else g.C π, g.Im⟩

theorem nthO_append {α : Type} (h : List α) (o : α) (r : Nat) : nthO (h ++ [o]) r = if r = h.length then some o else nthO h r := by
  rw [nthO_eq, nthO_eq]
  rcases Nat.lt_trichotomy r h.length with hl | hl | hl
  · rw [List.getElem?_append_left hl, if_neg (by omega)]
  · subst hl; simp
  · rw [if_neg (by omega), List.getElem?_eq_none (by simp; omega), List.getElem?_eq_none (by omega)]
theorem nthO_setO {α : Type} (h : List α) (i : Nat) (o : α) (r : Nat) : nthO (setO h i o) r = if r = i ∧ i < h.length then some o else nthO h r := by
  rw [setO_eq, nthO_eq, nthO_eq]
  by_cases e : r = i
  · subst e
    by_cases hl : r < h.length
    · rw [if_pos ⟨rfl, hl⟩]; simp [hl]
    · rw [if_neg (fun h => hl h.2), List.getElem?_eq_none (by simp; omega), List.getElem?_eq_none (by omega)]
  · rw [if_neg (fun h => e h.1), List.getElem?_set_ne (by omega)]

/-- Where a new object may go. -/
def SlotOk (sl : Option Nat) (h : List Ob) : Prop := ∀ i, sl = some i → nthO h i = some .free
theorem newI_fresh {sl : Option Nat} {h : List Ob} (hs : SlotOk sl h) (o : Ob) : (∀ r, nthO (newH sl h o) r = if r = newI sl h then some o else nthO h r) ∧ (nthO h (newI sl h) = none ∨ nthO h (newI sl h) = some .free) ∧ h.length ≤ (newH sl h o).length := by
  cases sl with
  | none =>
    refine ⟨fun r => nthO_append h o r, .inl ?_, by simp [newH]⟩
    rw [nthO_eq]
    simp [newI]
  | some i =>
    have h0 := hs i rfl
    have hl := nthO_lt h0
    refine ⟨fun r => ?_, .inr h0, by simp [newH, setO_eq]⟩
    show nthO (setO h i o) r = if r = i then some o else nthO h r
    rw [nthO_setO]
    by_cases e : r = i
    · rw [if_pos ⟨e, hl⟩, if_pos e]
    · rw [if_neg (fun h => e h.1), if_neg e]
theorem fresh_root {h : List Ob} {n : Nat} (hf : nthO h n = none ∨ nthO h n = some .free) {π : Place} (v : OkP h π) : π.root ≠ n := by
  intro e
  unfold OkP at v
  rw [e] at v
  rcases hf with hf | hf <;> rw [hf] at v <;> exact v

/-- A plain object: it has no rows within. -/
def Ob.flat : Ob → Prop
  | .row nn _ els => ∀ p, (rowAt nn els p).isSome → p = []
  | _ => True
theorem VP_flat {h : List Ob} {o : Ob} {π : Place} (e : nthO h π.root = some o) (hf : o.flat) (v : VP h π) : π.path = [] := by
  unfold VP at v
  rw [e] at v
  cases o with
  | row nn z els => obtain ⟨r, hr⟩ := v; exact hf _ (by rw [hr]; rfl)
  | box cs => exact v
  | lit z els => exact v
  | dead => exact v.elim
  | free => exact v.elim

theorem heap_push (w : World) (o : Obj) (b : Nat) (h : b < w.heap.size) : (w.heap.push o)[b]? = w.heap[b]? := by rw [Array.getElem?_push, if_neg (by omega)]

/-- A new block for a new object. -/
theorem Chg.new {Γ : Ctx} {w w' : World} {g : G} {h : List Ob} (hk : HOK w g h) (hr : RefH h) (hl : Γ.h0.length ≤ h.length) {sl : Option Nat} (hsl : SlotOk sl h) (o : Ob) (n : Nat × Nat) (hf : o.flat)
    (hs : w'.heap.size = w.heap.size + 1) (hw : ∀ b, b < w.heap.size → w'.heap[b]? = w.heap[b]?) (h1 : w'.os = w.os) (h2 : w'.tape = w.tape) (h3 : w'.output = w.output)
    (ho : ObR w' (g.new (newI sl h) w.heap.size n) (newI sl h) o) :
    Chg Γ w w' g (g.new (newI sl h) w.heap.size n) h (newH sl h o) ∧ ∀ π, OkP h π → OkP (newH sl h o) π ∧ (g.new (newI sl h) w.heap.size n).β π = g.β π ∧ (g.new (newI sl h) w.heap.size n).C π = g.C π := by
  obtain ⟨hget, hfr, hlen⟩ := newI_fresh hsl o
  have hne : ∀ π, OkP h π → π.root ≠ newI sl h := fun π v => fresh_root hfr v
  have hvp : ∀ π, VP (newH sl h o) π → VP h π ∧ π.root ≠ newI sl h ∨ π = ⟨newI sl h, []⟩ := by
    intro π v
    by_cases e : π.root = newI sl h
    · right
      have h0 := hget π.root
      rw [if_pos e] at h0
      have := VP_flat h0 hf v
      cases π
      simp_all
    · left
      have h0 := hget π.root
      rw [if_neg e] at h0
      exact ⟨(VP_congr h0).1 v, e⟩
  have hok : ∀ π, OkP h π → OkP (newH sl h o) π ∧ (g.new (newI sl h) w.heap.size n).β π = g.β π ∧ (g.new (newI sl h) w.heap.size n).C π = g.C π := by
    intro π v
    have e := hne π v
    have h0 := hget π.root
    rw [if_neg e] at h0
    exact ⟨(OkP_congr h0).2 v, by simp [G.new, e], by simp [G.new, e]⟩
  refine ⟨⟨h1, h2, h3, by omega, fun b hb _ => hw b hb, fun b hb => hb, fun b hb => .inl hb, fun π v => ?_, fun π π' v v' e => ?_, fun π v => ?_, fun r o' e => ?_, hlen, fun r hr0 hnf => ?_⟩, hok⟩
  · rcases hvp π v with ⟨v, e⟩ | rfl
    · exact .inl ⟨π, v, by simp [G.new, e]⟩
    · exact .inr ⟨by simp [G.new], by simp [G.new]; omega⟩
  · rcases hvp π v with ⟨v, e1⟩ | rfl <;> rcases hvp π' v' with ⟨v', e2⟩ | rfl
    · simp only [G.new, if_neg e1, if_neg e2] at e
      exact hk.inj _ _ v v' e
    · have lt := hk.lt _ v
      simp only [G.new, if_neg e1, if_true] at e
      omega
    · have lt := hk.lt _ v'
      simp only [G.new, if_neg e2, if_true] at e
      omega
    · rfl
  · rcases hvp π v with ⟨v, e⟩ | rfl
    · simp only [G.new, if_neg e]
      exact hk.dis _ v
    · simp only [G.new, if_true]
      intro hi
      have := hk.im _ hi
      omega
  · have h0 := hget r
    by_cases er : r = newI sl h
    · rw [if_pos er] at h0
      rw [h0] at e
      cases e
      subst er
      exact ho
    · rw [if_neg er] at h0
      rw [h0] at e
      refine (hk.ob r o' e).keep (fun b hb => hw b (hk.im b hb)) (fun b hb => hb) (fun k1 k2 k3 => ?_) (fun nn z els p e' e2 hp => ?_) (fun nn z els p nb e' e2 hp => ?_) (fun π hp => (hok π (hr r o' e π hp)).2)
      · have v := VP_root e k1 k2 k3
        exact ⟨hw _ (hk.lt _ v), (hok _ (VP_ok v)).2⟩
      · subst e2
        have v := VP_row e hp
        exact ⟨hw _ (hk.lt _ v), (hok _ (VP_ok v)).2.1⟩
      · subst e2
        exact (hok _ (OkP_row e hp)).2.2
  · have h0 := hget r
    by_cases er : r = newI sl h
    · exfalso
      rcases hfr with hfr | hfr
      · rw [← er, nthO_eq, List.getElem?_eq_none_iff] at hfr
        omega
      · rw [← er] at hfr
        exact hnf hfr
    · rw [if_neg er] at h0
      rw [h0]
      exact ⟨hnf, by simp [G.new, er], by simp [G.new, er]⟩

theorem RefH.new {h : List Ob} {sl : Option Nat} {o : Ob} (hsl : SlotOk sl h) (hr : RefH h) (ho : ∀ π ∈ plsOb o, OkP h π) : RefH (newH sl h o) := by
  obtain ⟨hget, hfr, hlen⟩ := newI_fresh hsl o
  have hok : ∀ π, OkP h π → OkP (newH sl h o) π := by
    intro π v
    have h0 := hget π.root
    rw [if_neg (fresh_root hfr v)] at h0
    exact (OkP_congr h0).2 v
  intro r o' e π hp
  rw [hget] at e
  split at e
  · cases e; exact hok π (ho π hp)
  · exact hok π (hr r o' e π hp)

/-- The state with a new object. -/
theorem Sim.new {Γ : Ctx} {s : AS} {tm : Array Value} {w w' : World} {g : G} (hs : Sim Γ s tm w g) {sl : Option Nat} (hsl : SlotOk sl s.h) (o : Ob) (n : Nat × Nat) (hf : o.flat) (hids : ∀ π ∈ plsOb o, OkP s.h π)
    (hsz : w'.heap.size = w.heap.size + 1) (hw : ∀ b, b < w.heap.size → w'.heap[b]? = w.heap[b]?) (h1 : w'.os = w.os) (h2 : w'.tape = w.tape) (h3 : w'.output = w.output)
    (ho : ObR w' (g.new (newI sl s.h) w.heap.size n) (newI sl s.h) o) : Sim Γ ⟨s.t, newH sl s.h o⟩ tm w' (g.new (newI sl s.h) w.heap.size n) := by
  obtain ⟨c, hok⟩ := Chg.new (Γ := Γ) hs.hok hs.refH hs.frm.len hsl o n hf hsz hw h1 h2 h3 ho
  exact Sim.chg (t := s.t) (h := s.h) hs c hok (RefH.new hsl hs.refH hids)

theorem Sim.ev {Γ : Ctx} {s : AS} {a : Act} {w : World} {g : G} (hs : Sim Γ s a.tmps w g) {o : Operand} {x : X} (hx : opX o = some x)
    (hc : ∀ v u, constT v = some u → TR w g u v ∧ plsV u = []) : TR w g (s.ev x) (a.eval o) ∧ RefV s.h (s.ev x) := by
  cases o with
  | tmp t =>
    simp only [opX, Option.some.injEq] at hx
    subst hx
    exact ⟨hs.tmp t, hs.refT t⟩
  | const v =>
    simp only [opX, Option.map_eq_some_iff] at hx
    obtain ⟨u, hu, rfl⟩ := hx
    obtain ⟨h1, h2⟩ := hc v u hu
    exact ⟨h1, fun i hi => by simp only [AS.ev] at hi; rw [h2] at hi; simp at hi⟩
  | func f =>
    simp only [opX, Option.some.injEq] at hx
    subst hx
    exact ⟨.p _ _ (.fn f), fun i hi => by simp [AS.ev, plsV] at hi⟩
  | global g => simp [opX] at hx

end Go.Ab
/- Single operations are sound. -/
set_option linter.unusedVariables false
set_option linter.unusedSimpArgs false
namespace Go.Ab

def stdI : PI → Int
  | .ari op k a b => match op with
    | .add => k.wrap (a + b)
    | .sub => k.wrap (a - b)
    | .mul => k.wrap (a * b)
    | .quo => k.wrap (a.tdiv b)
    | .rem => a.tmod b
    | .and => k.wrap (BitVec.ofInt k.bits a &&& BitVec.ofInt k.bits b).toNat
    | .or => k.wrap (BitVec.ofInt k.bits a ||| BitVec.ofInt k.bits b).toNat
    | .xor => k.wrap (BitVec.ofInt k.bits a ^^^ BitVec.ofInt k.bits b).toNat
    | .andNot => k.wrap (BitVec.ofInt k.bits a &&& ~~~ BitVec.ofInt k.bits b).toNat
    | .shl => k.wrap (a * 2 ^ (min b.toNat k.bits))
    | .shr => a.fdiv (2 ^ (min b.toNat k.bits))
    | _ => 0
  | .conv k a => k.wrap a
  | .len l => l.length
  | .slen l => l.length
def stdB : PB → Bool
  | .cmp op a b => match op with
    | .eql => a == b
    | .neq => a != b
    | .lss => decide (a < b)
    | .leq => decide (a ≤ b)
    | .gtr => decide (a > b)
    | .geq => decide (a ≥ b)
    | _ => false
  | .scmp op a b => match op with
    | .eql => a == b
    | .neq => !(a == b)
    | .lss => Op.bytesLess a b
    | .leq => Op.bytesLess a b || a == b
    | .gtr => !(Op.bytesLess a b || a == b)
    | .geq => !(Op.bytesLess a b)
    | _ => false
  | .not a => !a
  | .eq a b => a == b
  | .and a b => a && b
mutual
/-- Rows that are owned, as data that stay. -/
def frzP : PV → PV
  | .own nn z els => .isl nn z (frzEs els)
  | c => c
def frzC : List PV → List PV
  | [] => []
  | c :: l => frzP c :: frzC l
def frzEs : List (List PV) → List (List PV)
  | [] => []
  | e :: l => frzC e :: frzEs l
end
def stdE : PE → List (List PV)
  | .sub l off len => (l.drop off.toNat).take len.toNat
  | .fsub l off len => frzEs ((l.drop off.toNat).take len.toNat)

theorem kEq_eq {a b : IntKind} (h : kEq a b = true) : a = b := by cases a <;> cases b <;> first | rfl | simp [kEq] at h

theorem const_ok {w : World} {g : G} {v : Value} {u : TV} (h : constT v = some u) : TR w g u v ∧ plsV u = [] := by
  have one : ∀ v u, constV v = some u → IR w g.Im u v := by
    intro v u h
    unfold constV at h
    split at h <;> try (simp at h; done)
    all_goals first
      | (simp only [Option.some.injEq] at h; subst h; constructor; done)
      | (rename_i s
         split at h
         · rename_i hs
           simp only [Option.some.injEq] at h
           subst h
           have := IR.str (w := w) (Im := g.Im) s.data.toList (by simp only [maxLen]; omega)
           simpa using this
         · cases h)
      | (rename_i f a b
         split at h
         · rename_i hs
           simp only [Option.some.injEq] at h
           subst h
           simp only [Bool.and_eq_true, Array.isEmpty_iff] at hs
           obtain ⟨rfl, rfl⟩ := hs
           exact .fn f
         · cases h)
  have many : ∀ (l : List Value) (us : List PV), constL l = some us → TRL w g (plainP us) l ∧ plsL (plainP us) = [] := by
    intro l
    induction l with
    | nil => intro us h; simp only [constL, Option.some.injEq] at h; subst h; exact ⟨.nil, rfl⟩
    | cons a l ih =>
      intro us h
      simp only [constL] at h
      split at h
      · rename_i x y hx hy
        simp only [Option.some.injEq] at h
        subst h
        obtain ⟨h1, h2⟩ := ih y hy
        exact ⟨.cons _ _ _ _ (.p _ _ (one _ _ hx)) h1, by simp [plainP, plsL, plsV, h2]⟩
      · cases h
  unfold constT at h
  split at h
  · rename_i cs
    simp only [Option.map_eq_some_iff] at h
    obtain ⟨us, hu, rfl⟩ := h
    obtain ⟨h1, h2⟩ := many _ _ hu
    refine ⟨?_, by simp [plsV, h2]⟩
    have := TR.agg (plainP us) cs.toList h1
    simpa using this
  · simp only [Option.some.injEq] at h
    subst h
    exact ⟨.un _, rfl⟩
  · simp only [Option.map_eq_some_iff] at h
    obtain ⟨c, hc, rfl⟩ := h
    exact ⟨.p _ _ (one _ _ hc), rfl⟩

theorem Sim.ev' {Γ : Ctx} {s : AS} {a : Act} {w : World} {g : G} (hs : Sim Γ s a.tmps w g) {o : Operand} {x : X} (hx : opX o = some x) : TR w g (s.ev x) (a.eval o) ∧ RefV s.h (s.ev x) :=
  hs.ev hx fun _ _ h => const_ok h

/-- The state when a result is put. -/
theorem Sim.put {Γ : Ctx} {s : AS} {tm : Array Value} {w : World} {g : G} (hs : Sim Γ s tm w g) {d : Nat} (hd : d < Γ.n) {v : TV} {x : Value} (h : TR w g v x) (hr : RefV s.h v) :
    Sim Γ ⟨setT s.t d v, s.h⟩ (tm.setIfInBounds d x) w g := by
  refine ⟨fun i => ?_, by simpa using hs.n, hs.hok, hs.frm, fun i => ?_, hs.refH⟩
  · have hi : (tm.setIfInBounds d x).getD i undef = if d = i then x else tm.getD i undef := by
      simp only [Array.getD_eq_getD_getElem?, Array.getElem?_setIfInBounds]
      by_cases e : d = i
      · subst e; rw [if_pos rfl, if_pos rfl, if_pos (by rw [hs.n]; exact hd)]; rfl
      · rw [if_neg e, if_neg e]
    rw [hi]
    rcases getT_setT s.t d i v with ⟨e, e2⟩ | ⟨e, e2⟩
    · rw [e, if_pos e2]; exact h
    · rw [e]
      by_cases e3 : d = i
      · rcases e2 with e2 | e2
        · exact absurd e3 e2
        · rw [e2]; exact .un _
      · rw [if_neg e3]; exact hs.tmp i
  · show RefV s.h (getT (setT s.t d v) i)
    rcases getT_setT s.t d i v with ⟨e, e2⟩ | ⟨e, e2⟩
    · rw [e]; exact hr
    · rw [e]; exact hs.refT i

/-- A result of an operation, in the state behind it. -/
def SimV (Γ : Ctx) (tm : Array Value) (v : TV) (s : AS) (x : Value) (w : World) (g : G) : Prop := Sim Γ s tm w g ∧ TR w g v x ∧ RefV s.h v

/-- What an operation owes. -/
def OpS (P : Program) (o : Oper) (Γ : Ctx) (tm : Array Value) (a : Act) (w : World) (k kp : TV → AS → Prop) : Prop :=
  ∀ (next : Act → World → Prop) (Q : Exit → Act → World → Prop),
    (∀ v s' x w' g', k v s' → SimV Γ tm v s' x w' g' → next (a.put o.dst x) w') →
    (∀ v s' x w' g', kp v s' → SimV Γ tm v s' x w' g' → Q (.panic [{ v := x, recovered := false }]) a w') → o.wp P a w next Q

/-- An operation's precondition, said of a state. -/
abbrev wpS (LI : PI → Int) (LB : PB → Bool) (LE : PE → List (List PV)) (sl : Option Nat) (o : K) (s : AS) (k kp : TV → AS → Prop) : Prop :=
  wpK LI LB LE sl o s.ev s.h (fun v h => k v ⟨s.t, h⟩) (fun v h => kp v ⟨s.t, h⟩)

theorem OpS.value {P : Program} {o : Oper} {Γ : Ctx} {a : Act} {w w' : World} {k kp : TV → AS → Prop} {v : TV} {s' : AS} {x : Value} {g' : G}
    (hr : (execOp a.eval o).run P w = .ok (.value x) w') (hk : k v s') (hs : SimV Γ a.tmps v s' x w' g') : OpS P o Γ a.tmps a w k kp := by
  intro next Q hn _
  unfold Oper.wp
  rw [hr]
  exact hn v s' x w' g' hk hs
theorem OpS.skip {P : Program} {o : Oper} {Γ : Ctx} {a : Act} {w w' : World} {k kp : TV → AS → Prop} {s' : AS} {g' : G}
    (hr : (execOp a.eval o).run P w = .ok .skip w') (hk : k .un s') (hs : Sim Γ s' a.tmps w' g') : OpS P o Γ a.tmps a w k kp := by
  intro next Q hn _
  unfold Oper.wp
  rw [hr]
  exact hn .un s' undef w' g' hk ⟨hs, .un _, fun i hi => by simp [plsV] at hi⟩

/-! ### cells -/
theorem TRL.length {w : World} {g : G} {cs : List TV} {vs : List Value} (h : TRL w g cs vs) : cs.length = vs.length := by
  induction cs generalizing vs with
  | nil => cases h; rfl
  | cons c cs ih => cases h with | cons v x cs vs h hs => simp [ih hs]
theorem TRL.get {w : World} {g : G} {cs : List TV} {vs : List Value} (h : TRL w g cs vs) {i : Nat} {c : TV} (hc : cs[i]? = some c) : ∃ x, vs[i]? = some x ∧ TR w g c x := by
  induction cs generalizing vs i with
  | nil => simp at hc
  | cons c' cs ih =>
    cases h with
    | cons v x cs vs h hs =>
      cases i with
      | zero => simp at hc; subst hc; exact ⟨x, rfl, h⟩
      | succ i => simpa using ih hs (by simpa using hc)
theorem TRL.drop {w : World} {g : G} {cs : List TV} {vs : List Value} (h : TRL w g cs vs) (n : Nat) : TRL w g (cs.drop n) (vs.drop n) := by
  induction n generalizing cs vs with
  | zero => simpa using h
  | succ n ih => cases h with
    | nil => simpa using TRL.nil
    | cons v x cs vs h hs => simpa using ih hs
theorem TRL.take {w : World} {g : G} {cs : List TV} {vs : List Value} (h : TRL w g cs vs) (n : Nat) : TRL w g (cs.take n) (vs.take n) := by
  induction n generalizing cs vs with
  | zero => simpa using TRL.nil
  | succ n ih => cases h with
    | nil => simpa using TRL.nil
    | cons v x cs vs h hs => simpa using TRL.cons _ _ _ _ h (ih hs)
theorem TRL.set {w : World} {g : G} {cs : List TV} {vs : List Value} (h : TRL w g cs vs) {v : TV} {x : Value} (hv : TR w g v x) (n : Nat) : TRL w g (cs.set n v) (vs.set n x) := by
  induction n generalizing cs vs with
  | zero => cases h with
    | nil => simpa using TRL.nil
    | cons v' x' cs vs h hs => simpa using TRL.cons _ _ _ _ hv hs
  | succ n ih => cases h with
    | nil => simpa using TRL.nil
    | cons v' x' cs vs h hs => simpa using TRL.cons _ _ _ _ h (ih hs)
theorem TRL.append {w : World} {g : G} {cs ds : List TV} {vs us : List Value} (h : TRL w g cs vs) (h' : TRL w g ds us) : TRL w g (cs ++ ds) (vs ++ us) := by
  induction cs generalizing vs with
  | nil => cases h; simpa using h'
  | cons c cs ih => cases h with | cons v x cs vs h hs => simpa using TRL.cons _ _ _ _ h (ih hs)
theorem TRL.of {w : World} {g : G} (cs : List TV) (f : Nat → Value) (h : ∀ i c, cs[i]? = some c → TR w g c (f i)) : TRL w g cs ((List.range cs.length).map f) := by
  induction cs generalizing f with
  | nil => exact .nil
  | cons c cs ih =>
    rw [List.length_cons, List.range_succ_eq_map, List.map_cons, List.map_map]
    exact .cons _ _ _ _ (h 0 c rfl) (ih (f ∘ Nat.succ) fun i c hc => h (i + 1) c (by simpa using hc))

/-- A value's cells. -/
theorem TR.cells {w : World} {g : G} {v : TV} {x : Value} (h : TR w g v x) (hne : v ≠ .un) : TRL w g (cellsOf v) x.cells.toList := by
  cases h with
  | un => exact absurd rfl hne
  | p c x h =>
    have h0 := h
    cases h <;> first
      | exact .cons _ _ _ _ (.p _ _ h0) .nil
      | (rename_i h1
         have : x.cells.toList = [x] := by cases x <;> first | rfl | simp [Value.oneCell'] at h1
         rw [this]
         exact .cons _ _ _ _ (.p _ _ h0) .nil)
  | agg cs vs h => simpa [cellsOf, Value.cells] using h
  | ptr pl z i j => exact .cons _ _ _ _ (.ptr pl z i j) .nil
  | cptr cs j b o vs hI hc hr => exact .cons _ _ _ _ (.cptr cs j b o vs hI hc hr) .nil
  | sl0 pl z => exact .cons _ _ _ _ (.sl0 pl z) .nil
  | sl1 pl z off len cap hl hm hc hN => exact .cons _ _ _ _ (.sl1 pl z off len cap hl hm hc hN) .nil
  | fn f cs vs h => exact .cons _ _ _ _ (.fn f cs vs h) .nil
  | tup cs vs h => exact .cons _ _ _ _ (.tup cs vs h) .nil
  | map id => exact .cons _ _ _ _ (.map id) .nil
  | ifv t v x h => exact .cons _ _ _ _ (.ifv t v x h) .nil

theorem cellsOf_ids {v : TV} {i : Place} (h : i ∈ plsL (cellsOf v)) : i ∈ plsV v := by
  cases v with
  | p c => cases c <;> simp [cellsOf, plsL, plsV] at h
  | agg cs => simpa [cellsOf, plsV] using h
  | _ => first | (simp [cellsOf, plsL] at h; done) | simpa [cellsOf, plsL] using h

theorem oneC_one {w : World} {g : G} {cs : List TV} {vs : List Value} (h : TRL w g cs vs) (h1 : oneC cs = true) : ∀ x ∈ vs, x.oneCell' = true := by
  induction cs generalizing vs with
  | nil => cases h; simp
  | cons c cs ih =>
    cases h with
    | cons v x cs vs h hs =>
      intro y hy
      rcases List.mem_cons.1 hy with rfl | hy
      · cases h with
        | un => simp [oneC] at h1
        | p c x h => cases h <;> first | rfl | assumption | simp [oneC] at h1
        | agg => simp [oneC] at h1
        | tup => simp [oneC] at h1
        | _ => rfl
      · refine ih hs ?_ y hy
        cases c with
        | p c => cases c <;> simp_all [oneC]
        | _ => simp_all [oneC]

theorem ldCells_eq {cs : List TV} {j n : Nat} {b : Bool} {v : TV} (h : ldCells cs j n b = some v) :
    ((cs.drop j).take n).length = n ∧ (if b then v = .agg ((cs.drop j).take n) else n = 1 ∧ cs[j]? = some v) := by
  unfold ldCells at h
  rw [dropN_eq] at h
  split at h
  · rename_i l hl
    obtain ⟨rfl, hn⟩ := takeN_eq hl
    refine ⟨hn, ?_⟩
    cases b with
    | true =>
      simp only [mkV, Option.some.injEq] at h
      subst h
      simp
    | false =>
      simp only [mkV] at h
      split at h
      · rename_i c hc
        simp only [Option.some.injEq] at h
        subst h
        have hn1 : n = 1 := by rw [hc] at hn; simpa using hn.symm
        subst hn1
        refine ⟨rfl, ?_⟩
        have h2 := congrArg (fun l => l[0]?) hc
        simpa using h2
      · cases h
  · cases h

end Go.Ab
/- Single operations are sound: loads, stores and what only computes. -/
set_option linter.unusedVariables false
set_option linter.unusedSimpArgs false
namespace Go.Ab

theorem cell_cells {w : World} {b o : Nat} {cur : Array Value} {t : TypeId} {fr : Nat × Nat} (h : w.heap[b]? = some (.cells cur t fr)) : w.cell? ⟨b, o, none⟩ = cur[o]? := by
  simp [World.cell?, h]
theorem frozen_cells {w : World} {b o : Nat} {cur : Array Value} {t : TypeId} {fr : Nat × Nat} (h : w.heap[b]? = some (.cells cur t fr)) (hf : NF cur.size fr) (ho : o < cur.size) : w.frozen? ⟨b, o, none⟩ = false := by
  have := hf o ho
  simp only [World.frozen?, h]
  simp only [Bool.and_eq_false_iff, decide_eq_false_iff_not]
  omega

theorem run_loadAt {P : Program} {w : World} {t : TypeId} {n b o : Nat} {gg : Bool} (hn : sizeT P t = some n) (hg : aggT P t = some gg) (vs : List Value) (hl : vs.length = n)
    (hc : ∀ j v, vs[j]? = some v → w.cell? ⟨b, o + j, none⟩ = some v) {x : Value} (hx : if gg then x = .agg vs.toArray else vs = [x]) :
    (Instr.loadAt t (.pointer (some ⟨b, o, none⟩))).run P w = .ok x w := by
  have hadd : ∀ j, (⟨b, o, none⟩ : Addr).add j = ⟨b, o + j, none⟩ := fun j => Addr.add_mid b o j
  unfold sizeT at hn
  unfold aggT at hg
  simp only [Option.map_eq_some_iff] at hn hg
  obtain ⟨i, hi, hin⟩ := hn
  obtain ⟨d, hd, hdg⟩ := hg
  have hagg : (isAgg t).run P w = .ok gg w := by
    unfold isAgg
    rw [Sem.run_bind, run_underlying hd w]
    subst hdg
    cases d <;> rfl
  cases gg with
  | true =>
    simp only [if_true] at hx
    subst hx
    have hl2 : (loadCells ⟨b, o, none⟩ vs.length).run P w = .ok vs.toArray w :=
      run_loadCells_list (P := P) w ⟨b, o, none⟩ vs (fun j v hv => by rw [hadd]; exact hc j v hv)
    simp [Instr.loadAt, Instr.sureAddr, loadVar, hagg, sizeOf, typeInfo, hi, hin, ← hl, hl2]
  | false =>
    simp only [Bool.false_eq_true, if_false] at hx
    subst hx
    have h0 := hc 0 x rfl
    simp only [Nat.add_zero] at h0
    simp [Instr.loadAt, Instr.sureAddr, loadVar, hagg, h0]

/-- A load of cells that are told. -/
theorem ld_of {P : Program} {o : Oper} {Γ : Ctx} {s : AS} {a : Act} {w : World} {g : G} (hs : Sim Γ s a.tmps w g) {t : TypeId} {n b off j : Nat} {gg : Bool} {ad : Operand}
    (ho : o.op = .load t ad) (hn : sizeT P t = some n) (hg : aggT P t = some gg) (had : a.eval ad = .pointer (some ⟨b, off + j, none⟩))
    {cs : List TV} {vs : List Value} (hv : TRL w g cs vs) (hc : ∀ k x, vs[k]? = some x → w.cell? ⟨b, off + k, none⟩ = some x) (hr : ∀ i ∈ plsL cs, OkP s.h i)
    {v : TV} (hld : ldCells cs j n gg = some v) {k kp : TV → AS → Prop} (hk : k v s) : OpS P o Γ a.tmps a w k kp := by
  obtain ⟨h1, h2⟩ := ldCells_eq hld
  have hv2 := (hv.drop j).take n
  have hl2 : ((vs.drop j).take n).length = n := by rw [← hv2.length]; exact h1
  have hcc : ∀ i x, ((vs.drop j).take n)[i]? = some x → w.cell? ⟨b, off + j + i, none⟩ = some x := by
    intro i x hx
    have hx' : vs[j + i]? = some x := by
      rw [List.getElem?_take] at hx
      split at hx
      · simpa using hx
      · cases hx
    have := hc (j + i) x hx'
    rwa [← Nat.add_assoc] at this
  have hids : ∀ v ∈ (cs.drop j).take n, ∀ i ∈ plsV v, OkP s.h i := fun v hv i hi => hr i (plsL_mem.2 ⟨v, List.mem_of_mem_drop (List.mem_of_mem_take hv), hi⟩)
  cases gg with
  | true =>
    simp only [if_true] at h2
    subst h2
    refine OpS.value (x := .agg ((vs.drop j).take n).toArray) (w' := w) (g' := g) ?_ hk ⟨hs, .agg _ _ hv2, fun i hi => ?_⟩
    · simp only [execOp, ho, had, Sem.run_bind, run_loadAt hn hg _ hl2 hcc (x := .agg ((vs.drop j).take n).toArray) (by simp)]
      rfl
    · simp only [plsV] at hi
      obtain ⟨u, hu, hiu⟩ := plsL_mem.1 hi
      exact hids u hu i hiu
  | false =>
    simp only [Bool.false_eq_true, if_false] at h2
    obtain ⟨rfl, h3⟩ := h2
    obtain ⟨x, hx, htr⟩ := hv.get h3
    have hone : (vs.drop j).take 1 = [x] := by
      rw [List.take_one]
      simp [hx]
    refine OpS.value (x := x) (w' := w) (g' := g) ?_ hk ⟨hs, htr, fun i hi => hr i (plsL_mem.2 ⟨v, List.mem_of_getElem? h3, hi⟩)⟩
    simp only [execOp, ho, had, Sem.run_bind, run_loadAt hn hg _ hl2 hcc (x := x) (by simp [hone])]
    rfl

theorem plainP_get {cs : List PV} {k : Nat} : (plainP cs)[k]? = (cs[k]?).map .p := by
  induction cs generalizing k with
  | nil => simp [plainP]
  | cons c cs ih => cases k <;> simp [plainP, ih]
theorem plainP_length (cs : List PV) : (plainP cs).length = cs.length := by
  induction cs with
  | nil => rfl
  | cons c cs ih => simp [plainP, ih]
theorem plainP_ids (cs : List PV) : plsL (plainP cs) = [] := by
  induction cs with
  | nil => rfl
  | cons c cs ih => simp [plainP, plsL, plsV, ih]

theorem liftP_length {LI : PI → Int} {pl : Place} {i j : Nat} (cs : List PV) : (liftP LI pl i j cs).length = cs.length := by
  induction cs generalizing j with
  | nil => rfl
  | cons c cs ih => cases c <;> simp [liftP, ih]
theorem liftP_get {LI : PI → Int} {pl : Place} {i j : Nat} {cs : List PV} {k : Nat} {v : TV} (h : (liftP LI pl i j cs)[k]? = some v) :
    ∃ c, cs[k]? = some c ∧ (v = .p c ∧ (∀ nn z els, c ≠ .own nn z els) ∨ ∃ nn z els, c = .own nn z els ∧ v = .sl nn (pl.snoc i (j + k)) z 0 (LI (.len els))) := by
  induction cs generalizing j k with
  | nil => simp [liftP] at h
  | cons c cs ih =>
    cases k with
    | zero =>
      cases c with
      | own nn z els => simp only [liftP, List.getElem?_cons_zero, Option.some.injEq] at h; exact ⟨_, rfl, .inr ⟨nn, z, els, rfl, h.symm⟩⟩
      | _ => simp only [liftP, List.getElem?_cons_zero, Option.some.injEq] at h; exact ⟨_, rfl, .inl ⟨h.symm, by simp⟩⟩
    | succ k =>
      have h' : (liftP LI pl i (j + 1) cs)[k]? = some v := by cases c <;> simpa [liftP] using h
      obtain ⟨c', h1, h2⟩ := ih h'
      refine ⟨c', by simpa using h1, ?_⟩
      rw [show j + (k + 1) = j + 1 + k by omega]
      exact h2

theorem rowAt_snoc {nn nb : Bool} {els r : List (List PV)} {p : List (Nat × Nat)} {i j z : Nat} {nn' : Bool} {els' : List (List PV)} (h : rowAt nn els p = some (nb, r)) (h2 : at2 r i j = some (.own nn' z els')) :
    rowAt nn els (p ++ [(i, j)]) = some (nn', els') := by
  induction p generalizing nn els with
  | nil =>
    simp only [rowAt, Option.some.injEq, Prod.mk.injEq] at h
    obtain ⟨rfl, rfl⟩ := h
    rw [List.nil_append, rowAt_cons, h2]
    rfl
  | cons ij p ih =>
    obtain ⟨a, b⟩ := ij
    rw [rowAt_cons] at h
    rw [List.cons_append, rowAt_cons]
    split at h
    · exact ih h
    · cases h

/-- The row at a place within an owned row. -/
theorem RowR.at_ {w : World} {g : G} {π : Place} {nn nb : Bool} {z : Nat} {els r : List (List PV)} (h : RowR w g π nn z els) {p : List (Nat × Nat)} (hp : rowAt nn els p = some (nb, r)) : ∃ z', RowR w g (π.app p) nb z' r := by
  induction p generalizing π nn z els with
  | nil =>
    simp only [rowAt, Option.some.injEq, Prod.mk.injEq] at hp
    obtain ⟨rfl, rfl⟩ := hp
    rw [Place.app_nil]
    exact ⟨z, h⟩
  | cons ij p ih =>
    obtain ⟨i, j⟩ := ij
    rw [rowAt_cons] at hp
    split at hp
    · rename_i nn' z' e' he
      cases h with
      | nil => simp [at2] at he
      | mk _ _ _ cur t fr vs hb hC hf hz hn hN hp' hc hr =>
        have := hr i j _ he
        generalize vs i j = x at this
        cases this with
        | im _ _ _ h => cases h
        | own0 _ _ hC0 =>
          cases p with
          | nil =>
            simp only [rowAt, Option.some.injEq, Prod.mk.injEq] at hp
            obtain ⟨rfl, rfl⟩ := hp
            exact ⟨z', .nil _ _ hC0⟩
          | cons ij p => obtain ⟨a, b⟩ := ij; simp [rowAt_cons, at2] at hp
        | own1 _ _ _ cap h' hl hm hcap =>
          obtain ⟨z'', h''⟩ := ih h' hp
          rw [Place.snoc_app] at h''
          exact ⟨z'', h''⟩
    · cases hp
/-- Where there are elements there is a block. -/
theorem RowR.some_ {w : World} {g : G} {π : Place} {nn : Bool} {z : Nat} {els : List (List PV)} (h : RowR w g π nn z els) {i : Nat} {cs : List PV} (he : els[i]? = some cs) : nn = true := by
  cases h with
  | nil => simp at he
  | mk => rfl
theorem RowR.cons_ {w : World} {g : G} {π : Place} {nn : Bool} {z : Nat} {els : List (List PV)} (h : RowR w g π nn z els) {i : Nat} {cs : List PV} (he : els[i]? = some cs) : cs.length = z := by
  cases h with
  | nil => simp at he
  | mk _ _ _ cur t fr vs hb hC hf hz hn hN hp hc hr => exact hz cs (List.mem_of_getElem? he)

/-- The cells of an element of an owned row. -/
theorem RowR.cells {w : World} {g : G} {π : Place} {nn : Bool} {z : Nat} {els : List (List PV)} (h : RowR w g π nn z els) {i : Nat} {cs : List PV} (he : els[i]? = some cs) :
    ∃ vs : List Value, TRL w g (liftP stdI π i 0 cs) vs ∧ ∀ k x, vs[k]? = some x → w.cell? ⟨g.β π, i * z + k, none⟩ = some x := by
  cases h with
  | nil => simp at he
  | mk _ _ _ cur t fr vs hb hC hf hz hn hN hp hc hr =>
    have ha : ∀ k, at2 els i k = cs[k]? := fun k => by simp [at2, he]
    refine ⟨(List.range (liftP stdI π i 0 cs).length).map (vs i), TRL.of _ _ fun k v hv => ?_, fun k x hx => ?_⟩
    · obtain ⟨c, hc1, hc2⟩ := liftP_get hv
      have hpr := hr i k c (by rw [ha]; exact hc1)
      rcases hc2 with ⟨rfl, hno⟩ | ⟨nn', z', els', rfl, rfl⟩
      · generalize vs i k = x at hpr
        cases hpr with
        | im _ _ _ h => exact .p _ _ h
        | own0 => exact absurd rfl (hno _ _ _)
        | own1 => exact absurd rfl (hno _ _ _)
      · generalize vs i k = x at hpr
        cases hpr with
        | im _ _ _ h => cases h
        | own0 => exact TR.sl0 _ _
        | own1 _ _ _ cap h' hl hm hcap =>
          have := TR.sl1 (w := w) (g := g) (π.snoc i k) z' 0 els'.length cap hl hm (by simpa using hcap) (by cases h' with | mk _ _ _ _ _ _ _ _ _ _ _ _ hN' => omega)
          simpa [stdI] using this
    · have hk : k < cs.length ∧ x = vs i k := by
        simp only [List.getElem?_map, Option.map_eq_some_iff] at hx
        obtain ⟨m, hm, rfl⟩ := hx
        have := (List.getElem?_eq_some_iff.1 hm)
        obtain ⟨h1, h2⟩ := this
        simp at h1 h2
        subst h2
        rw [liftP_length] at h1
        exact ⟨h1, rfl⟩
      obtain ⟨hk1, rfl⟩ := hk
      rw [cell_cells hb]
      exact hc i k cs[k] (by rw [ha]; simp [hk1])

/-- What lifted cells refer to. -/
theorem lift_ids {LI : PI → Int} {pl : Place} {i : Nat} {nn nb : Bool} {els r : List (List PV)} {cs : List PV} {π : Place} (hr : rowAt nn els pl.path = some (nb, r)) (he : r[i]? = some cs) (h : π ∈ plsL (liftP LI pl i 0 cs)) :
    π.root = pl.root ∧ (rowAt nn els π.path).isSome := by
  obtain ⟨v, hv, hr'⟩ := plsL_mem.1 h
  obtain ⟨k, hk, rfl⟩ := List.getElem_of_mem hv
  obtain ⟨c, hc0, hc⟩ := liftP_get (List.getElem?_eq_getElem hk)
  rcases hc with ⟨e, _⟩ | ⟨nn', z, els', e0, e⟩
  · rw [e] at hr'; simp [plsV] at hr'
  · rw [e] at hr'
    simp only [plsV, List.mem_singleton] at hr'
    subst hr'
    refine ⟨rfl, ?_⟩
    have : at2 r i k = some (.own nn' z els') := by simp [at2, he, hc0, e0]
    have := rowAt_snoc hr this
    simp only [Place.snoc, Nat.zero_add]
    rw [this]
    rfl

theorem ld_sound {P : Program} {o : Oper} {Γ : Ctx} {s : AS} {a : Act} {w : World} {g : G} (hs : Sim Γ s a.tmps w g) {t : TypeId} {n : Nat} {gg : Bool} {ad : Operand} {x : X}
    (ho : o.op = .load t ad) (hn : sizeT P t = some n) (hg : aggT P t = some gg) (hx : opX ad = some x) {sl : Option Nat} {k kp : TV → AS → Prop}
    (h : wpS stdI stdB stdE sl (.ld n gg x) s k kp) : OpS P o Γ a.tmps a w k kp := by
  obtain ⟨hv, hrf⟩ := hs.ev' hx
  simp only [wpS, wpK] at h
  split at h
  · -- data that stay
    rename_i cs j hc
    rw [hc] at hv hrf
    split at h
    · rename_i v hld
      generalize hev : a.eval ad = ax at hv
      cases hv with
      | cptr _ _ b off vs hI hcell hr =>
        refine ld_of hs (b := b) (off := off) (j := j) (cs := plainP cs) (vs := (List.range cs.length).map vs) ho hn hg hev ?_ ?_ (by simp [plainP_ids]) hld h
        · have := TRL.of (w := w) (g := g) (plainP cs) vs fun i c hc => by
            rw [plainP_get] at hc
            simp only [Option.map_eq_some_iff] at hc
            obtain ⟨c', hc', rfl⟩ := hc
            exact .p _ _ (hr i c' hc')
          rwa [plainP_length] at this
        · intro k' y hy
          simp only [List.getElem?_map, Option.map_eq_some_iff] at hy
          obtain ⟨m, hm, rfl⟩ := hy
          obtain ⟨h1, h2⟩ := List.getElem?_eq_some_iff.1 hm
          simp at h1 h2
          subst h2
          exact hcell k' cs[k'] (by simp [h1])
    · exact h.elim
  · rename_i pl z i j hc
    rw [hc] at hv hrf
    generalize hev : a.eval ad = ax at hv
    cases hv with
    | ptr =>
      split at h
      · -- a variable
        rename_i cs hob
        split at h
        · rename_i hi
          split at h
          · rename_i v hld
            obtain ⟨cur, ty, fr, hb, hf, vs, hvs, hk⟩ := hs.hok.ob _ _ hob
            have hpl : (⟨pl.root, []⟩ : Place) = pl := by cases pl; simp_all
            rw [hpl] at hb
            refine ld_of hs (b := g.β pl) (off := 0) (j := j) (cs := cs) (vs := vs) ho hn hg (by rw [hev]; simp) hvs ?_ ?_ hld h
            · intro k' y hy
              rw [cell_cells hb]
              simpa using hk k' y hy
            · intro r hr
              exact hs.refH _ _ hob r (by simpa [plsOb] using hr)
          · exact h.elim
        · exact h.elim
      · -- a literal's elements
        rename_i z' els hob
        split at h
        · rename_i hpath
          split at h
          · rename_i cs hcs
            split at h
            · rename_i hlen
              split at h
              · rename_i v hld
                obtain ⟨cur, ty, fr, hb, hf, hC, hn2, hN, hp, hz, hel⟩ := hs.hok.ob _ _ hob
                rw [nthO_eq] at hcs
                obtain ⟨vs, hvs, hk⟩ := hel i cs hcs
                have hzz : z' = z := by rw [← hz cs (List.mem_of_getElem? hcs)]; exact isLen_eq hlen
                subst hzz
                have hpl : (⟨pl.root, []⟩ : Place) = pl := by cases pl; simp_all
                rw [hpl] at hb
                refine ld_of hs (b := g.β pl) (off := i * z') (j := j) (cs := cs) (vs := vs) ho hn hg hev hvs ?_ ?_ hld h
                · intro k' y hy
                  rw [cell_cells hb]
                  exact hk k' y hy
                · intro r hr
                  refine hs.refH _ _ hob r ?_
                  simp only [plsOb]
                  exact plsLL_mem.2 ⟨cs, List.mem_of_getElem? hcs, hr⟩
              · exact h.elim
            · exact h.elim
          · exact h.elim
        · exact h.elim
      · -- a row
        rename_i nn z' els hob
        obtain ⟨b, r, cs, hr, hcs, h⟩ := h
        split at h
        rename_i hlen
        split at h
        · rename_i v hld
          have hrow : RowR w g ⟨pl.root, []⟩ nn z' els := hs.hok.ob _ _ hob
          obtain ⟨z'', hrow2⟩ := hrow.at_ hr
          have hpl : (⟨pl.root, []⟩ : Place).app pl.path = pl := by cases pl; simp [Place.app]
          rw [hpl] at hrow2
          obtain ⟨vs, hvs, hk⟩ := hrow2.cells hcs
          have hzz : z'' = z := by rw [← hrow2.cons_ hcs]; exact isLen_eq hlen
          subst hzz
          refine ld_of hs (b := g.β pl) (off := i * z'') (j := j) (cs := liftP stdI pl i 0 cs) (vs := vs) ho hn hg hev hvs hk ?_ hld h
          intro π hπ
          obtain ⟨e1, e2⟩ := lift_ids hr hcs hπ
          unfold OkP
          rw [e1, hob]
          exact e2
        · exact h.elim
        · exact h.elim
      · exact h.elim
  · exact h.elim

end Go.Ab
/- Single operations are sound: what only computes. -/
set_option linter.unusedVariables false
set_option linter.unusedSimpArgs false
namespace Go.Ab

section
variable {P : Program} {o : Oper} {Γ : Ctx} {s : AS} {a : Act} {w : World} {g : G} {k kp : TV → AS → Prop} {sl : Option Nat}

theorem OpS.pure_ (hs : Sim Γ s a.tmps w g) {v : TV} {x : Value} (hr : (execOp a.eval o).run P w = .ok (.value x) w) (hk : k v s) (ht : TR w g v x) (hf : RefV s.h v) : OpS P o Γ a.tmps a w k kp :=
  OpS.value hr hk ⟨hs, ht, hf⟩
theorem refP {h : List Ob} {c : PV} : RefV h (.p c) := fun i hi => by simp [plsV] at hi

theorem tr_int {x : Value} {kd : IntKind} {n : Int} (h : TR w g (.p (.int kd n)) x) : x = .int kd n := by
  cases h with | p _ _ h => cases h; rfl
theorem tr_bool {x : Value} {b : Bool} (h : TR w g (.p (.bool b)) x) : x = .bool b := by
  cases h with | p _ _ h => cases h; rfl
theorem tr_str {x : Value} {l : List UInt8} (h : TR w g (.p (.str l)) x) : x = .string ⟨l.toArray⟩ ∧ l.length ≤ maxLen := by
  cases h with | p _ _ h => cases h with | str _ h => exact ⟨rfl, h⟩

theorem mv_sound (hs : Sim Γ s a.tmps w g) {y : Operand} {x : X} (ho : o.op = .move y ∨ o.op = .assign y) (hx : opX y = some x) (h : wpS stdI stdB stdE sl (.mv x) s k kp) : OpS P o Γ a.tmps a w k kp := by
  obtain ⟨hv, hf⟩ := hs.ev' hx
  refine OpS.pure_ hs (x := a.eval y) ?_ h hv hf
  rcases ho with ho | ho <;> simp [execOp, ho]

theorem pick_sound (hs : Sim Γ s a.tmps w g) {y1 y2 y3 : Operand} {x1 x2 x3 : X} (ho : o.op = .pick y1 y2 y3) (h1 : opX y1 = some x1) (h2 : opX y2 = some x2) (h3 : opX y3 = some x3)
    (h : wpS stdI stdB stdE sl (.pick x1 x2 x3) s k kp) : OpS P o Γ a.tmps a w k kp := by
  obtain ⟨hv1, _⟩ := hs.ev' h1
  obtain ⟨hv2, hf2⟩ := hs.ev' h2
  obtain ⟨hv3, hf3⟩ := hs.ev' h3
  simp only [wpS, wpK] at h
  split at h
  · rename_i v hc
    rw [hc] at hv1
    have e := tr_bool hv1
    split at h
    · refine OpS.pure_ hs (x := a.eval y2) ?_ h hv2 hf2
      simp [execOp, ho, e, asBool]
    · refine OpS.pure_ hs (x := a.eval y3) ?_ h hv3 hf3
      simp [execOp, ho, e, asBool]
  · exact h.elim

theorem run_bin_int {t : TypeId} {op : BinOp} {y1 y2 : Operand} {k1 k2 : IntKind} {m n : Int} {u : TypeId} (ho : o.op = .binOp op t y1 y2 u) (e1 : a.eval y1 = .int k1 m) (e2 : a.eval y2 = .int k2 n) :
    (execOp a.eval o).run P w = ((binOp op t (.int k1 m) (.int k2 n)).run P w).andThen fun x w' => .ok (.value x) w' := by
  have hg : (eqGuard op t y1 y2 (.int k1 m) (.int k2 n)).run P w = .ok () w := by
    unfold eqGuard
    cases op <;> rfl
  simp only [execOp, ho, e1, e2, Sem.run_bind, hg, Result.andThen_ok]
  rfl

theorem cmp_sound (hs : Sim Γ s a.tmps w g) {t u : TypeId} {op : BinOp} {y1 y2 : Operand} {x1 x2 : X} (ho : o.op = .binOp op t y1 y2 u) (h1 : opX y1 = some x1) (h2 : opX y2 = some x2)
    (hop : op = .eql ∨ op = .neq ∨ op = .lss ∨ op = .leq ∨ op = .gtr ∨ op = .geq)
    (h : wpS stdI stdB stdE sl (.cmp op x1 x2) s k kp) : OpS P o Γ a.tmps a w k kp := by
  obtain ⟨hv1, _⟩ := hs.ev' h1
  obtain ⟨hv2, _⟩ := hs.ev' h2
  simp only [wpS, wpK] at h
  split at h
  · rename_i k1 m k2 n hc1 hc2
    rw [hc1] at hv1
    rw [hc2] at hv2
    have e1 := tr_int hv1
    have e2 := tr_int hv2
    split at h
    · rename_i hk
      have := kEq_eq hk
      subst this
      refine OpS.pure_ hs (x := .bool (stdB (.cmp op m n))) ?_ h (.p _ _ (.bool _)) refP
      rw [run_bin_int ho e1 e2]
      rcases hop with rfl | rfl | rfl | rfl | rfl | rfl <;> simp [binOp, Op.intCmp, stdB]
    · exact h.elim
  · exact h.elim

theorem ari_sound (hs : Sim Γ s a.tmps w g) {t u : TypeId} {op : BinOp} {kd : IntKind} {y1 y2 : Operand} {x1 x2 : X} (ho : o.op = .binOp op t y1 y2 u) (h1 : opX y1 = some x1) (h2 : opX y2 = some x2)
    (hop : ¬ (op = .eql ∨ op = .neq ∨ op = .lss ∨ op = .leq ∨ op = .gtr ∨ op = .geq))
    (h : wpS stdI stdB stdE sl (.ari op kd x1 x2) s k kp) : OpS P o Γ a.tmps a w k kp := by
  obtain ⟨hv1, _⟩ := hs.ev' h1
  obtain ⟨hv2, _⟩ := hs.ev' h2
  simp only [wpS, wpK] at h
  split at h
  · rename_i k1 m k2 n hc1 hc2
    rw [hc1] at hv1
    rw [hc2] at hv2
    have e1 := tr_int hv1
    have e2 := tr_int hv2
    have main : ∀ (hq : k (.p (.int kd (stdI (.ari op kd m n)))) s) (hrun : (binOp op t (.int k1 m) (.int k2 n)).run P w = .ok (.int kd (stdI (.ari op kd m n))) w), OpS P o Γ a.tmps a w k kp := by
      intro hq hrun
      refine OpS.pure_ hs (x := .int kd (stdI (.ari op kd m n))) ?_ hq (.p _ _ (.int _ _)) refP
      rw [run_bin_int ho e1 e2, hrun]
      rfl
    cases op with
    | shl =>
      simp only at h
      split at h
      · rename_i hk
        have := kEq_eq hk
        subst this
        refine h _ fun hb hq => main hq ?_
        simp [binOp, Op.shift, stdI, show ¬ n < 0 by omega]
      · exact h.elim
    | shr =>
      simp only at h
      split at h
      · rename_i hk
        have := kEq_eq hk
        subst this
        refine h _ fun hb hq => main hq ?_
        simp [binOp, Op.shift, stdI, show ¬ n < 0 by omega]
      · exact h.elim
    | quo =>
      simp only at h
      split at h
      · rename_i hk hk2
        have := kEq_eq hk
        subst this
        have := kEq_eq hk2
        subst this
        refine h _ fun hb hq => main hq ?_
        simp [binOp, Op.intDiv, stdI, hb]
      · exact h.elim
    | rem =>
      simp only at h
      split at h
      · rename_i hk hk2
        have := kEq_eq hk
        subst this
        have := kEq_eq hk2
        subst this
        refine h _ fun hb hq => main hq ?_
        simp [binOp, Op.intDiv, stdI, hb]
      · exact h.elim
    | eql => simp at hop
    | neq => simp at hop
    | lss => simp at hop
    | leq => simp at hop
    | gtr => simp at hop
    | geq => simp at hop
    | _ =>
      simp only at h
      split at h
      · rename_i hk hk2
        have := kEq_eq hk
        subst this
        have := kEq_eq hk2
        subst this
        refine main h ?_
        simp [binOp, Op.intArith, Op.intBits, stdI]
      · exact h.elim
  · exact h.elim

theorem neg_sound (hs : Sim Γ s a.tmps w g) {t : TypeId} {kd : IntKind} {y : Operand} {x : X} (ho : o.op = .unOp .neg t y) (h1 : opX y = some x)
    (h : wpS stdI stdB stdE sl (.ari .sub kd (.c (.p (.int kd 0))) x) s k kp) : OpS P o Γ a.tmps a w k kp := by
  obtain ⟨hv1, _⟩ := hs.ev' h1
  simp only [wpS, wpK, AS.ev] at h
  split at h
  · rename_i k1 m k2 n hc1 hc2
    simp only [TV.p.injEq, PV.int.injEq] at hc1
    obtain ⟨rfl, rfl⟩ := hc1
    have hc2' : s.ev x = .p (.int k2 n) := hc2
    rw [hc2'] at hv1
    have e1 := tr_int hv1
    split at h
    · rename_i hk hk2
      have := kEq_eq hk2
      subst this
      refine OpS.pure_ hs (x := .int k2 (stdI (.ari .sub k2 0 n))) ?_ h (.p _ _ (.int _ _)) refP
      simp [execOp, ho, e1, Op.unary, Op.intArith, stdI]
    · exact h.elim
  · exact h.elim

theorem not_sound (hs : Sim Γ s a.tmps w g) {t : TypeId} {y : Operand} {x : X} (ho : o.op = .unOp .not t y) (h1 : opX y = some x)
    (h : wpS stdI stdB stdE sl (.not x) s k kp) : OpS P o Γ a.tmps a w k kp := by
  obtain ⟨hv1, _⟩ := hs.ev' h1
  simp only [wpS, wpK] at h
  split at h
  · rename_i b hc
    rw [hc] at hv1
    have e1 := tr_bool hv1
    refine OpS.pure_ hs (x := .bool (stdB (.not b))) ?_ h (.p _ _ (.bool _)) refP
    simp [execOp, ho, e1, Op.unary, stdB]
  · exact h.elim

theorem conv_sound (hs : Sim Γ s a.tmps w g) {t u : TypeId} {kd q : IntKind} {y : Operand} {x : X} (ho : o.op = .convert t u y) (h1 : opX y = some x) (ht : P.underlying t = some (.int q)) (hu : P.underlying u = some (.int kd))
    (h : wpS stdI stdB stdE sl (.conv kd x) s k kp) : OpS P o Γ a.tmps a w k kp := by
  obtain ⟨hv1, _⟩ := hs.ev' h1
  simp only [wpS, wpK] at h
  split at h
  · rename_i k1 m hc
    rw [hc] at hv1
    have e1 := tr_int hv1
    refine OpS.pure_ hs (x := .int kd (stdI (.conv kd m))) ?_ h (.p _ _ (.int _ _)) refP
    simp [execOp, ho, e1, convert, run_underlying ht, run_underlying hu, Conv.intToInt, stdI]
  · exact h.elim

theorem beq_sound (hs : Sim Γ s a.tmps w g) {t u : TypeId} {op : BinOp} {ne : Bool} {y1 y2 : Operand} {x1 x2 : X} (ho : o.op = .binOp op t y1 y2 u) (h1 : opX y1 = some x1) (h2 : opX y2 = some x2)
    (ht : P.underlying t = some .bool) (hop : op = .eql ∧ ne = false ∨ op = .neq ∧ ne = true)
    (h : wpS stdI stdB stdE sl (.beq ne x1 x2) s k kp) : OpS P o Γ a.tmps a w k kp := by
  obtain ⟨hv1, _⟩ := hs.ev' h1
  obtain ⟨hv2, _⟩ := hs.ev' h2
  simp only [wpS, wpK] at h
  split at h
  · rename_i m n hc1 hc2
    rw [hc1] at hv1
    rw [hc2] at hv2
    have e1 := tr_bool hv1
    have e2 := tr_bool hv2
    have hg : (eqGuard op t y1 y2 (.bool m) (.bool n)).run P w = .ok () w := by
      unfold eqGuard
      cases op <;> rfl
    have he : (Op.equal t (.bool m) (.bool n)).run P w = .ok (m == n) w := by
      have : ∀ d, (Op.equalIn (d + 1) t (.bool m) (.bool n)).run P w = .ok (m == n) w := fun d => by simp [Op.equalIn, run_underlying ht]
      exact this 9999
    rcases hop with ⟨rfl, rfl⟩ | ⟨rfl, rfl⟩
    · refine OpS.pure_ hs (x := .bool (stdB (.eq m n))) ?_ h (.p _ _ (.bool _)) refP
      simp only [execOp, ho, e1, e2, Sem.run_bind, hg, Result.andThen_ok, binOp, he, stdB]
      rfl
    · refine OpS.pure_ hs (x := .bool (stdB (.not (stdB (.eq m n))))) ?_ h (.p _ _ (.bool _)) refP
      simp only [execOp, ho, e1, e2, Sem.run_bind, hg, Result.andThen_ok, binOp, he, stdB]
      rfl
  · exact h.elim

theorem scmp_sound (hs : Sim Γ s a.tmps w g) {t u : TypeId} {op : BinOp} {y1 y2 : Operand} {x1 x2 : X} (ho : o.op = .binOp op t y1 y2 u) (h1 : opX y1 = some x1) (h2 : opX y2 = some x2)
    (hop : op = .eql ∨ op = .neq ∨ op = .lss ∨ op = .leq ∨ op = .gtr ∨ op = .geq)
    (h : wpS stdI stdB stdE sl (.scmp op x1 x2) s k kp) : OpS P o Γ a.tmps a w k kp := by
  obtain ⟨hv1, _⟩ := hs.ev' h1
  obtain ⟨hv2, _⟩ := hs.ev' h2
  simp only [wpS, wpK] at h
  split at h
  · rename_i m n hc1 hc2
    rw [hc1] at hv1
    rw [hc2] at hv2
    obtain ⟨e1, _⟩ := tr_str hv1
    obtain ⟨e2, _⟩ := tr_str hv2
    refine OpS.pure_ hs (x := .bool (stdB (.scmp op m n))) ?_ h (.p _ _ (.bool _)) refP
    have hg : (eqGuard op t y1 y2 (.string ⟨m.toArray⟩) (.string ⟨n.toArray⟩)).run P w = .ok () w := by
      unfold eqGuard
      cases op <;> rfl
    have hl : ∀ l : List UInt8, (⟨l.toArray⟩ : ByteArray).toList = l := by
      intro l
      rw [ByteArray.toList_eq]
    rcases hop with rfl | rfl | rfl | rfl | rfl | rfl <;> simp [execOp, ho, e1, e2, hg, binOp, Op.stringOp, stdB, hl]
  · exact h.elim
end

end Go.Ab
/- Single operations are sound: nil, fields, elements, strings. -/
set_option linter.unusedVariables false
set_option linter.unusedSimpArgs false
namespace Go.Ab

section
variable {P : Program} {o : Oper} {Γ : Ctx} {s : AS} {a : Act} {w : World} {g : G} {k kp : TV → AS → Prop} {sl : Option Nat}

theorem cat_sound (hs : Sim Γ s a.tmps w g) {t u : TypeId} {y1 y2 : Operand} {x1 x2 : X} (ho : o.op = .binOp .add t y1 y2 u) (h1 : opX y1 = some x1) (h2 : opX y2 = some x2)
    (h : wpS stdI stdB stdE sl (.cat x1 x2) s k kp) : OpS P o Γ a.tmps a w k kp := by
  obtain ⟨hv1, _⟩ := hs.ev' h1
  obtain ⟨hv2, _⟩ := hs.ev' h2
  simp only [wpS, wpK] at h
  split at h
  · rename_i m n hc1 hc2
    rw [hc1] at hv1
    rw [hc2] at hv2
    obtain ⟨e1, _⟩ := tr_str hv1
    obtain ⟨e2, _⟩ := tr_str hv2
    refine h _ fun hl hq => ?_
    refine OpS.pure_ hs (x := .string ⟨(m ++ n).toArray⟩) ?_ hq (.p _ _ (.str _ (by simp only [maxLen, List.length_append]; omega))) refP
    have hg : (eqGuard .add t y1 y2 (.string ⟨m.toArray⟩) (.string ⟨n.toArray⟩)).run P w = .ok () w := rfl
    have hz : ∀ l : List UInt8, (⟨l.toArray⟩ : ByteArray).size = l.length := fun l => by simp [ByteArray.size]
    have hcat : (⟨m.toArray⟩ : ByteArray) ++ ⟨n.toArray⟩ = ⟨(m ++ n).toArray⟩ := by
      apply WideShapes.bytes_inj
      simp [ByteArray.data_append]
    have hlt : ¬ (((m.length + n.length : Nat) : Int) > IntKind.i64.max) := by
      simp only [IntKind.max, IntKind.signed, IntKind.bits]
      simp
      omega
    simp only [execOp, ho, e1, e2, Sem.run_bind, hg, Result.andThen_ok, binOp, Op.stringOp, hz, if_neg hlt, hcat]
    rfl
  · exact h.elim

theorem run_nil_eq (t : TypeId) {kd : Nat} {d : TypeDesc} (hd : P.underlying t = some d) (hk : nilKind d = some kd) (x y : Value)
    (hx : (kd = 0 ∧ ((∃ a l c, x = .slice a l c) ∧ y = .slice none 0 0 ∨ x = .slice none 0 0 ∧ ∃ a l c, y = .slice a l c)) ∨
      (kd = 1 ∧ ((∃ a, x = .pointer a) ∧ y = .pointer none ∨ x = .pointer none ∧ ∃ a, y = .pointer a)) ∨
      (kd = 2 ∧ ((x = .nilFunc ∨ ∃ f a b, x = .func f a b) ∧ y = .nilFunc ∨ x = .nilFunc ∧ (y = .nilFunc ∨ ∃ f a b, y = .func f a b)))) :
    (Op.equal t x y).run P w = .ok (match x, y with
      | .slice a _ _, .slice b _ _ => a.isNone && b.isNone
      | .pointer a, .pointer b => a.isNone && b.isNone
      | .nilFunc, .nilFunc => true
      | _, _ => false) w := by
  have key : ∀ n, (Op.equalIn (n + 1) t x y).run P w = .ok (match x, y with
      | .slice a _ _, .slice b _ _ => a.isNone && b.isNone
      | .pointer a, .pointer b => a.isNone && b.isNone
      | .nilFunc, .nilFunc => true
      | _, _ => false) w := by
    intro n
    rcases hx with ⟨rfl, hx⟩ | ⟨rfl, hx⟩ | ⟨rfl, hx⟩
    · cases d <;> simp [nilKind] at hk
      rcases hx with ⟨⟨a, l, c, rfl⟩, rfl⟩ | ⟨rfl, a, l, c, rfl⟩ <;> cases a <;> simp [Op.equalIn, run_underlying hd]
    · cases d <;> simp [nilKind] at hk
      rcases hx with ⟨⟨a, rfl⟩, rfl⟩ | ⟨rfl, a, rfl⟩ <;> cases a <;> simp [Op.equalIn, run_underlying hd]
    · cases d <;> simp [nilKind] at hk
      rcases hx with ⟨rfl | ⟨f, a, b, rfl⟩, rfl⟩ | ⟨rfl, rfl | ⟨f, a, b, rfl⟩⟩ <;> simp [Op.equalIn, run_underlying hd]
  exact key 9999

theorem isNilK_eq {kd : Nat} {y : Operand} (h : isNilK kd y = true) : ∃ v, y = .const v ∧ (kd = 0 ∧ v = .slice none 0 0 ∨ kd = 1 ∧ v = .pointer none ∨ kd = 2 ∧ v = .nilFunc) := by
  unfold isNilK at h
  split at h <;> simp_all

theorem eqnil_sound (hs : Sim Γ s a.tmps w g) {t u : TypeId} {op : BinOp} {ne : Bool} {kd : Nat} {d : TypeDesc} {y1 y2 : Operand} {x : X} (ho : o.op = .binOp op t y1 y2 u)
    (hd : P.underlying t = some d) (hk : nilKind d = some kd) (hop : op = .eql ∧ ne = false ∨ op = .neq ∧ ne = true)
    (hy : (isNilK kd y2 = true ∧ opX y1 = some x) ∨ (isNilK kd y1 = true ∧ opX y2 = some x))
    (h : wpS stdI stdB stdE sl (.eqnil kd ne x) s k kp) : OpS P o Γ a.tmps a w k kp := by
  -- the value that is asked, and what the answer is
  have main : ∀ (z : Operand) (hz : opX z = some x) (b : Bool), (match a.eval z with | .slice q _ _ => q.isNone | .pointer q => q.isNone | .nilFunc => true | _ => false) = b →
      ((kd = 0 ∧ ∃ q l c, a.eval z = .slice q l c) ∨ (kd = 1 ∧ ∃ q, a.eval z = .pointer q) ∨ (kd = 2 ∧ (a.eval z = .nilFunc ∨ ∃ f q r, a.eval z = .func f q r))) →
      k (.p (.bool (if ne then !b else b))) s → ((z = y1 ∧ isNilK kd y2 = true) ∨ (z = y2 ∧ isNilK kd y1 = true)) → OpS P o Γ a.tmps a w k kp := by
    intro z hz b hb hform hq hside
    refine OpS.pure_ hs (x := .bool (if ne then !b else b)) ?_ hq (.p _ _ (.bool _)) refP
    have hg : ∀ x y, ((kd = 0 ∧ ∃ q l c, x = .slice q l c) ∨ (kd = 1 ∧ ∃ q, x = .pointer q) ∨ (kd = 2 ∧ (x = .nilFunc ∨ ∃ f q r, x = .func f q r))) → (eqGuard op t y1 y2 x y).run P w = .ok () w := by
      intro x y hx
      unfold eqGuard
      rcases hop with ⟨rfl, _⟩ | ⟨rfl, _⟩ <;> rcases hx with ⟨_, q, l, c, rfl⟩ | ⟨_, q, rfl⟩ | ⟨_, rfl | ⟨f, q, r, rfl⟩⟩ <;> rfl
    have hbin : ∀ x y (r : Bool), (Op.equal t x y).run P w = .ok r w → ((∃ q l c, x = .slice q l c) ∨ (∃ q, x = .pointer q) ∨ x = .nilFunc ∨ ∃ f q r, x = .func f q r) →
        ((∃ q l c, y = .slice q l c) ∨ (∃ q, y = .pointer q) ∨ y = .nilFunc ∨ ∃ f q r, y = .func f q r) →
        (binOp op t x y).run P w = .ok (.bool (if ne then !r else r)) w := by
      intro x y r hr hx hy
      rcases hop with ⟨rfl, rfl⟩ | ⟨rfl, rfl⟩ <;> rcases hx with ⟨q, l, c, rfl⟩ | ⟨q, rfl⟩ | rfl | ⟨f, q, r, rfl⟩ <;> rcases hy with ⟨q', l', c', rfl⟩ | ⟨q', rfl⟩ | rfl | ⟨f', q', r', rfl⟩ <;>
        simp [binOp, hr]
    rcases hside with ⟨rfl, hn⟩ | ⟨rfl, hn⟩
    · obtain ⟨v, rfl, hv⟩ := isNilK_eq hn
      have hev : a.eval (.const v) = v := rfl
      simp only [execOp, ho, hev, Sem.run_bind, hg _ v hform, Result.andThen_ok]
      rcases hform with ⟨rfl, q, l, c, e⟩ | ⟨rfl, q, e⟩ | ⟨rfl, e⟩
      · simp at hv; subst hv
        rw [e] at hb ⊢
        rw [hbin _ _ b (by rw [run_nil_eq t hd hk _ _ (.inl ⟨rfl, .inl ⟨⟨q, l, c, rfl⟩, rfl⟩⟩)]; simpa using hb) (.inl ⟨q, l, c, rfl⟩) (.inl ⟨none, 0, 0, rfl⟩)]
        rfl
      · simp at hv; subst hv
        rw [e] at hb ⊢
        rw [hbin _ _ b (by rw [run_nil_eq t hd hk _ _ (.inr (.inl ⟨rfl, .inl ⟨⟨q, rfl⟩, rfl⟩⟩))]; simpa using hb) (.inr (.inl ⟨q, rfl⟩)) (.inr (.inl ⟨none, rfl⟩))]
        rfl
      · simp at hv; subst hv
        rcases e with e | ⟨f, q, r, e⟩
        · rw [e] at hb ⊢
          rw [hbin _ _ b (by rw [run_nil_eq t hd hk _ _ (.inr (.inr ⟨rfl, .inl ⟨.inl rfl, rfl⟩⟩))]; simpa using hb) (.inr (.inr (.inl rfl))) (.inr (.inr (.inl rfl)))]
          rfl
        · rw [e] at hb ⊢
          rw [hbin _ _ b (by rw [run_nil_eq t hd hk _ _ (.inr (.inr ⟨rfl, .inl ⟨.inr ⟨f, q, r, rfl⟩, rfl⟩⟩))]; simpa using hb) (.inr (.inr (.inr ⟨f, q, r, rfl⟩))) (.inr (.inr (.inl rfl)))]
          rfl
    · obtain ⟨v, rfl, hv⟩ := isNilK_eq hn
      have hev : a.eval (.const v) = v := rfl
      have hg' : (eqGuard op t (.const v) z v (a.eval z)).run P w = .ok () w := by
        unfold eqGuard
        rcases hop with ⟨rfl, _⟩ | ⟨rfl, _⟩ <;> rcases hv with ⟨_, rfl⟩ | ⟨_, rfl⟩ | ⟨_, rfl⟩ <;> rfl
      simp only [execOp, ho, hev, Sem.run_bind, hg', Result.andThen_ok]
      rcases hform with ⟨rfl, q, l, c, e⟩ | ⟨rfl, q, e⟩ | ⟨rfl, e⟩
      · simp at hv; subst hv
        rw [e] at hb ⊢
        rw [hbin _ _ b (by rw [run_nil_eq t hd hk _ _ (.inl ⟨rfl, .inr ⟨rfl, q, l, c, rfl⟩⟩)]; simpa using hb) (.inl ⟨none, 0, 0, rfl⟩) (.inl ⟨q, l, c, rfl⟩)]
        rfl
      · simp at hv; subst hv
        rw [e] at hb ⊢
        rw [hbin _ _ b (by rw [run_nil_eq t hd hk _ _ (.inr (.inl ⟨rfl, .inr ⟨rfl, q, rfl⟩⟩))]; simpa using hb) (.inr (.inl ⟨none, rfl⟩)) (.inr (.inl ⟨q, rfl⟩))]
        rfl
      · simp at hv; subst hv
        rcases e with e | ⟨f, q, r, e⟩
        · rw [e] at hb ⊢
          rw [hbin _ _ b (by rw [run_nil_eq t hd hk _ _ (.inr (.inr ⟨rfl, .inr ⟨rfl, .inl rfl⟩⟩))]; simpa using hb) (.inr (.inr (.inl rfl))) (.inr (.inr (.inl rfl)))]
          rfl
        · rw [e] at hb ⊢
          rw [hbin _ _ b (by rw [run_nil_eq t hd hk _ _ (.inr (.inr ⟨rfl, .inr ⟨rfl, .inr ⟨f, q, r, rfl⟩⟩⟩))]; simpa using hb) (.inr (.inr (.inl rfl))) (.inr (.inr (.inr ⟨f, q, r, rfl⟩)))]
          rfl
  obtain ⟨z, hz, hside⟩ : ∃ z, opX z = some x ∧ ((z = y1 ∧ isNilK kd y2 = true) ∨ (z = y2 ∧ isNilK kd y1 = true)) := by
    rcases hy with ⟨hn, hx⟩ | ⟨hn, hx⟩
    · exact ⟨y1, hx, .inl ⟨rfl, hn⟩⟩
    · exact ⟨y2, hx, .inr ⟨rfl, hn⟩⟩
  obtain ⟨hv, _⟩ := hs.ev' hz
  simp only [wpS, wpK] at h
  generalize hev : a.eval z = ax at hv
  split at h
  · rename_i nn zz els hc
    rw [hc] at hv
    cases hv with | p _ _ hv =>
    cases hv with
    | isl0 => exact main z hz true (by rw [hev]; rfl) (.inl ⟨rfl, _, _, _, hev⟩) (by cases ne <;> simpa [stdB] using h) hside
    | isl1 => exact main z hz false (by rw [hev]; rfl) (.inl ⟨rfl, _, _, _, hev⟩) (by cases ne <;> simpa [stdB] using h) hside
  · rename_i hc
    rw [hc] at hv
    cases hv with
    | sl0 => exact main z hz true (by rw [hev]; rfl) (.inl ⟨rfl, _, _, _, hev⟩) (by cases ne <;> simpa [stdB] using h) hside
    | sl1 => exact main z hz false (by rw [hev]; rfl) (.inl ⟨rfl, _, _, _, hev⟩) (by cases ne <;> simpa [stdB] using h) hside
  · rename_i hc
    rw [hc] at hv
    cases hv
    exact main z hz false (by rw [hev]; rfl) (.inr (.inl ⟨rfl, _, hev⟩)) (by cases ne <;> simpa using h) hside
  · rename_i hc
    rw [hc] at hv
    cases hv
    exact main z hz false (by rw [hev]; rfl) (.inr (.inl ⟨rfl, _, hev⟩)) (by cases ne <;> simpa using h) hside
  · rename_i hc
    rw [hc] at hv
    cases hv with | p _ _ hv =>
    cases hv
    exact main z hz true (by rw [hev]; rfl) (.inr (.inl ⟨rfl, _, hev⟩)) (by cases ne <;> simpa using h) hside
  · rename_i hc
    rw [hc] at hv
    cases hv
    exact main z hz false (by rw [hev]) (.inr (.inr ⟨rfl, .inr ⟨_, _, _, hev⟩⟩)) (by cases ne <;> simpa using h) hside
  · rename_i hc
    rw [hc] at hv
    cases hv with | p _ _ hv =>
    cases hv
    exact main z hz false (by rw [hev]) (.inr (.inr ⟨rfl, .inr ⟨_, _, _, hev⟩⟩)) (by cases ne <;> simpa using h) hside
  · rename_i hc
    rw [hc] at hv
    cases hv with | p _ _ hv =>
    cases hv
    exact main z hz true (by rw [hev]) (.inr (.inr ⟨rfl, .inl hev⟩)) (by cases ne <;> simpa using h) hside
  · exact h.elim
/-! ### whether structs are the same -/
theorem eqCells_app : ∀ {p1 p2 : List (Nat × Nat)} {cs ds : List TV} {r : Bool}, eqCells stdB (p1 ++ p2) cs ds = some r → ∃ r1 r2, eqCells stdB p1 cs ds = some r1 ∧ eqCells stdB p2 cs ds = some r2 ∧ r = (r1 && r2)
  | [], p2, cs, ds, r, h => ⟨true, r, rfl, h, rfl⟩
  | (j, kd) :: p1, p2, cs, ds, r, h => by
    simp only [List.cons_append, eqCells] at h
    split at h
    · rename_i q k1 a k2 b e1 e2 e3
      obtain ⟨r1, r2, f1, f2, rfl⟩ := eqCells_app e1
      split at h
      · rename_i hk
        simp only [Option.some.injEq] at h
        subst h
        exact ⟨stdB (.and (stdB (.cmp .eql a b)) r1), r2, by simp only [eqCells, f1, e2, e3, hk], f2, by simp [stdB, Bool.and_assoc]⟩
      · cases h
    · rename_i q a b e1 e2 e3
      obtain ⟨r1, r2, f1, f2, rfl⟩ := eqCells_app e1
      simp only [Option.some.injEq] at h
      subst h
      exact ⟨stdB (.and (stdB (.eq a b)) r1), r2, by simp only [eqCells, f1, e2, e3], f2, by simp [stdB, Bool.and_assoc]⟩
    · rename_i q a b e1 e2 e3
      obtain ⟨r1, r2, f1, f2, rfl⟩ := eqCells_app e1
      simp only [Option.some.injEq] at h
      subst h
      exact ⟨stdB (.and (stdB (.scmp .eql a b)) r1), r2, by simp only [eqCells, f1, e2, e3], f2, by simp [stdB, Bool.and_assoc]⟩
    · cases h

/-- Cells from a place on, as values. -/
def MatchC (w : World) (g : G) (cs : List TV) (o : Nat) (xs : Array Value) (n : Nat) : Prop := ∀ j, j < n → ∀ c, nthO cs (o + j) = some c → ∃ x, xs[j]? = some x ∧ TR w g c x
theorem MatchC.ext {cs : List TV} {o : Nat} {xs : Array Value} {n f m : Nat} (h : MatchC w g cs o xs n) (hm : f + m ≤ n) : MatchC w g cs (o + f) (xs.extract f (f + m)) m := by
  intro j hj c hc
  rw [Nat.add_assoc] at hc
  obtain ⟨x, h1, h2⟩ := h (f + j) (by omega) c hc
  refine ⟨x, ?_, h2⟩
  rw [Array.getElem?_extract]
  have : f + j < xs.size := (Array.getElem?_eq_some_iff.1 h1).1
  rw [if_pos (by omega)]
  exact h1
theorem run_isAgg {t : TypeId} {gg : Bool} (hg : aggT P t = some gg) : (isAgg t).run P w = .ok gg w := by
  unfold aggT at hg
  simp only [Option.map_eq_some_iff] at hg
  obtain ⟨d, hd, hdg⟩ := hg
  unfold isAgg
  rw [Sem.run_bind, run_underlying hd w]
  subst hdg
  cases d <;> rfl
theorem run_sizeOf {t : TypeId} {n : Nat} (hn : sizeT P t = some n) : (sizeOf t).run P w = .ok n w := by
  unfold sizeT at hn
  simp only [Option.map_eq_some_iff] at hn
  obtain ⟨i, hi, hin⟩ := hn
  simp [sizeOf, typeInfo, hi, hin]

/-- What a plan is good for. -/
def PlanOk (P : Program) (w : World) (g : G) (d : Nat) : Prop :=
  ∀ (t : TypeId) (p : List (Nat × Nat)) (n : Nat), eqPlan P d t = some p → sizeT P t = some n → (∀ q ∈ p, q.1 < n) → ∀ (D : Nat), d ≤ D → ∀ (cs ds : List TV) (o : Nat) (xs ys : Array Value) (O N : Nat) (r : Bool), MatchC w g cs o xs N → MatchC w g ds o ys N → O + n ≤ N →
      eqCells stdB (p.map fun q => (o + O + q.1, q.2)) cs ds = some r → (do let a ← part t xs O; let b ← part t ys O; Op.equalIn D t a b).run P w = .ok r w
theorem eq_fields {d : Nat} (ih : PlanOk P w g d) {tot D o' : Nat} (hD : d ≤ D) {cs ds : List TV} {xs' ys' : Array Value} (hx' : MatchC w g cs o' xs' tot) (hy' : MatchC w g ds o' ys' tot) : ∀ (fl : List Field) (p : List (Nat × Nat)) (r : Bool), eqFs (eqPlan P d) (sizeT P) tot fl = some p →
    eqCells stdB (p.map fun q => (o' + q.1, q.2)) cs ds = some r → (Op.eqFields D xs' ys' fl).run P w = .ok r w := by
  intro fl
  induction fl with
  | nil =>
    intro p r hp hr
    simp only [eqFs, Option.some.injEq] at hp
    subst hp
    simp only [List.map_nil, eqCells, Option.some.injEq] at hr
    subst hr
    simp [Op.eqFields]
  | cons f fl ihf =>
    intro p r hp hr
    simp only [eqFs] at hp
    split at hp
    · cases hp
    · rename_i hnm
      have hnm : f.name ≠ "_" := by simpa using hnm
      split at hp
      · rename_i p1 n1 p2 e1 e2 e3
        split at hp
        · rename_i hall
          simp only [Option.some.injEq] at hp
          subst hp
          rw [List.map_append] at hr
          obtain ⟨r1, r2, g1, g2, rfl⟩ := eqCells_app hr
          simp only [Bool.and_eq_true] at hall
          have hfn : f.offset + n1 ≤ tot := Nat.le_of_ble_eq_true hall.1
          have hq1 : ∀ q ∈ p1, q.1 < n1 := fun q hq => by have := List.all_eq_true.1 hall.2 q hq; simpa [Nat.blt_eq] using this
          rw [List.map_map] at g1
          have g1' : eqCells stdB (p1.map fun q => (o' + f.offset + q.1, q.2)) cs ds = some r1 := by
            rw [← g1]
            congr 1
            refine List.map_congr_left fun q _ => ?_
            simp [Nat.add_assoc]
          have h2 := ihf p2 r2 e3 g2
          have h1 := ih f.type p1 n1 e1 e2 hq1 D hD cs ds o' xs' ys' f.offset tot r1 hx' hy' hfn g1'
          simp only [Op.eqFields, hnm, ne_eq, not_false_eq_true, if_true]
          have h1' : (part f.type xs' f.offset >>= fun a => part f.type ys' f.offset >>= fun b => Op.equalIn D f.type a b >>= fun r => if (!r) = true then pure false else Op.eqFields D xs' ys' fl).run P w =
              ((do let a ← part f.type xs' f.offset; let b ← part f.type ys' f.offset; Op.equalIn D f.type a b : Sem Bool) >>= fun r => if (!r) = true then pure false else Op.eqFields D xs' ys' fl).run P w := by
            simp only [bind_assoc]
          rw [h1', Sem.run_bind, h1, Result.andThen_ok]
          cases r1 with
          | false => simp
          | true => simp [h2]
        · cases hp
      · cases hp

theorem eq_plan : ∀ (d : Nat), PlanOk P w g d := by
  intro d
  induction d with
  | zero => intro t p n h; simp [eqPlan] at h
  | succ d ih =>
    intro t p n hp hn hq D hD cs ds o xs ys O N r hx hy hO hr
    obtain ⟨D, rfl⟩ : ∃ D', D = D' + 1 := ⟨D - 1, by omega⟩
    simp only [eqPlan] at hp
    -- a cell of its own
    have cell : ∀ {c1 c2 : TV} {kd : Nat}, p = [(0, kd)] → nthO cs (o + O) = some c1 → nthO ds (o + O) = some c2 → P.underlying t ≠ none → (∀ dd, P.underlying t = some dd → isRowD dd = false) → ∃ x y, TR w g c1 x ∧ TR w g c2 y ∧ (do let a ← part t xs O; let b ← part t ys O; Op.equalIn (D + 1) t a b : Sem Bool).run P w = (Op.equalIn (D + 1) t x y).run P w := by
      intro c1 c2 kd hp0 e1 e2 hu hrow
      have hn0 : 0 < n := by have := hq (0, kd) (by rw [hp0]; simp); exact this
      obtain ⟨x, hx1, hx2⟩ := hx O (by omega) c1 e1
      obtain ⟨y, hy1, hy2⟩ := hy O (by omega) c2 e2
      refine ⟨x, y, hx2, hy2, ?_⟩
      cases hd : P.underlying t with
      | none => exact absurd hd hu
      | some dd =>
        have hag : (isAgg t).run P w = .ok false w := run_isAgg (by simp [aggT, hd, hrow dd hd])
        simp [part, Sem.run_bind, hag, hx1, hy1]
    split at hp
    · rename_i k ht
      simp only [Option.some.injEq] at hp
      subst hp
      simp only [List.map_cons, List.map_nil, Nat.add_zero, eqCells] at hr
      split at hr
      · rename_i q k1 a k2 b e0 eK e1 e2
        cases e0
        split at hr
        · rename_i hk
          simp only [Option.some.injEq] at hr
          subst hr
          obtain ⟨x, y, tx, ty, he⟩ := cell rfl e1 e2 (by rw [ht]; simp) (fun dd hd => by rw [ht] at hd; cases hd; rfl)
          rw [he, tr_int tx, tr_int ty]
          have := kEq_eq hk
          subst this
          rw [run_equalIn_int w D t k1 k a b ht]
          simp_all [stdB]
        · cases hr
      · simp_all
      · simp_all
      · cases hr
    · rename_i ht
      simp only [Option.some.injEq] at hp
      subst hp
      simp only [List.map_cons, List.map_nil, Nat.add_zero, eqCells] at hr
      split at hr
      · simp_all
      · rename_i q a b e0 eK e1 e2
        cases e0
        simp only [Option.some.injEq] at hr
        subst hr
        obtain ⟨x, y, tx, ty, he⟩ := cell rfl e1 e2 (by rw [ht]; simp) (fun dd hd => by rw [ht] at hd; cases hd; rfl)
        rw [he, tr_bool tx, tr_bool ty, run_equalIn_bool' w D t a b ht]
        simp_all [stdB]
      · simp_all
      · cases hr
    · rename_i ht
      simp only [Option.some.injEq] at hp
      subst hp
      simp only [List.map_cons, List.map_nil, Nat.add_zero, eqCells] at hr
      split at hr
      · simp_all
      · simp_all
      · rename_i q a b e0 eK e1 e2
        cases e0
        simp only [Option.some.injEq] at hr
        subst hr
        obtain ⟨x, y, tx, ty, he⟩ := cell rfl e1 e2 (by rw [ht]; simp) (fun dd hd => by rw [ht] at hd; cases hd; rfl)
        rw [he, (tr_str tx).1, (tr_str ty).1, run_equalIn_string w D t _ _ ht]
        simp_all [stdB, ByteArray.toList_eq]
      · cases hr
    · rename_i fs ht
      split at hp
      · cases hp
      · rename_i hst
        have hst : P.stoodInHeld t = false := by simpa using hst
        rw [hn] at hp
        simp only [Option.bind_some] at hp
        have hag : (isAgg t).run P w = .ok true w := run_isAgg (by simp [aggT, ht, isRowD])
        have hsz : (sizeOf t).run P w = .ok n w := run_sizeOf hn
        have hfo : P.fieldsOf t = fs := by simp [Program.fieldsOf, ht]
        have hpart : ∀ zs : Array Value, (part t zs O).run P w = .ok (.agg (zs.extract O (O + n))) w := fun zs => by simp [part, Sem.run_bind, hag, hsz]
        simp only [Sem.run_bind, hpart, Result.andThen_ok]
        rw [run_equalIn_struct w D t _ _ (by rw [hfo]; exact ht) hst, hfo]
        have hx' := hx.ext (f := O) (m := n) hO
        have hy' := hy.ext (f := O) (m := n) hO
        generalize xs.extract O (O + n) = xs' at hx'
        generalize ys.extract O (O + n) = ys' at hy'
        generalize o + O = o' at hx' hy' hr
        exact eq_fields ih (by omega) hx' hy' _ _ _ hp hr
    · cases hp

theorem eqPlan_struct {d : Nat} {t : TypeId} {fs : Array Field} (ht : P.underlying t = some (.struct fs)) : eqPlan P (d + 1) t = if P.stoodInHeld t then none else (sizeT P t).bind fun tot => eqFs (eqPlan P d) (sizeT P) tot fs.toList := by
  simp only [eqPlan, ht]
theorem aeq_sound (hs : Sim Γ s a.tmps w g) {t u : TypeId} {op : BinOp} {ne : Bool} {fs : Array Field} {pl : List (Nat × Nat)} {y1 y2 : Operand} {x1 x2 : X} (ho : o.op = .binOp op t y1 y2 u) (h1 : opX y1 = some x1) (h2 : opX y2 = some x2)
    (ht : P.underlying t = some (.struct fs)) (hg : P.eqGuardType P.depth t = false) (hp : eqPlan P 20 t = some pl) (hop : op = .eql ∧ ne = false ∨ op = .neq ∧ ne = true)
    (h : wpS stdI stdB stdE sl (.aeq ne pl x1 x2) s k kp) : OpS P o Γ a.tmps a w k kp := by
  obtain ⟨hv1, _⟩ := hs.ev' h1
  obtain ⟨hv2, _⟩ := hs.ev' h2
  simp only [wpS, wpK] at h
  split at h
  · rename_i cs ds e1 e2
    rw [e1] at hv1
    rw [e2] at hv2
    generalize ev1 : a.eval y1 = v1 at hv1
    generalize ev2 : a.eval y2 = v2 at hv2
    split at h
    · rename_i r hr
      cases hv1 with
      | agg _ vs hvs =>
      cases hv2 with
      | agg _ us hus =>
      rw [show (20 : Nat) = 19 + 1 from rfl, eqPlan_struct ht] at hp
      split at hp
      · cases hp
      · rename_i hst
        have hst : P.stoodInHeld t = false := by simpa using hst
        obtain ⟨tot, htot, hp⟩ := Option.bind_eq_some_iff.1 hp
        have hm : ∀ (cs : List TV) (vs : List Value), TRL w g cs vs → MatchC w g cs 0 vs.toArray tot := by
          intro cs vs hvs j _ c hc
          rw [Nat.zero_add, nthO_eq] at hc
          obtain ⟨x, hx, htr⟩ := hvs.get hc
          exact ⟨x, by simpa using hx, htr⟩
        have hrun : (Op.equalIn 10000 t (.agg vs.toArray) (.agg us.toArray)).run P w = .ok r w := by
          have hfo : P.fieldsOf t = fs := by simp [Program.fieldsOf, ht]
          rw [run_equalIn_struct w 9999 t _ _ (by rw [hfo]; exact ht) hst, hfo]
          refine eq_fields (eq_plan 19) (by omega) (hm _ _ hvs) (hm _ _ hus) _ _ _ hp ?_
          simpa using hr
        have hgd : (eqGuard op t y1 y2 (.agg vs.toArray) (.agg us.toArray)).run P w = .ok () w := run_eqGuard_agg w op t y1 y2 _ _ hg
        rcases hop with ⟨rfl, rfl⟩ | ⟨rfl, rfl⟩
        · refine OpS.pure_ hs (x := .bool r) ?_ h (.p _ _ (.bool _)) refP
          simp only [execOp, ho, ev1, ev2, Sem.run_bind, hgd, Result.andThen_ok, run_eql_struct, hrun, Sem.run_pure]
        · refine OpS.pure_ hs (x := .bool (!r)) ?_ h (.p _ _ (.bool _)) refP
          simp only [execOp, ho, ev1, ev2, Sem.run_bind, hgd, Result.andThen_ok, run_neq_struct, hrun, Sem.run_pure]
    · exact h.elim
  · exact h.elim
end

end Go.Ab
/- Single operations are sound: addresses, elements, lengths, parts. -/
set_option linter.unusedVariables false
set_option linter.unusedSimpArgs false
namespace Go.Ab

section
variable {P : Program} {o : Oper} {Γ : Ctx} {s : AS} {a : Act} {w : World} {g : G} {k kp : TV → AS → Prop} {sl : Option Nat}

theorem evs_sound (hs : Sim Γ s a.tmps w g) : ∀ {ys : List Operand} {xs : List X}, opXs ys = some xs → TRL w g (evs s.ev xs) (ys.map a.eval) ∧ ∀ v ∈ evs s.ev xs, RefV s.h v
  | [], xs, h => by simp only [opXs, Option.some.injEq] at h; subst h; exact ⟨.nil, by simp [evs]⟩
  | y :: ys, xs, h => by
    simp only [opXs] at h
    split at h
    · rename_i x l hx hl
      simp only [Option.some.injEq] at h
      subst h
      obtain ⟨h1, h2⟩ := evs_sound hs hl
      obtain ⟨h3, h4⟩ := hs.ev' hx
      refine ⟨.cons _ _ _ _ h3 h1, ?_⟩
      intro v hv
      simp only [evs, List.mem_cons] at hv
      rcases hv with rfl | hv
      · exact h4
      · exact h2 v hv
    · cases h

theorem nilck_sound (hs : Sim Γ s a.tmps w g) {y : Operand} {x : X} (ho : o.op = .nilCheck y) (h1 : opX y = some x) (h : wpS stdI stdB stdE sl (.nilck x) s k kp) : OpS P o Γ a.tmps a w k kp := by
  obtain ⟨hv, hf⟩ := hs.ev' h1
  have key : ∀ v, s.ev x = v → (∃ b, a.eval y = .pointer (some b)) ∨ (∃ f q r, a.eval y = .func (.func f) q r) → k v s → OpS P o Γ a.tmps a w k kp := by
    intro v hc hform hq
    subst hc
    refine OpS.pure_ hs (x := a.eval y) ?_ hq hv hf
    rcases hform with ⟨b, e⟩ | ⟨f, q, r, e⟩ <;> simp [execOp, ho, e]
  simp only [wpS, wpK] at h
  generalize hev : a.eval y = ax at hv key
  split at h
  · rename_i hc; rw [hc] at hv; cases hv; exact key _ hc (.inl ⟨_, rfl⟩) h
  · rename_i hc; rw [hc] at hv; cases hv; exact key _ hc (.inl ⟨_, rfl⟩) h
  · rename_i hc; rw [hc] at hv; cases hv; exact key _ hc (.inr ⟨_, _, _, rfl⟩) h
  · rename_i hc; rw [hc] at hv; cases hv with | p _ _ hv => cases hv; exact key _ hc (.inr ⟨_, _, _, rfl⟩) h
  · exact h.elim

theorem mkf_sound (hs : Sim Γ s a.tmps w g) {f : FuncId} {first caps : Array Operand} {xs : List X} (ho : o.op = .makeFunc (.func f) first caps) (hf : first.isEmpty = true) (h1 : opXs caps.toList = some xs)
    (h : wpS stdI stdB stdE sl (.mkf f xs) s k kp) : OpS P o Γ a.tmps a w k kp := by
  obtain ⟨h2, h3⟩ := evs_sound hs h1
  have hf0 : first = #[] := by simpa using hf
  subst hf0
  refine OpS.pure_ hs (x := .func (.func f) #[] (caps.toList.map a.eval).toArray) ?_ h (.fn _ _ _ h2) ?_
  · have : (caps.toList.map a.eval).toArray = caps.map a.eval := by apply Array.ext'; simp
    simp [execOp, ho, Instr.makeFunc, this]
  · intro i hi
    simp only [plsV] at hi
    obtain ⟨v, hv, hi⟩ := plsL_mem.1 hi
    exact h3 v hv i hi

theorem ext_sound (hs : Sim Γ s a.tmps w g) {y : Operand} {x : X} {i : Nat} (ho : o.op = .extract y i) (h1 : opX y = some x) (h : wpS stdI stdB stdE sl (.ext x i) s k kp) : OpS P o Γ a.tmps a w k kp := by
  obtain ⟨hv, hf⟩ := hs.ev' h1
  simp only [wpS, wpK] at h
  generalize hev : a.eval y = ax at hv
  split at h
  · rename_i vs hc
    rw [hc] at hv hf
    cases hv with
    | tup _ xs hl =>
      split at h
      · rename_i v hn
        rw [nthO_eq] at hn
        obtain ⟨z, hz, ht⟩ := hl.get hn
        refine OpS.pure_ hs (x := z) ?_ h ht fun j hj => hf j (by simp only [plsV]; exact plsL_mem.2 ⟨v, List.mem_of_getElem? hn, hj⟩)
        simp [execOp, ho, hev, Instr.extract, hz]
      · exact h.elim
  · exact h.elim

theorem arr_of {α : Type} {x : Array α} {l : List α} (h : x.toList = l) : x = l.toArray := by subst h; simp

theorem len_sound (hs : Sim Γ s a.tmps w g) {c : Call} {y : Operand} {t : TypeId} {d : TypeDesc} {x : X} {str : Bool} (ho : o.op = .call c) (hc1 : c.callee = .builtin .len) (hargs : c.args.toList = [y]) (hty : c.argTypes.toList = [t])
    (hd : P.underlying t = some d) (hdd : (∃ e, d = .slice e) ∧ str = false ∨ d = .string ∧ str = true) (h1 : opX y = some x) (h : wpS stdI stdB stdE sl (.len str x) s k kp) : OpS P o Γ a.tmps a w k kp := by
  obtain ⟨hv, hf⟩ := hs.ev' h1
  have ha := arr_of hargs
  have hb := arr_of hty
  have run : ∀ v n, a.eval y = v → (match d, v with | .slice _, .slice _ l _ => n = (l : Int) | .string, .string s => n = (s.size : Int) | _, _ => False) → (execOp a.eval o).run P w = .ok (.value (.int .i64 n)) w := by
    intro v n hev hn
    have hres : (execOp a.eval o).run P w = ((Builtin.len_ c.argTypes o.type #[v]).run P w).andThen fun x w' => .ok (.value x) w' := by
      simp [execOp, ho, resolve, hc1, ha, hev, invoke, builtin]
    rw [hres, hb]
    rcases hdd with ⟨⟨e, rfl⟩, _⟩ | ⟨rfl, _⟩
    · cases v <;> simp at hn
      subst hn
      simp [Builtin.len_, run_underlying hd, goInt]
    · cases v <;> simp at hn
      subst hn
      simp [Builtin.len_, run_underlying hd, goInt]
  simp only [wpS, wpK] at h
  generalize hev : a.eval y = ax at hv run
  split at h
  · rename_i nn zz els hc
    rw [hc] at hv
    rcases hdd with ⟨⟨e, rfl⟩, _⟩ | ⟨_, h0⟩
    · cases hv with | p _ _ hv =>
      cases hv with
      | isl0 => exact OpS.pure_ hs (x := .int .i64 (stdI (.len []))) (run _ _ rfl (by simp [stdI])) h (.p _ _ (.int _ _)) refP
      | isl1 => exact OpS.pure_ hs (x := .int .i64 (stdI (.len els))) (run _ _ rfl (by simp [stdI])) h (.p _ _ (.int _ _)) refP
    · cases h0
  · rename_i l hc
    rw [hc] at hv
    obtain ⟨rfl, _⟩ := tr_str hv
    rcases hdd with ⟨_, h0⟩ | ⟨rfl, _⟩
    · cases h0
    · exact OpS.pure_ hs (x := .int .i64 (stdI (.slen l))) (run _ _ rfl (by simp [stdI, ByteArray.size])) h (.p _ _ (.int _ _)) refP
  · rename_i len hc
    rw [hc] at hv
    rcases hdd with ⟨⟨e, rfl⟩, _⟩ | ⟨_, h0⟩
    · cases hv with
      | sl0 => exact OpS.pure_ hs (x := .int .i64 0) (run _ _ rfl (by simp)) h (.p _ _ (.int _ _)) refP
      | sl1 _ _ off len cap hl hm hcap hN => exact OpS.pure_ hs (x := .int .i64 len) (run _ _ rfl (by simp)) h (.p _ _ (.int _ _)) refP
    · cases h0
  · exact h.elim

theorem run_fieldPlace {b off n : Nat} {f : Field} (hn : sizeT P f.type = some (n + 1)) : (fieldPlace ⟨b, off, none⟩ f).run P w = .ok ⟨b, off + f.offset, none⟩ w := by
  unfold sizeT at hn
  simp only [Option.map_eq_some_iff] at hn
  obtain ⟨i, hi, hin⟩ := hn
  simp [fieldPlace, sizeOf, typeInfo, hi, hin, Addr.add_mid]

theorem fa_sound (hs : Sim Γ s a.tmps w g) {t : TypeId} {y : Operand} {i n : Nat} {fs : Array Field} {f : Field} {x : X} (ho : o.op = .fieldAddr t y i) (ht : P.underlying t = some (.struct fs)) (hf : fs[i]? = some f)
    (hn : sizeT P f.type = some (n + 1)) (h1 : opX y = some x) (h : wpS stdI stdB stdE sl (.fa f.offset x) s k kp) : OpS P o Γ a.tmps a w k kp := by
  obtain ⟨hv, hrf⟩ := hs.ev' h1
  have run : ∀ b off, a.eval y = .pointer (some ⟨b, off, none⟩) → (execOp a.eval o).run P w = .ok (.value (.pointer (some ⟨b, off + f.offset, none⟩))) w := by
    intro b off hev
    simp [execOp, ho, hev, Instr.fieldAt, run_underlying ht, hf, Instr.sureAddr, run_fieldPlace hn]
  simp only [wpS, wpK] at h
  generalize hev : a.eval y = ax at hv run
  split at h
  · rename_i pl z i' j hc
    rw [hc] at hv hrf
    cases hv
    refine OpS.pure_ hs (run _ _ rfl) h ?_ hrf
    have := TR.ptr (w := w) (g := g) pl z i' (j + f.offset)
    rwa [← Nat.add_assoc] at this
  · rename_i cs j hc
    rw [hc] at hv hrf
    cases hv with
    | cptr _ _ b off vs hI hcell hr =>
      refine OpS.pure_ hs (run _ _ rfl) h ?_ fun i hi => by simp [plsV] at hi
      have := TR.cptr (w := w) (g := g) cs (j + f.offset) b off vs hI hcell hr
      rwa [← Nat.add_assoc] at this
  · exact h.elim

theorem fld_sound (hs : Sim Γ s a.tmps w g) {t : TypeId} {y : Operand} {i n : Nat} {gg : Bool} {fs : Array Field} {f : Field} {x : X} (ho : o.op = .field t y i) (ht : P.underlying t = some (.struct fs)) (hf : fs[i]? = some f)
    (hn : sizeT P f.type = some n) (hg : aggT P f.type = some gg) (h1 : opX y = some x) (h : wpS stdI stdB stdE sl (.fld f.offset n gg x) s k kp) : OpS P o Γ a.tmps a w k kp := by
  obtain ⟨hv, hrf⟩ := hs.ev' h1
  simp only [wpS, wpK] at h
  generalize hev : a.eval y = ax at hv
  unfold sizeT at hn
  unfold aggT at hg
  simp only [Option.map_eq_some_iff] at hn hg
  obtain ⟨ti, hi, hin⟩ := hn
  obtain ⟨d, hd, hdg⟩ := hg
  have hagg : (isAgg f.type).run P w = .ok gg w := by
    unfold isAgg
    rw [Sem.run_bind, run_underlying hd w]
    subst hdg
    cases d <;> rfl
  split at h
  · rename_i cs hc
    rw [hc] at hv hrf
    cases hv with
    | agg _ vs hl =>
      split at h
      · rename_i v hld
        obtain ⟨e1, e2⟩ := ldCells_eq hld
        have hl2 := (hl.drop f.offset).take n
        cases gg with
        | true =>
          simp only [if_true] at e2
          subst e2
          refine OpS.pure_ hs (x := .agg ((vs.drop f.offset).take n).toArray) ?_ h (.agg _ _ hl2) fun j hj => ?_
          · have he : vs.toArray.extract f.offset (f.offset + n) = ((vs.drop f.offset).take n).toArray := by
              apply Array.ext'
              simp [List.extract_eq_take_drop]
            simp [execOp, ho, hev, Instr.field, run_underlying ht, hf, asAgg, part, hagg, sizeOf, typeInfo, hi, hin, he]
          · simp only [plsV] at hj
            obtain ⟨u, hu, hj⟩ := plsL_mem.1 hj
            exact hrf j (by simp only [plsV]; exact plsL_mem.2 ⟨u, List.mem_of_mem_drop (List.mem_of_mem_take hu), hj⟩)
        | false =>
          simp only [Bool.false_eq_true, if_false] at e2
          obtain ⟨_, e3⟩ := e2
          obtain ⟨z, hz, htr⟩ := hl.get e3
          refine OpS.pure_ hs (x := z) ?_ h htr fun j hj => hrf j (by simp only [plsV]; exact plsL_mem.2 ⟨v, List.mem_of_getElem? e3, hj⟩)
          simp [execOp, ho, hev, Instr.field, run_underlying ht, hf, asAgg, part, hagg, hz]
      · exact h.elim
  · exact h.elim
end

end Go.Ab
/- Single operations are sound: elements, slices, strings. -/
set_option linter.unusedVariables false
set_option linter.unusedSimpArgs false
namespace Go.Ab

section
variable {P : Program} {o : Oper} {Γ : Ctx} {s : AS} {a : Act} {w : World} {g : G} {k kp : TV → AS → Prop} {sl : Option Nat}

theorem at2_row {els : List (List PV)} {n j : Nat} {cs : List PV} (h : els[n]? = some cs) : at2 els n j = cs[j]? := by simp [at2, h]

theorem run_indexAt_slice {t e : TypeId} {n w' : Nat} {q : IntKind} {m : Nat} {b off len cap : Nat} (ht : P.underlying t = some (.slice e)) (he : sizeT P e = some w') (hm : m < len) :
    (Instr.indexAt t (.slice (some ⟨b, off, none⟩) len cap) (.int q m)).run P w = .ok (.pointer (some ⟨b, off + m * w', none⟩)) w := by
  unfold sizeT at he
  simp only [Option.map_eq_some_iff] at he
  obtain ⟨ti, hi, hin⟩ := he
  have h1 : (0 : Int) ≤ (m : Int) ∧ (m : Int) < (len : Int) := ⟨by omega, by omega⟩
  simp [Instr.indexAt, asIntOf, run_underlying ht, hm, sizeOf, typeInfo, hi, hin, Addr.add_mid]

theorem ia_sound (hs : Sim Γ s a.tmps w g) {t e : TypeId} {y1 y2 : Operand} {x1 x2 : X} {w' : Nat} (ho : o.op = .indexAddr t y1 y2) (ht : P.underlying t = some (.slice e)) (he : sizeT P e = some w') (h1 : opX y1 = some x1) (h2 : opX y2 = some x2)
    (h : wpS stdI stdB stdE sl (.ia w' x1 x2) s k kp) : OpS P o Γ a.tmps a w k kp := by
  obtain ⟨hv1, hf1⟩ := hs.ev' h1
  obtain ⟨hv2, _⟩ := hs.ev' h2
  simp only [wpS, wpK] at h
  generalize hev : a.eval y1 = ax at hv1
  split at h
  · rename_i nn z els q v hc1 hc2
    rw [hc1] at hv1
    rw [hc2] at hv2
    have e2 := tr_int hv2
    obtain ⟨n, cs, rfl, hcs, hlen, h⟩ := h
    cases hv1 with | p _ _ hv1 =>
    cases hv1 with
    | isl0 => simp at hcs
    | isl1 _ _ ad cap vs hsp hI hl hm hz hc hr =>
      have hn := (List.getElem?_eq_some_iff.1 hcs).1
      have hne : els ≠ [] := by rintro rfl; simp at hn
      have hzw : z = w' := by rw [← hz cs (List.mem_of_getElem? hcs)]; exact isLen_eq hlen
      subst hzw
      have hsp := hsp hne
      obtain ⟨b, off, sp⟩ := ad
      simp only at hsp
      subst hsp
      refine OpS.pure_ hs (x := .pointer (some ⟨b, off + n * z, none⟩)) ?_ h ?_ fun i hi => by simp [plsV] at hi
      · simp only [execOp, ho, hev, e2, Sem.run_bind, run_indexAt_slice (n := 0) ht he hn]
        rfl
      · have := TR.cptr (w := w) (g := g) cs 0 b (off + n * z) (fun j => vs n j) (fun _ => hI hne) (fun j c hj => by
          have := hc n j c (by rw [at2_row hcs]; exact hj)
          simpa [Nat.add_assoc] using this) (fun j c hj => hr n j c (by rw [at2_row hcs]; exact hj))
        simpa using this
  · rename_i pl z off len q v hc1 hc2
    rw [hc1] at hv1 hf1
    rw [hc2] at hv2
    have e2 := tr_int hv2
    split at h
    · rename_i hwz
      have hwz := Nat.eq_of_beq_eq_true hwz
      subst hwz
      obtain ⟨n, m, rfl, hlt, hm, h⟩ := h
      cases hv1 with
      | sl0 => omega
      | sl1 _ _ off len cap hl hmx hcap hN =>
        have hn : n < len := by omega
        have hmm : m = off + n := by omega
        subst hmm
        refine OpS.pure_ hs (x := .pointer (some ⟨g.β pl, off * w' + n * w', none⟩)) ?_ h ?_ fun i hi => hf1 i (by simpa [plsV] using hi)
        · simp only [execOp, ho, hev, e2, Sem.run_bind, run_indexAt_slice (n := 0) ht he hn]
          rfl
        · have := TR.ptr (w := w) (g := g) pl w' (off + n) 0
          rw [← Nat.add_mul]
          simpa using this
    · exact h.elim
  · exact h.elim

theorem iaA_sound (hs : Sim Γ s a.tmps w g) {t e : TypeId} {y1 y2 : Operand} {x1 x2 : X} {m w' : Nat} (ho : o.op = .indexAddr t y1 y2) (ht : P.underlying t = some (.array m e)) (he : sizeT P e = some w') (h1 : opX y1 = some x1) (h2 : opX y2 = some x2)
    (h : wpS stdI stdB stdE sl (.iaA m w' x1 x2) s k kp) : OpS P o Γ a.tmps a w k kp := by
  obtain ⟨hv1, hf1⟩ := hs.ev' h1
  obtain ⟨hv2, _⟩ := hs.ev' h2
  simp only [wpS, wpK] at h
  generalize hev : a.eval y1 = ax at hv1
  split at h
  · rename_i pl z i j q v hc1 hc2
    rw [hc1] at hv1 hf1
    rw [hc2] at hv2
    have e2 := tr_int hv2
    obtain ⟨n, jj, rfl, hlt, rfl, h⟩ := h
    cases hv1
    unfold sizeT at he
    simp only [Option.map_eq_some_iff] at he
    obtain ⟨ti, hi, hin⟩ := he
    refine OpS.pure_ hs (x := .pointer (some ⟨g.β pl, i * z + j + n * w', none⟩)) ?_ h ?_ fun i hi => hf1 i (by simpa [plsV] using hi)
    · simp [execOp, ho, hev, e2, Instr.indexAt, asIntOf, run_underlying ht, Instr.sureAddr, hlt, sizeOf, typeInfo, hi, hin, Addr.add_mid]
    · have := TR.ptr (w := w) (g := g) pl z i (j + n * w')
      rwa [← Nat.add_assoc] at this
  · exact h.elim

theorem ixS_sound (hs : Sim Γ s a.tmps w g) {t : TypeId} {y1 y2 : Operand} {x1 x2 : X} (ho : o.op = .index t y1 y2) (ht : P.underlying t = some .string) (h1 : opX y1 = some x1) (h2 : opX y2 = some x2)
    (h : wpS stdI stdB stdE sl (.ixS x1 x2) s k kp) : OpS P o Γ a.tmps a w k kp := by
  obtain ⟨hv1, hf1⟩ := hs.ev' h1
  obtain ⟨hv2, _⟩ := hs.ev' h2
  simp only [wpS, wpK] at h
  split at h
  · rename_i l q v hc1 hc2
    rw [hc1] at hv1
    rw [hc2] at hv2
    have e2 := tr_int hv2
    obtain ⟨e1, _⟩ := tr_str hv1
    obtain ⟨n, c, rfl, hcs, h⟩ := h
    refine OpS.pure_ hs (x := .int .u8 c.toNat) ?_ h (.p _ _ (.int _ _)) refP
    have hget : (⟨l.toArray⟩ : ByteArray)[n]? = some c := by
      obtain ⟨hlt, rfl⟩ := List.getElem?_eq_some_iff.1 hcs
      have hsz : n < (⟨l.toArray⟩ : ByteArray).size := by simpa [ByteArray.size] using hlt
      exact getElem?_pos (⟨l.toArray⟩ : ByteArray) n hsz
    simp [execOp, ho, e1, e2, Instr.index, asIntOf, run_underlying ht, hget]
  · exact h.elim

theorem mki_sound (hs : Sim Γ s a.tmps w g) {t : TypeId} {y : Operand} {x : X} {d : TypeDesc} (ho : o.op = .makeInterface t y) (hd : P.underlying t = some d) (hni : ∀ ms, d ≠ .interface ms) (h1 : opX y = some x)
    (h : wpS stdI stdB stdE sl (.mki t x) s k kp) : OpS P o Γ a.tmps a w k kp := by
  obtain ⟨hv, hf⟩ := hs.ev' h1
  have run : (execOp a.eval o).run P w = .ok (.value (.iface t (a.eval y))) w := by
    simp only [execOp, ho, Instr.makeInterface, Sem.run_bind, run_underlying hd, Result.andThen_ok]
    cases d <;> first | rfl | exact absurd rfl (hni _)
  simp only [wpS, wpK] at h
  generalize hev : a.eval y = ax at hv run
  split at h
  · rename_i v hc
    rw [hc] at hv
    cases hv with | p _ _ hv => exact OpS.pure_ hs run h (.p _ _ (.ifs _ _ _ hv)) refP
  · rename_i cs hc
    rw [hc] at hv hf
    split at h
    · rename_i l hl
      cases hv with
      | agg _ vs hvs =>
        refine OpS.pure_ hs run h (.p _ _ ?_) refP
        have key : ∀ (cs : List TV) (vs : List Value) (l : List PV), TRL w g cs vs → lowP cs = some l → l.length = vs.length ∧ ∀ (i : Nat) (c : PV), l[i]? = some c → ∃ x, vs[i]? = some x ∧ IR w g.Im c x := by
          intro cs
          induction cs with
          | nil => intro vs l hvs hl; cases hvs; simp only [lowP, Option.some.injEq] at hl; subst hl; simp
          | cons c cs ih =>
            intro vs l hvs hl
            cases hvs with
            | cons _ x _ vs hx hvs =>
              have fin : ∀ c' r, IR w g.Im c' x → lowP cs = some r → l = c' :: r → l.length = (x :: vs).length ∧ ∀ (i : Nat) (c : PV), l[i]? = some c → ∃ y, (x :: vs)[i]? = some y ∧ IR w g.Im c y := by
                intro c' r hc' hr e
                subst e
                obtain ⟨h1, h2⟩ := ih vs r hvs hr
                refine ⟨by simp [h1], fun i c hi => ?_⟩
                cases i with
                | zero => simp only [List.getElem?_cons_zero, Option.some.injEq] at hi; subst hi; exact ⟨x, rfl, hc'⟩
                | succ i => simpa using h2 i c (by simpa using hi)
              cases c with
              | p c' =>
                simp only [lowP] at hl
                split at hl
                · rename_i r hr
                  simp only [Option.some.injEq] at hl
                  cases hx with | p _ _ hx => exact fin _ _ hx hr hl.symm
                · cases hl
              | fn f caps =>
                cases caps with
                | nil =>
                  simp only [lowP] at hl
                  split at hl
                  · rename_i r hr
                    simp only [Option.some.injEq] at hl
                    cases hx with | fn _ _ us hus => cases hus; exact fin _ _ (.fn f) hr hl.symm
                  · cases hl
                | cons => simp [lowP] at hl
              | _ => simp [lowP] at hl
        obtain ⟨k1, k2⟩ := key cs vs l hvs hl
        have : vs = (List.range l.length).map (fun i => vs.getD i undef) := by
          apply List.ext_getElem?
          intro i
          rw [k1]
          by_cases hi : i < vs.length
          · simp [hi]
          · rw [List.getElem?_eq_none (by omega), List.getElem?_eq_none (by simp; omega)]
        rw [this]
        refine .ifa t l _ fun i c hi => ?_
        obtain ⟨y, hy, hir⟩ := k2 i c hi
        simpa [List.getD_eq_getElem?_getD, hy] using hir
    · exact OpS.pure_ hs run h (.ifv _ _ _ hv) hf
  · rename_i hc1 hc2
    exact OpS.pure_ hs run h (.ifv _ _ _ hv) (by simpa [plsV, RefV] using hf)
end

end Go.Ab
/- Single operations are sound: new variables, literals, make. -/
set_option linter.unusedVariables false
set_option linter.unusedSimpArgs false
namespace Go.Ab

section
variable {P : Program} {o : Oper} {Γ : Ctx} {s : AS} {a : Act} {w : World} {g : G} {k kp : TV → AS → Prop} {sl : Option Nat}

theorem TRL.new {w : World} {g : G} {h : List Ob} (hk : HOK w g h) {sl : Option Nat} (hsl : SlotOk sl h) {cs : List TV} {vs : List Value} (hv : TRL w g cs vs) (hr : ∀ i ∈ plsL cs, OkP h i) (ob : Obj) (n : Nat × Nat) :
    TRL (w.alloc ob) (g.new (newI sl h) w.heap.size n) cs vs := by
  obtain ⟨_, hfr, _⟩ := newI_fresh hsl .dead
  refine hv.mono (fun b hb => heap_push w ob b (hk.im b hb)) (fun b hb => hb) fun π hp => ?_
  have := fresh_root hfr (hr π hp)
  simp [G.new, this]

theorem NF0 {n : Nat} : NF n (0, 0) := fun o _ h => by omega

/-- A reference to what is new. -/
theorem newH_ok {sl : Option Nat} {h : List Ob} (hsl : SlotOk sl h) {o : Ob} (ho : o ≠ .free) : OkP (newH sl h o) ⟨newI sl h, []⟩ := by
  obtain ⟨hget, _, _⟩ := newI_fresh hsl o
  have := hget (newI sl h)
  rw [if_pos rfl] at this
  exact OkP_root this ho

/-- A new object whose block lies at the end. -/
theorem new_sound (hs : Sim Γ s a.tmps w g) (hsl : SlotOk sl s.h) {ob : Ob} {n : Nat × Nat} (cur : Array Value) (t : TypeId) (hf : ob.flat) (hnf : ob ≠ .free) (hids : ∀ i ∈ plsOb ob, OkP s.h i)
    (hob : ObR (w.alloc (.cells cur t)) (g.new (newI sl s.h) w.heap.size n) (newI sl s.h) ob) {v : TV} {x : Value}
    (hr : (execOp a.eval o).run P w = .ok (.value x) (w.alloc (.cells cur t))) (hk : k v ⟨s.t, newH sl s.h ob⟩)
    (ht : TR (w.alloc (.cells cur t)) (g.new (newI sl s.h) w.heap.size n) v x) (hv : ∀ i ∈ plsV v, i = ⟨newI sl s.h, []⟩) : OpS P o Γ a.tmps a w k kp := by
  refine OpS.value hr hk ⟨hs.new hsl ob n hf hids (by simp) (fun b hb => heap_push w _ b hb) rfl rfl rfl hob, ht, fun i hi => ?_⟩
  rw [hv i hi]
  exact newH_ok hsl hnf

theorem box_sound (hs : Sim Γ s a.tmps w g) (hsl : SlotOk sl s.h) {t : TypeId} {y : Operand} {x : X} (ho : o.op = .box t y) (h1 : opX y = some x) (h : wpS stdI stdB stdE sl (.box x) s k kp) : OpS P o Γ a.tmps a w k kp := by
  obtain ⟨hv, hf⟩ := hs.ev' h1
  simp only [wpS, wpK] at h
  have hb0 : (w.alloc (.cells (a.eval y).cells t)).heap[w.heap.size]? = some (.cells (a.eval y).cells t) := heap_alloc_new w _
  refine new_sound hs hsl (n := (0, 0)) (a.eval y).cells t (ob := .box (cellsOf (s.ev x))) (x := .pointer (some ⟨w.heap.size, 0, none⟩)) (by trivial) (by simp) (fun i hi => hf i (cellsOf_ids (by simpa [plsOb] using hi))) ?_ ?_ h ?_ ?_
  · have hβ : (g.new (newI sl s.h) w.heap.size (0, 0)).β ⟨newI sl s.h, []⟩ = w.heap.size := by simp [G.new]
    by_cases hne : s.ev x = .un
    · refine ⟨_, t, (0, 0), by rw [hβ]; exact hb0, NF0, [], ?_, by simp⟩
      rw [hne]
      exact .nil
    · refine ⟨_, t, (0, 0), by rw [hβ]; exact hb0, NF0, _, TRL.new hs.hok hsl (hv.cells hne) (fun i hi => hf i (cellsOf_ids hi)) _ _, ?_⟩
      intro k' z hz
      simpa using hz
  · simp [execOp, ho, Instr.box, newVar, newRow]
  · have := TR.ptr (w := w.alloc (.cells (a.eval y).cells t)) (g := g.new (newI sl s.h) w.heap.size (0, 0)) ⟨newI sl s.h, []⟩ 0 0 0
    simpa [G.new] using this
  · intro i hi
    simpa [plsV] using hi

theorem zeroT_eq {P : Program} {t : TypeId} {zs : List PV} (h : zeroT P t = some zs) : ∃ i z, P.info? t = some i ∧ i.zero = some z ∧ constL z.cells.toList = some zs := by
  unfold zeroT at h
  cases hi : P.info? t with
  | none => simp [hi] at h
  | some i =>
    cases hz : i.zero with
    | none => simp [hi, hz] at h
    | some z => exact ⟨i, z, rfl, hz, by simpa [hi, hz] using h⟩
theorem constL_ok {w : World} {g : G} {l : List Value} {us : List PV} (h : constL l = some us) : TRL w g (plainP us) l := by
  have : TR w g (.agg (plainP us)) (.agg l.toArray) := (const_ok (w := w) (g := g) (v := .agg l.toArray) (u := .agg (plainP us)) (by simp [constT, h])).1
  cases this with
  | agg _ vs hv => exact hv

theorem alloc_sound (hs : Sim Γ s a.tmps w g) (hsl : SlotOk sl s.h) {t : TypeId} {zs : List PV} (ho : o.op = .alloc t) (hz : zeroT P t = some zs) (h : wpS stdI stdB stdE sl (.alloc zs) s k kp) : OpS P o Γ a.tmps a w k kp := by
  obtain ⟨i, z, hi, hz1, hz2⟩ := zeroT_eq hz
  simp only [wpS, wpK] at h
  have hb0 : (w.alloc (.cells z.cells t)).heap[w.heap.size]? = some (.cells z.cells t) := heap_alloc_new w _
  refine new_sound hs hsl (n := (0, 0)) z.cells t (ob := .box (plainP zs)) (x := .pointer (some ⟨w.heap.size, 0, none⟩)) (by trivial) (by simp) (fun i hi => by simp [plsOb, plainP_ids] at hi) ?_ ?_ h ?_ ?_
  · have hβ : (g.new (newI sl s.h) w.heap.size (0, 0)).β ⟨newI sl s.h, []⟩ = w.heap.size := by simp [G.new]
    refine ⟨_, t, (0, 0), by rw [hβ]; exact hb0, NF0, _, constL_ok hz2, ?_⟩
    intro k' y hy
    simpa using hy
  · simp [execOp, ho, Instr.alloc, zeroValue, typeInfo, hi, hz1, newVar, newRow]
  · have := TR.ptr (w := w.alloc (.cells z.cells t)) (g := g.new (newI sl s.h) w.heap.size (0, 0)) ⟨newI sl s.h, []⟩ 0 0 0
    simpa [G.new] using this
  · intro i hi
    simpa [plsV] using hi

/-! ### a struct or an array of parts -/
theorem putCells_get {α : Type} {cs vs r : List α} {j : Nat} (h : putCells cs j vs = some r) : r.length = cs.length ∧ j + vs.length ≤ cs.length + (if vs = [] then j else 0) ∧ ∀ i, r[i]? = if j ≤ i ∧ i < j + vs.length then vs[i - j]? else cs[i]? := by
  induction cs generalizing j vs r with
  | nil =>
    cases j with
    | zero =>
      cases vs with
      | nil => simp only [putCells, Option.some.injEq] at h; subst h; simp
      | cons v vs => simp [putCells] at h
    | succ j => simp [putCells] at h
  | cons c cs ih =>
    cases j with
    | zero =>
      cases vs with
      | nil => simp only [putCells, Option.some.injEq] at h; subst h; simp
      | cons v vs =>
        simp only [putCells] at h
        split at h
        · rename_i r' hr
          simp only [Option.some.injEq] at h
          subst h
          obtain ⟨h1, h2, h3⟩ := ih hr
          refine ⟨by simp [h1], ?_, fun i => ?_⟩
          · simp only [List.length_cons] at h2 ⊢
            by_cases hv : vs = []
            · subst hv; simp
            · rw [if_neg hv] at h2; simp; omega
          · cases i with
            | zero => simp
            | succ i => simpa using h3 i
        · cases h
    | succ j =>
      simp only [putCells] at h
      split at h
      · rename_i r' hr
        simp only [Option.some.injEq] at h
        subst h
        obtain ⟨h1, h2, h3⟩ := ih hr
        refine ⟨by simp [h1], ?_, fun i => ?_⟩
        · simp only [List.length_cons] at h2 ⊢
          split at h2 <;> split <;> first | omega | simp_all
        · cases i with
          | zero => simp
          | succ i =>
            have := h3 i
            simp only [List.getElem?_cons_succ]
            rw [this]
            by_cases hc : j ≤ i ∧ i < j + vs.length
            · rw [if_pos hc, if_pos (by omega)]
              congr 1
              omega
            · rw [if_neg hc, if_neg (by omega)]
      · cases h

/-- The same of values. -/
theorem putCells_rel {w : World} {g : G} {cs ds r : List TV} {vs us : List Value} {j : Nat} (hc : TRL w g cs vs) (hd : TRL w g ds us) (h : putCells cs j ds = some r) : ∃ q, putCells vs j us = some q ∧ TRL w g r q := by
  induction cs generalizing j ds r vs us with
  | nil =>
    cases hc
    cases j with
    | zero =>
      cases hd with
      | nil => simp only [putCells, Option.some.injEq] at h; subst h; exact ⟨[], rfl, .nil⟩
      | cons => simp [putCells] at h
    | succ j => simp [putCells] at h
  | cons c cs ih =>
    cases hc with
    | cons _ x _ vs hx hc =>
      cases j with
      | zero =>
        cases hd with
        | nil => simp only [putCells, Option.some.injEq] at h; subst h; exact ⟨_, rfl, .cons _ _ _ _ hx hc⟩
        | cons d y ds us hy hd =>
          simp only [putCells] at h
          split at h
          · rename_i r' hr
            simp only [Option.some.injEq] at h
            subst h
            obtain ⟨q, hq, hrel⟩ := ih hc hd hr
            exact ⟨y :: q, by simp [putCells, hq], .cons _ _ _ _ hy hrel⟩
          · cases h
      | succ j =>
        simp only [putCells] at h
        split at h
        · rename_i r' hr
          simp only [Option.some.injEq] at h
          subst h
          obtain ⟨q, hq, hrel⟩ := ih hc hd hr
          exact ⟨x :: q, by simp [putCells, hq], .cons _ _ _ _ hx hrel⟩
        · cases h

theorem fold_put (vs : List Value) : ∀ (cs : Array Value) (off : Nat) (r : List Value), putCells cs.toList off vs = some r → (vs.zipIdx.foldl (fun cs (c, j) => cs.setIfInBounds (off + j) c) cs).toList = r := by
  have key : ∀ (vs : List Value) (n off : Nat) (cs : Array Value) (r : List Value), putCells cs.toList (off + n) vs = some r → ((vs.zipIdx n).foldl (fun cs (c, j) => cs.setIfInBounds (off + j) c) cs).toList = r := by
    intro vs
    induction vs with
    | nil =>
      intro n off cs r h
      have := putCells_get h
      simp only [List.zipIdx_nil, List.foldl_nil]
      apply List.ext_getElem?
      intro i
      rw [this.2.2 i]
      simp
      omega
    | cons v vs ih =>
      intro n off cs r h
      simp only [List.zipIdx_cons, List.foldl_cons]
      refine ih (n + 1) off _ r ?_
      have g1 := putCells_get h
      have hlt : off + n < cs.toList.length := by have := g1.2.1; simp at this; simp; omega
      have : ∀ (l : List Value) (j : Nat) (v : Value) (vs r : List Value), putCells l j (v :: vs) = some r → putCells (l.set j v) (j + 1) vs = some r := by
        intro l
        induction l with
        | nil => intro j v vs r h; cases j <;> simp [putCells] at h
        | cons c l ih =>
          intro j v vs r h
          cases j with
          | zero =>
            simp only [putCells] at h
            simpa [putCells] using h
          | succ j =>
            simp only [putCells] at h
            split at h
            · rename_i r' hr
              have := ih j v vs r' hr
              simp only [List.set_cons_succ, putCells, this]
              exact h
            · cases h
      have := this _ _ _ _ _ h
      rw [Array.toList_setIfInBounds]
      rw [show off + (n + 1) = off + n + 1 by omega]
      exact this
  intro cs off r h
  simpa using key vs 0 off cs r (by simpa using h)
end

end Go.Ab
/- Single operations are sound: literals of structs, arrays and slices. -/
set_option linter.unusedVariables false
set_option linter.unusedSimpArgs false
namespace Go.Ab

section
variable {P : Program} {o : Oper} {Γ : Ctx} {s : AS} {a : Act} {w : World} {g : G} {k kp : TV → AS → Prop} {sl : Option Nat}

theorem notAny_of_len {v : TV} {n : Nat} (h : isLen n (cellsOf v) = true) (hn : 0 < n) : v ≠ .un := by
  rintro rfl
  have := isLen_eq h
  simp [cellsOf] at this
  omega

theorem cells_len {v : TV} {x : Value} {n : Nat} (ht : TR w g v x) (hl : isLen n (cellsOf v) = true) (hn : 0 < n) : TRL w g (cellsOf v) x.cells.toList ∧ x.cells.size = n := by
  have h := ht.cells (notAny_of_len hl hn)
  refine ⟨h, ?_⟩
  have := h.length
  rw [isLen_eq hl] at this
  simpa using this.symm

theorem fill_build (hs : Sim Γ s a.tmps w g) (place : Nat → Option (Nat × Nat)) : ∀ (ps : List (Nat × Operand)) (qs : List (Nat × Nat × X)) (cs r : List TV) (vs : List Value),
    fieldParts P place ps = some qs → (∀ q ∈ qs, 0 < q.2.1) → TRL w g cs vs → wpK.buildC s.ev cs qs = some r →
    ∃ us, Instr.fill place vs.toArray (ps.map fun p => (p.1, a.eval p.2)) = some us.toArray ∧ TRL w g r us
  | [], qs, cs, r, vs, hq, h0, hv, hb => by
    simp only [fieldParts, Option.some.injEq] at hq
    subst hq
    simp only [wpK.buildC, Option.some.injEq] at hb
    subst hb
    exact ⟨vs, rfl, hv⟩
  | (i, y) :: ps, qs, cs, r, vs, hq, h0, hv, hb => by
    simp only [fieldParts] at hq
    split at hq
    · rename_i off n x rest hp hx hr
      simp only [Option.some.injEq] at hq
      subst hq
      simp only [wpK.buildC] at hb
      split at hb
      · rename_i hlen
        split at hb
        · rename_i cs' hput
          obtain ⟨ht, _⟩ := hs.ev' hx
          obtain ⟨hc, hsz⟩ := cells_len ht hlen (h0 _ (List.mem_cons_self ..))
          obtain ⟨q, hq, hrel⟩ := putCells_rel hv hc hput
          obtain ⟨us, h1, h2⟩ := fill_build hs place ps rest cs' r q hr (fun q hq => h0 q (List.mem_cons_of_mem _ hq)) hrel hb
          refine ⟨us, ?_, h2⟩
          have hle := (putCells_get hq).2.1
          have hn := h0 _ (List.mem_cons_self ..)
          simp only at hn
          have hne : (a.eval y).cells.toList ≠ [] := by
            intro e
            have := congrArg List.length e
            simp at this
            simp [this] at hsz
            omega
          rw [if_neg hne] at hle
          have hfit : ¬ ((a.eval y).cells.size ≠ n ∨ off + (a.eval y).cells.size > vs.toArray.size) := by
            simp at hle ⊢
            omega
          simp only [List.map_cons, Instr.fill, hp]
          rw [if_neg (by simpa using hfit)]
          have hf : ((a.eval y).cells.zipIdx.foldl (fun cs (x : Value × Nat) => cs.setIfInBounds (off + x.2) x.1) vs.toArray) = q.toArray := by
            have := fold_put (a.eval y).cells.toList vs.toArray off q (by simpa using hq)
            rw [← Array.foldl_toList]
            apply Array.ext'
            simpa using this
          rw [hf]
          exact h1
        · cases hb
      · cases hb
    · cases hq

theorem build_sound (hs : Sim Γ s a.tmps w g) {t : TypeId} {ps : Array (Nat × Operand)} {zs : List PV} {qs : List (Nat × Nat × X)} {place : Nat → Option (Nat × Nat)} (ho : o.op = .build t ps) (hz : zeroT P t = some zs)
    (hplace : (∃ fs pls, P.underlying t = some (.struct fs) ∧ fs.toList.mapM (fun f => (P.info? f.type).map fun i => (f.offset, i.size)) = some pls ∧ place = fun i => pls[i]?) ∨
      (∃ m e ie, P.underlying t = some (.array m e) ∧ P.info? e = some ie ∧ place = fun i => some (i * ie.size, ie.size)))
    (hq : fieldParts P place ps.toList = some qs) (h0 : ∀ q ∈ qs, 0 < q.2.1)
    (h : wpS stdI stdB stdE sl (.build zs qs) s k kp) : OpS P o Γ a.tmps a w k kp := by
  obtain ⟨i, z, hi, hz1, hz2⟩ := zeroT_eq hz
  simp only [wpS, wpK] at h
  split at h
  · rename_i cs hb
    obtain ⟨us, h1, h2⟩ := fill_build hs place ps.toList qs (plainP zs) cs z.cells.toList hq h0 (constL_ok hz2) hb
    have hbuilt : P.built t (ps.map fun (i, x) => (i, a.eval x)).toList = some us.toArray := by
      have hl : (ps.map fun (i, x) => (i, a.eval x)).toList = ps.toList.map fun p => (p.1, a.eval p.2) := by simp
      rw [hl]
      unfold Program.built
      rcases hplace with ⟨fs, pls, hu, hm, rfl⟩ | ⟨m, e, ie, hu, he, rfl⟩
      · simp only [hi, hu, hz1, hm]
        simpa using h1
      · simp only [hi, hu, hz1, he]
        simpa using h1
    refine OpS.pure_ hs (x := .agg us.toArray) ?_ h (.agg _ _ h2) ?_
    · simp only [execOp, ho, Sem.run_bind, run_build w t _ _ hbuilt, Result.andThen_ok]
      rfl
    · have key : ∀ (qs : List (Nat × Nat × X)) (cs r : List TV), (∀ q ∈ qs, RefV s.h (s.ev q.2.2)) → (∀ i ∈ plsL cs, OkP s.h i) → wpK.buildC s.ev cs qs = some r → ∀ i ∈ plsL r, OkP s.h i := by
        intro qs
        induction qs with
        | nil => intro cs r _ hc hb; simp only [wpK.buildC, Option.some.injEq] at hb; subst hb; exact hc
        | cons q qs ih =>
          intro cs r hq hc hb
          obtain ⟨off, n, x⟩ := q
          simp only [wpK.buildC] at hb
          split at hb
          · split at hb
            · rename_i cs' hput
              refine ih cs' r (fun q hq' => hq q (List.mem_cons_of_mem _ hq')) ?_ hb
              intro i hi
              obtain ⟨v, hv, hiv⟩ := plsL_mem.1 hi
              obtain ⟨m, hm, rfl⟩ := List.getElem_of_mem hv
              have := (putCells_get hput).2.2 m
              rw [List.getElem?_eq_getElem hm] at this
              split at this
              · exact hq _ (List.mem_cons_self ..) i (cellsOf_ids (plsL_mem.2 ⟨_, List.mem_of_getElem? this.symm, hiv⟩))
              · exact hc i (plsL_mem.2 ⟨_, List.mem_of_getElem? this.symm, hiv⟩)
            · cases hb
          · cases hb
      have hqs : ∀ q ∈ qs, RefV s.h (s.ev q.2.2) := by
        have : ∀ (ps : List (Nat × Operand)) (qs : List (Nat × Nat × X)), fieldParts P place ps = some qs → ∀ q ∈ qs, RefV s.h (s.ev q.2.2) := by
          intro ps
          induction ps with
          | nil => intro qs hq; simp only [fieldParts, Option.some.injEq] at hq; subst hq; simp
          | cons p ps ih =>
            intro qs hq
            obtain ⟨j, y⟩ := p
            simp only [fieldParts] at hq
            split at hq
            · rename_i off n x rest hp hx hr
              simp only [Option.some.injEq] at hq
              subst hq
              intro q hq
              rcases List.mem_cons.1 hq with rfl | hq
              · exact (hs.ev' hx).2
              · exact ih rest hr q hq
            · cases hq
        exact this _ _ hq
      intro i hi
      simp only [plsV] at hi
      exact key qs (plainP zs) cs hqs (by simp [plainP_ids]) hb i hi
  · exact h.elim
end

end Go.Ab
/- Single operations are sound: stores. -/
set_option linter.unusedVariables false
set_option linter.unusedSimpArgs false
namespace Go.Ab

section
variable {P : Program} {o : Oper} {Γ : Ctx} {s : AS} {a : Act} {w : World} {g : G} {k kp : TV → AS → Prop} {sl : Option Nat}

theorem setCell_heap (w : World) (b o : Nat) (v : Value) {cur : Array Value} {t : TypeId} {fr : Nat × Nat} (h : w.heap[b]? = some (.cells cur t fr)) :
    (w.setCell ⟨b, o, none⟩ v).heap[b]? = some (.cells (cur.setIfInBounds o v) t fr) ∧ (∀ k, k ≠ b → (w.setCell ⟨b, o, none⟩ v).heap[k]? = w.heap[k]?) ∧ (w.setCell ⟨b, o, none⟩ v).heap.size = w.heap.size := by
  refine ⟨?_, fun k hk => ?_, by simp [World.setCell]⟩
  · simp [World.setCell, Array.getElem?_modify, h]
  · simp only [World.setCell, Array.getElem?_modify]
    rw [if_neg (by omega)]

theorem setCells_heap (b : Nat) (t : TypeId) (fr : Nat × Nat) : ∀ (vs : List Value) (o : Nat) (w : World) (cur : Array Value), w.heap[b]? = some (.cells cur t fr) → o + vs.length ≤ cur.size →
    ∃ cur', (w.setCells b o vs).heap[b]? = some (.cells cur' t fr) ∧ cur'.size = cur.size ∧ (∀ i, cur'[i]? = if o ≤ i ∧ i < o + vs.length then vs[i - o]? else cur[i]?) ∧
      (∀ k, k ≠ b → (w.setCells b o vs).heap[k]? = w.heap[k]?) ∧ (w.setCells b o vs).heap.size = w.heap.size ∧ (w.setCells b o vs).os = w.os ∧ (w.setCells b o vs).tape = w.tape ∧ (w.setCells b o vs).output = w.output
  | [], o, w, cur, h, hf => ⟨cur, h, rfl, fun i => by simp; omega, fun _ _ => rfl, rfl, rfl, rfl, rfl⟩
  | v :: vs, o, w, cur, h, hf => by
    obtain ⟨h1, h2, h3⟩ := setCell_heap w b o v h
    obtain ⟨cur', k1, k2, k3, k4, k5, k6, k7, k8⟩ := setCells_heap b t fr vs (o + 1) (w.setCell ⟨b, o, none⟩ v) _ h1 (by simp at hf ⊢; omega)
    refine ⟨cur', k1, by simpa using k2, fun i => ?_, fun k hk => (k4 k hk).trans (h2 k hk), k5.trans h3, k6, k7, k8⟩
    rw [k3 i]
    simp only [List.length_cons] at hf ⊢
    by_cases c1 : o + 1 ≤ i ∧ i < o + 1 + vs.length
    · rw [if_pos c1, if_pos (by omega), show i - o = (i - (o + 1)) + 1 by omega]
      simp
    · rw [if_neg c1]
      by_cases c2 : i = o
      · subst c2
        rw [if_pos (by omega)]
        simp [show i < cur.size by omega]
      · rw [if_neg (by omega), Array.getElem?_setIfInBounds_ne (by omega)]

/-- A store, run: what it leaves. -/
theorem run_storeAt {t : TypeId} {n b off : Nat} {cur : Array Value} {ty : TypeId} {fr : Nat × Nat} (hn : sizeT P t = some n) (hb : w.heap[b]? = some (.cells cur ty fr)) (hf : NF cur.size fr) (x : Value) (hx : x.cells.size = n)
    (hfit : off + n ≤ cur.size) (h1 : ∀ v ∈ x.cells.toList, v.oneCell' = true) :
    (Instr.storeAt t (.pointer (some ⟨b, off, none⟩)) x).run P w = .ok () (w.setCells b off x.cells.toList) := by
  unfold sizeT at hn
  simp only [Option.map_eq_some_iff] at hn
  obtain ⟨ti, hi, hin⟩ := hn
  have hl : x.cells.toList.length = n := by simpa using hx
  have h := run_storeCells_cells (P := P) b off x.cells.toList 0 w (fun j hj => by
    rw [cell_cells hb]
    simp
    omega) (fun j hj => frozen_cells hb hf (by omega)) h1
  simp only [Nat.add_zero] at h
  simp [Instr.storeAt, Instr.sureAddr, storeVar, sizeOf, typeInfo, hi, hin, hx, h]

end

end Go.Ab
/- Stores into rows: what a row is behind a write, and rows that are taken up. -/
set_option linter.unusedVariables false
set_option linter.unusedSimpArgs false
namespace Go.Ab

theorem at2_set {els : List (List PV)} {i a b : Nat} {cs' : List PV} (hi : i < els.length) : at2 (els.set i cs') a b = if a = i then cs'[b]? else at2 els a b := by
  unfold at2
  by_cases e : a = i
  · subst e; rw [if_pos rfl]; simp [hi]
  · rw [if_neg e, List.getElem?_set_ne (by omega)]

/-- What may be gone to behind a write: what was there ahead of it, and what was put. -/
theorem rowPut_at {cv : List PV} {j i : Nat} {cs cs' : List PV} (hput : putCells cs j cv = some cs') (hov : ∀ b c, j ≤ b → b < j + cv.length → cs[b]? = some c → ∀ nn z e, c ≠ .own nn z e) :
    ∀ (p : List (Nat × Nat)) (nn nb0 : Bool) (els r els' : List (List PV)), rowAt nn els p = some (nb0, r) → r[i]? = some cs → rowPut els p (r.set i cs') = some els' →
      els'.length = els.length ∧
      (∀ q nb e, rowAt nn els' q = some (nb, e) → (∃ e', rowAt nn els q = some (nb, e') ∧ ∀ k q', k < cv.length → q ≠ p ++ (i, j + k) :: q') ∨
        ∃ k q' nn' z e0, q = p ++ (i, j + k) :: q' ∧ cv[k]? = some (.own nn' z e0) ∧ rowAt nn' e0 q' = some (nb, e)) ∧
      (∀ q, (rowAt nn els q).isSome → (rowAt nn els' q).isSome ∧ ∀ k q', k < cv.length → q ≠ p ++ (i, j + k) :: q')
  | [], nn, nb0, els, r, els', hr, hcs, hp => by
    simp only [rowAt, Option.some.injEq, Prod.mk.injEq] at hr
    obtain ⟨rfl, rfl⟩ := hr
    simp only [rowPut, Option.some.injEq] at hp
    subst hp
    have hi := (List.getElem?_eq_some_iff.1 hcs).1
    have hput' := (putCells_get hput).2.2
    refine ⟨by simp, fun q nb e hq => ?_, fun q hq => ?_⟩
    · cases q with
      | nil =>
        simp only [rowAt, Option.some.injEq, Prod.mk.injEq] at hq
        exact .inl ⟨els, by simp [rowAt, hq.1], by simp⟩
      | cons ab q =>
        obtain ⟨a, b⟩ := ab
        rw [rowAt_cons, at2_set hi] at hq
        by_cases ea : a = i
        · subst ea
          rw [if_pos rfl, hput' b] at hq
          by_cases hb : j ≤ b ∧ b < j + cv.length
          · rw [if_pos hb] at hq
            split at hq
            · rename_i nn' z e0 heq
              refine .inr ⟨b - j, q, nn', z, e0, ?_, heq, hq⟩
              rw [show j + (b - j) = b by omega]
              rfl
            · cases hq
          · rw [if_neg hb] at hq
            refine .inl ⟨e, by rw [rowAt_cons, at2_row hcs]; exact hq, fun k q' hk h => ?_⟩
            simp only [List.nil_append, List.cons.injEq, Prod.mk.injEq, true_and] at h
            omega
        · rw [if_neg ea] at hq
          refine .inl ⟨e, by rw [rowAt_cons]; exact hq, fun k q' hk h => ?_⟩
          simp only [List.nil_append, List.cons.injEq, Prod.mk.injEq] at h
          exact ea h.1.1
    · cases q with
      | nil => exact ⟨rfl, by simp⟩
      | cons ab q =>
        obtain ⟨a, b⟩ := ab
        rw [rowAt_cons] at hq
        rw [rowAt_cons, at2_set hi]
        by_cases ea : a = i
        · subst ea
          rw [if_pos rfl, hput' b]
          rw [at2_row hcs] at hq
          by_cases hb : j ≤ b ∧ b < j + cv.length
          · split at hq
            · rename_i nn' z e0 heq
              exact absurd rfl (hov b _ hb.1 hb.2 heq nn' z e0)
            · cases hq
          · rw [if_neg hb]
            refine ⟨hq, fun k q' hk h => ?_⟩
            simp only [List.nil_append, List.cons.injEq, Prod.mk.injEq, true_and] at h
            omega
        · rw [if_neg ea]
          refine ⟨hq, fun k q' hk h => ?_⟩
          simp only [List.nil_append, List.cons.injEq, Prod.mk.injEq] at h
          exact ea h.1.1
  | (a0, b0) :: p, nn, nb0, els, r, els', hr, hcs, hp => by
    rw [rowAt_cons] at hr
    split at hr
    · rename_i nn0 z0 e0 h0
      have hsplit : ∃ c0, els[a0]? = some c0 ∧ c0[b0]? = some (.own nn0 z0 e0) := by
        unfold at2 at h0
        cases hc : els[a0]? with
        | none => simp [hc] at h0
        | some c0 => exact ⟨c0, rfl, by simpa [hc] using h0⟩
      obtain ⟨c0, hc0, hb0⟩ := hsplit
      simp only [rowPut, hc0, hb0] at hp
      split at hp
      · rename_i r' hr'
        simp only [Option.some.injEq] at hp
        subst hp
        obtain ⟨hl, ih1, ih2⟩ := rowPut_at hput hov p nn0 nb0 e0 r r' hr hcs hr'
        have ha0 := (List.getElem?_eq_some_iff.1 hc0).1
        have hbl := (List.getElem?_eq_some_iff.1 hb0).1
        have hne : ∀ (a b : Nat) (q : List (Nat × Nat)), (a, b) ≠ (a0, b0) → ∀ k q', k < cv.length → (a, b) :: q ≠ (a0, b0) :: p ++ (i, j + k) :: q' := by
          intro a b q h k q' _ e
          rw [List.cons_append] at e
          exact h (List.cons.inj e).1
        refine ⟨by simp, fun q nb e hq => ?_, fun q hq => ?_⟩
        · cases q with
          | nil =>
            simp only [rowAt, Option.some.injEq, Prod.mk.injEq] at hq
            exact .inl ⟨els, by simp [rowAt, hq.1], by simp⟩
          | cons ab q =>
            obtain ⟨a, b⟩ := ab
            rw [rowAt_cons, at2_set ha0] at hq
            by_cases ea : a = a0
            · subst ea
              rw [if_pos rfl] at hq
              by_cases eb : b = b0
              · subst eb
                simp [hbl] at hq
                rcases ih1 q nb e hq with ⟨e', h1, h2⟩ | ⟨k, q', nn', z, e1, rfl, h2, h3⟩
                · refine .inl ⟨e', by rw [rowAt_cons, at2_row hc0, hb0]; exact h1, fun k q' hk h => ?_⟩
                  rw [List.cons_append] at h
                  exact h2 k q' hk (List.cons.inj h).2
                · exact .inr ⟨k, q', nn', z, e1, rfl, h2, h3⟩
              · rw [List.getElem?_set_ne (by omega)] at hq
                exact .inl ⟨e, by rw [rowAt_cons, at2_row hc0]; exact hq, hne _ _ _ (by simp [eb])⟩
            · rw [if_neg ea] at hq
              exact .inl ⟨e, by rw [rowAt_cons]; exact hq, hne _ _ _ (by simp [ea])⟩
        · cases q with
          | nil => exact ⟨rfl, by simp⟩
          | cons ab q =>
            obtain ⟨a, b⟩ := ab
            rw [rowAt_cons] at hq
            rw [rowAt_cons, at2_set ha0]
            by_cases ea : a = a0
            · subst ea
              rw [if_pos rfl]
              rw [at2_row hc0] at hq
              by_cases eb : b = b0
              · subst eb
                rw [hb0] at hq
                obtain ⟨h1, h2⟩ := ih2 q hq
                refine ⟨by simpa [hbl] using h1, fun k q' hk h => ?_⟩
                rw [List.cons_append] at h
                exact h2 k q' hk (List.cons.inj h).2
              · rw [List.getElem?_set_ne (by omega)]
                exact ⟨hq, hne _ _ _ (by simp [eb])⟩
            · rw [if_neg ea]
              exact ⟨hq, hne _ _ _ (by simp [ea])⟩
      · cases hp
    · cases hr

/-- The row behind a write. -/
theorem RowR.update {w w' : World} {g g' : G} {cv : List PV} {us : List Value} {j i z' : Nat} {cs cs' : List PV}
    (hul : us.length = cv.length) (hput : putCells cs j cv = some cs') (him : ∀ b, g.Im b → w'.heap[b]? = w.heap[b]?) (hsub : ∀ b, g.Im b → g'.Im b) (hne : cv ≠ []) :
    ∀ (p : List (Nat × Nat)) (π : Place) (nn nb0 : Bool) (z : Nat) (els r els' : List (List PV)), RowR w g π nn z els → rowAt nn els p = some (nb0, r) → r[i]? = some cs → RowR w g (π.app p) true z' r → rowPut els p (r.set i cs') = some els' →
      (∀ q e, rowAt nn els q = some (true, e) → q ≠ p → g.β (π.app q) ≠ g.β (π.app p)) →
      (∀ q nb e, rowAt nn els q = some (nb, e) → g'.β (π.app q) = g.β (π.app q) ∧ g'.C (π.app q) = g.C (π.app q)) →
      (∀ b, b ≠ g.β (π.app p) → w'.heap[b]? = w.heap[b]?) →
      (∀ (k : Nat) (c : PV), cv[k]? = some c → ∃ x, us[k]? = some x ∧ PR w' g' ((π.app p).snoc i (j + k)) c x) →
      (∀ cur t fr, w.heap[g.β (π.app p)]? = some (.cells cur t fr) → ∃ cur', w'.heap[g.β (π.app p)]? = some (.cells cur' t fr) ∧ cur'.size = cur.size ∧
        ∀ m, cur'[m]? = if i * z' + j ≤ m ∧ m < i * z' + j + us.length then us[m - (i * z' + j)]? else cur[m]?) → RowR w' g' π nn z els'
  | [], π, nn, nb0, z, els, r, els', hrow, hr, hcs, hz'', hp, hinj, hg, hw, hnew, hcur => by
    simp only [rowAt, Option.some.injEq, Prod.mk.injEq] at hr
    obtain ⟨rfl, rfl⟩ := hr
    simp only [rowPut, Option.some.injEq] at hp
    subst hp
    rw [Place.app_nil] at hinj hw hcur hz'' hnew
    have hi := (List.getElem?_eq_some_iff.1 hcs).1
    have hzz : z' = z := by rw [← hz''.cons_ hcs, ← hrow.cons_ hcs]
    subst hzz
    cases hrow with
    | nil => simp at hcs
    | mk _ _ _ cur t fr vs hb hC hf hz hn hN hpos hc hr =>
      obtain ⟨cur', k1, k2, k3⟩ := hcur cur t fr hb
      obtain ⟨q1, q2, q3⟩ := putCells_get hput
      have hcl : cs.length = z' := hz cs (List.mem_of_getElem? hcs)
      rw [if_neg hne] at q2
      obtain ⟨g1, g2⟩ := hg [] true els rfl
      rw [Place.app_nil] at g1 g2
      refine .mk π z' _ cur' t fr (fun a b => if a = i ∧ j ≤ b ∧ b < j + us.length then us.getD (b - j) undef else vs a b) (by rw [g1]; exact k1) (by rw [g2, k2]; exact hC) (by rw [k2]; exact hf) ?_ (by rw [g2]; simpa using hn) (by rw [g2]; simpa using hN) hpos ?_ ?_
      · intro e he
        rcases List.mem_or_eq_of_mem_set he with he | rfl
        · exact hz e he
        · rw [q1, hcl]
      · intro a b c hab
        rw [at2_set hi] at hab
        rw [k3]
        by_cases e : a = i
        · subst e
          rw [if_pos rfl] at hab
          rw [q3 b] at hab
          have hblt : b < z' := by
            have := (List.getElem?_eq_some_iff.1 ((q3 b).trans hab)).1
            omega
          by_cases hr2 : j ≤ b ∧ b < j + cv.length
          · rw [if_pos hr2] at hab
            obtain ⟨x, hx, _⟩ := hnew _ c hab
            rw [if_pos (by omega), if_pos ⟨rfl, by omega⟩]
            rw [show a * z' + b - (a * z' + j) = b - j by omega, hx]
            simp [List.getD_eq_getElem?_getD, hx]
          · rw [if_neg hr2] at hab
            rw [if_neg (by omega), if_neg (by omega)]
            exact hc a b c (by rw [at2_row hcs]; exact hab)
        · rw [if_neg e] at hab
          have hblt : b < z' := by
            unfold at2 at hab
            cases he : els[a]? with
            | none => simp [he] at hab
            | some ea =>
              have h1 := hz ea (List.mem_of_getElem? he)
              have h2 := (List.getElem?_eq_some_iff.1 (show ea[b]? = some c by simpa [he] using hab)).1
              omega
          have hno : ¬ (i * z' + j ≤ a * z' + b ∧ a * z' + b < i * z' + j + us.length) := by
            intro ⟨h1, h2⟩
            rw [hul] at h2
            have hj : j + cv.length ≤ z' := by omega
            rcases Nat.lt_or_ge a i with hlt | hge
            · have : (a + 1) * z' ≤ i * z' := Nat.mul_le_mul_right _ hlt
              rw [Nat.add_mul] at this
              omega
            · have : (i + 1) * z' ≤ a * z' := Nat.mul_le_mul_right _ (by omega)
              rw [Nat.add_mul] at this
              omega
          rw [if_neg hno, if_neg (fun h => e h.1)]
          exact hc a b c hab
      · intro a b c hab
        rw [at2_set hi] at hab
        have old : ∀ c, at2 els a b = some c → PR w' g' (π.snoc a b) c (vs a b) := by
          intro c hab
          refine (hr a b c hab).move him hsub fun nn0 z0 e0 hc0 => ?_
          subst hc0
          have key : ∀ q nb e, rowAt nn0 e0 q = some (nb, e) → rowAt true els ((a, b) :: q) = some (nb, e) := fun q nb e hq => by rw [rowAt_cons, hab]; exact hq
          refine ⟨him, hsub, fun q e hq => ?_, fun q e hq => ?_, fun q nb e hq => ?_⟩
          · rw [Place.snoc_app]
            exact hw _ (hinj _ e (key q true e hq) (by simp))
          · rw [Place.snoc_app]; exact (hg _ true e (key q true e hq)).1
          · rw [Place.snoc_app]; exact (hg _ nb e (key q nb e hq)).2
        by_cases e : a = i
        · subst e
          rw [if_pos rfl] at hab
          rw [q3 b] at hab
          by_cases hr2 : j ≤ b ∧ b < j + cv.length
          · rw [if_pos hr2] at hab
            obtain ⟨x, hx, hirx⟩ := hnew _ c hab
            rw [if_pos ⟨rfl, by omega⟩]
            simp only [List.getD_eq_getElem?_getD, hx, Option.getD_some]
            rwa [show j + (b - j) = b by omega] at hirx
          · rw [if_neg hr2] at hab
            rw [if_neg (by omega)]
            exact old c (by rw [at2_row hcs]; exact hab)
        · rw [if_neg e] at hab
          rw [if_neg (by omega)]
          exact old c hab
  | (a0, b0) :: p, π, nn, nb0, z, els, r, els', hrow, hr, hcs, hz'', hp, hinj, hg, hw, hnew, hcur => by
    rw [rowAt_cons] at hr
    split at hr
    · rename_i nn0 z0 e0 h0
      have hsplit : ∃ c0, els[a0]? = some c0 ∧ c0[b0]? = some (.own nn0 z0 e0) := by
        unfold at2 at h0
        cases hc : els[a0]? with
        | none => simp [hc] at h0
        | some c0 => exact ⟨c0, rfl, by simpa [hc] using h0⟩
      obtain ⟨c0, hc0, hb0⟩ := hsplit
      simp only [rowPut, hc0, hb0] at hp
      split at hp
      · rename_i r' hr'
        simp only [Option.some.injEq] at hp
        subst hp
        have ha0 := (List.getElem?_eq_some_iff.1 hc0).1
        have hbl := (List.getElem?_eq_some_iff.1 hb0).1
        rw [← Place.snoc_app] at hz'' hw hcur hinj hnew
        cases hrow with
        | nil => simp at hc0
        | mk _ _ _ cur t fr vs hb hC hf hz hn hN hpos hc hrr =>
          have hself : g.β π ≠ g.β ((π.snoc a0 b0).app p) := by
            have := hinj [] els rfl (by simp)
            rwa [Place.app_nil] at this
          obtain ⟨g1, g2⟩ := hg [] true els rfl
          rw [Place.app_nil] at g1 g2
          have old : ∀ a b c, at2 els a b = some c → (a, b) ≠ (a0, b0) → PR w' g' (π.snoc a b) c (vs a b) := by
            intro a b c hab hneq
            refine (hrr a b c hab).move him hsub fun nn1 z1 e1 hc1 => ?_
            subst hc1
            have key : ∀ q nb e, rowAt nn1 e1 q = some (nb, e) → rowAt true els ((a, b) :: q) = some (nb, e) := fun q nb e hq => by rw [rowAt_cons, hab]; exact hq
            refine ⟨him, hsub, fun q e hq => ?_, fun q e hq => ?_, fun q nb e hq => ?_⟩
            · rw [Place.snoc_app]
              refine hw _ (hinj _ e (key q true e hq) ?_)
              simp only [ne_eq, List.cons.injEq, not_and]
              intro e
              exact absurd e hneq
            · rw [Place.snoc_app]; exact (hg _ true e (key q true e hq)).1
            · rw [Place.snoc_app]; exact (hg _ nb e (key q nb e hq)).2
          have hown := hrr a0 b0 _ h0
          have hnn0 : nn0 = true := by
            generalize vs a0 b0 = x at hown
            cases hown with
            | im _ _ _ h => cases h
            | own1 => rfl
            | own0 =>
              cases p with
              | nil => simp only [rowAt, Option.some.injEq, Prod.mk.injEq] at hr; obtain ⟨_, rfl⟩ := hr; simp at hcs
              | cons ij p => obtain ⟨a, b⟩ := ij; simp [rowAt_cons, at2] at hr
          subst hnn0
          have hnew' : ∃ cap, vs a0 b0 = .slice (some ⟨g.β (π.snoc a0 b0), 0, none⟩) e0.length cap ∧ e0.length ≤ cap ∧ cap ≤ maxLen ∧ cap * z0 ≤ (g.C (π.snoc a0 b0)).1 ∧ RowR w g (π.snoc a0 b0) true z0 e0 := by
            generalize vs a0 b0 = x at hown
            cases hown with
            | im _ _ _ h => cases h
            | own1 _ _ _ cap h' hl hm hcap => exact ⟨cap, rfl, hl, hm, hcap, h'⟩
          obtain ⟨cap, hvx, hl, hm, hcap, hrow0⟩ := hnew'
          have key0 : ∀ q nb e, rowAt true e0 q = some (nb, e) → rowAt true els ((a0, b0) :: q) = some (nb, e) := fun q nb e hq => by rw [rowAt_cons, h0]; exact hq
          have ih := RowR.update hul hput him hsub hne p (π.snoc a0 b0) true nb0 z0 e0 r r' hrow0 hr hcs hz'' hr' (fun q e hq hqp => by
            have := hinj ((a0, b0) :: q) e (key0 q true e hq) (by simpa using hqp)
            rwa [← Place.snoc_app] at this) (fun q nb e hq => by rw [Place.snoc_app]; exact hg _ nb e (key0 q nb e hq)) hw hnew hcur
          have hlen : r'.length = e0.length := by
            cases p with
            | nil =>
              simp only [rowAt, Option.some.injEq, Prod.mk.injEq] at hr
              obtain ⟨_, rfl⟩ := hr
              simp only [rowPut, Option.some.injEq] at hr'
              subst hr'
              simp
            | cons ij p =>
              obtain ⟨a, b⟩ := ij
              simp only [rowPut] at hr'
              split at hr'
              · split at hr'
                · split at hr'
                  · simp only [Option.some.injEq] at hr'
                    subst hr'
                    simp
                  · cases hr'
                · cases hr'
              · cases hr'
          obtain ⟨g3, g4⟩ := hg [(a0, b0)] true e0 (key0 [] true e0 rfl)
          have hsn : π.app [(a0, b0)] = π.snoc a0 b0 := rfl
          rw [hsn] at g3 g4
          refine .mk π z _ cur t fr vs (by rw [g1, hw _ hself]; exact hb) (by rw [g2]; exact hC) hf ?_ (by rw [g2]; simpa using hn) (by rw [g2]; simpa using hN) hpos ?_ ?_
          · intro e he
            rcases List.mem_or_eq_of_mem_set he with he | rfl
            · exact hz e he
            · rw [List.length_set]; exact hz c0 (List.mem_of_getElem? hc0)
          · intro a b c hab
            rw [at2_set ha0] at hab
            by_cases e : a = a0
            · subst e
              rw [if_pos rfl] at hab
              by_cases e2 : b = b0
              · subst e2
                exact hc a b _ h0
              · rw [List.getElem?_set_ne (by omega)] at hab
                exact hc a b c (by rw [at2_row hc0]; exact hab)
            · rw [if_neg e] at hab
              exact hc a b c hab
          · intro a b c hab
            rw [at2_set ha0] at hab
            by_cases e : a = a0
            · subst e
              rw [if_pos rfl] at hab
              by_cases e2 : b = b0
              · subst e2
                simp [hbl] at hab
                subst hab
                rw [hvx, ← hlen, ← g3]
                exact .own1 _ z0 r' cap ih (by omega) hm (by rw [g4]; exact hcap)
              · rw [List.getElem?_set_ne (by omega)] at hab
                exact old a b c (by rw [at2_row hc0]; exact hab) (by simp; omega)
            · rw [if_neg e] at hab
              exact old a b c hab (by simp; omega)
      · cases hp
    · cases hr

end Go.Ab
