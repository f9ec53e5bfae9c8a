import PyProof.Rows.All
import Wide.All
import OpenK.AllK
import Wide.FinOn
import PyProof.StrCalls2
import KE.IntText
import OpenK.KMore
import PyProof.StationsW
import PyProof.Rows.Catch
import PyProof.Rows.TupIter
import PyProof.SliceMore
import PyProof.Rows.TupMore
import KE.LcSums
import KE.KIntText
import PyProof.TupleOfSeq
import OpenK.KNot
import PyProof.ExcAttrAll.ValueError
import KE.KIsAll
import KE.KTryMore
import KE.KItem
import KE.IntTextLaws
import PyProof.StrLawsIdx
import PyProof.FitsReplace
import PySem.Challenge.RW_uf040019_13
set_option Elab.async false
set_option autoImplicit false
namespace Mine
open PySem

/-! A small language: the part of Python that the laws use; tuples by value, lists and instances at addresses. -/

set_option genSizeOf false in
inductive V where
  | none
  | bool (b : Bool)
  | int (i : Int)
  | str (s : Str)
  | tup (l : List V)
  | ref (a : Addr)
  | rng (lo hi step : Int)
  | exc (cls : String)
  | frz (ns : List Int)
  | gd (kvs : List (String × Int))

set_option genSizeOf false in
set_option genInjectivity false in
inductive O where
  | list (l : List V)
  | inst (cls : String) (d : Addr)
  | attrs (fs : List (String × V))
  | sd (kvs : List (String × Int))

noncomputable abbrev Mem := Addr → Option O
noncomputable abbrev Loc := String → Option V

noncomputable def updM (μ : Mem) (a : Addr) (o : O) : Mem := fun x => if x = a then some o else μ x
noncomputable def updL (ρ : Loc) (a : String) (v : V) : Loc := fun x => if x = a then some v else ρ x
noncomputable def delL (ρ : Loc) (a : String) : Loc := fun x => if x = a then none else ρ x

theorem updM_self (μ : Mem) (a : Addr) (o : O) : updM μ a o a = some o := by simp [updM]
theorem updM_ne {μ : Mem} {a b : Addr} {o : O} (h : b ≠ a) : updM μ a o b = μ b := by simp [updM, h]
theorem updL_at (ρ : Loc) (a b : String) (v : V) : updL ρ a v b = if b = a then some v else ρ b := rfl
set_option genInjectivity false in
/-- classes that isinstance is asked about -/
inductive Cl where
  | ty (n : String)
  | own (n : String)
  | owns (ns : List (String × Pos))

set_option genInjectivity false in
inductive E where
  | none (p : Pos)
  | bool (b : Bool) (p : Pos)
  | int (i : Int) (p : Pos)
  | str (s : String) (p : Pos)
  | loc (x : String) (p : Pos)
  | glob (x : String) (p : Pos)
  | bin (op : Operator) (l r : E) (p : Pos)
  | neg (e : E) (p : Pos)
  | not (e : E) (p : Pos)
  | and (es : List E) (p : Pos)
  | or (es : List E) (p : Pos)
  | cmp (op : CmpOp) (l r : E) (p : Pos)
  | cmp2 (op₁ op₂ : CmpOp) (a b c : E) (p : Pos)
  | attr (o : E) (a : String) (p : Pos)
  | sub (o i : E) (p : Pos)
  | sliceL (o l : E) (ps p : Pos)
  | sliceU (o u : E) (ps p : Pos)
  | sliceLU (o l u : E) (ps p : Pos)
  | tup (es : List E) (k : Nat) (p : Pos)
  | list (es : List E) (p : Pos)
  | call (f : String) (args : List E) (pf p : Pos)
  | new (c : String) (args : List E) (pf p : Pos)
  | bltn (f : String) (args : List E) (pf p : Pos)
  | isi (e : E) (c : Cl) (pf pc p : Pos)
  | meth (o : E) (m : String) (args : List E) (pa p : Pos)
  | comp (elt : E) (x : String) (cs : List String) (it : E) (ifs : List E) (sc : Scope) (px p : Pos)
  | dlit (kvs : List ((String × Pos) × (Int × Pos))) (p : Pos)

set_option genInjectivity false in
inductive S where
  | expr (e : E) (p : Pos)
  | assign (x : String) (e : E) (px p : Pos)
  | setattr (o : E) (a : String) (e : E) (pa p : Pos)
  | setitem (o i e : E) (ps p : Pos)
  | unpack (xs : List (String × Pos)) (e : E) (k : Nat) (pt p : Pos)
  | ite (c : E) (t f : List S) (p : Pos)
  | for_ (x : String) (it : E) (body : List S) (px p : Pos)
  | while_ (c : E) (body : List S) (p : Pos)
  | ret (e : E) (p : Pos)
  | raise (cls msg : String) (pf pm pc p : Pos)
  | try_ (body : List S) (cls : String) (as : Option String) (h : List S) (more : List (String × Pos × E × Pos × Pos)) (pc ph p : Pos)
  | pass (p : Pos)

end Mine

set_option autoImplicit false
namespace Mine
open PySem

noncomputable abbrev Sc := String → List V → Mem → (V → Mem → Prop) → (String → Mem → Prop) → Prop

noncomputable def lim : Nat := 1048576

noncomputable def truth : V → Option Bool
  | .bool b => some b
  | _ => none
noncomputable def tr (v : V) (k : Bool → Prop) : Prop := match truth v with
  | some b => k b
  | none => False
noncomputable def br (b : Bool) (A B : Prop) : Prop := (b = true → A) ∧ (b = false → B)

/-- reads a value as data -/
noncomputable def rdAll (f : V → Option PyData) : List V → Option (List PyData)
  | [] => some []
  | v :: r => match f v, rdAll f r with
    | some d, some ds => some (d :: ds)
    | _, _ => none
noncomputable def rd (μ : Mem) : Nat → V → Option PyData
  | 0, _ => none
  | n + 1, v => match v with
    | .none => some .none
    | .bool b => some (.bool b)
    | .int i => some (.int i)
    | .str s => if PyData.strOk s then some (.str s) else none
    | .tup l => (rdAll (rd μ n) l).map .tuple
    | .ref a => match μ a with
      | some (.list l) => (rdAll (rd μ n) l).map .list
      | _ => none
    | _ => none
noncomputable def deq (μ : Mem) (a b : V) : Option Bool := match a, b with
  | .int i, .int j => some (decide (i = j))
  | _, _ => match rd μ 8 a, rd μ 8 b with
    | some x, some y => some (PyData.eqv x y)
    | _, _ => none

noncomputable def isO (v : V) : V → Option Bool
  | .none => some (match v with | .none => true | _ => false)
  | .bool c => some (match v with | .bool b => b == c | _ => false)
  | _ => none

noncomputable def sIn (kvs : List (String × Int)) (x : Str) : Bool := kvs.any fun k => Str.ofString k.1 == x
noncomputable def sGet (kvs : List (String × Int)) (x : Str) : Option Int := (kvs.find? fun k => Str.ofString k.1 == x).map (·.2)
noncomputable def asSd (μ : Mem) (w : V) : Option (List (String × Int)) := match w with
  | .gd kvs => some kvs
  | .ref a => match μ a with
    | some (.sd kvs) => if a = 1 then none else some kvs
    | _ => none
  | _ => none
noncomputable def inO (μ : Mem) (v w : V) : Option Bool := match v with
  | .str x => match w with
    | .str y => some (Txt.contains y x)
    | w => (asSd μ w).map fun kvs => sIn kvs x
  | _ => none

noncomputable def cmpO (op : CmpOp) (μ : Mem) (a b : V) : Option Bool := match op with
  | .Eq => deq μ a b
  | .NotEq => (deq μ a b).map (!·)
  | .Lt => match a, b with | .int i, .int j => some (decide (i < j)) | _, _ => none
  | .LtE => match a, b with | .int i, .int j => some (decide (i ≤ j)) | _, _ => none
  | .Gt => match a, b with | .int i, .int j => some (decide (j < i)) | _, _ => none
  | .GtE => match a, b with | .int i, .int j => some (decide (j ≤ i)) | _, _ => none
  | .Is => isO a b
  | .IsNot => (isO a b).map (!·)
  | .In => inO μ a b
  | .NotIn => (inO μ a b).map (!·)
noncomputable def cmpW (op : CmpOp) (μ : Mem) (a b : V) (Q : V → Mem → Prop) : Prop := match cmpO op μ a b with
  | some c => Q (.bool c) μ
  | none => False

noncomputable def newL (μ : Mem) (l : List V) (Q : V → Mem → Prop) : Prop := l.length ≤ lim ∧ ∀ n, μ n = none → Q (.ref n) (updM μ n (.list l))

noncomputable def asInt (v : V) (k : Int → Prop) : Prop := match v with | .int i => k i | _ => False
noncomputable def asL (μ : Mem) (v : V) (k : Addr → List V → Prop) : Prop := match v with
  | .ref x => (match μ x with | some (.list l) => k x l | _ => False)
  | _ => False
noncomputable def asS (v : V) (k : Str → Prop) : Prop := match v with | .str x => k x | _ => False
noncomputable def asT (v : V) (k : List V → Prop) : Prop := match v with | .tup l => k l | _ => False
noncomputable def one (vs : List V) (k : V → Prop) : Prop := match vs with | [v] => k v | _ => False
noncomputable def two (vs : List V) (k : V → V → Prop) : Prop := match vs with | [v, w] => k v w | _ => False
noncomputable def ints2 (a b : V) (k : Int → Int → Prop) : Prop := asInt a fun i => asInt b fun j => k i j

noncomputable def binW (op : Operator) (a b : V) (μ : Mem) (Q : V → Mem → Prop) : Prop := match op with
  | .Add => (match a with
    | .int i => asInt b fun j => Q (.int (i + j)) μ
    | .str x => asS b fun y => x.length + y.length ≤ lim ∧ Q (.str (x ++ y)) μ
    | .tup l => asT b fun k => l ≠ [] ∧ k ≠ [] ∧ (l ++ k).length ≤ lim ∧ Q (.tup (l ++ k)) μ
    | a => asL μ a fun _ l => asL μ b fun _ k => newL μ (l ++ k) Q)
  | .Sub => ints2 a b fun i j => Q (.int (i - j)) μ
  | .Mult => (match a with
    | .int i => asInt b fun j => (i.natAbs < 2 ^ 63 ∨ j.natAbs < 2 ^ 63) ∧ Q (.int (i * j)) μ
    | a => asL μ a fun _ l => asInt b fun n => 0 ≤ n ∧ n ≤ 1000000 ∧ n.toNat * l.length ≤ lim ∧ newL μ (List.replicate n.toNat l).flatten Q)
  | .FloorDiv => ints2 a b fun i j => 0 < j ∧ j < 1000000000 ∧ Q (.int (i / j)) μ
  | .Mod => ints2 a b fun i j => 0 < j ∧ Q (.int (i % j)) μ
  | .Pow => ints2 a b fun i j => 0 ≤ j ∧ j ≤ 1000 ∧ i.natAbs < 2 ^ 63 ∧ Q (.int (i ^ j.toNat)) μ
  | _ => False

noncomputable def getA (μ : Mem) (v : V) (a : String) : Option V := match v with
  | .ref x => match μ x with
    | some (.inst _ d) => match μ d with
      | some (.attrs fs) => fs.lookup a
      | _ => none
    | _ => none
  | _ => none

noncomputable def putA (a : String) (v : V) : List (String × V) → List (String × V)
  | [] => [(a, v)]
  | (b, w) :: r => if b = a then (b, v) :: r else (b, w) :: putA a v r

noncomputable def idx (l : List V) (i : Int) : Option V := if 0 ≤ i then l[i.toNat]? else if 0 ≤ i + l.length then l[(i + l.length).toNat]? else none
noncomputable def subO (μ : Mem) (o i : V) : Option V := match o, i with
  | .ref x, .int i => match μ x with
    | some (.list l) => idx l i
    | _ => none
  | .tup l, .int i => idx l i
  | .frz ns, .int i => if 0 ≤ i then (ns[i.toNat]?).map .int else none
  | .str x, .int i => if 0 ≤ i ∧ i < x.length ∧ x.length ≤ lim then some (.str (Txt.item x i)) else none
  | o, .str x => (asSd μ o).bind fun kvs => (sGet kvs x).map .int
  | _, _ => none
noncomputable def optW (r : Option V) (μ : Mem) (Q : V → Mem → Prop) : Prop := match r with
  | some v => Q v μ
  | none => False

noncomputable def cut (lo : Option Int) (hi : Option Int) (l : List V) : List V :=
  let k := match hi with | some u => l.take u.toNat | none => l
  match lo with | some i => k.drop i.toNat | none => k
noncomputable def nn (i : Option Int) : Prop := match i with | some i => 0 ≤ i | none => True
noncomputable def sliceW (μ : Mem) (o : V) (lo hi : Option Int) (Q : V → Mem → Prop) : Prop := match o with
  | .ref x => match μ x with
    | some (.list l) => nn lo ∧ nn hi ∧ newL μ (cut lo hi l) Q
    | _ => False
  | .tup l => match lo with
    | some i => 1 ≤ i ∧ i ≤ l.length ∧ nn hi ∧ Q (.tup (cut lo hi l)) μ
    | none => False
  | .str x => x.length ≤ lim ∧ Q (.str (Txt.slice x lo hi)) μ
  | _ => False

noncomputable def rngItems (lo hi step : Int) : List V :=
  if step = 1 then (List.range (hi - lo).toNat).map fun (i : Nat) => V.int (lo + i)
  else if step = -1 then (List.range (lo - hi).toNat).map fun (i : Nat) => V.int (lo - i)
  else []
noncomputable def itemsOf (μ : Mem) (v : V) : Option (List V) := match v with
  | .rng lo hi step => some (rngItems lo hi step)
  | .tup l => some l
  | .str x => if x.cps.all (· < 128) then some (x.cps.toList.map fun c => V.str ⟨#[c]⟩) else none
  | .ref x => match μ x with
    | some (.list l) => some l
    | _ => none
  | _ => none

noncomputable def tyO (μ : Mem) (v : V) : Option String := match v with
  | .none => some "NoneType"
  | .bool _ => some "bool"
  | .int _ => some "int"
  | .str _ => some "str"
  | .tup _ => some "tuple"
  | .ref x => match μ x with
    | some (.list _) => some "list"
    | _ => none
  | _ => none
noncomputable def isSub (x c : String) : Bool := x == c || c == "DebtError"
noncomputable def isiO (μ : Mem) (v : V) (c : Cl) : Option Bool := match c with
  | .ty n => match v with
    | .exc _ => if n = "ValueError" then some true else none
    | v => if n = "int" ∨ n = "bool" ∨ n = "str" ∨ n = "tuple" ∨ n = "list" then (tyO μ v).map fun t => t == n || (t == "bool" && n == "int") else none
  | .own n => match v with
    | .exc x => some (isSub x n)
    | _ => none
  | .owns ns => match v with
    | .exc x => some (ns.any fun n => isSub x n.1)
    | _ => none

noncomputable def sumO : List V → Option Int
  | [] => some 0
  | .int i :: r => (sumO r).map (i + ·)
  | _ => none
noncomputable def allO : List V → Option Bool
  | [] => some true
  | .bool b :: r => (allO r).map (b && ·)
  | _ => none

noncomputable def lenW (v : V) (μ : Mem) (Q : V → Mem → Prop) : Prop := match v with
  | .tup l => Q (.int l.length) μ
  | .frz ns => Q (.int ns.length) μ
  | .str x => x.length ≤ lim ∧ Q (.int x.length) μ
  | v => asL μ v fun _ l => Q (.int l.length) μ
noncomputable def mid (b : Int) : Prop := -2 ^ 62 < b ∧ b < 2 ^ 62
noncomputable def rngW (vs : List V) (μ : Mem) (Q : V → Mem → Prop) : Prop := match vs with
  | [a] => asInt a fun b => b ≤ lim ∧ -2 ^ 62 < b ∧ Q (.rng 0 b 1) μ
  | [a, b] => ints2 a b fun a b => b - a ≤ lim ∧ mid b ∧ mid a ∧ Q (.rng a b 1) μ
  | [a, b, c] => ints2 a b fun a b => asInt c fun c => c = -1 ∧ a - b ≤ lim ∧ mid b ∧ mid a ∧ Q (.rng a b (-1)) μ
  | _ => False
noncomputable def listW (hd : Bool) (v : V) (μ : Mem) (Q : V → Mem → Prop) : Prop := match v with
  | .rng lo hi st => hd = false ∧ st = 1 ∧ hi - lo ≤ lim ∧ mid lo ∧ mid hi ∧ newL μ (rngItems lo hi st) Q
  | v => asL μ v fun _ l => newL μ l Q
noncomputable def sumW (l : List V) (k : Int → Prop) : Prop := match sumO l with | some i => k i | none => False
noncomputable def cntO (k : Int) : List V → Option Nat
  | [] => some 0
  | .int i :: r => (cntO k r).map fun n => (if i = k then 1 else 0) + n
  | .none :: r => cntO k r
  | _ => none
noncomputable def cntW (k : Int) (l : List V) (K : Nat → Prop) : Prop := match cntO k l with | some n => K n | none => False
noncomputable def allW (l : List V) (k : Bool → Prop) : Prop := match allO l with | some b => k b | none => False
noncomputable def strOfW (v : V) (μ : Mem) (Q : V → Mem → Prop) : Prop := match v with
  | .int i => i.natAbs.log2 < 1920 ∧ Q (.str (Str.ofString (toString i))) μ
  | .str x => Q (.str x) μ
  | _ => False
noncomputable def bltnW (hd : Bool) (f : String) (vs : List V) (μ : Mem) (Q : V → Mem → Prop) : Prop :=
  if f = "len" then one vs fun v => lenW v μ Q
  else if f = "int" then one vs fun v => asS v fun x => x.length ≤ 640 ∧ optW ((intText? x).map .int) μ Q
  else if f = "str" then one vs fun v => strOfW v μ Q
  else if f = "tuple" then one vs fun v => asL μ v fun _ l => Q (.tup l) μ
  else if f = "min" then hd = false ∧ two vs fun a b => ints2 a b fun a b => Q (.int (min a b)) μ
  else if f = "max" then hd = false ∧ two vs fun a b => ints2 a b fun a b => Q (.int (max a b)) μ
  else if f = "range" then rngW vs μ Q
  else if f = "list" then one vs fun v => listW hd v μ Q
  else if f = "all" then hd = false ∧ one vs fun v => asL μ v fun _ l => allW l fun b => Q (.bool b) μ
  else if f = "sum" then hd = false ∧ one vs fun v => asL μ v fun _ l => sumW l fun i => Q (.int i) μ
  else False

structure Sig where
  fns : List String
  clss : List String
  attrs : List String
  meths : List (String × String)
  excs : List String
  consts : List (String × V)

inductive Cal where
  | own (f : String) (self : Addr)
  | lst (m : String) (a : Addr)
  | str (m : String) (x : Str)
noncomputable def calO (sg : Sig) (μ : Mem) (v : V) (m : String) : Option Cal := match v with
  | .ref x => match μ x with
    | some (.inst c d) => match μ d with
      | some (.attrs fs) => if (fs.lookup m).isNone && sg.meths.contains (c, m) then some (.own (c ++ "." ++ m) x) else none
      | _ => none
    | some (.list _) => if m = "append" ∨ m = "extend" ∨ m = "pop" ∨ m = "reverse" ∨ m = "clear" ∨ m = "count" then some (.lst m x) else none
    | _ => none
  | .str x => if m = "split" ∨ m = "rfind" ∨ m = "join" then some (.str m x) else none
  | _ => none
noncomputable def txts : List V → Option (List Str)
  | [] => some []
  | .str x :: r => (txts r).map (x :: ·)
  | _ => none
noncomputable def txtsW (l : List V) (k : List Str → Prop) : Prop := match txts l with | some ts => k ts | none => False
noncomputable def strW (m : String) (x : Str) (vs : List V) (μ : Mem) (Q : V → Mem → Prop) : Prop := one vs fun v =>
  if m = "split" then asS v fun y => y.length ≠ 0 ∧ x.length ≤ lim ∧ newL μ ((Txt.split x y).map V.str) Q
  else if m = "rfind" then asS v fun y => Q (.int (Txt.rfind x y)) μ
  else if m = "join" then asL μ v fun _ l => txtsW l fun ts => JoinOk x ts = true ∧ Q (.str (Txt.join x ts)) μ
  else False
noncomputable def lstW (m : String) (a : Addr) (vs : List V) (μ : Mem) (Q : V → Mem → Prop) : Prop := asL μ (.ref a) fun _ l =>
  if m = "append" then one vs fun v => l.length < lim ∧ Q .none (updM μ a (.list (l ++ [v])))
  else if m = "extend" then one vs fun v => asL μ v fun b k => b ≠ a ∧ l.length + k.length ≤ lim ∧ Q .none (updM μ a (.list (l ++ k)))
  else if m = "pop" then one vs fun v => asInt v fun i => 0 ≤ i ∧ (match l[i.toNat]? with | some v => Q v (updM μ a (.list (l.eraseIdx i.toNat))) | none => False)
  else if m = "reverse" then vs = [] ∧ Q .none (updM μ a (.list l.reverse))
  else if m = "clear" then vs = [] ∧ Q .none (updM μ a (.list []))
  else if m = "count" then one vs fun v => asInt v fun k => cntW k l fun n => Q (.int n) μ
  else False

inductive Fl where
  | next
  | ret (v : V)
/-- what follows a block -/
noncomputable def sq (R : Loc → Mem → Prop) (Q : Fl → Loc → Mem → Prop) : Fl → Loc → Mem → Prop := fun fl ρ μ => match fl with | .next => R ρ μ | .ret v => Q (.ret v) ρ μ
/-- loops, by what stands ahead of the turn k -/
noncomputable def capL (cs : List String) (ρ : Loc) : Loc := fun y => if cs.contains y then ρ y else none
/-- what a turn of a comprehension leaves: an item more, or none -/
noncomputable def compT (n : Addr) (J : Mem → Prop) (r : Option V) (μ' : Mem) : Prop := match r with
  | some r => ∃ acc, μ' n = some (.list acc) ∧ acc.length < lim ∧ J (updM μ' n (.list (acc ++ [r])))
  | none => J μ'
noncomputable def compI (n : Addr) (still : Mem → Prop) (B : V → Mem → (Option V → Mem → Prop) → Prop) (items : List V) (μ : Mem) (Q : Mem → Prop) : Prop :=
  ∃ I : Nat → Mem → Prop, I 0 μ ∧ (∀ k μ, I k μ → still μ) ∧ (∀ k v μ, items[k]? = some v → I k μ → B v μ (compT n (I (k + 1)))) ∧ ∀ μ, I items.length μ → Q μ
noncomputable def forI (still : Mem → Prop) (x : String) (B : Loc → Mem → (Fl → Loc → Mem → Prop) → Prop) (items : List V) (ρ : Loc) (μ : Mem) (Q : Fl → Loc → Mem → Prop) : Prop :=
  ∃ I : Nat → Loc → Mem → Prop, I 0 ρ μ ∧ (∀ k ρ μ, I k ρ μ → still μ) ∧ (∀ k v ρ μ, items[k]? = some v → I k ρ μ → B (updL ρ x v) μ (sq (I (k + 1)) Q)) ∧ ∀ ρ μ, I items.length ρ μ → Q .next ρ μ
noncomputable def whileI (T : Loc → Mem → (Bool → Mem → Prop) → Prop) (B : Loc → Mem → (Fl → Loc → Mem → Prop) → Prop) (ρ : Loc) (μ : Mem) (Q : Fl → Loc → Mem → Prop) : Prop :=
  ∃ I : Nat → Loc → Mem → Prop, (∃ n, I n ρ μ) ∧ ∀ n ρ μ, I n ρ μ → T ρ μ fun b μ₁ => br b (B ρ μ₁ (sq (fun ρ' μ' => ∃ m, m < n ∧ I m ρ' μ') Q)) (Q .next ρ μ₁)

section
variable (sg : Sig) (sc : Bool → Sc)

mutual
noncomputable def wpE (hd : Bool) : E → Loc → Mem → (V → Mem → Prop) → (String → Mem → Prop) → Prop
  | .none _, _, μ, Q, _ => Q .none μ
  | .bool b _, _, μ, Q, _ => Q (.bool b) μ
  | .int i _, _, μ, Q, _ => Q (.int i) μ
  | .str s _, _, μ, Q, _ => Q (.str (Str.ofString s)) μ
  | .loc x _, ρ, μ, Q, _ => optW (ρ x) μ Q
  | .glob x _, _, μ, Q, _ => optW (sg.consts.lookup x) μ Q
  | .bin op l r _, ρ, μ, Q, X => wpE hd l ρ μ (fun a μ₁ => wpE hd r ρ μ₁ (fun b μ₂ => binW op a b μ₂ Q) X) X
  | .neg e _, ρ, μ, Q, X => wpE hd e ρ μ (fun v μ₁ => asInt v fun i => Q (.int (-i)) μ₁) X
  | .not e _, ρ, μ, Q, X => wpE hd e ρ μ (fun v μ₁ => tr v fun b => Q (.bool (!b)) μ₁) X
  | .and es _, ρ, μ, Q, X => wpAnd hd es ρ μ Q X
  | .or es _, ρ, μ, Q, X => wpOr hd es ρ μ Q X
  | .cmp op l r _, ρ, μ, Q, X => wpE hd l ρ μ (fun a μ₁ => wpE hd r ρ μ₁ (fun b μ₂ => cmpW op μ₂ a b Q) X) X
  | .cmp2 op₁ op₂ a b c _, ρ, μ, Q, X => wpE hd a ρ μ (fun va μ₁ => wpE hd b ρ μ₁ (fun vb μ₂ => cmpW op₁ μ₂ va vb fun t μ₃ => tr t fun y =>
      br y (wpE hd c ρ μ₃ (fun vc μ₄ => cmpW op₂ μ₄ vb vc Q) X) (Q t μ₃)) X) X
  | .attr o a _, ρ, μ, Q, X => wpE hd o ρ μ (fun v μ₁ => optW (getA μ₁ v a) μ₁ Q) X
  | .sub o i _, ρ, μ, Q, X => wpE hd o ρ μ (fun v μ₁ => wpE hd i ρ μ₁ (fun j μ₂ => optW (subO μ₂ v j) μ₂ Q) X) X
  | .sliceL o l _ _, ρ, μ, Q, X => wpE hd o ρ μ (fun v μ₁ => wpE hd l ρ μ₁ (fun i μ₂ => asInt i fun i => sliceW μ₂ v (some i) none Q) X) X
  | .sliceU o u _ _, ρ, μ, Q, X => wpE hd o ρ μ (fun v μ₁ => wpE hd u ρ μ₁ (fun i μ₂ => asInt i fun i => sliceW μ₂ v none (some i) Q) X) X
  | .sliceLU o l u _ _, ρ, μ, Q, X => wpE hd o ρ μ (fun v μ₁ => wpE hd l ρ μ₁ (fun i μ₂ => wpE hd u ρ μ₂ (fun j μ₃ => asInt i fun i => asInt j fun j => sliceW μ₃ v (some i) (some j) Q) X) X) X
  | .tup es _ _, ρ, μ, Q, X => wpEs hd es ρ μ (fun vs μ₁ => Q (.tup vs) μ₁) X
  | .list es _, ρ, μ, Q, X => wpEs hd es ρ μ (fun vs μ₁ => newL μ₁ vs Q) X
  | .call f es _ _, ρ, μ, Q, X => wpEs hd es ρ μ (fun vs μ₁ => sc hd f vs μ₁ Q X) X
  | .new c es _ _, ρ, μ, Q, X => wpEs hd es ρ μ (fun vs μ₁ => ∀ a d, μ₁ a = none → μ₁ d = none → d ≠ a →
      sc hd (c ++ ".__init__") (.ref a :: vs) (updM (updM μ₁ d (.attrs [])) a (.inst c d)) (fun v μ₂ => (match v with | .none => True | _ => False) ∧ Q (.ref a) μ₂) X) X
  | .bltn f es _ _, ρ, μ, Q, X => wpEs hd es ρ μ (fun vs μ₁ => bltnW hd f vs μ₁ Q) X
  | .isi e c _ _ _, ρ, μ, Q, X => wpE hd e ρ μ (fun v μ₁ => match isiO μ₁ v c with | some b => Q (.bool b) μ₁ | none => False) X
  | .meth o m es _ _, ρ, μ, Q, X => wpE hd o ρ μ (fun v μ₁ => match calO sg μ₁ v m with
      | some (.own f a) => wpEs hd es ρ μ₁ (fun vs μ₂ => sc hd f (.ref a :: vs) μ₂ Q X) X
      | some (.lst m a) => wpEs hd es ρ μ₁ (fun vs μ₂ => lstW m a vs μ₂ Q) X
      | some (.str m x) => wpEs hd es ρ μ₁ (fun vs μ₂ => strW m x vs μ₂ Q) X
      | none => False) X
  | .comp elt x cs it ifs _ _ _, ρ, μ, Q, X => hd = false ∧ wpE hd it ρ μ (fun v μ₁ => match itemsOf μ₁ v with
      | some items => ∀ n, μ₁ n = none → compI n (fun μ' => itemsOf μ' v = some items) (fun w μ₂ k => wpIf hd ifs (updL (capL cs ρ) x w) μ₂ fun b μ₃ =>
          br b (wpE hd elt (updL (capL cs ρ) x w) μ₃ (fun r μ' => k (some r) μ') X) (k none μ₃)) items (updM μ₁ n (.list [])) (Q (.ref n))
      | none => False) X
  | .dlit kvs _, _, μ, Q, _ => ∀ n, μ n = none → n ≠ 1 → Q (.ref n) (updM μ n (.sd (kvs.map fun q => (q.1.1, q.2.1))))
noncomputable def wpIf (hd : Bool) : List E → Loc → Mem → (Bool → Mem → Prop) → Prop
  | [], _, μ, k => k true μ
  | e :: _, ρ, μ, k => wpE hd e ρ μ (fun v μ₁ => tr v fun b => k b μ₁) fun _ _ => False
noncomputable def wpEs (hd : Bool) : List E → Loc → Mem → (List V → Mem → Prop) → (String → Mem → Prop) → Prop
  | [], _, μ, Q, _ => Q [] μ
  | e :: es, ρ, μ, Q, X => wpE hd e ρ μ (fun v μ₁ => wpEs hd es ρ μ₁ (fun vs μ₂ => Q (v :: vs) μ₂) X) X
noncomputable def wpAnd (hd : Bool) : List E → Loc → Mem → (V → Mem → Prop) → (String → Mem → Prop) → Prop
  | [], _, _, _, _ => False
  | e :: es, ρ, μ, Q, X => match es with
    | [] => wpE hd e ρ μ Q X
    | _ :: _ => wpE hd e ρ μ (fun v μ₁ => tr v fun b => br b (wpAnd hd es ρ μ₁ Q X) (Q v μ₁)) X
noncomputable def wpOr (hd : Bool) : List E → Loc → Mem → (V → Mem → Prop) → (String → Mem → Prop) → Prop
  | [], _, _, _, _ => False
  | e :: es, ρ, μ, Q, X => match es with
    | [] => wpE hd e ρ μ Q X
    | _ :: _ => wpE hd e ρ μ (fun v μ₁ => tr v fun b => br b (Q v μ₁) (wpOr hd es ρ μ₁ Q X)) X
end

noncomputable def moreW (x : String) (ρ : Loc) (μ : Mem) (Q : Fl → Loc → Mem → Prop) : List (String × Pos × E × Pos × Pos) → Prop
  | [] => False
  | (c, _, e, _, _) :: r => if isSub x c then wpE sg sc true e ρ μ (fun v μ₁ => Q (.ret v) ρ μ₁) (fun _ _ => False) else moreW x ρ μ Q r

noncomputable def bindAll : List String → List V → Loc → Option Loc
  | [], [], ρ => some ρ
  | x :: xs, v :: vs, ρ => bindAll xs vs (updL ρ x v)
  | _, _, _ => none

mutual
noncomputable def wpS (hd : Bool) : S → Loc → Mem → (Fl → Loc → Mem → Prop) → (String → Loc → Mem → Prop) → Prop
  | .expr e _, ρ, μ, Q, X => wpE sg sc hd e ρ μ (fun _ μ₁ => Q .next ρ μ₁) (fun x μ₁ => X x ρ μ₁)
  | .assign x e _ _, ρ, μ, Q, X => wpE sg sc hd e ρ μ (fun v μ₁ => Q .next (updL ρ x v) μ₁) (fun x μ₁ => X x ρ μ₁)
  | .setattr o a e _ _, ρ, μ, Q, X => wpE sg sc hd e ρ μ (fun v μ₁ => wpE sg sc hd o ρ μ₁ (fun w μ₂ => match w with
      | .ref x => (match μ₂ x with
        | some (.inst _ d) => (match μ₂ d with
          | some (.attrs fs) => fs.length < 900 ∧ Q .next ρ (updM μ₂ d (.attrs (putA a v fs)))
          | _ => False)
        | _ => False)
      | _ => False) (fun x μ₁ => X x ρ μ₁)) (fun x μ₁ => X x ρ μ₁)
  | .setitem o i e _ _, ρ, μ, Q, X => wpE sg sc hd e ρ μ (fun v μ₁ => wpE sg sc hd o ρ μ₁ (fun w μ₂ => wpE sg sc hd i ρ μ₂ (fun j μ₃ => match w, j with
      | .ref x, .int k => (match μ₃ x with
        | some (.list l) => 0 ≤ k ∧ k < l.length ∧ Q .next ρ (updM μ₃ x (.list (l.set k.toNat v)))
        | _ => False)
      | _, _ => False) (fun x μ₁ => X x ρ μ₁)) (fun x μ₁ => X x ρ μ₁)) (fun x μ₁ => X x ρ μ₁)
  | .unpack xs e _ _ _, ρ, μ, Q, X => wpE sg sc hd e ρ μ (fun v μ₁ => asT v fun l => match bindAll (xs.map (·.1)) l ρ with
        | some ρ' => Q .next ρ' μ₁
        | none => False) (fun x μ₁ => X x ρ μ₁)
  | .ite c t f _, ρ, μ, Q, X => wpE sg sc hd c ρ μ (fun v μ₁ => tr v fun b => br b (wpSs hd t ρ μ₁ Q X) (wpSs hd f ρ μ₁ Q X)) (fun x μ₁ => X x ρ μ₁)
  | .for_ x it body _ _, ρ, μ, Q, X => hd = false ∧ wpE sg sc hd it ρ μ (fun v μ₁ => match itemsOf μ₁ v with
      | some items => forI (fun μ' => itemsOf μ' v = some items) x (fun ρ' μ' k => wpSs hd body ρ' μ' k X) items ρ μ₁ Q
      | none => False) (fun x μ₁ => X x ρ μ₁)
  | .while_ c body _, ρ, μ, Q, _ => whileI (fun ρ' μ' k => wpE sg sc hd c ρ' μ' (fun v μ₁ => tr v fun b => k b μ₁) fun _ _ => False) (fun ρ' μ' k => wpSs hd body ρ' μ' k fun _ _ _ => False) ρ μ Q
  | .ret e _, ρ, μ, Q, X => wpE sg sc hd e ρ μ (fun v μ₁ => Q (.ret v) ρ μ₁) (fun x μ₁ => X x ρ μ₁)
  | .raise c _ _ _ _ _, ρ, μ, _, X => hd = false ∧ X c ρ μ
  | .try_ body c as h more _ _ _, ρ, μ, Q, _ => hd = false ∧ wpSs false body ρ μ Q fun x ρ₁ μ₁ =>
      if isSub x c then wpSs true h (match as with | some n => updL ρ₁ n (.exc x) | none => ρ₁) μ₁ (fun fl ρ₂ μ₂ => Q fl (match as with | some _ => fun _ => none | none => ρ₂) μ₂) (fun _ _ _ => False)
      else moreW sg sc x ρ₁ μ₁ Q more
  | .pass _, ρ, μ, Q, _ => Q .next ρ μ
noncomputable def wpSs (hd : Bool) : List S → Loc → Mem → (Fl → Loc → Mem → Prop) → (String → Loc → Mem → Prop) → Prop
  | [], ρ, μ, Q, _ => Q .next ρ μ
  | s :: r, ρ, μ, Q, X => wpS hd s ρ μ (fun fl ρ₁ μ₁ => match fl with
      | .next => wpSs hd r ρ₁ μ₁ Q X
      | .ret v => Q (.ret v) ρ₁ μ₁) X
end
end
end Mine

set_option autoImplicit false
namespace Mine
open PySem

mutual
noncomputable def toE : E → Expr
  | .none p => .Constant .none 0 p
  | .bool b p => .Constant (.bool b) 0 p
  | .int i p => .Constant (.int i) 0 p
  | .str s p => .Constant (.str (Str.ofString s)) 0 p
  | .loc x p => .Name (Str.ofString x) p
  | .glob x p => .Name (Str.ofString x) p
  | .bin op l r p => .BinOp (toE l) op (toE r) p
  | .neg e p => .UnaryOp .USub (toE e) p
  | .not e p => .UnaryOp .Not (toE e) p
  | .and es p => .BoolOp .And (toEs es) p
  | .or es p => .BoolOp .Or (toEs es) p
  | .cmp op l r p => .Compare (toE l) [op] [toE r] p
  | .cmp2 op₁ op₂ a b c p => .Compare (toE a) [op₁, op₂] [toE b, toE c] p
  | .attr o a p => .Attribute (toE o) (Str.ofString a) p
  | .sub o i p => .Subscript (toE o) (toE i) p
  | .sliceL o l ps p => .Subscript (toE o) (.Slice (some (toE l)) none none ps) p
  | .sliceU o u ps p => .Subscript (toE o) (.Slice none (some (toE u)) none ps) p
  | .sliceLU o l u ps p => .Subscript (toE o) (.Slice (some (toE l)) (some (toE u)) none ps) p
  | .tup es k p => .Tuple (toEs es) k p
  | .list es p => .List (toEs es) p
  | .call f es pf p => .Call (.Name (Str.ofString f) pf) (toEs es) [] p
  | .new c es pf p => .Call (.Name (Str.ofString c) pf) (toEs es) [] p
  | .bltn f es pf p => .Call (.Name (Str.ofString f) pf) (toEs es) [] p
  | .isi e c pf pc p => .Call (.Name (Str.ofString "isinstance") pf) [toE e, match c with
      | .ty n => .Name (Str.ofString n) pc
      | .own n => .Name (Str.ofString n) pc
      | .owns ns => .Tuple (ns.map fun n => .Name (Str.ofString n.1) n.2) 0 pc] [] p
  | .meth o m es pa p => .Call (.Attribute (toE o) (Str.ofString m) pa) (toEs es) [] p
  | .dlit kvs p => .Dict (kvs.map fun q => some (.Constant (.str (Str.ofString q.1.1)) 0 q.1.2)) (kvs.map fun q => .Constant (.int q.2.1) 0 q.2.2) p
  | .comp elt x _ it ifs sc px p => .ListComp (toE elt) [⟨.Name (Str.ofString x) px, toE it, toEs ifs, 0⟩] sc p
noncomputable def toEs : List E → List Expr
  | [] => []
  | e :: es => toE e :: toEs es
end

noncomputable def toMore : List (String × Pos × E × Pos × Pos) → List ExceptHandler
  | [] => []
  | (c, pc, e, pr, ph) :: r => .ExceptHandler (some (.Name (Str.ofString c) pc)) none [.Return (some (toE e)) pr] ph :: toMore r

mutual
noncomputable def toS : S → Stmt
  | .expr e p => .Expr (toE e) p
  | .assign x e px p => .Assign [.Name (Str.ofString x) px] (toE e) p
  | .setattr o a e pa p => .Assign [.Attribute (toE o) (Str.ofString a) pa] (toE e) p
  | .setitem o i e ps p => .Assign [.Subscript (toE o) (toE i) ps] (toE e) p
  | .unpack xs e k pt p => .Assign [.Tuple (xs.map fun x => .Name (Str.ofString x.1) x.2) k pt] (toE e) p
  | .ite c t f p => .If (toE c) (toSs t) (toSs f) p
  | .for_ x it body px p => .For (.Name (Str.ofString x) px) (toE it) (toSs body) [] p
  | .while_ c body p => .While (toE c) (toSs body) [] p
  | .ret e p => .Return (some (toE e)) p
  | .raise c m pf pm pc p => .Raise (some (.Call (.Name (Str.ofString c) pf) [.Constant (.str (Str.ofString m)) 0 pm] [] pc)) none p
  | .try_ body c as h more pc ph p => .Try (toSs body) (.ExceptHandler (some (.Name (Str.ofString c) pc)) (as.map Str.ofString) (toSs h) ph :: toMore more) [] [] p
  | .pass p => .Pass p
noncomputable def toSs : List S → List Stmt
  | [] => []
  | s :: r => toS s :: toSs r
end
end Mine

set_option autoImplicit false
namespace Mine
set_option linter.unusedVariables false
open PySem PySem.W PySem.Calls PyProof.Rows

/-! The tie between the abstract memory and the model's heap. -/

structure Ctx where
  prog : Program
  w : World
  K : Frag
  base : Heap
  cls : String → Option Addr
  exc : String → Option Addr
  fn : String → Option Addr

noncomputable def RngOk (lo hi st : Int) : Prop := (-2 ^ 62 < lo ∧ lo < 2 ^ 62) ∧ (-2 ^ 62 < hi ∧ hi < 2 ^ 62) ∧ (st = 1 ∨ st = -1)

inductive SdAre : List (Str × Value) → List (String × Int) → Prop
  | nil : SdAre [] []
  | cons {k : String} {i : Int} {t : Tok} {rs : List (Str × Value)} {kvs : List (String × Int)} : SdAre rs kvs → SdAre ((Str.ofString k, .int i t) :: rs) ((k, i) :: kvs)

mutual
inductive RV (c : Ctx) (h : Heap) : Value → V → Prop
  | none : RV c h .none .none
  | bool (b : Bool) : RV c h (.bool b) (.bool b)
  | int (i : Int) (t : Tok) : RV c h (.int i t) (.int i)
  | str (x : Str) (t : Tok) : RV c h (.str x t) (.str x)
  | tup {a : Addr} {o : Obj} {vs : Array Value} {n : Nat} {l : List V} : h.get? a = some o → o.cls = .type "tuple" → o.data = .seq vs n → RVs c h vs.toList l → l.length ≤ lim → RV c h (.ref a) (.tup l)
  | ref (a : Addr) : RV c h (.ref a) (.ref a)
  | rng {a : Addr} {lo hi st : Int} {t₁ t₂ t₃ : Tok} : h.get? a = some { cls := .type "range", dict := none, data := .fields #[.int lo t₁, .int hi t₂, .int st t₃], slots := #[] } → RngOk lo hi st → RV c h (.ref a) (.rng lo hi st)
  | exc {a : Addr} {o : Obj} {C : Addr} {x : String} {vs : Array Value} : h.get? a = some o → o.cls = .ref C → o.data = .fields vs → c.exc x = some C → RV c h (.ref a) (.exc x)
  | gd {a : Addr} {rs : List (Str × Value)} {kvs : List (String × Int)} : c.base.DictOf (strKind c.prog c.w) a rs → SdAre rs kvs → (a == sysModules) = false → RV c h (.ref a) (.gd kvs)
  | frz {a : Addr} {o : Obj} {vs : Array Value} {n : Nat} {ns : List Int} : c.base.get? a = some o → o.cls = .type "list" → o.data = .seq vs n → IntsAre vs.toList ns → ns.length ≤ lim → RV c h (.ref a) (.frz ns)
inductive RVs (c : Ctx) (h : Heap) : List Value → List V → Prop
  | nil : RVs c h [] []
  | cons {v : Value} {vs : List Value} {x : V} {xs : List V} : RV c h v x → RVs c h vs xs → RVs c h (v :: vs) (x :: xs)
end

inductive RFs (c : Ctx) (h : Heap) : List DictEntry → List (String × V) → Prop
  | nil : RFs c h [] []
  | cons {hs : Int} {t : Tok} {rv : Value} {x : String} {v : V} {es : List DictEntry} {fs : List (String × V)} : hs = PyData.keyHash c.w.params (Str.ofString x) → RV c h rv v → RFs c h es fs →
      RFs c h (⟨hs, .str (Str.ofString x) t, rv⟩ :: es) ((x, v) :: fs)

inductive RO (c : Ctx) (h : Heap) : Obj → O → Prop
  | list {vs : Array Value} {n : Nat} {l : List V} : RVs c h vs.toList l → l.length ≤ lim → RO c h { cls := .type "list", data := .seq vs n } (.list l)
  | inst {C d : Addr} {x : String} : c.cls x = some C → RO c h (instObj C d) (.inst x d)
  | attrs {es : List DictEntry} {n : Nat} {fs : List (String × V)} : RFs c h es fs → RO c h (dictOf es n) (.attrs fs)
  | sd {ob : Obj} {es : Array DictEntry} {ep : Nat} {rs : List (Str × Value)} {l : List (String × Int)} : ob.ExactDict → ob.data = .dict es ep → KeysOf (strKind c.prog c.w) es → Pairs (strKind c.prog c.w) es.toList rs → (rs.map (·.1)).Nodup → SdAre rs l → RO c h ob (.sd l)

structure Rel (c : Ctx) (μ : Mem) (h : Heap) : Prop where
  base : c.base.StaysIn h
  mem : ∀ a o, μ a = some o → c.base.get? a = none ∧ ∃ ob, h.get? a = some ob ∧ RO c h ob o

/-- h' keeps what h has off the memory: exactly, but the frames fr, which may turn their slots -/
noncomputable def Kept (fr : List Addr) (μ μ' : Mem) (h h' : Heap) : Prop :=
  ∀ b o, h.get? b = some o → μ b = none → μ' b = none ∧ ∃ sl, h'.get? b = some { o with slots := sl } ∧ (b ∉ fr ∨ (∃ vs, o.data = .fields vs) → sl = o.slots)

theorem Kept.refl (fr : List Addr) (μ : Mem) (h : Heap) : Kept fr μ μ h h := fun _ o e hm => ⟨hm, o.slots, e, fun _ => rfl⟩
theorem Kept.trans {fr : List Addr} {μ₁ μ₂ μ₃ : Mem} {h₁ h₂ h₃ : Heap} (x : Kept fr μ₁ μ₂ h₁ h₂) (y : Kept fr μ₂ μ₃ h₂ h₃) : Kept fr μ₁ μ₃ h₁ h₃ := fun b o e hm => by
  obtain ⟨m₂, sl, e₂, n₂⟩ := x b o e hm
  obtain ⟨m₃, sl', e₃, n₃⟩ := y b _ e₂ m₂
  exact ⟨m₃, sl', e₃, fun hb => (n₃ hb).trans (n₂ hb)⟩
theorem Kept.of_keeps {fr : List Addr} {μ μ' : Mem} {h h' : Heap} (k : ∀ b o, h.get? b = some o → μ b = none → h'.get? b = some o) (m : ∀ b o, h.get? b = some o → μ b = none → μ' b = none) : Kept fr μ μ' h h' :=
  fun b o e hm => ⟨m b o e hm, o.slots, k b o e hm, fun _ => rfl⟩
theorem Kept.exact {fr : List Addr} {μ μ' : Mem} {h h' : Heap} (x : Kept fr μ μ' h h') {b : Addr} {o : Obj} (e : h.get? b = some o) (hm : μ b = none) (hb : b ∉ fr) : h'.get? b = some o := by
  obtain ⟨_, sl, e', n⟩ := x b o e hm
  rw [n (.inl hb)] at e'; exact e'

theorem RO.cls_ne {c : Ctx} {h : Heap} {ob : Obj} {o : O} (x : RO c h ob o) {T : String} (e : ob.cls = .type T) : T = "list" ∨ T = "dict" := by
  cases x with
  | list _ _ => exact .inl (by injection e with e; exact e.symm)
  | inst _ => cases e
  | attrs _ => exact .inr (by injection e with e; exact e.symm)
  | sd x _ _ _ _ _ => rw [x.1] at e; exact .inr (by injection e with e; exact e.symm)
theorem RO.fields_ne {c : Ctx} {h : Heap} {ob : Obj} {o : O} (x : RO c h ob o) (vs : Array Value) : ob.data ≠ .fields vs := by
  intro e
  cases x with
  | sd _ q _ _ _ _ => rw [q] at e; cases e
  | _ => cases e

theorem Rel.none_of_cls {c : Ctx} {μ : Mem} {h : Heap} (r : Rel c μ h) {a : Addr} {ob : Obj} {T : String} (e : h.get? a = some ob) (hc : ob.cls = .type T) (h1 : T ≠ "list") (h2 : T ≠ "dict") : μ a = none := by
  cases q : μ a with
  | none => rfl
  | some o =>
    obtain ⟨_, ob', e', ro⟩ := r.mem a o q
    rw [e] at e'; cases e'
    rcases ro.cls_ne hc with q | q
    · exact absurd q h1
    · exact absurd q h2
theorem Rel.none_of_fields {c : Ctx} {μ : Mem} {h : Heap} (r : Rel c μ h) {a : Addr} {ob : Obj} {vs : Array Value} (e : h.get? a = some ob) (hd : ob.data = .fields vs) : μ a = none := by
  cases q : μ a with
  | none => rfl
  | some o =>
    obtain ⟨_, ob', e', ro⟩ := r.mem a o q
    rw [e] at e'; cases e'
    exact absurd hd (ro.fields_ne vs)
/-- what a value reads is kept where objects keep their class and data -/
noncomputable def Sees (μ : Mem) (h h' : Heap) : Prop := ∀ b o, h.get? b = some o → μ b = none → ∃ sl, h'.get? b = some { o with slots := sl } ∧ ((∃ vs, o.data = .fields vs) → sl = o.slots)
theorem Kept.sees {fr : List Addr} {μ μ' : Mem} {h h' : Heap} (x : Kept fr μ μ' h h') : Sees μ h h' := fun b o e hm => let ⟨_, sl, e', n⟩ := x b o e hm; ⟨sl, e', fun q => n (.inr q)⟩
theorem Sees.of_keeps {μ : Mem} {h h' : Heap} (k : ∀ b o, h.get? b = some o → μ b = none → h'.get? b = some o) : Sees μ h h' := fun b o e hm => ⟨o.slots, k b o e hm, fun _ => rfl⟩

mutual
theorem RV.mono {c : Ctx} {μ : Mem} {h h' : Heap} (r : Rel c μ h) (k : Sees μ h h') : ∀ {v : Value} {x : V}, RV c h v x → RV c h' v x
  | _, _, .none => .none
  | _, _, .bool b => .bool b
  | _, _, .int i t => .int i t
  | _, _, .str x t => .str x t
  | _, _, .tup e hc hd hl hz => by
    obtain ⟨sl, e', _⟩ := k _ _ e (r.none_of_cls e hc (by decide) (by decide))
    exact .tup e' hc hd (RVs.mono r k hl) hz
  | _, _, .ref a => .ref a
  | _, _, .rng e ok => by
    obtain ⟨sl, e', n⟩ := k _ _ e (r.none_of_fields e rfl)
    rw [n ⟨_, rfl⟩] at e'
    exact .rng e' ok
  | _, _, .exc e hc hd hx => by
    obtain ⟨sl, e', _⟩ := k _ _ e (r.none_of_fields e hd)
    exact .exc e' hc hd hx
  | _, _, .gd h1 h2 h3 => .gd h1 h2 h3
  | _, _, .frz e hc hd hi hz => .frz e hc hd hi hz
theorem RVs.mono {c : Ctx} {μ : Mem} {h h' : Heap} (r : Rel c μ h) (k : Sees μ h h') : ∀ {vs : List Value} {xs : List V}, RVs c h vs xs → RVs c h' vs xs
  | _, _, .nil => .nil
  | _, _, .cons hv hr => .cons (RV.mono r k hv) (RVs.mono r k hr)
end
theorem RFs.mono {c : Ctx} {μ : Mem} {h h' : Heap} (r : Rel c μ h) (k : Sees μ h h') {es : List DictEntry} {fs : List (String × V)} (x : RFs c h es fs) : RFs c h' es fs := by
  induction x with
  | nil => exact .nil
  | cons e hv _ ih => exact .cons e (hv.mono r k) ih
theorem RO.mono {c : Ctx} {μ : Mem} {h h' : Heap} (r : Rel c μ h) (k : Sees μ h h') {ob : Obj} {o : O} (x : RO c h ob o) : RO c h' ob o := by
  cases x with
  | list hl hz => exact .list (hl.mono r k) hz
  | inst e => exact .inst e
  | attrs hf => exact .attrs (hf.mono r k)
  | sd h1 h2 h3 h4 h5 h6 => exact .sd h1 h2 h3 h4 h5 h6

theorem RVs.length {c : Ctx} {h : Heap} : ∀ {vs : List Value} {xs : List V}, RVs c h vs xs → vs.length = xs.length
  | _, _, .nil => rfl
  | _, _, .cons _ r => by simp [r.length]
theorem RVs.get {c : Ctx} {h : Heap} : ∀ {vs : List Value} {xs : List V}, RVs c h vs xs → ∀ {i : Nat} {x : V}, xs[i]? = some x → ∃ v, vs[i]? = some v ∧ RV c h v x
  | _, _, .nil, _, _, e => by simp at e
  | _, _, .cons hv hr, 0, _, e => by simp at e; subst e; exact ⟨_, rfl, hv⟩
  | _, _, .cons hv hr, i + 1, _, e => by
    simp at e
    obtain ⟨v, h1, h2⟩ := hr.get e
    exact ⟨v, by simpa using h1, h2⟩
theorem RVs.append {c : Ctx} {h : Heap} : ∀ {vs us : List Value} {xs ys : List V}, RVs c h vs xs → RVs c h us ys → RVs c h (vs ++ us) (xs ++ ys)
  | _, _, _, _, .nil, k => k
  | _, _, _, _, .cons hv hr, k => .cons hv (hr.append k)
theorem RVs.take {c : Ctx} {h : Heap} (n : Nat) : ∀ {vs : List Value} {xs : List V}, RVs c h vs xs → RVs c h (vs.take n) (xs.take n) := by
  induction n with
  | zero => intro vs xs _; simp; exact .nil
  | succ n ih => intro vs xs hr; cases hr with
    | nil => simp; exact .nil
    | cons hv hr => simp; exact .cons hv (ih hr)
theorem RVs.drop {c : Ctx} {h : Heap} (n : Nat) : ∀ {vs : List Value} {xs : List V}, RVs c h vs xs → RVs c h (vs.drop n) (xs.drop n) := by
  induction n with
  | zero => intro vs xs hr; simpa using hr
  | succ n ih => intro vs xs hr; cases hr with
    | nil => simp; exact .nil
    | cons hv hr => simpa using ih hr
theorem RVs.set {c : Ctx} {h : Heap} {v : Value} {x : V} (hx : RV c h v x) : ∀ {vs : List Value} {xs : List V} (n : Nat), RVs c h vs xs → RVs c h (vs.set n v) (xs.set n x)
  | _, _, _, .nil => .nil
  | _, _, 0, .cons hv hr => .cons hx hr
  | _, _, n + 1, .cons hv hr => .cons hv (hr.set hx n)
theorem RVs.eraseIdx {c : Ctx} {h : Heap} : ∀ {vs : List Value} {xs : List V} (n : Nat), RVs c h vs xs → RVs c h (vs.eraseIdx n) (xs.eraseIdx n)
  | _, _, _, .nil => .nil
  | _, _, 0, .cons hv hr => hr
  | _, _, n + 1, .cons hv hr => .cons hv (hr.eraseIdx n)
theorem RVs.reverse {c : Ctx} {h : Heap} {vs : List Value} {xs : List V} (hr : RVs c h vs xs) : RVs c h vs.reverse xs.reverse := by
  induction hr using RVs.rec (motive_1 := fun _ _ _ => True) with
  | nil => exact .nil
  | cons hv _ _ ih => simp only [List.reverse_cons]; exact ih.append (.cons hv .nil)
  | _ => trivial

/-- the memory goes with a heap that keeps all -/
theorem Rel.keeps {c : Ctx} {μ : Mem} {h h' : Heap} (r : Rel c μ h) (k : ∀ b o, h.get? b = some o → h'.get? b = some o) : Rel c μ h' :=
  ⟨fun b o e => k b o (r.base b o e), fun a o e => let ⟨n, ob, e', ro⟩ := r.mem a o e; ⟨n, ob, k _ _ e', ro.mono r (.of_keeps fun b o e _ => k b o e)⟩⟩

/-- a new object under a new address -/
theorem Rel.alloc {c : Ctx} {μ : Mem} {h h' : Heap} (r : Rel c μ h) (k : ∀ b o, h.get? b = some o → h'.get? b = some o) {a : Addr} {ob : Obj} {o : O} (hn : h.get? a = none) (ha : h'.get? a = some ob) (ro : RO c h' ob o) : Rel c (updM μ a o) h' := by
  have r' := r.keeps k
  refine ⟨r'.base, fun b q e => ?_⟩
  unfold updM at e
  split at e
  · rename_i hb; subst hb; cases e
    refine ⟨?_, ob, ha, ro⟩
    cases q : c.base.get? b with
    | none => rfl
    | some x => have := r.base b x q; rw [hn] at this; cases this
  · exact r'.mem b q e
theorem Rel.free {c : Ctx} {μ : Mem} {h : Heap} (r : Rel c μ h) {a : Addr} (hn : h.get? a = none) : μ a = none := by
  cases q : μ a with
  | none => rfl
  | some o => obtain ⟨_, ob, e, _⟩ := r.mem a o q; rw [hn] at e; cases e

/-- an object of the memory is changed -/
theorem Rel.store {c : Ctx} {μ : Mem} {h h' : Heap} {a : Addr} {o₀ : O} (r : Rel c μ h) (h0 : μ a = some o₀) (k : ∀ b, b ≠ a → h'.get? b = h.get? b) {ob : Obj} {o : O} (ha : h'.get? a = some ob) (ro : RO c h ob o) : Rel c (updM μ a o) h' := by
  obtain ⟨nb, ob₀, e₀, ro₀⟩ := r.mem a o₀ h0
  have sees : Sees μ h h' := .of_keeps fun b o e hm => (k b fun q => by rw [q, h0] at hm; cases hm).trans e
  refine ⟨fun b x e => (k b fun q => by rw [q, nb] at e; cases e).trans (r.base b x e), fun b q e => ?_⟩
  unfold updM at e
  split at e
  · rename_i hb; subst hb; cases e
    exact ⟨nb, ob, ha, ro.mono r sees⟩
  · rename_i hb
    obtain ⟨n, ob', e', ro'⟩ := r.mem b q e
    exact ⟨n, ob', (k b hb).trans e', ro'.mono r sees⟩

theorem Rel.sdt {c : Ctx} {μ : Mem} {h : Heap} (r : Rel c μ h) {x : Addr} {l : List (String × Int)} (hl : μ x = some (.sd l)) :
    ∃ rs : List (Str × Value), h.DictOf (strKind c.prog c.w) x rs ∧ SdAre rs l := by
  obtain ⟨_, ob, e, ro⟩ := r.mem x _ hl
  cases ro with
  | sd h1 h2 h3 h4 h5 h6 => exact ⟨_, ⟨ob, _, _, e, h1, h2, h3, h4, h5⟩, h6⟩
end Mine

set_option autoImplicit false
namespace Mine
open PySem PySem.Calls PyProof.Rows

/-- an exception whose context is none -/
noncomputable def NoCx (h : Heap) (e : Addr) : Prop := ∃ oe vs, h.get? e = some oe ∧ oe.data = .fields vs ∧ vs[2]? = some .none
noncomputable def FlyC (base : Heap) (l : List Env) (e : Addr) (cls a0 : Value) (h : Heap) : Prop := Heap.FlyingW base l e cls a0 h ∧ NoCx h e
noncomputable def HeldC (base : Heap) (l : List Env) (e : Addr) (cls a0 : Value) (L : Addr) (h : Heap) : Prop := Heap.HeldW base l e cls a0 L h ∧ NoCx h e

section
variable {M : Model} {A : Around} {E : Value → Shared → Prop} {s : Shared} {base : Heap} {env : Env} {outer l : List Env} {L e : Addr} {oe : Obj} {vs : Array Value} {cls a0 : Value} {h' : Heap} {Q : Unit → Shared → Prop}

/-- what the traceback's new row leaves: the exception's second field new, all else as it was but for the slots of frames -/
structure Row (fr : List Addr) (e L : Addr) (oe : Obj) (h h' : Heap) : Prop where
  row : ∃ T oT ts, h.get? T = none ∧ h'.get? T = some oT ∧ oT.data = .fields ts ∧ ts[3]? = some (rawInt L) ∧ h'.get? e = some (oe.mapFields (·.setIfInBounds 1 (.ref T)))
  rest : ∀ b o, b ≠ e → h.get? b = some o → ∃ sl, h'.get? b = some { o with slots := sl } ∧ (b ∉ fr → sl = o.slots)

theorem entryC {head : Value} {hadNext : Bool} (hfr : A.frames = some (env :: outer)) (hl : s.heap.FunFrames base (env :: outer)) (hf : env.frame = some L) (he : s.heap.get? e = some oe) (hd : oe.data = .fields vs) (hsz : 1 < vs.size)
    (h : ∀ h', Row ((env :: outer).filterMap (·.frame)) e L oe s.heap h' → Q () { s with heap := h' }) :
    wpAny M A (do let a ← frameOf env; let pl ← entryPlaceOf L hadNext; let b ← EntryCells.newEntry head a .none (rawInt L) .none pl; setField (.ref e) 1 b) Q E s := by
  have ne : e ∉ (env :: outer).filterMap (·.frame) := fun hm => by
    obtain ⟨_, o, ho, hnf⟩ := hl.mem hm
    rw [he] at ho; cases ho; exact hnf vs hd
  refine wpAny_bind (wpAny_frameOf_fun hfr hl hf fun h₁ hs₁ => wpAny_bind (wpAny_entryPlaceOf fun pl hpl => ?_))
  have he₁ : h₁.get? e = some oe := (hs₁.2.1 e ne).trans he
  unfold EntryCells.newEntry newFields
  refine wpAny_bind (wpAny_newObj_type ?_ (hpl.sizeOk5 _ _ _ _ _))
  generalize hob : ({ cls := .type "traceback", dict := none, data := .fields ([head, .ref L, .none, rawInt L, .none] ++ (if pl.isEmpty then List.replicate 6 Value.none else pl)).toArray } : Obj) = ob
  have he₂ := Heap.get?_push_of_some (h := h₁) ob he₁
  refine wpAny_setField he₂ hd hsz (h _ ?_)
  have hTe : h₁.objs.size ≠ e := Nat.ne_of_gt (Heap.lt_size he₁)
  have hd₃ := Obj.data_mapFields hd (·.setIfInBounds 1 (Value.ref h₁.objs.size))
  have fresh : s.heap.get? h₁.objs.size = none := by
    cases q : s.heap.get? h₁.objs.size with
    | none => rfl
    | some o => obtain ⟨sl, hs⟩ := hs₁.2.2 _ o q; exact absurd (Heap.lt_size hs) (Nat.lt_irrefl _)
  refine ⟨⟨h₁.objs.size, ob, _, fresh, (Heap.get?_update_other _ _ (Ne.symm hTe)).trans (Heap.get?_push_size h₁ (by rw [← hob]; rfl)), by rw [← hob], ?_, Heap.get?_update_self _ he₂ (Obj.isFreed_of_fields hd₃)⟩, fun b o hbe hb => ?_⟩
  · rcases hpl with rfl | ⟨_, _, _, _, _, _, _, rfl⟩ <;> simp
  · obtain ⟨sl, hs⟩ := hs₁.2.2 b o hb
    refine ⟨sl, (Heap.get?_update_other _ _ (Ne.symm hbe)).trans (Heap.get?_push_of_some _ hs), fun hn => ?_⟩
    have := (hs₁.2.1 b hn).trans hb
    rw [hs] at this
    exact congrArg Obj.slots (Option.some.inj this)

theorem Row.held {a0 : Value} (R : Row ((env :: outer).filterMap (·.frame)) e L oe s.heap h') (hl : s.heap.FunFrames base (env :: outer)) (he : s.heap.get? e = some oe) (hd : oe.data = .fields vs) (hkb : base.StaysIn s.heap) (hen : base.get? e = none) (hsz : 1 < vs.size) (h0 : vs[0]? = some a0) (h2 : vs[2]? = some .none) :
    HeldC base (env :: outer) e oe.cls a0 L h' ∧ s.heap.UpToSlots h' := by
  obtain ⟨T, oT, ts, nT, hT, dT, t3, he'⟩ := R.row
  have hd' := Obj.data_mapFields hd (·.setIfInBounds 1 (Value.ref T))
  have recs : ∀ b o, s.heap.get? b = some o → (∀ vs, o.data ≠ .fields vs) → ∃ sl, h'.get? b = some { o with slots := sl } := fun b o hb hnf => by
    obtain ⟨sl, hs, _⟩ := R.rest b o (fun q => by rw [q, he] at hb; cases hb; exact hnf vs hd) hb
    exact ⟨sl, hs⟩
  refine ⟨⟨⟨fun b o hb => ?_, hen, hl.of_keeps fun b o hb hnf => ?_, ?_⟩, ?_⟩, recs⟩
  · have hs := hkb b o hb
    obtain ⟨sl, hs', q⟩ := R.rest b o (fun q => by rw [q, hen] at hb; cases hb) hs
    rw [q fun hm => by rw [(hl.mem hm).1] at hb; cases hb] at hs'
    exact hs'
  · obtain ⟨sl, hs⟩ := recs b o hb hnf
    exact ⟨_, hs, rfl⟩
  · refine ⟨_, _, T, oT, ts, he', ⟨Obj.cls_mapFields _ _, by rw [Array.getElem?_setIfInBounds_ne (by decide)]; exact h0⟩, hd', by simp [hsz], ?_, (fun q => by rw [q, he] at nT; cases nT), hT, dT, t3⟩
    cases q : base.get? T with
    | none => rfl
    | some o => have := hkb T o q; rw [nT] at this; cases this
  · exact ⟨_, _, he', hd', by rw [Array.getElem?_setIfInBounds_ne (by decide)]; exact h2⟩

/-- the flight's end: the row's own object alone is changed -/
theorem flightC {fl : Value} (hkb : base.StaysIn s.heap) (hen : base.get? e = none) (hl : s.heap.FunFrames base l) (ht : s.heap.TracedAtW base e cls a0 fl) (hn : NoCx s.heap e)
    (h : ∀ h', FlyC base l e cls a0 h' → s.heap.UpToSlots h' → Q () { s with heap := h' }) : wpAny M A (setFlight (.ref e) none) Q E s := by
  obtain ⟨oe, vs, T, oT, ts, he, hc, hd, h1, hnT, hTe, hT, hdT, h3⟩ := ht
  obtain ⟨oe', vs', he2, hd2, h2⟩ := hn
  rw [he] at he2; cases he2; rw [hd] at hd2; cases hd2
  have hsz : 3 < ts.size := (Array.getElem?_eq_some_iff.mp h3).1
  have other : ∀ b, b ≠ T → (s.heap.update T (Obj.mapFields (·.setIfInBounds 3 ((none : Option Addr).elim Value.none fun f => rawInt f)))).get? b = s.heap.get? b := fun b hb => Heap.get?_update_other _ _ (Ne.symm hb)
  have recs : ∀ b o, s.heap.get? b = some o → (∀ vs, o.data ≠ .fields vs) → (s.heap.update T (Obj.mapFields (·.setIfInBounds 3 ((none : Option Addr).elim Value.none fun f => rawInt f)))).get? b = some o := fun b o hb hnf =>
    (other b fun q => by rw [q, hT] at hb; cases hb; exact hnf ts hdT).trans hb
  have he' := (other e (Ne.symm hTe)).trans he
  unfold setFlight
  refine wpAny_bind (wpAny_field he hd h1 ?_)
  rw [if_pos (show (Value.ref T != Value.none) = true from by simp)]
  refine wpAny_setField hT hdT hsz (h _ ⟨⟨fun b o hb => (other b fun q => by rw [q, hnT] at hb; cases hb).trans (hkb b o hb), hen, hl.of_keeps fun b o hb hnf => ⟨o, recs b o hb hnf, rfl⟩, ?_⟩, ⟨oe, vs, he', hd, h2⟩⟩ fun b o hb hnf => ⟨o.slots, recs b o hb hnf⟩)
  exact ⟨oe, vs, T, _, _, he', hc, hd, h1, hnT, hTe, Heap.get?_update_self _ hT (Obj.isFreed_of_fields (Obj.data_mapFields hdT _)), Obj.data_mapFields hdT _, by simp [hsz]⟩

theorem landsC (hh : HeldC base l e cls a0 L s.heap) (hQ : ∀ h', FlyC base l e cls a0 h' → s.heap.UpToSlots h' → Q () { s with heap := h' }) : wpAny M A (setFlight (.ref e) none) Q E s := flightC hh.1.1 hh.1.2.1 hh.1.2.2.1 hh.1.2.2.2 hh.2 hQ
theorem lands_againC (hh : FlyC base l e cls a0 s.heap) (hQ : ∀ h', FlyC base l e cls a0 h' → s.heap.UpToSlots h' → Q () { s with heap := h' }) : wpAny M A (setFlight (.ref e) none) Q E s := flightC hh.1.1 hh.1.2.1 hh.1.2.2.1 hh.1.2.2.2.at hh.2 hQ

theorem leaves_madeC {h : Heap} {args : List Value} (hfr : A.frames = some (env :: outer)) (hf : env.frame = some L) (hkb : base.StaysIn h) (hl : h.FunFrames base (env :: outer)) (hx : Heap.MadeExcOf h s.heap e cls args)
    (hQ : ∀ h' t, FlyC base outer e cls (.ref t) h' → s.heap.UpToSlots h' → Q () { s with heap := h' }) : wpAny M A (leaving env (.ref e)) Q E s := by
  obtain ⟨t, he, htn, ht⟩ := hx.there
  have hen : base.get? e = none := by
    cases q : base.get? e with
    | none => rfl
    | some o => have := hkb e o q; rw [hx.new] at this; cases this
  have hl' := hl.of_keeps (h' := s.heap) fun b o hb _ => ⟨o, hx.keeps b o hb, rfl⟩
  unfold leaving noteFrame
  simp only [hf]
  refine wpAny_bind (wpAny_bind (wpAny_field he rfl (x := .none) rfl ?_))
  rw [if_neg (by decide)]
  refine entryC hfr hl' hf he rfl (show 1 < 6 by decide) fun h₁ R => ?_
  obtain ⟨x, up₁⟩ := R.held (a0 := .ref t) hl' he rfl (fun b o hb => hx.keeps b o (hkb b o hb)) hen (show 1 < 6 by decide) rfl rfl
  exact landsC x fun h₂ y up₂ => hQ h₂ t ⟨⟨y.1.1, y.1.2.1, y.1.2.2.1.2.2, y.1.2.2.2⟩, y.2⟩ (up₁.trans up₂)

/-- in flight, whatever frame holds it -/
noncomputable def FlyH (B : Heap) (l : List Env) (e : Addr) (cls a0 : Value) (h : Heap) : Prop := ∃ fl, B.StaysIn h ∧ B.get? e = none ∧ h.FunFrames B l ∧ h.TracedAtW B e cls a0 fl ∧ NoCx h e
theorem FlyC.h (x : FlyC base l e cls a0 h') : FlyH base l e cls a0 h' := ⟨.none, x.1.1, x.1.2.1, x.1.2.2.1, x.1.2.2.2.at, x.2⟩
theorem HeldC.h (x : HeldC base l e cls a0 L h') : FlyH base l e cls a0 h' := ⟨rawInt L, x.1.1, x.1.2.1, x.1.2.2.1, x.1.2.2.2, x.2⟩

theorem upTo_refl {h : Heap} : h.UpToSlots h := fun _ o hb _ => ⟨o.slots, hb⟩
theorem noteFrame_congr {x : Value} {env env' : Env} (h : env.frame = env'.frame) : noteFrame x env = noteFrame x env' := by unfold noteFrame PySem.frameOf; rw [h]
theorem looks_onH (hfr : A.frames = some (env :: outer)) (hf : env.frame = some L) (hfl : FlyH base (env :: outer) e cls a0 s.heap)
    (hQ : ∀ h', HeldC base (env :: outer) e cls a0 L h' → s.heap.UpToSlots h' → Q () { s with heap := h' }) : wpAny M A (noteFrame (.ref e) env) Q E s := by
  obtain ⟨fl, hkb, hen, hl, ⟨oe, vs, T, oT, ts, he, ⟨hc, h0⟩, hd, h1, hnT, hTe, hT, hdT, h3⟩, oe', vs', he2, hd2, h2⟩ := hfl
  rw [he] at he2; cases he2; rw [hd] at hd2; cases hd2
  subst hc
  have other : ∀ b, b ≠ T → (s.heap.update T (Obj.mapFields (·.setIfInBounds 3 Value.none))).get? b = s.heap.get? b := fun b hb => Heap.get?_update_other _ _ (Ne.symm hb)
  have recs : ∀ b o, s.heap.get? b = some o → (∀ vs, o.data ≠ .fields vs) → (s.heap.update T (Obj.mapFields (·.setIfInBounds 3 Value.none))).get? b = some o := fun b o hb hnf =>
    (other b fun q => by rw [q, hT] at hb; cases hb; exact hnf ts hdT).trans hb
  have he' := (other e (Ne.symm hTe)).trans he
  have hl' := hl.of_keeps (h' := s.heap.update T (Obj.mapFields (·.setIfInBounds 3 Value.none))) fun b o hb hnf => ⟨o, recs b o hb hnf, rfl⟩
  have hsz := (Array.getElem?_eq_some_iff.mp h1).1
  unfold noteFrame
  simp only [hf]
  refine wpAny_bind (wpAny_field he hd h1 ?_)
  rw [if_pos (show (Value.ref T != Value.none) = true from by simp)]
  refine wpAny_bind (wpAny_field hT hdT h3 ?_)
  by_cases q : (fl == rawInt L) = true
  · rw [if_pos q]
    refine wpAny_pure (hQ s.heap ⟨⟨hkb, hen, hl, oe, vs, T, oT, ts, he, ⟨rfl, h0⟩, hd, h1, hnT, hTe, hT, hdT, ?_⟩, oe, vs, he, hd, h2⟩ upTo_refl)
    rw [h3, beq_iff_eq.mp q]
  · rw [if_neg q]
    refine wpAny_bind (wpAny_setField hT hdT (Array.getElem?_eq_some_iff.mp h3).1 ?_)
    refine entryC (s := { s with heap := s.heap.update T (Obj.mapFields (·.setIfInBounds 3 Value.none)) }) hfr hl' hf he' hd hsz fun h' R => ?_
    obtain ⟨x, up⟩ := R.held hl' he' hd (fun b o hb => (other b fun q => by rw [q, hnT] at hb; cases hb).trans (hkb b o hb)) hen hsz h0 h2
    exact hQ h' x fun b o hb hnf => up b o (recs b o hb hnf) hnf
theorem leaves_onH (hfr : A.frames = some (env :: outer)) (hf : env.frame = some L) (hfl : FlyH base (env :: outer) e cls a0 s.heap)
    (hQ : ∀ h', FlyC base outer e cls a0 h' → s.heap.UpToSlots h' → Q () { s with heap := h' }) : wpAny M A (leaving env (.ref e)) Q E s := by
  unfold leaving
  refine wpAny_bind (looks_onH hfr hf hfl fun h₁ hh up₁ => landsC hh fun h₂ x up₂ => hQ h₂ ⟨⟨x.1.1, x.1.2.1, x.1.2.2.1.2.2, x.1.2.2.2⟩, x.2⟩ (up₁.trans up₂))
/-- an exception just made, noted at the frame where it was raised -/
theorem note_made {h : Heap} {args : List Value} (hfr : A.frames = some (env :: outer)) (hf : env.frame = some L) (hkb : base.StaysIn h) (hl : h.FunFrames base (env :: outer)) (hx : Heap.MadeExcOf h s.heap e cls args)
    (hQ : ∀ h' t, HeldC base (env :: outer) e cls (.ref t) L h' → s.heap.UpToSlots h' → Q () { s with heap := h' }) : wpAny M A (noteFrame (.ref e) env) Q E s := by
  obtain ⟨t, he, htn, ht⟩ := hx.there
  have hen : base.get? e = none := by
    cases q : base.get? e with
    | none => rfl
    | some o => have := hkb e o q; rw [hx.new] at this; cases this
  have hl' := hl.of_keeps (h' := s.heap) fun b o hb _ => ⟨o, hx.keeps b o hb, rfl⟩
  unfold noteFrame
  simp only [hf]
  refine wpAny_bind (wpAny_field he rfl (x := .none) rfl ?_)
  rw [if_neg (by decide)]
  refine entryC hfr hl' hf he rfl (show 1 < 6 by decide) fun h₁ R => ?_
  obtain ⟨x, up₁⟩ := R.held (a0 := .ref t) hl' he rfl (fun b o hb => hx.keeps b o (hkb b o hb)) hen (show 1 < 6 by decide) rfl rfl
  exact hQ h₁ t x up₁
/-- the flight is told anew -/
theorem fly_again {f : Option Addr} {Q : Unit → Shared → Prop} (hh : FlyH base l e cls a0 s.heap)
    (hQ : ∀ h', FlyH base l e cls a0 h' → s.heap.UpToSlots h' → Q () { s with heap := h' }) : wpAny M A (setFlight (.ref e) f) Q E s := by
  obtain ⟨fl, hkb, hen, hl, ⟨oe, vs, T, oT, ts, he, hc, hd, h1, hnT, hTe, hT, hdT, h3⟩, oe', vs', he2, hd2, h2⟩ := hh
  rw [he] at he2; cases he2; rw [hd] at hd2; cases hd2
  have hsz : 3 < ts.size := (Array.getElem?_eq_some_iff.mp h3).1
  have other : ∀ b, b ≠ T → (s.heap.update T (Obj.mapFields (·.setIfInBounds 3 (f.elim Value.none fun f => rawInt f)))).get? b = s.heap.get? b := fun b hb => Heap.get?_update_other _ _ (Ne.symm hb)
  have recs : ∀ b o, s.heap.get? b = some o → (∀ vs, o.data ≠ .fields vs) → (s.heap.update T (Obj.mapFields (·.setIfInBounds 3 (f.elim Value.none fun f => rawInt f)))).get? b = some o := fun b o hb hnf =>
    (other b fun q => by rw [q, hT] at hb; cases hb; exact hnf ts hdT).trans hb
  have he' := (other e (Ne.symm hTe)).trans he
  unfold setFlight
  refine wpAny_bind (wpAny_field he hd h1 ?_)
  rw [if_pos (show (Value.ref T != Value.none) = true from by simp)]
  refine wpAny_setField hT hdT hsz (hQ _ ⟨f.elim Value.none fun f => rawInt f, fun b o hb => (other b fun q => by rw [q, hnT] at hb; cases hb).trans (hkb b o hb), hen, hl.of_keeps fun b o hb hnf => ⟨o, recs b o hb hnf, rfl⟩, ?_, ⟨oe, vs, he', hd, h2⟩⟩ fun b o hb hnf => ⟨o.slots, recs b o hb hnf⟩)
  exact ⟨oe, vs, T, _, _, he', hc, hd, h1, hnT, hTe, Heap.get?_update_self _ hT (Obj.isFreed_of_fields (Obj.data_mapFields hdT _)), Obj.data_mapFields hdT _, by simp [hsz]⟩
/-- a run of one's own comes back, and a comprehension lets go -/
theorem fly_back {env : Env} {X : Value → Shared → Prop} (hh : FlyH base l e cls a0 s.heap)
    (hQ : ∀ h', FlyH base l e cls a0 h' → s.heap.UpToSlots h' → X (.ref e) { s with heap := h' }) : cameBackBy M A env X (.ref e) s := by
  obtain ⟨fl, hkb, hen, hl, ⟨oe, vs, T, oT, ts, he, hc, hd, h1, rest⟩, cx⟩ := id hh
  unfold cameBackBy
  refine wpAny_bind (wpAny_field he hd h1 ?_)
  rw [if_neg (show ¬ ((Value.ref T == Value.none) = true) from by simp)]
  exact fly_again hh hQ
theorem fly_pass {α : Type} {m : String} {cenv : Env} {Q : α → Shared → Prop} (hh : FlyH base l e cls a0 s.heap)
    (hQ : ∀ h', FlyH base l e cls a0 h' → s.heap.UpToSlots h' → E (.ref e) { s with heap := h' }) : wpAny M A (PySem.passOn m (.ref e) cenv : Sem α) Q E s := by
  obtain ⟨fl, hkb, hen, hl, ⟨oe, vs, T, oT, ts, he, hc, hd, h1, rest⟩, cx⟩ := id hh
  unfold PySem.passOn
  refine wpAny_bind (wpAny_field he hd h1 ?_)
  rw [if_neg (show ¬ ((Value.ref T == Value.none) = true) from by simp)]
  exact wpAny_bind (fly_again hh fun h' x up => wpAny_throw (hQ h' x up))
end
end Mine

set_option autoImplicit false
namespace Mine
open PySem PySem.Calls PyProof.Rows

theorem entry_unchain : entryFor table "proto.unchain" = some Builtin.«proto.unchain» := entryFor_of_fast (by kernel_rfl)

/-- what is handled, if anything is, is an exception whose context is none -/
noncomputable def Caught (A : Around) (h : Heap) : Prop := ∀ v, A.handled = some v → ∃ e, v = .ref e ∧ NoCx h e

section
variable {prog : Program} {w : World} {A : Around} {E : Value → Shared → Prop} {s : Shared}

theorem NoCx.keep {h h' : Heap} {e : Addr} (x : NoCx h e) (k : ∀ o, h.get? e = some o → h'.get? e = some o) : NoCx h' e :=
  let ⟨oe, vs, h1, h2, h3⟩ := x; ⟨oe, vs, k _ h1, h2, h3⟩

/-- an exception just made is thrown -/
theorem raise_new {α : Type} {x : Addr} {ox : Obj} {vs : Array Value} {Q : α → Shared → Prop} (hc : Caught A s.heap) (hx : s.heap.get? x = some ox) (hd : ox.data = .fields vs) (hz : 2 < vs.size) (hne : ∀ e, A.handled = some (.ref e) → e ≠ x)
    (h : ∀ h', (∀ b, b ≠ x → h'.get? b = s.heap.get? b) → (∃ ox', h'.get? x = some ox' ∧ ox'.cls = ox.cls) → E (.ref x) { s with heap := h' }) : wpAny (model prog w) A (raiseNew (.ref x) : Sem α) Q E s := by
  simp only [raiseNew]
  refine wpAny_bind (wpAny_handled ?_)
  cases hh : A.handled with
  | none => exact wpAny_throw (h s.heap (fun _ _ => rfl) ⟨ox, hx, rfl⟩)
  | some v =>
    obtain ⟨e, rfl, oe, ve, h1, h2, h3⟩ := hc v hh
    have ne := hne e hh
    show wpAny _ _ (if (Value.ref e != Value.ref x) = true then _ else _) _ _ s
    rw [if_pos (show (Value.ref e != Value.ref x) = true by simpa using ne)]
    refine wpAny_bind (wpAny_holding (wpAny_runValue (codeAny_builtin entry_unchain ?_)))
    unfold Builtin.«proto.unchain»
    dsimp only
    refine wpAny_bind (wpAny_field h1 h2 h3 ?_)
    rw [if_pos (show (Value.none == Value.none) = true from rfl)]
    refine wpAny_bind (wpAny_pure (wpAny_pure ?_))
    simp only [updateField]
    refine wpAny_bind (wpAny_bind (wpAny_load hx ?_))
    rw [hd]
    dsimp only
    rw [if_pos hz]
    refine wpAny_update hx (wpAny_throw (h _ (fun b hb => Heap.get?_update_other _ _ (Ne.symm hb)) ⟨_, Heap.get?_update_self _ hx (Obj.isFreed_of_fields (Obj.data_mapFields hd _)), Obj.cls_mapFields _ _⟩))

theorem next_tup_end {it t : Addr} {i : Nat} {items : Array Value} {Q : Option Value → Shared → Prop} (hc : Caught A s.heap) (hne : ∀ e, A.handled = some (.ref e) → e ≠ it)
    (hit : IsTupIter s.heap it t i) (ht : IsTup s.heap t items) (hx : items[i]? = none)
    (hQ : ∀ h', Heap.ExtBut it s.heap h' → Q none { s with heap := h' }) : wpAny (model prog w) A (pyNext (.ref it)) Q E s := by
  obtain ⟨o, ho, hcl, hd⟩ := id hit
  obtain ⟨ol, hol, _, nl, hdl⟩ := ht
  unfold pyNext
  refine wpAny_bind (wpAny_attempt (wpAny_callSpecial?_slot (name := Str.ofString "__next__") hit.typeIs slot_tupleiter_next
    (wpAny_call_entry slot_tupleiter_next hit.typeIs entry_tupleiter_next ?_ (args_tupleiter_next _))))
  show wpAny _ _ (field (.ref it) 0 >>= _) _ _ s
  refine wpAny_bind (wpAny_field ho hd (x := .ref t) rfl ?_)
  show wpAny _ _ (if (Value.ref t == Value.none) = true then _ else _) _ _ s
  rw [if_neg (show ¬ ((Value.ref t == Value.none) = true) from Bool.false_ne_true)]
  show wpAny _ _ (field (.ref it) 1 >>= _) _ _ s
  refine wpAny_bind (wpAny_field ho hd (x := .int i 0) rfl ?_)
  show wpAny _ _ (seqItems? (.ref t) >>= _) _ _ s
  refine wpAny_bind (wpAny_seqItems hol hdl ?_)
  simp only [Int.toNat_natCast, hx]
  refine wpAny_bind (wpAny_rule (wpAny_bind (wpAny_setField ho hd (by simp) ?_)))
  show wpAny _ _ (newExc (.type "StopIteration") [] >>= _) _ _ _
  refine wpAny_bind ?_
  simp only [newExc, newTuple]
  refine wpAny_bind (wpAny_newObj_type ?_ (by size_fits))
  refine wpAny_bind (m := firstArgMember _ _) (wpAny_of_eq (a := Value.none) (by first | rfl | (simp only [firstArgMember]; rfl)) ?_)
  refine wpAny_newObj_type ?_ (by size_fits)
  have big : Heap.ExtBut it s.heap (((s.heap.update it (Obj.mapFields (·.setIfInBounds 0 Value.none))).push { cls := .type "tuple", data := .seq #[] }).push { cls := .type "StopIteration", data := .fields (#[.ref (s.heap.update it (Obj.mapFields (·.setIfInBounds 0 Value.none))).objs.size, .none, .none, .none, .bool false, Value.none] ++ ownMembersOf (.type "StopIteration") []) }) := ((Heap.SameBut.update ..).extBut.push _).push _
  have old : ∀ b o, s.heap.get? b = some o → b ≠ ((s.heap.update it (Obj.mapFields (·.setIfInBounds 0 Value.none))).push { cls := .type "tuple", data := .seq #[] }).objs.size := fun b o hb q => by
    have h1 := Heap.lt_size hb
    have h2 : ((s.heap.update it (Obj.mapFields (·.setIfInBounds 0 Value.none))).push { cls := .type "tuple", data := .seq #[] }).objs.size = s.heap.objs.size + 1 := by
      show (Array.push _ _).size = _
      rw [Array.size_push]
      exact congrArg (· + 1) (Heap.SameBut.update ..).1
    rw [h2] at q
    exact absurd q (Nat.ne_of_lt (Nat.lt_succ_of_lt h1))
  refine raise_new (A := A.in1) (fun v hv => ?_) (Heap.get?_push_size _ rfl) rfl (show 2 < 6 by decide) (fun e he => ?_) fun h' hs ⟨ox, hox, hoc⟩ => ?_
  · obtain ⟨e, rfl, hn⟩ := hc v hv
    exact ⟨e, rfl, hn.keep fun o ho => big e o (hne e hv) ho⟩
  · obtain ⟨e2, q, oe, _, ho, _⟩ := hc _ he
    cases q
    exact old _ oe ho
  · refine wpAny_bind (wpAny_isInstance (T := "StopIteration") (b := true) ⟨_, hox, hoc⟩ isSubtype_stop ?_)
    exact wpAny_pure (hQ _ fun b o hb e => (hs b (old b o e)).trans (big b o hb e))

theorem unpack_tup {t : Addr} {items : Array Value} {Q : List Value → Shared → Prop} (hc : Caught A s.heap) (ht : IsTup s.heap t items)
    (hQ : ∀ h', Heap.ExtBut s.heap.objs.size s.heap h' → Q items.toList { s with heap := h' }) : wpAny (model prog w) A (unpackItems (.ref t) items.size none) Q E s := by
  have hlt : t ≠ s.heap.objs.size := by obtain ⟨o, ho, _⟩ := ht; exact Nat.ne_of_lt (Heap.lt_size ho)
  unfold unpackItems
  refine wpAny_bind ?_
  unfold notIterableAtAll
  refine wpAny_bind (wpAny_specialOf ht.typeIs slot_tuple_iter.lookup ?_)
  refine wpAny_pure ?_
  simp only [Bool.false_eq_true, if_false]
  refine wpAny_bind (wpAny_holding (iter_tuple ht ?_))
  refine wpAny_bind (wpAny_holding (draw_tuple hlt items.size 0 _ _ ⟨_, Heap.get?_push_size _ rfl, rfl, rfl⟩ (ht.push _) (by omega) fun h₁ hit₁ hs₁ => ?_))
  have hall : List.take items.size (List.drop 0 items.toList) = items.toList := by
    rw [List.drop_zero]; exact List.take_of_length_le (by simp)
  rw [hall]
  rw [if_neg (by simp)]
  have ht₁ : IsTup h₁ t items := (ht.push _).extBut hs₁.extBut hlt
  have keep : ∀ b o, s.heap.get? b = some o → h₁.get? b = some o := fun b o e => hs₁.extBut b o (Nat.ne_of_lt (Heap.lt_size e)) (Heap.get?_push_of_some _ e)
  refine wpAny_bind (wpAny_holding (next_tup_end (fun v hv => ?_) (fun e he => ?_) hit₁ ht₁ (by simp) fun h₂ he₂ => ?_))
  · obtain ⟨e, rfl, hn⟩ := hc v hv
    exact ⟨e, rfl, hn.keep fun o ho => keep e o ho⟩
  · obtain ⟨e2, q, oe, _, ho, _⟩ := hc _ he
    cases q
    exact Nat.ne_of_lt (Heap.lt_size ho)
  · simp only [Option.isSome_none, Bool.false_eq_true, if_false]
    exact wpAny_pure (hQ h₂ fun b o hb e => he₂ b o hb (keep b o e))

/-- unpacking, whatever is handled -/
theorem assign_tup {env : Env} {elts : List Expr} {x1} {pos : Pos} {t : Addr} {items : Array Value} {Q : Unit → Shared → Prop} (hc : Caught A s.heap) (ht : IsTup s.heap t items)
    (hn : (assignEach elts env).length = items.size) (hstar : (assignEach elts env).findIdx? (·.1) = none)
    (h : ∀ h', Heap.ExtBut s.heap.objs.size s.heap h' → wpAny (model prog w) A (assignInOrder ((assignEach elts env).map (·.2)) items.toList) Q E { s with heap := h' }) :
    wpAny (model prog w) A (assign (.Tuple elts x1 pos) env (.ref t)) Q E s := by
  rw [assign_Tuple]
  refine wpAny_bind (wpAny_standAt ?_)
  unfold unpack
  rw [hn, hstar]
  exact wpAny_bind (wpAny_holding (unpack_tup hc ht h))
end
end Mine

set_option autoImplicit false
namespace Mine
set_option linter.unusedVariables false
open PySem PySem.W PySem.Calls PyProof.Rows

noncomputable def frs (fs : List Env) : List Addr := fs.filterMap (·.frame)

structure Step (c : Ctx) (fs : List Env) (μ μ' : Mem) (s s' : Shared) : Prop where
  gens : s'.gens = s.gens
  drawn : s'.drawn = s.drawn
  os : s'.os = s.os
  rel : Rel c μ' s'.heap
  kept : Kept (frs fs) μ μ' s.heap s'.heap

theorem Step.refl {c : Ctx} {fs : List Env} {μ : Mem} {s : Shared} (r : Rel c μ s.heap) : Step c fs μ μ s s := ⟨rfl, rfl, rfl, r, .refl _ _ _⟩
theorem Step.trans {c : Ctx} {fs : List Env} {μ₁ μ₂ μ₃ : Mem} {s₁ s₂ s₃ : Shared} (x : Step c fs μ₁ μ₂ s₁ s₂) (y : Step c fs μ₂ μ₃ s₂ s₃) : Step c fs μ₁ μ₃ s₁ s₃ :=
  ⟨y.gens.trans x.gens, y.drawn.trans x.drawn, y.os.trans x.os, y.rel, x.kept.trans y.kept⟩
/-- ticks alone -/
theorem Step.toks {c : Ctx} {fs : List Env} {μ : Mem} {s : Shared} {n : Nat} (r : Rel c μ s.heap) : Step c fs μ μ s { s with toks := n } := ⟨rfl, rfl, rfl, r, .refl _ _ _⟩
/-- a heap that keeps all -/
theorem Step.grows {c : Ctx} {fs : List Env} {μ : Mem} {s : Shared} {h' : Heap} {n : Nat} (r : Rel c μ s.heap) (k : ∀ b o, s.heap.get? b = some o → h'.get? b = some o) : Step c fs μ μ s { s with heap := h', toks := n } :=
  ⟨rfl, rfl, rfl, r.keeps k, .of_keeps (fun b o e _ => k b o e) fun _ _ _ hm => hm⟩
/-- a new object of the memory -/
theorem Step.alloc {c : Ctx} {fs : List Env} {μ : Mem} {s : Shared} {h' : Heap} {n : Nat} {a : Addr} {ob : Obj} {o : O} (r : Rel c μ s.heap) (k : ∀ b o, s.heap.get? b = some o → h'.get? b = some o) (hn : s.heap.get? a = none)
    (ha : h'.get? a = some ob) (ro : RO c h' ob o) : Step c fs μ (updM μ a o) s { s with heap := h', toks := n } :=
  ⟨rfl, rfl, rfl, r.alloc k hn ha ro, .of_keeps (fun b o e _ => k b o e) fun b o e hm => by rw [updM_ne (fun q => by rw [q, hn] at e; cases e)]; exact hm⟩
/-- an object of the memory changed -/
theorem Step.store {c : Ctx} {fs : List Env} {μ : Mem} {s : Shared} {h' : Heap} {n : Nat} {a : Addr} {o₀ : O} (r : Rel c μ s.heap) (h0 : μ a = some o₀) (k : ∀ b, b ≠ a → h'.get? b = s.heap.get? b) {ob : Obj} {o : O}
    (ha : h'.get? a = some ob) (ro : RO c s.heap ob o) : Step c fs μ (updM μ a o) s { s with heap := h', toks := n } :=
  ⟨rfl, rfl, rfl, r.store h0 k ha ro, .of_keeps (fun b o e hm => (k b fun q => by rw [q, h0] at hm; cases hm).trans e) fun b o e hm => by rw [updM_ne (fun q => by rw [q, h0] at hm; cases hm)]; exact hm⟩

theorem RV.step {c : Ctx} {fs : List Env} {μ μ' : Mem} {s s' : Shared} {v : Value} {x : V} (r : Rel c μ s.heap) (y : Step c fs μ μ' s s') (h : RV c s.heap v x) : RV c s'.heap v x := h.mono r y.kept.sees
theorem RVs.step {c : Ctx} {fs : List Env} {μ μ' : Mem} {s s' : Shared} {v : List Value} {x : List V} (r : Rel c μ s.heap) (y : Step c fs μ μ' s s') (h : RVs c s.heap v x) : RVs c s'.heap v x := h.mono r y.kept.sees

/-- an exception of the text's own in flight -/
structure Fly (c : Ctx) (fs : List Env) (μ μ' : Mem) (s s' : Shared) (e : Addr) (x : String) : Prop where
  gens : s'.gens = s.gens
  drawn : s'.drawn = s.drawn
  os : s'.os = s.os
  there : ∃ B C a0, c.exc x = some C ∧ FlyH B fs e (.ref C) a0 s'.heap ∧ Rel c μ' B ∧ ∀ b o, s.heap.get? b = some o → μ b = none → b ∉ frs fs → B.get? b = some o
  kept : Kept (frs fs) μ μ' s.heap s'.heap

noncomputable def Post (c : Ctx) (fs : List Env) (μ : Mem) (s : Shared) (Q : V → Mem → Prop) (rv : Value) (s' : Shared) : Prop := ∃ v μ', Step c fs μ μ' s s' ∧ RV c s'.heap rv v ∧ Q v μ'
noncomputable def Posts (c : Ctx) (fs : List Env) (μ : Mem) (s : Shared) (Q : List V → Mem → Prop) (rv : List Value) (s' : Shared) : Prop := ∃ v μ', Step c fs μ μ' s s' ∧ RVs c s'.heap rv v ∧ Q v μ'
noncomputable def PostB (c : Ctx) (fs : List Env) (μ : Mem) (s : Shared) (Q : Bool → Mem → Prop) (b : Bool) (s' : Shared) : Prop := ∃ μ', Step c fs μ μ' s s' ∧ Q b μ'
noncomputable def XPost (c : Ctx) (fs : List Env) (μ : Mem) (s : Shared) (X : String → Mem → Prop) (re : Value) (s' : Shared) : Prop := ∃ e x μ', re = .ref e ∧ Fly c fs μ μ' s s' e x ∧ X x μ'

theorem Fly.after {c : Ctx} {fs : List Env} {μ₁ μ₂ μ₃ : Mem} {s₁ s₂ s₃ : Shared} {e : Addr} {x : String} (a : Step c fs μ₁ μ₂ s₁ s₂) (y : Fly c fs μ₂ μ₃ s₂ s₃ e x) : Fly c fs μ₁ μ₃ s₁ s₃ e x := by
  obtain ⟨B, C, a0, h1, h2, h3, h4⟩ := y.there
  refine ⟨y.gens.trans a.gens, y.drawn.trans a.drawn, y.os.trans a.os, ⟨B, C, a0, h1, h2, h3, fun b o e hm hb => ?_⟩, a.kept.trans y.kept⟩
  exact h4 b o (a.kept.exact e hm hb) (a.kept b o e hm).1 hb
theorem Post.after {c : Ctx} {fs : List Env} {μ₁ μ₂ : Mem} {s₁ s₂ s₃ : Shared} {Q : V → Mem → Prop} {rv : Value} (a : Step c fs μ₁ μ₂ s₁ s₂) (y : Post c fs μ₂ s₂ Q rv s₃) : Post c fs μ₁ s₁ Q rv s₃ :=
  let ⟨v, μ', st, r, q⟩ := y; ⟨v, μ', a.trans st, r, q⟩
theorem PostB.after {c : Ctx} {fs : List Env} {μ₁ μ₂ : Mem} {s₁ s₂ s₃ : Shared} {Q : Bool → Mem → Prop} {b : Bool} (a : Step c fs μ₁ μ₂ s₁ s₂) (y : PostB c fs μ₂ s₂ Q b s₃) : PostB c fs μ₁ s₁ Q b s₃ :=
  let ⟨μ', st, q⟩ := y; ⟨μ', a.trans st, q⟩
theorem Posts.after {c : Ctx} {fs : List Env} {μ₁ μ₂ : Mem} {s₁ s₂ s₃ : Shared} {Q : List V → Mem → Prop} {rv : List Value} (a : Step c fs μ₁ μ₂ s₁ s₂) (y : Posts c fs μ₂ s₂ Q rv s₃) : Posts c fs μ₁ s₁ Q rv s₃ :=
  let ⟨v, μ', st, r, q⟩ := y; ⟨v, μ', a.trans st, r, q⟩
theorem XPost.after {c : Ctx} {fs : List Env} {μ₁ μ₂ : Mem} {s₁ s₂ s₃ : Shared} {X : String → Mem → Prop} {re : Value} (a : Step c fs μ₁ μ₂ s₁ s₂) (y : XPost c fs μ₂ s₂ X re s₃) : XPost c fs μ₁ s₁ X re s₃ :=
  let ⟨e, x, μ', he, f, q⟩ := y; ⟨e, x, μ', he, f.after a, q⟩

noncomputable def RK (o : Obj) : Prop := (o.cls = .type "tuple" ∧ ∃ vs n, o.data = .seq vs n) ∨ ((o.cls = .type "range" ∨ ∃ C, o.cls = .ref C) ∧ ∃ vs, o.data = .fields vs)
/-- what is handled, if anything is, is an exception of the text's own whose context is none -/
noncomputable def CaughtM (A : Around) (μ : Mem) (h : Heap) : Prop := ∀ v, A.handled = some v → ∃ e oe vs, v = .ref e ∧ h.get? e = some oe ∧ oe.data = .fields vs ∧ vs[2]? = some .none ∧ RK oe ∧ μ e = none
theorem CaughtM.plain {A : Around} {μ : Mem} {h : Heap} (x : CaughtM A μ h) : Caught A h := fun v hv => let ⟨e, oe, vs, q, h1, h2, h3, _⟩ := x v hv; ⟨e, q, oe, vs, h1, h2, h3⟩
theorem CaughtM.of {A : Around} {μ μ' : Mem} {h h' : Heap} (x : CaughtM A μ h) (k : ∀ b o vs, h.get? b = some o → o.data = .fields vs → RK o → μ b = none → μ' b = none ∧ h'.get? b = some o) : CaughtM A μ' h' := fun v hv =>
  let ⟨e, oe, vs, q, h1, h2, h3, h4, h5⟩ := x v hv; let ⟨m, g⟩ := k e oe vs h1 h2 h4 h5; ⟨e, oe, vs, q, g, h2, h3, h4, m⟩
/-- the frames, the room, what is handled -/
structure AOK (c : Ctx) (d : Nat) (hd : Bool) (A : Around) (fs : List Env) (μ : Mem) (h : Heap) : Prop where
  frames : A.frames = some fs
  room : A.depth + 3 * d < 900
  units : A.units + 100 * d + 200 < cLine
  handled : hd = false → A.handled = none
  fun_ : h.FunFrames c.base fs
  priv : ∀ L ∈ frs fs, μ L = none
  dicts : ∀ L ∈ frs fs, ∃ o es n, h.get? L = some o ∧ o.data = .dict es n
  caught : CaughtM A μ h

theorem AOK.step {c : Ctx} {d : Nat} {hd : Bool} {A : Around} {fs : List Env} {μ μ' : Mem} {s s' : Shared} (x : AOK c d hd A fs μ s.heap) (y : Step c fs μ μ' s s') : AOK c d hd A fs μ' s'.heap := by
  refine ⟨x.frames, x.room, x.units, x.handled, ?_, fun L hL => ?_, fun L hL => ?_, x.caught.of fun b o vs e hd _ hm => ?_⟩
  · have hp := x.priv
    have hf := x.fun_
    clear x
    induction fs with
    | nil => trivial
    | cons env rest ih =>
      obtain ⟨hk, ⟨L, o, hfr, hn, ho, hd⟩, hr⟩ := hf
      have kept := y.kept
      obtain ⟨_, sl, e', _⟩ := kept L o ho (hp L (by simp [frs, hfr]))
      refine ⟨hk, ⟨L, _, hfr, hn, e', hd⟩, ?_⟩
      have key : ∀ (l : List Env), s.heap.FunFrames c.base l → (∀ L ∈ frs l, μ L = none) → s'.heap.FunFrames c.base l := by
        intro l
        induction l with
        | nil => intros; trivial
        | cons env l ih =>
          rintro ⟨hk, ⟨L, o, hfr, hn, ho, hd⟩, hr⟩ hp
          obtain ⟨_, sl, e', _⟩ := kept L o ho (hp L (by simp [frs, hfr]))
          exact ⟨hk, ⟨L, _, hfr, hn, e', hd⟩, ih hr fun M hM => hp M (by simp only [frs, List.filterMap_cons, hfr]; exact List.mem_cons_of_mem _ hM)⟩
      exact key rest hr fun M hM => hp M (by simp only [frs, List.filterMap_cons, hfr]; exact List.mem_cons_of_mem _ hM)
  · obtain ⟨_, o, ho, _⟩ := x.fun_.mem hL
    exact (y.kept L o ho (x.priv L hL)).1
  · obtain ⟨o, es, n, ho, hd⟩ := x.dicts L hL
    obtain ⟨_, sl, e', _⟩ := y.kept L o ho (x.priv L hL)
    exact ⟨_, es, n, e', hd⟩
  · obtain ⟨m, sl, e', q⟩ := y.kept b o e hm
    rw [q (.inr ⟨vs, hd⟩)] at e'
    exact ⟨m, e'⟩

/-- the names of a block -/
noncomputable def NameIs (c : Ctx) (env : Env) (m : Str → Option Value) (μ : Mem) (h : Heap) (x : String) (v : V) : Prop :=
  (env.kindOf (Str.ofString x) = some .local ∧ ∃ rv, m (Str.ofString x) = some rv ∧ RV c h rv v) ∨
  ((env.kindOf (Str.ofString x) = some .cell ∨ env.kindOf (Str.ofString x) = some .free) ∧ ∃ ca rv, env.cells.lookup (Str.ofString x) = some ca ∧ h.IsCell ca (some rv) ∧ RV c h rv v)
structure ER (c : Ctx) (env : Env) (ρ : Loc) (μ : Mem) (h : Heap) : Prop where
  kind : env.scope.kind = .function
  glob : env.globals = mainGlobals
  blt : env.builtins = builtinsNs
  priv : μ env.locals = none
  new : c.base.get? env.locals = none
  cells : ∀ x ca, env.cells.lookup x = some ca → (∃ v, h.IsCell ca v) ∧ μ ca = none ∧ c.base.get? ca = none
  inj : ∀ x y ca, env.cells.lookup x = some ca → env.cells.lookup y = some ca → x = y
  has : ∀ x, env.kindOf x = some .cell → (env.cells.lookup x).isSome = true
  names : ∃ m, h.Ns env.locals m ∧ ∀ x v, ρ x = some v → NameIs c env m μ h x v

theorem IsCell.sees {μ : Mem} {h h' : Heap} (k : Sees μ h h') {ca : Addr} {v : Option Value} (x : h.IsCell ca v) (hm : μ ca = none) : h'.IsCell ca v := by
  obtain ⟨o, ho, hd⟩ := x
  obtain ⟨sl, e, _⟩ := k ca o ho hm
  exact ⟨_, e, hd⟩
theorem Ns.sees {μ : Mem} {h h' : Heap} (k : Sees μ h h') {a : Addr} {m : Str → Option Value} (x : h.Ns a m) (hm : μ a = none) : h'.Ns a m := by
  obtain ⟨o, es, ep, ho, hd, r⟩ := x
  obtain ⟨sl, e, _⟩ := k a o ho hm
  exact ⟨_, es, ep, e, hd, r⟩

theorem ER.step {c : Ctx} {env : Env} {ρ : Loc} {fs : List Env} {μ μ' : Mem} {s s' : Shared} (x : ER c env ρ μ s.heap) (r : Rel c μ s.heap) (y : Step c fs μ μ' s s') : ER c env ρ μ' s'.heap := by
  obtain ⟨m, hns, hm⟩ := x.names
  have k := y.kept.sees
  obtain ⟨oL, esL, epL, hoL, _⟩ := id hns
  refine ⟨x.kind, x.glob, x.blt, (y.kept _ _ hoL x.priv).1, x.new, fun z ca e => ?_, x.inj, x.has, m, Ns.sees k hns x.priv, fun z v e => ?_⟩
  · obtain ⟨⟨v, hv⟩, h1, h2⟩ := x.cells z ca e
    obtain ⟨o, ho, hd⟩ := id hv
    exact ⟨⟨v, IsCell.sees k hv h1⟩, (y.kept _ _ ho h1).1, h2⟩
  · rcases hm z v e with ⟨h1, rv, h2, h3⟩ | ⟨h1, ca, rv, h2, h3, h4⟩
    · exact .inl ⟨h1, rv, h2, h3.step r y⟩
    · exact .inr ⟨h1, ca, rv, h2, IsCell.sees k h3 (x.cells _ ca h2).2.1, h4.step r y⟩

end Mine

set_option autoImplicit false
namespace Mine
set_option linter.unusedVariables false
open PySem PySem.W PySem.Calls PyProof.Rows

theorem lim_le : lim ≤ sizeLine := by decide

section
variable {c : Ctx} {A : Around} {fs : List Env} {μ : Mem} {s : Shared} {E : Value → Shared → Prop}

theorem Rel.lst {l : Addr} {xs : List V} (r : Rel c μ s.heap) (h : μ l = some (.list xs)) : ∃ vs n, IsL s.heap l vs n ∧ RVs c s.heap vs.toList xs ∧ xs.length ≤ lim := by
  obtain ⟨_, ob, e, ro⟩ := r.mem l _ h
  cases ro with
  | list hl hz => exact ⟨_, _, e, hl, hz⟩
theorem Rel.insts {x d : Addr} {cl : String} (r : Rel c μ s.heap) (h : μ x = some (.inst cl d)) : ∃ C, c.cls cl = some C ∧ s.heap.get? x = some (instObj C d) := by
  obtain ⟨_, ob, e, ro⟩ := r.mem x _ h
  cases ro with
  | inst hc => exact ⟨_, hc, e⟩
theorem Rel.attr {d : Addr} {fl : List (String × V)} (r : Rel c μ s.heap) (h : μ d = some (.attrs fl)) : ∃ es n, s.heap.get? d = some (dictOf es n) ∧ RFs c s.heap es fl := by
  obtain ⟨_, ob, e, ro⟩ := r.mem d _ h
  cases ro with
  | attrs hf => exact ⟨_, _, e, hf⟩

theorem newL_size {xs : List V} {vs : Array Value} {h : Heap} (hr : RVs c h vs.toList xs) (hl : xs.length ≤ lim) : vs.size ≤ sizeLine := by
  have := hr.length
  rw [Array.length_toList] at this
  exact this ▸ Nat.le_trans hl lim_le

/-- a new list -/
theorem post_newL {Q : V → Mem → Prop} {xs : List V} {vs : Array Value} (r : Rel c μ s.heap) (hr : RVs c s.heap vs.toList xs) (q : newL μ xs Q) (n : Nat) :
    Post c fs μ s Q (.ref s.heap.objs.size) { s with heap := s.heap.push { cls := .type "list", data := .seq vs }, toks := n } := by
  have hn : s.heap.get? s.heap.objs.size = none := Heap.get?_none_of_le (Nat.le_refl _)
  have k : ∀ b o, s.heap.get? b = some o → (s.heap.push { cls := .type "list", data := .seq vs }).get? b = some o := fun b o e => Heap.get?_push_of_some _ e
  refine ⟨.ref s.heap.objs.size, _, Step.alloc r k hn (Heap.get?_push_size _ rfl) (.list (hr.mono r (.of_keeps fun b o e _ => k b o e)) q.1), .ref _, q.2 _ (r.free hn)⟩

theorem mul_raw {prog : Program} {w : World} {l : Addr} {items : Array Value} {k : Nat} {x : Int} {u : Tok} {Q : Value → Shared → Prop} (hl : IsL s.heap l items k) (hlo : -(2 ^ 63 : Int) ≤ x) (hhi : x < 2 ^ 63) (hsz : items.size * x.toNat ≤ 2 ^ 24)
    (h : Q (.ref s.heap.objs.size) { s with heap := s.heap.push { cls := .type "list", data := .seq (List.replicate x.toNat items.toList).flatten.toArray } }) :
    wpAny (model prog w) A (binaryOp .Mult (.ref l) (.int x u)) Q E s := by
  rw [← listMul_foldl_if] at h
  exact wpAny_binaryOp_repeat_ref (T := "list") (U := "int") (by decide) ⟨_, hl, rfl⟩ (fun s' => typeIs_int s' x u) noFill_list_mul F.fills_int_mul F.slot_int_rmul repeat_list F.slot_int_index.lookup
    (call_meets F.slot_int_rmul (typeIs_int s x u) F.entry_int_rmul (F.args_int_rmul_2 _ _) (int___rmul___int_list x u l items k)
      ⟨hl, rfl, ⟨_, hl, rfl⟩, call_meets F.slot_list_mul ⟨_, hl, rfl⟩ F.entry_list_mul (F.args_list_mul_2 _ _)
        (AutoListH.list___mul___list_int_3 l items k x u (by simp [Builtin.List.listFitsIndex]; omega) (by omega) (by simp [Builtin.List.listTooLong, sizeLine]; omega))
        ⟨hl, h⟩⟩)

omit A fs s E in
theorem asInt_of {v : V} {k : Int → Prop} (h : asInt v k) : ∃ i, v = .int i ∧ k i := by
  unfold asInt at h
  split at h
  · exact ⟨_, rfl, h⟩
  · exact h.elim
theorem asS_of {v : V} {k : Str → Prop} (h : asS v k) : ∃ x, v = .str x ∧ k x := by
  unfold asS at h
  split at h
  · exact ⟨_, rfl, h⟩
  · exact h.elim
theorem asT_of {v : V} {k : List V → Prop} (h : asT v k) : ∃ l, v = .tup l ∧ k l := by
  unfold asT at h
  split at h
  · exact ⟨_, rfl, h⟩
  · exact h.elim
theorem asL_of {v : V} {k : Addr → List V → Prop} (h : asL μ v k) : ∃ x l, v = .ref x ∧ μ x = some (.list l) ∧ k x l := by
  unfold asL at h
  split at h
  · split at h
    · rename_i e; exact ⟨_, _, rfl, e, h⟩
    · exact h.elim
  · exact h.elim
theorem ints2_of {a b : V} {k : Int → Int → Prop} (h : ints2 a b k) : ∃ i j, a = .int i ∧ b = .int j ∧ k i j := by
  obtain ⟨i, e1, h1⟩ := asInt_of h
  obtain ⟨j, e2, h2⟩ := asInt_of h1
  exact ⟨i, j, e1, e2, h2⟩
theorem one_of {vs : List V} {k : V → Prop} (h : one vs k) : ∃ v, vs = [v] ∧ k v := by
  unfold one at h
  split at h
  · exact ⟨_, rfl, h⟩
  · exact h.elim
theorem two_of {vs : List V} {k : V → V → Prop} (h : two vs k) : ∃ v w, vs = [v, w] ∧ k v w := by
  unfold two at h
  split at h
  · exact ⟨_, _, rfl, h⟩
  · exact h.elim
theorem RV.int_of {h : Heap} {rv : Value} {i : Int} (x : RV c h rv (.int i)) : ∃ t, rv = .int i t := by cases x; exact ⟨_, rfl⟩
theorem RV.str_of {h : Heap} {rv : Value} {x : Str} (y : RV c h rv (.str x)) : ∃ t, rv = .str x t := by cases y; exact ⟨_, rfl⟩
theorem RV.ref_of {h : Heap} {rv : Value} {a : Addr} (x : RV c h rv (.ref a)) : rv = .ref a := by cases x; rfl
theorem RV.bool_of {h : Heap} {rv : Value} {b : Bool} (x : RV c h rv (.bool b)) : rv = .bool b := by cases x; rfl
theorem RVs.one {h : Heap} {rvs : List Value} {v : V} (x : RVs c h rvs [v]) : ∃ rv, rvs = [rv] ∧ RV c h rv v := by
  cases x with | cons hv hr => cases hr; exact ⟨_, rfl, hv⟩
theorem RVs.two {h : Heap} {rvs : List Value} {v w : V} (x : RVs c h rvs [v, w]) : ∃ rv rw_, rvs = [rv, rw_] ∧ RV c h rv v ∧ RV c h rw_ w := by
  cases x with | cons hv hr => obtain ⟨_, rfl, hw⟩ := hr.one; exact ⟨_, _, rfl, hv, hw⟩

theorem bin_cat {ra rb : Value} {a b : V} {Q : V → Mem → Prop} (r : Rel c μ s.heap) (ha : RV c s.heap ra a) (hb : RV c s.heap rb b) (q : asL μ a fun _ l => asL μ b fun _ k => newL μ (l ++ k) Q) : wpAny (model c.prog c.w) A (binaryOp .Add ra rb) (Post c fs μ s Q) E s := by
  obtain ⟨x, l, rfl, hx, q⟩ := asL_of q
  obtain ⟨y, k, rfl, hy, q⟩ := asL_of q
  cases ha.ref_of; cases hb.ref_of
  obtain ⟨vs, n, hl, hr, _⟩ := r.lst hx
  obtain ⟨us, n', hl', hr', _⟩ := r.lst hy
  have hr2 : RVs c s.heap (vs ++ us).toList (l ++ k) := by rw [Array.toList_append]; exact hr.append hr'
  refine PySem.P.add_list hl hl' (post_newL r hr2 q s.toks) ?_
  have := newL_size hr2 q.1
  rw [Array.size_append] at this
  exact this
theorem bin_rep {ra rb : Value} {a b : V} {Q : V → Mem → Prop} (r : Rel c μ s.heap) (ha : RV c s.heap ra a) (hb : RV c s.heap rb b) (q : asL μ a fun _ l => asInt b fun n => 0 ≤ n ∧ n ≤ 1000000 ∧ n.toNat * l.length ≤ lim ∧ newL μ (List.replicate n.toNat l).flatten Q) : wpAny (model c.prog c.w) A (binaryOp .Mult ra rb) (Post c fs μ s Q) E s := by
  obtain ⟨x, l, rfl, hx, q⟩ := asL_of q
  obtain ⟨n, rfl, q⟩ := asInt_of q
  cases ha.ref_of
  obtain ⟨t, rfl⟩ := hb.int_of
  obtain ⟨vs, k, hl, hr, _⟩ := r.lst hx
  have h2 := q.2.2.1
  have hrl := hr.length
  rw [Array.length_toList] at hrl
  have hr2 : RVs c s.heap (List.replicate n.toNat vs.toList).flatten.toArray.toList (List.replicate n.toNat l).flatten := by
    show RVs c s.heap (List.replicate n.toNat vs.toList).flatten _
    generalize n.toNat = m
    induction m with
    | zero => exact .nil
    | succ m ih => rw [List.replicate_succ, List.replicate_succ, List.flatten_cons, List.flatten_cons]; exact hr.append ih
  refine mul_raw hl (by have := q.1; omega) ?_ ?_ (post_newL r hr2 q.2.2.2 s.toks)
  · have := q.2.1; omega
  · rw [hrl, Nat.mul_comm]; unfold lim at h2; omega

/-- a new tuple -/
theorem post_newT {Q : V → Mem → Prop} {xs : List V} {vs : Array Value} (r : Rel c μ s.heap) (hr : RVs c s.heap vs.toList xs) (hz : xs.length ≤ lim) (q : Q (.tup xs) μ) (n : Nat) :
    Post c fs μ s Q (.ref s.heap.objs.size) { s with heap := s.heap.push { cls := .type "tuple", data := .seq vs }, toks := n } := by
  have k : ∀ b o, s.heap.get? b = some o → (s.heap.push { cls := .type "tuple", data := .seq vs }).get? b = some o := fun b o e => Heap.get?_push_of_some _ e
  exact ⟨.tup xs, μ, Step.grows r k, .tup (Heap.get?_push_size _ rfl) rfl rfl (hr.mono r (.of_keeps fun b o e _ => k b o e)) hz, q⟩
theorem bin_tup {ra rb : Value} {l k : List V} {Q : V → Mem → Prop} (r : Rel c μ s.heap) (ha : RV c s.heap ra (.tup l)) (hb : RV c s.heap rb (.tup k)) (q : l ≠ [] ∧ k ≠ [] ∧ (l ++ k).length ≤ lim ∧ Q (.tup (l ++ k)) μ) : wpAny (model c.prog c.w) A (binaryOp .Add ra rb) (Post c fs μ s Q) E s := by
  cases ha with
  | @tup t o vs n _ ho hc hd hl hz =>
  cases hb with
  | @tup b o2 ws n2 _ ho2 hc2 hd2 hl2 hz2 =>
  obtain ⟨cls, dd, data, sl⟩ := o
  obtain ⟨cls2, dd2, data2, sl2⟩ := o2
  simp only at hc hd hc2 hd2
  subst hc hd hc2 hd2
  have hr2 : RVs c s.heap (vs ++ ws).toList (l ++ k) := by rw [Array.toList_append]; exact hl.append hl2
  have hsz := newL_size hr2 q.2.2.1
  rw [Array.size_append] at hsz
  have e1 := hl.length
  have e2 := hl2.length
  have nv : ¬ vs.isEmpty = true := fun h => q.1 (List.eq_nil_of_length_eq_zero (by rw [← e1]; simpa using h))
  have nw : ¬ ws.isEmpty = true := fun h => q.2.1 (List.eq_nil_of_length_eq_zero (by rw [← e2]; simpa using h))
  refine concat_meets ⟨_, ho, rfl⟩ ⟨_, ho2, rfl⟩ noFill_tuple_add seq_tuple_add PySem.F.slot_tuple_add PySem.F.entry_tuple_add (PySem.F.args_tuple_add_2 _ _)
    (tuple_addW2 t b vs ws n n2 dd dd2 sl sl2 nv nw hsz) ⟨ho, ho2, ?_⟩
  exact post_newT r hr2 q.2.2.1 q.2.2.2 s.toks

theorem bin_sound {d : Nat} {hd : Bool} {op : Operator} {ra rb : Value} {a b : V} {Q : V → Mem → Prop} (r : Rel c μ s.heap) (ha : RV c s.heap ra a) (hb : RV c s.heap rb b) (q : binW op a b μ Q)
    (aok : AOK c d hd A fs μ s.heap) : wpAny (model c.prog c.w) A (binaryOp op ra rb) (Post c fs μ s Q) E s := by
  unfold binW at q
  split at q
  · split at q
    · obtain ⟨j, rfl, q⟩ := asInt_of q
      obtain ⟨t, rfl⟩ := ha.int_of
      obtain ⟨u, rfl⟩ := hb.int_of
      exact PyProof.Rows.add_int ⟨_, _, Step.toks r, .int _ _, q⟩
    · obtain ⟨y, rfl, q⟩ := asS_of q
      obtain ⟨t, rfl⟩ := ha.str_of
      obtain ⟨u, rfl⟩ := hb.str_of
      exact SB.add (fun t' k => ⟨_, _, Step.toks r, .str _ _, q.2⟩) (Nat.le_trans q.1 lim_le)
    · obtain ⟨k, rfl, q⟩ := asT_of q
      exact bin_tup r ha hb q
    · exact bin_cat r ha hb q
  · obtain ⟨i, j, rfl, rfl, q⟩ := ints2_of q
    obtain ⟨t, rfl⟩ := ha.int_of
    obtain ⟨u, rfl⟩ := hb.int_of
    exact PyProof.Rows.sub_int ⟨_, _, Step.toks r, .int _ _, q⟩
  · split at q
    · obtain ⟨j, rfl, q⟩ := asInt_of q
      obtain ⟨t, rfl⟩ := ha.int_of
      obtain ⟨u, rfl⟩ := hb.int_of
      refine PyProof.Rows.mul_int ⟨_, _, Step.toks r, .int _ _, q.2⟩ ?_
      rcases q.1 with h | h
      · exact IntMulOk.of_left (intBits_le_64 (by omega) (by omega))
      · exact IntMulOk.of_right (intBits_le_64 (by omega) (by omega))
    · exact bin_rep r ha hb q
  · obtain ⟨i, j, rfl, rfl, q1, q2, q3⟩ := ints2_of q
    obtain ⟨t, rfl⟩ := ha.int_of
    obtain ⟨u, rfl⟩ := hb.int_of
    refine PyProof.Rows.floordiv_int (Int.ne_of_gt q1) ⟨_, _, Step.toks r, .int _ _, ?_⟩ (.inl (PyProof.noPylong_small (by omega)))
    rw [Int.fdiv_eq_ediv_of_nonneg _ (Int.le_of_lt q1)]; exact q3
  · obtain ⟨i, j, rfl, rfl, q1, q2⟩ := ints2_of q
    obtain ⟨t, rfl⟩ := ha.int_of
    obtain ⟨u, rfl⟩ := hb.int_of
    refine PyProof.Rows.mod_int' (Int.ne_of_gt q1) ⟨_, _, Step.toks r, .int _ _, ?_⟩
    rw [Int.fmod_eq_emod_of_nonneg _ (Int.le_of_lt q1)]; exact q2
  · obtain ⟨i, j, rfl, rfl, q1, q2, q3, q4⟩ := ints2_of q
    obtain ⟨t, rfl⟩ := ha.int_of
    obtain ⟨u, rfl⟩ := hb.int_of
    exact PyProof.Rows.pow_int_small q1 (by omega) (by omega) ⟨_, _, Step.toks r, .int _ _, q4⟩
  · exact q.elim
end
end Mine

set_option autoImplicit false
namespace Mine
set_option linter.unusedVariables false
open PySem PySem.W PySem.Calls PyProof.Rows

section
variable {c : Ctx} {A : Around} {fs : List Env} {μ : Mem} {s : Shared} {E : Value → Shared → Prop}

/-- the values read as data -/
theorem rd_reads {h : Heap} (r : Rel c μ h) : ∀ (n : Nat) {rv : Value} {v : V} {d : PyData}, RV c h rv v → rd μ n v = some d → (∃ as, Reads h rv d as) ∧ d.canLay0 = true ∧ d.depth ≤ n := by
  intro n
  induction n with
  | zero => intro rv v d _ e; cases e
  | succ n ih =>
    have all : ∀ {xs : List V} {vs : List Value} {ds : List PyData}, RVs c h vs xs → rdAll (rd μ n) xs = some ds → (∃ as, ReadsAll h vs ds as) ∧ PyData.canLayAll0 ds = true ∧ PyData.depthAll ds ≤ n := by
      intro xs
      induction xs with
      | nil => intro vs ds hr e; cases hr; cases e; exact ⟨⟨_, .nil⟩, by simp [PyData.canLayAll0], by simp [PyData.depthAll]⟩
      | cons x xs ihx =>
        intro vs ds hr e
        cases hr with
        | cons hv hr =>
          unfold rdAll at e
          split at e
          · rename_i d ds' e1 e2
            cases e
            obtain ⟨⟨as, h1⟩, h2, h3⟩ := ih hv e1
            obtain ⟨⟨bs, g1⟩, g2, g3⟩ := ihx hr e2
            exact ⟨⟨_, .cons h1 g1⟩, by simp [PyData.canLayAll0, h2, g2], by simp only [PyData.depthAll]; omega⟩
          · cases e
    intro rv v d hv e
    cases hv with
    | none => cases e; exact ⟨⟨_, .none⟩, rfl, by simp [PyData.depth]⟩
    | bool b => cases e; exact ⟨⟨_, .bool b⟩, rfl, by simp [PyData.depth]⟩
    | int i t => cases e; exact ⟨⟨_, .int i t⟩, rfl, by simp [PyData.depth]⟩
    | str x t =>
      simp only [rd] at e
      split at e
      · rename_i hs; cases e; exact ⟨⟨_, .str x t⟩, by simpa [PyData.canLay0] using hs, by simp [PyData.depth]⟩
      · cases e
    | tup ho hc hd hl _ =>
      simp only [rd, Option.map_eq_some_iff] at e
      obtain ⟨ds, e, rfl⟩ := e
      obtain ⟨⟨as, g1⟩, g2, g3⟩ := all hl e
      exact ⟨⟨_, .tuple ho hc hd g1⟩, by simpa [PyData.canLay0] using g2, by simp only [PyData.depth]; omega⟩
    | ref a =>
      simp only [rd] at e
      split at e
      · rename_i l hl
        simp only [Option.map_eq_some_iff] at e
        obtain ⟨ds, e, rfl⟩ := e
        obtain ⟨_, ob, eo, ro⟩ := r.mem a _ hl
        cases ro with
        | list hr _ =>
          obtain ⟨⟨as, g1⟩, g2, g3⟩ := all hr e
          exact ⟨⟨_, .list eo rfl rfl g1⟩, by simpa [PyData.canLay0] using g2, by simp only [PyData.depth]; omega⟩
      · cases e
    | rng => cases e
    | exc => cases e
    | frz => cases e
    | gd => cases e

theorem rd_shaped {h : Heap} (r : Rel c μ h) {rv : Value} {v : V} {d : PyData} (hv : RV c h rv v) (e : rd μ 8 v = some d) : (∃ as, Reads h rv d as) ∧ SeqAt.shaped d = true := by
  obtain ⟨h1, h2, h3⟩ := rd_reads r 8 hv e
  exact ⟨h1, by unfold SeqAt.shaped; rw [h2, Bool.true_and]; exact decide_eq_true (by omega)⟩

theorem deq_sound {d : Nat} {hd : Bool} {ra rb : Value} {a b : V} {e : Bool} {P : Value → Shared → Prop} (r : Rel c μ s.heap) (ha : RV c s.heap ra a) (hb : RV c s.heap rb b) (aok : AOK c d hd A fs μ s.heap) (q : deq μ a b = some e) :
    (P (.bool e) s → wpAny (model c.prog c.w) A (compareOp .Eq ra rb) P E s) ∧ (P (.bool (!e)) s → wpAny (model c.prog c.w) A (compareOp .NotEq ra rb) P E s) := by
  unfold deq at q
  split at q
  · cases ha; cases hb; cases q
    refine ⟨fun h => PyProof.Rows.eq_int ?_, fun h => PyProof.Rows.ne_int ?_⟩
    · exact h
    · exact h
  · split at q
    · rename_i x y e1 e2
      cases q
      obtain ⟨⟨as, g1⟩, g2⟩ := rd_shaped r ha e1
      obtain ⟨⟨bs, k1⟩, k2⟩ := rd_shaped r hb e2
      have hu : A.units + 64 < cLine := by have := aok.units; omega
      exact ⟨fun h => eq_dataH g1 k1 g2 k2 hu h, fun h => ne_dataH g1 k1 g2 k2 hu h⟩
    · cases q

theorem SdAre.get {x : Str} : ∀ {rs : List (Str × Value)} {l : List (String × Int)}, SdAre rs l → (match sGet l x with | some i => ∃ t, valueAt rs x = some (.int i t) | none => valueAt rs x = none) ∧ (valueAt rs x).isSome = sIn l x
  | _, _, .nil => ⟨rfl, rfl⟩
  | _, _, .cons (k := k) (i := i) (t := t) (rs := rs) (kvs := kvs) h => by
    have ih := SdAre.get (x := x) h
    unfold sGet sIn valueAt at ih ⊢
    rw [List.find?_cons, List.find?_cons, List.any_cons]
    by_cases e : Str.ofString k = x
    · subst e
      simp only [decide_true, beq_self_eq_true, Option.map_some, Option.isSome_some, Bool.true_or, and_true]
      exact ⟨t, rfl⟩
    · have e' : (Str.ofString k == x) = false := beq_eq_false_iff_ne.mpr e
      simp only [e, e', decide_false, Bool.false_or]
      exact ih
theorem asSd_of {rv : Value} {w : V} {kvs : List (String × Int)} (r : Rel c μ s.heap) (hw : RV c s.heap rv w) (h : asSd μ w = some kvs) : ∃ a rs, rv = .ref a ∧ s.heap.DictOf (strKind c.prog c.w) a rs ∧ SdAre rs kvs ∧ (a == sysModules) = false := by
  unfold asSd at h
  split at h
  · cases h
    cases hw with
    | @gd a rs _ h1 h2 h3 =>
    obtain ⟨o, es, ep, ho, rest⟩ := h1
    exact ⟨a, rs, rfl, ⟨o, es, ep, r.base _ _ ho, rest⟩, h2, h3⟩
  · split at h
    · rename_i e
      split at h
      · cases h
      · rename_i hne; cases h
        cases hw.ref_of
        obtain ⟨rs, h1, h2⟩ := r.sdt e
        exact ⟨_, rs, rfl, h1, h2, beq_false_of_ne hne⟩
    · cases h
  · cases h
theorem in_sound {d : Nat} {hd : Bool} {ra rb : Value} {a b : V} {e : Bool} {P : Value → Shared → Prop} (r : Rel c μ s.heap) (ha : RV c s.heap ra a) (hb : RV c s.heap rb b) (aok : AOK c d hd A fs μ s.heap) (q : inO μ a b = some e) :
    ((∀ n, P (.bool e) { s with toks := n }) → wpAny (model c.prog c.w) A (compareOp .In ra rb) P E s) ∧ ((∀ n, P (.bool (!e)) { s with toks := n }) → wpAny (model c.prog c.w) A (compareOp .NotIn ra rb) P E s) := by
  unfold inO at q
  split at q
  · rename_i x
    obtain ⟨t, rfl⟩ := ha.str_of
    split at q
    · rename_i y
      cases q
      obtain ⟨u, rfl⟩ := hb.str_of
      exact ⟨fun h => SB.contains (h _), fun h => SB.notContains (h _)⟩
    · obtain ⟨kvs, q1, rfl⟩ := Option.map_eq_some_iff.mp q
      obtain ⟨a, rs, rfl, h1, h2, h3⟩ := asSd_of r hb q1
      have e := (h2.get (x := x)).2
      refine ⟨fun h => wpAny_in_of (strKind_is _ _ _ _) h3 h1.mapOf ?_, fun h => wpAny_notIn_of (strKind_is _ _ _ _) h3 h1.mapOf ?_⟩
      · rw [e]; exact h _
      · rw [e]; exact h _
  · cases q

theorem is_sound {ra rb : Value} {a b : V} {e : Bool} {h : Heap} (ha : RV c h ra a) (hb : RV c h rb b) (q : isO a b = some e) : plainIs ra rb = true ∧ (ra == rb) = e := by
  cases hb <;> simp only [isO] at q <;> (try cases q) <;> cases ha <;> first | exact ⟨rfl, rfl⟩ | (refine ⟨rfl, ?_⟩; rename_i a b; cases a <;> cases b <;> rfl) | (refine ⟨rfl, ?_⟩; simp)

theorem cmp_sound {d : Nat} {hd : Bool} {op : CmpOp} {ra rb : Value} {a b : V} {Q : V → Mem → Prop} (r : Rel c μ s.heap) (ha : RV c s.heap ra a) (hb : RV c s.heap rb b) (q : cmpW op μ a b Q)
    (aok : AOK c d hd A fs μ s.heap) : wpAny (model c.prog c.w) A (compareOp op ra rb) (Post c fs μ s Q) E s := by
  unfold cmpW at q
  split at q
  · rename_i e he
    have fin : ∀ b', e = b' → Post c fs μ s Q (.bool b') s := fun b' h => ⟨.bool b', μ, Step.refl r, .bool _, h ▸ q⟩
    have fin' : ∀ b' n, e = b' → Post c fs μ s Q (.bool b') { s with toks := n } := fun b' n h => ⟨.bool b', μ, Step.toks r, .bool _, h ▸ q⟩
    cases op <;> simp only [cmpO] at he
    · exact (deq_sound r ha hb aok he).1 (fin _ rfl)
    · obtain ⟨e', h1, rfl⟩ := Option.map_eq_some_iff.mp he
      exact (deq_sound r ha hb aok h1).2 (fin _ rfl)
    · split at he
      · cases ha; cases hb; cases he; exact PyProof.Rows.lt_int (fin _ rfl)
      · cases he
    · split at he
      · cases ha; cases hb; cases he; exact PyProof.Rows.le_int (fin _ rfl)
      · cases he
    · split at he
      · cases ha; cases hb; cases he; exact PyProof.Rows.gt_int (fin _ rfl)
      · cases he
    · split at he
      · cases ha; cases hb; cases he; exact PyProof.Rows.ge_int (fin _ rfl)
      · cases he
    · obtain ⟨h1, h2⟩ := is_sound ha hb he
      exact wpAny_is_plain h1 (fin _ h2.symm)
    · obtain ⟨e', h0, rfl⟩ := Option.map_eq_some_iff.mp he
      obtain ⟨h1, h2⟩ := is_sound ha hb h0
      exact wpAny_isNot_plain h1 (fin _ (by rw [h2]))
    · exact (in_sound r ha hb aok he).1 fun n => fin' _ n rfl
    · obtain ⟨e', h1, rfl⟩ := Option.map_eq_some_iff.mp he
      exact (in_sound r ha hb aok h1).2 fun n => fin' _ n rfl
  · exact q.elim

end
end Mine

set_option autoImplicit false
namespace Mine
set_option linter.unusedVariables false
open PySem PySem.W PySem.Calls PyProof.Rows Builtin Builtin.ObjectAttr

theorem ofString_inj {a b : String} (h : Str.ofString a = Str.ofString b) : a = b := by
  rw [Str.ofString_eq_toList, Str.ofString_eq_toList] at h
  injection h with h
  have h' : a.toList.map Char.toNat = b.toList.map Char.toNat := by simpa using congrArg Array.toList h
  have inj : ∀ x y : Char, x.toNat = y.toNat → x = y := fun x y e => Char.ext (by exact UInt32.toNat_inj.mp e)
  have h2 : a.toList = b.toList := by
    generalize a.toList = l at h'
    generalize b.toList = k at h'
    induction l generalizing k with
    | nil => cases k with | nil => rfl | cons _ _ => simp at h'
    | cons x l ih => cases k with
      | nil => simp at h'
      | cons y k => simp only [List.map_cons, List.cons.injEq] at h'; rw [inj x y h'.1, ih k h'.2]
  exact String.ext h2
theorem ofString_beq (a b : String) : (Str.ofString a == Str.ofString b) = (a == b) := by
  by_cases h : a = b
  · subst h; simp
  · have : Str.ofString a ≠ Str.ofString b := fun e => h (ofString_inj e)
    rw [beq_eq_false_iff_ne.mpr this, beq_eq_false_iff_ne.mpr h]

/-- facts of a plain class -/
structure ClsOk (K : Frag) (C : Addr) : Prop where
  ga : findIn K (.ref C) "__getattribute__" = some (some (.builtin "object.__getattribute__"))
  gat : findIn K (.ref C) "__getattr__" = some none
  sa : findIn K (.ref C) "__setattr__" = some (some (.builtin "object.__setattr__"))
  dict : hasDictIn K C = true
  over : plainOver K C = true

section
variable {c : Ctx} {A : Around} {fs : List Env} {μ : Mem} {s : Shared} {E : Value → Shared → Prop}

theorem RFs.get {h : Heap} {a : String} {v : V} : ∀ {es : List DictEntry} {fl : List (String × V)}, RFs c h es fl → fl.lookup a = some v → ∃ rv, getL (Str.ofString a) es = some (some rv) ∧ RV c h rv v
  | _, _, .nil, e => by cases e
  | _, _, .cons (x := x) (t := t) (rv := rv) (es := es) hh hv hr, e => by
    simp only [List.lookup_cons] at e
    unfold getL
    rw [List.find?_cons]
    simp only [Value.isStr, ofString_beq]
    have sym : (a == x) = (x == a) := BEq.comm
    cases q : x == a with
    | true =>
      rw [sym, q] at e
      cases e
      exact ⟨rv, rfl, hv⟩
    | false =>
      rw [sym, q] at e
      obtain ⟨rv', h1, h2⟩ := hr.get e
      refine ⟨rv', ?_, h2⟩
      unfold getL at h1
      simp only [Value.isStr] at h1
      split at h1
      · rename_i en he
        cases h1
        simp only [Value.isStr, he]
      · split at h1 <;> cases h1
theorem RFs.noRef {h : Heap} : ∀ {es : List DictEntry} {fl : List (String × V)}, RFs c h es fl → es.any (·.refKey) = false
  | _, _, .nil => rfl
  | _, _, .cons _ _ hr => by rw [List.any_cons, hr.noRef]; rfl
theorem RFs.miss {h : Heap} {a : String} : ∀ {es : List DictEntry} {fl : List (String × V)}, RFs c h es fl → fl.lookup a = none → es.find? (·.key.isStr (Str.ofString a)) = none
  | _, _, .nil, e => rfl
  | _, _, .cons (x := x) hh hv hr, e => by
    simp only [List.lookup_cons] at e
    rw [List.find?_cons]
    simp only [Value.isStr, ofString_beq]
    have sym : (a == x) = (x == a) := BEq.comm
    cases q : x == a with
    | true => rw [sym, q] at e; cases e
    | false => rw [sym, q] at e; exact hr.miss e
theorem RFs.missL {h : Heap} {a : String} {es : List DictEntry} {fl : List (String × V)} (x : RFs c h es fl) (e : fl.lookup a = none) : getL (Str.ofString a) es = some none := by
  unfold getL; rw [x.miss e, x.noRef]; rfl
theorem RFs.put {h : Heap} {a : String} {v : V} {rv : Value} {t : Tok} (hv : RV c h rv v) : ∀ {es : List DictEntry} {fl : List (String × V)}, RFs c h es fl → RFs c h (putL (Str.ofString a) (PyData.keyHash c.w.params (Str.ofString a)) (.str (Str.ofString a) t) rv es) (putA a v fl)
  | _, _, .nil => .cons rfl hv .nil
  | _, _, .cons (x := x) (t := t') hh hw hr => by
    unfold putL putA
    simp only [Value.isStr, ofString_beq]
    by_cases q : x = a
    · subst q; simp only [beq_self_eq_true, if_true]; exact .cons hh hv hr
    · simp only [beq_eq_false_iff_ne.mpr q, Bool.false_eq_true, if_false, if_neg q]; exact .cons hh hw (hr.put hv)
theorem putL_len (name : Str) (hs : Int) (k v : Value) : ∀ es : List DictEntry, (putL name hs k v es).length ≤ es.length + 1
  | [] => by simp [putL]
  | e :: r => by unfold putL; split <;> simp [putL_len name hs k v r]
theorem RFs.length {h : Heap} : ∀ {es : List DictEntry} {fl : List (String × V)}, RFs c h es fl → es.length = fl.length
  | _, _, .nil => rfl
  | _, _, .cons _ _ hr => by simp [hr.length]

theorem handed_of {h : Heap} {rv : Value} {v : V} (x : RV c h rv v) : handedIn rv = true := by cases x <;> rfl

theorem attr_sound {ra : Value} {v w : V} {a : String} {Q : V → Mem → Prop} {expr : Bool} (X : c.K.In s.heap) (r : Rel c μ s.heap) (hv : RV c s.heap ra v) (g : getA μ v a = some w)
    (hc : ∀ x C, c.cls x = some C → ClsOk c.K C) (ha : ∀ x C, c.cls x = some C → findIn c.K (.ref C) (Str.ofString a) = some none) (q : Q w μ) :
    wpAny (model c.prog c.w) A (getAttr ra (Str.ofString a) expr) (Post c fs μ s Q) E s := by
  unfold getA at g
  split at g
  · cases hv
    rename_i x
    split at g
    · rename_i cl d hx
      split at g
      · rename_i fl hd
        obtain ⟨C, h1, h2⟩ := r.insts hx
        obtain ⟨es, n, h3, h4⟩ := r.attr hd
        obtain ⟨rv, h5, h6⟩ := h4.get g
        have I : InstAt s.heap x (instObj C d) C (some (dictOf es n)) := ⟨h2, rfl, rfl, h3⟩
        exact get_value X I (hc _ _ h1).ga (findObj_own (hc _ _ h1).dict (ha _ _ h1) rfl h5) (handed_of h6) ⟨w, μ, Step.toks r, h6, q⟩
      · cases g
    · cases g
  · cases g

/-- a store into a dict of one's own, the raw heap -/
theorem store_raw {prog : Program} {w : World} {K : Frag} {x C dx : Addr} {es : List DictEntry} {n : Nat} {name : Str} {v : Value} {Q : Unit → Shared → Prop} (X : K.In s.heap) (hx : s.heap.get? x = some (instObj C dx)) (hd : s.heap.get? dx = some (dictOf es n)) (ok : ClsOk K C)
    (ht : findIn K (.ref C) name = some none) (hl : es.any (·.refKey) = false) (hz : es.length < 900)
    (h : Q () { s with heap := s.heap.update dx (Obj.putName name (PyData.keyHash w.params name) (.str name (s.toks + 1)) v), toks := s.toks + 1 + 1 }) :
    wpAny (model prog w) A (setAttr (.ref x) name v) Q E s := by
  have I : InstAt s.heap x (instObj C dx) C (some (dictOf es n)) := ⟨hx, rfl, rfl, hd⟩
  refine set_plain X I ok.sa ?_
  refine osa_open (s := { s with toks := s.toks + 1 }) X I ok.over (r := none) (by unfold takerIn; rw [ht]; rfl) fun b => ?_
  obtain ⟨cd, hc, hd'⟩ := any_some ok.dict
  have D' : (s.heap.update dx (Obj.putName name (PyData.keyHash w.params name) (.str name (s.toks + 1)) v)).get? dx = some (dictOf (putL name (PyData.keyHash w.params name) (.str name (s.toks + 1)) v es) (putN name es n)) := by
    rw [← putName_dict]
    exact Heap.get?_update_self _ hd (by rw [putName_dict]; rfl)
  refine wpAny_bind (wpAny_pure (wpAny_bind (wpAny_bind (wpAny_loadPart hx (wpAny_bind ((looks_clsIn (M := model prog w) X hc).here (s := { s with toks := s.toks + 1 }) ?_))))))
  rw [hd']
  refine wpAny_pure (a := some dx) (wpAny_bind (wpAny_pure (wpAny_bind ?_)))
  unfold nsSet
  refine wpAny_bind (wpAny_bind (wpAny_askSetting (wpAny_pure (wpAny_bind (wpAny_mkText (wpAny_bind (wpAny_loadPart hd ?_)))))))
  dsimp only
  have cc : (!es.toArray.any (·.key.isStr name) && es.toArray.any (·.refKey)) = false := by
    rw [← Array.any_toList, ← Array.any_toList, hl, Bool.and_false]
  rw [aRefKeyMayBeTheName_at, cc]
  refine wpAny_updatePart hd ?_
  refine wpAny_bind (wpAny_lookBehind D' (pastItsLine_dict (by have := putL_len name (PyData.keyHash w.params name) (.str name (s.toks + 1)) v es; rw [List.size_toArray, sizeLine_eq]; omega)) ?_)
  exact wpAny_pure h

theorem setattr_sound {rv : Value} {v : V} {x d : Addr} {cl a : String} {fl : List (String × V)} {P : Unit → Shared → Prop} (X : c.K.In s.heap) (r : Rel c μ s.heap) (hv : RV c s.heap rv v) (hx : μ x = some (.inst cl d)) (hd : μ d = some (.attrs fl))
    (hc : ∀ x C, c.cls x = some C → ClsOk c.K C) (ha : ∀ x C, c.cls x = some C → findIn c.K (.ref C) (Str.ofString a) = some none) (hz : fl.length < 900)
    (h : ∀ s', Step c fs μ (updM μ d (.attrs (putA a v fl))) s s' → P () s') : wpAny (model c.prog c.w) A (setAttr (.ref x) (Str.ofString a) rv) P E s := by
  obtain ⟨C, h1, h2⟩ := r.insts hx
  obtain ⟨es, n, h3, h4⟩ := r.attr hd
  refine store_raw X h2 h3 (hc _ _ h1) (ha _ _ h1) h4.noRef (by rw [h4.length]; exact hz) (h _ ?_)
  refine Step.store r hd (fun b hb => Heap.get?_update_other _ _ (Ne.symm hb)) (ob := dictOf (putL (Str.ofString a) (PyData.keyHash c.w.params (Str.ofString a)) (.str (Str.ofString a) (s.toks + 1)) rv es) (putN (Str.ofString a) es n)) ?_ (.attrs (h4.put hv))
  rw [← putName_dict]
  exact Heap.get?_update_self _ h3 (by rw [putName_dict]; rfl)

end
end Mine

set_option autoImplicit false
namespace Mine
set_option linter.unusedVariables false
open PySem PySem.W PySem.Calls PyProof.Rows

theorem subscripted_toE (e : E) (o i : Value) : subscripted (toE e) false o i = operate [o, i] (getItem o i) := by
  cases e <;> rfl

section
variable {c : Ctx} {A : Around} {fs : List Env} {μ : Mem} {s : Shared} {E : Value → Shared → Prop}

theorem seqIndex_of {l : List V} {i : Int} {w : V} (h : idx l i = some w) : ∃ j, seqIndex? i l.length = some j ∧ l[j]? = some w := by
  unfold idx at h
  split at h
  · rename_i h0
    have := (List.getElem?_eq_some_iff.mp h).1
    refine ⟨i.toNat, ?_, h⟩
    unfold seqIndex?
    simp only [show ¬ i < 0 from by omega, if_false]
    rw [if_pos (by simp only [Bool.and_eq_true, decide_eq_true_eq]; omega)]
  · split at h
    · rename_i h0 h1
      have := (List.getElem?_eq_some_iff.mp h).1
      refine ⟨(i + l.length).toNat, ?_, h⟩
      unfold seqIndex?
      simp only [show i < 0 from by omega, if_true]
      rw [if_pos (by simp only [Bool.and_eq_true, decide_eq_true_eq]; omega)]
    · cases h

theorem idx_bound {l : List V} {i : Int} {w : V} (h : idx l i = some w) : -(l.length : Int) ≤ i ∧ i < l.length := by
  unfold idx at h
  split at h
  · have := (List.getElem?_eq_some_iff.mp h).1; omega
  · split at h
    · have := (List.getElem?_eq_some_iff.mp h).1; omega
    · cases h

end
end Mine

set_option autoImplicit false
namespace Mine
set_option linter.unusedVariables false
set_option linter.unusedSimpArgs false
open PySem PySem.W PySem.Calls PyProof.Rows

theorem lim_val : lim = 1048576 := rfl

section
variable {c : Ctx} {A : Around} {fs : List Env} {μ : Mem} {s : Shared} {E : Value → Shared → Prop}

theorem ints_get {vs : List Value} {ns : List Int} (hi : IntsAre vs ns) {i : Nat} {n : Int} (h : ns[i]? = some n) : ∃ t, vs[i]? = some (.int n t) := hi.get i n h

theorem sub_sound {value : Expr} {e : Mine.E} {ra ri : Value} {v j w : V} {Q : V → Mem → Prop} (r : Rel c μ s.heap) (ha : RV c s.heap ra v) (hi : RV c s.heap ri j) (g : subO μ v j = some w) (q : Q w μ) :
    wpAny (model c.prog c.w) A (subscriptTail value (toE e) ra ri) (Post c fs μ s Q) E s := by
  unfold subO at g
  split at g
  · cases ha; cases hi
    rename_i x i t
    split at g
    · rename_i l hl
      obtain ⟨vs, n, h1, h2, h3⟩ := r.lst hl
      have hb := idx_bound g
      have hsz : vs.size = l.length := by rw [← Array.length_toList, h2.length]
      rw [lim_val] at h3
      have key : ∀ {jj : Nat} {y : V}, l[jj]? = some y → ∃ rv, vs[jj]? = some rv ∧ RV c s.heap rv y := fun h => by
        obtain ⟨rv, k1, k2⟩ := h2.get h
        exact ⟨rv, by rw [← Array.getElem?_toList]; exact k1, k2⟩
      refine tail_any h1.isList.typeIs slot_list_getitem.lookup ?_ (subscripted_toE e _ _)
      unfold idx at g
      split at g
      · obtain ⟨rv, k1, k2⟩ := key g
        exact wpAny_getItem_list h1.isList (by omega) (by omega) k1 ⟨w, μ, Step.refl r, k2, q⟩
      · split at g
        · obtain ⟨rv, k1, k2⟩ := key g
          exact wpAny_getItem_list_neg h1.isList (by omega) (by omega) (by omega) (by rw [hsz]; exact k1) ⟨w, μ, Step.refl r, k2, q⟩
        · cases g
    · cases g
  · cases ha with
    | @tup a o vs n _ ho hc hd hl hz =>
    cases hi
    obtain ⟨jj, k1, k2⟩ := seqIndex_of g
    have hb := idx_bound g
    rw [lim_val] at hz
    obtain ⟨rv, k3, k4⟩ := hl.get k2
    have ht : IsTup s.heap a vs.toList.toArray := ⟨_, ho, hc, n, by simpa using hd⟩
    exact item_tupleT ht (by omega) (by omega) (by rw [hl.length]; exact k1) k3 ⟨w, μ, Step.refl r, k4, q⟩ (subscripted_toE e _ _)
  · cases ha with
    | @frz a o vs n _ e1 e2 e3 e4 e5 =>
    cases hi
    split at g
    · obtain ⟨n', k1, rfl⟩ := Option.map_eq_some_iff.mp g
      have hb := (List.getElem?_eq_some_iff.mp k1).1
      obtain ⟨t, k2⟩ := ints_get e4 k1
      rw [lim_val] at e5
      have hL : s.heap.IsList a vs := ⟨_, r.base _ _ e1, e2, n, e3⟩
      exact tail_any hL.typeIs slot_list_getitem.lookup (wpAny_getItem_list hL (by omega) (by omega) (by rw [← Array.getElem?_toList]; exact k2) ⟨_, μ, Step.refl r, .int _ _, q⟩) (subscripted_toE e _ _)
    · cases g
  · rename_i x i
    obtain ⟨t, rfl⟩ := ha.str_of
    obtain ⟨u, rfl⟩ := hi.int_of
    split at g
    · rename_i hb
      cases g
      rw [lim_val] at hb
      have hin : (Txt.charAt x i).isSome = true := by
        unfold Txt.charAt seqIndex?
        have h1 : ¬ i < 0 := by omega
        have h2 : (decide (0 ≤ i) && decide (i < (x.length : Int))) = true := by rw [Bool.and_eq_true, decide_eq_true_eq, decide_eq_true_eq]; exact ⟨hb.1, hb.2.1⟩
        have h3 : i.toNat < x.cps.size := by have := hb.2.1; have e : x.length = x.cps.size := rfl; omega
        simp only [h1, if_false, h2, if_true, Option.bind_some]
        rw [Array.getElem?_eq_getElem h3]; rfl
      refine tail_any (typeIs_str _ _ _) F.slot_str_getitem.lookup (SB.getItem (by unfold fitsSsize; rw [decide_eq_false (by omega : ¬ i < -2 ^ 63), decide_eq_false (by omega : ¬ i ≥ 2 ^ 63)]; rfl) hin ⟨_, μ, Step.toks r, .str _ _, q⟩) (subscripted_toE e _ _)
    · cases g
  · rename_i x
    obtain ⟨kvs, q1, q2⟩ := Option.bind_eq_some_iff.mp g
    obtain ⟨i, q3, rfl⟩ := Option.map_eq_some_iff.mp q2
    obtain ⟨a, rs, rfl, h1, h2, h3⟩ := asSd_of r ha q1
    obtain ⟨t, rfl⟩ := hi.str_of
    have hv := (h2.get (x := x)).1
    rw [q3] at hv
    obtain ⟨u, hv⟩ := hv
    exact tail_any h1.typeIs slot_dict_getitem.lookup (wpAny_getItem_of (Q := Post c fs μ s Q) (strKind_is _ _ _ _) h1.mapOf hv ⟨_, μ, Step.toks r, .int _ _, q⟩) (subscripted_toE e _ _)
  · cases g

theorem cut_sound {h : Heap} {vs : Array Value} {l : List V} {lo hi : Option Int} (hr : RVs c h vs.toList l) (h1 : nn lo) (h2 : nn hi) : RVs c h (slicePick vs lo hi none).toList (cut lo hi l) := by
  rw [slicePick_plain]
  simp only [List.toList_toArray, cut]
  have hl := hr.length
  rw [Array.length_toList] at hl
  have cl : ∀ i : Int, 0 ≤ i → clipAt vs.size i = min i.toNat vs.size := fun i hi => by
    have : clipAt vs.size ((i.toNat : Nat) : Int) = min i.toNat vs.size := clipAt_nat ..
    rw [← this]; congr 1; omega
  cases lo with
  | none =>
    simp only [Option.elim, List.drop_zero, Nat.sub_zero]
    cases hi with
    | none => simp only [Option.elim]; rw [List.take_of_length_le (by simp)]; exact hr
    | some u =>
      simp only [Option.elim, cl u h2]
      have := hr.take u.toNat
      by_cases hu : u.toNat ≤ vs.size
      · rw [Nat.min_eq_left hu]; exact this
      · rw [Nat.min_eq_right (by omega), List.take_of_length_le (by simp)]
        rw [List.take_of_length_le (by omega)]; exact hr
  | some i =>
    simp only [Option.elim, cl i h1]
    cases hi with
    | none =>
      simp only [Option.elim]
      by_cases hi : i.toNat ≤ vs.size
      · rw [Nat.min_eq_left hi, List.take_of_length_le (by simp)]; exact hr.drop _
      · rw [Nat.min_eq_right (by omega), Nat.sub_self, List.take_zero, List.drop_of_length_le (by omega)]; exact .nil
    | some u =>
      simp only [Option.elim, cl u h2]
      have hd := (hr.take u.toNat).drop i.toNat
      have e : (vs.toList.take u.toNat).drop i.toNat = (vs.toList.drop (min i.toNat vs.size)).take (min u.toNat vs.size - min i.toNat vs.size) := by
        rw [List.drop_take]
        by_cases hi : i.toNat ≤ vs.size
        · rw [Nat.min_eq_left hi]
          by_cases hu : u.toNat ≤ vs.size
          · rw [Nat.min_eq_left hu]
          · rw [Nat.min_eq_right (by omega), List.take_of_length_le (by simp; omega), List.take_of_length_le (by simp)]
        · rw [Nat.min_eq_right (a := i.toNat) (by omega)]
          rw [List.drop_of_length_le (by simp; omega), List.drop_of_length_le (by simp)]; simp
      rw [← e]; exact hd

/-- a tuple cut behind its first item -/
noncomputable def upTo (hi : Option Int) (n : Nat) : Nat := match hi with | some u => min u.toNat n | none => n
theorem adjust_cut {a n : Nat} {hi : Option Int} (ha : a ≤ n) (h : nn hi) : Builtin.Slice.sliceAdjust (some (a : Int)) hi 1 (n : Int) = ((a : Int), (upTo hi n : Int)) := by
  unfold Builtin.Slice.sliceAdjust upTo
  have h1 : ¬ ((1 : Int) < 0) := by omega
  have h2 : ¬ ((a : Int) < 0) := by omega
  cases hi with
  | none => simp only [h1, h2, if_false]; congr 1; omega
  | some u =>
    have h3 : ¬ (u < 0) := by have : (0 : Int) ≤ u := h; omega
    simp only [h1, h2, h3, if_false]
    congr 1
    · omega
    · have : (0 : Int) ≤ u := h
      omega
theorem places_cut (a n : Nat) : Builtin.Slice.slicePlaces (a : Int) (n : Int) 1 = n - a := by
  unfold Builtin.Slice.slicePlaces
  have h1 : (1 : Int) > 0 := by omega
  simp only [h1, if_true, Int.ediv_one]
  split <;> omega
theorem sliceApplied_cut {sl : Addr} {a n : Nat} {u : Tok} {vu : Value} {hi : Option Int} {s : Shared} {Q : Int × Int × Nat → Shared → Prop} {prog : Program} {w : World} (hs : s.heap.IsSliceOf sl (.int a u) vu .none) (pu : IsPart vu hi) (ha : a ≤ n) (hn : nn hi) (h : Q ((a : Int), 1, upTo hi n - a) s) :
    wpAny (model prog w) A (Builtin.Slice.sliceApplied (.ref sl) (pure (n : Int))) Q E s := by
  obtain ⟨os, hos, hcs, hds⟩ := id hs
  unfold Builtin.Slice.sliceApplied Builtin.Slice.sliceFields
  refine wpAny_bind (wpAny_bind (wpAny_field hos hds (x := .int a u) rfl (wpAny_bind (wpAny_field hos hds (x := vu) rfl (wpAny_bind (wpAny_field hos hds (x := .none) rfl (wpAny_pure ?_)))))))
  refine wpAny_bind (slicePart_none ?_)
  show wpAny _ _ (if ((1 : Int) == 0) = true then _ else _) _ _ s
  rw [if_neg (by decide)]
  have fin : wpAny (model prog w) A (match Builtin.Slice.sliceAdjust (some (a : Int)) hi 1 (n : Int) with | (lo, hi) => pure (lo, (1 : Int), Builtin.Slice.slicePlaces lo hi 1)) Q E s := by
    rw [adjust_cut ha hn]
    show wpAny _ _ (pure ((a : Int), (1 : Int), Builtin.Slice.slicePlaces (a : Int) ((upTo hi n : Nat) : Int) 1)) _ _ s
    rw [places_cut]
    exact wpAny_pure h
  cases pu with
  | none => exact wpAny_bind (slicePart_int (wpAny_bind (slicePart_none (wpAny_bind (wpAny_pure fin)))))
  | int i t => exact wpAny_bind (slicePart_int (wpAny_bind (slicePart_int (wpAny_bind (wpAny_pure fin)))))
theorem getItem_tuple_cut {t sl : Addr} {items : Array Value} {a : Nat} {u : Tok} {vu : Value} {hi : Option Int} {s : Shared} {Q : Value → Shared → Prop} {prog : Program} {w : World} (ht : IsTup s.heap t items) (hs : s.heap.IsSliceOf sl (.int a u) vu .none) (pu : IsPart vu hi) (h1 : 1 ≤ a) (ha : a ≤ items.size) (hn : nn hi)
    (h : Q (.ref s.heap.objs.size) { s with heap := s.heap.push { cls := .type "tuple", data := .seq ((items.toList.drop a).take (upTo hi items.size - a)).toArray } })
    (hsz : items.size ≤ sizeLine) : wpAny (model prog w) A (getItem (.ref t) (.ref sl)) Q E s := by
  have hdrop : sizeOk (.seq ((items.toList.drop a).take (upTo hi items.size - a)).toArray) := by
    show ((items.toList.drop a).take (upTo hi items.size - a)).toArray.size ≤ sizeLine
    rw [List.size_toArray, List.length_take, List.length_drop, Array.length_toList]
    omega
  obtain ⟨os, hos, hcs, hds⟩ := id hs
  have hTs : s.TypeIs (.ref sl) "slice" := ⟨os, hos, hcs⟩
  unfold getItem
  try with_reducible refine wpAny_holding ?_
  first | refine wpAny_bind (wpAny_pure ?_) | skip
  refine wpAny_bind (wpAny_sequenceKey ht.typeIs (by decide) ?_)
  refine wpAny_bind (wpAny_callSpecial?_slot (name := Str.ofString "__getitem__") ht.typeIs slot_tuple_getitem
    (wpAny_call_entry slot_tuple_getitem ht.typeIs entry_tuple_getitem ?_ (args_tuple_getitem _ _)))
  show wpAny _ _ (Builtin.Tuple.tupleItemsOf (.ref t) >>= _) _ _ s
  refine wpAny_bind (tupleItemsOf_ ht ?_)
  refine wpAny_bind (wpAny_typeOf hTs ?_)
  rw [if_pos (by decide)]
  refine wpAny_bind (sliceApplied_cut hs pu ha hn ?_)
  have hno : ¬ (((a : Int) == 0 && (1 : Int) == 1 && (upTo hi items.size - a) == items.size) = true) := by
    have : ((a : Int) == 0) = false := by rw [beq_eq_false_iff_ne]; omega
    rw [this]; simp
  show wpAny _ _ (if ((a : Int) == 0 && (1 : Int) == 1 && (upTo hi items.size - a) == items.size) = true then _ else _) _ _ s
  have pk : ((List.range (upTo hi items.size - a)).filterMap fun (k : Nat) => items[((a : Int) + (k : Int) * 1).toNat]?).toArray = ((items.toList.drop a).take (upTo hi items.size - a)).toArray := by
    have e : (fun (k : Nat) => items[((a : Int) + (k : Int) * 1).toNat]?) = fun k => items[a + k]? := by
      funext k
      have : ((a : Int) + (k : Int) * 1).toNat = a + k := by omega
      rw [this]
    rw [e]
    have := pick_run items a (upTo hi items.size - a)
    rw [List.filterMap_map] at this
    have e2 : ((fun x => items[x]?) ∘ fun x => a + x) = fun k => items[a + k]? := rfl
    rw [e2] at this
    rw [this]
  rw [if_neg hno, pk]
  first
    | exact wpAny_bind (m := Builtin.Tuple.tupleExact _) (wpAny_newObj_type (wpAny_pure ⟨_, rfl, wpAny_pure h⟩) hdrop)
    | exact wpAny_bind (m := Builtin.Tuple.tupleExact _) (wpAny_newObj_type (wpAny_bind (wpAny_pure (wpAny_pure ⟨_, rfl, wpAny_pure h⟩))) hdrop)
    | exact wpAny_bind (wpAny_bind (m := Builtin.Tuple.tupleExact _) (wpAny_newObj_type (wpAny_pure (wpAny_pure ⟨_, rfl, wpAny_pure h⟩)) hdrop))
    | exact wpAny_bind (wpAny_bind (m := Builtin.Tuple.tupleExact _) (wpAny_newObj_type (wpAny_pure ⟨_, rfl, wpAny_pure h⟩) hdrop))
theorem cut_tup {h : Heap} {vs : Array Value} {l : List V} {i : Int} {hi : Option Int} (hr : RVs c h vs.toList l) : RVs c h ((vs.toList.drop i.toNat).take (upTo hi vs.size - i.toNat)) (cut (some i) hi l) := by
  have hl := hr.length
  rw [Array.length_toList] at hl
  cases hi with
  | none =>
    simp only [cut, upTo]
    rw [List.take_of_length_le (by simp)]
    exact hr.drop _
  | some u =>
    simp only [cut, upTo]
    have e : (vs.toList.drop i.toNat).take (min u.toNat vs.size - i.toNat) = (vs.toList.take u.toNat).drop i.toNat := by
      rw [List.drop_take]
      by_cases hu : u.toNat ≤ vs.size
      · rw [Nat.min_eq_left hu]
      · rw [Nat.min_eq_right (by omega), List.take_of_length_le (by simp), List.take_of_length_le (by simp; omega)]
    rw [e]
    exact (hr.take _).drop _

/-- the slice object is made, then the list is cut -/
theorem slice_sound {value slice : Expr} {ra rl ru : Value} {v : V} {lo hi : Option Int} {Q : V → Mem → Prop} {s : Shared} (r : Rel c μ s.heap) (ha : RV c s.heap ra v) (pl : IsPart rl lo) (pu : IsPart ru hi) (g : sliceW μ v lo hi Q)
    (hs : ∀ a i, subscripted slice false a i = operate [i, a] (getItem a i)) :
    wpAny (model c.prog c.w) A (subscriptTail value slice ra (.ref s.heap.objs.size)) (Post c fs μ s Q) E { s with heap := s.heap.push { cls := .type "slice", data := .fields #[rl, ru, .none] } } := by
  unfold sliceW at g
  split at g
  · cases ha
    split at g
    · rename_i x l hl
      obtain ⟨vs, n, h1, h2, h3⟩ := r.lst hl
      have hz : vs.size ≤ sizeLine := newL_size h2 h3
      refine tail_any (Heap.IsList.typeIs (s := { s with heap := s.heap.push { cls := .type "slice", data := .fields #[rl, ru, .none] } }) (h1.isList.push _)) list_getitem_lookup
        (wpAny_getItem_list_slice (h1.isList.push _) (Heap.IsSliceOf.new ..) pl pu .none (by simp) ?_ hz) (hs _ _)
      have st : Step c fs μ μ s { s with heap := s.heap.push { cls := .type "slice", data := .fields #[rl, ru, .none] } } := Step.grows (n := s.toks) r fun b o e => Heap.get?_push_of_some _ e
      exact (post_newL (s := { s with heap := s.heap.push { cls := .type "slice", data := .fields #[rl, ru, .none] } }) st.rel (cut_sound (h2.step r st) g.1 g.2.1) g.2.2 s.toks).after st
    · exact g.elim
  · rename_i l
    split at g
    · rename_i i
      obtain ⟨g1, g2, g3, g⟩ := g
      cases ha with
      | @tup t o vs n _ ho hc hdd hl hz =>
      cases pl with
      | int _ u =>
      have hsz : vs.size = l.length := by rw [← Array.length_toList, hl.length]
      rw [lim_val] at hz
      have ei : ((i.toNat : Nat) : Int) = i := by omega
      have ht' : IsTup (s.heap.push { cls := .type "slice", data := .fields #[.int i u, ru, .none] }) t vs := ⟨o, Heap.get?_push_of_some _ ho, hc, n, hdd⟩
      refine tail_any (s := { s with heap := s.heap.push { cls := .type "slice", data := .fields #[.int i u, ru, .none] } }) ht'.typeIs slot_tuple_getitem.lookup ?_ (hs _ _)
      refine getItem_tuple_cut (s := { s with heap := s.heap.push { cls := .type "slice", data := .fields #[.int i u, ru, .none] } }) (a := i.toNat) (u := u) ht' (by rw [ei]; exact Heap.IsSliceOf.new ..) pu (by omega) (by omega) g3 ?_ (by rw [sizeLine_eq]; omega)
      have st : Step c fs μ μ s { s with heap := (s.heap.push { cls := .type "slice", data := .fields #[.int i u, ru, .none] }).push { cls := .type "tuple", data := .seq ((vs.toList.drop i.toNat).take (upTo hi vs.size - i.toNat)).toArray } } := Step.grows (n := s.toks) r fun b o e => Heap.get?_push_of_some _ (Heap.get?_push_of_some _ e)
      have hr' : RVs c s.heap ((vs.toList.drop i.toNat).take (upTo hi vs.size - i.toNat)) (cut (some i) hi l) := cut_tup hl
      refine ⟨_, μ, st, .tup (Heap.get?_push_size _ rfl) rfl rfl (by simpa using hr'.step r st) ?_, g⟩
      have := hr'.length
      rw [List.length_take, List.length_drop, Array.length_toList] at this
      rw [lim_val]
      omega
    · exact g.elim
  · rename_i x
    obtain ⟨t, rfl⟩ := ha.str_of
    have hsz : x.length ≤ sizeLine := Nat.le_trans g.1 lim_le
    have fin : ∀ (ob : Obj) (t' : Tok) (k : Nat), Post c fs μ s Q (.str (Txt.slice x lo hi) t') { s with heap := s.heap.push ob, toks := k } := fun ob t' k => ⟨_, μ, Step.grows r fun b o e => Heap.get?_push_of_some _ e, .str _ _, g.2⟩
    cases pl with
    | none => cases pu with
      | none => exact tail_any (s := { s with heap := s.heap.push { cls := .type "slice", data := .fields #[.none, .none, .none] } }) (typeIs_str _ _ _) F.slot_str_getitem.lookup (wpAny_getItem_str_slice (l := none) (u := none) (st := none) ⟨_, Heap.get?_push_size _ rfl, rfl, rfl⟩ rfl (post_val_or_str ⟨Nat.le_trans (Txt.slice_le x _ _) hsz, fun t' k => fin _ t' k⟩)) (hs _ _)
      | int j u => exact tail_any (s := { s with heap := s.heap.push { cls := .type "slice", data := .fields #[.none, .int j u, .none] } }) (typeIs_str _ _ _) F.slot_str_getitem.lookup (wpAny_getItem_str_slice (l := none) (u := some (j, u)) (st := none) ⟨_, Heap.get?_push_size _ rfl, rfl, rfl⟩ rfl (post_val_or_str ⟨Nat.le_trans (Txt.slice_le x _ _) hsz, fun t' k => fin _ t' k⟩)) (hs _ _)
    | int i u' => cases pu with
      | none => exact tail_any (s := { s with heap := s.heap.push { cls := .type "slice", data := .fields #[.int i u', .none, .none] } }) (typeIs_str _ _ _) F.slot_str_getitem.lookup (wpAny_getItem_str_slice (l := some (i, u')) (u := none) (st := none) ⟨_, Heap.get?_push_size _ rfl, rfl, rfl⟩ rfl (post_val_or_str ⟨Nat.le_trans (Txt.slice_le x _ _) hsz, fun t' k => fin _ t' k⟩)) (hs _ _)
      | int j u => exact tail_any (s := { s with heap := s.heap.push { cls := .type "slice", data := .fields #[.int i u', .int j u, .none] } }) (typeIs_str _ _ _) F.slot_str_getitem.lookup (wpAny_getItem_str_slice (l := some (i, u')) (u := some (j, u)) (st := none) ⟨_, Heap.get?_push_size _ rfl, rfl, rfl⟩ rfl (post_val_or_str ⟨Nat.le_trans (Txt.slice_le x _ _) hsz, fun t' k => fin _ t' k⟩)) (hs _ _)
  · exact g.elim

end
end Mine

set_option autoImplicit false
namespace Mine
set_option linter.unusedVariables false
set_option linter.unusedSimpArgs false
open PySem PySem.W PySem.Calls PyProof.Rows

section
variable {c : Ctx} {A : Around} {fs : List Env} {μ : Mem} {s : Shared} {E : Value → Shared → Prop}

/-- isinstance against a built-in type -/
theorem isi_ty_sound {ra : Value} {v : V} {n : String} {b : Bool} {P : Value → Shared → Prop} (r : Rel c μ s.heap) (ha : RV c s.heap ra v) (hne : ∀ x, v ≠ .exc x) (g : isiO μ v (.ty n) = some b)
    (h : ∀ tk, P (.bool b) { s with toks := tk }) : wpAny (model c.prog c.w) A (call (.builtin "isinstance") [ra, .type n]) P E s := by
  have h0 := h s.toks
  have h' := h (s.toks + 1)
  have fin : ∀ t, ((if n = "int" ∨ n = "bool" ∨ n = "str" ∨ n = "tuple" ∨ n = "list" then (some t).map fun t => t == n || (t == "bool" && n == "int") else none) = some b) → (n = "int" ∨ n = "bool" ∨ n = "str" ∨ n = "tuple" ∨ n = "list") ∧ (t == n || (t == "bool" && n == "int")) = b := fun t g => by
    split at g
    · rename_i hn; exact ⟨hn, Option.some.inj g⟩
    · cases g
  cases ha with
  | none => obtain ⟨hn, h2⟩ := fin _ g; rcases hn with rfl | rfl | rfl | rfl | rfl <;> simp at h2 <;> subst h2 <;> first | exact IsiPair.NoneType_int h' | exact IsiPair.NoneType_bool h' | exact IsiPair.NoneType_str h' | exact IsiPair.NoneType_tuple h' | exact IsiPair.NoneType_list h'
  | bool x => obtain ⟨hn, h2⟩ := fin _ g; rcases hn with rfl | rfl | rfl | rfl | rfl <;> simp at h2 <;> subst h2 <;> first | exact IsiPair.bool_int h0 | exact IsiPair.bool_bool h0 | exact IsiPair.bool_str h' | exact IsiPair.bool_tuple h' | exact IsiPair.bool_list h'
  | int x t => obtain ⟨hn, h2⟩ := fin _ g; rcases hn with rfl | rfl | rfl | rfl | rfl <;> simp at h2 <;> subst h2 <;> first | exact IsiPair.int_int h0 | exact IsiPair.int_bool h' | exact IsiPair.int_str h' | exact IsiPair.int_tuple h' | exact IsiPair.int_list h'
  | str x t => obtain ⟨hn, h2⟩ := fin _ g; rcases hn with rfl | rfl | rfl | rfl | rfl <;> simp at h2 <;> subst h2 <;> first | exact IsiPair.str_int h' | exact IsiPair.str_bool h' | exact IsiPair.str_str h0 | exact IsiPair.str_tuple h' | exact IsiPair.str_list h'
  | tup ho hc _ _ _ => obtain ⟨hn, h2⟩ := fin _ g; rcases hn with rfl | rfl | rfl | rfl | rfl <;> simp at h2 <;> subst h2 <;> first | exact IsiPair.tuple_int ho hc h' | exact IsiPair.tuple_bool ho hc h' | exact IsiPair.tuple_str ho hc h' | exact IsiPair.tuple_tuple ho hc h0 | exact IsiPair.tuple_list ho hc h'
  | ref a =>
    simp only [isiO, tyO] at g
    cases hm : μ a with
    | none => rw [hm] at g; split at g <;> cases g
    | some o =>
      rw [hm] at g
      cases o with
      | list l =>
        obtain ⟨vs, k, e, _⟩ := r.lst hm
        obtain ⟨hn, h2⟩ := fin _ g
        rcases hn with rfl | rfl | rfl | rfl | rfl <;> simp at h2 <;> subst h2 <;> first | exact IsiPair.list_int e rfl h' | exact IsiPair.list_bool e rfl h' | exact IsiPair.list_str e rfl h' | exact IsiPair.list_tuple e rfl h' | exact IsiPair.list_list e rfl h0
      | _ => split at g <;> cases g
  | rng _ _ => simp only [isiO, tyO] at g; split at g <;> cases g
  | exc _ _ _ _ => exact absurd rfl (hne _)
  | frz _ _ _ _ _ => simp only [isiO, tyO] at g; split at g <;> cases g
  | gd _ _ _ => simp only [isiO, tyO] at g; split at g <;> cases g

theorem rng_items_sound {h : Heap} {a b : Int} {acc : Array Value} {n : Nat} (hn : n = (b - a).toNat) (h1 : acc.size = n) (h2 : ∀ (j : Nat) v, acc[j]? = some v → ∃ t, v = Value.int (a + j * 1) t) : RVs c h acc.toList (rngItems a b 1) := by
  have key : ∀ (l : List Value) (k : Nat), (∀ j v, l[j]? = some v → ∃ t, v = Value.int (a + (k + j : Nat)) t) → RVs c h l ((List.range' k l.length).map fun (i : Nat) => V.int (a + i)) := by
    intro l
    induction l with
    | nil => intro k _; exact .nil
    | cons x l ih =>
      intro k hk
      obtain ⟨t, rfl⟩ := hk 0 x rfl
      rw [List.length_cons, List.range'_succ, List.map_cons]
      refine .cons (by simpa using RV.int _ t) (ih (k + 1) fun j v hj => ?_)
      obtain ⟨t', rfl⟩ := hk (j + 1) v (by simpa using hj)
      exact ⟨t', by congr 2; omega⟩
  unfold rngItems
  rw [if_pos rfl, List.range_eq_range', ← hn, ← h1, ← Array.length_toList]
  refine key acc.toList 0 fun j v hj => ?_
  obtain ⟨t, e⟩ := h2 j v (by rw [← Array.getElem?_toList]; exact hj)
  exact ⟨t, by rw [e]; simp⟩

theorem rng_small {lo hi : Int} (q1 : hi - lo ≤ 1048576) (q2 : -2 ^ 62 < lo ∧ lo < 2 ^ 62) (q3 : -2 ^ 62 < hi ∧ hi < 2 ^ 62) : Builtin.Range.small lo hi 1 = true := by
  have hs : Builtin.Range.rangeSize lo hi 1 = ((hi - lo).toNat : Int) := by
    unfold Builtin.Range.rangeSize
    rw [if_pos (by decide)]
    split <;> omega
  unfold Builtin.Range.small
  rw [hs]
  unfold Builtin.Range.rangeFitsLong
  simp only [Bool.and_eq_true, Bool.or_eq_true, decide_eq_true_eq, beq_iff_eq, if_pos (show (1 : Int) > 0 from by decide)]
  omega

/-- calls of built-in functions and types -/
noncomputable def bltnV (f : String) : Value := if f = "len" ∨ f = "min" ∨ f = "max" ∨ f = "sum" ∨ f = "all" then .builtin f else .type f

theorem all_bools {l : Addr} {us : Array Value} {bs : List Bool} {Q : Value → Shared → Prop} {prog : Program} {w : World} (hh : A.handled = none) (hl : s.heap.IsList l us) (hb : LSm.BoolsAre us.toList bs)
    (h : ∀ h' tk, (∀ b o, s.heap.get? b = some o → h'.get? b = some o) → Q (.bool (bs.all id)) { s with heap := h', toks := tk }) : wpAny (model prog w) A (call (.builtin "all") [.ref l]) Q E s := by
  have hlt : l < s.heap.objs.size := by obtain ⟨_, e, _⟩ := hl; exact Heap.lt_size e
  refine call_all_walk (wpAny_pyIter_list hl ?_)
  refine ⟨s.heap.objs.size, [s.heap.objs.size, l], [s.heap.objs.size], us.size, _, _, fun i => (bs[i]?).getD true, rfl, Walks.list (A := A.in1) hh _ l (Nat.ne_of_lt hlt) us,
    ⟨⟨_, Heap.get?_push_size _ rfl, rfl, rfl⟩, hl.push _⟩, fun i v s' Q' E' hP hQ => ?_, fun h' tk hk => ?_⟩
  · obtain ⟨b, e, rfl⟩ := hb.get i v (by simpa using hP)
    simp only [e, Option.getD_some] at hQ
    exact wpAny_truthy_bool hQ
  · have e : ((List.range us.size).all fun i => (bs[i]?).getD true) = bs.all id := by
      rw [← Array.length_toList, hb.length]; exact LSm.range_all bs
    rw [e]
    exact h h' tk (LSm.kept_iter hk)
theorem allO_sound {h : Heap} : ∀ {l : List V} {us : List Value} {b : Bool}, RVs c h us l → allO l = some b → ∃ bs, LSm.BoolsAre us bs ∧ bs.all id = b
  | [], _, b, hr, e => by
    cases hr; cases e; exact ⟨[], .nil, rfl⟩
  | .bool x :: l, _, b, hr, e => by
    cases hr with
    | cons hv hr =>
    cases hv.bool_of
    unfold allO at e
    obtain ⟨b', e', rfl⟩ := Option.map_eq_some_iff.mp e
    obtain ⟨bs, h1, h2⟩ := allO_sound hr e'
    exact ⟨x :: bs, .cons x h1, by rw [List.all_cons, h2]; rfl⟩
  | .none :: _, _, _, _, e | .int _ :: _, _, _, _, e | .str _ :: _, _, _, _, e | .tup _ :: _, _, _, _, e | .ref _ :: _, _, _, _, e | .rng _ _ _ :: _, _, _, _, e | .exc _ :: _, _, _, _, e | .frz _ :: _, _, _, _, e | .gd _ :: _, _, _, _, e => by cases e

theorem sumO_sound {h : Heap} : ∀ {l : List V} {us : List Value} {i : Int}, RVs c h us l → sumO l = some i → ∃ ns, IntsAre us ns ∧ ns.sum = i
  | [], _, i, hr, e => by
    cases hr; cases e; exact ⟨[], .nil, rfl⟩
  | .int x :: l, _, i, hr, e => by
    cases hr with
    | cons hv hr =>
    obtain ⟨t, rfl⟩ := hv.int_of
    unfold sumO at e
    obtain ⟨j, e', rfl⟩ := Option.map_eq_some_iff.mp e
    obtain ⟨ns, h1, h2⟩ := sumO_sound hr e'
    exact ⟨x :: ns, .cons x t h1, by rw [List.sum_cons, h2]⟩
  | .none :: _, _, _, _, e | .bool _ :: _, _, _, _, e | .str _ :: _, _, _, _, e | .tup _ :: _, _, _, _, e | .ref _ :: _, _, _, _, e | .rng _ _ _ :: _, _, _, _, e | .exc _ :: _, _, _, _, e | .frz _ :: _, _, _, _, e | .gd _ :: _, _, _, _, e => by cases e
theorem sum_ints' {l : Addr} {us : Array Value} {ns : List Int} {Q : Value → Shared → Prop} {prog : Program} {w : World} (hh : A.handled = none) (hl : s.heap.IsList l us) (hi : IntsAre us.toList ns)
    (h : ∀ h' tk t', (∀ b o, s.heap.get? b = some o → h'.get? b = some o) → Q (.int ns.sum t') { s with heap := h', toks := tk }) : wpAny (model prog w) A (call (.builtin "sum") [.ref l]) Q E s := by
  obtain ⟨xs, hx⟩ := hi.allInts.items
  have hx : us = intItems xs := by simpa using hx
  have hl' : s.heap.IsList l (intItems xs) := hx ▸ hl
  refine sum_intListG hh hl' fun h' tk t' hk => ?_
  have e1 : ns = xs.toList.map (·.1) := by
    rw [← nums_intItems, ← hx]
    exact (show numsOf us.toList = ns from hi.numsOf).symm
  have e2 : preSum (numAt xs) xs.size = ns.sum := by
    rw [preSum_eq, List.take_of_length_le (by simp), e1]
  rw [e2]
  exact h h' tk t' hk

theorem len_sound {rv : Value} {v : V} {Q : V → Mem → Prop} (r : Rel c μ s.heap) (hv : RV c s.heap rv v) (q : lenW v μ Q) : wpAny (model c.prog c.w) A (call (.builtin "len") [rv]) (Post c fs μ s Q) E s := by
  unfold lenW at q
  split at q
  · cases hv with
    | @tup a o us n _ ho hc hdd hl hz =>
    rw [lim_val] at hz
    have hsz := hl.length
    rw [Array.length_toList] at hsz
    refine PyProof.Rows.len_tuple ⟨_, ho, hc, n, hdd⟩ (by omega) ⟨_, _, Step.toks r, .int _ _, ?_⟩
    rw [hsz]; exact q
  · cases hv with
    | @frz a o us n _ e1 e2 e3 e4 e5 =>
    rw [lim_val] at e5
    have hsz := e4.length
    rw [Array.length_toList] at hsz
    refine call_len_list (items := us) ⟨_, r.base _ _ e1, e2, n, e3⟩ (by omega) ⟨_, _, Step.toks r, .int _ _, ?_⟩
    rw [hsz]; exact q
  · rename_i x
    obtain ⟨t, rfl⟩ := hv.str_of
    have hz := q.1
    rw [lim_val] at hz
    exact PyProof.Rows.len_str (by omega) ⟨_, _, Step.toks r, .int _ _, q.2⟩
  · obtain ⟨x, l, rfl, hl, q⟩ := asL_of q
    cases hv.ref_of
    obtain ⟨us, n, h1, h2, h3⟩ := r.lst hl
    have hsz : us.size = l.length := by rw [← Array.length_toList, h2.length]
    rw [lim_val] at h3
    refine call_len_list h1.isList (by omega) ⟨_, _, Step.toks r, .int _ _, ?_⟩
    rw [hsz]; exact q
theorem rngB_sound {rvs : List Value} {vs : List V} {Q : V → Mem → Prop} (r : Rel c μ s.heap) (hr : RVs c s.heap rvs vs) (q : rngW vs μ Q) : wpAny (model c.prog c.w) A (call (.type "range") rvs) (Post c fs μ s Q) E s := by
  unfold rngW at q
  split at q
  · obtain ⟨b, rfl, q⟩ := asInt_of q
    obtain ⟨_, rfl, hv⟩ := hr.one
    obtain ⟨_, rfl⟩ := hv.int_of
    exact call_range_1 ⟨_, _, Step.grows r fun b o e => Heap.get?_push_of_some _ e, .rng (Heap.get?_push_size _ rfl) ⟨by decide, ⟨q.2.1, Int.lt_of_le_of_lt q.1 (by decide)⟩, .inl rfl⟩, q.2.2⟩
  · obtain ⟨a, b, rfl, rfl, q⟩ := ints2_of q
    obtain ⟨_, _, rfl, hv, hw⟩ := hr.two
    obtain ⟨_, rfl⟩ := hv.int_of
    obtain ⟨_, rfl⟩ := hw.int_of
    exact call_range_2 ⟨_, _, Step.grows r fun b o e => Heap.get?_push_of_some _ e, .rng (Heap.get?_push_size _ rfl) ⟨q.2.2.1, q.2.1, .inl rfl⟩, q.2.2.2⟩
  · obtain ⟨a, b, rfl, rfl, q'⟩ := ints2_of q
    obtain ⟨z, rfl, rfl, u⟩ := asInt_of q'
    cases hr with
    | cons hv hr =>
    obtain ⟨_, _, rfl, hw, hx⟩ := hr.two
    obtain ⟨_, rfl⟩ := hv.int_of
    obtain ⟨_, rfl⟩ := hw.int_of
    obtain ⟨_, rfl⟩ := hx.int_of
    exact call_range_3 (by decide) ⟨_, _, Step.grows (n := s.toks) r fun b o e => Heap.get?_push_of_some _ e, .rng (Heap.get?_push_size _ rfl) ⟨u.2.2.1, u.2.1, .inr rfl⟩, u.2.2.2⟩ (.inl (PyProof.noPylong_small (by decide)))
  · exact q.elim
theorem listB_sound {d : Nat} {hd : Bool} {rv : Value} {v : V} {Q : V → Mem → Prop} (r : Rel c μ s.heap) (hv : RV c s.heap rv v) (q : listW hd v μ Q) (aok : AOK c d hd A fs μ s.heap) : wpAny (model c.prog c.w) A (call (.type "list") [rv]) (Post c fs μ s Q) E s := by
  have hn : s.heap.get? s.heap.objs.size = none := Heap.get?_none_of_le (Nat.le_refl _)
  unfold listW at q
  split at q
  · cases hv with
    | rng hrg hok =>
    obtain ⟨q0, rfl, q1, q2, q3, q4⟩ := q
    clear hok
    rename_i lo hi a t1 t2 t3
    rw [lim_val] at q1
    have hsize : Builtin.Range.rangeSize lo hi 1 = ((hi - lo).toNat : Int) := by
      unfold Builtin.Range.rangeSize
      rw [if_pos (by decide)]
      split <;> omega
    refine call_list_range (aok.handled q0) hrg (rng_small q1 q2 q3) hsize (by omega) fun h' tk acc' c' hk hD hI => ?_
    exact ⟨_, _, Step.alloc r hk hn hD (.list (rng_items_sound rfl hI.1 hI.2) q4.1), .ref _, q4.2 _ (r.free hn)⟩
  · obtain ⟨x, l, rfl, hl, q⟩ := asL_of q
    cases hv.ref_of
    obtain ⟨us, n, h1, h2, h3⟩ := r.lst hl
    refine call_list_seq _ (.inl rfl) h1 rfl rfl (fun h' c' hk hD => ?_) (newL_size h2 h3)
    exact ⟨_, _, Step.alloc (n := s.toks) r hk hn hD (.list (h2.mono r (.of_keeps fun b o e _ => hk b o e)) h3), .ref _, q.2 _ (r.free hn)⟩

theorem bltn_sound {d : Nat} {hd : Bool} {f : String} {rvs : List Value} {vs : List V} {Q : V → Mem → Prop} (r : Rel c μ s.heap) (hr : RVs c s.heap rvs vs) (q : bltnW hd f vs μ Q) (aok : AOK c d hd A fs μ s.heap) :
    wpAny (model c.prog c.w) A (call (bltnV f) rvs) (Post c fs μ s Q) E s := by
  unfold bltnW at q
  split at q
  · rename_i e; subst e
    obtain ⟨v, rfl, q⟩ := one_of q
    obtain ⟨_, rfl, hv⟩ := hr.one
    exact len_sound r hv q
  split at q
  · rename_i e; subst e
    obtain ⟨v, rfl, q⟩ := one_of q
    obtain ⟨_, rfl, hv⟩ := hr.one
    obtain ⟨x, rfl, q1, q⟩ := asS_of q
    obtain ⟨t, rfl⟩ := hv.str_of
    unfold optW at q
    split at q
    · rename_i w hw
      obtain ⟨n, hn, rfl⟩ := Option.map_eq_some_iff.mp hw
      exact PySem.W.KIN.call_text hn q1 ⟨_, _, Step.toks r, .int _ _, q⟩
    · exact q.elim
  split at q
  · rename_i e; subst e
    obtain ⟨v, rfl, g⟩ := one_of q
    obtain ⟨_, rfl, hv⟩ := hr.one
    unfold strOfW at g
    split at g
    · obtain ⟨t, rfl⟩ := hv.int_of
      exact P.str_of_int g.1 ⟨_, _, Step.toks r, .str _ _, g.2⟩
    · obtain ⟨t, rfl⟩ := hv.str_of
      exact P.str_of_str ⟨_, _, Step.refl r, .str _ _, g⟩
    · exact g.elim
  split at q
  · rename_i e; subst e
    obtain ⟨v, rfl, q⟩ := one_of q
    obtain ⟨_, rfl, hv⟩ := hr.one
    obtain ⟨x, l, rfl, hl, q⟩ := asL_of q
    cases hv.ref_of
    obtain ⟨us, n, h1, h2, h3⟩ := r.lst hl
    refine call_tuple_list h1.isList (fun h' hk => ?_) (newL_size h2 h3)
    have st : Step c fs μ μ s { s with heap := h' } := Step.grows (n := s.toks) r hk
    exact (post_newT (s := { s with heap := h' }) st.rel (h2.step r st) h3 q s.toks).after st
  split at q
  · rename_i e; subst e
    obtain ⟨q0, q⟩ := q
    obtain ⟨v, w, rfl, q⟩ := two_of q
    obtain ⟨a, b, rfl, rfl, q⟩ := ints2_of q
    obtain ⟨_, _, rfl, hv, hw⟩ := hr.two
    obtain ⟨_, rfl⟩ := hv.int_of
    obtain ⟨_, rfl⟩ := hw.int_of
    refine min_two_ints (aok.handled q0) fun h' tk hk => ⟨.int (min a b), μ, Step.grows r hk, ?_, q⟩
    by_cases hb : b < a
    · rw [if_pos hb, Int.min_eq_right (Int.le_of_lt hb)]; exact .int _ _
    · rw [if_neg hb, Int.min_eq_left (Int.not_lt.mp hb)]; exact .int _ _
  split at q
  · rename_i e; subst e
    obtain ⟨q0, q⟩ := q
    obtain ⟨v, w, rfl, q⟩ := two_of q
    obtain ⟨a, b, rfl, rfl, q⟩ := ints2_of q
    obtain ⟨_, _, rfl, hv, hw⟩ := hr.two
    obtain ⟨_, rfl⟩ := hv.int_of
    obtain ⟨_, rfl⟩ := hw.int_of
    refine max_two_ints (aok.handled q0) fun h' tk hk => ⟨.int (max a b), μ, Step.grows r hk, ?_, q⟩
    by_cases hb : b > a
    · rw [if_pos hb, Int.max_eq_right (Int.le_of_lt hb)]; exact .int _ _
    · rw [if_neg hb, Int.max_eq_left (Int.not_lt.mp hb)]; exact .int _ _
  split at q
  · rename_i e; subst e
    exact rngB_sound r hr q
  split at q
  · rename_i e; subst e
    obtain ⟨v, rfl, q⟩ := one_of q
    obtain ⟨_, rfl, hv⟩ := hr.one
    exact listB_sound r hv q aok
  split at q
  · rename_i e; subst e
    obtain ⟨q0, q⟩ := q
    obtain ⟨v, rfl, q⟩ := one_of q
    obtain ⟨_, rfl, hv⟩ := hr.one
    obtain ⟨x, l, rfl, hl, q⟩ := asL_of q
    cases hv.ref_of
    obtain ⟨us, n, h1, h2, h3⟩ := r.lst hl
    unfold allW at q
    split at q
    · rename_i b e
      obtain ⟨bs, g1, rfl⟩ := allO_sound h2 e
      exact all_bools (aok.handled q0) h1.isList g1 fun h' tk hk => ⟨_, _, Step.grows r hk, .bool _, q⟩
    · exact q.elim
  split at q
  · rename_i e; subst e
    obtain ⟨q0, q⟩ := q
    obtain ⟨v, rfl, q⟩ := one_of q
    obtain ⟨_, rfl, hv⟩ := hr.one
    obtain ⟨x, l, rfl, hl, q⟩ := asL_of q
    cases hv.ref_of
    obtain ⟨us, n, h1, h2, h3⟩ := r.lst hl
    unfold sumW at q
    split at q
    · rename_i i e
      obtain ⟨ns, g1, rfl⟩ := sumO_sound h2 e
      exact sum_ints' (aok.handled q0) h1.isList g1 fun h' tk t' hk => ⟨_, _, Step.grows r hk, .int _ _, q⟩
    · exact q.elim
  · exact q.elim
end
end Mine

set_option autoImplicit false
namespace Mine
set_option linter.unusedVariables false
set_option linter.unusedSimpArgs false
open PySem PySem.W PySem.Calls PyProof.Rows

section
variable {c : Ctx} {A : Around} {fs : List Env} {μ : Mem} {s : Shared} {E : Value → Shared → Prop}

theorem step_list {a : Addr} {l l' : List V} {vs vs' : Array Value} {n : Nat} {f : Array Value → Array Value} (r : Rel c μ s.heap) (hm : μ a = some (.list l)) (hl : IsL s.heap a vs n) (e : f vs = vs') (hr : RVs c s.heap vs'.toList l') (hz : l'.length ≤ lim) :
    Step c fs μ (updM μ a (.list l')) s { s with heap := s.heap.update a (Obj.mapSeq f) } := by
  subst e
  exact Step.store (n := s.toks) r hm (fun b hb => Heap.get?_update_other _ _ (Ne.symm hb)) (hl.update f) (.list hr hz)

theorem cntO_sound {h : Heap} {A : Around} {s : Shared} {k : Int} (t : Tok) : ∀ {l : List V} {us : List Value} {n : Nat}, RVs c h us l → cntO k l = some n → (∀ y ∈ us, SeqAt.EqAt A s y (.int k t) (isInt k y)) ∧ us.countP (isInt k) = n
  | [], _, n, hr, e => by
    cases hr; cases e; exact ⟨(fun _ h => by cases h), rfl⟩
  | .int x :: l, _, n, hr, e => by
    cases hr with
    | cons hv hr =>
    obtain ⟨u, rfl⟩ := hv.int_of
    unfold cntO at e
    obtain ⟨j, e', rfl⟩ := Option.map_eq_some_iff.mp e
    obtain ⟨h1, h2⟩ := cntO_sound t hr e'
    refine ⟨fun y hy => ?_, ?_⟩
    · rcases List.mem_cons.mp hy with rfl | hy
      · exact SeqAt.EqAt.int_int x u k t
      · exact h1 y hy
    · rw [List.countP_cons, h2]
      by_cases q : x = k
      · subst q; simp [isInt]; omega
      · simp [isInt, q]
  | .none :: l, _, n, hr, e => by
    cases hr with
    | cons hv hr =>
    cases hv
    unfold cntO at e
    obtain ⟨h1, h2⟩ := cntO_sound t hr e
    refine ⟨fun y hy => ?_, ?_⟩
    · rcases List.mem_cons.mp hy with rfl | hy
      · exact SeqAt.EqAt.none_int k t
      · exact h1 y hy
    · rw [List.countP_cons, h2]; simp [isInt]
  | .bool _ :: _, _, _, _, e | .str _ :: _, _, _, _, e | .tup _ :: _, _, _, _, e | .ref _ :: _, _, _, _, e | .rng _ _ _ :: _, _, _, _, e | .exc _ :: _, _, _, _, e | .frz _ :: _, _, _, _, e => by cases e

/-- a method of a list -/
theorem lst_sound {d : Nat} {hd : Bool} {m : String} {a : Addr} {rvs : List Value} {vs : List V} {Q : V → Mem → Prop} (r : Rel c μ s.heap) (hr : RVs c s.heap rvs vs) (q : lstW m a vs μ Q) (aok : AOK c d hd A fs μ s.heap) :
    wpAny (model c.prog c.w) A (call (.builtin ("list." ++ m)) (.ref a :: rvs)) (Post c fs μ s Q) E s := by
  unfold lstW at q
  replace q := asL_of q
  obtain ⟨_, l, e, hm, q⟩ := q
  injection e with e
  subst e
  obtain ⟨us, n, h1, h2, h3⟩ := r.lst hm
  have hz : us.size ≤ sizeLine := newL_size h2 h3
  split at q
  · rename_i e; subst e
    replace q := one_of q
    obtain ⟨v, rfl, q⟩ := q
    obtain ⟨rv, rfl, hv⟩ := hr.one
    refine call_meets F.slot_list_append ⟨_, h1, rfl⟩ F.entry_list_append (F.args_list_append_2 _ _) (list_append a us n rv hz) ⟨h1, .none, _, step_list r hm h1 rfl (l' := l ++ [v]) ?_ (by rw [List.length_append]; exact q.1), .none, q.2⟩
    rw [Array.toList_push]; exact h2.append (.cons hv .nil)
  split at q
  · rename_i e; subst e
    replace q := one_of q
    obtain ⟨v, rfl, q⟩ := q
    obtain ⟨rv, rfl, hv⟩ := hr.one
    replace q := asL_of q
    obtain ⟨b, k, rfl, hb, q⟩ := q
    cases hv.ref_of
    obtain ⟨ws, n', g1, g2, g3⟩ := r.lst hb
    have hsz : us.size = l.length := by rw [← Array.length_toList, h2.length]
    have hsw : ws.size = k.length := by rw [← Array.length_toList, g2.length]
    have q2 := q.2.1
    rw [lim_val] at q2
    refine call_meets F.slot_list_extend ⟨_, h1, rfl⟩ F.entry_list_extend (F.args_list_extend_2 _ _) (AutoSeq1.list_extend_list_list_0 a us n _ ws n' ?_ hz (by rw [sizeLine_eq]; omega)) ⟨h1, g1, .none, _, step_list r hm h1 rfl (l' := l ++ k) ?_ (by rw [List.length_append]; exact q.2.1), .none, q.2.2⟩
    · simp [Builtin.List.listTooLong, sizeLine_eq]; omega
    · rw [Array.toList_append]; exact h2.append g2
  split at q
  · rename_i e; subst e
    replace q := one_of q
    obtain ⟨v, rfl, q⟩ := q
    obtain ⟨rv, rfl, hv⟩ := hr.one
    replace q := asInt_of q
    obtain ⟨i, rfl, h0, q⟩ := q
    obtain ⟨t, rfl⟩ := hv.int_of
    split at q
    · rename_i v hv
      obtain ⟨rv, k1, k2⟩ := h2.get hv
      have hb := (List.getElem?_eq_some_iff.mp hv).1
      have hsz : us.size = l.length := by rw [← Array.length_toList, h2.length]
      rw [lim_val] at h3
      have st : Step c fs μ (updM μ a (.list (l.eraseIdx i.toNat))) s _ := step_list (f := fun x => x.eraseIdxIfInBounds i.toNat) r hm h1 rfl (l' := l.eraseIdx i.toNat) (by rw [Array.toList_eraseIdxIfInBounds]; exact h2.eraseIdx _) (by have := List.length_eraseIdx_le l i.toNat; rw [lim_val]; omega)
      refine call_meets F.slot_list_pop ⟨_, h1, rfl⟩ F.entry_list_pop (F.args_list_pop_2 _ _) (MeetsSeq.list_pop_at a us n i t i.toNat rv (by simp [Builtin.List.listFitsIndex]; omega) ?_ (by rw [← Array.getElem?_toList]; exact k1) hz)
        ⟨h1, v, _, st, k2.step r st, q⟩
      unfold seqIndex?
      simp only [show ¬ i < 0 from by omega, if_false]
      rw [if_pos (by simp only [Bool.and_eq_true, decide_eq_true_eq]; omega)]
    · exact q.elim
  split at q
  · rename_i e; subst e
    obtain ⟨rfl, q⟩ := q
    cases hr
    refine call_meets F.slot_list_reverse ⟨_, h1, rfl⟩ F.entry_list_reverse (F.args_list_reverse_1 _) (AutoSeq1.list_reverse_list_0 a us n hz) ⟨h1, .none, _, step_list r hm h1 rfl (l' := l.reverse) ?_ (by rw [List.length_reverse]; exact h3), .none, q⟩
    rw [Array.toList_reverse]; exact h2.reverse
  split at q
  · rename_i e; subst e
    obtain ⟨rfl, q⟩ := q
    cases hr
    exact call_meets F.slot_list_clear ⟨_, h1, rfl⟩ F.entry_list_clear (F.args_list_clear_1 _) (AutoSeq1.list_clear_list_0 a us n hz) ⟨h1, .none, _, step_list r hm h1 rfl (l' := []) .nil (Nat.zero_le _), .none, q⟩
  split at q
  · rename_i e; subst e
    replace q := one_of q
    obtain ⟨v, rfl, q⟩ := q
    obtain ⟨rv, rfl, hv⟩ := hr.one
    replace q := asInt_of q
    obtain ⟨k, rfl, q⟩ := q
    obtain ⟨t, rfl⟩ := hv.int_of
    unfold cntW at q
    split at q
    · rename_i m e
      obtain ⟨g1, g2⟩ := cntO_sound (A := A.in1) (s := s) t h2 e
      refine call_meets F.slot_list_count ⟨_, h1, rfl⟩ F.entry_list_count (F.args_list_count_2 _ _) (SeqAt.list_countAt a us n _ _ (.int k t) (isInt k)) ⟨h1, fun y hy => g1 y (by simpa using hy), _, _, Step.toks r, .int _ _, ?_⟩
      rw [g2]; exact q
    · exact q.elim
  · exact q.elim

omit A fs μ s E in
theorem RVs.texts {h : Heap} : ∀ l : List (Str × Tok), RVs c h (strValues l) ((l.map (·.1)).map V.str)
  | [] => .nil
  | p :: r => .cons (.str p.1 p.2) (RVs.texts r)
omit A fs μ s E in
theorem txts_of {h : Heap} : ∀ {l : List V} {us : List Value} {ts : List Str}, RVs c h us l → txts l = some ts → ∃ l' : List (Str × Tok), us = strValues l' ∧ l'.map (·.1) = ts
  | [], _, ts, hr, e => by cases hr; cases e; exact ⟨[], rfl, rfl⟩
  | v :: l, _, ts, hr, e => by
    cases hr with
    | cons hv hr =>
    unfold txts at e
    split at e
    · rename_i q; cases q
    · rename_i x r q
      cases q
      obtain ⟨ts', e', rfl⟩ := Option.map_eq_some_iff.mp e
      obtain ⟨l', h1, h2⟩ := txts_of hr e'
      obtain ⟨t, rfl⟩ := hv.str_of
      exact ⟨(x, t) :: l', by rw [h1]; rfl, by rw [List.map_cons, h2]⟩
    · cases e
theorem strM_sound {m : String} {x : Str} {t : Tok} {rvs : List Value} {vs : List V} {Q : V → Mem → Prop} (r : Rel c μ s.heap) (hr : RVs c s.heap rvs vs) (q : strW m x vs μ Q) :
    wpAny (model c.prog c.w) A (call (.builtin ("str." ++ m)) (.str x t :: rvs)) (Post c fs μ s Q) E s := by
  unfold strW at q
  obtain ⟨v, rfl, q⟩ := one_of q
  obtain ⟨rv, rfl, hv⟩ := hr.one
  split at q
  · rename_i e; subst e
    obtain ⟨y, rfl, hy, hx, q⟩ := asS_of q
    obtain ⟨u, rfl⟩ := hv.str_of
    have hy' : (y.length == 0) = false := beq_eq_false_iff_ne.mpr hy
    have hsz : x.length ≤ sizeLine := Nat.le_trans hx lim_le
    have hone : Txt.split x y = [x] → ∀ k, Post c fs μ s Q (.ref s.heap.objs.size) { s with heap := s.heap.push { cls := .type "list", data := .seq #[.str x t] }, toks := k } := fun e k => by
      rw [e] at q
      exact post_newL r (vs := #[.str x t]) (.cons (.str x t) .nil) q k
    show wpAny _ A (call (.builtin "str.split") [.str x t, .str y u]) _ E s
    cases h1 : (decide (x.length < y.length) || decide (PySem.Builtin.Str.strKind x < PySem.Builtin.Str.strKind y))
    · cases hf : (PySem.Builtin.Str.occurrences x y 0 x.length (x.length + 1)).isEmpty
      · have e : Txt.split x y = PySem.Builtin.Str.partsBetween x (PySem.Builtin.Str.occurrences x y 0 x.length (x.length + 1)) y.length := (if_neg (ne_true_of_eq_false h1)).trans (if_neg (ne_true_of_eq_false hf))
        have hz := q.1
        rw [List.length_map, e] at hz
        refine call_meets F.slot_str_split (typeIs_str _ _ _) F.entry_str_split (F.args_str_split_2 _ _) (meets_str_split_sep x y t u h1 hy' hf hsz (Nat.le_trans hz lim_le)) ?_
        show wants (Post c fs μ s Q) E _ { s with toks := _, heap := s.heap.push { cls := .type "list", data := .seq (strsFrom s.toks (PySem.Builtin.Str.partsBetween x (PySem.Builtin.Str.occurrences x y 0 x.length (x.length + 1)) y.length)).toArray } }
        rw [strsFrom_eq]
        refine post_newL r ?_ q _
        rw [e]
        have := RVs.texts (c := c) (h := s.heap) (numbered s.toks (PySem.Builtin.Str.partsBetween x (PySem.Builtin.Str.occurrences x y 0 x.length (x.length + 1)) y.length))
        rw [numbered_texts] at this
        exact this
      · exact call_meets F.slot_str_split (typeIs_str _ _ _) F.entry_str_split (F.args_str_split_2 _ _) (meets_str_split_not_found x y t u h1 hy' hf) (hone ((if_neg (ne_true_of_eq_false h1)).trans (if_pos hf)) s.toks)
    · exact call_meets F.slot_str_split (typeIs_str _ _ _) F.entry_str_split (F.args_str_split_2 _ _) (meets_str_split_cannot_occur x y t u h1) (hone (if_pos h1) s.toks)
  split at q
  · rename_i e; subst e
    obtain ⟨y, rfl, q⟩ := asS_of q
    obtain ⟨u, rfl⟩ := hv.str_of
    exact SC.rfind ⟨_, _, Step.toks r, .int _ _, q⟩
  split at q
  · rename_i e; subst e
    obtain ⟨D, l, rfl, hl, q⟩ := asL_of q
    cases hv.ref_of
    unfold txtsW at q
    split at q
    · rename_i ts ht
      obtain ⟨us, n, h1, h2, h3⟩ := r.lst hl
      obtain ⟨l', e1, e2⟩ := txts_of h2 ht
      have e3 : us = (strValues l').toArray := by rw [← e1]
      exact PySem.SC.join (l := l') (e3 ▸ h1.isList) e2 q.1 fun t' k => ⟨_, _, Step.toks r, .str _ _, q.2⟩
    · exact q.elim
  · exact q.elim
end
end Mine

set_option autoImplicit false
set_option maxRecDepth 100000
namespace Mine
open PySem PySem.Spec PySem.W PySem.Calls PyProof.Rows PySem.Builtin PySem.Builtin.ObjectAttr PySem.Builtin.Getset_descriptor

theorem looks_data {K : Frag} {M : Model} {h : Heap} (X : K.In h) {x C : Addr} {name : Str} {a g : Value} (ha : findIn K (.ref C) name = some (some a)) (hg : specialIn K a "__get__" = some (some g)) (hd : takesIn K a = some true) : Looks M h (find (.ref x) (.ref C) name) (.bind g a) :=
  (looks_findIn X ha).andThen ((looks_specialIn X hg).andThen ((show Looks M h (dataDescriptor? (some a) (some g)) (some (g, a)) from (looks_takesIn X hd).andThen .now).andThen (Looks.tag .now)))

structure ExcK (K : Frag) (C : Addr) : Prop where
  is : (clsIn K C).isSome = true
  ga : findIn K (.ref C) "__getattribute__" = some (some (.builtin "BaseException.__getattribute__"))
  gt : findIn K (.ref C) "__getattr__" = some none
  cl : findIn K (.ref C) "__class__" = some (some (.builtin "object.__class__"))
  gn : specialIn K (.builtin "object.__class__") "__get__" = some (some (.builtin "getset_descriptor.__get__"))
  tk : takesIn K (.builtin "object.__class__") = some true
  mo : mroIn K C (.type "object") = some true
  mb : mroIn K C (.type "BaseException") = some true

theorem class_getX {prog : Program} {w : World} {A : Around} {s : Shared} {K : Frag} {x C : Addr} {tp : Value} {R : Result → Shared → Prop} (X : K.In s.heap) (L0 : Looks (model prog w) s.heap (typeOf (.ref x)) (.ref C)) (hm : mroIn K C (.type "object") = some true)
    (h : R (.ok (.ret (.ref C))) s) : codeAny (model prog w) A (.call (.builtin "getset_descriptor.__get__") ⟨[.builtin "object.__class__", .ref x, tp], []⟩) R s := by
  obtain ⟨hh, g, dr, t, os⟩ := s
  have L1 := looks_mroIn (M := model prog w) X hm
  refine codeAny_call_builtin KF.slot_gs.plain KF.entry_gs (KF.slot_gs.check _ _ _ _ _ _ _ _ KF.type_class (KF.args_gs _ _ _) ?_)
  unfold Builtin.«getset_descriptor.__get__» descrGet
  rw [dga_obj]
  refine wpAny_bind (wpAny_pure ?_)
  unfold descrGetter descrCheckInstance descrNameAndClass isInstance
  simp only [KF.owner_class]
  repeat lk
  refine ⟨Code.quiet_builtin _ (by decide +kernel), codeAny_builtin KF.entry_class ?_⟩
  unfold Builtin.«object.__class__» shownTypeOf
  repeat lk
  exact h

theorem exc_check {K : Frag} {M : Model} {A : Around} {E : Value → Shared → Prop} {s : Shared} {e C : Addr} {nameV : Value} {Q : Unit → Shared → Prop} (X : K.In s.heap) (Z : ExcK K C) (L0 : Looks M s.heap (typeOf (.ref e)) (.ref C)) (hq : Q () s) :
    wpAny M A (checkBuiltinCall "BaseException.__getattribute__" ⟨[.ref e, nameV], []⟩) Q E s := by
  have hk : builtinKind "BaseException.__getattribute__" = some .slot := by decide +kernel
  have hsplit : splitId "BaseException.__getattribute__" = some ("BaseException", "__getattribute__") := by decide +kernel
  have L1 : Looks M s.heap (isInstance (.ref e) (.type "BaseException")) true := L0.andThen (looks_mroIn X Z.mb)
  obtain ⟨hh, g, dr, t, os⟩ := s
  simp only [checkBuiltinCall, hk, hsplit]
  refine wpAny_bind (L1.at ?_)
  have ha := F.args_bexc_ga (.ref e) nameV
  simp only [Bool.not_true, Bool.false_eq_true, if_false]
  cases hsig : Manifest.signature? "BaseException.__getattribute__" with
  | none => exact wpAny_pure hq
  | some sig =>
    simp only [argsOk, hsig] at ha
    show wpAny _ _ (Bind.checkArgs _ _ _) _ _ _
    rw [ha]; exact wpAny_pure hq

theorem exc_class {K : Frag} {prog : Program} {w : World} {A : Around} {E : Value → Shared → Prop} {s : Shared} {e C : Addr} {o : Obj} {Q : Option Value → Shared → Prop} (X : K.In s.heap) (Z : ExcK K C) (he : s.heap.get? e = some o) (hc : o.cls = .ref C)
    (h : Q (some (.ref C)) { s with toks := s.toks + 1 }) : wpAny (model prog w) A (getAttr? (.ref e) "__class__") Q E s := by
  obtain ⟨hh, g, d, t, os⟩ := s
  have L0 : Looks (model prog w) hh (typeOf (.ref e)) (.ref C) := hc ▸ (Looks.ld he).andThen .now
  have L1 := looks_findIn (M := model prog w) X Z.ga
  have L2 := looks_findIn (M := model prog w) X Z.gt
  have L3 := looks_data (M := model prog w) (x := e) X Z.cl Z.gn Z.tk
  have hx2 : (Value.builtin "BaseException.__getattribute__" == Value.builtin "object.__getattribute__") = false := by decide +kernel
  have f3 := F.attrBase_ValueError.ga.bind (.ref e)
  unfold getAttr? getAttrBy? getAttrBy
  refine wpAny_bind (wpAny_mkText (wpAny_bind (wpAny_attempt (wpAny_holding (wpAny_bind (L0.at (wpAny_bind (L1.at ?_))))))))
  simp only [hx2, Bool.and_false, Bool.false_eq_true, if_false]
  unfold getAttrByItsOwn
  refine wpAny_bind (L2.at (wpAny_bind (wpAny_attempt (wpAny_holding ?_))))
  show wpAny _ _ (boundAndCalled _ _ _) _ _ _
  unfold boundAndCalled
  refine wpAny_bind (wpAny_of_eq f3 (wpAny_call (codeAny_call_builtin F.attrBase_ValueError.ga.plain F.entry_bexc_ga (exc_check X Z L0 ?_))))
  have hs : slotArgs "__getattribute__" 1 ⟨[.ref e, .str "__class__" t], []⟩ = pure (.ref e, [.str "__class__" t]) := by kernel_rfl
  show wpAny _ _ (Builtin.«object.__getattribute__» ⟨[.ref e, .str "__class__" t], []⟩) _ _ _
  unfold Builtin.«object.__getattribute__»
  refine wpAny_bind (wpAny_of_eq hs ?_)
  refine wpAny_bind (wpAny_pure (wpAny_bind (L0.at (wpAny_bind (L3.at ?_)))))
  show wpAny _ _ (holding [_] (call (.builtin "getset_descriptor.__get__") [.builtin "object.__class__", .ref e, .ref C]) >>= ret) _ _ _
  refine wpAny_bind (wpAny_holding (wpAny_call (class_getX X L0 Z.mo (wpAny_pure ?_))))
  exact handed_on rfl (wpAny_pure h)
end Mine

set_option autoImplicit false
set_option maxRecDepth 100000
namespace Mine
open PySem PySem.Spec PySem.W PySem.Calls PyProof.Rows

theorem cls_at {K : Frag} {C : Addr} (h : (clsIn K C).isSome = true) : ∃ c d cd sl, K.lookup C = some ⟨c, d, .cls cd, sl⟩ := by
  unfold clsIn at h
  split at h
  · rename_i ho; exact ⟨_, _, _, _, ho⟩
  · cases h
theorem kitx_exc {K : Frag} {e C : Addr} (Z : ExcK K C) : KitX K (.ref e) (.ref C) (fun h => ∃ o, h.get? e = some o ∧ o.cls = .ref C) where
  ty := fun _ _ _ ⟨_, ho, hc⟩ => hc ▸ (Looks.ld ho).andThen .now
  it := fun _ _ X _ => by
    obtain ⟨_, _, _, _, ho⟩ := cls_at Z.is
    intro A' Q' E' s' k q
    unfold isType loadHead
    exact wpAny_bind (wpAny_loadPart (k _ _ (X _ _ ho)) (wpAny_pure q))
  ne := fun h tp dd its n sl X htp => by
    obtain ⟨_, _, _, _, ho⟩ := cls_at Z.is
    refine Bool.eq_false_iff.mpr fun q => ?_
    have e : C = tp := Value.ref.inj (beq_iff_eq.mp q)
    subst e
    have z := (X _ _ ho).symm.trans htp
    cases z
  ca := fun X ⟨_, ho, hc⟩ k => exc_class X Z ho hc k
end Mine

set_option autoImplicit false
namespace Mine
set_option linter.unusedVariables false
set_option linter.unusedSimpArgs false
open PySem PySem.W PySem.Calls PyProof.Rows

/-- what a call of a function of the text does -/
noncomputable def SC (c : Ctx) (d : Nat) (hd : Bool) : Sc := fun f vs μ Q X =>
  ∃ fa, c.fn f = some fa ∧ ∀ A fs s rvs, AOK c d hd A fs μ s.heap → Rel c μ s.heap → RVs c s.heap rvs vs →
    codeAny (model c.prog c.w) A (.call (.ref fa) ⟨rvs, []⟩) (fun r s' => match r with
      | .ok (.ret rv) => Post c fs μ s Q rv s'
      | .ok _ => False
      | .error re => XPost c fs μ s X re s') s

noncomputable def bltNames : List String := ["len", "int", "min", "max", "range", "list", "sum", "all", "str", "tuple"]
noncomputable def tyNames : List String := ["int", "bool", "str", "tuple", "list", "ValueError"]

noncomputable def vErr : List Value := [.type "ValueError", .type "Exception", .type "BaseException", .type "object"]

structure Good (c : Ctx) (sg : Sig) : Prop where
  X : c.K.In c.base
  top : ∃ p loose mg mb, TopRead p loose mg mb c.base
  cls : ∀ x C, c.cls x = some C → ClsOk c.K C
  attr : ∀ x C a, c.cls x = some C → a ∈ sg.attrs → findIn c.K (.ref C) (Str.ofString a) = some none
  meth : ∀ x C m, c.cls x = some C → (x, m) ∈ sg.meths → ∃ f, c.fn (x ++ "." ++ m) = some f ∧ findIn c.K (.ref C) (Str.ofString m) = some (some (.ref f)) ∧ typeIn c.K (.ref f) = some (.type "function") ∧ keepIn c.K (.ref f) = true
  fn : ∀ f ∈ sg.fns, ∃ fa, c.fn f = some fa ∧ nsIn c.K mainGlobals (Str.ofString f) = some (some (.ref fa)) ∧ keepIn c.K (.ref fa) = true
  new : ∀ x ∈ sg.clss, ∃ C fI, c.cls x = some C ∧ nsIn c.K mainGlobals (Str.ofString x) = some (some (.ref C)) ∧ makesIn c.K C = true ∧ keepIn c.K (.ref C) = true ∧ c.fn (x ++ ".__init__") = some fI ∧
    findIn c.K (.ref C) "__init__" = some (some (.ref fI)) ∧ typeIn c.K (.ref fI) = some (.type "function")
  blt : ∀ f ∈ "isinstance" :: bltNames ++ tyNames, nsIn c.K mainGlobals (Str.ofString f) = some none
  exc : ∀ x C, c.exc x = some C → nsIn c.K mainGlobals (Str.ofString x) = some (some (.ref C)) ∧ excIn c.K C vErr "ValueError.__new__" = true
  excs : ∀ x ∈ sg.excs, ∃ C, c.exc x = some C
  sub : ∀ x y C D, c.exc x = some C → c.exc y = some D → exmOne c.K (.ref C) (.ref D) = some (isSub x y)
  exk : ∀ x C, c.exc x = some C → ExcK c.K C ∧ kitOne c.K (.ref C) (.type "ValueError") = some true
  kit : ∀ x y C D, c.exc x = some C → c.exc y = some D → kitOne c.K (.ref C) (.ref D) = some (isSub x y)
  const : ∀ x v, sg.consts.lookup x = some v → ∃ rv, nsIn c.K mainGlobals (Str.ofString x) = some (some rv) ∧ ∀ h, RV c h rv v

noncomputable def isLoc : Option NameKind → Bool
  | some .local | some .cell | some .free => true
  | _ => false

noncomputable def okX (sg : Sig) (ns : List (Str × NameKind)) (n : String) : Bool := sg.excs.contains n && ns.lookup (Str.ofString n) == some .globalImplicit && n != "__debug__"
noncomputable def isCmp : E → Bool
  | .cmp _ _ _ _ => true
  | _ => false
/-- the names of a comprehension, in a function with the names ns -/
noncomputable def relN (ns names : List (Str × NameKind)) : List (Str × NameKind) := names.map fun (n, k) => if (k == .free && ns.lookup n == some .cell) then (n, .cell) else (n, k)
mutual
noncomputable def okE (sg : Sig) (ns : List (Str × NameKind)) : E → Bool
  | .none _ | .bool _ _ | .int _ _ | .str _ _ => true
  | .loc x _ => isLoc (ns.lookup (Str.ofString x)) && x != "__debug__" && x != "__classdict__"
  | .glob x _ => ns.lookup (Str.ofString x) == some .globalImplicit && (sg.consts.lookup x).isSome && x != "__debug__"
  | .bin _ l r _ => okE sg ns l && okE sg ns r
  | .neg e _ | .not e _ => okE sg ns e
  | .and es _ | .or es _ => okEs sg ns es
  | .cmp _ l r _ => okE sg ns l && okE sg ns r
  | .cmp2 _ _ a b c _ => okE sg ns a && okE sg ns b && okE sg ns c
  | .attr o a _ => okE sg ns o && sg.attrs.contains a && (match o with | .loc _ _ => true | _ => false)
  | .sub o i _ => okE sg ns o && okE sg ns i
  | .sliceL o i _ _ | .sliceU o i _ _ => okE sg ns o && okE sg ns i
  | .sliceLU o i j _ _ => okE sg ns o && okE sg ns i && okE sg ns j
  | .tup es _ _ | .list es _ => okEs sg ns es && decide (es.length < 1000)
  | .call f es _ _ => ns.lookup (Str.ofString f) == some .globalImplicit && sg.fns.contains f && okEs sg ns es && f != "__debug__"
  | .new f es _ _ => ns.lookup (Str.ofString f) == some .globalImplicit && sg.clss.contains f && okEs sg ns es && f != "__debug__"
  | .bltn f es _ _ => ns.lookup (Str.ofString f) == some .globalImplicit && bltNames.contains f && okEs sg ns es
  | .isi e cl _ _ _ => ns.lookup (Str.ofString "isinstance") == some .globalImplicit && okE sg ns e && (match cl with
      | .ty n => tyNames.contains n && ns.lookup (Str.ofString n) == some .globalImplicit
      | .own n => okX sg ns n
      | .owns l => (l.all fun n => okX sg ns n.1) && decide (l.length < 1000))
  | .meth o m es pa p => okE sg ns o && okEs sg ns es && pa.endLine == p.line && decide (es.length < 20) && (match o with
      | .call _ es _ _ | .new _ es _ _ | .bltn _ es _ _ => !es.isEmpty
      | _ => true)
  | .dlit kvs _ => decide (kvs ≠ []) && decide (kvs.length ≤ 15) && decide ((kvs.map (·.1.1)).Nodup)
  | .comp elt x cs it ifs sc _ _ => okE sg ns it && okE sg (relN ns sc.names) elt && okEs sg (relN ns sc.names) ifs && decide (ifs.length ≤ 1) && sc.kind == .function &&
      (sc.names.all fun y => (y.2 == .local && sc.names.lookup y.1 == some .local) || (y.2 == .free && ns.lookup y.1 == some .cell) || y.2 == .globalImplicit) && sc.names.lookup (Str.ofString x) == some .local &&
      (cs.all fun y => sc.names.lookup (Str.ofString y) == some .free)
noncomputable def okEs (sg : Sig) (ns : List (Str × NameKind)) : List E → Bool
  | [] => true
  | e :: es => okE sg ns e && okEs sg ns es
end

section
variable {sg : Sig} {ns : List (Str × NameKind)}
theorem okE_loc {x : String} {p : Pos} : okE sg ns (.loc x p) = (isLoc (ns.lookup (Str.ofString x)) && x != "__debug__" && x != "__classdict__") := rfl
theorem okE_glob {x : String} {p : Pos} : okE sg ns (.glob x p) = (ns.lookup (Str.ofString x) == some .globalImplicit && (sg.consts.lookup x).isSome && x != "__debug__") := rfl
theorem okE_bin {op : Operator} {l r : E} {p : Pos} : okE sg ns (.bin op l r p) = (okE sg ns l && okE sg ns r) := rfl
theorem okE_neg {e : E} {p : Pos} : okE sg ns (.neg e p) = okE sg ns e := rfl
theorem okE_not {e : E} {p : Pos} : okE sg ns (.not e p) = okE sg ns e := rfl
theorem okE_and {es : List E} {p : Pos} : okE sg ns (.and es p) = okEs sg ns es := rfl
theorem okE_or {es : List E} {p : Pos} : okE sg ns (.or es p) = okEs sg ns es := rfl
theorem okE_cmp {op : CmpOp} {l r : E} {p : Pos} : okE sg ns (.cmp op l r p) = (okE sg ns l && okE sg ns r) := rfl
theorem okE_cmp2 {o o' : CmpOp} {a b e : E} {p : Pos} : okE sg ns (.cmp2 o o' a b e p) = (okE sg ns a && okE sg ns b && okE sg ns e) := rfl
theorem okE_attr {o : E} {a : String} {p : Pos} : okE sg ns (.attr o a p) = (okE sg ns o && sg.attrs.contains a && (match o with | .loc _ _ => true | _ => false)) := rfl
theorem okE_sub {o i : E} {p : Pos} : okE sg ns (.sub o i p) = (okE sg ns o && okE sg ns i) := rfl
theorem okE_sliceL {o i : E} {q p : Pos} : okE sg ns (.sliceL o i q p) = (okE sg ns o && okE sg ns i) := rfl
theorem okE_sliceU {o i : E} {q p : Pos} : okE sg ns (.sliceU o i q p) = (okE sg ns o && okE sg ns i) := rfl
theorem okE_sliceLU {o i j : E} {q p : Pos} : okE sg ns (.sliceLU o i j q p) = (okE sg ns o && okE sg ns i && okE sg ns j) := rfl
theorem okE_tup {es : List E} {k : Nat} {p : Pos} : okE sg ns (.tup es k p) = (okEs sg ns es && decide (es.length < 1000)) := rfl
theorem okE_list {es : List E} {p : Pos} : okE sg ns (.list es p) = (okEs sg ns es && decide (es.length < 1000)) := rfl
theorem okE_call {f : String} {es : List E} {q p : Pos} : okE sg ns (.call f es q p) = (ns.lookup (Str.ofString f) == some .globalImplicit && sg.fns.contains f && okEs sg ns es && f != "__debug__") := rfl
theorem okE_new {f : String} {es : List E} {q p : Pos} : okE sg ns (.new f es q p) = (ns.lookup (Str.ofString f) == some .globalImplicit && sg.clss.contains f && okEs sg ns es && f != "__debug__") := rfl
theorem okE_bltn {f : String} {es : List E} {q p : Pos} : okE sg ns (.bltn f es q p) = (ns.lookup (Str.ofString f) == some .globalImplicit && bltNames.contains f && okEs sg ns es) := rfl
theorem okE_isi {e : E} {cl : Cl} {a b p : Pos} : okE sg ns (.isi e cl a b p) = (ns.lookup (Str.ofString "isinstance") == some .globalImplicit && okE sg ns e && (match cl with
      | .ty n => tyNames.contains n && ns.lookup (Str.ofString n) == some .globalImplicit
      | .own n => okX sg ns n
      | .owns l => (l.all fun n => okX sg ns n.1) && decide (l.length < 1000))) := rfl
theorem okE_meth {o : E} {m : String} {es : List E} {pa p : Pos} : okE sg ns (.meth o m es pa p) = (okE sg ns o && okEs sg ns es && pa.endLine == p.line && decide (es.length < 20) && (match o with
      | .call _ es _ _ | .new _ es _ _ | .bltn _ es _ _ => !es.isEmpty
      | _ => true)) := rfl
theorem okE_dlit {kvs : List ((String × Pos) × (Int × Pos))} {p : Pos} : okE sg ns (.dlit kvs p) = (decide (kvs ≠ []) && decide (kvs.length ≤ 15) && decide ((kvs.map (·.1.1)).Nodup)) := rfl
theorem okE_comp {elt it : E} {x : String} {cs : List String} {ifs : List E} {sc : Scope} {q p : Pos} : okE sg ns (.comp elt x cs it ifs sc q p) = (okE sg ns it && okE sg (relN ns sc.names) elt && okEs sg (relN ns sc.names) ifs && decide (ifs.length ≤ 1) && sc.kind == .function &&
      (sc.names.all fun y => (y.2 == .local && sc.names.lookup y.1 == some .local) || (y.2 == .free && ns.lookup y.1 == some .cell) || y.2 == .globalImplicit) && sc.names.lookup (Str.ofString x) == some .local &&
      (cs.all fun y => sc.names.lookup (Str.ofString y) == some .free)) := rfl
end

structure St (c : Ctx) (d : Nat) (hd : Bool) (A : Around) (fs : List Env) (env : Env) (ρ : Loc) (μ : Mem) (s : Shared) : Prop where
  rel : Rel c μ s.heap
  er : ER c env ρ μ s.heap
  aok : AOK c d hd A fs μ s.heap
  room : A.depth + 3 * d + 2 < 900
  units : A.units + 100 * d + 250 < cLine
  top : ∃ e0 outer L, fs = e0 :: outer ∧ e0.frame = some L ∧ env.frame = some L
theorem St.step {c : Ctx} {d : Nat} {hd : Bool} {A : Around} {fs : List Env} {env : Env} {ρ : Loc} {μ μ' : Mem} {s s' : Shared} (x : St c d hd A fs env ρ μ s) (y : Step c fs μ μ' s s') : St c d hd A fs env ρ μ' s' :=
  ⟨y.rel, x.er.step x.rel y, x.aok.step y, x.room, x.units, x.top⟩

section
variable {c : Ctx} {d : Nat} {hd : Bool} {A : Around} {fs : List Env} {env : Env} {ρ : Loc} {μ : Mem} {s : Shared} {sg : Sig}

theorem wp_after {t : Sem Value} {μ₁ : Mem} {s₁ : Shared} {Q : V → Mem → Prop} {X : String → Mem → Prop} (st : Step c fs μ μ₁ s s₁) (h : wpAny (model c.prog c.w) A t (Post c fs μ₁ s₁ Q) (XPost c fs μ₁ s₁ X) s₁) :
    wpAny (model c.prog c.w) A t (Post c fs μ s Q) (XPost c fs μ s X) s₁ := wpAny_mono h (fun _ _ p => p.after st) fun _ _ p => p.after st
theorem Kin (G : Good c sg) (r : Rel c μ s.heap) : c.K.In s.heap := G.X.keeps r.base

/-- a global name of the text -/
theorem name_glob {x : String} {rv : Value} {P : Value → Shared → Prop} {E : Value → Shared → Prop} {p : Pos} (G : Good c sg) (x' : ER c env ρ μ s.heap) (r : Rel c μ s.heap) (hk : env.kindOf (Str.ofString x) = some .globalImplicit) (hd : x ≠ "__debug__")
    (e : nsIn c.K mainGlobals (Str.ofString x) = some (some rv)) (h : P rv s) : wpAny (model c.prog c.w) A (eval (.Name (Str.ofString x) p) env) P E s := by
  obtain ⟨pp, loose, mg, mb, T⟩ := G.top
  refine Name_function_global x'.kind hk (loadGlobal_global (env := env) (mg := mg) (by rw [x'.glob]; exact T.g.keeps r.base) (mg_of G.X T.g e) h) ?_
  rw [ofString_beq]; exact beq_eq_false_iff_ne.mpr hd
/-- a built-in name -/
theorem name_blt {x : String} {rv : Value} {P : Value → Shared → Prop} {E : Value → Shared → Prop} {p : Pos} (G : Good c sg) (x' : ER c env ρ μ s.heap) (r : Rel c μ s.heap) (hk : env.kindOf (Str.ofString x) = some .globalImplicit) (hd : x ≠ "__debug__") (hn : x ≠ "__name__")
    (e : nsIn c.K mainGlobals (Str.ofString x) = some none) (hv : bootBuiltins (Str.ofString x) = some rv) (h : P rv s) : wpAny (model c.prog c.w) A (eval (.Name (Str.ofString x) p) env) P E s := by
  obtain ⟨pp, loose, mg, mb, T⟩ := G.top
  refine Name_function_global x'.kind hk (loadGlobal_builtin (env := env) (mg := mg) (mb := mb) (by rw [x'.glob]; exact T.g.keeps r.base) (mg_none_of G.X T.g e) (by rw [x'.blt]; exact T.b.keeps r.base) ((T.builtins _ fun q => hn (ofString_inj q)).trans hv) h) ?_
  rw [ofString_beq]; exact beq_eq_false_iff_ne.mpr hd

theorem loc_sound {x : String} {v : V} {Q : V → Mem → Prop} {E : Value → Shared → Prop} {p : Pos} (S : St c d hd A fs env ρ μ s) (e : ρ x = some v) (hd' : x ≠ "__debug__") (hc : x ≠ "__classdict__") (q : Q v μ) :
    wpAny (model c.prog c.w) A (eval (.Name (Str.ofString x) p) env) (Post c fs μ s Q) E s := by
  obtain ⟨m, hns, hm⟩ := S.er.names
  refine wpAny_Name ?_ (by rw [ofString_beq]; exact beq_eq_false_iff_ne.mpr hd')
  rcases hm x v e with ⟨h1, rv, h2, h3⟩ | ⟨h1, ca, rv, h2, h3, h4⟩
  · exact wpAny_loadName_local S.er.kind h1 hns h2 ⟨v, μ, Step.refl S.rel, h3, q⟩
  · rcases h1 with h1 | h1
    · exact wpAny_loadName_cell S.er.kind h1 h2 h3 ⟨v, μ, Step.refl S.rel, h4, q⟩
    · exact wpAny_loadName_free S.er.kind h1 h2 h3 ⟨v, μ, Step.refl S.rel, h4, q⟩ (by rw [ofString_beq]; exact beq_eq_false_iff_ne.mpr hc)
end

theorem starEach_toEs (env : Env) : ∀ es : List E, starEach (toEs es) env = es.map fun e => (false, eval (toE e) env)
  | [] => rfl
  | e :: es => by
    have ih := starEach_toEs env es
    rw [List.map_cons, ← ih]
    cases e <;> rfl
theorem backTo_toEs (env : Env) (p : Pos) (es : List E) : backTo p (starEach (toEs es) env) = es.map fun e => (false, eval (toE e) env) := by
  rw [starEach_toEs, backTo, List.map_map]
  rfl
theorem toEs_length : ∀ es : List E, (toEs es).length = es.length
  | [] => rfl
  | e :: es => by simp [toEs, toEs_length es]

theorem evalArgs_es {M : Model} {A : Around} {E : Value → Shared → Prop} {s : Shared} {f : Value} {l : List (Sem Value)} {Q : Args → Shared → Prop}
    (h : wpAny M A (spliced (l.map fun t => (false, t))) (fun vs s₁ => Q ⟨vs, []⟩ s₁) E s) : wpAny M A (evalArgs f true (l.map fun t => (false, t)) []) Q E s := by
  cases l with
  | nil =>
    unfold evalArgs
    show wpAny M A (spliced [] >>= _) Q E s
    refine wpAny_bind (wpAny_mono h (fun vs s₁ h₁ => ?_) fun _ _ x => x)
    refine wpAny_bind (wpAny_pure ?_)
    refine wpAny_holding ?_
    exact wpAny_bind (wpAny_pure (wpAny_bind (wpAny_pure (wpAny_pure h₁))))
  | cons t l => exact evalArgs_plain h
end Mine

set_option autoImplicit false
namespace Mine
set_option linter.unusedVariables false
set_option linter.unusedSimpArgs false
open PySem PySem.W PySem.Calls PyProof.Rows

mutual
theorem RV.monoV {c : Ctx} {h h' : Heap} (k : ∀ b o, h.get? b = some o → RK o → ∃ sl, h'.get? b = some { o with slots := sl } ∧ ((∃ vs, o.data = .fields vs) → sl = o.slots)) : ∀ {v : Value} {x : V}, RV c h v x → RV c h' v x
  | _, _, .none => .none
  | _, _, .bool b => .bool b
  | _, _, .int i t => .int i t
  | _, _, .str x t => .str x t
  | _, _, .tup e hc hd hl hz => by
    obtain ⟨sl, e', _⟩ := k _ _ e (.inl ⟨hc, _, _, hd⟩)
    exact .tup e' hc hd (RVs.monoV k hl) hz
  | _, _, .ref a => .ref a
  | _, _, .rng e ok => by
    obtain ⟨sl, e', n⟩ := k _ _ e (.inr ⟨.inl rfl, _, rfl⟩)
    rw [n ⟨_, rfl⟩] at e'
    exact .rng e' ok
  | _, _, .exc e hc hd hx => by
    obtain ⟨sl, e', _⟩ := k _ _ e (.inr ⟨.inr ⟨_, hc⟩, _, hd⟩)
    exact .exc e' hc hd hx
  | _, _, .gd h1 h2 h3 => .gd h1 h2 h3
  | _, _, .frz e hc hd hi hz => .frz e hc hd hi hz
theorem RVs.monoV {c : Ctx} {h h' : Heap} (k : ∀ b o, h.get? b = some o → RK o → ∃ sl, h'.get? b = some { o with slots := sl } ∧ ((∃ vs, o.data = .fields vs) → sl = o.slots)) : ∀ {vs : List Value} {xs : List V}, RVs c h vs xs → RVs c h' vs xs
  | _, _, .nil => .nil
  | _, _, .cons hv hr => .cons (RV.monoV k hv) (RVs.monoV k hr)
end
theorem RO.monoV {c : Ctx} {h h' : Heap} (k : ∀ b o, h.get? b = some o → RK o → ∃ sl, h'.get? b = some { o with slots := sl } ∧ ((∃ vs, o.data = .fields vs) → sl = o.slots)) {ob : Obj} {o : O} (x : RO c h ob o) : RO c h' ob o := by
  cases x with
  | list hl hz => exact .list (hl.monoV k) hz
  | inst e => exact .inst e
  | sd h1 h2 h3 h4 h5 h6 => exact .sd h1 h2 h3 h4 h5 h6
  | attrs hf =>
    refine .attrs ?_
    induction hf with
    | nil => exact .nil
    | cons e hv _ ih => exact .cons e (hv.monoV k) ih

noncomputable def pv (env : Env) (b : Addr) : Prop := b = env.locals ∨ ∃ x, env.cells.lookup x = some b

structure StepS (c : Ctx) (fs : List Env) (env : Env) (μ μ' : Mem) (s s' : Shared) : Prop where
  gens : s'.gens = s.gens
  drawn : s'.drawn = s.drawn
  os : s'.os = s.os
  kept : ∀ b o, s.heap.get? b = some o → μ b = none → ¬ pv env b → μ' b = none ∧ ∃ sl, s'.heap.get? b = some { o with slots := sl } ∧ (b ∉ frs fs ∨ (∃ vs, o.data = .fields vs) → sl = o.slots)
theorem StepS.refl {c : Ctx} {fs : List Env} {env : Env} {μ : Mem} {s : Shared} : StepS c fs env μ μ s s := ⟨rfl, rfl, rfl, fun _ o e hm _ => ⟨hm, o.slots, e, fun _ => rfl⟩⟩
theorem StepS.trans {c : Ctx} {fs : List Env} {env : Env} {μ₁ μ₂ μ₃ : Mem} {s₁ s₂ s₃ : Shared} (x : StepS c fs env μ₁ μ₂ s₁ s₂) (y : StepS c fs env μ₂ μ₃ s₂ s₃) : StepS c fs env μ₁ μ₃ s₁ s₃ :=
  ⟨y.gens.trans x.gens, y.drawn.trans x.drawn, y.os.trans x.os, fun b o e hm hp => by
    obtain ⟨m₂, sl, e₂, n₂⟩ := x.kept b o e hm hp
    obtain ⟨m₃, sl', e₃, n₃⟩ := y.kept b _ e₂ m₂ hp
    exact ⟨m₃, sl', e₃, fun hb => (n₃ hb).trans (n₂ hb)⟩⟩
theorem Step.toS {c : Ctx} {fs : List Env} {env : Env} {μ μ' : Mem} {s s' : Shared} (x : Step c fs μ μ' s s') : StepS c fs env μ μ' s s' := ⟨x.gens, x.drawn, x.os, fun b o e hm _ => x.kept b o e hm⟩

inductive RFl (c : Ctx) (h : Heap) : Flow → Fl → Prop
  | next : RFl c h .next .next
  | ret {rv : Value} {v : V} : RV c h rv v → RFl c h (.ret rv) (.ret v)

noncomputable def Born (c : Ctx) (s s' : Shared) (e : Addr) (x : String) : Prop := s'.gens = s.gens ∧ s'.drawn = s.drawn ∧ s'.os = s.os ∧ ∃ C args, c.exc x = some C ∧ Heap.MadeExcOf s.heap s'.heap e (.ref C) args

noncomputable def PostS (c : Ctx) (d : Nat) (hd : Bool) (A : Around) (fs : List Env) (env : Env) (μ : Mem) (s : Shared) (Q : Fl → Loc → Mem → Prop) (fl : Flow) (s' : Shared) : Prop :=
  ∃ fl' ρ' μ', StepS c fs env μ μ' s s' ∧ St c d hd A fs env ρ' μ' s' ∧ RFl c s'.heap fl fl' ∧ Q fl' ρ' μ'
noncomputable def XPostS (c : Ctx) (d : Nat) (hd : Bool) (A : Around) (fs : List Env) (env : Env) (nr : Bool) (μ : Mem) (s : Shared) (X : String → Loc → Mem → Prop) (re : Value) (s' : Shared) : Prop :=
  ∃ e x ρ₁ μ₁ μ' s₁, re = .ref e ∧ StepS c fs env μ μ₁ s s₁ ∧ St c d hd A fs env ρ₁ μ₁ s₁ ∧ (Fly c fs μ₁ μ' s₁ s' e x ∨ (nr = false ∧ μ' = μ₁ ∧ Born c s₁ s' e x)) ∧ X x ρ₁ μ'

theorem PostS.after {c : Ctx} {d : Nat} {hd : Bool} {A : Around} {fs : List Env} {env : Env} {μ μ₁ : Mem} {s s₁ s' : Shared} {Q : Fl → Loc → Mem → Prop} {fl : Flow} (st : StepS c fs env μ μ₁ s s₁) (x : PostS c d hd A fs env μ₁ s₁ Q fl s') : PostS c d hd A fs env μ s Q fl s' :=
  let ⟨fl', ρ', μ', a, b, q, r⟩ := x; ⟨fl', ρ', μ', st.trans a, b, q, r⟩
theorem XPostS.after {c : Ctx} {d : Nat} {hd : Bool} {A : Around} {fs : List Env} {env : Env} {nr : Bool} {μ μ₁ : Mem} {s s₁ s' : Shared} {X : String → Loc → Mem → Prop} {re : Value} (st : StepS c fs env μ μ₁ s s₁) (x : XPostS c d hd A fs env nr μ₁ s₁ X re s') : XPostS c d hd A fs env nr μ s X re s' :=
  let ⟨e, n, ρ₁, μ₁, μ', s₁, h1, a, r⟩ := x; ⟨e, n, ρ₁, μ₁, μ', s₁, h1, st.trans a, r⟩

theorem XPost.toS {c : Ctx} {d : Nat} {hd : Bool} {A : Around} {fs : List Env} {env : Env} {nr : Bool} {ρ : Loc} {μ : Mem} {s s' : Shared} {X : String → Loc → Mem → Prop} {re : Value} (S : St c d hd A fs env ρ μ s) (x : XPost c fs μ s (fun n μ₁ => X n ρ μ₁) re s') : XPostS c d hd A fs env nr μ s X re s' :=
  let ⟨e, n, μ', he, f, q⟩ := x; ⟨e, n, ρ, μ, μ', s, he, .refl, S, .inl f, q⟩

section
variable {c : Ctx} {sg : Sig} {d : Nat} {hd : Bool} {A : Around} {fs : List Env} {env : Env} {ρ : Loc} {μ : Mem} {s : Shared}

/-- a change of one private object -/
theorem Rel.private {b : Addr} {h h' : Heap} (r : Rel c μ h) (hm : μ b = none) (hb : c.base.get? b = none) (hnv : ∀ o, h.get? b = some o → ¬ RK o) (sb : Heap.SameBut b h h') : Rel c μ h' ∧ (∀ {v x}, RV c h v x → RV c h' v x) := by
  have k : ∀ a o, h.get? a = some o → RK o → ∃ sl, h'.get? a = some { o with slots := sl } ∧ ((∃ vs, o.data = .fields vs) → sl = o.slots) := fun a o e q => by
    refine ⟨o.slots, (sb.2 a fun z => ?_).trans e, fun _ => rfl⟩
    subst z
    exact hnv o e q
  refine ⟨⟨fun a o e => (sb.2 a fun z => by rw [z, hb] at e; cases e).trans (r.base a o e), fun a o e => ?_⟩, fun hv => hv.monoV k⟩
  obtain ⟨n, ob, e', ro⟩ := r.mem a o e
  exact ⟨n, ob, (sb.2 a fun z => by rw [z, hm] at e; cases e).trans e', ro.monoV k⟩

theorem FunFrames.turn {h h' base : Heap} {b : Addr} (sb : Heap.SameBut b h h') (hb : ∃ o, h'.get? b = some o ∧ ∀ vs, o.data ≠ .fields vs) : ∀ {l : List Env}, h.FunFrames base l → h'.FunFrames base l
  | [], _ => trivial
  | env :: l, ⟨hk, ⟨L, o, hf, hn, ho, hd⟩, hr⟩ => by
    refine ⟨hk, ?_, FunFrames.turn sb hb hr⟩
    by_cases e : L = b
    · subst e; obtain ⟨o', ho', hd'⟩ := hb; exact ⟨L, o', hf, hn, ho', hd'⟩
    · exact ⟨L, o, hf, hn, (sb.2 L e).trans ho, hd⟩

theorem AOK.turn {h h' : Heap} {b : Addr} (x : AOK c d hd A fs μ h) (sb : Heap.SameBut b h h') (hb : ∃ o, h'.get? b = some o ∧ ∀ vs, o.data ≠ .fields vs) (hd' : b ∈ frs fs → ∃ o es n, h'.get? b = some o ∧ o.data = .dict es n) (hz : ∀ o vs, h.get? b = some o → o.data ≠ .fields vs) : AOK c d hd A fs μ h' :=
  ⟨x.frames, x.room, x.units, x.handled, FunFrames.turn sb hb x.fun_, x.priv, fun L hL => by
    by_cases e : L = b
    · subst e; exact hd' hL
    · obtain ⟨o, es, n, ho, hd⟩ := x.dicts L hL
      exact ⟨o, es, n, (sb.2 L e).trans ho, hd⟩, x.caught.of fun a o vs e hd _ hm => ⟨hm, (sb.2 a fun q => hz o vs (q ▸ e) hd).trans e⟩⟩

theorem Ns.dict {h : Heap} {a : Addr} {m : Str → Option Value} (x : h.Ns a m) : ∃ o es n, h.get? a = some o ∧ o.data = .dict es n := let ⟨o, es, n, ho, hd, _⟩ := x; ⟨o, es, n, ho, hd⟩

noncomputable def bare (env : Env) : Env := { env with cells := [] }
theorem StepS.wide {env : Env} {μ μ' : Mem} {s s' : Shared} (x : StepS c fs (bare env) μ μ' s s') : StepS c fs env μ μ' s s' :=
  ⟨x.gens, x.drawn, x.os, fun b o e hm hp => x.kept b o e hm (by rintro (q | ⟨y, q⟩); exact hp (.inl q); cases q)⟩
theorem store_local {x : String} {rv : Value} {v : V} {P : Unit → Shared → Prop} {E : Value → Shared → Prop} (S : St c d hd A fs env ρ μ s) (hk : env.kindOf (Str.ofString x) = some .local) (hv : RV c s.heap rv v)
    (h : ∀ s', StepS c fs (bare env) μ μ s s' → St c d hd A fs env (updL ρ x v) μ s' → P () s') : wpAny (model c.prog c.w) A (storeName env (Str.ofString x) rv) P E s := by
  obtain ⟨m, hns, hm⟩ := S.er.names
  obtain ⟨oL, esL, nL, hoL, hdL⟩ := Ns.dict hns
  refine wpAny_storeName_local hk hns (fun h' hn' sb => ?_) (by rw [S.er.kind]; rfl)
  obtain ⟨oL', esL', nL', hoL', hdL'⟩ := Ns.dict hn'
  obtain ⟨r', mono⟩ := Rel.private S.rel S.er.priv S.er.new (fun o e => by rw [hoL] at e; cases e; rintro (⟨_, vs, n, q⟩ | ⟨_, vs, q⟩) <;> (rw [hdL] at q; cases q)) sb
  have other : ∀ ca, (∃ w, s.heap.IsCell ca w) → ca ≠ env.locals := fun ca ⟨w, o, ho, hd⟩ q => by rw [q, hoL] at ho; cases ho; rw [hdL] at hd; cases hd
  refine h _ ⟨rfl, rfl, rfl, fun b o e hmb hp => ⟨hmb, o.slots, (sb.2 b fun q => hp (.inl q)).trans e, fun _ => rfl⟩⟩ ⟨r', ⟨S.er.kind, S.er.glob, S.er.blt, S.er.priv, S.er.new, fun y ca e => ?_, S.er.inj, S.er.has, _, hn', fun y w e => ?_⟩, S.aok.turn sb ⟨oL', hoL', fun vs q => by rw [hdL'] at q; cases q⟩ (fun _ => ⟨oL', _, _, hoL', hdL'⟩) (fun o vs e q => by rw [hoL] at e; cases e; rw [hdL] at q; cases q), S.room, S.units, S.top⟩
  · obtain ⟨⟨w, o, ho, hd⟩, h1, h2⟩ := S.er.cells y ca e
    exact ⟨⟨w, o, (sb.2 ca (other ca ⟨w, o, ho, hd⟩)).trans ho, hd⟩, h1, h2⟩
  · unfold updL at e
    split at e
    · rename_i hy; subst hy; cases e
      exact .inl ⟨hk, rv, by simp, mono hv⟩
    · rename_i hy
      rcases hm y w e with ⟨h1, rw_, h2, h3⟩ | ⟨h1, ca, rw_, h2, ⟨o, ho, hd⟩, h4⟩
      · exact .inl ⟨h1, rw_, by simp only [show Str.ofString y ≠ Str.ofString x from fun q => hy (ofString_inj q), if_false]; exact h2, mono h3⟩
      · exact .inr ⟨h1, ca, rw_, h2, ⟨o, (sb.2 ca (other ca ⟨_, o, ho, hd⟩)).trans ho, hd⟩, mono h4⟩

/-- a name is bound -/
theorem store_sound {x : String} {rv : Value} {v : V} {P : Unit → Shared → Prop} {E : Value → Shared → Prop} (S : St c d hd A fs env ρ μ s) (hk : env.kindOf (Str.ofString x) = some .local ∨ env.kindOf (Str.ofString x) = some .cell) (hv : RV c s.heap rv v)
    (h : ∀ s', StepS c fs env μ μ s s' → St c d hd A fs env (updL ρ x v) μ s' → P () s') : wpAny (model c.prog c.w) A (storeName env (Str.ofString x) rv) P E s := by
  obtain ⟨m, hns, hm⟩ := S.er.names
  obtain ⟨oL, esL, nL, hoL, hdL⟩ := Ns.dict hns
  rcases hk with hk | hk
  · exact store_local S hk hv fun s' st S' => h s' st.wide S'
  · obtain ⟨ca, hca⟩ := Option.isSome_iff_exists.mp (S.er.has _ hk)
    obtain ⟨⟨w₀, hw₀⟩, hmc, hbc⟩ := S.er.cells _ ca hca
    obtain ⟨oc, hoc, hdc⟩ := id hw₀
    refine wpAny_storeName_cell S.er.kind hk hca hw₀ fun h' hc' sb => ?_
    obtain ⟨oc', hoc', hdc'⟩ := id hc'
    obtain ⟨r', mono⟩ := Rel.private S.rel hmc hbc (fun o e => by rw [hoc] at e; cases e; rintro (⟨_, vs, n, q⟩ | ⟨_, vs, q⟩) <;> (rw [hdc] at q; cases q)) sb
    have nL : env.locals ≠ ca := fun q => by rw [q, hoc] at hoL; cases hoL; rw [hdc] at hdL; cases hdL
    refine h _ ⟨rfl, rfl, rfl, fun b o e hmb hp => ⟨hmb, o.slots, (sb.2 b fun q => hp (.inr ⟨_, q ▸ hca⟩)).trans e, fun _ => rfl⟩⟩ ⟨r', ⟨S.er.kind, S.er.glob, S.er.blt, S.er.priv, S.er.new, fun y ya e => ?_, S.er.inj, S.er.has, m, ?_, fun y w e => ?_⟩, S.aok.turn sb ⟨oc', hoc', fun vs q => by rw [hdc'] at q; cases q⟩ (fun z => by obtain ⟨o, es, n, ho, hd⟩ := S.aok.dicts _ z; rw [hoc] at ho; cases ho; rw [hdc] at hd; cases hd) (fun o vs e q => by rw [hoc] at e; cases e; rw [hdc] at q; cases q), S.room, S.units, S.top⟩
    · obtain ⟨⟨w, o, ho, hd⟩, h1, h2⟩ := S.er.cells y ya e
      by_cases q : ya = ca
      · subst q; exact ⟨⟨_, hc'⟩, h1, h2⟩
      · exact ⟨⟨w, o, (sb.2 ya q).trans ho, hd⟩, h1, h2⟩
    · exact hns.sameBut sb nL
    · unfold updL at e
      split at e
      · rename_i hy; subst hy; cases e
        exact .inr ⟨.inl hk, ca, rv, hca, hc', mono hv⟩
      · rename_i hy
        rcases hm y w e with ⟨h1, rw_, h2, h3⟩ | ⟨h1, ya, rw_, h2, ⟨o, ho, hd⟩, h4⟩
        · exact .inl ⟨h1, rw_, h2, mono h3⟩
        · refine .inr ⟨h1, ya, rw_, h2, ⟨o, (sb.2 ya fun q => ?_).trans ho, hd⟩, mono h4⟩
          subst q
          exact hy (ofString_inj (S.er.inj _ _ _ h2 hca))
end
end Mine

set_option autoImplicit false
namespace Mine
set_option linter.unusedVariables false
set_option linter.unusedSimpArgs false
open PySem PySem.W PySem.Calls PyProof.Rows

section
variable {c : Ctx}
theorem Rel.hide {μ : Mem} {h : Heap} {l : List Addr} (r : Rel c μ h) (hb : ∀ a ∈ l, c.base.get? a = none) (hm : ∀ a ∈ l, μ a = none) (hd : ∀ a ∈ l, ∃ o es n, h.get? a = some o ∧ o.data = .dict es n) : Rel c μ (hideAll h l) := by
  refine ⟨fun b o e => hideAll_get _ (r.base b o e) fun z => (by rw [hb b z] at e; cases e), fun a o e => ?_⟩
  obtain ⟨n, ob, e', ro⟩ := r.mem a o e
  refine ⟨n, ob, hideAll_get _ e' fun z => by (rw [hm a z] at e; cases e), ro.monoV fun b q eb rk => ⟨q.slots, hideAll_get _ eb fun z => ?_, fun _ => rfl⟩⟩
  obtain ⟨o', es, n', ho', hd'⟩ := hd b z
  rw [eb] at ho'; cases ho'
  rcases rk with ⟨_, _, _, q⟩ | ⟨_, _, q⟩ <;> (rw [hd'] at q; cases q)

end

theorem frames_hide {h h' B : Heap} {C : Addr} (sb : Heap.SameBut C h h') : ∀ {l : List Env}, C ∉ frs l → h.FunFrames B l → h'.FunFrames (hideAll B [C]) l
  | [], _, _ => trivial
  | env :: l, nf, ⟨hk, ⟨L, o, hf, hn, ho, hd⟩, hr⟩ => by
    have e : frs (env :: l) = L :: frs l := by simp [frs, hf]
    rw [e, List.mem_cons, not_or] at nf
    refine ⟨hk, ⟨L, o, hf, ?_, (sb.2 L fun q => nf.1 q.symm).trans ho, hd⟩, frames_hide sb nf.2 hr⟩
    cases q : (hideAll B [C]).get? L with
    | none => rfl
    | some o' => have := of_hideAll _ q; rw [hn] at this; cases this
theorem none_hide {B : Heap} {C b : Addr} (h : B.get? b = none) : (hideAll B [C]).get? b = none := by
  cases q : (hideAll B [C]).get? b with
  | none => rfl
  | some o' => have := of_hideAll _ q; rw [h] at this; cases this
theorem FlyH.hide {B h h' : Heap} {l : List Env} {e C : Addr} {cls a0 : Value} (x : FlyH B l e cls a0 h) (hC : ∃ o es n, h.get? C = some o ∧ o.data = .dict es n) (nf : C ∉ frs l) (sb : Heap.SameBut C h h') : FlyH (hideAll B [C]) l e cls a0 h' := by
  obtain ⟨fl, hkb, hen, hl, ⟨oe, vs, T, oT, ts, he, hc, hd, h1, hnT, hTe, hT, hdT, h3⟩, oe', vs', he2, hd2, h2⟩ := x
  obtain ⟨oC, es, n, hoC, hdC⟩ := hC
  have eC : e ≠ C := fun q => by rw [q, hoC] at he; cases he; rw [hdC] at hd; cases hd
  have TC : T ≠ C := fun q => by rw [q, hoC] at hT; cases hT; rw [hdC] at hdT; cases hdT
  refine ⟨fl, fun b o hb => (sb.2 b fun q => ?_).trans (hkb b o (of_hideAll _ hb)), none_hide hen, frames_hide sb nf hl, ⟨oe, vs, T, oT, ts, (sb.2 e eC).trans he, hc, hd, h1, none_hide hnT, hTe, (sb.2 T TC).trans hT, hdT, h3⟩, ⟨oe', vs', (sb.2 e eC).trans he2, hd2, h2⟩⟩
  rw [q, hideAll_none [C] (.head _)] at hb; cases hb

section
variable {c : Ctx} {sg : Sig} {d : Nat} {nr hd : Bool} {A : Around} {fs : List Env} {env : Env} {ρ : Loc} {μ : Mem} {s : Shared}

/-- the same flight in a heap that came of it -/
theorem Fly.up {e : Addr} {x : String} {μ' : Mem} {s' : Shared} {h' B : Heap} {C : Addr} {a0 : Value} (S : St c d hd A fs env ρ μ s) (f : Fly c fs μ μ' s s' e x) (hC : c.exc x = some C) (hf : FlyH B fs e (.ref C) a0 h') (hr : Rel c μ' B)
    (hB : ∀ b o, s.heap.get? b = some o → μ b = none → b ∉ frs fs → B.get? b = some o) (up : s'.heap.UpToSlots h') : Fly c fs μ μ' s { s' with heap := h' } e x := by
  refine ⟨f.gens, f.drawn, f.os, ⟨B, C, a0, hC, hf, hr, hB⟩, fun b o eb hm => ?_⟩
  obtain ⟨m₂, sl₂, e₂, q₂⟩ := f.kept b o eb hm
  by_cases hb : b ∈ frs fs
  · obtain ⟨o', es, n, ho', hd'⟩ := S.aok.dicts b hb
    rw [eb] at ho'; cases ho'
    obtain ⟨sl₃, e₃⟩ := up b _ e₂ (fun vs q => by rw [show o.data = _ from hd'] at q; cases q)
    exact ⟨m₂, sl₃, e₃, fun z => z.elim (fun z => (z hb).elim) fun ⟨vs, z⟩ => by rw [hd'] at z; cases z⟩
  · obtain ⟨fl, st, _⟩ := hf
    exact ⟨m₂, o.slots, st _ _ (hB b o eb hm hb), fun _ => rfl⟩

/-- an exception that flies is noted at the frame at hand -/
theorem Fly.noted {e : Addr} {x : String} {μ' : Mem} {s' : Shared} {P : Unit → Shared → Prop} {E : Value → Shared → Prop} (S : St c d hd A fs env ρ μ s) (f : Fly c fs μ μ' s s' e x) (h : ∀ s'', Fly c fs μ μ' s s'' e x → P () s'') :
    wpAny (model c.prog c.w) A (noteFrame (.ref e) env) P E s' := by
  obtain ⟨B, C, a0, hC, hf, hr, hB⟩ := f.there
  obtain ⟨e0, outer, L, hfs, h0, hL⟩ := S.top
  rw [noteFrame_congr (hL.trans h0.symm)]
  exact looks_onH (hfs ▸ S.aok.frames) h0 (hfs ▸ hf) fun h' hh up => h _ (f.up S hC (hfs ▸ hh.h) hr hB up)

theorem XPostS.noted {X : String → Loc → Mem → Prop} {re : Value} {s' : Shared} {P : Unit → Shared → Prop} {E : Value → Shared → Prop} (x : XPostS c d hd A fs env nr μ s X re s') (h : ∀ s'', XPostS c d hd A fs env true μ s X re s'' → P () s'') :
    wpAny (model c.prog c.w) A (noteFrame re env) P E s' := by
  obtain ⟨e, n, ρ₁, μ₁, μ', s₁, rfl, st, S₁, hfly, hq⟩ := x
  rcases hfly with f | ⟨_, rfl, hg, hdr, hos, C, args, hC, hmade⟩
  · exact f.noted S₁ fun s'' f' => h s'' ⟨e, n, ρ₁, μ₁, μ', s₁, rfl, st, S₁, .inl f', hq⟩
  · obtain ⟨e0, outer, L, rfl, h0, hL⟩ := S₁.top
    have hrB : Rel c μ' (hideAll s₁.heap (frs (e0 :: outer))) := S₁.rel.hide (fun a ha => (S₁.aok.fun_.mem ha).1) S₁.aok.priv S₁.aok.dicts
    have hff := funFrames_hide (l := e0 :: outer) S₁.aok.fun_ (fun env' he b hb => List.mem_filterMap.mpr ⟨env', he, hb⟩ : ∀ env' ∈ e0 :: outer, ∀ b, env'.frame = some b → b ∈ frs (e0 :: outer))
    rw [noteFrame_congr (hL.trans h0.symm)]
    refine note_made S₁.aok.frames h0 (fun b o q => of_hideAll _ q) hff hmade fun h' t hh up => h _ ⟨e, n, ρ₁, μ', μ', s₁, rfl, st, S₁, .inl ⟨hg, hdr, hos, ⟨_, C, _, hC, hh.h, hrB, fun b o eb hm hb => hideAll_get _ eb hb⟩, fun b o eb hm => ⟨hm, ?_⟩⟩, hq⟩
    by_cases hb : b ∈ frs (e0 :: outer)
    · obtain ⟨o', es, n, ho', hd'⟩ := S₁.aok.dicts b hb
      rw [eb] at ho'; cases ho'
      obtain ⟨sl₃, e₃⟩ := up b _ (hmade.keeps _ _ eb) (fun vs q => by rw [hd'] at q; cases q)
      exact ⟨sl₃, e₃, fun z => z.elim (fun z => (z hb).elim) fun ⟨vs, z⟩ => by rw [hd'] at z; cases z⟩
    · exact ⟨o.slots, hh.1.1 _ _ (hideAll_get _ eb hb), fun _ => rfl⟩

theorem XPostS.back {X : String → Loc → Mem → Prop} {re : Value} {s' : Shared} (x : XPostS c d hd A fs env true μ s X re s') : cameBackBy (model c.prog c.w) A env (XPostS c d hd A fs env nr μ s X) re s' := by
  obtain ⟨e, n, ρ₁, μ₁, μ', s₁, rfl, st, S₁, hfly, hq⟩ := x
  rcases hfly with f | ⟨q, _⟩
  · obtain ⟨B, C, a0, hC, hf, hr, hB⟩ := f.there
    exact fly_back hf fun h' hf' up => ⟨e, n, ρ₁, μ₁, μ', s₁, rfl, st, S₁, .inl (f.up S₁ hC hf' hr hB up), hq⟩
  · cases q
end
end Mine

set_option autoImplicit false
namespace Mine
set_option linter.unusedVariables false
set_option linter.unusedSimpArgs false
open PySem PySem.W PySem.Calls PyProof.Rows

section
variable {c : Ctx} {sg : Sig} {d : Nat} {nr hd : Bool} {A : Around} {fs : List Env} {env : Env} {ρ : Loc} {μ : Mem} {s : Shared} {X : String → Loc → Mem → Prop}

theorem XPostS.no {μ₀ : Mem} {s₀ : Shared} {re : Value} {s' : Shared} {P : Prop} (x : XPostS c d hd A fs env nr μ₀ s₀ (fun _ _ _ => False) re s') : P := let ⟨_, _, _, _, _, _, _, _, _, _, f⟩ := x; f.elim
theorem XPost.no {μ₀ : Mem} {s₀ : Shared} {re : Value} {s' : Shared} {P : Prop} (x : XPost c fs μ₀ s₀ (fun _ _ => False) re s') : P := let ⟨_, _, _, _, _, f⟩ := x; f.elim

/-- an iterator -/
structure Iter (c : Ctx) (A : Around) (it : Addr) (rv : Value) (v : V) (items : List V) (It : Nat → Heap → Prop) : Prop where
  obj : ∀ k h, It k h → ∃ o vs, h.get? it = some o ∧ o.data = .fields vs ∧ ¬ RK o
  keep : ∀ k h h', It k h → h'.get? it = h.get? it → It k h'
  item : ∀ k w s μ (P : Option Value → Shared → Prop) (E : Value → Shared → Prop), items[k]? = some w → itemsOf μ v = some items → Rel c μ s.heap → RV c s.heap rv v → It k s.heap →
    (∀ rw_ h' n, Heap.ExtBut it s.heap h' → It (k + 1) h' → RV c s.heap rw_ w → P (some rw_) { s with heap := h', toks := n }) → wpAny (model c.prog c.w) A (pyNext (.ref it)) P E s
  self : ∀ k s (P : Value → Shared → Prop) (E : Value → Shared → Prop), It k s.heap → P (.ref it) s → wpAny (model c.prog c.w) A (pyIter (.ref it)) P E s
  fin : ∀ k s μ (P : Option Value → Shared → Prop) (E : Value → Shared → Prop), items[k]? = none → itemsOf μ v = some items → Rel c μ s.heap → RV c s.heap rv v → It k s.heap →
    (∀ h', Heap.ExtBut it s.heap h' → P none { s with heap := h' }) → wpAny (model c.prog c.w) A (pyNext (.ref it)) P E s

theorem monoV_ext {it : Addr} {h h' : Heap} (x : Heap.ExtBut it h h') (ho : ∃ o vs, h.get? it = some o ∧ o.data = .fields vs ∧ ¬ RK o) : ∀ b o, h.get? b = some o → RK o → ∃ sl, h'.get? b = some { o with slots := sl } ∧ ((∃ vs, o.data = .fields vs) → sl = o.slots) := fun b o e q => by
  refine ⟨o.slots, x b o (fun z => ?_) e, fun _ => rfl⟩
  obtain ⟨oi, vs, h1, h2, h3⟩ := ho
  subst z
  rw [h1] at e; cases e; exact h3 q

theorem St.ext {it : Addr} {h' : Heap} {n : Nat} (S : St c d hd A fs env ρ μ s) (x : Heap.ExtBut it s.heap h') (hb : c.base.get? it = none) (ho : ∃ o vs, s.heap.get? it = some o ∧ o.data = .fields vs ∧ ¬ RK o) : St c d hd A fs env ρ μ { s with heap := h', toks := n } := by
  have k := monoV_ext x ho
  obtain ⟨oi, vsi, hi1, hi2, hi3⟩ := ho
  have hm : μ it = none := S.rel.none_of_fields hi1 hi2
  obtain ⟨m, hns, hnm⟩ := S.er.names
  obtain ⟨oL, esL, nL, hoL, hdL⟩ := Ns.dict hns
  have nl : env.locals ≠ it := fun q => by rw [q, hi1] at hoL; cases hoL; rw [hi2] at hdL; cases hdL
  have nc : ∀ ca w, s.heap.IsCell ca w → ca ≠ it := fun ca w ⟨o, ho, hd⟩ q => by rw [q, hi1] at ho; cases ho; rw [hi2] at hd; cases hd
  have cellk : ∀ ca w, s.heap.IsCell ca w → h'.IsCell ca w := fun ca w hc => by obtain ⟨o, ho, hd⟩ := id hc; exact ⟨o, x _ _ (nc ca w hc) ho, hd⟩
  have fr : ∀ l : List Env, s.heap.FunFrames c.base l → h'.FunFrames c.base l := by
    intro l
    induction l with
    | nil => intro _; trivial
    | cons e l ih =>
      rintro ⟨hk, ⟨L, o, hf, hn, ho, hd⟩, hr⟩
      exact ⟨hk, ⟨L, o, hf, hn, x _ _ (fun q => by rw [q, hi1] at ho; cases ho; exact hd _ hi2) ho, hd⟩, ih hr⟩
  refine ⟨⟨fun a o e => x a o (fun z => by rw [z, hb] at e; cases e) (S.rel.base a o e), fun a o e => ?_⟩, ⟨S.er.kind, S.er.glob, S.er.blt, S.er.priv, S.er.new, fun y ca e => ?_, S.er.inj, S.er.has, m, ?_, fun y w e => ?_⟩, ⟨S.aok.frames, S.aok.room, S.aok.units, S.aok.handled, fr _ S.aok.fun_, S.aok.priv, fun L hL => (by obtain ⟨o, es, n, ho, hd⟩ := S.aok.dicts L hL; exact ⟨o, es, n, x _ _ (fun q => by rw [q, hi1] at ho; cases ho; rw [hi2] at hd; cases hd) ho, hd⟩), S.aok.caught.of fun b o vs e hd k hm => ⟨hm, x b o (fun q => by rw [q, hi1] at e; cases e; exact hi3 k) e⟩⟩, S.room, S.units, S.top⟩
  · obtain ⟨n', ob, e', ro⟩ := S.rel.mem a o e
    exact ⟨n', ob, x _ _ (fun z => by rw [z, hm] at e; cases e) e', ro.monoV k⟩
  · obtain ⟨⟨w, hw⟩, h1, h2⟩ := S.er.cells y ca e
    exact ⟨⟨w, cellk _ _ hw⟩, h1, h2⟩
  · obtain ⟨o, es, ep, ho, hd, r⟩ := hns
    exact ⟨o, es, ep, x _ _ nl ho, hd, r⟩
  · rcases hnm y w e with ⟨h1, rw_, h2, h3⟩ | ⟨h1, ca, rw_, h2, h3, h4⟩
    · exact .inl ⟨h1, rw_, h2, h3.monoV k⟩
    · exact .inr ⟨h1, ca, rw_, h2, cellk _ _ h3, h4.monoV k⟩

theorem StepS.it {it : Addr} {μ₀ : Mem} {s₀ : Shared} {h' : Heap} {n : Nat} (st : StepS c fs env μ₀ μ s₀ s) (x : Heap.ExtBut it s.heap h') (hn : s₀.heap.get? it = none) : StepS c fs env μ₀ μ s₀ { s with heap := h', toks := n } :=
  ⟨st.gens, st.drawn, st.os, fun b o e hm hp => by
    obtain ⟨m', sl, e', q⟩ := st.kept b o e hm hp
    exact ⟨m', sl, x b _ (fun z => by rw [z, hn] at e; cases e) e', q⟩⟩

theorem StepS.fields {μ' : Mem} {s' : Shared} {it : Addr} (S : St c d hd A fs env ρ μ s) (st : StepS c fs env μ μ' s s') (ho : ∃ o vs, s.heap.get? it = some o ∧ o.data = .fields vs ∧ ¬ RK o) : s'.heap.get? it = s.heap.get? it := by
  obtain ⟨o, vs, h1, h2, _⟩ := ho
  have np : ¬ pv env it := by
    rintro (q | ⟨y, q⟩)
    · obtain ⟨m, hns, _⟩ := S.er.names
      obtain ⟨oL, esL, nL, hoL, hdL⟩ := Ns.dict hns
      rw [← q, h1] at hoL; cases hoL; rw [h2] at hdL; cases hdL
    · obtain ⟨⟨w, o', ho', hd'⟩, _, _⟩ := S.er.cells y it q
      rw [h1] at ho'; cases ho'; rw [h2] at hd'; cases hd'
  obtain ⟨_, sl, e, q⟩ := st.kept it o h1 (S.rel.none_of_fields h1 h2) np
  rw [q (.inr ⟨vs, h2⟩)] at e
  rw [e, h1]
theorem StepS.rv {μ' : Mem} {s' : Shared} {rv : Value} {v : V} (S : St c d hd A fs env ρ μ s) (st : StepS c fs env μ μ' s s') (h : RV c s.heap rv v) : RV c s'.heap rv v := by
  refine h.monoV fun b o e q => ?_
  obtain ⟨m, hns, _⟩ := S.er.names
  obtain ⟨oL, esL, nL, hoL, hdL⟩ := Ns.dict hns
  have np : ¬ pv env b := by
    rintro (z | ⟨y, z⟩)
    · rw [← z, e] at hoL; cases hoL
      rcases q with ⟨_, _, _, q⟩ | ⟨_, _, q⟩ <;> (rw [hdL] at q; cases q)
    · obtain ⟨⟨w, o', ho', hd'⟩, _, _⟩ := S.er.cells y b z
      rw [e] at ho'; cases ho'
      rcases q with ⟨_, _, _, q⟩ | ⟨_, _, q⟩ <;> (rw [hd'] at q; cases q)
  have hm : μ b = none := by
    rcases q with ⟨q, _⟩ | ⟨_, vs, q⟩
    · exact S.rel.none_of_cls e q (by decide) (by decide)
    · exact S.rel.none_of_fields e q
  obtain ⟨_, sl, e', q'⟩ := st.kept b o e hm np
  exact ⟨sl, e', fun z => q' (.inr z)⟩

end
end Mine

set_option autoImplicit false
namespace Mine
set_option linter.unusedVariables false
set_option linter.unusedSimpArgs false
open PySem PySem.W PySem.Calls PyProof.Rows

section
variable {c : Ctx} {sg : Sig} {d : Nat} {nr hd : Bool} {A : Around} {fs : List Env} {env : Env} {ρ : Loc} {μ : Mem} {s : Shared} {X : String → Loc → Mem → Prop}

theorem notRK {o : Obj} {vs : Array Value} {T : String} (hc : o.cls = .type T) (h1 : T ≠ "tuple") (h2 : T ≠ "range") : ¬ RK o := by
  rintro (⟨q, _⟩ | ⟨q | ⟨C, q⟩, _⟩)
  · rw [hc] at q; injection q with q; exact h1 q
  · rw [hc] at q; injection q with q; exact h2 q
  · rw [hc] at q; cases q

theorem iter_list (hh : A.handled = none) {it l : Addr} {items : List V} : Iter c A it (.ref l) (.ref l) items (fun k h => h.IsListIter it l k) where
  obj := fun k h ⟨o, ho, hc, hd⟩ => ⟨o, _, ho, hd, notRK (vs := #[]) hc (by decide) (by decide)⟩
  keep := fun k h h' ⟨o, ho, r⟩ e => ⟨o, e.trans ho, r⟩
  self := fun k s P E hit h => wpAny_pyIter_listiter hit h
  item := by
    intro k w s μ P E hk hi r hv hit h
    unfold itemsOf at hi
    dsimp only at hi
    split at hi
    · rename_i l' hl; cases hi
      obtain ⟨us, n, h1, h2, h3⟩ := r.lst hl
      obtain ⟨u, hu, hw⟩ := h2.get hk
      exact wpAny_pyNext_list_item hit ⟨_, h1, rfl, n, rfl⟩ (by rw [← Array.getElem?_toList]; exact hu) fun h' hit' sb => h u h' _ sb.extBut hit' hw
    · cases hi
  fin := by
    intro k s μ P E hk hi r hv hit h
    unfold itemsOf at hi
    dsimp only at hi
    split at hi
    · rename_i l' hl; cases hi
      obtain ⟨us, n, h1, h2, h3⟩ := r.lst hl
      refine wpAny_pyNext_list_end hh hit ⟨_, h1, rfl, n, rfl⟩ ?_ h
      rw [List.getElem?_eq_none_iff] at hk
      rw [Array.getElem?_eq_none_iff, ← Array.length_toList, h2.length]; exact hk
    · cases hi
theorem iter_tup (hh : A.handled = none) {it t : Addr} {items : List V} : Iter c A it (.ref t) (.tup items) items (fun k h => h.IsTupleIter it t k) where
  obj := fun k h ⟨o, ho, hc, hd⟩ => ⟨o, _, ho, hd, notRK (vs := #[]) hc (by decide) (by decide)⟩
  keep := fun k h h' ⟨o, ho, r⟩ e => ⟨o, e.trans ho, r⟩
  self := fun k s P E hit h => wpAny_pyIter_tupleiter hit h
  item := by
    intro k w s μ P E hk hi r hv hit h
    cases hv with
    | tup e hc hd hl hz =>
    obtain ⟨u, hu, hw⟩ := hl.get hk
    exact wpAny_pyNext_tuple_item hit ⟨_, e, hc, _, hd⟩ (by rw [← Array.getElem?_toList]; exact hu) fun h' hit' sb => h u h' _ sb.extBut hit' hw
  fin := by
    intro k s μ P E hk hi r hv hit h
    cases hv with
    | tup e hc hd hl hz =>
    refine wpAny_pyNext_tuple_end hh hit ⟨_, e, hc, _, hd⟩ ?_ h
    rw [List.getElem?_eq_none_iff] at hk
    rw [Array.getElem?_eq_none_iff, ← Array.length_toList, hl.length]; exact hk

theorem iter_str (hh : A.handled = none) {it : Addr} {x : Str} {t : Tok} {items : List V} : Iter c A it (.str x t) (.str x) items (fun k h => h.IsStrIter it "str_ascii_iterator" x t k) where
  obj := fun k h ⟨o, ho, hc, hd⟩ => ⟨o, _, ho, hd, notRK (vs := #[]) hc (by decide) (by decide)⟩
  keep := fun k h h' ⟨o, ho, r⟩ e => ⟨o, e.trans ho, r⟩
  self := fun k s P E hit h => wpAny_pyIter_striter_ascii hit h
  item := by
    intro k w s μ P E hk hi r hv hit h
    unfold itemsOf at hi
    dsimp only at hi
    split at hi
    · cases hi
      rw [List.getElem?_map] at hk
      obtain ⟨ch, hc, rfl⟩ := Option.map_eq_some_iff.mp hk
      exact wpAny_pyNext_ascii_item hit (by rw [← Array.getElem?_toList]; exact hc) fun h' hit' sb => h _ h' _ sb.extBut hit' (.str _ _)
    · cases hi
  fin := by
    intro k s μ P E hk hi r hv hit h
    unfold itemsOf at hi
    dsimp only at hi
    split at hi
    · cases hi
      rw [List.getElem?_map, Option.map_eq_none_iff] at hk
      exact wpAny_pyNext_ascii_end hh hit (by rw [← Array.getElem?_toList]; exact hk) h
    · cases hi

noncomputable def rngLen (lo hi st : Int) : Nat := if st = 1 then (hi - lo).toNat else (lo - hi).toNat
theorem rngItems_get {lo hi st : Int} (hs : st = 1 ∨ st = -1) (k : Nat) : (rngItems lo hi st)[k]? = if k < rngLen lo hi st then some (.int (lo + k * st)) else none := by
  unfold rngItems rngLen
  rcases hs with rfl | rfl
  · rw [if_pos rfl, if_pos rfl, List.getElem?_map]
    split
    · rename_i h; rw [List.getElem?_range h]; simp
    · rename_i h; rw [List.getElem?_eq_none_iff.mpr (by simpa using Nat.le_of_not_lt h)]; rfl
  · simp only [show ¬ (-1 : Int) = 1 from by decide, if_false, if_true, List.getElem?_map]
    split
    · rename_i h; rw [List.getElem?_range h]; simp; omega
    · rename_i h; rw [List.getElem?_eq_none_iff.mpr (by simpa using Nat.le_of_not_lt h)]; rfl
theorem rng_size {lo hi st : Int} (hs : st = 1 ∨ st = -1) : Builtin.Range.rangeSize lo hi st = rngLen lo hi st := by
  unfold Builtin.Range.rangeSize rngLen
  rcases hs with rfl | rfl
  · rw [if_pos (by decide), if_pos rfl]; split <;> omega
  · simp only [show ¬ (-1 : Int) = 1 from by decide, show ¬ (-1 : Int) > 0 from by decide, if_false, Int.neg_neg, Int.ediv_one]
    split <;> omega
theorem rng_small' {lo hi st : Int} (ok : RngOk lo hi st) : Builtin.Range.small lo hi st = true := by
  obtain ⟨q2, q3, hs⟩ := ok
  unfold Builtin.Range.small
  rw [rng_size hs]
  unfold Builtin.Range.rangeFitsLong rngLen
  rcases hs with rfl | rfl
  · simp only [Bool.and_eq_true, Bool.or_eq_true, decide_eq_true_eq, beq_iff_eq, if_pos (show (1 : Int) > 0 from by decide), if_pos]
    omega
  · simp only [Bool.and_eq_true, Bool.or_eq_true, decide_eq_true_eq, beq_iff_eq, if_neg (show ¬ (-1 : Int) > 0 from by decide), if_neg (show ¬ (-1 : Int) = 1 from by decide)]
    omega

theorem iter_rng (hh : A.handled = none) {it r : Addr} {lo hi st : Int} (hs : st = 1 ∨ st = -1) : Iter c A it (.ref r) (.rng lo hi st) (rngItems lo hi st) (fun k h => IsRangeIter h it (lo + k * st) ((rngLen lo hi st : Int) - k) st) where
  obj := fun k h ho => ⟨_, _, ho, rfl, notRK (vs := #[]) (T := "range_iterator") rfl (by decide) (by decide)⟩
  keep := fun k h h' ho e => e.trans ho
  self := fun k s P E hit h => wpAny_pyIter_rangeiter hit h
  item := by
    intro k w s μ P E hk hi' r' hv hit h
    rw [rngItems_get hs] at hk
    split at hk
    · rename_i hlt; cases hk
      refine wpAny_pyNext_range_item hit (by omega) fun h' hit' sb => h _ h' _ sb.extBut ?_ (.int _ _)
      have e1 : lo + ((k : Nat) : Int) * st + st = lo + ((k + 1 : Nat) : Int) * st := by rw [Int.natCast_add, Int.add_mul]; omega
      have e2 : (rngLen lo hi st : Int) - k - 1 = (rngLen lo hi st : Int) - ((k + 1 : Nat) : Int) := by omega
      rw [e1, e2] at hit'
      exact hit'
    · cases hk
  fin := by
    intro k s μ P E hk hi' r' hv hit h
    rw [rngItems_get hs] at hk
    split at hk
    · cases hk
    · rename_i hlt
      exact wpAny_pyNext_range_end hh hit (by omega) h

/-- the start of a walk through items -/
theorem iter_sound {rv : Value} {v : V} {items : List V} {P : Value → Shared → Prop} {E : Value → Shared → Prop} (hh : A.handled = none) (r : Rel c μ s.heap) (hv : RV c s.heap rv v) (hi : itemsOf μ v = some items)
    (h : ∀ it s' It, Iter c A it rv v items It → It 0 s'.heap → s.heap.get? it = none → Step c fs μ μ s s' → P (.ref it) s') : wpAny (model c.prog c.w) A (pyIter rv) P E s := by
  have n0 : s.heap.get? s.heap.objs.size = none := Heap.get?_none_of_le (Nat.le_refl _)
  cases hv with
  | ref a =>
    have hi' := hi
    unfold itemsOf at hi
    dsimp only at hi
    split at hi
    · rename_i l hl; cases hi
      obtain ⟨us, n, h1, h2, h3⟩ := r.lst hl
      exact wpAny_pyIter_list ⟨_, h1, rfl, n, rfl⟩ (h _ _ _ (iter_list hh) ⟨_, Heap.get?_push_size _ rfl, rfl, rfl⟩ n0 (Step.grows (n := s.toks) r fun b o e => Heap.get?_push_of_some _ e))
    · cases hi
  | tup e hc hd hl hz =>
    cases hi
    exact wpAny_pyIter_tuple ⟨_, e, hc, _, hd⟩ (h _ _ _ (iter_tup hh) ⟨_, Heap.get?_push_size _ rfl, rfl, rfl⟩ n0 (Step.grows (n := s.toks) r fun b o e => Heap.get?_push_of_some _ e))
  | rng e ok =>
    cases hi
    refine wpAny_pyIter_range e (rng_small' ok) (h _ _ _ (iter_rng hh ok.2.2) ?_ n0 (Step.grows (n := s.toks) r fun b o e => Heap.get?_push_of_some _ e))
    rw [rng_size ok.2.2]
    refine (Heap.get?_push_size s.heap rfl).trans ?_
    simp
  | str x t =>
    have hi' := hi
    unfold itemsOf at hi
    dsimp only at hi
    split at hi
    · rename_i ha
      exact wpAny_pyIter_ascii ha (h _ _ _ (iter_str hh) ⟨_, Heap.get?_push_size _ rfl, rfl, rfl⟩ n0 (Step.grows (n := s.toks) r fun b o e => Heap.get?_push_of_some _ e))
    · cases hi
  | none | bool | int | exc | frz | gd => cases hi

end
end Mine

set_option autoImplicit false
namespace Mine
set_option linter.unusedVariables false
set_option linter.unusedSimpArgs false
open PySem PySem.W PySem.Calls PyProof.Rows

/-- an expression is sound -/
noncomputable def SE (c : Ctx) (sg : Sig) (d : Nat) (e : E) : Prop := ∀ (hd : Bool) (A : Around) (fs : List Env) (env : Env) (ρ : Loc) (μ : Mem) (s : Shared) (Q : V → Mem → Prop) (X : String → Mem → Prop),
  okE sg env.scope.names e = true → wpE sg (SC c d) hd e ρ μ Q X → St c d hd A fs env ρ μ s → wpAny (model c.prog c.w) A (eval (toE e) env) (Post c fs μ s Q) (XPost c fs μ s X) s
noncomputable def ST (c : Ctx) (sg : Sig) (d : Nat) (e : E) : Prop := ∀ (hd : Bool) (A : Around) (fs : List Env) (env : Env) (ρ : Loc) (μ : Mem) (s : Shared) (Q₀ : V → Mem → Prop) (Q : Bool → Mem → Prop) (X : String → Mem → Prop),
  (∀ v μ₁, Q₀ v μ₁ → tr v fun b => Q b μ₁) → okE sg env.scope.names e = true → wpE sg (SC c d) hd e ρ μ Q₀ X → St c d hd A fs env ρ μ s → wpAny (model c.prog c.w) A (isTrue (toE e) env (eval (toE e) env)) (PostB c fs μ s Q) (XPost c fs μ s X) s

section
variable {c : Ctx} {sg : Sig} {d : Nat} {hd : Bool} {A : Around} {fs : List Env} {env : Env} {ρ : Loc} {μ : Mem} {s : Shared} {E : Value → Shared → Prop}

theorem ses {es : List Mine.E} : (∀ e ∈ es, SE c sg d e) → ∀ {μ : Mem} {s : Shared} {Q : List V → Mem → Prop} {X : String → Mem → Prop}, okEs sg env.scope.names es = true → wpEs sg (SC c d) hd es ρ μ Q X → St c d hd A fs env ρ μ s →
    wpAny (model c.prog c.w) A (spliced (es.map fun e => (false, eval (toE e) env))) (Posts c fs μ s fun vs μ' => vs.length = es.length ∧ Q vs μ') (XPost c fs μ s X) s := by
  induction es with
  | nil => intro _ μ s Q X _ h S; exact spliced_nil ⟨[], μ, Step.refl S.rel, .nil, rfl, h⟩
  | cons e es ih =>
    intro hs μ s Q X ok h S
    simp only [okEs, Bool.and_eq_true] at ok
    refine spliced_cons (wpAny_mono (hs e (.head _) hd A fs env ρ μ s _ X ok.1 h S) (fun rv s₁ ⟨v, μ₁, st, hv, q⟩ => ?_) fun _ _ x => x)
    refine wpAny_mono (ih (fun e' he => hs e' (.tail _ he)) ok.2 q (S.step st)) (fun rvs s₂ ⟨vs, μ₂, st₂, hvs, q₂⟩ => ?_) fun _ _ x => x.after st
    exact ⟨v :: vs, μ₂, st.trans st₂, .cons (hv.step st.rel st₂) hvs, by rw [List.length_cons, List.length_cons, q₂.1], q₂.2⟩

theorem tr_bool {v : V} {k : Bool → Prop} (h : tr v k) : ∃ b, v = .bool b ∧ k b := by
  unfold tr truth at h
  split at h
  · rename_i b e
    split at e
    · cases e; exact ⟨_, rfl, h⟩
    · cases e
  · exact h.elim
theorem truthy_sound {rv : Value} {v : V} {k : Bool → Prop} {P : Bool → Shared → Prop} {M : Model} {h : Heap} (hv : RV c h rv v) (t : tr v k) (q : ∀ b, k b → P b s) : wpAny M A (truthy rv) P E s := by
  obtain ⟨b, rfl, hb⟩ := tr_bool t
  cases hv
  exact wpAny_truthy_bool (q b hb)

/-- the arguments, then the call -/
theorem call_es {es : List Mine.E} {f : Value} {first : List Value} {pos : Pos} {Q : V → Mem → Prop} {Qs : List V → Mem → Prop} {X : String → Mem → Prop} (G : Good c sg) (hs : ∀ e ∈ es, SE c sg d e) (ok : okEs sg env.scope.names es = true) (h : wpEs sg (SC c d) hd es ρ μ Qs X) (S : St c d hd A fs env ρ μ s)
    (hk : keepIn c.K f = true ∨ (∃ id, f = .builtin id) ∨ ∃ T, f = .type T)
    (k : ∀ rvs vs μ₁ s₁, Step c fs μ μ₁ s s₁ → RVs c s₁.heap rvs vs → Qs vs μ₁ → wpAny (model c.prog c.w) A (call f (first ++ rvs)) (Post c fs μ₁ s₁ Q) (XPost c fs μ₁ s₁ X) s₁) :
    wpAny (model c.prog c.w) A (callWith pos f first (backTo pos (starEach (toEs es) env)) []) (Post c fs μ s Q) (XPost c fs μ s X) s := by
  have e1 : (es.map fun e => ((false, eval (toE e) env) : Bool × Sem Value)) = (es.map fun e => eval (toE e) env).map fun t => (false, t) := by rw [List.map_map]; rfl
  rw [backTo_toEs, e1]
  have hp : ((es.map fun e => eval (toE e) env).map fun t => ((false, t) : Bool × Sem Value)).any (·.1) = false := by
    rw [List.any_map]; simp
  have args := ses (fs := fs) (A := A) hs ok h S
  rw [e1] at args
  have fin : wpAny (model c.prog c.w) A (evalArgs f true ((es.map fun e => eval (toE e) env).map fun t => (false, t)) []) (fun a s₁ => c.K.In s₁.heap ∧ wpAny (model c.prog c.w) A (call f (first ++ a.pos) a.kw) (Post c fs μ s Q) (XPost c fs μ s X) s₁) (XPost c fs μ s X) s :=
    evalArgs_es (wpAny_mono args (fun rvs s₁ ⟨vs, μ₁, st, hvs, _, q⟩ => ⟨G.X.keeps st.rel.base, wp_after st (k rvs vs μ₁ s₁ st hvs q)⟩) fun _ _ x => x)
  rcases hk with hk | ⟨id, rfl⟩ | ⟨T, rfl⟩
  · exact callWith_of (by rw [hp]; rfl) (keeps_K hk) fin
  · exact PySem.Calls.callWith_builtin hp (wpAny_mono fin (fun _ _ x => x.2) fun _ _ x => x)
  · exact PySem.callWith_type hp (wpAny_mono fin (fun _ _ x => x.2) fun _ _ x => x)

theorem sc_call {hd : Bool} {f : String} {fa : Addr} {vs : List V} {rvs : List Value} {Q : V → Mem → Prop} {X : String → Mem → Prop} (h : SC c d hd f vs μ Q X) (hf : c.fn f = some fa) (aok : AOK c d hd A fs μ s.heap) (r : Rel c μ s.heap) (hr : RVs c s.heap rvs vs) :
    wpAny (model c.prog c.w) A (call (.ref fa) rvs) (Post c fs μ s Q) (XPost c fs μ s X) s := by
  obtain ⟨fa', h1, h2⟩ := h
  rw [hf] at h1; cases h1
  exact wpAny_call (h2 A fs s rvs aok r hr)

theorem new_sound {cl : String} {C fI : Addr} {vs : List V} {rvs : List Value} {Q : V → Mem → Prop} {X : String → Mem → Prop} (X' : c.K.In s.heap) (hm : makesIn c.K C = true) (hi : findIn c.K (.ref C) "__init__" = some (some (.ref fI))) (hty : typeIn c.K (.ref fI) = some (.type "function"))
    (hc : c.cls cl = some C) (hf : c.fn (cl ++ ".__init__") = some fI) (S : St c d hd A fs env ρ μ s) (hr : RVs c s.heap rvs vs)
    (h : ∀ a dd, μ a = none → μ dd = none → dd ≠ a → SC c d hd (cl ++ ".__init__") (.ref a :: vs) (updM (updM μ dd (.attrs [])) a (.inst cl dd)) (fun v μ₂ => (match v with | .none => True | _ => False) ∧ Q (.ref a) μ₂) X) :
    wpAny (model c.prog c.w) A (call (.ref C) rvs) (Post c fs μ s Q) (XPost c fs μ s X) s := by
  obtain ⟨hp, g, dr, t, os⟩ := s
  have n0 : hp.get? hp.objs.size = none := Heap.get?_none_of_le (Nat.le_refl _)
  have n1 : (hp.push emptyDict).get? (hp.objs.size + 1) = none := Heap.get?_none_of_le (by rw [Heap.size_push]; exact Nat.le_refl _)
  have k0 : ∀ b o, hp.get? b = some o → (hp.push emptyDict).get? b = some o := fun b o e => Heap.get?_push_of_some _ e
  have st0 : Step c fs μ (updM μ hp.objs.size (.attrs [])) ⟨hp, g, dr, t, os⟩ ⟨hp.push emptyDict, g, dr, t, os⟩ := Step.alloc S.rel k0 n0 (Heap.get?_push_size _ rfl) (.attrs (es := []) .nil)
  have g1 : ((hp.push emptyDict).push (instObj C hp.objs.size)).get? (hp.objs.size + 1) = some (instObj C hp.objs.size) := by
    have := Heap.get?_push_size (hp.push emptyDict) (o := instObj C hp.objs.size) rfl
    rwa [Heap.size_push] at this
  have st1 : Step c fs (updM μ hp.objs.size (.attrs [])) (updM (updM μ hp.objs.size (.attrs [])) (hp.objs.size + 1) (.inst cl hp.objs.size)) ⟨hp.push emptyDict, g, dr, t, os⟩ ⟨(hp.push emptyDict).push (instObj C hp.objs.size), g, dr, t, os⟩ :=
    Step.alloc st0.rel (fun b o e => Heap.get?_push_of_some _ e) n1 g1 (.inst hc)
  have st := st0.trans st1
  have m1 : μ (hp.objs.size + 1) = none := S.rel.free (Heap.get?_none_of_le (by exact Nat.le_succ _))
  obtain ⟨fa', h1, h2⟩ := h (hp.objs.size + 1) hp.objs.size m1 (S.rel.free n0) (Nat.ne_of_lt (Nat.lt_succ_self _))
  rw [hf] at h1; cases h1
  refine wpAny_call (make_core (makes_of X' hm) (looks_findIn X' hi) (fun self => bind_fn X' self hty) (.inl rfl) ?_)
  have aok := S.aok.step st
  have := S.room
  have hu := S.units
  have aok' : AOK c d hd (A.under (.builtin "type.__call__" ⟨.ref C :: rvs, []⟩)) fs (updM (updM μ hp.objs.size (.attrs [])) (hp.objs.size + 1) (.inst cl hp.objs.size)) ((hp.push emptyDict).push (instObj C hp.objs.size)) :=
    ⟨aok.frames, by rw [depth_under_make]; omega, by rw [units_under_make]; omega, aok.handled, aok.fun_, aok.priv, aok.dicts, aok.caught⟩
  refine codeAny_mono (h2 _ fs _ (.ref (hp.objs.size + 1) :: rvs) aok' st.rel (.cons (.ref _) (hr.step S.rel st))) fun r s' hrr => ?_
  rcases r with re | (_ | _ | _ | v)
  · exact hrr.after st
  · exact hrr.elim
  · exact hrr.elim
  · exact hrr.elim
  · obtain ⟨v', μ', st', hv, hn, hq⟩ := hrr
    cases hv <;> first | exact hn.elim | exact ⟨rfl, .ref (hp.objs.size + 1), μ', st.trans st', .ref _, hq⟩
end
end Mine

set_option autoImplicit false
namespace Mine
set_option linter.unusedVariables false
set_option linter.unusedSimpArgs false
open PySem PySem.W PySem.Calls PyProof.Rows

section
variable {c : Ctx} {sg : Sig} {d : Nat}

theorem wp_next {A : Around} {fs : List Env} {μ₀ μ : Mem} {s₀ s : Shared} {t : Sem Value} {Q₁ : V → Mem → Prop} {X : String → Mem → Prop} {P : Value → Shared → Prop} (st : Step c fs μ₀ μ s₀ s) (h : wpAny (model c.prog c.w) A t (Post c fs μ s Q₁) (XPost c fs μ s X) s)
    (k : ∀ rv v μ₁ s₁, Step c fs μ μ₁ s s₁ → Step c fs μ₀ μ₁ s₀ s₁ → RV c s₁.heap rv v → Q₁ v μ₁ → P rv s₁) : wpAny (model c.prog c.w) A t P (XPost c fs μ₀ s₀ X) s :=
  wpAny_mono h (fun rv s₁ ⟨v, μ₁, st₁, hv, q⟩ => k rv v μ₁ s₁ st₁ (st.trans st₁) hv q) fun _ _ x => x.after st
theorem wp_nextB {A : Around} {fs : List Env} {μ₀ μ : Mem} {s₀ s : Shared} {t : Sem Bool} {Q₁ : Bool → Mem → Prop} {X : String → Mem → Prop} {P : Bool → Shared → Prop} (st : Step c fs μ₀ μ s₀ s) (h : wpAny (model c.prog c.w) A t (PostB c fs μ s Q₁) (XPost c fs μ s X) s)
    (k : ∀ b μ₁ s₁, Step c fs μ μ₁ s s₁ → Step c fs μ₀ μ₁ s₀ s₁ → Q₁ b μ₁ → P b s₁) : wpAny (model c.prog c.w) A t P (XPost c fs μ₀ s₀ X) s :=
  wpAny_mono h (fun b s₁ ⟨μ₁, st₁, q⟩ => k b μ₁ s₁ st₁ (st.trans st₁) q) fun _ _ x => x.after st
theorem wp_last {A : Around} {fs : List Env} {μ₀ μ : Mem} {s₀ s : Shared} {t : Sem Value} {Q : V → Mem → Prop} {E : Value → Shared → Prop} (st : Step c fs μ₀ μ s₀ s) (h : wpAny (model c.prog c.w) A t (Post c fs μ s Q) E s) : wpAny (model c.prog c.w) A t (Post c fs μ₀ s₀ Q) E s :=
  wpAny_mono h (fun _ _ p => p.after st) fun _ _ x => x

theorem se_bin {op : Operator} {l r : E} {p : Pos} (hl : SE c sg d l) (hr : SE c sg d r) : SE c sg d (.bin op l r p) := by
  intro hd A fs env ρ μ s Q X ok h S
  simp only [okE_loc, okE_glob, okE_bin, okE_neg, okE_not, okE_and, okE_or, okE_cmp, okE_cmp2, okE_attr, okE_sub, okE_sliceL, okE_sliceU, okE_sliceLU, okE_tup, okE_list, okE_call, okE_new, okE_bltn, okE_isi, okE_meth, okE_comp, Bool.and_eq_true] at ok
  refine wpAny_BinOp (wp_next (Step.refl S.rel) (hl hd A fs env ρ μ s _ X ok.1 h S) fun ra a μ₁ s₁ st _ ha q => ?_)
  refine wp_next st (hr hd A fs env ρ μ₁ s₁ _ X ok.2 q (S.step st)) fun rb b μ₂ s₂ st₂ st' hb q₂ => ?_
  exact wp_last st' (bin_sound st₂.rel (ha.step st.rel st₂) hb q₂ ((S.step st).step st₂).aok)

theorem se_neg {e : E} {p : Pos} (he : SE c sg d e) : SE c sg d (.neg e p) := by
  intro hd A fs env ρ μ s Q X ok h S
  simp only [okE_loc, okE_glob, okE_bin, okE_neg, okE_not, okE_and, okE_or, okE_cmp, okE_cmp2, okE_attr, okE_sub, okE_sliceL, okE_sliceU, okE_sliceLU, okE_tup, okE_list, okE_call, okE_new, okE_bltn, okE_isi, okE_meth, okE_comp] at ok
  refine wpAny_UnaryOp (wp_next (Step.refl S.rel) (he hd A fs env ρ μ s _ X ok h S) fun ra a μ₁ s₁ st _ ha q => ?_)
  unfold asInt at q
  split at q
  · cases ha; exact PyProof.Rows.neg_int ⟨_, μ₁, st.trans (Step.toks st.rel), .int _ _, q⟩
  · exact q.elim

theorem se_not {e : E} {p : Pos} (he : SE c sg d e) : SE c sg d (.not e p) := by
  intro hd A fs env ρ μ s Q X ok h S
  simp only [okE_loc, okE_glob, okE_bin, okE_neg, okE_not, okE_and, okE_or, okE_cmp, okE_cmp2, okE_attr, okE_sub, okE_sliceL, okE_sliceU, okE_sliceLU, okE_tup, okE_list, okE_call, okE_new, okE_bltn, okE_isi, okE_meth, okE_comp] at ok
  refine wpAny_UnaryOp (wp_next (Step.refl S.rel) (he hd A fs env ρ μ s _ X ok h S) fun ra a μ₁ s₁ st _ ha q => ?_)
  exact not_of (truthy_sound ha q fun b hb => ⟨.bool (!b), μ₁, st, .bool _, hb⟩)

theorem behind_toE (op : CmpOp) (e : E) : behindInMarks op (toE e) = false := by cases e <;> rfl
theorem se_cmp {op : CmpOp} {l r : E} {p : Pos} (hl : SE c sg d l) (hr : SE c sg d r) : SE c sg d (.cmp op l r p) := by
  intro hd A fs env ρ μ s Q X ok h S
  simp only [okE_loc, okE_glob, okE_bin, okE_neg, okE_not, okE_and, okE_or, okE_cmp, okE_cmp2, okE_attr, okE_sub, okE_sliceL, okE_sliceU, okE_sliceLU, okE_tup, okE_list, okE_call, okE_new, okE_bltn, okE_isi, okE_meth, okE_comp, Bool.and_eq_true] at ok
  refine wpAny_Compare1 (wp_next (Step.refl S.rel) (hl hd A fs env ρ μ s _ X ok.1 h S) fun ra a μ₁ s₁ st _ ha q => ?_) (behind_toE op r)
  refine wp_next st (hr hd A fs env ρ μ₁ s₁ _ X ok.2 q (S.step st)) fun rb b μ₂ s₂ st₂ st' hb q₂ => ?_
  exact wp_last st' (cmp_sound st₂.rel (ha.step st.rel st₂) hb q₂ ((S.step st).step st₂).aok)

theorem se_attr {o : E} {a : String} {p : Pos} (G : Good c sg) (ho : SE c sg d o) : SE c sg d (.attr o a p) := by
  intro hd A fs env ρ μ s Q X ok h S
  simp only [okE_loc, okE_glob, okE_bin, okE_neg, okE_not, okE_and, okE_or, okE_cmp, okE_cmp2, okE_attr, okE_sub, okE_sliceL, okE_sliceU, okE_sliceLU, okE_tup, okE_list, okE_call, okE_new, okE_bltn, okE_isi, okE_meth, okE_comp, Bool.and_eq_true] at ok
  have hb : ∃ x p, o = .loc x p := by
    have := ok.2
    split at this
    · exact ⟨_, _, rfl⟩
    · cases this
  have main := wp_next (P := fun ra s₁ => wpAny (model c.prog c.w) A (getAttr ra (Str.ofString a) true) (Post c fs μ s Q) (XPost c fs μ s X) s₁) (Step.refl S.rel) (ho hd A fs env ρ μ s _ X ok.1.1 h S) fun ra v μ₁ s₁ st _ ha q => by
    unfold optW at q
    split at q
    · rename_i w hw
      exact wp_last st (attr_sound (G.X.keeps st.rel.base) st.rel ha hw G.cls (fun x C hC => G.attr x C a hC (List.contains_iff_mem.mp ok.1.2)) q)
    · exact q.elim
  obtain ⟨x, p', rfl⟩ := hb
  exact Attribute_any_ main rfl

theorem se_sub {o i : E} {p : Pos} (ho : SE c sg d o) (hi : SE c sg d i) : SE c sg d (.sub o i p) := by
  intro hd A fs env ρ μ s Q X ok h S
  simp only [okE_loc, okE_glob, okE_bin, okE_neg, okE_not, okE_and, okE_or, okE_cmp, okE_cmp2, okE_attr, okE_sub, okE_sliceL, okE_sliceU, okE_sliceLU, okE_tup, okE_list, okE_call, okE_new, okE_bltn, okE_isi, okE_meth, okE_comp, Bool.and_eq_true] at ok
  refine Subscript_ (wp_next (Step.refl S.rel) (ho hd A fs env ρ μ s _ X ok.1 h S) fun ra a μ₁ s₁ st _ ha q => ?_)
  refine wp_next st (hi hd A fs env ρ μ₁ s₁ _ X ok.2 q (S.step st)) fun rb b μ₂ s₂ st₂ st' hb q₂ => ?_
  unfold optW at q₂
  split at q₂
  · rename_i w hw
    exact wp_last st' (sub_sound st₂.rel (ha.step st.rel st₂) hb hw q₂)
  · exact q₂.elim

theorem se_tup {es : List E} {k : Nat} {p : Pos} (hs : ∀ e ∈ es, SE c sg d e) : SE c sg d (.tup es k p) := by
  intro hd A fs env ρ μ s Q X ok h S
  simp only [okE_loc, okE_glob, okE_bin, okE_neg, okE_not, okE_and, okE_or, okE_cmp, okE_cmp2, okE_attr, okE_sub, okE_sliceL, okE_sliceU, okE_sliceLU, okE_tup, okE_list, okE_call, okE_new, okE_bltn, okE_isi, okE_meth, okE_comp, Bool.and_eq_true, decide_eq_true_eq] at ok
  refine Tuple_ ?_
  rw [backTo_toEs]
  refine wpAny_mono (ses hs ok.1 h S) (fun rvs s₁ ⟨vs, μ₁, st, hvs, hln, q⟩ => ?_) fun _ _ x => x
  have hl := hvs.length
  have hok := ok.2
  have k : ∀ b o, s₁.heap.get? b = some o → (s₁.heap.push { cls := .type "tuple", data := .seq rvs.toArray }).get? b = some o := fun b o e => Heap.get?_push_of_some _ e
  have st' : Step c fs μ₁ μ₁ s₁ { s₁ with heap := s₁.heap.push { cls := .type "tuple", data := .seq rvs.toArray } } := Step.grows (n := s₁.toks) st.rel k
  refine wpAny_newTuple ⟨.tup vs, μ₁, st.trans st', .tup (Heap.get?_push_size _ rfl) rfl rfl (by simpa using hvs.step st.rel st') (by rw [lim_val]; omega), q⟩ ?_
  rw [sizeLine_eq]; omega

theorem se_list {es : List E} {p : Pos} (hs : ∀ e ∈ es, SE c sg d e) : SE c sg d (.list es p) := by
  intro hd A fs env ρ μ s Q X ok h S
  simp only [okE_loc, okE_glob, okE_bin, okE_neg, okE_not, okE_and, okE_or, okE_cmp, okE_cmp2, okE_attr, okE_sub, okE_sliceL, okE_sliceU, okE_sliceLU, okE_tup, okE_list, okE_call, okE_new, okE_bltn, okE_isi, okE_meth, okE_comp, Bool.and_eq_true, decide_eq_true_eq] at ok
  refine List_ ?_
  rw [backTo_toEs]
  refine wpAny_mono (ses hs ok.1 h S) (fun rvs s₁ ⟨vs, μ₁, st, hvs, _, q⟩ => ?_) fun _ _ x => x
  refine wpAny_newList ((post_newL (n := s₁.toks) st.rel (by simpa using hvs) q).after st) ?_
  have := newL_size (vs := rvs.toArray) (by simpa using hvs) q.1
  simpa using this
end
end Mine

set_option autoImplicit false
namespace Mine
set_option linter.unusedVariables false
set_option linter.unusedSimpArgs false
open PySem PySem.W PySem.Calls PyProof.Rows

section
variable {c : Ctx} {sg : Sig} {d : Nat}

theorem eval_SliceL {M : Model} {A : Around} {E : Value → Shared → Prop} {s : Shared} {env : Env} {l : Expr} {ps : Pos} {P : Value → Shared → Prop}
    (h : wpAny M A (eval l env) (fun rl s₁ => P (.ref s₁.heap.objs.size) { s₁ with heap := s₁.heap.push { cls := .type "slice", data := .fields #[rl, .none, .none] } }) E s) : wpAny M A (eval (.Slice (some l) none none ps) env) P E s := by
  show wpAny M A (do
    let l ← eval l env
    let u ← holding [l] (pure .none)
    let s ← holding [l, u] (pure .none)
    newFields "slice" [l, u, s]) P E s
  refine wpAny_bind (wpAny_mono h (fun rl s₁ h₁ => ?_) fun _ _ x => x)
  refine wpAny_bind (wpAny_holding (wpAny_pure (wpAny_bind (wpAny_holding (wpAny_pure ?_)))))
  unfold newFields
  exact wpAny_newObj_type h₁ (by show sizeOk (.fields _); simp [sizeOk, sizeLine_eq])
theorem eval_SliceU {M : Model} {A : Around} {E : Value → Shared → Prop} {s : Shared} {env : Env} {l : Expr} {ps : Pos} {P : Value → Shared → Prop}
    (h : wpAny M A (eval l env) (fun rl s₁ => P (.ref s₁.heap.objs.size) { s₁ with heap := s₁.heap.push { cls := .type "slice", data := .fields #[.none, rl, .none] } }) E s) : wpAny M A (eval (.Slice none (some l) none ps) env) P E s := by
  show wpAny M A (do
    let l' ← pure .none
    let u ← holding [l'] (eval l env)
    let s ← holding [l', u] (pure .none)
    newFields "slice" [l', u, s]) P E s
  refine wpAny_bind (wpAny_pure (wpAny_bind (wpAny_holding (wpAny_mono h (fun rl s₁ h₁ => ?_) fun _ _ x => x))))
  refine wpAny_bind (wpAny_holding (wpAny_pure ?_))
  unfold newFields
  exact wpAny_newObj_type h₁ (by show sizeOk (.fields _); simp [sizeOk, sizeLine_eq])

theorem eval_SliceLU {M : Model} {A : Around} {E : Value → Shared → Prop} {s : Shared} {env : Env} {l u : Expr} {ps : Pos} {P : Value → Shared → Prop}
    (h : wpAny M A (eval l env) (fun rl s₁ => wpAny M A (eval u env) (fun ru s₂ => P (.ref s₂.heap.objs.size) { s₂ with heap := s₂.heap.push { cls := .type "slice", data := .fields #[rl, ru, .none] } }) E s₁) E s) : wpAny M A (eval (.Slice (some l) (some u) none ps) env) P E s := by
  show wpAny M A (do
    let l ← eval l env
    let u ← holding [l] (eval u env)
    let s ← holding [l, u] (pure .none)
    newFields "slice" [l, u, s]) P E s
  refine wpAny_bind (wpAny_mono h (fun rl s₁ h₁ => ?_) fun _ _ x => x)
  refine wpAny_bind (wpAny_holding (wpAny_mono h₁ (fun ru s₂ h₂ => ?_) fun _ _ x => x))
  refine wpAny_bind (wpAny_holding (wpAny_pure ?_))
  unfold newFields
  exact wpAny_newObj_type h₂ (by show sizeOk (.fields _); simp [sizeOk, sizeLine_eq])

theorem se_sliceLU {o l u : E} {ps p : Pos} (ho : SE c sg d o) (hl : SE c sg d l) (hu : SE c sg d u) : SE c sg d (.sliceLU o l u ps p) := by
  intro hd A fs env ρ μ s Q X ok h S
  simp only [okE_loc, okE_glob, okE_bin, okE_neg, okE_not, okE_and, okE_or, okE_cmp, okE_cmp2, okE_attr, okE_sub, okE_sliceL, okE_sliceU, okE_sliceLU, okE_tup, okE_list, okE_call, okE_new, okE_bltn, okE_isi, okE_meth, okE_comp, Bool.and_eq_true] at ok
  refine Subscript_ (wp_next (Step.refl S.rel) (ho hd A fs env ρ μ s _ X ok.1.1 h S) fun ra a μ₁ s₁ st _ ha q => ?_)
  refine eval_SliceLU (wp_next st (hl hd A fs env ρ μ₁ s₁ _ X ok.1.2 q (S.step st)) fun rb b μ₂ s₂ st₂ st' hb q₂ => ?_)
  refine wp_next st' (hu hd A fs env ρ μ₂ s₂ _ X ok.2 q₂ ((S.step st).step st₂)) fun rc b' μ₃ s₃ st₃ st'' hc q₃ => ?_
  obtain ⟨i, rfl, q₃⟩ := asInt_of (v := b) q₃
  obtain ⟨j, rfl, q₃⟩ := asInt_of (v := b') q₃
  obtain ⟨t1, rfl⟩ := hb.int_of
  obtain ⟨t2, rfl⟩ := hc.int_of
  exact wpAny_mono (slice_sound st₃.rel ((ha.step st.rel st₂).step st₂.rel st₃) (.int _ _) (.int _ _) q₃ fun _ _ => rfl) (fun _ _ p => p.after st'') fun _ _ x => x
theorem se_sliceL {o l : E} {ps p : Pos} (ho : SE c sg d o) (hl : SE c sg d l) : SE c sg d (.sliceL o l ps p) := by
  intro hd A fs env ρ μ s Q X ok h S
  simp only [okE_loc, okE_glob, okE_bin, okE_neg, okE_not, okE_and, okE_or, okE_cmp, okE_cmp2, okE_attr, okE_sub, okE_sliceL, okE_sliceU, okE_sliceLU, okE_tup, okE_list, okE_call, okE_new, okE_bltn, okE_isi, okE_meth, okE_comp, Bool.and_eq_true] at ok
  refine Subscript_ (wp_next (Step.refl S.rel) (ho hd A fs env ρ μ s _ X ok.1 h S) fun ra a μ₁ s₁ st _ ha q => ?_)
  refine eval_SliceL (wp_next st (hl hd A fs env ρ μ₁ s₁ _ X ok.2 q (S.step st)) fun rb b μ₂ s₂ st₂ st' hb q₂ => ?_)
  obtain ⟨i, rfl, q₂⟩ := asInt_of q₂
  cases hb
  exact wpAny_mono (slice_sound st₂.rel (ha.step st.rel st₂) (.int _ _) .none q₂ fun _ _ => rfl) (fun _ _ p => p.after st') fun _ _ x => x
theorem se_sliceU {o l : E} {ps p : Pos} (ho : SE c sg d o) (hl : SE c sg d l) : SE c sg d (.sliceU o l ps p) := by
  intro hd A fs env ρ μ s Q X ok h S
  simp only [okE_loc, okE_glob, okE_bin, okE_neg, okE_not, okE_and, okE_or, okE_cmp, okE_cmp2, okE_attr, okE_sub, okE_sliceL, okE_sliceU, okE_sliceLU, okE_tup, okE_list, okE_call, okE_new, okE_bltn, okE_isi, okE_meth, okE_comp, Bool.and_eq_true] at ok
  refine Subscript_ (wp_next (Step.refl S.rel) (ho hd A fs env ρ μ s _ X ok.1 h S) fun ra a μ₁ s₁ st _ ha q => ?_)
  refine eval_SliceU (wp_next st (hl hd A fs env ρ μ₁ s₁ _ X ok.2 q (S.step st)) fun rb b μ₂ s₂ st₂ st' hb q₂ => ?_)
  obtain ⟨i, rfl, q₂⟩ := asInt_of q₂
  cases hb
  exact wpAny_mono (slice_sound st₂.rel (ha.step st.rel st₂) .none (.int _ _) q₂ fun _ _ => rfl) (fun _ _ p => p.after st') fun _ _ x => x

theorem br_ite {b : Bool} {P Q : Prop} {P' Q' : Prop} (h : br b P Q) (h1 : P → P') (h2 : Q → Q') : if b = true then P' else Q' := by
  cases b with
  | true => rw [if_pos rfl]; exact h1 (h.1 rfl)
  | false => rw [if_neg (by decide)]; exact h2 (h.2 rfl)

theorem se_cmp2 {op₁ op₂ : CmpOp} {a b e : E} {p : Pos} (ha : SE c sg d a) (hb : SE c sg d b) (he : SE c sg d e) : SE c sg d (.cmp2 op₁ op₂ a b e p) := by
  intro hd A fs env ρ μ s Q X ok h S
  simp only [okE_loc, okE_glob, okE_bin, okE_neg, okE_not, okE_and, okE_or, okE_cmp, okE_cmp2, okE_attr, okE_sub, okE_sliceL, okE_sliceU, okE_sliceLU, okE_tup, okE_list, okE_call, okE_new, okE_bltn, okE_isi, okE_meth, okE_comp, Bool.and_eq_true] at ok
  refine Compare_chain (wp_next (Step.refl S.rel) (ha hd A fs env ρ μ s _ X ok.1.1 h S) fun ra va μ₁ s₁ st _ hva q => ?_) (by show lastMarks [op₁, op₂] [toE b, toE e] = false; exact behind_toE op₂ e)
  refine chain_link (wp_next st (hb hd A fs env ρ μ₁ s₁ _ X ok.1.2 q (S.step st)) fun rb vb μ₂ s₂ st₂ st' hvb q₂ => ?_)
  have S₂ := (S.step st).step st₂
  refine wpAny_mono (cmp_sound (E := XPost c fs μ s X) st₂.rel (hva.step st.rel st₂) hvb q₂ S₂.aok) (fun rt s₃ ⟨t, μ₃, st₃, ht, q₃⟩ => ?_) fun _ _ x => x
  refine truthy_sound ht q₃ fun y hy => ?_
  refine br_ite hy (fun h1 => ?_) fun h2 => ⟨t, μ₃, st'.trans st₃, ht, h2⟩
  refine chain_last (wp_next (st'.trans st₃) (he hd A fs env ρ μ₃ s₃ _ X ok.2 h1 (S₂.step st₃)) fun rc vc μ₄ s₄ st₄ st'' hvc q₄ => ?_)
  exact wp_last st'' (cmp_sound st₄.rel ((hvb.step st₂.rel st₃).step st₃.rel st₄) hvc q₄ ((S₂.step st₃).step st₄).aok)

theorem evalEach_toEs (env : Env) : ∀ es : List E, evalEach (toEs es) env = es.map fun e => eval (toE e) env
  | [] => rfl
  | e :: es => by rw [toEs, evalEach, evalEach_toEs env es, List.map_cons]

theorem sands {hd : Bool} {A : Around} {fs : List Env} {env : Env} {ρ : Loc} {X : String → Mem → Prop} {Q : V → Mem → Prop} {p : Pos} : ∀ {es : List E} {μ : Mem} {s : Shared}, (∀ e ∈ es, SE c sg d e) → okEs sg env.scope.names es = true → wpAnd sg (SC c d) hd es ρ μ Q X → St c d hd A fs env ρ μ s →
    wpAny (model c.prog c.w) A (boolOp p .And (es.map fun e => eval (toE e) env)) (Post c fs μ s Q) (XPost c fs μ s X) s
  | [], _, _, _, _, h, _ => h.elim
  | [e], μ, s, hs, ok, h, S => by
    simp only [okEs, Bool.and_eq_true] at ok
    exact hs e (.head _) hd A fs env ρ μ s Q X ok.1 h S
  | e :: e' :: es, μ, s, hs, ok, h, S => by
    rw [okEs, Bool.and_eq_true] at ok
    show wpAny _ A (eval (toE e) env >>= fun v => standAt p >>= fun _ => holding [v] (truthy v) >>= fun t => match BoolOp.And, t with | .And, false | .Or, true => pure v | _, _ => boolOp p .And ((e' :: es).map fun e => eval (toE e) env)) _ _ s
    refine wpAny_bind (wp_next (Step.refl S.rel) (hs e (.head _) hd A fs env ρ μ s _ X ok.1 h S) fun rv v μ₁ s₁ st _ hv q => ?_)
    refine wpAny_bind (wpAny_standAt (wpAny_bind (wpAny_holding (truthy_sound hv q fun b hb => ?_))))
    cases b with
    | true => exact wp_after st (sands (fun x hx => hs x (.tail _ hx)) ok.2 (hb.1 rfl) (S.step st))
    | false => exact wpAny_pure ⟨v, μ₁, st, hv, hb.2 rfl⟩
theorem sors {hd : Bool} {A : Around} {fs : List Env} {env : Env} {ρ : Loc} {X : String → Mem → Prop} {Q : V → Mem → Prop} {p : Pos} : ∀ {es : List E} {μ : Mem} {s : Shared}, (∀ e ∈ es, SE c sg d e) → okEs sg env.scope.names es = true → wpOr sg (SC c d) hd es ρ μ Q X → St c d hd A fs env ρ μ s →
    wpAny (model c.prog c.w) A (boolOp p .Or (es.map fun e => eval (toE e) env)) (Post c fs μ s Q) (XPost c fs μ s X) s
  | [], _, _, _, _, h, _ => h.elim
  | [e], μ, s, hs, ok, h, S => by
    simp only [okEs, Bool.and_eq_true] at ok
    exact hs e (.head _) hd A fs env ρ μ s Q X ok.1 h S
  | e :: e' :: es, μ, s, hs, ok, h, S => by
    rw [okEs, Bool.and_eq_true] at ok
    show wpAny _ A (eval (toE e) env >>= fun v => standAt p >>= fun _ => holding [v] (truthy v) >>= fun t => match BoolOp.Or, t with | .And, false | .Or, true => pure v | _, _ => boolOp p .Or ((e' :: es).map fun e => eval (toE e) env)) _ _ s
    refine wpAny_bind (wp_next (Step.refl S.rel) (hs e (.head _) hd A fs env ρ μ s _ X ok.1 h S) fun rv v μ₁ s₁ st _ hv q => ?_)
    refine wpAny_bind (wpAny_standAt (wpAny_bind (wpAny_holding (truthy_sound hv q fun b hb => ?_))))
    cases b with
    | true => exact wpAny_pure ⟨v, μ₁, st, hv, hb.1 rfl⟩
    | false => exact wp_after st (sors (fun x hx => hs x (.tail _ hx)) ok.2 (hb.2 rfl) (S.step st))

theorem se_and {es : List E} {p : Pos} (hs : ∀ e ∈ es, SE c sg d e) : SE c sg d (.and es p) := by
  intro hd A fs env ρ μ s Q X ok h S
  simp only [okE_loc, okE_glob, okE_bin, okE_neg, okE_not, okE_and, okE_or, okE_cmp, okE_cmp2, okE_attr, okE_sub, okE_sliceL, okE_sliceU, okE_sliceLU, okE_tup, okE_list, okE_call, okE_new, okE_bltn, okE_isi, okE_meth, okE_comp] at ok
  show wpAny _ A (boolOp p .And (evalEach (toEs es) env)) _ _ s
  rw [evalEach_toEs]
  exact sands hs ok h S
theorem se_or {es : List E} {p : Pos} (hs : ∀ e ∈ es, SE c sg d e) : SE c sg d (.or es p) := by
  intro hd A fs env ρ μ s Q X ok h S
  simp only [okE_loc, okE_glob, okE_bin, okE_neg, okE_not, okE_and, okE_or, okE_cmp, okE_cmp2, okE_attr, okE_sub, okE_sliceL, okE_sliceU, okE_sliceLU, okE_tup, okE_list, okE_call, okE_new, okE_bltn, okE_isi, okE_meth, okE_comp] at ok
  show wpAny _ A (boolOp p .Or (evalEach (toEs es) env)) _ _ s
  rw [evalEach_toEs]
  exact sors hs ok h S
end
end Mine

set_option autoImplicit false
namespace Mine
set_option linter.unusedVariables false
set_option linter.unusedSimpArgs false
open PySem PySem.W PySem.Calls PyProof.Rows

theorem boot_len : bootBuiltins (Str.ofString "len") = some (.builtin "len") := by decide +kernel
theorem boot_min : bootBuiltins (Str.ofString "min") = some (.builtin "min") := by decide +kernel
theorem boot_max : bootBuiltins (Str.ofString "max") = some (.builtin "max") := by decide +kernel
theorem boot_sum : bootBuiltins (Str.ofString "sum") = some (.builtin "sum") := by decide +kernel
theorem boot_all : bootBuiltins (Str.ofString "all") = some (.builtin "all") := by decide +kernel
theorem boot_int : bootBuiltins (Str.ofString "int") = some (.type "int") := by decide +kernel
theorem boot_range : bootBuiltins (Str.ofString "range") = some (.type "range") := by decide +kernel
theorem boot_list : bootBuiltins (Str.ofString "list") = some (.type "list") := by decide +kernel
theorem boot_bool : bootBuiltins (Str.ofString "bool") = some (.type "bool") := by decide +kernel
theorem boot_str : bootBuiltins (Str.ofString "str") = some (.type "str") := by decide +kernel
theorem boot_tuple : bootBuiltins (Str.ofString "tuple") = some (.type "tuple") := by decide +kernel
theorem boot_isi : bootBuiltins (Str.ofString "isinstance") = some (.builtin "isinstance") := by decide +kernel
theorem boot_blt : ∀ f ∈ bltNames, bootBuiltins (Str.ofString f) = some (bltnV f) := by
  intro f hf
  simp only [bltNames, List.mem_cons, List.not_mem_nil, or_false] at hf
  rcases hf with rfl | rfl | rfl | rfl | rfl | rfl | rfl | rfl | rfl | rfl
  · exact boot_len
  · exact boot_int
  · exact boot_min
  · exact boot_max
  · exact boot_range
  · exact boot_list
  · exact boot_sum
  · exact boot_all
  · exact boot_str
  · exact boot_tuple
end Mine

set_option autoImplicit false
namespace Mine
set_option linter.unusedVariables false
set_option linter.unusedSimpArgs false
open PySem PySem.W PySem.Calls PyProof.Rows

section
variable {c : Ctx} {sg : Sig} {d : Nat}

theorem se_loc {x : String} {p : Pos} : SE c sg d (.loc x p) := by
  intro hd A fs env ρ μ s Q X ok h S
  simp only [okE_loc, okE_glob, okE_bin, okE_neg, okE_not, okE_and, okE_or, okE_cmp, okE_cmp2, okE_attr, okE_sub, okE_sliceL, okE_sliceU, okE_sliceLU, okE_tup, okE_list, okE_call, okE_new, okE_bltn, okE_isi, okE_meth, okE_comp, Bool.and_eq_true, bne_iff_ne, ne_eq] at ok
  replace h : optW (ρ x) μ Q := h
  unfold optW at h
  split at h
  · rename_i v hv
    exact loc_sound S hv ok.1.2 ok.2 h
  · exact h.elim
theorem se_glob {x : String} {p : Pos} (G : Good c sg) : SE c sg d (.glob x p) := by
  intro hd A fs env ρ μ s Q X ok h S
  simp only [okE_loc, okE_glob, okE_bin, okE_neg, okE_not, okE_and, okE_or, okE_cmp, okE_cmp2, okE_attr, okE_sub, okE_sliceL, okE_sliceU, okE_sliceLU, okE_tup, okE_list, okE_call, okE_new, okE_bltn, okE_isi, okE_meth, okE_comp, Bool.and_eq_true, bne_iff_ne, ne_eq, beq_iff_eq] at ok
  replace h : optW (sg.consts.lookup x) μ Q := h
  unfold optW at h
  split at h
  · rename_i v hv
    obtain ⟨rv, h1, h2⟩ := G.const x v hv
    exact name_glob G S.er S.rel ok.1.1 ok.2 h1 ⟨v, μ, Step.refl S.rel, h2 _, h⟩
  · exact h.elim

theorem se_call {f : String} {es : List E} {pf p : Pos} (G : Good c sg) (hs : ∀ e ∈ es, SE c sg d e) : SE c sg d (.call f es pf p) := by
  intro hd A fs env ρ μ s Q X ok h S
  simp only [okE_loc, okE_glob, okE_bin, okE_neg, okE_not, okE_and, okE_or, okE_cmp, okE_cmp2, okE_attr, okE_sub, okE_sliceL, okE_sliceU, okE_sliceLU, okE_tup, okE_list, okE_call, okE_new, okE_bltn, okE_isi, okE_meth, okE_comp, Bool.and_eq_true, bne_iff_ne, ne_eq, beq_iff_eq] at ok
  obtain ⟨fa, h1, h2, h3⟩ := G.fn f (List.contains_iff_mem.mp ok.1.1.2)
  refine wpAny_Call_NameR (name_glob G S.er S.rel ok.1.1.1 ok.2 h2 ?_)
  refine call_es G hs ok.1.2 h S (.inl h3) fun rvs vs μ₁ s₁ st hr q => ?_
  exact sc_call q h1 (S.step st).aok st.rel hr

theorem se_new {f : String} {es : List E} {pf p : Pos} (G : Good c sg) (hs : ∀ e ∈ es, SE c sg d e) : SE c sg d (.new f es pf p) := by
  intro hd A fs env ρ μ s Q X ok h S
  simp only [okE_loc, okE_glob, okE_bin, okE_neg, okE_not, okE_and, okE_or, okE_cmp, okE_cmp2, okE_attr, okE_sub, okE_sliceL, okE_sliceU, okE_sliceLU, okE_tup, okE_list, okE_call, okE_new, okE_bltn, okE_isi, okE_meth, okE_comp, Bool.and_eq_true, bne_iff_ne, ne_eq, beq_iff_eq] at ok
  obtain ⟨C, fI, h1, h2, h3, h4, h5, h6, h7⟩ := G.new f (List.contains_iff_mem.mp ok.1.1.2)
  refine wpAny_Call_NameR (name_glob G S.er S.rel ok.1.1.1 ok.2 h2 ?_)
  refine call_es G hs ok.1.2 h S (.inl h4) fun rvs vs μ₁ s₁ st hr q => ?_
  exact new_sound (G.X.keeps st.rel.base) h3 h6 h7 h1 h5 (S.step st) hr q

theorem bltn_ne {f : String} (h : f ∈ bltNames) : f ≠ "__debug__" ∧ f ≠ "__name__" := by
  simp only [bltNames, List.mem_cons, List.not_mem_nil, or_false] at h
  rcases h with rfl | rfl | rfl | rfl | rfl | rfl | rfl | rfl | rfl | rfl <;> decide

theorem se_bltn {f : String} {es : List E} {pf p : Pos} (G : Good c sg) (hs : ∀ e ∈ es, SE c sg d e) : SE c sg d (.bltn f es pf p) := by
  intro hd A fs env ρ μ s Q X ok h S
  simp only [okE_loc, okE_glob, okE_bin, okE_neg, okE_not, okE_and, okE_or, okE_cmp, okE_cmp2, okE_attr, okE_sub, okE_sliceL, okE_sliceU, okE_sliceLU, okE_tup, okE_list, okE_call, okE_new, okE_bltn, okE_isi, okE_meth, okE_comp, Bool.and_eq_true, bne_iff_ne, ne_eq, beq_iff_eq] at ok
  have hm := List.contains_iff_mem.mp ok.1.2
  refine wpAny_Call_NameR (name_blt G S.er S.rel ok.1.1 (bltn_ne hm).1 (bltn_ne hm).2 (G.blt f (List.mem_cons_of_mem _ (List.mem_append_left _ hm))) (boot_blt f hm) ?_)
  refine call_es G hs ok.2 h S ?_ fun rvs vs μ₁ s₁ st hr q => ?_
  · unfold bltnV
    split
    · exact .inr (.inl ⟨_, rfl⟩)
    · exact .inr (.inr ⟨_, rfl⟩)
  · exact bltn_sound st.rel hr q (S.step st).aok

theorem boot_ty : ∀ n ∈ tyNames, bootBuiltins (Str.ofString n) = some (.type n) ∧ n ≠ "__debug__" ∧ n ≠ "__name__" := by
  intro f hf
  simp only [tyNames, List.mem_cons, List.not_mem_nil, or_false] at hf
  rcases hf with rfl | rfl | rfl | rfl | rfl | rfl
  · exact ⟨boot_int, by decide, by decide⟩
  · exact ⟨boot_bool, by decide, by decide⟩
  · exact ⟨boot_str, by decide, by decide⟩
  · exact ⟨boot_tuple, by decide, by decide⟩
  · exact ⟨boot_list, by decide, by decide⟩
  · exact ⟨by decide +kernel, by decide, by decide⟩

theorem isi_out {cl : Cl} {v : V} {μ : Mem} {Q : V → Mem → Prop} (q : match isiO μ v cl with | some b => Q (.bool b) μ | none => False) : ∃ b, isiO μ v cl = some b ∧ Q (.bool b) μ := by
  split at q
  · rename_i b e; exact ⟨b, e, q⟩
  · exact q.elim
theorem own_exc {v : V} {μ : Mem} {n : String} {b : Bool} (h : isiO μ v (.own n) = some b) : ∃ x, v = .exc x ∧ isSub x n = b := by
  cases v with
  | exc x => exact ⟨x, rfl, Option.some.inj h⟩
  | _ => cases h
theorem owns_exc {v : V} {μ : Mem} {l : List (String × Pos)} {b : Bool} (h : isiO μ v (.owns l) = some b) : ∃ x, v = .exc x ∧ (l.any fun n => isSub x n.1) = b := by
  cases v with
  | exc x => exact ⟨x, rfl, Option.some.inj h⟩
  | _ => cases h
theorem ty_exc {v : V} {μ : Mem} {b : Bool} (h : isiO μ v (.ty "ValueError") = some b) : ∃ x, v = .exc x ∧ b = true := by
  cases v with
  | exc x => exact ⟨x, rfl, (Option.some.inj h).symm⟩
  | _ => simp [isiO] at h
section
variable {A : Around} {fs : List Env} {env : Env} {ρ : Loc} {μ : Mem} {s : Shared} {E : Value → Shared → Prop} {P : Value → Shared → Prop}
theorem isi_exc {ra cl : Value} {x : String} {b : Bool} (G : Good c sg) (r : Rel c μ s.heap) (ha : RV c s.heap ra (.exc x)) (hk : ∀ C, c.exc x = some C → kitOne c.K (.ref C) cl = some b) (h : ∀ tk, P (.bool b) { s with toks := tk }) :
    wpAny (model c.prog c.w) A (call (.builtin "isinstance") [ra, cl]) P E s := by
  cases ha with
  | exc h1 h2 h3 h4 => exact kia_one (kitx_exc (G.exk _ _ h4).1) (Kin G r) ⟨_, h1, h2⟩ (hk _ h4) nofun h
theorem isi_excs {ra : Value} {tp : Addr} {its : List Value} {x : String} {b : Bool} (G : Good c sg) (r : Rel c μ s.heap) (ha : RV c s.heap ra (.exc x)) (htp : s.heap.get? tp = some { cls := .type "tuple", data := .seq its.toArray }) (hk : ∀ C, c.exc x = some C → kitAny c.K (.ref C) its = some b)
    (h : ∀ tk, P (.bool b) { s with toks := tk }) : wpAny (model c.prog c.w) A (call (.builtin "isinstance") [ra, .ref tp]) P E s := by
  cases ha with
  | exc h1 h2 h3 h4 => exact kia_tup (kitx_exc (G.exk _ _ h4).1) (Kin G r) ⟨_, h1, h2⟩ htp (hk _ h4) nofun h
theorem okX_of {n : String} (G : Good c sg) (ok : okX sg env.scope.names n = true) : ∃ D, c.exc n = some D ∧ env.kindOf (Str.ofString n) = some .globalImplicit ∧ n ≠ "__debug__" := by
  simp only [okX, Bool.and_eq_true, bne_iff_ne, ne_eq, beq_iff_eq] at ok
  obtain ⟨D, hD⟩ := G.excs n (List.contains_iff_mem.mp ok.1.1)
  exact ⟨D, hD, ok.1.2, ok.2⟩
noncomputable def xV (c : Ctx) (n : String × Pos) : Value := .ref ((c.exc n.1).getD 0)
theorem names_sound (G : Good c sg) (er : ER c env ρ μ s.heap) (r : Rel c μ s.heap) {P : List Value → Shared → Prop} : ∀ {l : List (String × Pos)}, (∀ n ∈ l, okX sg env.scope.names n.1 = true) → P (l.map (xV c)) s → wpAny (model c.prog c.w) A (spliced (l.map fun n => (false, eval (.Name (Str.ofString n.1) n.2) env))) P E s := by
  intro l
  induction l generalizing P with
  | nil => intro _ h; exact spliced_nil h
  | cons n l ih =>
    intro ok h
    obtain ⟨D, hD, hk, hdb⟩ := okX_of G (ok n (.head _))
    refine spliced_cons (name_glob G er r hk hdb (G.exc _ _ hD).1 (ih (fun m hm => ok m (.tail _ hm)) ?_))
    have : xV c n = .ref D := by unfold xV; rw [hD]; rfl
    rw [List.map_cons, this] at h
    exact h
theorem kitAny_of {x : String} {C : Addr} (G : Good c sg) (hx : c.exc x = some C) : ∀ {l : List (String × Pos)}, (∀ n ∈ l, ∃ D, c.exc n.1 = some D) → kitAny c.K (.ref C) (l.map (xV c)) = some (l.any fun n => isSub x n.1)
  | [], _ => rfl
  | n :: l, h => by
    obtain ⟨D, hD⟩ := h n (.head _)
    have e1 : xV c n = .ref D := by unfold xV; rw [hD]; rfl
    have ih := kitAny_of G hx (l := l) fun m hm => h m (.tail _ hm)
    rw [List.map_cons, e1, List.any_cons]
    unfold kitAny
    rw [G.kit _ _ _ _ hx hD]
    cases isSub x n.1
    · exact ih
    · rfl
end

theorem se_isi {e : E} {cl : Cl} {pf pc p : Pos} (G : Good c sg) (he : SE c sg d e) : SE c sg d (.isi e cl pf pc p) := by
  intro hd A fs env ρ μ s Q X ok h S
  simp only [okE_loc, okE_glob, okE_bin, okE_neg, okE_not, okE_and, okE_or, okE_cmp, okE_cmp2, okE_attr, okE_sub, okE_sliceL, okE_sliceU, okE_sliceLU, okE_tup, okE_list, okE_call, okE_new, okE_bltn, okE_isi, okE_meth, okE_comp, Bool.and_eq_true, bne_iff_ne, ne_eq, beq_iff_eq] at ok
  obtain ⟨⟨ok1, ok2⟩, ok3⟩ := ok
  cases cl with
  | ty n =>
    simp only [Bool.and_eq_true, bne_iff_ne, ne_eq, beq_iff_eq] at ok3
    obtain ⟨m1, m3⟩ := ok3
    have hm := List.contains_iff_mem.mp m1
    obtain ⟨b1, b2, b3⟩ := boot_ty n hm
    refine wpAny_Call_NameR (name_blt G S.er S.rel ok1 (by decide) (by decide) (G.blt _ (.head _)) boot_isi ?_)
    have e1 : backTo p (starEach [toE e, Expr.Name (Str.ofString n) pc] env) = [(false, eval (toE e) env), (false, eval (.Name (Str.ofString n) pc) env)] := by cases e <;> rfl
    show wpAny _ A (callWith p (.builtin "isinstance") [] (backTo p (starEach [toE e, Expr.Name (Str.ofString n) pc] env)) []) _ _ s
    rw [e1]
    refine PySem.Calls.callWith_builtin rfl (evalArgs_plain (spliced_cons (wp_next (Step.refl S.rel) (he hd A fs env ρ μ s _ X ok2 h S) fun ra v μ₁ s₁ st _ ha q => ?_)))
    have S₁ := S.step st
    refine spliced_cons (name_blt G S₁.er S₁.rel m3 b2 b3 (G.blt n (List.mem_cons_of_mem _ (List.mem_append_right _ hm))) b1 (spliced_nil ?_))
    obtain ⟨b, hb, q⟩ := isi_out q
    by_cases m2 : n = "ValueError"
    · subst m2
      obtain ⟨x, rfl, rfl⟩ := ty_exc hb
      exact isi_exc G st.rel ha (fun C hC => (G.exk x C hC).2) fun tk => ⟨.bool true, μ₁, st.trans (Step.toks st.rel), .bool _, q⟩
    · refine isi_ty_sound st.rel ha (fun x hx => ?_) hb fun tk => ⟨.bool b, μ₁, st.trans (Step.toks st.rel), .bool _, q⟩
      subst hx
      simp only [isiO] at hb
      rw [if_neg m2] at hb
      cases hb
  | own n =>
    obtain ⟨D, hD, hk, hdb⟩ := okX_of G ok3
    refine wpAny_Call_NameR (name_blt G S.er S.rel ok1 (by decide) (by decide) (G.blt _ (.head _)) boot_isi ?_)
    have e1 : backTo p (starEach [toE e, Expr.Name (Str.ofString n) pc] env) = [(false, eval (toE e) env), (false, eval (.Name (Str.ofString n) pc) env)] := by cases e <;> rfl
    show wpAny _ A (callWith p (.builtin "isinstance") [] (backTo p (starEach [toE e, Expr.Name (Str.ofString n) pc] env)) []) _ _ s
    rw [e1]
    refine PySem.Calls.callWith_builtin rfl (evalArgs_plain (spliced_cons (wp_next (Step.refl S.rel) (he hd A fs env ρ μ s _ X ok2 h S) fun ra v μ₁ s₁ st _ ha q => ?_)))
    have S₁ := S.step st
    refine spliced_cons (name_glob G S₁.er S₁.rel hk hdb (G.exc _ _ hD).1 (spliced_nil ?_))
    obtain ⟨b, hb, q⟩ := isi_out q
    obtain ⟨x, rfl, rfl⟩ := own_exc hb
    exact isi_exc G st.rel ha (fun C hC => G.kit _ _ _ _ hC hD) fun tk => ⟨.bool _, μ₁, st.trans (Step.toks st.rel), .bool _, q⟩
  | owns l =>
    simp only [Bool.and_eq_true, decide_eq_true_eq, List.all_eq_true] at ok3
    refine wpAny_Call_NameR (name_blt G S.er S.rel ok1 (by decide) (by decide) (G.blt _ (.head _)) boot_isi ?_)
    have e1 : backTo p (starEach [toE e, Expr.Tuple (l.map fun n => .Name (Str.ofString n.1) n.2) 0 pc] env) = [(false, eval (toE e) env), (false, eval (.Tuple (l.map fun n => .Name (Str.ofString n.1) n.2) 0 pc) env)] := by cases e <;> rfl
    show wpAny _ A (callWith p (.builtin "isinstance") [] (backTo p (starEach [toE e, Expr.Tuple (l.map fun n => .Name (Str.ofString n.1) n.2) 0 pc] env)) []) _ _ s
    rw [e1]
    refine PySem.Calls.callWith_builtin rfl (evalArgs_plain (spliced_cons (wp_next (Step.refl S.rel) (he hd A fs env ρ μ s _ X ok2 h S) fun ra v μ₁ s₁ st _ ha q => ?_)))
    have S₁ := S.step st
    have e2 : backTo pc (starEach (l.map fun n => Expr.Name (Str.ofString n.1) n.2) env) = l.map fun n => (false, eval (.Name (Str.ofString n.1) n.2) env) := by
      have e3 : ∀ l : List (String × Pos), toEs (l.map fun n => E.glob n.1 n.2) = l.map fun n => Expr.Name (Str.ofString n.1) n.2 := fun l => by
        induction l with
        | nil => rfl
        | cons n l ih => rw [List.map_cons, List.map_cons, toEs, ih]; rfl
      rw [← e3, backTo_toEs, List.map_map]; rfl
    refine spliced_cons (Tuple_ ?_)
    rw [e2]
    refine names_sound G S₁.er S₁.rel ok3.1 ?_
    have k : ∀ b o, s₁.heap.get? b = some o → (s₁.heap.push { cls := .type "tuple", data := .seq (l.map (xV c)).toArray }).get? b = some o := fun b o e => Heap.get?_push_of_some _ e
    have st' : Step c fs μ₁ μ₁ s₁ { s₁ with heap := s₁.heap.push { cls := .type "tuple", data := .seq (l.map (xV c)).toArray } } := Step.grows (n := s₁.toks) st.rel k
    refine wpAny_newTuple (spliced_nil ?_) (by rw [List.length_map, sizeLine_eq]; omega)
    obtain ⟨b, hb, q⟩ := isi_out q
    obtain ⟨x, rfl, rfl⟩ := owns_exc hb
    exact isi_excs G st'.rel (ha.step st.rel st') (Heap.get?_push_size _ rfl) (fun C hC => kitAny_of G hC fun n hn => (okX_of G (ok3.1 n hn)).imp fun D h => h.1) fun tk => ⟨.bool _, μ₁, (st.trans st').trans (Step.toks st'.rel), .bool _, q⟩

theorem base_toE (o : E) (m : Str) (env : Env) (w : Sem Value) (h : (match o with | .call _ es _ _ | .new _ es _ _ | .bltn _ es _ _ => !es.isEmpty | _ => true) = true) : attributeBase (toE o) m env w = w := by
  cases o <;> first | rfl | (rename_i es _ _; cases es with | nil => cases h | cons _ _ => rfl)

theorem meth_eval {M : Model} {A : Around} {Ex : Value → Shared → Prop} {s : Shared} {env : Env} {o : E} {es : List E} {m : Str} {pa p : Pos} {P : Value → Shared → Prop} (hb : attributeBase (toE o) m env (eval (toE o) env) = eval (toE o) env) (hl : (pa.endLine == p.line) = true) (hn : es.length < 20)
    (h : wpAny M A (eval (toE o) env) (fun ov s₁ => wpAny M A (getMethod ov m (do return (← importBound (toE o) env).getD true)) (fun fx s₂ => wpAny M A (callWith p fx.1 fx.2 (backTo p (starEach (toEs es) env)) []) P Ex s₂) Ex s₁) Ex s) :
    wpAny M A (eval (.Call (.Attribute (toE o) m pa) (toEs es) [] p) env) P Ex s := by
  rw [arm_eval_Call, hb]
  refine wpAny_bind (wpAny_mono h (fun ov s₁ h₁ => wpAny_bind (wpAny_standAt ?_)) fun _ _ x => x)
  have hform : methodCallForm ((toEs es).length + ([] : List Keyword).length) (backTo p (starEach (toEs es) env)) (backToKw p (keywordEach [] env)) = true := by
    rw [backTo_toEs, toEs_length]
    unfold methodCallForm
    simp [backToKw, keywordEach]
    omega
  have hpos : methodCallPos true (toE o) env pa p = pure p := by unfold methodCallPos; simp [hl]
  unfold methodCall
  rw [hform]
  refine wpAny_bind (wpAny_holding ?_)
  show wpAny M A (getMethod ov m _) _ _ _
  exact wpAny_mono h₁ (fun fx s₂ h₂ => wpAny_bind (wpAny_of_eq hpos h₂)) fun _ _ x => x

theorem str_attr (m : String) (hm : m = "split" ∨ m = "rfind" ∨ m = "join") : Slot "str" (Str.ofString m) ("str." ++ m) ∧ typeOf (.builtin ("str." ++ m)) = pure (.type "method_descriptor") := by
  rcases hm with rfl | rfl | rfl
  · exact ⟨F.slot_str_split, F.type_str_split⟩
  · exact ⟨F.slot_str_rfind, F.type_str_rfind⟩
  · exact ⟨F.slot_str_join, F.type_str_join⟩
theorem list_attr (m : String) (hm : m = "append" ∨ m = "extend" ∨ m = "pop" ∨ m = "reverse" ∨ m = "clear" ∨ m = "count") : Slot "list" (Str.ofString m) ("list." ++ m) ∧ typeOf (.builtin ("list." ++ m)) = pure (.type "method_descriptor") := by
  rcases hm with rfl | rfl | rfl | rfl | rfl | rfl
  · exact ⟨F.slot_list_append, F.type_list_append⟩
  · exact ⟨F.slot_list_extend, F.type_list_extend⟩
  · exact ⟨F.slot_list_pop, F.type_list_pop⟩
  · exact ⟨F.slot_list_reverse, F.type_list_reverse⟩
  · exact ⟨F.slot_list_clear, F.type_list_clear⟩
  · exact ⟨F.slot_list_count, F.type_list_count⟩

theorem se_meth {o : E} {m : String} {es : List E} {pa p : Pos} (G : Good c sg) (ho : SE c sg d o) (hs : ∀ e ∈ es, SE c sg d e) : SE c sg d (.meth o m es pa p) := by
  intro hd A fs env ρ μ s Q X ok h S
  simp only [okE_loc, okE_glob, okE_bin, okE_neg, okE_not, okE_and, okE_or, okE_cmp, okE_cmp2, okE_attr, okE_sub, okE_sliceL, okE_sliceU, okE_sliceLU, okE_tup, okE_list, okE_call, okE_new, okE_bltn, okE_isi, okE_meth, okE_comp, Bool.and_eq_true, decide_eq_true_eq] at ok
  obtain ⟨⟨⟨⟨ok1, ok2⟩, ok3⟩, ok4⟩, ok5⟩ := ok
  refine meth_eval (base_toE o _ env _ ok5) ok3 ok4 (wp_next (Step.refl S.rel) (ho hd A fs env ρ μ s _ X ok1 h S) fun ra v μ₁ s₁ st _ ha q => ?_)
  have S₁ := S.step st
  split at q
  · rename_i f a hc
    unfold calO at hc
    split at hc
    · rename_i x
      split at hc
      · rename_i cl dd hx
        split at hc
        · rename_i fl hdd
          split at hc
          · rename_i hl
            cases hc
            cases ha
            rw [Bool.and_eq_true] at hl
            obtain ⟨C, h1, h2⟩ := st.rel.insts hx
            obtain ⟨ess, n, h3, h4⟩ := st.rel.attr hdd
            have I : InstAt s₁.heap a (instObj C dd) C (some (dictOf ess n)) := ⟨h2, rfl, rfl, h3⟩
            have K' := G.X.keeps st.rel.base
            have hmiss := h4.missL (Option.isNone_iff_eq_none.mp hl.1)
            obtain ⟨fa, hfa, g1, g2, g3⟩ := G.meth cl C m h1 (List.contains_iff_mem.mp hl.2)
            refine method_fn K' I (G.cls _ _ h1).ga (G.cls _ _ h1).gat g1 g2 (by show (lookIn (Str.ofString m) (dictOf ess n)).map _ = _; rw [lookIn_dict, hmiss]; rfl) ?_
            refine wp_after st (call_es G hs ok2 q S₁ (.inl g3) fun rvs vs μ₂ s₂ st₂ hr q₂ => ?_)
            exact sc_call q₂ hfa (S₁.step st₂).aok st₂.rel (.cons (.ref _) hr)
          · cases hc
        · cases hc
      · split at hc <;> cases hc
      · cases hc
    · split at hc <;> cases hc
    · cases hc
  · rename_i m' a hc
    unfold calO at hc
    split at hc
    · rename_i x
      split at hc
      · split at hc
        · split at hc <;> cases hc
        · cases hc
      · rename_i l hx
        split at hc
        · rename_i hm
          cases hc
          cases ha
          obtain ⟨vs, n, h1, h2, h3⟩ := st.rel.lst hx
          obtain ⟨g1, g2⟩ := list_attr m hm
          refine getMethod_builtin (T := "list") (id := "list." ++ m) ⟨_, h1, rfl⟩ F.plainAttrs_list g1 g2 (fun b hb => by cases hb; exact ⟨_, h1, rfl⟩) ?_
          refine wp_after st (call_es G hs ok2 q S₁ (.inr (.inl ⟨_, rfl⟩)) fun rvs vs μ₂ s₂ st₂ hr q₂ => ?_)
          exact lst_sound st₂.rel hr q₂ (S₁.step st₂).aok
        · cases hc
      · cases hc
    · split at hc <;> cases hc
    · cases hc
  · rename_i m' x hc
    unfold calO at hc
    split at hc
    · split at hc
      · split at hc
        · split at hc <;> cases hc
        · cases hc
      · split at hc <;> cases hc
      · cases hc
    · rename_i y
      split at hc
      · rename_i hm
        cases hc
        obtain ⟨t, rfl⟩ := ha.str_of
        obtain ⟨g1, g2⟩ := str_attr m hm
        with_reducible refine GM.of (.str x t) (typeIs_str s₁ x t) g1 g2 (fun a e => nomatch e) ?_
        refine wp_after st (call_es G hs ok2 q S₁ (.inr (.inl ⟨_, rfl⟩)) fun rvs vs μ₂ s₂ st₂ hr q₂ => ?_)
        exact strM_sound st₂.rel hr q₂
      · cases hc
    · cases hc
  · exact q.elim
end
end Mine

set_option autoImplicit false
namespace Mine
set_option linter.unusedVariables false
set_option linter.unusedSimpArgs false
open PySem PySem.W PySem.Calls PyProof.Rows

theorem ER.sub {c : Ctx} {env : Env} {ρ ρ' : Loc} {μ : Mem} {h : Heap} (x : ER c env ρ μ h) (k : ∀ y v, ρ' y = some v → ρ y = some v) : ER c env ρ' μ h := by
  obtain ⟨m, hns, hm⟩ := x.names
  exact ⟨x.kind, x.glob, x.blt, x.priv, x.new, x.cells, x.inj, x.has, m, hns, fun y v e => hm y v (k y v e)⟩

theorem lookup_mem {α β : Type} [BEq α] [LawfulBEq α] {x : α} {v : β} : ∀ {l : List (α × β)}, l.lookup x = some v → (x, v) ∈ l
  | [], h => by cases h
  | (y, w) :: r, h => by
    simp only [List.lookup_cons] at h
    split at h
    · rename_i e; cases h; rw [beq_iff_eq.mp e]; exact .head _
    · exact .tail _ (lookup_mem h)
theorem lookup_relN (ns : List (Str × NameKind)) (x : Str) : ∀ names : List (Str × NameKind), (relN ns names).lookup x = (names.lookup x).map fun k => if (k == .free && ns.lookup x == some .cell) then .cell else k
  | [] => rfl
  | (n, k) :: r => by
    have ih := lookup_relN ns x r
    show List.lookup x ((if (k == NameKind.free && ns.lookup n == some .cell) = true then (n, NameKind.cell) else (n, k)) :: relN ns r) = _
    by_cases hc : (k == NameKind.free && ns.lookup n == some .cell) = true
    · rw [if_pos hc, List.lookup_cons, List.lookup_cons]
      cases hx : x == n with
      | true =>
        have e : x = n := beq_iff_eq.mp hx
        subst e
        simp only [Option.map_some]
        rw [if_pos hc]
      | false => exact ih
    · rw [if_neg hc, List.lookup_cons, List.lookup_cons]
      cases hx : x == n with
      | true =>
        have e : x = n := beq_iff_eq.mp hx
        subst e
        simp only [Option.map_some]
        rw [if_neg hc]
      | false => exact ih

theorem clos_go {env : Env} (names : List (Str × NameKind)) (hn : ∀ y ∈ names, y.2 = .free → (env.cells.lookup y.1).isSome = true) :
    ∀ cs : List (Str × Addr), (∀ x ca, cs.lookup x = some ca → env.cells.lookup x = some ca) → ∃ cl, (forIn (m := Sem) names cs fun (x : Str × NameKind) r => if (x.2 == NameKind.free) = true then do let a ← cellOf env x.1; pure (ForInStep.yield ((x.1, a) :: r)) else pure (ForInStep.yield r)) = pure cl ∧
      (∀ x ca, cl.lookup x = some ca → env.cells.lookup x = some ca) ∧ (∀ x, (∃ ca, cs.lookup x = some ca) ∨ (x, NameKind.free) ∈ names → (cl.lookup x).isSome = true) := by
  induction names with
  | nil =>
    intro cs hcs
    exact ⟨cs, rfl, hcs, fun x hx => by rcases hx with ⟨ca, h⟩ | h; rw [h]; rfl; cases h⟩
  | cons y r ih =>
    intro cs hcs
    obtain ⟨name, kind⟩ := y
    by_cases q : (kind == NameKind.free) = true
    · have hk : kind = .free := beq_iff_eq.mp q
      obtain ⟨a, ha⟩ := Option.isSome_iff_exists.mp (hn (name, kind) (.head _) hk)
      obtain ⟨cl, e, h1, h2⟩ := ih (fun y hy => hn y (.tail _ hy)) ((name, a) :: cs) (fun x ca hx => by
        rw [List.lookup_cons] at hx
        split at hx
        · rename_i z; cases hx; rw [beq_iff_eq.mp z]; exact ha
        · exact hcs x ca hx)
      refine ⟨cl, ?_, h1, fun x hx => h2 x ?_⟩
      · rw [List.forIn_cons]
        simp only [q, if_true, cellOf, ha]
        exact e
      · rcases hx with ⟨ca, hx⟩ | hx
        · left
          rw [List.lookup_cons]
          split
          · exact ⟨a, rfl⟩
          · exact ⟨ca, hx⟩
        · cases hx with
          | head => exact .inl ⟨a, by rw [List.lookup_cons]; simp⟩
          | tail _ hx => exact .inr hx
    · obtain ⟨cl, e, h1, h2⟩ := ih (fun y hy => hn y (.tail _ hy)) cs hcs
      refine ⟨cl, ?_, h1, fun x hx => h2 x ?_⟩
      · rw [List.forIn_cons]
        simp only [q]
        exact e
      · rcases hx with hx | hx
        · exact .inl hx
        · cases hx with
          | head => exact absurd rfl q
          | tail _ hx => exact .inr hx
theorem clos {env : Env} {scope : Scope} (hn : ∀ y ∈ scope.names, y.2 = .free → (env.cells.lookup y.1).isSome = true) :
    ∃ cl, closureFor scope env = pure cl ∧ (∀ x ca, cl.lookup x = some ca → env.cells.lookup x = some ca) ∧ (∀ x, (x, NameKind.free) ∈ scope.names → (cl.lookup x).isSome = true) := by
  obtain ⟨cl, e, h1, h2⟩ := clos_go scope.names hn [] (fun x ca h => by cases h)
  refine ⟨cl, ?_, h1, fun x hx => h2 x (.inr hx)⟩
  simp only [closureFor]
  rw [e]
  rfl

section
variable {c : Ctx} {sg : Sig} {d : Nat}

theorem lst_app {n : Addr} {acc : List V} {v : V} {μ : Mem} {Q : V → Mem → Prop} (ha : μ n = some (.list acc)) (hl : acc.length < lim) (q : Q .none (updM μ n (.list (acc ++ [v])))) : lstW "append" n [v] μ Q := by
  unfold lstW asL
  simp only [ha]
  exact ⟨hl, q⟩

theorem st_cmp {op : CmpOp} {l r : E} {p : Pos} (hl : SE c sg d l) (hr : SE c sg d r) : ST c sg d (.cmp op l r p) := by
  intro hd A fs env ρ μ s Q₀ Q X hq ok hw S
  simp only [okE_loc, okE_glob, okE_bin, okE_neg, okE_not, okE_and, okE_or, okE_cmp, okE_cmp2, okE_attr, okE_sub, okE_sliceL, okE_sliceU, okE_sliceLU, okE_tup, okE_list, okE_call, okE_new, okE_bltn, okE_isi, okE_meth, okE_comp, Bool.and_eq_true] at ok
  refine wpAny_isTrue_Compare1 (wp_next (Step.refl S.rel) (hl hd A fs env ρ μ s _ X ok.1 hw S) fun ra a μ₁ s₁ st _ ha q => ?_) (behind_toE op r)
  refine wp_next st (hr hd A fs env ρ μ₁ s₁ _ X ok.2 q (S.step st)) fun rb b μ₂ s₂ st₂ st' hb q₂ => ?_
  refine wpAny_mono (cmp_sound (E := XPost c fs μ s X) st₂.rel (ha.step st.rel st₂) hb q₂ ((S.step st).step st₂).aok) (fun rv s₃ ⟨v, μ₃, st₃, hv, q₃⟩ => ?_) fun _ _ x => x
  exact truthy_sound hv (hq v μ₃ q₃) fun b hb => ⟨μ₃, st'.trans st₃, hb⟩

/-- the tests of a comprehension: none, or one -/
theorem tests_sound {ifs : List E} (hl : ifs.length ≤ 1) (hs : ∀ e ∈ ifs, ST c sg d e) {hd : Bool} {A : Around} {fs : List Env} {env : Env} {ρ : Loc} {μ : Mem} {s : Shared} {k : Bool → Mem → Prop} {P : Bool → Shared → Prop} {Ex : Value → Shared → Prop}
    (ok : okEs sg env.scope.names ifs = true) (h : wpIf sg (SC c d) hd ifs ρ μ k) (S : St c d hd A fs env ρ μ s) (fin : ∀ b μ' s', Step c fs μ μ' s s' → k b μ' → P b s') :
    wpAny (model c.prog c.w) A (forIn (toEs ifs) true fun c r => if r = true then do let ok ← isTrue c env (eval c env); pure (ForInStep.yield ok) else pure (ForInStep.yield r)) P Ex s := by
  match ifs, hl, hs, ok, h with
  | [], _, _, _, h => exact wpAny_tests_nil (fin true μ s (Step.refl S.rel) h)
  | [e], _, hs, ok, h =>
    simp only [okEs, Bool.and_eq_true] at ok
    exact wpAny_tests_one (wpAny_mono (hs e (.head _) hd A fs env ρ μ s _ k _ (fun v μ₁ q => q) ok.1 h S) (fun b s' ⟨μ', st, q⟩ => fin b μ' s' st q) fun _ _ y => y.no)
  | _ :: _ :: _, hl, _, _, _ => exact absurd hl (by simp)

theorem comp_loop {elt : E} {x : String} {ifs : List E} {it : Expr} {sc : Scope} {px p : Pos} {hd : Bool} {A : Around} {fs : List Env} {cenv : Env} {ρ : Loc} {μ μ₀ : Mem} {s s₀ : Shared} {ia n : Addr} {rv : Value} {v : V} {items : List V} {It : Nat → Heap → Prop} {Q : Mem → Prop} {X : String → Mem → Prop} {R : Result → Shared → Prop}
    (he : SE c sg d elt) (I : Iter c A ia rv v items It) (okx : cenv.kindOf (Str.ofString x) = some .local) (oke : okE sg cenv.scope.names elt = true) (okt : okEs sg cenv.scope.names ifs = true) (hl : ifs.length ≤ 1) (hs : ∀ e ∈ ifs, ST c sg d e)
    (hbase : c.base.get? ia = none) (hn : s₀.heap.get? ia = none) (hx : ∀ y w, ρ y = some w → y ≠ x)
    (st : StepS c fs (bare cenv) μ₀ μ s₀ s) (S : St c d hd A fs cenv ρ μ s) (hv : RV c s.heap rv v) (hit : It 0 s.heap)
    (h : compI n (fun μ' => itemsOf μ' v = some items) (fun w μ₂ k => wpIf sg (SC c d) hd ifs (updL ρ x w) μ₂ fun b μ₃ => br b (wpE sg (SC c d) hd elt (updL ρ x w) μ₃ (fun r μ' => k (some r) μ') X) (k none μ₃)) items μ Q)
    (err : ∀ re s' e x ρ₃ μ₃ μ' s₃, re = .ref e → StepS c fs (bare cenv) μ₀ μ₃ s₀ s₃ → St c d hd A fs cenv ρ₃ μ₃ s₃ → Fly c fs μ₃ μ' s₃ s' e x → X x μ' → R (.error re) s')
    (fin : ∀ μ' s', StepS c fs (bare cenv) μ₀ μ' s₀ s' → St c d hd A fs cenv ρ μ' s' → Q μ' → R (.ok .next) s') :
    codeAny (model c.prog c.w) A (.compLoop (.ListComp (toE elt) [⟨.Name (Str.ofString x) px, it, toEs ifs, 0⟩] sc p) 0 (.ref ia) (.ref n) cenv) R s := by
  obtain ⟨J, j0, jst, jturn, jfin⟩ := h
  have back : ∀ {w : V} {μ : Mem} {h : Heap}, ER c cenv (updL ρ x w) μ h → ER c cenv ρ μ h := fun e => e.sub fun y u hy => by unfold updL; rw [if_neg (hx y u hy)]; exact hy
  refine codeAny_compLoop_tests (fun m s => ∃ k μ, m = items.length - k ∧ k ≤ items.length ∧ StepS c fs (bare cenv) μ₀ μ s₀ s ∧ St c d hd A fs cenv ρ μ s ∧ RV c s.heap rv v ∧ It k s.heap ∧ J k μ) (fun m s hs' => ?_) items.length ⟨0, μ, rfl, Nat.zero_le _, st, S, hv, hit, j0⟩
  obtain ⟨k, μ, hk, hkl, st, S, hv, hit, h⟩ := hs'
  have ei := jst _ _ h
  cases hk' : items[k]? with
  | none =>
    have : k = items.length := Nat.le_antisymm hkl (List.getElem?_eq_none_iff.mp hk')
    refine I.fin k s μ _ _ hk' ei S.rel hv hit fun h' x => ?_
    subst this
    exact fin μ _ (st.it (n := s.toks) x hn) (S.ext (n := s.toks) x hbase (I.obj _ _ hit)) (jfin _ h)
  | some w =>
    have hlt : k < items.length := (List.getElem?_eq_some_iff.mp hk').1
    refine I.item k w s μ _ _ hk' ei S.rel hv hit fun rw_ h' n' x' hit' hw => ?_
    have ho := I.obj k _ hit
    have S₁ := S.ext (n := n') x' hbase ho
    have st₁ := st.it (n := n') x' hn
    have hv₁ := hv.monoV (monoV_ext x' ho)
    refine wpAny_assign_Name (store_local S₁ okx (hw.monoV (monoV_ext x' ho)) fun s₂ st₂ S₂ => ?_)
    refine tests_sound hl hs okt (jturn k w μ hk' h) S₂ fun b μ₃ s₃ st₃ q => ?_
    have S₃ := S₂.step st₃
    have st₁₃ := st₂.trans st₃.toS
    cases b with
    | false =>
      rw [if_neg Bool.false_ne_true]
      exact ⟨items.length - (k + 1), by omega, k + 1, μ₃, rfl, hlt, st₁.trans st₁₃, ⟨S₃.rel, back S₃.er, S₃.aok, S₃.room, S₃.units, S₃.top⟩, st₁₃.wide.rv S₁ hv₁, I.keep _ _ _ hit' (st₁₃.wide.fields S₁ (I.obj _ _ hit')), q.2 rfl⟩
    | true =>
      rw [if_pos rfl]
      refine wpAny_mono (he hd A fs cenv _ μ₃ s₃ _ X oke (q.1 rfl) S₃) (fun rv' s₄ hp => ?_) fun re s₄ y => by
        obtain ⟨e', x', μ', rfl, f, qx⟩ := y
        exact f.noted S₃ fun s'' f' => err _ s'' e' x' _ μ₃ μ' s₃ rfl (st₁.trans st₁₃) S₃ f' qx
      obtain ⟨v', μ₄, st₄, hv', acc, ha, hl, q⟩ := hp
      have S₄ := S₃.step st₄
      refine wpAny_mono (lst_sound (m := "append") (Q := fun _ μ' => J (k + 1) μ') st₄.rel (.cons hv' .nil) (lst_app ha hl q) S₄.aok) (fun _ s₅ hp => ?_) fun _ _ y => y
      obtain ⟨_, μ₅, st₅, _, q₅⟩ := hp
      have S₅ := S₄.step st₅
      have st₁₅ := st₁₃.trans (st₄.toS.trans st₅.toS)
      exact ⟨items.length - (k + 1), by omega, k + 1, μ₅, rfl, hlt, st₁.trans st₁₅, ⟨S₅.rel, back S₅.er, S₅.aok, S₅.room, S₅.units, S₅.top⟩, st₁₅.wide.rv S₁ hv₁, I.keep _ _ _ hit' (st₁₅.wide.fields S₁ (I.obj _ _ hit')), q₅⟩

noncomputable def okC (sg : Sig) (ns : List (Str × NameKind)) (elt : E) (x : String) (cs : List String) (it : E) (ifs : List E) (sc : Scope) (px p : Pos) : Prop := okE sg ns (.comp elt x cs it ifs sc px p) = true

theorem comp_core {elt it : E} {x : String} {cs : List String} {sc : Scope} {ifs : List E} {px p pos : Pos} (hi : SE c sg d it) (he : SE c sg d elt) (hs : ∀ e ∈ ifs, ST c sg d e)
    {hd : Bool} {A : Around} {fs : List Env} {env : Env} {ρ : Loc} {μ : Mem} {s : Shared} {Q : V → Mem → Prop} {X : String → Mem → Prop} {use : Option (Value → Sem Unit)} {Q' : Value → Shared → Prop} {Ex : Value → Shared → Prop}
    (ok : okC sg env.scope.names elt x cs it ifs sc px p) (h : wpE sg (SC c d) hd (.comp elt x cs it ifs sc px p) ρ μ Q X) (S : St c d hd A fs env ρ μ s) (hE : ∀ e s', XPost c fs μ s X e s' → Ex e s')
    (fin : ∀ C n μ' s' m, (∀ b o, s.heap.get? b = some o → μ b = none → b ≠ C) → c.base.get? C = none → μ' C = none → Step c fs μ μ' s s' → s'.heap.Ns C m → Q (.ref n) μ' → compPost (model c.prog c.w) A Ex use Q' (.ref n) C (.ok .next) s') :
    wpAny (model c.prog c.w) A (comprehension (.ListComp (toE elt) [⟨.Name (Str.ofString x) px, toE it, toEs ifs, 0⟩] sc p) sc env pos (newList []) false (eval (toE it) env) use) Q' Ex s := by
  unfold okC at ok
  simp only [okE_loc, okE_glob, okE_bin, okE_neg, okE_not, okE_and, okE_or, okE_cmp, okE_cmp2, okE_attr, okE_sub, okE_sliceL, okE_sliceU, okE_sliceLU, okE_tup, okE_list, okE_call, okE_new, okE_bltn, okE_isi, okE_meth, okE_comp, Bool.and_eq_true, beq_iff_eq, List.all_eq_true, decide_eq_true_eq, Bool.or_eq_true] at ok
  obtain ⟨⟨⟨⟨⟨⟨⟨ok1, ok2⟩, ok3⟩, ok4'⟩, ok5⟩, ok6⟩, ok7⟩, ok8⟩ := ok
  obtain ⟨h0, h⟩ := h
  have kf : ∀ n, env.kindOf n = env.scope.names.lookup n := fun _ => rfl
  have hfree : ∀ y ∈ sc.names, y.2 = .free → (env.cells.lookup y.1).isSome = true := fun y hy q => by
    rcases ok6 y hy with (⟨z, _⟩ | ⟨_, z⟩) | z
    · rw [q] at z; cases z
    · exact S.er.has y.1 z
    · rw [q] at z; cases z
  obtain ⟨cl, hcl, cl1, cl2⟩ := clos hfree
  have ncell : ∀ y ∈ sc.names, y.2 ≠ .cell := fun y hy q => by
    rcases ok6 y hy with (⟨z, _⟩ | ⟨z, _⟩) | z <;> (rw [q] at z; cases z)
  have hnames : ∀ y ∈ sc.names, y.2 = .local → sc.names.lookup y.1 = some .local := fun y hy q => by
    rcases ok6 y hy with (⟨_, z⟩ | ⟨z, _⟩) | z
    · exact z
    · rw [q] at z; cases z
    · rw [q] at z; cases z
  have hrel : (relabel sc env).names = relN env.scope.names sc.names := by
    unfold relabel relN
    simp only [S.er.kind, kf, beq_self_eq_true, Bool.and_true]
  refine wpAny_comprehension_free rfl (fun x => by cases it <;> rfl) hcl ok5 hnames (wpAny_mono (hi hd A fs env ρ μ s _ X ok1 h S) (fun rv s₁ hp => ?_) fun e s' y => hE e s' y)
  obtain ⟨v, μ₁, st, hv, q⟩ := hp
  split at q
  rotate_left
  · exact q.elim
  rename_i items hitems
  refine iter_sound (fs := fs) (S.aok.handled h0) st.rel hv hitems fun ia s₂ It I hit0 hn stI => ?_
  have bI : c.base.get? ia = none := by
    cases z : c.base.get? ia with
    | none => rfl
    | some o => have := st.rel.base _ o z; rw [hn] at this; cases this
  obtain ⟨oI, vsI, hoI, _, _⟩ := I.obj 0 _ hit0
  refine wpAny_newObj_type (hd := by size_fits) (wpAny_newFunctionEnv ncell (by intro y hy; cases hy) (fun h₁ hns₁ hsb₁ => ?_) ok5)
  dsimp only at hns₁ hsb₁ ⊢
  generalize hH2 : s₂.heap.push { cls := .type "list", dict := none, data := .seq ([] : List Value).toArray } = H2 at hns₁ hsb₁ ⊢
  have k2 : ∀ b o, s₂.heap.get? b = some o → H2.get? b = some o := fun b o e => hH2 ▸ Heap.get?_push_of_some _ e
  have hn1 : s₂.heap.get? s₂.heap.objs.size = none := Heap.get?_none_of_le (Nat.le_refl _)
  have st₃ : Step c fs μ₁ (updM μ₁ s₂.heap.objs.size (.list [])) s₂ { s₂ with heap := H2 } := Step.alloc (n := s₂.toks) stI.rel k2 hn1 (hH2 ▸ Heap.get?_push_size _ rfl) (.list .nil (Nat.zero_le _))
  have hn2 : H2.get? H2.objs.size = none := Heap.get?_none_of_le (Nat.le_refl _)
  have ltC : ∀ {b o}, H2.get? b = some o → b ≠ H2.objs.size := fun e => Nat.ne_of_lt (Heap.lt_size e)
  have k3 : ∀ b o, H2.get? b = some o → h₁.get? b = some o := fun b o e => hsb₁.extBut b o (ltC e) (Heap.get?_push_of_some _ e)
  have st₄ : Step c fs (updM μ₁ s₂.heap.objs.size (.list [])) (updM μ₁ s₂.heap.objs.size (.list [])) { s₂ with heap := H2 } { s₂ with heap := h₁, toks := s₂.toks + ([] : List (Str × Value)).length } := Step.grows st₃.rel k3
  have st₁₄ := stI.trans (st₃.trans st₄)
  have S₄ := (S.step st).step st₁₄
  have pC : updM μ₁ s₂.heap.objs.size (.list []) H2.objs.size = none := st₃.rel.free hn2
  have bC : c.base.get? H2.objs.size = none := by
    cases z : c.base.get? H2.objs.size with
    | none => rfl
    | some o => have := st₃.rel.base _ o z; rw [hn2] at this; cases this
  have kx : ∀ n, (compEnvC sc cl H2.objs.size env).kindOf n = (relN env.scope.names sc.names).lookup n := fun n => by
    show (relabel sc env).names.lookup n = _
    rw [hrel]
  obtain ⟨mE, hnsE, hmE⟩ := S₄.er.names
  have er : ER c (compEnvC sc cl H2.objs.size env) (capL cs ρ) (updM μ₁ s₂.heap.objs.size (.list [])) h₁ := by
    refine ⟨?_, S.er.glob, S.er.blt, pC, bC, fun y ca e => S₄.er.cells y ca (cl1 y ca e), fun y z ca e e' => S.er.inj y z ca (cl1 y ca e) (cl1 z ca e'), fun y hy => ?_, _, hns₁, fun y w e => ?_⟩
    · show (relabel sc env).kind = _
      exact ok5
    · rw [kx, lookup_relN] at hy
      obtain ⟨k, hk, hk'⟩ := Option.map_eq_some_iff.mp hy
      have hm := lookup_mem hk
      split at hk'
      · rename_i z
        rw [Bool.and_eq_true, beq_iff_eq, beq_iff_eq] at z
        rw [z.1] at hm
        exact cl2 _ hm
      · exact absurd hk' (ncell _ hm)
    · unfold capL at e
      split at e
      · rename_i hc
        have hy := ok8 y (List.contains_iff_mem.mp hc)
        have hm := lookup_mem hy
        have hcell : env.scope.names.lookup (Str.ofString y) = some .cell := by
          rcases ok6 _ hm with (⟨z, _⟩ | ⟨_, z⟩) | z
          · cases z
          · exact z
          · cases z
        rcases hmE y w e with ⟨z, _⟩ | ⟨_, ca, rw_, z1, z2, z3⟩
        · have : some NameKind.cell = some .local := hcell.symm.trans z
          cases this
        · obtain ⟨ca', hca'⟩ := Option.isSome_iff_exists.mp (cl2 _ hm)
          have : ca' = ca := Option.some.inj ((cl1 _ _ hca').symm.trans z1)
          subst this
          refine .inr ⟨.inl ?_, ca', rw_, hca', z2, z3⟩
          rw [kx, lookup_relN, hy]
          simp [hcell]
      · cases e
  have hit : It 0 h₁ := I.keep _ _ _ hit0 (by rw [k3 _ _ (k2 _ _ hoI), hoI])
  have fn : s₂.heap.get? s₂.heap.objs.size = none := hn1
  have okx : (compEnvC sc cl H2.objs.size env).kindOf (Str.ofString x) = some .local := by
    rw [kx, lookup_relN, ok7]; rfl
  have hxc : ∀ y w, capL cs ρ y = some w → y ≠ x := fun y w e z => by
    unfold capL at e
    split at e
    · rename_i hc
      have hy := ok8 y (List.contains_iff_mem.mp hc)
      rw [z, ok7] at hy; cases hy
    · cases e
  have sC : ∀ b o, s.heap.get? b = some o → μ b = none → b ≠ H2.objs.size := fun b o e hm z => by
    obtain ⟨_, sl, e', _⟩ := (st.trans (stI.trans st₃)).kept _ o e hm
    have e' : H2.get? b = _ := e'
    rw [z, hn2] at e'; cases e'
  have loop := comp_loop (px := px) (p := p) (it := toE it) (sc := sc) (n := s₂.heap.objs.size) (Q := Q (.ref s₂.heap.objs.size)) (R := compPost (model c.prog c.w) A Ex use Q' (.ref s₂.heap.objs.size) H2.objs.size)
    he I (cenv := compEnvC sc cl H2.objs.size env) okx (by show okE sg (relabel sc env).names elt = true; rw [hrel]; exact ok2) (by show okEs sg (relabel sc env).names ifs = true; rw [hrel]; exact ok3) ok4' hs bI hn hxc st₁₄.toS ⟨S₄.rel, er, S₄.aok, S₄.room, S₄.units, S₄.top⟩ (hv.step st.rel st₁₄) hit (q _ (stI.rel.free fn)) (fun re s' e x ρ₃ μ₃ μ' s₃ hre stS S' f hx => ?_) fun μ' s' stS S' hq => ?_
  · exact codeAny_compStart_list loop (I.self 0 _ _ _ hit loop)
  · subst hre
    have stp : Step c fs μ μ₃ s s₃ := st.trans ⟨stS.gens, stS.drawn, stS.os, S'.rel, fun b o e hm => by
      have hb : b ≠ H2.objs.size := ltC (k2 _ _ ((stI.kept b o e hm).2.choose_spec.1))
      exact stS.kept b o e hm (by rintro (z | ⟨y, z⟩); exact hb z; cases z)⟩
    obtain ⟨m', hns', _⟩ := S'.er.names
    have nsC : s'.heap.Ns H2.objs.size m' := Ns.sees f.kept.sees hns' S'.er.priv
    have nf : H2.objs.size ∉ frs fs := fun hL => by
      obtain ⟨o, es, n, ho, _⟩ := S.aok.dicts _ hL
      exact sC _ o ho (S.aok.priv _ hL) rfl
    obtain ⟨oC, esC, nC, hoC, hdC⟩ := Ns.dict hns'
    obtain ⟨B, Cx, a0, hC, hf, hr, hB⟩ := f.there
    have hr' : Rel c μ' (hideAll B [H2.objs.size]) := hr.hide (by simpa using bC) (fun a ha => by rw [List.mem_singleton.mp ha]; exact (f.kept _ _ hoC S'.er.priv).1) (fun a ha => by rw [List.mem_singleton.mp ha]; exact ⟨oC, esC, nC, hB _ _ hoC S'.er.priv nf, hdC⟩)
    have hB' : ∀ b o, s.heap.get? b = some o → μ b = none → b ∉ frs fs → (hideAll B [H2.objs.size]).get? b = some o := fun b o eb hm hb => hideAll_get _ (hB b o (stp.kept.exact eb hm hb) (stp.kept b o eb hm).1 hb) fun z => sC b o eb hm (List.mem_singleton.mp z)
    have key : ∃ m, s'.heap.Ns H2.objs.size m ∧ ∀ h', Heap.SameBut H2.objs.size s'.heap h' → ∀ cenv' : Env, cenv'.locals = H2.objs.size → wpAny (model c.prog c.w) A (passOn "comprehension.variables-let-go" (.ref e) cenv' : Sem Value) (fun _ _ => False) Ex { s' with heap := h' } := by
      refine ⟨m', nsC, fun h' sb cenv' _ => fly_pass (s := { s' with heap := h' }) (hf.hide (Ns.dict nsC) nf sb) fun h'' hf'' up => hE _ _ ⟨e, x, μ', rfl, ⟨f.gens.trans stp.gens, f.drawn.trans stp.drawn, f.os.trans stp.os, ⟨_, Cx, a0, hC, hf'', hr', hB'⟩, fun b o eb hm => ?_⟩, hx⟩⟩
      obtain ⟨m₁, sl₁, e₁, q₁⟩ := stp.kept b o eb hm
      obtain ⟨m₂, sl₂, e₂, q₂⟩ := f.kept b _ e₁ m₁
      refine ⟨m₂, ?_⟩
      by_cases hb : b ∈ frs fs
      · obtain ⟨o', es, n, ho', hd'⟩ := S.aok.dicts b hb
        rw [eb] at ho'; cases ho'
        obtain ⟨sl₃, e₃⟩ := up b _ ((sb.2 b (sC b o eb hm)).trans e₂) (fun vs q => by rw [show o.data = _ from hd'] at q; cases q)
        exact ⟨sl₃, e₃, fun z => z.elim (fun z => (z hb).elim) fun ⟨vs, z⟩ => by rw [hd'] at z; cases z⟩
      · obtain ⟨fl, stay, _⟩ := hf''
        exact ⟨o.slots, stay _ _ (hB' b o eb hm hb), fun _ => rfl⟩
    cases use <;> exact key
  · obtain ⟨m', hns', _⟩ := S'.er.names
    refine fin H2.objs.size _ μ' s' m' sC bC S'.er.priv (st.trans ⟨stS.gens, stS.drawn, stS.os, S'.rel, fun b o e hm => ?_⟩) hns' hq
    have hb : b ≠ H2.objs.size := ltC (k2 _ _ ((stI.kept b o e hm).2.choose_spec.1))
    exact stS.kept b o e hm (by rintro (z | ⟨y, z⟩); exact hb z; cases z)

theorem St.but {C : Addr} {h' : Heap} {hd : Bool} {A : Around} {fs : List Env} {env : Env} {ρ : Loc} {μ : Mem} {s : Shared} (S : St c d hd A fs env ρ μ s) (hm : μ C = none) (hb : c.base.get? C = none) (nk : ∀ o, s.heap.get? C = some o → ¬ RK o) (nl : env.locals ≠ C) (nc : ∀ x, env.cells.lookup x ≠ some C) (nf : C ∉ frs fs) (sb : Heap.SameBut C s.heap h') :
    St c d hd A fs env ρ μ { s with heap := h' } := by
  obtain ⟨r', mono⟩ := Rel.private S.rel hm hb nk sb
  obtain ⟨m, hns, hmm⟩ := S.er.names
  have fr : ∀ l : List Env, (∀ L ∈ frs l, L ∈ frs fs) → s.heap.FunFrames c.base l → h'.FunFrames c.base l := by
    intro l
    induction l with
    | nil => intro _ _; trivial
    | cons e l ih =>
      rintro hin ⟨hk, ⟨L, o, hf, hn, ho, hd⟩, hr⟩
      refine ⟨hk, ⟨L, o, hf, hn, (sb.2 L fun q => nf ?_).trans ho, hd⟩, ih (fun L hL => hin L ?_) hr⟩
      · rw [← q]; exact hin L (by simp [frs, hf])
      · unfold frs at hL ⊢
        rw [List.filterMap_cons]
        split
        · exact hL
        · exact .tail _ hL
  refine ⟨r', ⟨S.er.kind, S.er.glob, S.er.blt, S.er.priv, S.er.new, fun y ca e => ?_, S.er.inj, S.er.has, m, hns.sameBut sb nl, fun y w e => ?_⟩, ⟨S.aok.frames, S.aok.room, S.aok.units, S.aok.handled, fr fs (fun _ h => h) S.aok.fun_, S.aok.priv, fun L hL => ?_, S.aok.caught.of fun b o vs e hd k hm => ⟨hm, (sb.2 b fun q => nk o (q ▸ e) k).trans e⟩⟩, S.room, S.units, S.top⟩
  · obtain ⟨⟨w, o, ho, hd⟩, h1, h2⟩ := S.er.cells y ca e
    exact ⟨⟨w, o, (sb.2 ca fun q => nc y (q ▸ e)).trans ho, hd⟩, h1, h2⟩
  · rcases hmm y w e with ⟨h1, rw_, h2, h3⟩ | ⟨h1, ca, rw_, h2, ⟨o, ho, hd⟩, h4⟩
    · exact .inl ⟨h1, rw_, h2, mono h3⟩
    · exact .inr ⟨h1, ca, rw_, h2, ⟨o, (sb.2 ca fun q => nc y (q ▸ h2)).trans ho, hd⟩, mono h4⟩
  · obtain ⟨o, es, n, ho, hd⟩ := S.aok.dicts L hL
    exact ⟨o, es, n, (sb.2 L fun q => nf (q ▸ hL)).trans ho, hd⟩

theorem se_comp {elt it : E} {x : String} {cs : List String} {sc : Scope} {ifs : List E} {px p : Pos} (hi : SE c sg d it) (he : SE c sg d elt) (hs : ∀ e ∈ ifs, ST c sg d e) : SE c sg d (.comp elt x cs it ifs sc px p) := by
  intro hd A fs env ρ μ s Q X ok h S
  show wpAny _ A (eval (.ListComp (toE elt) [⟨.Name (Str.ofString x) px, toE it, toEs ifs, 0⟩] sc p) env) _ _ s
  rw [eval_ListComp]
  refine comp_core (use := none) hi he hs ok h S (fun _ _ y => y) fun C n μ' s' m sC bC pC st hns q => ?_
  refine ⟨m, hns, fun h' sb => ⟨.ref _, μ', ⟨st.gens, st.drawn, st.os, (Rel.private st.rel pC bC (fun o e => ?_) sb).1, fun b o e hm => ?_⟩, .ref _, q⟩⟩
  · obtain ⟨oL, esL, nL, hoL, hdL⟩ := Ns.dict hns
    rw [hoL] at e; cases e
    rintro (⟨_, vs, n, q⟩ | ⟨_, vs, q⟩) <;> (rw [hdL] at q; cases q)
  · obtain ⟨m₂, sl, e', q'⟩ := st.kept b o e hm
    exact ⟨m₂, sl, (sb.2 b (sC b o e hm)).trans e', q'⟩

theorem big_of {c : Ctx} {sg : Sig} (G : Good c sg) {μ : Mem} {h : Heap} (r : Rel c μ h) : 1 < h.objs.size := by
  have e := G.blt "isinstance" (.head _)
  unfold nsIn at e
  cases q : c.K.lookup mainGlobals with
  | none => rw [q] at e; cases e
  | some o => exact Nat.lt_trans (by decide) (Heap.lt_size (r.base _ _ (G.X _ _ q)))
theorem pairs_eval {env : Env} {A : Around} {pos : Pos} {Ex : Value → Shared → Prop} : ∀ (kvs : List ((String × Pos) × (Int × Pos))) {s : Shared} {P : List (Value × Value) → Shared → Prop},
    (∀ vs tk, allStrKeys vs = true → SdAre (strPairs vs) (kvs.map fun q => (q.1.1, q.2.1)) → (strPairs vs).map (·.1) = kvs.map (fun q => Str.ofString q.1.1) → P vs { s with toks := tk }) →
    wpAny (model c.prog c.w) A (evalPairs (pairTrees (kvs.map fun q => some (.Constant (.str (Str.ofString q.1.1)) 0 q.1.2)) (kvs.map fun q => .Constant (.int q.2.1) 0 q.2.2) env pos)) P Ex s
  | [], s, P, h => pairTrees_nil_walk (h [] s.toks rfl .nil rfl)
  | q :: r, s, P, h => pairTrees_cons_walk (wpAny_Constant_str (fun _ _ _ => pairs_eval r fun vs tk h1 h2 h3 => h _ tk h1 (.cons h2) (by show _ :: _ = _ :: _; rw [h3])))

theorem se_dlit {kvs : List ((String × Pos) × (Int × Pos))} {p : Pos} (G : Good c sg) : SE c sg d (.dlit kvs p) := by
  intro hd A fs env ρ μ s Q X ok h S
  simp only [okE_dlit, Bool.and_eq_true, decide_eq_true_eq] at ok
  obtain ⟨⟨ok1, ok2⟩, ok3⟩ := ok
  have n0 : s.heap.get? s.heap.objs.size = none := Heap.get?_none_of_le (Nat.le_refl _)
  have k0 : ∀ b o, s.heap.get? b = some o → (s.heap.push { cls := .type "dict", data := .dict #[] }).get? b = some o := fun b o e => Heap.get?_push_of_some _ e
  show wpAny _ A (eval (.Dict (kvs.map fun q => some (.Constant (.str (Str.ofString q.1.1)) 0 q.1.2)) (kvs.map fun q => .Constant (.int q.2.1) 0 q.2.2) p) env) _ _ s
  refine wpAny_Dict_walk (knd := strKind c.prog c.w) (by simp) (by simp) (by simpa using ok1) (by simpa using ok2) (pairs_eval kvs fun vs tk h1 h2 h3 => ?_)
  have hnd : ((strPairs vs).map (·.1)).Nodup := by
    rw [h3]
    have : (kvs.map (·.1.1)).map Str.ofString = kvs.map (fun q => Str.ofString q.1.1) := by rw [List.map_map]; rfl
    rw [← this]
    exact List.pairwise_map.mpr (List.Pairwise.imp (fun h q => h (ofString_inj q)) ok3)
  refine display_done_str h1 hnd ⟨_, _, _, Heap.get?_push_size _ rfl, ⟨rfl, rfl, rfl⟩, rfl, (fun e he => by simp at he), .nil, List.nodup_nil⟩ fun h' hD sb => ?_
  obtain ⟨o, es, ep, ho, hx⟩ := hD
  refine ⟨.ref _, _, Step.alloc S.rel (fun b o e => (sb.2 b (Nat.ne_of_lt (Heap.lt_size e))).trans (k0 b o e)) n0 ho (.sd hx.1 hx.2.1 hx.2.2.1 hx.2.2.2.1 hx.2.2.2.2 h2), .ref _, ?_⟩
  exact h _ (S.rel.free n0) (Nat.ne_of_gt (big_of G S.rel))
end
end Mine

set_option autoImplicit false
namespace Mine
set_option linter.unusedVariables false
set_option linter.unusedSimpArgs false
open PySem PySem.W PySem.Calls PyProof.Rows

section
variable {c : Ctx} {sg : Sig} {d : Nat}

theorem tr_of {b : Bool} {k : Bool → Prop} (h : tr (.bool b) k) : k b := h

theorem stands {hd : Bool} {A : Around} {fs : List Env} {env : Env} {ρ : Loc} {X : String → Mem → Prop} {Q₀ : V → Mem → Prop} {Q : Bool → Mem → Prop} (hq : ∀ v μ₁, Q₀ v μ₁ → tr v fun b => Q b μ₁) : ∀ {es : List E} {μ : Mem} {s : Shared}, (∀ e ∈ es, ST c sg d e) → okEs sg env.scope.names es = true → wpAnd sg (SC c d) hd es ρ μ Q₀ X → St c d hd A fs env ρ μ s →
    wpAny (model c.prog c.w) A (allTrue .And (toEs es) env) (PostB c fs μ s Q) (XPost c fs μ s X) s
  | [], _, _, _, _, h, _ => h.elim
  | [e], μ, s, hs, ok, h, S => by
    simp only [okEs, Bool.and_eq_true] at ok
    refine wpAny_allTrue_And_cons (wp_nextB (Step.refl S.rel) (hs e (.head _) hd A fs env ρ μ s Q₀ Q X hq ok.1 h S) fun b μ₁ s₁ st _ q => ?_)
    cases b with
    | true => exact wpAny_allTrue_And_nil ⟨μ₁, st, q⟩
    | false => exact ⟨μ₁, st, q⟩
  | e :: e' :: es, μ, s, hs, ok, h, S => by
    rw [okEs, Bool.and_eq_true] at ok
    refine wpAny_allTrue_And_cons (wp_nextB (Q₁ := fun b μ₁ => br b (wpAnd sg (SC c d) hd (e' :: es) ρ μ₁ Q₀ X) (Q false μ₁)) (Step.refl S.rel) (hs e (.head _) hd A fs env ρ μ s _ _ X (fun v μ₁ h₁ => ?_) ok.1 h S) fun b μ₁ s₁ st _ q => ?_)
    · obtain ⟨b, rfl, hb⟩ := tr_bool h₁
      exact ⟨hb.1, fun hf => by subst hf; exact tr_of (hq _ _ (hb.2 rfl))⟩
    · cases b with
      | true => exact wpAny_mono (stands hq (fun x hx => hs x (.tail _ hx)) ok.2 (q.1 rfl) (S.step st)) (fun _ _ p => p.after st) fun _ _ x => x.after st
      | false => exact ⟨μ₁, st, q.2 rfl⟩
theorem stors {hd : Bool} {A : Around} {fs : List Env} {env : Env} {ρ : Loc} {X : String → Mem → Prop} {Q₀ : V → Mem → Prop} {Q : Bool → Mem → Prop} (hq : ∀ v μ₁, Q₀ v μ₁ → tr v fun b => Q b μ₁) : ∀ {es : List E} {μ : Mem} {s : Shared}, (∀ e ∈ es, ST c sg d e) → okEs sg env.scope.names es = true → wpOr sg (SC c d) hd es ρ μ Q₀ X → St c d hd A fs env ρ μ s →
    wpAny (model c.prog c.w) A (allTrue .Or (toEs es) env) (PostB c fs μ s Q) (XPost c fs μ s X) s
  | [], _, _, _, _, h, _ => h.elim
  | [e], μ, s, hs, ok, h, S => by
    simp only [okEs, Bool.and_eq_true] at ok
    refine wpAny_allTrue_Or_cons (wp_nextB (Step.refl S.rel) (hs e (.head _) hd A fs env ρ μ s Q₀ Q X hq ok.1 h S) fun b μ₁ s₁ st _ q => ?_)
    cases b with
    | true => exact ⟨μ₁, st, q⟩
    | false => exact wpAny_allTrue_Or_nil ⟨μ₁, st, q⟩
  | e :: e' :: es, μ, s, hs, ok, h, S => by
    rw [okEs, Bool.and_eq_true] at ok
    refine wpAny_allTrue_Or_cons (wp_nextB (Q₁ := fun b μ₁ => br b (Q true μ₁) (wpOr sg (SC c d) hd (e' :: es) ρ μ₁ Q₀ X)) (Step.refl S.rel) (hs e (.head _) hd A fs env ρ μ s _ _ X (fun v μ₁ h₁ => ?_) ok.1 h S) fun b μ₁ s₁ st _ q => ?_)
    · obtain ⟨b, rfl, hb⟩ := tr_bool h₁
      exact ⟨fun hf => by subst hf; exact tr_of (hq _ _ (hb.1 rfl)), hb.2⟩
    · cases b with
      | true => exact ⟨μ₁, st, q.1 rfl⟩
      | false => exact wpAny_mono (stors hq (fun x hx => hs x (.tail _ hx)) ok.2 (q.2 rfl) (S.step st)) (fun _ _ p => p.after st) fun _ _ x => x.after st

theorem st_plain {e : E} (se : SE c sg d e) (he : ∀ env : Env, isTrue (toE e) env (eval (toE e) env) = (do let v ← eval (toE e) env; standAt (toE e).pos; holding [v] (truthy v))) : ST c sg d e := by
  intro hd A fs env ρ μ s Q₀ Q X hq ok h S
  refine isTrue_plain (wp_next (Step.refl S.rel) (se hd A fs env ρ μ s Q₀ X ok h S) fun rv v μ₁ s₁ st _ hv q => ?_) (he env)
  exact truthy_sound hv (hq v μ₁ q) fun b hb => ⟨μ₁, st, hb⟩

theorem sound_lt (G : Good c sg) : ∀ (n : Nat) (e : E), sizeOf e < n → SE c sg d e ∧ ST c sg d e := by
  intro n
  induction n with
  | zero => intro e h; exact absurd h (Nat.not_lt_zero _)
  | succ n ih =>
    intro e h
    have ih' : ∀ e, sizeOf e < n → SE c sg d e := fun e h => (ih e h).1
    have sub : ∀ es : List E, sizeOf es < n → ∀ e ∈ es, SE c sg d e := fun es hl e he => ih' e (Nat.lt_trans (List.sizeOf_lt_of_mem he) hl)
    have subT : ∀ es : List E, sizeOf es < n → ∀ e ∈ es, ST c sg d e := fun es hl e he => (ih e (Nat.lt_trans (List.sizeOf_lt_of_mem he) hl)).2
    have se : SE c sg d e := by
      cases e with
      | none p => intro hd A fs env ρ μ s Q X ok h S; exact wpAny_Constant_none ⟨_, μ, Step.refl S.rel, .none, h⟩
      | bool b p => intro hd A fs env ρ μ s Q X ok h S; exact wpAny_Constant_bool ⟨_, μ, Step.refl S.rel, .bool b, h⟩
      | int i p => intro hd A fs env ρ μ s Q X ok h S; exact fun _ _ _ => ⟨_, μ, Step.toks S.rel, .int i _, h⟩
      | str x p => intro hd A fs env ρ μ s Q X ok h S; exact wpAny_Constant_str ⟨_, μ, Step.toks S.rel, .str _ _, h⟩
      | loc x p => exact se_loc
      | glob x p => exact se_glob G
      | bin op l r p => simp only [E.bin.sizeOf_spec] at h; exact se_bin (ih' l (by omega)) (ih' r (by omega))
      | neg e p => simp only [E.neg.sizeOf_spec] at h; exact se_neg (ih' e (by omega))
      | not e p => simp only [E.not.sizeOf_spec] at h; exact se_not (ih' e (by omega))
      | and es p => simp only [E.and.sizeOf_spec] at h; exact se_and (sub es (by omega))
      | or es p => simp only [E.or.sizeOf_spec] at h; exact se_or (sub es (by omega))
      | cmp op l r p => simp only [E.cmp.sizeOf_spec] at h; exact se_cmp (ih' l (by omega)) (ih' r (by omega))
      | cmp2 o1 o2 a b e p => simp only [E.cmp2.sizeOf_spec] at h; exact se_cmp2 (ih' a (by omega)) (ih' b (by omega)) (ih' e (by omega))
      | attr o a p => simp only [E.attr.sizeOf_spec] at h; exact se_attr G (ih' o (by omega))
      | sub o i p => simp only [E.sub.sizeOf_spec] at h; exact se_sub (ih' o (by omega)) (ih' i (by omega))
      | sliceL o l ps p => simp only [E.sliceL.sizeOf_spec] at h; exact se_sliceL (ih' o (by omega)) (ih' l (by omega))
      | sliceU o l ps p => simp only [E.sliceU.sizeOf_spec] at h; exact se_sliceU (ih' o (by omega)) (ih' l (by omega))
      | sliceLU o l u ps p => simp only [E.sliceLU.sizeOf_spec] at h; exact se_sliceLU (ih' o (by omega)) (ih' l (by omega)) (ih' u (by omega))
      | tup es k p => simp only [E.tup.sizeOf_spec] at h; exact se_tup (sub es (by omega))
      | list es p => simp only [E.list.sizeOf_spec] at h; exact se_list (sub es (by omega))
      | call f es pf p => simp only [E.call.sizeOf_spec] at h; exact se_call G (sub es (by omega))
      | new f es pf p => simp only [E.new.sizeOf_spec] at h; exact se_new G (sub es (by omega))
      | bltn f es pf p => simp only [E.bltn.sizeOf_spec] at h; exact se_bltn G (sub es (by omega))
      | isi e cl pf pc p => simp only [E.isi.sizeOf_spec] at h; exact se_isi G (ih' e (by omega))
      | meth o m es pa p => simp only [E.meth.sizeOf_spec] at h; exact se_meth G (ih' o (by omega)) (sub es (by omega))
      | dlit kvs p => exact se_dlit G
      | comp elt x cs it ifs sc px p =>
        simp only [E.comp.sizeOf_spec] at h
        exact se_comp (ih' it (by omega)) (ih' elt (by omega)) fun e he => (ih e (Nat.lt_of_lt_of_le (List.sizeOf_lt_of_mem he) (by omega))).2
    refine ⟨se, ?_⟩
    cases e with
    | not e p =>
      simp only [E.not.sizeOf_spec] at h
      intro hd A fs env ρ μ s Q₀ Q X hq ok hw S
      simp only [okE_loc, okE_glob, okE_bin, okE_neg, okE_not, okE_and, okE_or, okE_cmp, okE_cmp2, okE_attr, okE_sub, okE_sliceL, okE_sliceU, okE_sliceLU, okE_tup, okE_list, okE_call, okE_new, okE_bltn, okE_isi, okE_meth, okE_comp] at ok
      refine isTrue_not (wpAny_mono ((ih e (by omega)).2 hd A fs env ρ μ s _ (fun b μ₁ => Q (!b) μ₁) X (fun v μ₁ h₁ => ?_) ok hw S) (fun b s₁ p => p) fun _ _ x => x)
      obtain ⟨b, rfl, hb⟩ := tr_bool h₁
      exact tr_of (hq _ _ hb)
    | and es p =>
      simp only [E.and.sizeOf_spec] at h
      intro hd A fs env ρ μ s Q₀ Q X hq ok hw S
      simp only [okE_loc, okE_glob, okE_bin, okE_neg, okE_not, okE_and, okE_or, okE_cmp, okE_cmp2, okE_attr, okE_sub, okE_sliceL, okE_sliceU, okE_sliceLU, okE_tup, okE_list, okE_call, okE_new, okE_bltn, okE_isi, okE_meth, okE_comp] at ok
      exact wpAny_isTrue_BoolOp (stands hq (subT es (by omega)) ok hw S)
    | or es p =>
      simp only [E.or.sizeOf_spec] at h
      intro hd A fs env ρ μ s Q₀ Q X hq ok hw S
      simp only [okE_loc, okE_glob, okE_bin, okE_neg, okE_not, okE_and, okE_or, okE_cmp, okE_cmp2, okE_attr, okE_sub, okE_sliceL, okE_sliceU, okE_sliceLU, okE_tup, okE_list, okE_call, okE_new, okE_bltn, okE_isi, okE_meth, okE_comp] at ok
      exact wpAny_isTrue_BoolOp (stors hq (subT es (by omega)) ok hw S)
    | cmp op l r p => simp only [E.cmp.sizeOf_spec] at h; exact st_cmp (ih' l (by omega)) (ih' r (by omega))
    | cmp2 op₁ op₂ a b e p =>
      simp only [E.cmp2.sizeOf_spec] at h
      have ha := ih' a (by omega)
      have hb' := ih' b (by omega)
      have he := ih' e (by omega)
      intro hd A fs env ρ μ s Q₀ Q X hq ok hw S
      simp only [okE_loc, okE_glob, okE_bin, okE_neg, okE_not, okE_and, okE_or, okE_cmp, okE_cmp2, okE_attr, okE_sub, okE_sliceL, okE_sliceU, okE_sliceLU, okE_tup, okE_list, okE_call, okE_new, okE_bltn, okE_isi, okE_meth, okE_comp, Bool.and_eq_true] at ok
      refine isTrue_chain (wp_next (Step.refl S.rel) (ha hd A fs env ρ μ s _ X ok.1.1 hw S) fun ra va μ₁ s₁ st _ hva q => ?_) (by show lastMarks [op₁, op₂] [toE b, toE e] = false; exact behind_toE op₂ e)
      refine test_link (wp_next st (hb' hd A fs env ρ μ₁ s₁ _ X ok.1.2 q (S.step st)) fun rb vb μ₂ s₂ st₂ st' hvb q₂ => ?_)
      have S₂ := (S.step st).step st₂
      refine wpAny_mono (cmp_sound (E := XPost c fs μ s X) st₂.rel (hva.step st.rel st₂) hvb q₂ S₂.aok) (fun rt s₃ ⟨t, μ₃, st₃, ht, q₃⟩ => ?_) fun _ _ x => x
      obtain ⟨bt, rfl, hbt⟩ := tr_bool q₃
      cases ht
      refine wpAny_truthy_bool ?_
      cases bt with
      | true =>
        refine test_last (wp_next (st'.trans st₃) (he hd A fs env ρ μ₃ s₃ _ X ok.2 (hbt.1 rfl) (S₂.step st₃)) fun rc vc μ₄ s₄ st₄ st'' hvc q₄ => ?_)
        refine wpAny_mono (cmp_sound (E := XPost c fs μ s X) st₄.rel ((hvb.step st₂.rel st₃).step st₃.rel st₄) hvc q₄ ((S₂.step st₃).step st₄).aok) (fun rv s₅ ⟨v, μ₅, st₅, hv, q₅⟩ => ?_) fun _ _ x => x
        exact truthy_sound hv (hq v μ₅ q₅) fun b hb => ⟨μ₅, st''.trans st₅, hb⟩
      | false => exact ⟨μ₃, st'.trans st₃, tr_of (hq _ _ (hbt.2 rfl))⟩
    | _ => exact st_plain se fun env => rfl
theorem soundE (G : Good c sg) (e : E) : SE c sg d e := (sound_lt G (sizeOf e + 1) e (Nat.lt_succ_self _)).1
theorem soundT (G : Good c sg) (e : E) : ST c sg d e := (sound_lt G (sizeOf e + 1) e (Nat.lt_succ_self _)).2
end
end Mine

set_option autoImplicit false
namespace Mine
set_option linter.unusedVariables false
set_option linter.unusedSimpArgs false
open PySem PySem.W PySem.Calls PyProof.Rows

noncomputable def isSto : Option NameKind → Bool
  | some .local | some .cell => true
  | _ => false

noncomputable def okMore (sg : Sig) (ns : List (Str × NameKind)) : List (String × Pos × E × Pos × Pos) → Bool
  | [] => true
  | (c, _, e, _, _) :: r => sg.excs.contains c && ns.lookup (Str.ofString c) == some .globalImplicit && c != "__debug__" && okE sg ns e && okMore sg ns r

noncomputable def noComp : E → Bool
  | .comp _ _ _ _ _ _ _ _ => false
  | _ => true
noncomputable def okV (sg : Sig) (ns : List (Str × NameKind)) (e : E) : Bool := okE sg ns e && noComp e
/-- what may be bound to a name: a comprehension, bound to a local name, on its own line -/
noncomputable def okA (sg : Sig) (ns : List (Str × NameKind)) (x : String) (e : E) (px : Pos) : Bool := match e with
  | .comp a b cs i f sc q pc => okE sg ns (.comp a b cs i f sc q pc) && (ns.lookup (Str.ofString x) == some .local && px.line == pc.line && !(sc.names.any fun (n, k) => n == Str.ofString x && (k == .local || k == .cell)))
  | e => okV sg ns e && isSto (ns.lookup (Str.ofString x))
mutual
noncomputable def okS (sg : Sig) (nr : Bool) (ns : List (Str × NameKind)) : S → Bool
  | .expr e _ => okV sg ns e
  | .assign x e px _ => okA sg ns x e px
  | .setattr o a e _ _ => okE sg ns o && okV sg ns e && sg.attrs.contains a
  | .setitem o i e _ _ => okE sg ns o && okE sg ns i && okV sg ns e
  | .unpack xs e _ _ _ => okE sg ns e && (match e with | .loc _ _ => true | _ => false) && (xs.all fun x => isSto (ns.lookup (Str.ofString x.1)))
  | .ite c t f _ => okE sg ns c && okSs sg nr ns t && okSs sg nr ns f
  | .for_ x it body _ _ => okE sg ns it && isSto (ns.lookup (Str.ofString x)) && okSs sg nr ns body
  | .while_ c body _ => okE sg ns c && okSs sg nr ns body
  | .ret e _ => okE sg ns e
  | .raise c m _ _ _ _ => !nr && sg.excs.contains c && ns.lookup (Str.ofString c) == some .globalImplicit && c != "__debug__"
  | .try_ body c as h more _ _ _ => okSs sg true ns body && !h.isEmpty && okSs sg nr ns h && sg.excs.contains c && ns.lookup (Str.ofString c) == some .globalImplicit && c != "__debug__" &&
      (match as with | some n => ns.lookup (Str.ofString n) == some .local | none => true) && okMore sg ns more
  | .pass _ => true
noncomputable def okSs (sg : Sig) (nr : Bool) (ns : List (Str × NameKind)) : List S → Bool
  | [] => true
  | s :: r => okS sg nr ns s && okSs sg nr ns r
end

section
variable {sg : Sig} {nr : Bool} {ns : List (Str × NameKind)}
theorem okS_expr {e : E} {p : Pos} : okS sg nr ns (.expr e p) = okV sg ns e := rfl
theorem okS_assign {x : String} {e : E} {px p : Pos} : okS sg nr ns (.assign x e px p) = okA sg ns x e px := rfl
theorem okS_setattr {o e : E} {a : String} {q p : Pos} : okS sg nr ns (.setattr o a e q p) = (okE sg ns o && okV sg ns e && sg.attrs.contains a) := rfl
theorem okS_setitem {o i e : E} {q p : Pos} : okS sg nr ns (.setitem o i e q p) = (okE sg ns o && okE sg ns i && okV sg ns e) := rfl
theorem okS_unpack {xs : List (String × Pos)} {e : E} {k : Nat} {q p : Pos} : okS sg nr ns (.unpack xs e k q p) = (okE sg ns e && (match e with | .loc _ _ => true | _ => false) && (xs.all fun x => isSto (ns.lookup (Str.ofString x.1)))) := rfl
theorem okS_ite {e : E} {t f : List S} {p : Pos} : okS sg nr ns (.ite e t f p) = (okE sg ns e && okSs sg nr ns t && okSs sg nr ns f) := rfl
theorem okS_for {x : String} {it : E} {body : List S} {q p : Pos} : okS sg nr ns (.for_ x it body q p) = (okE sg ns it && isSto (ns.lookup (Str.ofString x)) && okSs sg nr ns body) := rfl
theorem okS_while {e : E} {body : List S} {p : Pos} : okS sg nr ns (.while_ e body p) = (okE sg ns e && okSs sg nr ns body) := rfl
theorem okS_ret {e : E} {p : Pos} : okS sg nr ns (.ret e p) = okE sg ns e := rfl
theorem okS_raise {n m : String} {a b q p : Pos} : okS sg nr ns (.raise n m a b q p) = (!nr && sg.excs.contains n && ns.lookup (Str.ofString n) == some .globalImplicit && n != "__debug__") := rfl
theorem okS_try {body h : List S} {n : String} {as : Option String} {more : List (String × Pos × E × Pos × Pos)} {a b p : Pos} : okS sg nr ns (.try_ body n as h more a b p) = (okSs sg true ns body && !h.isEmpty && okSs sg nr ns h && sg.excs.contains n && ns.lookup (Str.ofString n) == some .globalImplicit && n != "__debug__" &&
      (match as with | some n => ns.lookup (Str.ofString n) == some .local | none => true) && okMore sg ns more) := rfl
end

noncomputable def Top (fs : List Env) (env : Env) : Prop := ∃ outer, fs = env :: outer ∧ env.frame = some env.locals

noncomputable def SS (c : Ctx) (sg : Sig) (d : Nat) (t : S) : Prop := ∀ (nr hd : Bool) (A : Around) (fs : List Env) (env : Env) (ρ : Loc) (μ : Mem) (s : Shared) (Q : Fl → Loc → Mem → Prop) (X : String → Loc → Mem → Prop),
  okS sg nr env.scope.names t = true → Top fs env → wpS sg (SC c d) hd t ρ μ Q X → St c d hd A fs env ρ μ s → wpAny (model c.prog c.w) A (exec (toS t) env) (PostS c d hd A fs env μ s Q) (XPostS c d hd A fs env nr μ s X) s
noncomputable def SSs (c : Ctx) (sg : Sig) (d : Nat) (t : List S) : Prop := ∀ (nr hd : Bool) (A : Around) (fs : List Env) (env : Env) (ρ : Loc) (μ : Mem) (s : Shared) (Q : Fl → Loc → Mem → Prop) (X : String → Loc → Mem → Prop),
  okSs sg nr env.scope.names t = true → Top fs env → wpSs sg (SC c d) hd t ρ μ Q X → St c d hd A fs env ρ μ s → wpAny (model c.prog c.w) A (execs (toSs t) env) (PostS c d hd A fs env μ s Q) (XPostS c d hd A fs env nr μ s X) s

section
variable {c : Ctx} {sg : Sig} {d : Nat} {nr hd : Bool} {A : Around} {fs : List Env} {env : Env} {ρ : Loc} {μ : Mem} {s : Shared} {X : String → Loc → Mem → Prop}

theorem ev (G : Good c sg) {e : E} {μ₀ : Mem} {s₀ : Shared} {Q₁ : V → Mem → Prop} {P : Value → Shared → Prop} (ok : okE sg env.scope.names e = true) (st : StepS c fs env μ₀ μ s₀ s) (h : wpE sg (SC c d) hd e ρ μ Q₁ (fun x μ₁ => X x ρ μ₁)) (S : St c d hd A fs env ρ μ s)
    (k : ∀ rv v μ₁ s₁, Step c fs μ μ₁ s s₁ → RV c s₁.heap rv v → Q₁ v μ₁ → P rv s₁) : wpAny (model c.prog c.w) A (eval (toE e) env) P (XPostS c d hd A fs env nr μ₀ s₀ X) s :=
  wpAny_mono (soundE G e hd A fs env ρ μ s Q₁ _ ok h S) (fun rv s₁ ⟨v, μ₁, st₁, hv, q⟩ => k rv v μ₁ s₁ st₁ hv q) fun _ _ x => (XPost.toS S x).after st

theorem okV_of {ns : List (Str × NameKind)} {e : E} (ok : okV sg ns e = true) : okE sg ns e = true ∧ noComp e = true := Bool.and_eq_true_iff.mp ok
theorem swaps_toE (e : E) (t : Option Expr) (n : Nat) (env : Env) (ok : noComp e = true) : swapsWith (toE e) t n env = pure false := by
  cases e <;> first | rfl | cases ok

theorem sto {x : String} (h : isSto (env.scope.names.lookup (Str.ofString x)) = true) : env.kindOf (Str.ofString x) = some .local ∨ env.kindOf (Str.ofString x) = some .cell := by
  show env.scope.names.lookup _ = _ ∨ env.scope.names.lookup _ = _
  unfold isSto at h
  split at h
  · rename_i e; exact .inl e
  · rename_i e; exact .inr e
  · cases h

theorem ss_expr (G : Good c sg) {e : E} {p : Pos} : SS c sg d (.expr e p) := by
  intro nr hd A fs env ρ μ s Q X ok tp h S
  simp only [okS_expr, okS_assign, okS_setattr, okS_setitem, okS_unpack, okS_ite, okS_for, okS_while, okS_ret, okS_raise, okS_try] at ok
  refine wpAny_Expr_any (ev G (okV_of ok).1 .refl h S fun rv v μ₁ s₁ st hv q => ⟨.next, ρ, μ₁, st.toS, S.step st, .next, q⟩) (by unfold interactive; rw [S.er.kind]; rfl) (swaps_toE e _ _ _ (okV_of ok).2)

theorem assign_comp (G : Good c sg) {x : String} {elt it : E} {y : String} {cs : List String} {ifs : List E} {sc : Scope} {q pc px p : Pos} : SS c sg d (.assign x (.comp elt y cs it ifs sc q pc) px p) := by
  intro nr hd A fs env ρ μ s Q X ok tp h S
  simp only [okS_expr, okS_assign, okS_setattr, okS_setitem, okS_unpack, okS_ite, okS_for, okS_while, okS_ret, okS_raise, okS_try, okA, Bool.and_eq_true, beq_iff_eq] at ok
  obtain ⟨ok1, ⟨ok2, ok3⟩, ok4⟩ := ok
  have h : wpE sg (SC c d) hd (.comp elt y cs it ifs sc q pc) ρ μ (fun v μ₁ => Q .next (updL ρ x v) μ₁) (fun x μ₁ => X x ρ μ₁) := h
  have hsw : swapsWith (toE (.comp elt y cs it ifs sc q pc)) (some (.Name (Str.ofString x) px)) p.line env = pure true := by
    have e : swapsWith (toE (.comp elt y cs it ifs sc q pc)) (some (.Name (Str.ofString x) px)) p.line env = pure (env.blockKind == .function && env.kindOf (Str.ofString x) == some .local && px.line == pc.line && !(sc.names.any fun (n, k) => n == Str.ofString x && (k == .local || k == .cell))) := rfl
    have hk : env.kindOf (Str.ofString x) = some .local := ok2
    have hb : env.blockKind = .function := by unfold Env.blockKind; rw [S.er.kind]; rfl
    rw [e, hb, hk, ok4, ok3]
    simp
  have nl : ∀ {C}, (∀ b o, s.heap.get? b = some o → μ b = none → b ≠ C) → env.locals ≠ C := fun sC => by
    obtain ⟨m, hns, _⟩ := S.er.names
    obtain ⟨o, _, _, ho, _⟩ := Ns.dict hns
    exact sC _ o ho S.er.priv
  have nc : ∀ {C}, (∀ b o, s.heap.get? b = some o → μ b = none → b ≠ C) → ∀ z, env.cells.lookup z ≠ some C := fun sC z e => by
    obtain ⟨⟨w, o, ho, _⟩, hm, _⟩ := S.er.cells z _ e
    exact sC _ o ho hm rfl
  have nf : ∀ {C}, (∀ b o, s.heap.get? b = some o → μ b = none → b ≠ C) → C ∉ frs fs := fun sC hC => by
    obtain ⟨o, _, _, ho, _⟩ := S.aok.dicts _ hC
    exact sC _ o ho (S.aok.priv _ hC) rfl
  show wpAny _ A (exec (.Assign [.Name (Str.ofString x) px] (toE (.comp elt y cs it ifs sc q pc)) p) env) _ _ s
  rw [exec_Assign_Name_used _ _ _ _ hsw]
  refine wpAny_bind (wpAny_standAt (wpAny_bind ?_))
  show wpAny _ A (do let _ ← comprehension (.ListComp (toE elt) [⟨.Name (Str.ofString y) q, toE it, toEs ifs, 0⟩] sc pc) sc env _ (newList []) false (eval (toE it) env) (some (assign (.Name (Str.ofString x) px) env))) _ _ s
  refine wpAny_bind (wpAny_mono (comp_core (use := some (assign (.Name (Str.ofString x) px) env)) (Q' := fun _ s' => PostS c d hd A fs env μ s Q .next s') (Ex := XPostS c d hd A fs env nr μ s X) (soundE G it) (soundE G elt) (fun e _ => soundT G e) ok1 h S (fun _ _ y => XPost.toS S y) fun C n μ' s' m sC bC pC st hns hq => ?_) (fun _ s' hq => wpAny_pure (wpAny_pure hq)) fun _ _ e => e)
  have S' := S.step st
  refine wpAny_assign_Name (store_sound S' (.inl ok2) (.ref n) fun s'' stS S'' => ?_)
  obtain ⟨oC, esC, epC, hoC, hdC, rC⟩ := hns
  obtain ⟨_, sl, e'', _⟩ := stS.kept C oC hoC pC (by rintro (z | ⟨z, hz⟩); exact nl sC z.symm; exact nc sC z hz)
  refine ⟨m, ⟨_, esC, epC, e'', hdC, rC⟩, fun h' sb => ⟨.next, _, μ', ⟨stS.gens.trans st.gens, stS.drawn.trans st.drawn, stS.os.trans st.os, fun b o e hm hp => ?_⟩, S''.but pC bC (fun o e => ?_) (nl sC) (nc sC) (nf sC) sb, .next, hq⟩⟩
  · obtain ⟨m₂, sl₂, e₂, q₂⟩ := (st.toS.trans stS).kept b o e hm hp
    exact ⟨m₂, sl₂, (sb.2 b (sC b o e hm)).trans e₂, q₂⟩
  · rw [e''] at e; cases e
    rintro (⟨_, vs, n, z⟩ | ⟨_, vs, z⟩) <;> (rw [hdC] at z; cases z)

theorem assign_plain (G : Good c sg) {x : String} {e : E} {px p : Pos} (hn : noComp e = true) : SS c sg d (.assign x e px p) := by
  intro nr hd A fs env ρ μ s Q X ok tp h S
  have ok : (okV sg env.scope.names e && isSto (env.scope.names.lookup (Str.ofString x))) = true := by
    simp only [okS_expr, okS_assign, okS_setattr, okS_setitem, okS_unpack, okS_ite, okS_for, okS_while, okS_ret, okS_raise, okS_try] at ok
    unfold okA at ok
    split at ok
    · cases hn
    · exact ok
  rw [Bool.and_eq_true] at ok
  refine wpAny_Assign_Name (ev G (okV_of ok.1).1 .refl h S fun rv v μ₁ s₁ st hv q => ?_) (swaps_toE e _ _ _ (okV_of ok.1).2)
  exact store_sound (S.step st) (sto ok.2) hv fun s' st' S' => ⟨.next, _, μ₁, st.toS.trans st', S', .next, q⟩
theorem ss_assign (G : Good c sg) {x : String} {e : E} {px p : Pos} : SS c sg d (.assign x e px p) := by
  cases e
  case comp => exact assign_comp G
  all_goals exact assign_plain G rfl

theorem ss_setattr (G : Good c sg) {o e : E} {a : String} {pa p : Pos} : SS c sg d (.setattr o a e pa p) := by
  intro nr hd A fs env ρ μ s Q X ok tp h S
  simp only [okS_expr, okS_assign, okS_setattr, okS_setitem, okS_unpack, okS_ite, okS_for, okS_while, okS_ret, okS_raise, okS_try, Bool.and_eq_true] at ok
  refine plainObj_wpAny_Assign_Attribute (ev G (okV_of ok.1.2).1 .refl h S fun rv v μ₁ s₁ st hv q => ?_) (swaps_toE e _ _ _ (okV_of ok.1.2).2)
  refine ev G ok.1.1 st.toS q (S.step st) fun ro w μ₂ s₂ st₂ hw q₂ => ?_
  have S₂ := (S.step st).step st₂
  split at q₂
  · split at q₂
    · rename_i x _ _ dd hx
      split at q₂
      · rename_i fl hfl
        cases hw
        refine setattr_sound (fs := fs) (Kin G S₂.rel) S₂.rel (hv.step st.rel st₂) hx hfl G.cls (fun y C hy => G.attr y C a hy (by simpa using ok.2)) q₂.1 fun s' st₃ => ?_
        exact ⟨.next, ρ, _, (st.trans (st₂.trans st₃)).toS, S₂.step st₃, .next, q₂.2⟩
      · exact q₂.elim
    · exact q₂.elim
  · exact q₂.elim

theorem ss_setitem (G : Good c sg) {o i e : E} {ps p : Pos} : SS c sg d (.setitem o i e ps p) := by
  intro nr hd A fs env ρ μ s Q X ok tp h S
  simp only [okS_expr, okS_assign, okS_setattr, okS_setitem, okS_unpack, okS_ite, okS_for, okS_while, okS_ret, okS_raise, okS_try, Bool.and_eq_true] at ok
  refine wpAny_Assign_Subscript (ev G (okV_of ok.2).1 .refl h S fun rv v μ₁ s₁ st hv q => ?_) (swaps_toE e _ _ _ (okV_of ok.2).2)
  refine ev G ok.1.1 st.toS q (S.step st) fun ro w μ₂ s₂ st₂ hw q₂ => ?_
  refine ev G ok.1.2 (st.trans st₂).toS q₂ ((S.step st).step st₂) fun ri j μ₃ s₃ st₃ hj q₃ => ?_
  have S₃ := ((S.step st).step st₂).step st₃
  split at q₃
  · rename_i x k
    split at q₃
    · rename_i l hl
      obtain ⟨h0, hk, q₃⟩ := q₃
      cases hw; cases hj
      obtain ⟨vs, n, h1, h2, h3⟩ := S₃.rel.lst hl
      have hsz : vs.size = l.length := by rw [← Array.length_toList, h2.length]
      have hlim : l.length < 2 ^ 62 := Nat.lt_of_le_of_lt h3 (by decide)
      refine ki_setAt (n := n) h1 h0 (by omega) (by rw [hsz]; exact hk) ?_
      have st₄ : Step c fs μ₃ (updM μ₃ x (.list (l.set k.toNat v))) s₃ { s₃ with heap := s₃.heap.update x (Obj.mapSeq (·.setIfInBounds k.toNat rv)) } := step_list S₃.rel hl h1 rfl (by rw [Array.toList_setIfInBounds]; exact h2.set ((hv.step st.rel st₂).step st₂.rel st₃) _) (by rw [List.length_set]; exact h3)
      exact ⟨.next, ρ, _, (st.trans (st₂.trans (st₃.trans st₄))).toS, S₃.step st₄, .next, q₃⟩
    · exact q₃.elim
  · exact q₃.elim

theorem StepS.rvs {μ' : Mem} {s' : Shared} (S : St c d hd A fs env ρ μ s) (st : StepS c fs env μ μ' s s') : ∀ {vs : List Value} {xs : List V}, RVs c s.heap vs xs → RVs c s'.heap vs xs
  | _, _, .nil => .nil
  | _, _, .cons hv hr => .cons (st.rv S hv) (StepS.rvs S st hr)
theorem each_len (env : Env) : ∀ xs : List (String × Pos), (assignEach (xs.map fun x => Expr.Name (Str.ofString x.1) x.2) env).length = xs.length ∧ (assignEach (xs.map fun x => Expr.Name (Str.ofString x.1) x.2) env).findIdx? (·.1) = none
  | [] => ⟨rfl, rfl⟩
  | x :: xs => by
    obtain ⟨h1, h2⟩ := each_len env xs
    have e : assignEach ((x :: xs).map fun x => Expr.Name (Str.ofString x.1) x.2) env = (false, assign (.Name (Str.ofString x.1) x.2) env) :: assignEach (xs.map fun x => Expr.Name (Str.ofString x.1) x.2) env := rfl
    rw [e]
    exact ⟨by rw [List.length_cons, h1, List.length_cons], by rw [List.findIdx?_cons, h2]; rfl⟩
theorem assign_names {P : Unit → Shared → Prop} {E : Value → Shared → Prop} : ∀ {xs : List (String × Pos)} {vs : List Value} {l : List V} {ρ ρ' : Loc} {s : Shared}, RVs c s.heap vs l → bindAll (xs.map (·.1)) l ρ = some ρ' → (∀ x ∈ xs, isSto (env.scope.names.lookup (Str.ofString x.1)) = true) → St c d hd A fs env ρ μ s →
    (∀ s', StepS c fs env μ μ s s' → St c d hd A fs env ρ' μ s' → P () s') → wpAny (model c.prog c.w) A (assignInOrder ((assignEach (xs.map fun x => Expr.Name (Str.ofString x.1) x.2) env).map (·.2)) vs) P E s
  | [], _, [], _, _, _, hr, hb, _, S, h => by
    cases hr; cases hb
    exact wpAny_pure (h _ .refl S)
  | [], _, _ :: _, _, _, _, _, hb, _, _, _ => by cases hb
  | _ :: _, _, [], _, _, _, _, hb, _, _, _ => by cases hb
  | x :: xs, _, v :: l, ρ, ρ', s, .cons hv hr, hb, ok, S, h => by
    refine wpAny_bind (wpAny_holding (wpAny_assign_Name (store_sound S (sto (ok x (.head _))) hv fun s₁ st₁ S₁ => ?_)))
    exact assign_names (st₁.rvs S hr) hb (fun y hy => ok y (.tail _ hy)) S₁ fun s' st' S' => h s' (st₁.trans st') S'
theorem ss_unpack (G : Good c sg) {xs : List (String × Pos)} {e : E} {k : Nat} {pt p : Pos} : SS c sg d (.unpack xs e k pt p) := by
  intro nr hd A fs env ρ μ s Q X ok tp h S
  simp only [okS_expr, okS_assign, okS_setattr, okS_setitem, okS_unpack, okS_ite, okS_for, okS_while, okS_ret, okS_raise, okS_try, Bool.and_eq_true, List.all_eq_true] at ok
  obtain ⟨⟨ok1, ok2⟩, ok3⟩ := ok
  cases e with
  | loc x px =>
    refine Assign_Tuple (ev G ok1 .refl h S fun rv v μ₁ s₁ st hv q => ?_)
    replace q := asT_of q
    obtain ⟨l, rfl, q⟩ := q
    split at q
    · rename_i ρ' hb
      cases hv with
      | @tup t o us n _ ho hc hdd hl hz =>
      have hln : xs.length = us.size := by
        have : ∀ (ys : List String) (l : List V) (ρ ρ' : Loc), bindAll ys l ρ = some ρ' → ys.length = l.length := by
          intro ys
          induction ys with
          | nil => intro l ρ ρ' e; cases l with
            | nil => rfl
            | cons _ _ => cases e
          | cons y ys ih => intro l ρ ρ' e; cases l with
            | nil => cases e
            | cons v l => rw [List.length_cons, List.length_cons, ih l _ _ e]
        have e1 := this _ _ _ _ hb
        rw [List.length_map] at e1
        rw [e1, ← Array.length_toList, hl.length]
      refine assign_tup (S.step st).aok.caught.plain ⟨_, ho, hc, n, hdd⟩ ((each_len env xs).1.trans hln) (each_len env xs).2 fun h' he => ?_
      have st₂ : Step c fs μ₁ μ₁ s₁ { s₁ with heap := h' } := Step.grows (n := s₁.toks) st.rel fun b o e => he b o (Nat.ne_of_lt (Heap.lt_size e)) e
      exact assign_names (hl.step st.rel st₂) hb ok3 ((S.step st).step st₂) fun s' st' S' => ⟨.next, ρ', μ₁, (st.trans st₂).toS.trans st', S', .next, q⟩
    · exact q.elim
  | _ => cases ok2
end
end Mine

set_option autoImplicit false
namespace Mine
set_option linter.unusedVariables false
set_option linter.unusedSimpArgs false
open PySem PySem.W PySem.Calls PyProof.Rows

section
variable {c : Ctx} {sg : Sig} {d : Nat} {nr hd : Bool} {A : Around} {fs : List Env} {env : Env} {ρ : Loc} {μ : Mem} {s : Shared} {X : String → Loc → Mem → Prop}

theorem ss_pass {p : Pos} : SS c sg d (.pass p) := by
  intro nr hd A fs env ρ μ s Q X ok tp h S
  exact wpAny_Pass ⟨.next, ρ, μ, .refl, S, .next, h⟩

theorem ss_ret (G : Good c sg) {e : E} {p : Pos} : SS c sg d (.ret e p) := by
  intro nr hd A fs env ρ μ s Q X ok tp h S
  simp only [okS_expr, okS_assign, okS_setattr, okS_setitem, okS_unpack, okS_ite, okS_for, okS_while, okS_ret, okS_raise, okS_try] at ok
  exact wpAny_Return_some (ev G ok .refl h S fun rv v μ₁ s₁ st hv q => ⟨.ret v, ρ, μ₁, st.toS, S.step st, .ret hv, q⟩)

theorem sss {t : List S} (ht : ∀ x ∈ t, SS c sg d x) : SSs c sg d t := by
  induction t with
  | nil =>
    intro nr hd A fs env ρ μ s Q X ok tp h S
    exact wpAny_execs_nil ⟨.next, ρ, μ, .refl, S, .next, h⟩
  | cons t r ih =>
    intro nr hd A fs env ρ μ s Q X ok tp h S
    simp only [okSs, Bool.and_eq_true] at ok
    refine wpAny_execs_cons (wpAny_mono (ht t (.head _) nr hd A fs env ρ μ s _ X ok.1 tp h S) (fun fl s₁ ⟨fl', ρ₁, μ₁, st, S₁, hfl, q⟩ => ?_) fun _ _ x => x)
    cases hfl with
    | next => exact wpAny_mono (ih (fun x hx => ht x (.tail _ hx)) nr hd A fs env ρ₁ μ₁ s₁ Q X ok.2 tp q S₁) (fun _ _ p => p.after st) fun _ _ p => p.after st
    | ret hv => exact ⟨_, ρ₁, μ₁, st, S₁, .ret hv, q⟩

theorem ss_ite (G : Good c sg) {e : E} {t f : List S} {p : Pos} (ht : SSs c sg d t) (hf : SSs c sg d f) : SS c sg d (.ite e t f p) := by
  intro nr hd A fs env ρ μ s Q X ok tp h S
  simp only [okS_expr, okS_assign, okS_setattr, okS_setitem, okS_unpack, okS_ite, okS_for, okS_while, okS_ret, okS_raise, okS_try, Bool.and_eq_true] at ok
  refine wpAny_If (wpAny_mono (soundT G e hd A fs env ρ μ s _ (fun b μ₁ => br b (wpSs sg (SC c d) hd t ρ μ₁ Q X) (wpSs sg (SC c d) hd f ρ μ₁ Q X)) _ (fun v μ₁ h₁ => h₁) ok.1.1 h S) (fun b s₁ ⟨μ₁, st, q⟩ => ?_) fun _ _ x => XPost.toS S x)
  cases b with
  | true =>
    rw [if_pos rfl]
    exact wpAny_mono (ht nr hd A fs env ρ μ₁ s₁ Q X ok.1.2 tp (q.1 rfl) (S.step st)) (fun _ _ p => p.after st.toS) fun _ _ p => p.after st.toS
  | false =>
    rw [if_neg Bool.false_ne_true]
    exact wpAny_mono (hf nr hd A fs env ρ μ₁ s₁ Q X ok.2 tp (q.2 rfl) (S.step st)) (fun _ _ p => p.after st.toS) fun _ _ p => p.after st.toS

theorem for_sound {it : Addr} {rv : Value} {v : V} {items : List V} {It : Nat → Heap → Prop} {x : String} {px : Pos} {body : List S} {Q : Fl → Loc → Mem → Prop} {μ₀ : Mem} {s₀ : Shared} (I : Iter c A it rv v items It) (hb : SSs c sg d body)
    (okx : isSto (env.scope.names.lookup (Str.ofString x)) = true) (okb : okSs sg nr env.scope.names body = true) (tp : Top fs env) (hn : s₀.heap.get? it = none) (hbase : c.base.get? it = none)
    (st : StepS c fs env μ₀ μ s₀ s) (S : St c d hd A fs env ρ μ s) (hv : RV c s.heap rv v) (hit : It 0 s.heap)
    (h : forI (fun μ' => itemsOf μ' v = some items) x (fun ρ' μ' k => wpSs sg (SC c d) hd body ρ' μ' k X) items ρ μ Q) :
    codeAny (model c.prog c.w) A (.forLoop (.Name (Str.ofString x) px) (.ref it) (toSs body) [] env) (fun r s' => match r with | .ok f => PostS c d hd A fs env μ₀ s₀ Q f s' | .error e => XPostS c d hd A fs env true μ₀ s₀ X e s') s := by
  obtain ⟨J, j0, jst, jturn, jfin⟩ := h
  refine codeAny_forLoop (fun n s => ∃ k ρ μ, n = items.length - k ∧ k ≤ items.length ∧ StepS c fs env μ₀ μ s₀ s ∧ St c d hd A fs env ρ μ s ∧ RV c s.heap rv v ∧ It k s.heap ∧ J k ρ μ)
    (fun n s ⟨k, ρ, μ, hk, hkl, st, S, hv, hit, h⟩ => ?_) items.length ⟨0, ρ, μ, rfl, Nat.zero_le _, st, S, hv, hit, j0⟩
  cases hk' : items[k]? with
  | none =>
    have : k = items.length := Nat.le_antisymm hkl (List.getElem?_eq_none_iff.mp hk')
    refine I.fin k s μ _ _ hk' (jst _ _ _ h) S.rel hv hit fun h' x => ?_
    subst this
    exact wpAny_execs_nil ⟨.next, ρ, μ, st.it (n := s.toks) x hn, S.ext (n := s.toks) x hbase (I.obj _ _ hit), .next, jfin _ _ h⟩
  | some w =>
    have hlt : k < items.length := (List.getElem?_eq_some_iff.mp hk').1
    refine I.item k w s μ _ _ hk' (jst _ _ _ h) S.rel hv hit fun rw_ h' n' x hit' hw => ?_
    have ho := I.obj k _ hit
    have S₁ := S.ext (n := n') x hbase ho
    have st₁ := st.it (n := n') x hn
    refine wpAny_assign_Name (store_sound S₁ (sto okx) (hw.monoV (monoV_ext x ho)) fun s₂ st₂ S₂ => ?_)
    refine wpAny_mono (hb nr hd A fs env _ μ s₂ _ _ okb tp (jturn k w ρ μ hk' h) S₂) (fun fl s₃ ⟨fl', ρ₃, μ₃, st₃, S₃, hfl, q⟩ => ?_) fun re s' y => y.noted fun s'' y' => y'.after (st₁.trans st₂)
    have st₁₃ := st₂.trans st₃
    cases hfl with
    | next => exact ⟨items.length - (k + 1), by omega, k + 1, ρ₃, μ₃, rfl, hlt, st₁.trans st₁₃, S₃, st₁₃.rv S₁ (hv.monoV (monoV_ext x ho)), I.keep _ _ _ hit' (st₁₃.fields S₁ (I.obj _ _ hit')), q⟩
    | ret hr => exact ⟨_, ρ₃, μ₃, st₁.trans st₁₃, S₃, .ret hr, q⟩

theorem ss_while (G : Good c sg) {e : E} {body : List S} {p : Pos} (hb : SSs c sg d body) : SS c sg d (.while_ e body p) := by
  intro nr hd A fs env ρ μ s Q X ok tp h S
  simp only [okS_expr, okS_assign, okS_setattr, okS_setitem, okS_unpack, okS_ite, okS_for, okS_while, okS_ret, okS_raise, okS_try, Bool.and_eq_true] at ok
  obtain ⟨J, ⟨n, j0⟩, jturn⟩ := h
  refine wpAny_While (codeAny_whileLoop (fun n s' => ∃ ρ' μ', StepS c fs env μ μ' s s' ∧ St c d hd A fs env ρ' μ' s' ∧ J n ρ' μ')
    (fun n s' ⟨ρ', μ', st, S', h'⟩ => ?_) n ⟨ρ, μ, .refl, S, j0⟩)
  refine wpAny_mono (soundT G e hd A fs env ρ' μ' s' _ _ _ (fun v μ₁ h₁ => h₁) ok.1 (jturn n ρ' μ' h') S') (fun b s₁ ⟨μ₁, st₁, q⟩ => ?_) fun _ _ y => y.no
  cases b with
  | true =>
    rw [if_pos rfl]
    refine wpAny_mono (hb nr hd A fs env ρ' μ₁ s₁ _ _ ok.2 tp (q.1 rfl) (S'.step st₁)) (fun fl s₃ ⟨fl', ρ₃, μ₃, st₃, S₃, hfl, q⟩ => ?_) fun _ _ y => y.no
    cases hfl with
    | next =>
      obtain ⟨m, hm, q⟩ := q
      exact ⟨m, hm, ρ₃, μ₃, st.trans (st₁.toS.trans st₃), S₃, q⟩
    | ret hr => exact ⟨_, ρ₃, μ₃, st.trans (st₁.toS.trans st₃), S₃, .ret hr, q⟩
  | false =>
    rw [if_neg Bool.false_ne_true]
    exact wpAny_execs_nil ⟨.next, ρ', μ₁, st.trans st₁.toS, S'.step st₁, .next, q.2 rfl⟩
end
end Mine

set_option autoImplicit false
namespace Mine
set_option linter.unusedVariables false
set_option linter.unusedSimpArgs false
open PySem PySem.W PySem.Calls PyProof.Rows

section
variable {c : Ctx} {sg : Sig} {d : Nat} {nr hd : Bool} {A : Around} {fs : List Env} {env : Env} {ρ : Loc} {μ : Mem} {s : Shared} {X : String → Loc → Mem → Prop}

theorem ss_for (G : Good c sg) {x : String} {e : E} {body : List S} {px p : Pos} (hb : SSs c sg d body) : SS c sg d (.for_ x e body px p) := by
  intro nr hd A fs env ρ μ s Q X ok tp h S
  simp only [okS_expr, okS_assign, okS_setattr, okS_setitem, okS_unpack, okS_ite, okS_for, okS_while, okS_ret, okS_raise, okS_try, Bool.and_eq_true] at ok
  obtain ⟨h0, h⟩ := h
  refine wpAny_For (ev G ok.1.1 .refl h S fun rv v μ₁ s₁ st hv q => ?_) (fun x => by cases e <;> rfl)
  split at q
  · rename_i items hi
    refine iter_sound (fs := fs) (S.aok.handled h0) st.rel hv hi fun it s₂ It I hit hn st₂ => ?_
    have hb' : c.base.get? it = none := by
      cases z : c.base.get? it with
      | none => rfl
      | some o => have := st.rel.base it o z; rw [hn] at this; cases this
    have hn' : s.heap.get? it = none ∨ True := .inr trivial
    refine codeAny_mono (for_sound (X := X) (μ₀ := μ₁) (s₀ := s₁) I hb ok.1.2 ok.2 tp hn hb' st₂.toS ((S.step st).step st₂) (hv.step st.rel st₂) hit q) fun r s' hr => ?_
    cases r with
    | error e => exact (XPostS.after st.toS hr).back
    | ok f => exact PostS.after st.toS hr
  · exact q.elim
end
end Mine

set_option autoImplicit false
namespace Mine
set_option linter.unusedVariables false
set_option linter.unusedSimpArgs false
open PySem PySem.W PySem.Calls PyProof.Rows

section
variable {c : Ctx} {sg : Sig} {d : Nat} {nr hd : Bool} {A : Around} {fs : List Env} {env : Env} {ρ : Loc} {μ : Mem} {s : Shared} {X : String → Loc → Mem → Prop}

theorem ss_raise (G : Good c sg) {n m : String} {pf pm pc p : Pos} : SS c sg d (.raise n m pf pm pc p) := by
  intro nr hd A fs env ρ μ s Q X ok tp h S
  simp only [okS_expr, okS_assign, okS_setattr, okS_setitem, okS_unpack, okS_ite, okS_for, okS_while, okS_ret, okS_raise, okS_try, Bool.and_eq_true, Bool.not_eq_true', beq_iff_eq, bne_iff_ne] at ok
  obtain ⟨⟨⟨hnr, hin⟩, hk⟩, hdb⟩ := ok
  obtain ⟨C, hC⟩ := G.excs n (by simpa using hin)
  obtain ⟨e1, e2⟩ := G.exc n C hC
  obtain ⟨pp, loose, mg, mb, T⟩ := G.top
  have O := own_of_in G.X T e1 e2
  obtain ⟨tl, N, nm, q, bs, hdct, sn, sub, ab, col, dd, k0, k1, k2, k3, k5, mN, oC, hN, hni, TL⟩ := O.obj
  refine wpAny_Raise_call_subT (C := C) (nm := nm) (q := q) (N := N) (bs := bs) (bm := tl) (hdct := hdct) (sn := sn) (sub := sub) (ab := ab) (col := col) (dd := dd) (k0 := k0) (k1 := k1) (k2 := k2) (k3 := k3) (k5 := k5)
    PySem.F.excBase_ValueError (mN := mN) (TL.hasType PySem.F.excBase_ValueError.hasBase) (S.aok.handled h.1) rfl hni (name_glob G S.er S.rel hk hdb e1 ⟨rfl, ?_⟩)
  refine Calls.evalArgs_plain (Calls.spliced_cons (wpAny_Constant_str (k := 0) (pos := pm) (Calls.spliced_nil ?_)))
  have st : Step c fs μ μ s { s with toks := s.toks + 1 } := Step.toks S.rel
  refine ⟨rfl, by show 1 ≤ sizeLine; decide, S.rel.base _ _ oC, hN.keeps S.rel.base, TL.keeps S.rel.base, fun h' e hm => ?_⟩
  exact ⟨e, n, ρ, μ, μ, _, rfl, st.toS, S.step st, .inr ⟨hnr, rfl, rfl, rfl, rfl, C, _, hC, hm⟩, h.2⟩

structure InAir (c : Ctx) (fs : List Env) (μ μ' : Mem) (s s' : Shared) (x : String) (B : Heap) (C : Addr) : Prop where
  gens : s'.gens = s.gens
  drawn : s'.drawn = s.drawn
  os : s'.os = s.os
  kept : Kept (frs fs) μ μ' s.heap s'.heap
  hx : c.exc x = some C
  hr : Rel c μ' B
  hB : ∀ b o, s.heap.get? b = some o → μ b = none → b ∉ frs fs → B.get? b = some o

/-- an exception is looked at where it lands -/
theorem InAir.land {e : Addr} {x : String} {μ' : Mem} {s' : Shared} {B h₅ : Heap} {C : Addr} {a0 : Value} (I : InAir c fs μ μ' s s' x B C) (S : St c d hd A fs env ρ μ s) (up : s'.heap.UpToSlots h₅) (hf : FlyC B fs e (.ref C) a0 h₅) :
    St c d hd A fs env ρ μ' { s' with heap := h₅ } ∧ StepS c fs env μ μ' s { s' with heap := h₅ } ∧ RV c h₅ (.ref e) (.exc x) := by
  obtain ⟨gens, drawn, os, kept, hx, hr, hB⟩ := I
  obtain ⟨f1, f2, f3, f4⟩ := hf.1
  have slots : ∀ b o, s.heap.get? b = some o → μ b = none → (∀ vs, o.data ≠ .fields vs) → ∃ sl, h₅.get? b = some { o with slots := sl } := fun b o e hm hnf => by
    obtain ⟨_, sl, e', _⟩ := kept b o e hm
    obtain ⟨sl', e''⟩ := up b _ e' hnf
    exact ⟨sl', e''⟩
  have notfr : ∀ b o, s.heap.get? b = some o → (∃ vs, o.data = .fields vs) → b ∉ frs fs := fun b o e ⟨vs, hd⟩ hb => by
    obtain ⟨_, o', ho', hd'⟩ := S.aok.fun_.mem hb
    rw [e] at ho'; cases ho'; exact hd' vs hd
  have k : ∀ b o, s.heap.get? b = some o → RK o → ∃ sl, h₅.get? b = some { o with slots := sl } ∧ ((∃ vs, o.data = .fields vs) → sl = o.slots) := fun b o e q => by
    rcases q with ⟨q, vs, n, hd⟩ | ⟨_, vs, hd⟩
    · obtain ⟨sl, e'⟩ := slots b o e (S.rel.none_of_cls e q (by decide) (by decide)) (fun vs' q' => by rw [hd] at q'; cases q')
      exact ⟨sl, e', fun ⟨vs', q'⟩ => by rw [hd] at q'; cases q'⟩
    · exact ⟨o.slots, f1 _ _ (hB b o e (S.rel.none_of_fields e hd) (notfr b o e ⟨vs, hd⟩)), fun _ => rfl⟩
  obtain ⟨m, hns, hnm⟩ := S.er.names
  obtain ⟨oL, esL, epL, hoL, hdL, rL⟩ := id hns
  have cellk : ∀ ca w, μ ca = none → s.heap.IsCell ca w → h₅.IsCell ca w := fun ca w hm ⟨o, ho, hd⟩ => by
    obtain ⟨sl, e'⟩ := slots ca o ho hm (fun vs q => by rw [hd] at q; cases q)
    exact ⟨_, e', hd⟩
  refine ⟨⟨hr.keeps f1, ⟨S.er.kind, S.er.glob, S.er.blt, (kept _ _ hoL S.er.priv).1, S.er.new, fun y ca e => ?_, S.er.inj, S.er.has, m, ?_, fun y w e => ?_⟩, ⟨S.aok.frames, S.aok.room, S.aok.units, S.aok.handled, funFrames_base hr.base f3, fun L hL => ?_, fun L hL => (by obtain ⟨o, es, n, ho, hd⟩ := S.aok.dicts L hL; obtain ⟨sl, e'⟩ := slots L o ho (S.aok.priv L hL) (fun vs q => by rw [hd] at q; cases q); exact ⟨_, es, n, e', hd⟩), S.aok.caught.of fun b o vs e hd _ hm => ⟨(kept b o e hm).1, f1 _ _ (hB b o e hm (notfr b o e ⟨vs, hd⟩))⟩⟩, S.room, S.units, S.top⟩, ⟨gens, drawn, os, fun b o e hm hp => ?_⟩, ?_⟩
  · obtain ⟨⟨w, hw⟩, h1, h2⟩ := S.er.cells y ca e
    obtain ⟨o, ho, hd⟩ := id hw
    exact ⟨⟨w, cellk _ _ h1 hw⟩, (kept _ _ ho h1).1, h2⟩
  · obtain ⟨sl, e'⟩ := slots _ _ hoL S.er.priv (fun vs q => by rw [hdL] at q; cases q)
    exact ⟨_, esL, epL, e', hdL, rL⟩
  · rcases hnm y w e with ⟨h1, rw_, h2, h3⟩ | ⟨h1, ca, rw_, h2, h3, h4⟩
    · exact .inl ⟨h1, rw_, h2, h3.monoV k⟩
    · exact .inr ⟨h1, ca, rw_, h2, cellk _ _ (S.er.cells _ ca h2).2.1 h3, h4.monoV k⟩
  · obtain ⟨_, o, ho, _⟩ := S.aok.fun_.mem hL
    exact (kept L o ho (S.aok.priv L hL)).1
  · refine ⟨(kept b o e hm).1, ?_⟩
    by_cases hb : b ∈ frs fs
    · obtain ⟨_, o', ho', hd'⟩ := S.aok.fun_.mem hb
      rw [e] at ho'; cases ho'
      obtain ⟨sl, e'⟩ := slots b o e hm hd'
      exact ⟨sl, e', fun q => (q.elim (fun z => (z hb).elim) fun ⟨vs, z⟩ => (hd' vs z).elim)⟩
    · exact ⟨o.slots, f1 _ _ (hB b o e hm hb), fun _ => rfl⟩
  · obtain ⟨oe, vs, h1, h2, h3, _⟩ := hf.1.first
    exact .exc h1 h2 h3 hx

theorem St.mark {e : Addr} {x : String} (S : St c d hd A fs env ρ μ s) (he : RV c s.heap (.ref e) (.exc x)) (hn : NoCx s.heap e) : St c d true (A.mark (some (.ref e))) fs env ρ μ s := ⟨S.rel, S.er, ⟨S.aok.frames, S.aok.room, S.aok.units, nofun, S.aok.fun_, S.aok.priv, S.aok.dicts, fun v hv => by
  cases hv
  obtain ⟨oe, vs, h1, h2, h3⟩ := hn
  cases he with
  | @exc _ o Cx _ vs' g1 g2 g3 g4 =>
  rw [h1] at g1; cases g1
  exact ⟨e, oe, vs, rfl, h1, h2, h3, .inr ⟨.inr ⟨Cx, g2⟩, vs, h2⟩, S.rel.none_of_fields h1 h2⟩⟩, S.room, S.units, S.top⟩
theorem St.unmark {v : Option Value} (h0 : A.handled = none) (S : St c d true (A.mark v) fs env ρ μ s) : St c d hd A fs env ρ μ s := ⟨S.rel, S.er, ⟨S.aok.frames, S.aok.room, S.aok.units, fun q => h0, S.aok.fun_, S.aok.priv, S.aok.dicts, fun v hv => by rw [h0] at hv; cases hv⟩, S.room, S.units, S.top⟩

/-- the first clause -/
theorem handle_cons (G : Good c sg) {e : Addr} {x n : String} {as : Option Str} {body : List Stmt} {pc ph : Pos} {rest : List ExceptHandler} {Q : Flow → Shared → Prop} {E : Value → Shared → Prop} (S : St c d hd A fs env ρ μ s) (hin : n ∈ sg.excs)
    (hk : env.kindOf (Str.ofString n) = some .globalImplicit) (hdb : n ≠ "__debug__") (he : RV c s.heap (.ref e) (.exc x))
    (hy : isSub x n = true → codeAny (model c.prog c.w) (A.mark (some (.ref e))) (.handlers (.ref e) [.ExceptHandler none as body ph] env) (fun r s₂ => match r with
          | .ok f => (match as with
            | none => Q f s₂
            | some n => wpAny (model c.prog c.w) A (do bindName env n .none; unbindBehindTheSuite env n ph) (fun _ s₃ => Q f s₃) E s₂)
          | .error x => cameBackBy (model c.prog c.w) A env E x s₂) s)
    (hn : isSub x n = false → wpAny (model c.prog c.w) A (handleBy (.ref e) env rest) Q E s) :
    wpAny (model c.prog c.w) A (handleBy (.ref e) env (.ExceptHandler (some (.Name (Str.ofString n) pc)) as body ph :: rest)) Q E s := by
  cases he with
  | @exc _ o Cx _ vs h1 h2 h3 h4 =>
  obtain ⟨C, hC⟩ := G.excs n hin
  obtain ⟨e1, e2⟩ := G.exc n C hC
  refine wpAny_handleBy_cons (codeAny_handlers_test (name_glob G S.er S.rel hk hdb e1 ?_)) (by intro q; cases q)
  have LT : Looks (model c.prog c.w) s.heap (typeOf (.ref e)) (.ref Cx) := by
    exact h2 ▸ (Looks.ld h1).andThen .now
  refine (exm_one (Kin G S.rel) LT (G.sub x n Cx C h4 hC)).here ?_
  cases q : isSub x n with
  | true => exact hy q
  | false => exact hn q

theorem RFl.mono {h h' : Heap} {fl : Flow} {fl' : Fl} (k : ∀ {v x}, RV c h v x → RV c h' v x) (x : RFl c h fl fl') : RFl c h' fl fl' := by
  cases x with
  | next => exact .next
  | ret hv => exact .ret (k hv)

/-- the names are forgotten -/
theorem St.forget {h' : Heap} {m' : Str → Option Value} {n : Nat} (S : St c d hd A fs env ρ μ s) (hn' : h'.Ns env.locals m') (sb : Heap.SameBut env.locals s.heap h') :
    St c d hd A fs env (fun _ => none) μ { s with heap := h', toks := n } ∧ StepS c fs env μ μ s { s with heap := h', toks := n } ∧ (∀ {v x}, RV c s.heap v x → RV c h' v x) := by
  obtain ⟨m, hns, hm⟩ := S.er.names
  obtain ⟨oL, esL, nL, hoL, hdL⟩ := Ns.dict hns
  obtain ⟨oL', esL', nL', hoL', hdL'⟩ := Ns.dict hn'
  obtain ⟨r', mono⟩ := Rel.private S.rel S.er.priv S.er.new (fun o e => by rw [hoL] at e; cases e; rintro (⟨_, vs, n, q⟩ | ⟨_, vs, q⟩) <;> (rw [hdL] at q; cases q)) sb
  have other : ∀ ca, (∃ w, s.heap.IsCell ca w) → ca ≠ env.locals := fun ca ⟨w, o, ho, hd⟩ q => by rw [q, hoL] at ho; cases ho; rw [hdL] at hd; cases hd
  refine ⟨⟨r', ⟨S.er.kind, S.er.glob, S.er.blt, S.er.priv, S.er.new, fun y ca e => ?_, S.er.inj, S.er.has, _, hn', fun y w e => by cases e⟩, S.aok.turn sb ⟨oL', hoL', fun vs q => by rw [hdL'] at q; cases q⟩ (fun _ => ⟨oL', _, _, hoL', hdL'⟩) (fun o vs e q => by rw [hoL] at e; cases e; rw [hdL] at q; cases q), S.room, S.units, S.top⟩, ⟨rfl, rfl, rfl, fun b o e hmb hp => ⟨hmb, o.slots, (sb.2 b fun q => hp (.inl q)).trans e, fun _ => rfl⟩⟩, mono⟩
  obtain ⟨⟨w, o, ho, hd⟩, h1, h2⟩ := S.er.cells y ca e
  exact ⟨⟨w, o, (sb.2 ca (other ca ⟨w, o, ho, hd⟩)).trans ho, hd⟩, h1, h2⟩

section
variable {e : Addr} {x : String} {μ' : Mem} {s' : Shared} {B h : Heap} {C : Addr} {a0 : Value} {Q : Fl → Loc → Mem → Prop} {E : Value → Shared → Prop} {b : S} {bs : List S} {ph : Pos}

theorem suite_sound (I : InAir c fs μ μ' s s' x B C) (S : St c d hd A fs env ρ μ s) (h0 : A.handled = none) (tp : Top fs env) (hb : SSs c sg d (b :: bs)) (ok : okSs sg nr env.scope.names (b :: bs) = true)
    (hw : wpSs sg (SC c d) true (b :: bs) ρ μ' Q fun _ _ _ => False) (up : s'.heap.UpToSlots h) (hf : FlyC B fs e (.ref C) a0 h) :
    codeAny (model c.prog c.w) (A.mark (some (.ref e))) (.handlers (.ref e) [.ExceptHandler none none (toSs (b :: bs)) ph] env) (fun r s₂ => match r with
      | .ok f => PostS c d hd A fs env μ s Q f s₂
      | .error x => cameBackBy (model c.prog c.w) A env E x s₂) { s' with heap := h } := by
  refine codeAny_handlers_suite (lands_againC hf fun h₆ hf₆ up₆ => ?_)
  obtain ⟨S₆, st₆, he₆⟩ := I.land S (up.trans up₆) hf₆
  refine wpAny_mono (hb nr true _ fs env ρ μ' _ Q _ ok tp hw (S₆.mark he₆ hf₆.2)) (fun fl s₂ ⟨fl', ρ₂, μ₂, st₂, S₂, hfl, q⟩ => ?_) fun _ _ y => y.no
  exact ⟨fl', ρ₂, μ₂, st₆.trans st₂, S₂.unmark h0, hfl, q⟩

theorem suite_as_sound (I : InAir c fs μ μ' s s' x B C) (S : St c d hd A fs env ρ μ s) (h0 : A.handled = none) (tp : Top fs env) {n : String} (hn : env.kindOf (Str.ofString n) = some .local) (hb : SSs c sg d (b :: bs)) (ok : okSs sg nr env.scope.names (b :: bs) = true)
    (hw : wpSs sg (SC c d) true (b :: bs) (updL ρ n (.exc x)) μ' (fun fl _ μ₂ => Q fl (fun _ => none) μ₂) fun _ _ _ => False) (up : s'.heap.UpToSlots h) (hf : FlyC B fs e (.ref C) a0 h) :
    codeAny (model c.prog c.w) (A.mark (some (.ref e))) (.handlers (.ref e) [.ExceptHandler none (some (Str.ofString n)) (toSs (b :: bs)) ph] env) (fun r s₂ => match r with
      | .ok f => wpAny (model c.prog c.w) A (do bindName env (Str.ofString n) .none; unbindBehindTheSuite env (Str.ofString n) ph) (fun _ s₃ => PostS c d hd A fs env μ s Q f s₃) E s₂
      | .error x => cameBackBy (model c.prog c.w) A env E x s₂) { s' with heap := h } := by
  refine codeAny_handlers_suite_as (lands_againC hf fun h₆ hf₆ up₆ => ?_)
  obtain ⟨S₆, st₆, he₆⟩ := I.land S (up.trans up₆) hf₆
  refine store_sound (v := .exc x) (S₆.mark he₆ hf₆.2) (.inl hn) he₆ fun s₇ st₇ S₇ => ?_
  refine wpAny_mono (hb nr true _ fs env _ μ' _ _ _ ok tp hw S₇) (fun fl s₂ ⟨fl', ρ₂, μ₂, st₂, S₂, hfl, q⟩ => ?_) fun _ _ y => y.no
  obtain ⟨m₂, hns₂, _⟩ := S₂.er.names
  refine wpAny_nameGoes hn hns₂ (by rw [S.er.kind]; rfl) fun h' m' hn' sb => ?_
  obtain ⟨S₈, st₈, mono⟩ := St.forget (n := s₂.toks + 1) (S₂.unmark (hd := hd) h0) hn' sb
  exact ⟨fl', _, μ₂, ((st₆.trans st₇).trans st₂).trans st₈, S₈, hfl.mono mono, q⟩

theorem more_sound (G : Good c sg) (I : InAir c fs μ μ' s s' x B C) (S : St c d hd A fs env ρ μ s) (h0 : A.handled = none) (tp : Top fs env) : ∀ {more : List (String × Pos × Mine.E × Pos × Pos)} {h : Heap}, okMore sg env.scope.names more = true → moreW sg (SC c d) x ρ μ' Q more →
    s'.heap.UpToSlots h → FlyC B fs e (.ref C) a0 h → wpAny (model c.prog c.w) A (handleBy (.ref e) env (toMore more)) (PostS c d hd A fs env μ s Q) E { s' with heap := h }
  | [], _, _, hw, _, _ => hw.elim
  | (n, pc, r, pr, ph) :: more, h, ok, hw, up, hf => by
    simp only [okMore, Bool.and_eq_true, beq_iff_eq, bne_iff_ne] at ok
    obtain ⟨⟨⟨⟨o1, o2⟩, o3⟩, o4⟩, o5⟩ := ok
    obtain ⟨S₅, st₅, he⟩ := I.land S up hf
    unfold moreW at hw
    refine handle_cons G S₅ (by simpa using o1) o2 o3 he (fun hy => ?_) fun hy => ?_
    · rw [if_pos hy] at hw
      refine suite_sound (sg := sg) (b := .ret r pr) (bs := []) (nr := false) I S h0 tp (sss fun t ht => ?_) (by simp only [okSs, okS_ret, o4, Bool.and_true]) ?_ up hf
      · rw [List.mem_singleton] at ht; subst ht; exact ss_ret G
      · exact hw
    · rw [if_neg (by rw [hy]; exact Bool.false_ne_true)] at hw
      exact more_sound G I S h0 tp o5 hw up hf
end

theorem ss_try (G : Good c sg) {body h : List S} {n : String} {as : Option String} {more : List (String × Pos × E × Pos × Pos)} {pc ph p : Pos} (hb : SSs c sg d body) (hh : SSs c sg d h) : SS c sg d (.try_ body n as h more pc ph p) := by
  intro nr hd A fs env ρ μ s Q X ok tp hw S
  simp only [okS_expr, okS_assign, okS_setattr, okS_setitem, okS_unpack, okS_ite, okS_for, okS_while, okS_ret, okS_raise, okS_try, Bool.and_eq_true, beq_iff_eq, bne_iff_ne, Bool.not_eq_true'] at ok
  obtain ⟨⟨⟨⟨⟨⟨⟨o1, o2⟩, o3⟩, o4⟩, o5⟩, o6⟩, o7⟩, o8⟩ := ok
  obtain ⟨rfl, hw⟩ := hw
  have h0 := S.aok.handled rfl
  obtain ⟨outer, hfs, hfr⟩ := id tp
  refine wpAny_Try_except (wpAny_mono (hb true false A fs env ρ μ s Q _ o1 tp hw S) (fun fl s₁ hp => ?_) fun re s' hx => ?_)
  · obtain ⟨fl', ρ₁, μ₁, st, S₁, hfl, q⟩ := hp
    cases hfl with
    | next => exact wpAny_execs_nil ⟨_, ρ₁, μ₁, st, S₁, .next, q⟩
    | ret hv => exact ⟨_, ρ₁, μ₁, st, S₁, .ret hv, q⟩
  · obtain ⟨e, x, ρ₁, μ₁, μ', s₁, rfl, st, S₁, hfly, hq⟩ := hx
    rcases hfly with hfly | ⟨q, _⟩
    · obtain ⟨B, C, a0, hC, hf, hr, hB⟩ := hfly.there
      have I : InAir c fs μ₁ μ' s₁ s' x B C := ⟨hfly.gens, hfly.drawn, hfly.os, hfly.kept, hC, hr, hB⟩
      refine looks_onH (hfs ▸ S.aok.frames) hfr (hfs ▸ hf) fun h₄ hh₄ up₄ => ?_
      refine landsC hh₄ fun h₅ hf₅ up₅ => ?_
      have up := up₄.trans up₅
      rw [← hfs] at hf₅
      obtain ⟨S₅, st₅, he⟩ := I.land S₁ up hf₅
      refine wpAny_mono (Q := PostS c d false A fs env μ₁ s₁ Q) (E := XPostS c d false A fs env nr μ s X) (handle_cons G S₅ (by simpa using o4) o5 o6 he (fun hy => ?_) fun hy => ?_) (fun _ _ y => y.after st) fun _ _ y => y
      · simp only [hy, if_true] at hq
        cases h with
        | nil => cases o2
        | cons b bs =>
          cases as with
          | none => exact suite_sound (s' := s') I S₁ h0 tp hh o3 hq up hf₅
          | some n => exact suite_as_sound (s' := s') I S₁ h0 tp (show env.scope.names.lookup _ = _ by simpa using o7) hh o3 hq up hf₅
      · simp only [hy, Bool.false_eq_true, if_false] at hq
        exact more_sound (s' := s') G I S₁ h0 tp o8 hq up hf₅
    · cases q

theorem soundS_lt (G : Good c sg) : ∀ (n : Nat) (t : S), sizeOf t < n → SS c sg d t := by
  intro n
  induction n with
  | zero => intro e h; exact absurd h (Nat.not_lt_zero _)
  | succ n ih =>
    intro t h
    have sub : ∀ l : List S, sizeOf l < n → SSs c sg d l := fun l hl => sss fun t ht => ih t (Nat.lt_trans (List.sizeOf_lt_of_mem ht) hl)
    cases t with
    | expr e p => exact ss_expr G
    | assign x e px p => exact ss_assign G
    | setattr o a e pa p => exact ss_setattr G
    | setitem o i e ps p => exact ss_setitem G
    | unpack xs e k pt p => exact ss_unpack G
    | ite e t f p => simp only [S.ite.sizeOf_spec] at h; exact ss_ite G (sub t (by omega)) (sub f (by omega))
    | for_ x e b px p => simp only [S.for_.sizeOf_spec] at h; exact ss_for G (sub b (by omega))
    | while_ e b p => simp only [S.while_.sizeOf_spec] at h; exact ss_while G (sub b (by omega))
    | ret e p => exact ss_ret G
    | raise n m pf pm pc p => exact ss_raise G
    | try_ b n as h' more pc ph p => simp only [S.try_.sizeOf_spec] at h; exact ss_try G (sub b (by omega)) (sub h' (by omega))
    | pass p => exact ss_pass
theorem soundSs (G : Good c sg) (t : List S) : SSs c sg d t := sss fun t _ => soundS_lt G (sizeOf t + 1) t (Nat.lt_succ_self _)
end
end Mine

set_option autoImplicit false
namespace Mine
set_option linter.unusedVariables false
set_option linter.unusedSimpArgs false
open PySem PySem.W PySem.Calls PyProof.Rows

/-- a function of the text -/
structure Def (c : Ctx) (sg : Sig) (f : String) (ps : List String) (body : List S) : Prop where
  limit : c.base.NoLimit
  def_ : ∃ fa o fd, c.fn f = some fa ∧ c.base.get? fa = some o ∧ o.data = .func fd ∧ fd.body = .stmts (toSs body) ∧ fd.closure = [] ∧ fd.globals = mainGlobals ∧ fd.builtins = builtinsNs ∧ c.base.CodeRec fd.code fd.qualname ∧
    fd.scope.kind = .function ∧ fd.scope.isCoroutine = false ∧ fd.scope.isGenerator = false ∧ (∀ rvs : List Value, rvs.length = ps.length → bindArgs fd ⟨rvs, []⟩ = pure ((ps.map Str.ofString).zip rvs)) ∧
    (ps.all fun p => isSto (fd.scope.names.lookup (Str.ofString p))) = true ∧ okSs sg false fd.scope.names body = true

theorem cellsFrom_has {x : Str} : ∀ (l : List (Str × NameKind)) (n : Nat) (acc : List (Str × Addr)), l.lookup x = some .cell ∨ (acc.lookup x).isSome = true → ((cellsFrom n l acc).lookup x).isSome = true
  | [], n, acc, h => by
    rcases h with h | h
    · cases h
    · exact h
  | (y, k) :: r, n, acc, h => by
    unfold cellsFrom
    by_cases hk : (k == NameKind.cell) = true
    · rw [if_pos hk]
      refine cellsFrom_has r _ _ ?_
      by_cases e : (x == y) = true
      · refine .inr ?_
        simp only [List.lookup_cons, e]; rfl
      · have e' : (x == y) = false := by simpa using e
        simp only [List.lookup_cons, e'] at h ⊢
        exact h
    · rw [if_neg hk]
      refine cellsFrom_has r _ _ ?_
      by_cases e : (x == y) = true
      · simp only [List.lookup_cons, e] at h
        rcases h with h | h
        · cases h; exact absurd rfl hk
        · exact .inr h
      · have e' : (x == y) = false := by simpa using e
        simp only [List.lookup_cons, e'] at h
        exact h

theorem apart_inj {cs : List (Str × Addr)} (h : cs.Pairwise fun x y => x.2 ≠ y.2) {x y : Str} {ca : Addr} (hx : (x, ca) ∈ cs) (hy : (y, ca) ∈ cs) : x = y := by
  induction h with
  | nil => cases hx
  | cons hd _ ih =>
    cases hx with
    | head => cases hy with
      | head => rfl
      | tail _ hy => exact absurd rfl (hd (y, ca) hy)
    | tail _ hx => cases hy with
      | head => exact absurd rfl (hd (x, ca) hx)
      | tail _ hy => exact ih hx hy

section
variable {c : Ctx} {sg : Sig} {d : Nat} {hd : Bool}

noncomputable def Has (c : Ctx) (k : Str → Option NameKind) (h : Heap) (m cm : Str → Option Value) (x : String) (v : V) : Prop :=
  (k (Str.ofString x) = some .local ∧ ∃ rv, m (Str.ofString x) = some rv ∧ RV c h rv v) ∨ (k (Str.ofString x) = some .cell ∧ ∃ rv, cm (Str.ofString x) = some rv ∧ RV c h rv v)

theorem binds_has {k : Str → Option NameKind} {h : Heap} : ∀ {ps : List String} {vs : List V} {rvs : List Value} {ρ ρ' : Loc} {m cm : Str → Option Value}, RVs c h rvs vs → bindAll ps vs ρ = some ρ' → (∀ p ∈ ps, k (Str.ofString p) = some .local ∨ k (Str.ofString p) = some .cell) →
    (∀ x v, ρ x = some v → Has c k h m cm x v) → ∀ x v, ρ' x = some v → Has c k h (bindL k ((ps.map Str.ofString).zip rvs) m) (bindC k ((ps.map Str.ofString).zip rvs) cm) x v
  | [], [], _, ρ, ρ', m, cm, hr, hb, _, hρ => by
    cases hr; cases hb; exact hρ
  | p :: ps, v :: vs, _, ρ, ρ', m, cm, hr, hb, hk, hρ => by
    cases hr with
    | @cons rv rvs _ _ hv hr =>
    simp only [bindAll] at hb
    simp only [List.map_cons, List.zip_cons_cons, bindL, bindC]
    refine binds_has hr hb (fun q hq => hk q (.tail _ hq)) fun x w e => ?_
    unfold updL at e
    split at e
    · rename_i hx; subst hx; cases e
      rcases hk x (.head _) with hk | hk
      · exact .inl ⟨hk, rv, by rw [if_pos hk]; simp, hv⟩
      · exact .inr ⟨hk, rv, by rw [if_neg (by rw [hk]; nofun)]; simp, hv⟩
    · rename_i hx
      have hne : Str.ofString x ≠ Str.ofString p := fun q => hx (ofString_inj q)
      rcases hρ x w e with ⟨h1, rw_, h2, h3⟩ | ⟨h1, rw_, h2, h3⟩
      · refine .inl ⟨h1, rw_, ?_, h3⟩
        split
        · simp only [hne, if_false]; exact h2
        · exact h2
      · refine .inr ⟨h1, rw_, ?_, h3⟩
        split
        · exact h2
        · simp only [hne, if_false]; exact h2
  | [], _ :: _, _, _, _, _, _, _, hb, _, _ => by cases hb
  | _ :: _, [], _, _, _, _, _, _, hb, _, _ => by cases hb

theorem bindAll_length : ∀ {ps : List String} {vs : List V} {ρ ρ' : Loc}, bindAll ps vs ρ = some ρ' → ps.length = vs.length
  | [], [], _, _, _ => rfl
  | _ :: ps, _ :: vs, _, _, h => by simp only [bindAll] at h; simp [bindAll_length h]
  | [], _ :: _, _, _, h => by cases h
  | _ :: _, [], _, _, h => by cases h

/-- a call of a function of the text -/
theorem sc_intro (G : Good c sg) {f : String} {ps : List String} {body : List S} (D : Def c sg f ps body) {vs : List V} {ρ₀ : Loc} {μ : Mem} {Q : V → Mem → Prop} {X : String → Mem → Prop} (hb : bindAll ps vs (fun _ => none) = some ρ₀)
    (h : wpSs sg (SC c d) hd body ρ₀ μ (fun fl _ μ' => match fl with | .ret v => Q v μ' | .next => Q .none μ') (fun x _ μ' => X x μ')) : SC c (d + 1) hd f vs μ Q X := by
  obtain ⟨hlim, fa, o, fd, hfn, ho, hdata, hbody, hclo, hglob, hblt, hcd, hk, hco, hgen, hbind, hps, hok⟩ := D
  refine ⟨fa, hfn, fun A fs s rvs aok r hr => ?_⟩
  have hlen : rvs.length = ps.length := by rw [hr.length, bindAll_length hb]
  have room := aok.room
  have units := aok.units
  refine codeAny_call_function (by show A.depth < 1000; omega) (r.base _ _ ho) hdata hco hgen hbody (hcd.keeps r.base) ?_
  rw [hbind rvs hlen, hclo, hglob, hblt]
  refine wpAny_pure (wpAny_newFunctionEnv_cells hk (fun x hx => ?_) fun env he s₁ x => ?_)
  · obtain ⟨p, hp, e⟩ := List.mem_map.mp (List.of_mem_zip (a := x.1) (b := x.2) hx).1
    have := List.all_eq_true.mp hps p hp
    unfold isSto at this
    rw [← e]
    split at this
    · rename_i q; exact .inl q
    · rename_i q; exact .inr ⟨q, cellsFrom_has _ _ _ (.inl q)⟩
    · cases this
  subst he
  refine ⟨(hlim.keeps r.base).keeps x.toInCall.keep, codeAny_func ?_⟩
  obtain ⟨h₁, tk, rfl, _⟩ := x.done
  have keep := x.toInCall.keep
  have r₁ : Rel c μ h₁ := r.keeps keep
  have nL : s.heap.get? s.heap.objs.size = none := Heap.get?_none_of_le (Nat.le_refl _)
  have freeB : ∀ b, s.heap.get? b = none → c.base.get? b = none := fun b hb => by
    cases q : c.base.get? b with
    | none => rfl
    | some o => have := r.base b o q; rw [hb] at this; cases this
  have cellN : ∀ y ca, (cellsFrom (s.heap.objs.size + 1) fd.scope.names []).lookup y = some ca → s.heap.get? ca = none := fun y ca e =>
    Heap.get?_none_of_le (Nat.le_of_lt (x.above y ca (lookup_mem e)))
  obtain ⟨oL, esL, epL, hoL, hdL, rL⟩ := id x.toInCall.ns
  let env := newEnv fd.scope s.heap.objs.size mainGlobals (cellsFrom (s.heap.objs.size + 1) fd.scope.names []) (fd.qualname ++ ".<locals>.") (some fa) fd.code none builtinsNs
  have er : ER c env ρ₀ μ h₁ := by
    refine ⟨hk, rfl, rfl, r.free nL, freeB _ nL, fun y ca e => ?_, fun y z ca e1 e2 => apart_inj x.apart (lookup_mem e1) (lookup_mem e2), fun y hy => cellsFrom_has _ _ _ (.inl hy), _, x.toInCall.ns, fun y v e => ?_⟩
    · exact ⟨⟨_, x.cell y ca e⟩, r.free (cellN y ca e), freeB _ (cellN y ca e)⟩
    · have hr₁ : RVs c h₁ rvs vs := hr.mono r (.of_keeps fun b o e _ => keep b o e)
      have := binds_has (k := env.kindOf) (m := fun _ => none) (cm := fun _ => none) hr₁ hb (fun p hp => by
        have := List.all_eq_true.mp hps p hp
        exact sto this) (fun _ _ e => by cases e) y v e
      rcases this with ⟨h1, rv, h2, h3⟩ | ⟨h1, rv, h2, h3⟩
      · exact .inl ⟨h1, rv, h2, h3⟩
      · obtain ⟨ca, hca⟩ := Option.isSome_iff_exists.mp (cellsFrom_has (x := Str.ofString y) fd.scope.names (s.heap.objs.size + 1) [] (.inl h1))
        have hc := x.cell _ _ hca
        refine .inr ⟨.inl h1, ca, rv, hca, ?_, h3⟩
        rw [← h2]; exact hc
  have fnew : ∀ L ∈ frs fs, L ≠ s.heap.objs.size := fun L hL q => by
    obtain ⟨_, o, ho, _⟩ := aok.fun_.mem hL
    rw [q, nL] at ho; cases ho
  have frsE : frs (env :: fs) = s.heap.objs.size :: frs fs := rfl
  have aok' : AOK c d hd (A.deeper env) (env :: fs) μ h₁ := by
    refine ⟨?_, ?_, ?_, aok.handled, ?_, fun L hL => ?_, fun L hL => ?_, aok.caught.of fun b o vs e _ _ hm => ⟨hm, keep b o e⟩⟩
    · show A.frames.map _ = _
      rw [aok.frames]; rfl
    · show A.depth + 1 + 3 * d < 900
      omega
    · show A.units + 3 + 100 * d + 200 < cLine
      omega
    · refine ⟨by show fd.scope.kind ≠ _; rw [hk]; nofun, ⟨s.heap.objs.size, oL, rfl, freeB _ nL, hoL, fun vs q => by rw [hdL] at q; cases q⟩, ?_⟩
      exact aok.fun_.of_keeps fun b o e _ => ⟨o, keep b o e, rfl⟩
    · rw [frsE] at hL
      rcases List.mem_cons.mp hL with rfl | hL
      · exact r.free nL
      · exact aok.priv L hL
    · rw [frsE] at hL
      rcases List.mem_cons.mp hL with rfl | hL
      · exact ⟨oL, _, _, hoL, hdL⟩
      · obtain ⟨o, es, n, ho, hd⟩ := aok.dicts L hL
        exact ⟨o, es, n, keep _ _ ho, hd⟩
  have S₁ : St c d hd (A.deeper env) (env :: fs) env ρ₀ μ { s with heap := h₁, toks := tk } := ⟨r₁, er, aok', by show A.depth + 1 + 3 * d + 2 < 900; omega, by show A.units + 3 + 100 * d + 250 < cLine; omega, ⟨env, fs, _, rfl, rfl, rfl⟩⟩
  have npv : ∀ b o, s.heap.get? b = some o → ¬ pv env b := by
    rintro b o e (q | ⟨y, q⟩)
    · rw [q] at e; rw [show s.heap.get? env.locals = none from nL] at e; cases e
    · rw [cellN y b q] at e; cases e
  have nfr : ∀ b o, s.heap.get? b = some o → b ∉ frs fs → b ∉ frs (env :: fs) := fun b o e hb hb' => by
    rw [frsE] at hb'
    rcases List.mem_cons.mp hb' with q | q
    · rw [q, nL] at e; cases e
    · exact hb q
  have kept₁ : ∀ {μ₂ : Mem} {s₂ : Shared}, StepS c (env :: fs) env μ μ₂ { s with heap := h₁, toks := tk } s₂ → ∀ b o, s.heap.get? b = some o → μ b = none → μ₂ b = none ∧ ∃ sl, s₂.heap.get? b = some { o with slots := sl } ∧ (b ∉ frs fs ∨ (∃ vs, o.data = .fields vs) → sl = o.slots) := fun st b o e hm => by
    obtain ⟨m', sl, e', q⟩ := st.kept b o (keep b o e) hm (npv b o e)
    exact ⟨m', sl, e', fun z => q (z.imp (fun z => nfr b o e z) id)⟩
  refine wpAny_mono (soundSs G body false hd _ (env :: fs) env ρ₀ μ _ _ _ hok ⟨fs, rfl, rfl⟩ h S₁) (fun fl s₂ ⟨fl', ρ₂, μ₂, st, S₂, hfl, q⟩ => ?_) fun re s' hx => ?_
  · have stp : Step c fs μ μ₂ s s₂ := ⟨st.gens, st.drawn, st.os, S₂.rel, kept₁ st⟩
    cases hfl with
    | next => exact ⟨.none, μ₂, stp, .none, q⟩
    | ret hv => exact ⟨_, μ₂, stp, hv, q⟩
  · obtain ⟨e, x', ρ₁, μ₁, μ', s₁, rfl, st, S', hfly, hq⟩ := hx
    have frE : (A.deeper env).frames = some (env :: fs) := aok'.frames
    rcases hfly with hfly | ⟨_, rfl, hg, hdr, hos, C, args, hC, hmade⟩
    · obtain ⟨B, C, a0, hC, hf, hrB, hB⟩ := hfly.there
      refine leaves_onH frE rfl hf fun h' hf' up => ?_
      have hB' : ∀ b o, s.heap.get? b = some o → μ b = none → b ∉ frs fs → B.get? b = some o := fun b o e hm hb => by
        obtain ⟨m₁, sl, e₁, q⟩ := kept₁ st b o e hm
        rw [q (.inl hb)] at e₁
        exact hB b o e₁ m₁ (nfr b o e hb)
      refine ⟨e, x', μ', rfl, ⟨hfly.gens.trans st.gens, hfly.drawn.trans st.drawn, hfly.os.trans st.os, ⟨B, C, a0, hC, hf'.h, hrB, hB'⟩, fun b o e hm => ?_⟩, hq⟩
      obtain ⟨m₁, sl, e₁, q₁⟩ := kept₁ st b o e hm
      obtain ⟨m₂, sl₂, e₂, q₂⟩ := hfly.kept b _ e₁ m₁
      refine ⟨m₂, ?_⟩
      by_cases hb : b ∈ frs fs
      · obtain ⟨_, o', ho', hd'⟩ := aok.fun_.mem hb
        rw [e] at ho'; cases ho'
        obtain ⟨sl₃, e₃⟩ := up b _ e₂ hd'
        exact ⟨sl₃, e₃, fun z => z.elim (fun z => (z hb).elim) fun ⟨vs, z⟩ => (hd' vs z).elim⟩
      · exact ⟨o.slots, hf'.1.1 _ _ (hB' b o e hm hb), fun _ => rfl⟩
    · have hrB : Rel c μ' (hideAll s₁.heap (frs (env :: fs))) := S'.rel.hide (fun a ha => (S'.aok.fun_.mem ha).1) S'.aok.priv S'.aok.dicts
      refine leaves_madeC frE rfl (fun b o q => of_hideAll _ q) (funFrames_hide S'.aok.fun_ fun env' he b hb => List.mem_filterMap.mpr ⟨env', he, hb⟩) hmade fun h' t hf' up => ?_
      have hB' : ∀ b o, s.heap.get? b = some o → μ b = none → b ∉ frs fs → (hideAll s₁.heap (frs (env :: fs))).get? b = some o := fun b o e hm hb => by
        obtain ⟨m₁, sl, e₁, q⟩ := kept₁ st b o e hm
        rw [q (.inl hb)] at e₁
        exact hideAll_get _ e₁ (nfr b o e hb)
      refine ⟨e, x', μ', rfl, ⟨hg.trans st.gens, hdr.trans st.drawn, hos.trans st.os, ⟨_, C, _, hC, hf'.h, hrB, hB'⟩, fun b o e hm => ?_⟩, hq⟩
      obtain ⟨m₁, sl, e₁, q₁⟩ := kept₁ st b o e hm
      refine ⟨m₁, ?_⟩
      by_cases hb : b ∈ frs fs
      · obtain ⟨_, o', ho', hd'⟩ := aok.fun_.mem hb
        rw [e] at ho'; cases ho'
        obtain ⟨sl₃, e₃⟩ := up b _ (hmade.keeps _ _ e₁) hd'
        exact ⟨sl₃, e₃, fun z => z.elim (fun z => (z hb).elim) fun ⟨vs, z⟩ => (hd' vs z).elim⟩
      · exact ⟨o.slots, hf'.1.1 _ _ (hB' b o e hm hb), fun _ => rfl⟩
end
end Mine

set_option autoImplicit false
namespace Mine
set_option linter.unusedVariables false
set_option linter.unusedSimpArgs false
open PySem PySem.W PySem.Calls PyProof.Rows

noncomputable def fdOf (K : Frag) (fa : Addr) : Option FuncData := match K.lookup fa with
  | some o => (match o.data with | .func fd => some fd | _ => none)
  | none => none

theorem def_of {c : Ctx} {sg : Sig} {f : String} {ps : List String} {body : List S} {fa : Addr} (hK : c.K.In c.base) (hl : c.base.NoLimit) (hf : c.fn f = some fa)
    (h1 : (fdOf c.K fa).map (fun fd => fd.body) = some (.stmts (toSs body)))
    (h2 : (fdOf c.K fa).map (fun fd => (fd.closure, fd.globals, fd.builtins, fd.scope.kind, fd.scope.isCoroutine, fd.scope.isGenerator)) = some ([], mainGlobals, builtinsNs, .function, false, false))
    (h3 : (fdOf c.K fa).map (fun fd => codeIn c.K fd.code fd.qualname && ((ps.all fun p => isSto (fd.scope.names.lookup (Str.ofString p))) && okSs sg false fd.scope.names body)) = some true)
    (h5 : ∀ rvs : List Value, rvs.length = ps.length → (fdOf c.K fa).map (fun fd => bindArgs fd ⟨rvs, []⟩) = some (pure ((ps.map Str.ofString).zip rvs))) : Def c sg f ps body := by
  cases e : fdOf c.K fa with
  | none => rw [e] at h1; cases h1
  | some fd =>
    rw [e] at h1 h2 h3 h5
    simp only [Option.map_some, Option.some.injEq, Prod.mk.injEq, Bool.and_eq_true] at h1 h2 h3 h5
    unfold fdOf at e
    split at e
    · rename_i o ho
      split at e
      · rename_i fd' hd
        cases e
        exact ⟨hl, fa, o, fd, hf, hK _ _ ho, hd, h1, h2.1, h2.2.1, h2.2.2.1, codeRec_of hK h3.1, h2.2.2.2.1, h2.2.2.2.2.1, h2.2.2.2.2.2, h5, h3.2.1, h3.2.2⟩
      · cases e
    · cases e

theorem len1 {P : List Value → Prop} (h : ∀ a, P [a]) : ∀ l : List Value, l.length = 1 → P l := fun l e => by
  obtain ⟨a, rfl⟩ := List.length_eq_one_iff.mp e; exact h a
theorem lenS {n : Nat} {P : List Value → Prop} (h : ∀ a, ∀ l : List Value, l.length = n → P (a :: l)) : ∀ l : List Value, l.length = n + 1 → P l := fun l e => by
  cases l with
  | nil => cases e
  | cons a l => exact h a l (Nat.succ.inj e)
theorem len2 {P : List Value → Prop} (h : ∀ a b, P [a, b]) : ∀ l : List Value, l.length = 2 → P l := lenS fun a => len1 (h a)
theorem len3 {P : List Value → Prop} (h : ∀ a b c, P [a, b, c]) : ∀ l : List Value, l.length = 3 → P l := lenS fun a => len2 (h a)
theorem forall_lookup {α β : Type} [BEq α] [LawfulBEq α] {P : α → β → Prop} {tab : List (α × β)} (h : ∀ p ∈ tab, P p.1 p.2) : ∀ x v, tab.lookup x = some v → P x v := fun x v e => h (x, v) (lookup_mem e)

noncomputable def chkCls (K : Frag) (C : Addr) : Bool := findIn K (.ref C) "__getattribute__" == some (some (.builtin "object.__getattribute__")) && findIn K (.ref C) "__getattr__" == some none &&
  findIn K (.ref C) "__setattr__" == some (some (.builtin "object.__setattr__")) && hasDictIn K C && plainOver K C
noncomputable def chkMeth (K : Frag) (clsT fnT : List (String × Addr)) (p : String × String) : Bool := match clsT.lookup p.1, fnT.lookup (p.1 ++ "." ++ p.2) with
  | some C, some f => findIn K (.ref C) (Str.ofString p.2) == some (some (.ref f)) && typeIn K (.ref f) == some (.type "function") && keepIn K (.ref f)
  | _, _ => false
noncomputable def chkFn (K : Frag) (fnT : List (String × Addr)) (f : String) : Bool := match fnT.lookup f with
  | some fa => nsIn K mainGlobals (Str.ofString f) == some (some (.ref fa)) && keepIn K (.ref fa)
  | none => false
noncomputable def chkNew (K : Frag) (clsT fnT : List (String × Addr)) (x : String) : Bool := match clsT.lookup x, fnT.lookup (x ++ ".__init__") with
  | some C, some fI => nsIn K mainGlobals (Str.ofString x) == some (some (.ref C)) && makesIn K C && keepIn K (.ref C) && findIn K (.ref C) "__init__" == some (some (.ref fI)) && typeIn K (.ref fI) == some (.type "function")
  | _, _ => false
noncomputable def chkConst (K : Frag) (p : String × V) : Bool := match p.2, nsIn K mainGlobals (Str.ofString p.1) with
  | .int i, some (some (.int j _)) => i == j
  | .str x, some (some (.str y _)) => x == y
  | .gd _, _ => true
  | _, _ => false
noncomputable def chkExc (K : Frag) (C : Addr) : Bool := (clsIn K C).isSome && findIn K (.ref C) "__getattribute__" == some (some (.builtin "BaseException.__getattribute__")) && findIn K (.ref C) "__getattr__" == some none &&
  findIn K (.ref C) "__class__" == some (some (.builtin "object.__class__")) && specialIn K (.builtin "object.__class__") "__get__" == some (some (.builtin "getset_descriptor.__get__")) && takesIn K (.builtin "object.__class__") == some true &&
  mroIn K C (.type "object") == some true && mroIn K C (.type "BaseException") == some true && kitOne K (.ref C) (.type "ValueError") == some true
noncomputable def chkGood (K : Frag) (sg : Sig) (clsT excT fnT : List (String × Addr)) : Bool :=
  (clsT.all fun p => chkCls K p.2) && (clsT.all fun p => sg.attrs.all fun a => findIn K (.ref p.2) (Str.ofString a) == some none) && (sg.meths.all (chkMeth K clsT fnT)) && (sg.fns.all (chkFn K fnT)) && (sg.clss.all (chkNew K clsT fnT)) &&
  (("isinstance" :: bltNames ++ tyNames).all fun f => nsIn K mainGlobals (Str.ofString f) == some none) && (excT.all fun p => nsIn K mainGlobals (Str.ofString p.1) == some (some (.ref p.2)) && excIn K p.2 vErr "ValueError.__new__") &&
  (sg.excs.all fun x => (excT.lookup x).isSome) && (excT.all fun p => excT.all fun q => exmOne K (.ref p.2) (.ref q.2) == some (isSub p.1 q.1)) && (excT.all fun p => chkExc K p.2) && (excT.all fun p => excT.all fun q => kitOne K (.ref p.2) (.ref q.2) == some (isSub p.1 q.1)) && (sg.consts.all (chkConst K))

noncomputable def ctxOf (prog : Program) (w : World) (K : Frag) (base : Heap) (clsT excT fnT : List (String × Addr)) : Ctx := ⟨prog, w, K, base, fun x => clsT.lookup x, fun x => excT.lookup x, fun x => fnT.lookup x⟩

/-- a dict of the top: words with their numbers -/
inductive SdEs (P : Params) : List DictEntry → List (String × Int) → Prop
  | nil : SdEs P [] []
  | cons {k : String} {i : Int} {t t' : Tok} {es : List DictEntry} {kvs : List (String × Int)} : SdEs P es kvs → SdEs P (⟨PyData.keyHash P (Str.ofString k), .str (Str.ofString k) t, .int i t'⟩ :: es) ((k, i) :: kvs)
theorem SdEs.pairs {prog : Program} {w : World} : ∀ {es : List DictEntry} {kvs : List (String × Int)}, SdEs w.params es kvs → ∃ rs, Pairs (strKind prog w) es rs ∧ SdAre rs kvs ∧ (∀ e ∈ es, ∃ k, (strKind prog w).is k e.key = true ∧ e.hash = (strKind prog w).hash k) ∧ rs.map (·.1) = kvs.map fun q => Str.ofString q.1
  | _, _, .nil => ⟨[], .nil, .nil, (fun _ h => nomatch h), rfl⟩
  | _, _, .cons (k := k) (i := i) (t' := t') h => by
    obtain ⟨rs, h1, h2, h3, h4⟩ := SdEs.pairs (prog := prog) h
    refine ⟨(Str.ofString k, .int i t') :: rs, .cons (strKind_is _ _ _ _) rfl h1, .cons h2, fun e he => ?_, by simp [h4]⟩
    cases he with
    | head => exact ⟨Str.ofString k, strKind_is _ _ _ _, rfl⟩
    | tail _ he => exact h3 e he
noncomputable def GdOk (prog : Program) (w : World) (K : Frag) (base : Heap) (x : String) (kvs : List (String × Int)) : Prop :=
  ∃ a rs, nsIn K mainGlobals (Str.ofString x) = some (some (.ref a)) ∧ base.DictOf (strKind prog w) a rs ∧ SdAre rs kvs ∧ (a == sysModules) = false
theorem gd_of {prog : Program} {w : World} {K : Frag} {base : Heap} {x : String} {kvs : List (String × Int)} {a : Addr} {es : List DictEntry} {ep : Nat} (X : K.In base) (h1 : nsIn K mainGlobals (Str.ofString x) = some (some (.ref a)))
    (h2 : K.lookup a = some { cls := .type "dict", data := .dict es.toArray ep }) (h3 : SdEs w.params es kvs) (h4 : (kvs.map (·.1)).Nodup) (h5 : (a == sysModules) = false) : GdOk prog w K base x kvs := by
  obtain ⟨rs, g1, g2, g3, g4⟩ := h3.pairs (prog := prog)
  refine ⟨a, rs, h1, ⟨_, es.toArray, ep, X _ _ h2, ⟨rfl, rfl, rfl⟩, rfl, fun e he => g3 e (by simpa using he), g1, ?_⟩, g2, h5⟩
  rw [g4]
  have : (kvs.map (·.1)).map Str.ofString = kvs.map (fun q => Str.ofString q.1) := by rw [List.map_map]; rfl
  rw [← this]
  exact List.pairwise_map.mpr (List.Pairwise.imp (fun h q => h (ofString_inj q)) h4)

theorem good_of {prog : Program} {w : World} {K : Frag} {base : Heap} {sg : Sig} {clsT excT fnT : List (String × Addr)} {p : Program} {loose : List Str} {mg mb : Str → Option Value} (X : K.In base) (T : TopRead p loose mg mb base) (h : chkGood K sg clsT excT fnT = true) (hgd : ∀ x kvs, sg.consts.lookup x = some (.gd kvs) → GdOk prog w K base x kvs) :
    Good (ctxOf prog w K base clsT excT fnT) sg := by
  unfold chkGood at h
  simp only [Bool.and_eq_true, List.all_eq_true] at h
  obtain ⟨⟨⟨⟨⟨⟨⟨⟨⟨⟨⟨h1, h2⟩, h3⟩, h4⟩, h5⟩, h6⟩, h7⟩, h8⟩, h9⟩, h11⟩, h12⟩, h10⟩ := h
  refine ⟨X, ⟨p, loose, mg, mb, T⟩, forall_lookup fun q hq => ?_, fun x C a hx ha => ?_, fun x C m hx hm => ?_, fun f hf => ?_, fun x hx => ?_, fun f hf => ?_, forall_lookup fun q hq => ?_, fun x hx => ?_, fun x y C D hx hy => ?_, forall_lookup fun q hq => ?_, fun x y C D hx hy => ?_, fun x v hx => ?_⟩
  · have := h1 q hq
    simp only [chkCls, Bool.and_eq_true, beq_iff_eq] at this
    exact ⟨this.1.1.1.1, this.1.1.1.2, this.1.1.2, this.1.2, this.2⟩
  · exact beq_iff_eq.mp (h2 _ (lookup_mem hx) a ha)
  · have := h3 _ hm
    unfold chkMeth at this
    split at this
    · rename_i C' f e1 e2
      simp only [Bool.and_eq_true, beq_iff_eq] at this
      have hx' : clsT.lookup x = some C := hx
      rw [hx'] at e1; cases e1
      exact ⟨f, e2, this.1.1, this.1.2, this.2⟩
    · cases this
  · have := h4 f hf
    unfold chkFn at this
    split at this
    · rename_i fa e
      simp only [Bool.and_eq_true, beq_iff_eq] at this
      exact ⟨fa, e, this.1, this.2⟩
    · cases this
  · have := h5 x hx
    unfold chkNew at this
    split at this
    · rename_i C fI e1 e2
      simp only [Bool.and_eq_true, beq_iff_eq] at this
      exact ⟨C, fI, e1, this.1.1.1.1, this.1.1.1.2, this.1.1.2, e2, this.1.2, this.2⟩
    · cases this
  · exact beq_iff_eq.mp (h6 f hf)
  · have := h7 q hq
    simp only [Bool.and_eq_true, beq_iff_eq] at this
    exact this
  · exact Option.isSome_iff_exists.mp (h8 x hx)
  · exact beq_iff_eq.mp (h9 _ (lookup_mem hx) _ (lookup_mem hy))
  · have := h11 q hq
    simp only [chkExc, Bool.and_eq_true, beq_iff_eq] at this
    exact ⟨⟨this.1.1.1.1.1.1.1.1, this.1.1.1.1.1.1.1.2, this.1.1.1.1.1.1.2, this.1.1.1.1.1.2, this.1.1.1.1.2, this.1.1.1.2, this.1.1.2, this.1.2⟩, this.2⟩
  · exact beq_iff_eq.mp (h12 _ (lookup_mem hx) _ (lookup_mem hy))
  · have := h10 _ (lookup_mem hx)
    unfold chkConst at this
    split at this
    · rename_i i j t e1 e2
      have e1' : v = V.int i := e1
      subst e1'
      have := beq_iff_eq.mp this
      subst this
      exact ⟨_, e2, fun h => .int _ _⟩
    · rename_i i j t e1 e2
      have e1' : v = V.str i := e1
      subst e1'
      have := beq_iff_eq.mp this
      subst this
      exact ⟨_, e2, fun h => .str _ _⟩
    · rename_i kvs e1
      have e1' : v = V.gd kvs := e1
      subst e1'
      obtain ⟨a, rs, g1, g2, g3, g4⟩ := hgd x kvs hx
      exact ⟨_, g1, fun h => .gd g2 g3 g4⟩
    · cases this
end Mine

set_option autoImplicit false
namespace Mine
set_option linter.unusedVariables false
set_option linter.unusedSimpArgs false
open PySem PySem.W PySem.Calls PyProof.Rows

theorem top_sound {c : Ctx} {s₁ : Shared} {d : Nat} {fa l : Addr} {vs : List Value} {ns : List Int} {R : Result → Shared → Prop} (hb : c.base = s₁.heap) (hd : d ≤ 60) (hfn : c.fn "law" = some fa) (hL : s₁.heap.IsList l vs.toArray) (hI : IntsAre vs ns) (hn : ns.length ≤ lim)
    (h : SC c d false "law" [.frz ns] (fun _ => none) (fun v _ => v = .bool true) (fun _ _ => False))
    (hR : ∀ s', (∀ b o, s₁.heap.get? b = some o → s'.heap.get? b = some o) → s'.os = s₁.os → s'.gens = s₁.gens → R (.ok (.ret (.bool true))) s') :
    codeAny (model c.prog c.w) callerA (.call (.ref fa) ⟨[.ref l], []⟩) R s₁ := by
  obtain ⟨fa', hfn', h⟩ := h
  rw [hfn] at hfn'; cases hfn'
  obtain ⟨o, ho, hc, n, hdt⟩ := hL
  have aok : AOK c d false callerA [] (fun _ => none) s₁.heap := ⟨rfl, by show 1 + 300 + 3 * d < 900; omega, by show 4 + 100 * d + 200 < 9900; omega, fun _ => rfl, trivial, nofun, nofun, nofun⟩
  refine codeAny_mono (h callerA [] s₁ [.ref l] aok ⟨fun b o e => by rw [← hb]; exact e, nofun⟩ (.cons (.frz (by rw [hb]; exact ho) hc hdt (by simpa using hI) hn) .nil)) fun r s' hr => ?_
  rcases r with re | (_ | _ | _ | v)
  · obtain ⟨_, _, _, _, _, f⟩ := hr; exact f.elim
  · exact hr.elim
  · exact hr.elim
  · exact hr.elim
  · obtain ⟨v', μ', st, hv, rfl⟩ := hr
    cases hv
    refine hR s' (fun b o e => ?_) st.os st.gens
    exact st.kept.exact e rfl (by simp [frs])
end Mine

set_option autoImplicit false
namespace Mine
set_option linter.unusedVariables false
set_option linter.unusedSimpArgs false
open PySem

theorem sc_up {c : Ctx} {d d' : Nat} {hd : Bool} {f : String} {vs : List V} {μ : Mem} {Q : V → Mem → Prop} {X : String → Mem → Prop} (h : SC c d hd f vs μ Q X) (hdd : d ≤ d') : SC c d' hd f vs μ Q X := by
  obtain ⟨fa, hf, h⟩ := h
  refine ⟨fa, hf, fun A fs s rvs aok => h A fs s rvs ⟨aok.frames, ?_, ?_, aok.handled, aok.fun_, aok.priv, aok.dicts, aok.caught⟩⟩
  · have := aok.room; omega
  · have := aok.units; omega

noncomputable def fq (Q : V → Mem → Prop) : Fl → Loc → Mem → Prop := fun fl _ μ' => match fl with | .ret v => Q v μ' | .next => Q .none μ'
theorem fq_ret {Q : V → Mem → Prop} {v : V} {ρ : Loc} {μ : Mem} (h : Q v μ) : fq Q (.ret v) ρ μ := h
theorem fq_next {Q : V → Mem → Prop} {ρ : Loc} {μ : Mem} (h : Q .none μ) : fq Q .next ρ μ := h
theorem sq_next {R : Loc → Mem → Prop} {Q : Fl → Loc → Mem → Prop} {ρ : Loc} {μ : Mem} (h : R ρ μ) : sq R Q .next ρ μ := h
theorem sq_ret {R : Loc → Mem → Prop} {Q : Fl → Loc → Mem → Prop} {v : V} {ρ : Loc} {μ : Mem} (h : Q (.ret v) ρ μ) : sq R Q (.ret v) ρ μ := h

/-! What follows a step is a word of its own (no binder), so that the proofs' terms are shared. -/
noncomputable def xW (X : String → Loc → Mem → Prop) (ρ : Loc) : String → Mem → Prop := fun x μ => X x ρ μ
noncomputable def fx (X : String → Mem → Prop) : String → Loc → Mem → Prop := fun x _ μ => X x μ
theorem call_in {c : Ctx} {sg : Sig} {d : Nat} {hd : Bool} (G : Good c sg) {f : String} {ps : List String} {body : List S} (D : Def c sg f ps body) {vs : List V} {ρ₀ : Loc} {μ : Mem} {Q : V → Mem → Prop} {X : String → Mem → Prop} (hb : bindAll ps vs (fun _ => none) = some ρ₀)
    (h : wpSs sg (SC c d) hd body ρ₀ μ (fq Q) (fx X)) : SC c (d + 1) hd f vs μ Q X := sc_intro G D hb h

noncomputable def setA (k : Mem → Prop) (a : String) (v w : V) (μ : Mem) : Prop := match w with
  | .ref x => (match μ x with
    | some (.inst _ d) => (match μ d with
      | some (.attrs fs) => fs.length < 900 ∧ k (updM μ d (.attrs (putA a v fs)))
      | _ => False)
    | _ => False)
  | _ => False
noncomputable def setI (k : Mem → Prop) (v w j : V) (μ : Mem) : Prop := match w, j with
  | .ref x, .int i => (match μ x with
    | some (.list l) => 0 ≤ i ∧ i < l.length ∧ k (updM μ x (.list (l.set i.toNat v)))
    | _ => False)
  | _, _ => False
noncomputable def lstK (Q : V → Mem → Prop) (m : String) (a : Addr) (vs : List V) (μ : Mem) : Prop := lstW m a vs μ Q
noncomputable def ownK (sc : Bool → Sc) (hd : Bool) (X : String → Mem → Prop) (Q : V → Mem → Prop) (f : String) (x : Addr) (vs : List V) (μ : Mem) : Prop := sc hd f (.ref x :: vs) μ Q X
noncomputable def methW (sg : Sig) (sc : Bool → Sc) (hd : Bool) (X : String → Mem → Prop) (ρ : Loc) (Q : V → Mem → Prop) (es : List E) (m : String) (v : V) (μ : Mem) : Prop := match calO sg μ v m with
  | some (.own f a) => wpEs sg sc hd es ρ μ (fun vs μ₂ => sc hd f (.ref a :: vs) μ₂ Q X) X
  | some (.lst m a) => wpEs sg sc hd es ρ μ (fun vs μ₂ => lstW m a vs μ₂ Q) X
  | some (.str m x) => wpEs sg sc hd es ρ μ (fun vs μ₂ => strW m x vs μ₂ Q) X
  | none => False
theorem meth_lst {sg : Sig} {sc : Bool → Sc} {hd : Bool} {X : String → Mem → Prop} {ρ : Loc} {μ : Mem} {Q : V → Mem → Prop} {es : List E} {x : Addr} {m : String} {l : List V} (hx : μ x = some (.list l)) (hm : m = "append" ∨ m = "extend" ∨ m = "pop" ∨ m = "reverse" ∨ m = "clear" ∨ m = "count")
    (h : wpEs sg sc hd es ρ μ (lstK Q m x) X) : methW sg sc hd X ρ Q es m (.ref x) μ := by
  unfold methW calO; simp only [hx, hm, if_true]; exact h
noncomputable def strK (Q : V → Mem → Prop) (m : String) (x : Str) (vs : List V) (μ : Mem) : Prop := strW m x vs μ Q
theorem meth_str {sg : Sig} {sc : Bool → Sc} {hd : Bool} {X : String → Mem → Prop} {ρ : Loc} {μ : Mem} {Q : V → Mem → Prop} {es : List E} {x : Str} {m : String} (hm : m = "split" ∨ m = "rfind" ∨ m = "join")
    (h : wpEs sg sc hd es ρ μ (strK Q m x) X) : methW sg sc hd X ρ Q es m (.str x) μ := by
  unfold methW calO; simp only [hm, if_true]; exact h
theorem k_own {sc : Bool → Sc} {hd : Bool} {X : String → Mem → Prop} {Q : V → Mem → Prop} {f : String} {x : Addr} {vs : List V} {μ : Mem} (h : sc hd f (.ref x :: vs) μ Q X) : ownK sc hd X Q f x vs μ := h
noncomputable def isiW (Q : V → Mem → Prop) (c : Cl) (v : V) (μ : Mem) : Prop := match isiO μ v c with | some b => Q (.bool b) μ | none => False
theorem isi_in {μ : Mem} {Q : V → Mem → Prop} {cl : Cl} {v : V} {b : Bool} (e : isiO μ v cl = some b) (h : Q (.bool b) μ) : isiW Q cl v μ := by unfold isiW; rw [e]; exact h

section
variable (sg : Sig) (sc : Bool → Sc) (hd : Bool) (X : String → Mem → Prop) (ρ : Loc) (Q : V → Mem → Prop)
noncomputable def binK (op : Operator) (a b : V) (μ : Mem) : Prop := binW op a b μ Q
noncomputable def bin1 (op : Operator) (r : E) (a : V) (μ : Mem) : Prop := wpE sg sc hd r ρ μ (binK Q op a) X
noncomputable def negK (v : V) (μ : Mem) : Prop := asInt v fun i => Q (.int (-i)) μ
noncomputable def notK (v : V) (μ : Mem) : Prop := tr v fun b => Q (.bool (!b)) μ
noncomputable def andK (es : List E) (v : V) (μ : Mem) : Prop := tr v fun b => br b (wpAnd sg sc hd es ρ μ Q X) (Q v μ)
noncomputable def orK (es : List E) (v : V) (μ : Mem) : Prop := tr v fun b => br b (Q v μ) (wpOr sg sc hd es ρ μ Q X)
noncomputable def cmpK (op : CmpOp) (a b : V) (μ : Mem) : Prop := cmpW op μ a b Q
noncomputable def cmp1 (op : CmpOp) (r : E) (a : V) (μ : Mem) : Prop := wpE sg sc hd r ρ μ (cmpK Q op a) X
noncomputable def c2c (op : CmpOp) (e : E) (b t : V) (μ : Mem) : Prop := tr t fun y => br y (wpE sg sc hd e ρ μ (cmpK Q op b) X) (Q t μ)
noncomputable def c2b (o₁ o₂ : CmpOp) (e : E) (a b : V) (μ : Mem) : Prop := cmpK (c2c sg sc hd X ρ Q o₂ e b) o₁ a b μ
noncomputable def c2a (o₁ o₂ : CmpOp) (b e : E) (a : V) (μ : Mem) : Prop := wpE sg sc hd b ρ μ (c2b sg sc hd X ρ Q o₁ o₂ e a) X
noncomputable def attrK (a : String) (v : V) (μ : Mem) : Prop := optW (getA μ v a) μ Q
noncomputable def subK (v j : V) (μ : Mem) : Prop := optW (subO μ v j) μ Q
noncomputable def sub1 (i : E) (v : V) (μ : Mem) : Prop := wpE sg sc hd i ρ μ (subK Q v) X
noncomputable def slL (v i : V) (μ : Mem) : Prop := asInt i fun i => sliceW μ v (some i) none Q
noncomputable def slL1 (l : E) (v : V) (μ : Mem) : Prop := wpE sg sc hd l ρ μ (slL Q v) X
noncomputable def slU (v i : V) (μ : Mem) : Prop := asInt i fun i => sliceW μ v none (some i) Q
noncomputable def slU1 (l : E) (v : V) (μ : Mem) : Prop := wpE sg sc hd l ρ μ (slU Q v) X
noncomputable def tupK (vs : List V) (μ : Mem) : Prop := Q (.tup vs) μ
noncomputable def listK (vs : List V) (μ : Mem) : Prop := newL μ vs Q
noncomputable def callK (f : String) (vs : List V) (μ : Mem) : Prop := sc hd f vs μ Q X
noncomputable def bltnK (f : String) (vs : List V) (μ : Mem) : Prop := bltnW hd f vs μ Q
noncomputable def newW (c : String) (vs : List V) (μ : Mem) : Prop := ∀ a d, μ a = none → μ d = none → d ≠ a →
      sc hd (c ++ ".__init__") (.ref a :: vs) (updM (updM μ d (.attrs [])) a (.inst c d)) (fun v μ₂ => (match v with | .none => True | _ => False) ∧ Q (.ref a) μ₂) X
noncomputable def consK (Q : List V → Mem → Prop) (v : V) (vs : List V) (μ : Mem) : Prop := Q (v :: vs) μ
noncomputable def es1 (Q : List V → Mem → Prop) (es : List E) (v : V) (μ : Mem) : Prop := wpEs sg sc hd es ρ μ (consK Q v) X
end

section
variable {sg : Sig} {sc : Bool → Sc} {hd : Bool} {X : String → Mem → Prop} {ρ : Loc} {μ : Mem} {Q : V → Mem → Prop}
theorem e_none {p : Pos} (h : Q .none μ) : wpE sg sc hd (.none p) ρ μ Q X := h
theorem e_bool {b : Bool} {p : Pos} (h : Q (.bool b) μ) : wpE sg sc hd (.bool b p) ρ μ Q X := h
theorem e_int {i : Int} {p : Pos} (h : Q (.int i) μ) : wpE sg sc hd (.int i p) ρ μ Q X := h
theorem e_str {x : String} {p : Pos} (h : Q (.str (Str.ofString x)) μ) : wpE sg sc hd (.str x p) ρ μ Q X := h
theorem e_loc {x : String} {v : V} {p : Pos} (e : ρ x = some v) (h : Q v μ) : wpE sg sc hd (.loc x p) ρ μ Q X := by show optW (ρ x) μ Q; rw [e]; exact h
theorem e_here {x : String} {v : V} {p : Pos} (h : Q v μ) : wpE sg sc hd (.loc x p) (updL ρ x v) μ Q X := e_loc (by simp [updL]) h
theorem e_skip {x y : String} {v : V} {p : Pos} (hn : x ≠ y) (h : wpE sg sc hd (.loc x p) ρ μ Q X) : wpE sg sc hd (.loc x p) (updL ρ y v) μ Q X := by
  show optW (updL ρ y v x) μ Q; rw [updL_at, if_neg hn]; exact h
theorem e_glob {x : String} {v : V} {p : Pos} (e : sg.consts.lookup x = some v) (h : Q v μ) : wpE sg sc hd (.glob x p) ρ μ Q X := by show optW (sg.consts.lookup x) μ Q; rw [e]; exact h
theorem e_bin {op : Operator} {l r : E} {p : Pos} (h : wpE sg sc hd l ρ μ (bin1 sg sc hd X ρ Q op r) X) : wpE sg sc hd (.bin op l r p) ρ μ Q X := h
theorem k_bin {op : Operator} {r : E} {a : V} (h : wpE sg sc hd r ρ μ (binK Q op a) X) : bin1 sg sc hd X ρ Q op r a μ := h
theorem e_neg {e : E} {p : Pos} (h : wpE sg sc hd e ρ μ (negK Q) X) : wpE sg sc hd (.neg e p) ρ μ Q X := h
theorem k_neg {i : Int} (h : Q (.int (-i)) μ) : negK Q (.int i) μ := h
theorem e_not {e : E} {p : Pos} (h : wpE sg sc hd e ρ μ (notK Q) X) : wpE sg sc hd (.not e p) ρ μ Q X := h
theorem k_not {b : Bool} (h : Q (.bool (!b)) μ) : notK Q (.bool b) μ := h
theorem e_and {es : List E} {p : Pos} (h : wpAnd sg sc hd es ρ μ Q X) : wpE sg sc hd (.and es p) ρ μ Q X := h
theorem e_or {es : List E} {p : Pos} (h : wpOr sg sc hd es ρ μ Q X) : wpE sg sc hd (.or es p) ρ μ Q X := h
theorem a_one {e : E} (h : wpE sg sc hd e ρ μ Q X) : wpAnd sg sc hd [e] ρ μ Q X := h
theorem a_cons {e e' : E} {es : List E} (h : wpE sg sc hd e ρ μ (andK sg sc hd X ρ Q (e' :: es)) X) : wpAnd sg sc hd (e :: e' :: es) ρ μ Q X := h
theorem k_and {es : List E} {b : Bool} (h : br b (wpAnd sg sc hd es ρ μ Q X) (Q (.bool b) μ)) : andK sg sc hd X ρ Q es (.bool b) μ := h
theorem o_one {e : E} (h : wpE sg sc hd e ρ μ Q X) : wpOr sg sc hd [e] ρ μ Q X := h
theorem o_cons {e e' : E} {es : List E} (h : wpE sg sc hd e ρ μ (orK sg sc hd X ρ Q (e' :: es)) X) : wpOr sg sc hd (e :: e' :: es) ρ μ Q X := h
theorem k_or {es : List E} {b : Bool} (h : br b (Q (.bool b) μ) (wpOr sg sc hd es ρ μ Q X)) : orK sg sc hd X ρ Q es (.bool b) μ := h
theorem e_cmp {op : CmpOp} {l r : E} {p : Pos} (h : wpE sg sc hd l ρ μ (cmp1 sg sc hd X ρ Q op r) X) : wpE sg sc hd (.cmp op l r p) ρ μ Q X := h
theorem k_cmp {op : CmpOp} {r : E} {a : V} (h : wpE sg sc hd r ρ μ (cmpK Q op a) X) : cmp1 sg sc hd X ρ Q op r a μ := h
theorem e_cmp2 {o₁ o₂ : CmpOp} {a b e : E} {p : Pos} (h : wpE sg sc hd a ρ μ (c2a sg sc hd X ρ Q o₁ o₂ b e) X) : wpE sg sc hd (.cmp2 o₁ o₂ a b e p) ρ μ Q X := h
theorem k_c2a {o₁ o₂ : CmpOp} {b e : E} {a : V} (h : wpE sg sc hd b ρ μ (c2b sg sc hd X ρ Q o₁ o₂ e a) X) : c2a sg sc hd X ρ Q o₁ o₂ b e a μ := h
theorem k_c2b {o₁ o₂ : CmpOp} {e : E} {a b : V} (h : cmpK (c2c sg sc hd X ρ Q o₂ e b) o₁ a b μ) : c2b sg sc hd X ρ Q o₁ o₂ e a b μ := h
theorem k_c2c {op : CmpOp} {e : E} {b : V} {y : Bool} (h : br y (wpE sg sc hd e ρ μ (cmpK Q op b) X) (Q (.bool y) μ)) : c2c sg sc hd X ρ Q op e b (.bool y) μ := h
theorem e_attr {o : E} {a : String} {p : Pos} (h : wpE sg sc hd o ρ μ (attrK Q a) X) : wpE sg sc hd (.attr o a p) ρ μ Q X := h
theorem e_sub {o i : E} {p : Pos} (h : wpE sg sc hd o ρ μ (sub1 sg sc hd X ρ Q i) X) : wpE sg sc hd (.sub o i p) ρ μ Q X := h
theorem k_sub {i : E} {v : V} (h : wpE sg sc hd i ρ μ (subK Q v) X) : sub1 sg sc hd X ρ Q i v μ := h
theorem e_sliceL {o l : E} {ps p : Pos} (h : wpE sg sc hd o ρ μ (slL1 sg sc hd X ρ Q l) X) : wpE sg sc hd (.sliceL o l ps p) ρ μ Q X := h
theorem k_slL1 {l : E} {v : V} (h : wpE sg sc hd l ρ μ (slL Q v) X) : slL1 sg sc hd X ρ Q l v μ := h
theorem k_slL {v : V} {i : Int} (h : sliceW μ v (some i) none Q) : slL Q v (.int i) μ := h
theorem e_sliceU {o l : E} {ps p : Pos} (h : wpE sg sc hd o ρ μ (slU1 sg sc hd X ρ Q l) X) : wpE sg sc hd (.sliceU o l ps p) ρ μ Q X := h
theorem k_slU1 {l : E} {v : V} (h : wpE sg sc hd l ρ μ (slU Q v) X) : slU1 sg sc hd X ρ Q l v μ := h
theorem k_slU {v : V} {i : Int} (h : sliceW μ v none (some i) Q) : slU Q v (.int i) μ := h
theorem slice_t {l : List V} {i : Int} {hi : Option Int} (h1 : 1 ≤ i) (h2 : i ≤ l.length) (h3 : nn hi) (h : Q (.tup (cut (some i) hi l)) μ) : sliceW μ (.tup l) (some i) hi Q := ⟨h1, h2, h3, h⟩
theorem e_tup {es : List E} {k : Nat} {p : Pos} (h : wpEs sg sc hd es ρ μ (tupK Q) X) : wpE sg sc hd (.tup es k p) ρ μ Q X := h
theorem k_tup {vs : List V} (h : Q (.tup vs) μ) : tupK Q vs μ := h
theorem e_list {es : List E} {p : Pos} (h : wpEs sg sc hd es ρ μ (listK Q) X) : wpE sg sc hd (.list es p) ρ μ Q X := h
theorem k_list {vs : List V} (h : newL μ vs Q) : listK Q vs μ := h
theorem e_call {f : String} {es : List E} {pf p : Pos} (h : wpEs sg sc hd es ρ μ (callK sc hd X Q f) X) : wpE sg sc hd (.call f es pf p) ρ μ Q X := h
theorem k_call {f : String} {vs : List V} (h : sc hd f vs μ Q X) : callK sc hd X Q f vs μ := h
theorem e_new {f : String} {es : List E} {pf p : Pos} (h : wpEs sg sc hd es ρ μ (newW sc hd X Q f) X) : wpE sg sc hd (.new f es pf p) ρ μ Q X := h
theorem e_bltn {f : String} {es : List E} {pf p : Pos} (h : wpEs sg sc hd es ρ μ (bltnK hd Q f) X) : wpE sg sc hd (.bltn f es pf p) ρ μ Q X := h
theorem k_bltn {f : String} {vs : List V} (h : bltnW hd f vs μ Q) : bltnK hd Q f vs μ := h
theorem e_isi {e : E} {cl : Cl} {pf pc p : Pos} (h : wpE sg sc hd e ρ μ (isiW Q cl) X) : wpE sg sc hd (.isi e cl pf pc p) ρ μ Q X := h
theorem e_meth {o : E} {m : String} {es : List E} {pa p : Pos} (h : wpE sg sc hd o ρ μ (methW sg sc hd X ρ Q es m) X) : wpE sg sc hd (.meth o m es pa p) ρ μ Q X := h
theorem es_nil {Q : List V → Mem → Prop} (h : Q [] μ) : wpEs sg sc hd [] ρ μ Q X := h
theorem es_cons {e : E} {es : List E} {Q : List V → Mem → Prop} (h : wpE sg sc hd e ρ μ (es1 sg sc hd X ρ Q es) X) : wpEs sg sc hd (e :: es) ρ μ Q X := h
theorem k_es1 {Q : List V → Mem → Prop} {v : V} (h : Q [v] μ) : es1 sg sc hd X ρ Q [] v μ := h
theorem k_es {Q : List V → Mem → Prop} {es : List E} {v : V} (h : wpEs sg sc hd es ρ μ (consK Q v) X) : es1 sg sc hd X ρ Q es v μ := h
theorem k_cons {Q : List V → Mem → Prop} {v : V} {vs : List V} (h : Q (v :: vs) μ) : consK Q v vs μ := h

theorem asL_in {x : Addr} {l : List V} {k : Addr → List V → Prop} (hx : μ x = some (.list l)) (h : k x l) : asL μ (.ref x) k := by
  unfold asL; simp only [hx]; exact h
theorem tr_in {b : Bool} {k : Bool → Prop} (h : k b) : tr (.bool b) k := h
theorem br_t {A B : Prop} (h : A) : br true A B := ⟨fun _ => h, nofun⟩
theorem br_f {A B : Prop} (h : B) : br false A B := ⟨nofun, fun _ => h⟩
theorem br_nt {A B : Prop} (h : B) : br (!true) A B := ⟨nofun, fun _ => h⟩
theorem br_nf {A B : Prop} (h : A) : br (!false) A B := ⟨fun _ => h, nofun⟩
theorem br_d {p : Prop} [Decidable p] {A B : Prop} (h1 : p → A) (h2 : ¬ p → B) : br (decide p) A B := ⟨fun h => h1 (of_decide_eq_true h), fun h => h2 (of_decide_eq_false h)⟩
theorem br_nd {p : Prop} [Decidable p] {A B : Prop} (h1 : p → B) (h2 : ¬ p → A) : br (!decide p) A B := ⟨fun h => h2 (by simpa using h), fun h => h1 (by simpa using h)⟩
theorem br_dt {p : Prop} [Decidable p] {A B : Prop} (hp : p) (h : A) : br (decide p) A B := ⟨fun _ => h, fun q => absurd hp (of_decide_eq_false q)⟩
theorem br_df {p : Prop} [Decidable p] {A B : Prop} (hp : ¬ p) (h : B) : br (decide p) A B := ⟨fun q => absurd (of_decide_eq_true q) hp, fun _ => h⟩
theorem br_ndt {p : Prop} [Decidable p] {A B : Prop} (hp : p) (h : B) : br (!decide p) A B := br_nd (fun _ => h) fun q => absurd hp q
theorem br_ndf {p : Prop} [Decidable p] {A B : Prop} (hp : ¬ p) (h : A) : br (!decide p) A B := br_nd (fun q => absurd q hp) fun _ => h
theorem int_in {i : Int} {k : Int → Prop} (h : k i) : asInt (.int i) k := h
theorem getA_in {x d : Addr} {cl a : String} {fs : List (String × V)} {v : V} (hx : μ x = some (.inst cl d)) (hd : μ d = some (.attrs fs)) (hv : fs.lookup a = some v) (h : Q v μ) : attrK Q a (.ref x) μ := by unfold attrK getA; simp only [hx, hd, hv]; exact h
theorem sub_l {x : Addr} {i : Int} {l : List V} {v : V} (hx : μ x = some (.list l)) (hi : idx l i = some v) (h : Q v μ) : subK Q (.ref x) (.int i) μ := by unfold subK subO; simp only [hx, hi]; exact h
theorem sub_t {i : Int} {l : List V} {v : V} (hi : idx l i = some v) (h : Q v μ) : subK Q (.tup l) (.int i) μ := by unfold subK subO; simp only [hi]; exact h
theorem add_i {i j : Int} (h : Q (.int (i + j)) μ) : binK Q .Add (.int i) (.int j) μ := h
theorem sub_i {i j : Int} (h : Q (.int (i - j)) μ) : binK Q .Sub (.int i) (.int j) μ := h
theorem mul_i {i j : Int} (hb : i.natAbs < 2 ^ 63 ∨ j.natAbs < 2 ^ 63) (h : Q (.int (i * j)) μ) : binK Q .Mult (.int i) (.int j) μ := ⟨hb, h⟩
theorem div_i {i j : Int} (h0 : 0 < j) (h1 : j < 1000000000) (h : Q (.int (i / j)) μ) : binK Q .FloorDiv (.int i) (.int j) μ := ⟨h0, h1, h⟩
theorem mod_i {i j : Int} (h0 : 0 < j) (h : Q (.int (i % j)) μ) : binK Q .Mod (.int i) (.int j) μ := ⟨h0, h⟩
theorem pow_i {i j : Int} (h0 : 0 ≤ j) (h1 : j ≤ 1000) (h2 : i.natAbs < 2 ^ 63) (h : Q (.int (i ^ j.toNat)) μ) : binK Q .Pow (.int i) (.int j) μ := ⟨h0, h1, h2, h⟩
theorem cat_l {x y : Addr} {l k : List V} (hx : μ x = some (.list l)) (hy : μ y = some (.list k)) (h : newL μ (l ++ k) Q) : binK Q .Add (.ref x) (.ref y) μ := asL_in (k := fun _ l => asL μ (.ref y) fun _ k => newL μ (l ++ k) Q) hx (asL_in hy h)
theorem newL_in {l : List V} (hz : l.length ≤ lim) (h : ∀ n, μ n = none → Q (.ref n) (updM μ n (.list l))) : newL μ l Q := ⟨hz, h⟩
theorem eq_i {i j : Int} (h : Q (.bool (decide (i = j))) μ) : cmpK Q .Eq (.int i) (.int j) μ := h
theorem ne_i {i j : Int} (h : Q (.bool (!decide (i = j))) μ) : cmpK Q .NotEq (.int i) (.int j) μ := h
theorem lt_i {i j : Int} (h : Q (.bool (decide (i < j))) μ) : cmpK Q .Lt (.int i) (.int j) μ := h
theorem le_i {i j : Int} (h : Q (.bool (decide (i ≤ j))) μ) : cmpK Q .LtE (.int i) (.int j) μ := h
theorem gt_i {i j : Int} (h : Q (.bool (decide (j < i))) μ) : cmpK Q .Gt (.int i) (.int j) μ := h
theorem ge_i {i j : Int} (h : Q (.bool (decide (j ≤ i))) μ) : cmpK Q .GtE (.int i) (.int j) μ := h
theorem cmp_in {op : CmpOp} {a b : V} {r : Bool} (e : cmpO op μ a b = some r) (h : Q (.bool r) μ) : cmpK Q op a b μ := by unfold cmpK cmpW; rw [e]; exact h
theorem len_l {x : Addr} {l : List V} (hx : μ x = some (.list l)) (h : Q (.int l.length) μ) : bltnW hd "len" [.ref x] μ Q := asL_in (k := fun _ l => Q (.int l.length) μ) hx h
theorem len_t {l : List V} (h : Q (.int l.length) μ) : bltnW hd "len" [.tup l] μ Q := h
theorem len_f {ns : List Int} (h : Q (.int ns.length) μ) : bltnW hd "len" [.frz ns] μ Q := h
theorem list_l {x : Addr} {l : List V} (hx : μ x = some (.list l)) (h : newL μ l Q) : bltnW hd "list" [.ref x] μ Q := asL_in (k := fun _ l => newL μ l Q) hx h
theorem rng1 {b : Int} (h1 : b ≤ lim) (h2 : -2 ^ 62 < b) (h : Q (.rng 0 b 1) μ) : bltnW hd "range" [.int b] μ Q := ⟨h1, h2, h⟩
theorem rng2 {a b : Int} (h0 : b - a ≤ lim) (h1 : -2 ^ 62 < b ∧ b < 2 ^ 62) (h2 : -2 ^ 62 < a ∧ a < 2 ^ 62) (h : Q (.rng a b 1) μ) : bltnW hd "range" [.int a, .int b] μ Q := ⟨h0, h1, h2, h⟩
theorem min_i {a b : Int} (h0 : hd = false) (h : Q (.int (min a b)) μ) : bltnW hd "min" [.int a, .int b] μ Q := ⟨h0, h⟩
theorem slice_in {x : Addr} {l : List V} {lo hi : Option Int} (hx : μ x = some (.list l)) (h1 : nn lo) (h2 : nn hi) (h : newL μ (cut lo hi l) Q) : sliceW μ (.ref x) lo hi Q := by
  unfold sliceW; simp only [hx]; exact ⟨h1, h2, h⟩
theorem add_s {x y : Str} (h0 : x.length + y.length ≤ lim) (h : Q (.str (x ++ y)) μ) : binK Q .Add (.str x) (.str y) μ := ⟨h0, h⟩
theorem add_t {l k : List V} (h0 : l ≠ []) (h1 : k ≠ []) (h2 : (l ++ k).length ≤ lim) (h : Q (.tup (l ++ k)) μ) : binK Q .Add (.tup l) (.tup k) μ := ⟨h0, h1, h2, h⟩
theorem sub_s {x : Str} {i : Int} (h0 : 0 ≤ i ∧ i < x.length ∧ x.length ≤ lim) (h : Q (.str (Txt.item x i)) μ) : subK Q (.str x) (.int i) μ := by
  unfold subK subO; simp only [h0, and_self, if_true]; exact h
theorem sub_g {kvs : List (String × Int)} {x : Str} {i : Int} (e : sGet kvs x = some i) (h : Q (.int i) μ) : subK Q (.gd kvs) (.str x) μ := by
  unfold subK subO asSd; simp only [Option.bind_some, e, Option.map_some]; exact h
theorem sub_d {a : Addr} {kvs : List (String × Int)} {x : Str} {i : Int} (ha : μ a = some (.sd kvs)) (h1 : a ≠ 1) (e : sGet kvs x = some i) (h : Q (.int i) μ) : subK Q (.ref a) (.str x) μ := by
  unfold subK subO asSd; simp only [ha, h1, if_false, Option.bind_some, e, Option.map_some]; exact h
theorem notin_s {x y : Str} (h : Q (.bool (!Txt.contains y x)) μ) : cmpK Q .NotIn (.str x) (.str y) μ := h
theorem notin_g {kvs : List (String × Int)} {x : Str} (h : Q (.bool (!sIn kvs x)) μ) : cmpK Q .NotIn (.str x) (.gd kvs) μ := h
theorem notin_d {a : Addr} {kvs : List (String × Int)} {x : Str} (ha : μ a = some (.sd kvs)) (h1 : a ≠ 1) (h : Q (.bool (!sIn kvs x)) μ) : cmpK Q .NotIn (.str x) (.ref a) μ := by
  unfold cmpK cmpW cmpO inO asSd; simp only [ha, h1, if_false, Option.map_some]; exact h
theorem deq_ss {x y : Str} (hx : PyData.strOk x = true) (hy : PyData.strOk y = true) : deq μ (.str x) (.str y) = some (decide (x = y)) := by
  show (match rd μ 8 (.str x), rd μ 8 (.str y) with | some x, some y => some (PyData.eqv x y) | _, _ => none) = _
  rw [show rd μ 8 (.str x) = some (.str x) from if_pos hx, show rd μ 8 (.str y) = some (.str y) from if_pos hy]
  rfl
theorem eq_s {x y : Str} (hx : PyData.strOk x = true) (hy : PyData.strOk y = true) (h : Q (.bool (decide (x = y))) μ) : cmpK Q .Eq (.str x) (.str y) μ := by
  unfold cmpK cmpW cmpO; simp only [deq_ss hx hy]; exact h
theorem ne_s {x y : Str} (hx : PyData.strOk x = true) (hy : PyData.strOk y = true) (h : Q (.bool (!decide (x = y))) μ) : cmpK Q .NotEq (.str x) (.str y) μ := by
  unfold cmpK cmpW cmpO; simp only [deq_ss hx hy, Option.map_some]; exact h
theorem slice_s {x : Str} {lo hi : Option Int} (h0 : x.length ≤ lim) (h : Q (.str (Txt.slice x lo hi)) μ) : sliceW μ (.str x) lo hi Q := ⟨h0, h⟩
theorem len_s {x : Str} (h0 : x.length ≤ lim) (h : Q (.int x.length) μ) : bltnW hd "len" [.str x] μ Q := ⟨h0, h⟩
theorem int_s {x : Str} {n : Int} (h0 : x.length ≤ 640) (e : intText? x = some n) (h : Q (.int n) μ) : bltnW hd "int" [.str x] μ Q := ⟨h0, by rw [e]; exact h⟩
theorem str_i {i : Int} (h0 : i.natAbs.log2 < 1920) (h : Q (.str (Str.ofString (toString i))) μ) : bltnW hd "str" [.int i] μ Q := ⟨h0, h⟩
theorem str_s {x : Str} (h : Q (.str x) μ) : bltnW hd "str" [.str x] μ Q := h
theorem tup_l {x : Addr} {l : List V} (hx : μ x = some (.list l)) (h : Q (.tup l) μ) : bltnW hd "tuple" [.ref x] μ Q := asL_in (k := fun _ l => Q (.tup l) μ) hx h
theorem split_s {x y : Str} (h0 : y.length ≠ 0) (h1 : x.length ≤ lim) (h : newL μ ((Txt.split x y).map V.str) Q) : strK Q "split" x [.str y] μ := ⟨h0, h1, h⟩
theorem rfind_s {x y : Str} (h : Q (.int (Txt.rfind x y)) μ) : strK Q "rfind" x [.str y] μ := h
theorem join_s {x : Str} {a : Addr} {l : List V} {ts : List Str} (ha : μ a = some (.list l)) (e : txts l = some ts) (h0 : JoinOk x ts = true) (h : Q (.str (Txt.join x ts)) μ) : strK Q "join" x [.ref a] μ := by
  unfold strK strW
  refine asL_in (k := fun _ l => txtsW l fun ts => JoinOk x ts = true ∧ Q (.str (Txt.join x ts)) μ) ha ?_
  unfold txtsW; rw [e]; exact ⟨h0, h⟩
theorem e_dlit {kvs : List ((String × Pos) × (Int × Pos))} {p : Pos} (h : ∀ n, μ n = none → n ≠ 1 → Q (.ref n) (updM μ n (.sd (kvs.map fun q => (q.1.1, q.2.1))))) : wpE sg sc hd (.dlit kvs p) ρ μ Q X := h
theorem isi_t {cl : Cl} {v : V} (e : isiO μ v cl = some true) (h : Q (.bool true) μ) : isiW Q cl v μ := isi_in e h
theorem isi_f {cl : Cl} {v : V} (e : isiO μ v cl = some false) (h : Q (.bool false) μ) : isiW Q cl v μ := isi_in e h
noncomputable def compW (sg : Sig) (sc : Bool → Sc) (hd : Bool) (X : String → Mem → Prop) (ρ : Loc) (Q : V → Mem → Prop) (elt : E) (x : String) (cs : List String) (ifs : List E) (v : V) (μ : Mem) : Prop := match itemsOf μ v with
  | some items => ∀ n, μ n = none → compI n (fun μ' => itemsOf μ' v = some items) (fun w μ₂ k => wpIf sg sc hd ifs (updL (capL cs ρ) x w) μ₂ fun b μ₃ =>
          br b (wpE sg sc hd elt (updL (capL cs ρ) x w) μ₃ (fun r μ' => k (some r) μ') X) (k none μ₃)) items (updM μ n (.list [])) (Q (.ref n))
  | none => False
theorem e_comp {elt it : E} {x : String} {cs : List String} {ifs : List E} {s : Scope} {px p : Pos} (h0 : hd = false) (h : wpE sg sc hd it ρ μ (compW sg sc hd X ρ Q elt x cs ifs) X) : wpE sg sc hd (.comp elt x cs it ifs s px p) ρ μ Q X := ⟨h0, h⟩
theorem comp_in {elt : E} {x : String} {cs : List String} {ifs : List E} {v : V} {items : List V} (e : itemsOf μ v = some items) (h : ∀ n, μ n = none → ∃ I : Nat → Mem → Prop, I 0 (updM μ n (.list [])) ∧ (∀ k μ, I k μ → itemsOf μ v = some items) ∧
    (∀ k w μ, items[k]? = some w → I k μ → wpIf sg sc hd ifs (updL (capL cs ρ) x w) μ fun b μ₃ => br b (wpE sg sc hd elt (updL (capL cs ρ) x w) μ₃ (fun r μ' => compT n (I (k + 1)) (some r) μ') X) (compT n (I (k + 1)) none μ₃)) ∧ ∀ μ, I items.length μ → Q (.ref n) μ) : compW sg sc hd X ρ Q elt x cs ifs v μ := by
  unfold compW
  rw [e]
  exact h
noncomputable def if1 (k : Bool → Mem → Prop) (v : V) (μ : Mem) : Prop := tr v fun b => k b μ
theorem k_if1 {k : Bool → Mem → Prop} {b : Bool} (h : k b μ) : if1 k (.bool b) μ := h
theorem if_nil {k : Bool → Mem → Prop} (h : k true μ) : wpIf sg sc hd [] ρ μ k := h
theorem if_one {e : E} {k : Bool → Mem → Prop} (h : wpE sg sc hd e ρ μ (if1 k) fun _ _ => False) : wpIf sg sc hd [e] ρ μ k := h
theorem e_cap {cs : List String} {x : String} {p : Pos} (hc : cs.contains x = true) (h : wpE sg sc hd (.loc x p) ρ μ Q X) : wpE sg sc hd (.loc x p) (capL cs ρ) μ Q X := by
  show optW (capL cs ρ x) μ Q
  unfold capL
  rw [if_pos hc]
  exact h
theorem itemsOf_new {n : Addr} {o : O} {v : V} {items : List V} (hn : μ n = none) (e : itemsOf μ v = some items) : itemsOf (updM μ n o) v = some items := by
  unfold itemsOf at e ⊢
  split at e
  · exact e
  · exact e
  · exact e
  · rename_i x
    have : (updM μ n o) x = μ x := by
      unfold updM
      split
      · rename_i q; subst q; rw [hn] at e; cases e
      · rfl
    rw [this]; exact e
  · cases e
theorem take_filter {α β : Type} (F : α → Option β) : ∀ (l : List α) (k : Nat) (w : α), l[k]? = some w → (l.take (k + 1)).filterMap F = (l.take k).filterMap F ++ (match F w with | some r => [r] | none => [])
  | [], k, w, h => by simp at h
  | a :: l, 0, w, h => by
    have : a = w := by simpa using h
    subst this
    simp only [List.take_succ_cons, List.take_zero, List.filterMap_nil, List.nil_append, List.filterMap_cons]
    cases F a <;> rfl
  | a :: l, k + 1, w, h => by
    have ih := take_filter F l k w (by simpa using h)
    rw [List.take_succ_cons, List.filterMap_cons, ih, List.take_succ_cons, List.filterMap_cons]
    cases F a <;> rfl
/-- a comprehension whose turns leave the memory as it is -/
theorem comp_map {elt : E} {x : String} {cs : List String} {ifs : List E} {v : V} {items : List V} (F : V → Option V) (e : itemsOf μ v = some items) (hz : items.length ≤ lim)
    (turn : ∀ (k : Nat) (w : V) (μ' : Mem) (K : Option V → Mem → Prop), items[k]? = some w → (∀ b o, μ b = some o → μ' b = some o) → K (F w) μ' → wpIf sg sc hd ifs (updL (capL cs ρ) x w) μ' fun b μ₃ => br b (wpE sg sc hd elt (updL (capL cs ρ) x w) μ₃ (fun r μ'' => K (some r) μ'') X) (K none μ₃))
    (fin : ∀ n, μ n = none → Q (.ref n) (updM μ n (.list (items.filterMap F)))) : compW sg sc hd X ρ Q elt x cs ifs v μ := by
  refine comp_in e fun n hn => ⟨fun k μ' => k ≤ items.length ∧ μ' = updM μ n (.list ((items.take k).filterMap F)), ⟨Nat.zero_le _, rfl⟩, fun k μ' h => by rw [h.2]; exact itemsOf_new hn e, fun k w μ' hk h => ?_, fun μ' h => ?_⟩
  · obtain ⟨hk', rfl⟩ := h
    have hlt : k < items.length := (List.getElem?_eq_some_iff.mp hk).1
    have ht := take_filter F items k w hk
    refine turn k w _ (compT n fun μ' => k + 1 ≤ items.length ∧ μ' = updM μ n (.list ((items.take (k + 1)).filterMap F))) hk (fun b o hb => by
      unfold updM
      split
      · rename_i q; rw [q, hn] at hb; cases hb
      · exact hb) ?_
    rw [ht]
    cases hF : F w with
    | none => exact ⟨hlt, by rw [List.append_nil]⟩
    | some r =>
      refine ⟨(items.take k).filterMap F, by simp [updM], ?_, hlt, ?_⟩
      · have h1 := List.length_filterMap_le F (items.take k)
        rw [List.length_take] at h1
        omega
      · funext b
        simp only [updM]
        split <;> rfl
  · obtain ⟨_, rfl⟩ := h
    rw [List.take_length]
    exact fin n hn
end

section
variable (sg : Sig) (sc : Bool → Sc) (hd : Bool) (X : String → Loc → Mem → Prop) (Q : Fl → Loc → Mem → Prop) (ρ : Loc) (r : List S)
noncomputable def rW (ρ : Loc) (μ : Mem) : Prop := wpSs sg sc hd r ρ μ Q X
noncomputable def nextK (μ : Mem) : Prop := wpSs sg sc hd r ρ μ Q X
noncomputable def exprK (_ : V) (μ : Mem) : Prop := wpSs sg sc hd r ρ μ Q X
noncomputable def asgK (x : String) (v : V) (μ : Mem) : Prop := wpSs sg sc hd r (updL ρ x v) μ Q X
noncomputable def sa1 (o : E) (a : String) (v : V) (μ : Mem) : Prop := wpE sg sc hd o ρ μ (setA (nextK sg sc hd X Q ρ r) a v) (xW X ρ)
noncomputable def si2 (i : E) (v w : V) (μ : Mem) : Prop := wpE sg sc hd i ρ μ (setI (nextK sg sc hd X Q ρ r) v w) (xW X ρ)
noncomputable def si1 (o i : E) (v : V) (μ : Mem) : Prop := wpE sg sc hd o ρ μ (si2 sg sc hd X Q ρ r i v) (xW X ρ)
noncomputable def unpW (xs : List (String × Pos)) (v : V) (μ : Mem) : Prop := asT v fun l => match bindAll (xs.map (·.1)) l ρ with
        | some ρ' => wpSs sg sc hd r ρ' μ Q X
        | none => False
noncomputable def retK (v : V) (μ : Mem) : Prop := Q (.ret v) ρ μ
noncomputable def iteK (t f : List S) (v : V) (μ : Mem) : Prop := tr v fun b => br b (wpSs sg sc hd t ρ μ (sq (rW sg sc hd X Q r) Q) X) (wpSs sg sc hd f ρ μ (sq (rW sg sc hd X Q r) Q) X)
noncomputable def ifK (t : List S) (v : V) (μ : Mem) : Prop := tr v fun b => br b (wpSs sg sc hd t ρ μ (sq (rW sg sc hd X Q r) Q) X) (wpSs sg sc hd r ρ μ Q X)
end
section
variable {sg : Sig} {sc : Bool → Sc} {hd : Bool} {X : String → Loc → Mem → Prop} {Q : Fl → Loc → Mem → Prop} {ρ : Loc} {μ : Mem} {r : List S}
theorem s_nil (h : Q .next ρ μ) : wpSs sg sc hd [] ρ μ Q X := h
theorem s_expr {e : E} {p : Pos} (h : wpE sg sc hd e ρ μ (exprK sg sc hd X Q ρ r) (xW X ρ)) : wpSs sg sc hd (.expr e p :: r) ρ μ Q X := h
theorem k_expr {v : V} (h : wpSs sg sc hd r ρ μ Q X) : exprK sg sc hd X Q ρ r v μ := h
theorem s_assign {x : String} {e : E} {px p : Pos} (h : wpE sg sc hd e ρ μ (asgK sg sc hd X Q ρ r x) (xW X ρ)) : wpSs sg sc hd (.assign x e px p :: r) ρ μ Q X := h
theorem k_asg {x : String} {v : V} (h : wpSs sg sc hd r (updL ρ x v) μ Q X) : asgK sg sc hd X Q ρ r x v μ := h
theorem k_next (h : wpSs sg sc hd r ρ μ Q X) : nextK sg sc hd X Q ρ r μ := h
theorem s_setattr {o e : E} {a : String} {pa p : Pos} (h : wpE sg sc hd e ρ μ (sa1 sg sc hd X Q ρ r o a) (xW X ρ)) : wpSs sg sc hd (.setattr o a e pa p :: r) ρ μ Q X := h
theorem k_sa {o : E} {a : String} {v : V} (h : wpE sg sc hd o ρ μ (setA (nextK sg sc hd X Q ρ r) a v) (xW X ρ)) : sa1 sg sc hd X Q ρ r o a v μ := h
theorem s_setitem {o i e : E} {pa p : Pos} (h : wpE sg sc hd e ρ μ (si1 sg sc hd X Q ρ r o i) (xW X ρ)) : wpSs sg sc hd (.setitem o i e pa p :: r) ρ μ Q X := h
theorem k_si1 {o i : E} {v : V} (h : wpE sg sc hd o ρ μ (si2 sg sc hd X Q ρ r i v) (xW X ρ)) : si1 sg sc hd X Q ρ r o i v μ := h
theorem k_si2 {i : E} {v w : V} (h : wpE sg sc hd i ρ μ (setI (nextK sg sc hd X Q ρ r) v w) (xW X ρ)) : si2 sg sc hd X Q ρ r i v w μ := h
theorem s_ret {e : E} {p : Pos} (h : wpE sg sc hd e ρ μ (retK Q ρ) (xW X ρ)) : wpSs sg sc hd (.ret e p :: r) ρ μ Q X := h
theorem k_retf {Q : V → Mem → Prop} {v : V} (h : Q v μ) : retK (fq Q) ρ v μ := h
theorem k_rets {R : Loc → Mem → Prop} {v : V} (h : retK Q ρ v μ) : retK (sq R Q) ρ v μ := h
theorem k_sqr {Q' : Fl → Loc → Mem → Prop} (h : wpSs sg sc hd r ρ μ Q X) : sq (rW sg sc hd X Q r) Q' .next ρ μ := h
theorem k_rW (h : wpSs sg sc hd r ρ μ Q X) : rW sg sc hd X Q r ρ μ := h
theorem s_raise {n m : String} {pf pm pc p : Pos} (h0 : hd = false) (h : X n ρ μ) : wpSs sg sc hd (.raise n m pf pm pc p :: r) ρ μ Q X := ⟨h0, h⟩

theorem s_ite {e : E} {t f : List S} {p : Pos} (h : wpE sg sc hd e ρ μ (iteK sg sc hd X Q ρ r t f) (xW X ρ)) : wpSs sg sc hd (.ite e t f p :: r) ρ μ Q X := h
theorem k_ite {t f : List S} {b : Bool} (h : br b (wpSs sg sc hd t ρ μ (sq (rW sg sc hd X Q r) Q) X) (wpSs sg sc hd f ρ μ (sq (rW sg sc hd X Q r) Q) X)) : iteK sg sc hd X Q ρ r t f (.bool b) μ := h
theorem s_if {e : E} {t : List S} {p : Pos} (h : wpE sg sc hd e ρ μ (ifK sg sc hd X Q ρ r t) (xW X ρ)) : wpSs sg sc hd (.ite e t [] p :: r) ρ μ Q X := h
theorem k_if {t : List S} {b : Bool} (h : br b (wpSs sg sc hd t ρ μ (sq (rW sg sc hd X Q r) Q) X) (wpSs sg sc hd r ρ μ Q X)) : ifK sg sc hd X Q ρ r t (.bool b) μ := h

noncomputable def forW (sg : Sig) (sc : Bool → Sc) (hd : Bool) (x : String) (body r : List S) (ρ : Loc) (Q : Fl → Loc → Mem → Prop) (X : String → Loc → Mem → Prop) (v : V) (μ : Mem) : Prop := match itemsOf μ v with
  | some items => forI (fun μ' => itemsOf μ' v = some items) x (fun ρ' μ' k => wpSs sg sc hd body ρ' μ' k X) items ρ μ (sq (rW sg sc hd X Q r) Q)
  | none => False
theorem s_for {x : String} {it : E} {body : List S} {px p : Pos} (h0 : hd = false) (h : wpE sg sc hd it ρ μ (forW sg sc hd x body r ρ Q X) (xW X ρ)) : wpSs sg sc hd (.for_ x it body px p :: r) ρ μ Q X := ⟨h0, h⟩
theorem for_in {x : String} {body : List S} {v : V} {items : List V} (e : itemsOf μ v = some items) (I : Nat → Loc → Mem → Prop) (i0 : I 0 ρ μ) (st : ∀ k ρ μ, I k ρ μ → itemsOf μ v = some items)
    (turn : ∀ k w ρ μ, items[k]? = some w → I k ρ μ → wpSs sg sc hd body (updL ρ x w) μ (sq (I (k + 1)) (sq (rW sg sc hd X Q r) Q)) X) (fin : ∀ ρ μ, I items.length ρ μ → wpSs sg sc hd r ρ μ Q X) : forW sg sc hd x body r ρ Q X v μ := by
  unfold forW
  rw [e]
  exact ⟨I, i0, st, turn, fin⟩
/-- a loop over numbers -/
theorem for_rng {x : String} {body : List S} {a b : Int} (I : Int → Loc → Mem → Prop) (i0 : I a ρ μ) 
    (turn : ∀ i ρ μ, a ≤ i → i < b → I i ρ μ → wpSs sg sc hd body (updL ρ x (.int i)) μ (sq (I (i + 1)) (sq (rW sg sc hd X Q r) Q)) X) (fin : ∀ ρ μ, I (max a b) ρ μ → wpSs sg sc hd r ρ μ Q X) : forW sg sc hd x body r ρ Q X (.rng a b 1) μ := by
  refine for_in (items := rngItems a b 1) rfl (fun k ρ μ => I (a + k) ρ μ) (by simpa using i0) (fun _ _ _ _ => rfl) (fun k w ρ μ hk hi => ?_) (fun ρ μ hi => ?_)
  · rw [rngItems_get (.inl rfl)] at hk
    split at hk
    · rename_i hlt
      unfold rngLen at hlt
      rw [if_pos rfl] at hlt
      cases hk
      have := turn (a + k) ρ μ (by omega) (by omega) hi
      simp only [Int.mul_one]
      have e : a + ((k + 1 : Nat) : Int) = a + k + 1 := by omega
      rw [e]
      exact this
    · cases hk
  · have : (rngItems a b 1).length = (b - a).toNat := by unfold rngItems; simp
    rw [this] at hi
    refine fin ρ μ ?_
    have e : max a b = a + ((b - a).toNat : Int) := by omega
    rw [e]; exact hi

noncomputable def tryX (sg : Sig) (sc : Bool → Sc) (c : String) (as : Option String) (h : List S) (more : List (String × Pos × E × Pos × Pos)) (Q : Fl → Loc → Mem → Prop) (x : String) (ρ₁ : Loc) (μ₁ : Mem) : Prop :=
  if isSub x c then wpSs sg sc true h (match as with | some n => updL ρ₁ n (.exc x) | none => ρ₁) μ₁ (fun fl ρ₂ μ₂ => Q fl (match as with | some _ => fun _ => none | none => ρ₂) μ₂) (fun _ _ _ => False)
      else moreW sg sc x ρ₁ μ₁ Q more
theorem s_try {body h : List S} {n : String} {as : Option String} {more : List (String × Pos × E × Pos × Pos)} {pc ph p : Pos} (h0 : hd = false)
    (hh : wpSs sg sc false body ρ μ (sq (rW sg sc hd X Q r) Q) (tryX sg sc n as h more (sq (rW sg sc hd X Q r) Q))) : wpSs sg sc hd (.try_ body n as h more pc ph p :: r) ρ μ Q X := ⟨h0, hh⟩
theorem try_as {h : List S} {n x a : String} {more : List (String × Pos × E × Pos × Pos)} (e : isSub x n = true) (hh : wpSs sg sc true h (updL ρ a (.exc x)) μ (fun fl _ μ₂ => Q fl (fun _ => none) μ₂) (fun _ _ _ => False)) : tryX sg sc n (some a) h more Q x ρ μ := by
  unfold tryX; rw [if_pos e]; exact hh
theorem loc_here {ρ : Loc} {x : String} {v : V} : updL ρ x v x = some v := by simp [updL]
theorem loc_skip {ρ : Loc} {x y : String} {v w : V} (h : x ≠ y) (e : ρ x = some w) : updL ρ y v x = some w := by simp [updL, h, e]
end
end Mine

set_option autoImplicit false
namespace Mine
open PySem PySem.W PySem.Calls PyProof.Rows

/-! A head of one's own: the states are written in twin form. -/

noncomputable def nthS : List Stmt → Nat → Stmt
  | [], _ => .Pass ⟨0, 0, 0, 0⟩
  | s :: _, 0 => s
  | _ :: r, n + 1 => nthS r n
noncomputable def cBody : Stmt → List Stmt
  | .ClassDef _ _ _ b _ _ _ _ _ _ _ => b
  | _ => []
noncomputable def fArgs : Stmt → Arguments
  | .FunctionDef _ a _ _ _ _ _ _ _ _ => a
  | _ => ⟨[], [], none, [], [], none, []⟩
noncomputable def fBody : Stmt → List Stmt
  | .FunctionDef _ _ b _ _ _ _ _ _ _ => b
  | _ => []
noncomputable def fScope : Stmt → Scope
  | .FunctionDef _ _ _ _ _ _ sc _ _ _ => sc
  | _ => { kind := .function, names := [], isGenerator := false, isCoroutine := false }

section
variable {p : Program} {w : World} {n₀ N b : Nat} {ann : Option Value}
theorem segT_q {s : SharedT} {t : Thread} {r : Option (Flow × SharedT × Code × Pos)} (h : Fast.tw10110043849684766642 Fast.tw14364793385576792824 p w n₀ ann b N s t = r) : segRunT treeTable p w n₀ ann b N s t = r := by
  rw [Fast.te10110043849684766642, Fast.te14364793385576792824]; exact h
theorem seg_q {s : Shared} {t : Thread} {r : Option (Flow × Shared × Code × Pos)} (h : Fast.tw14374325043358763698 Fast.tw14364793385576792824 p w n₀ ann b N s t = r) : segRun treeTable p w n₀ ann b N s t = r := by
  rw [Fast.te14374325043358763698, Fast.te14364793385576792824]; exact h
theorem top_q {s : Shared} {t : Thread} {r : Option Shared} (h : Fast.tw14082659384304107361 Fast.tw14364793385576792824 p w n₀ ann N s t = r) : topRun treeTable p w n₀ ann N s t = r := by
  rw [Fast.te14082659384304107361, Fast.te14364793385576792824]; exact h
theorem go_q {s s' : Shared} {t : Thread} {c c' : Code} {q : Pos} {B : List Frame} (h : Fast.tw15667345088766844465 Fast.tw14364793385576792824 p w n₀ ann N s t = some (s', ⟨Fast.tw11892475500146522536 Fast.tw14364793385576792824 c, c', q, B⟩)) : topGo treeTable p w n₀ ann N s t = some (s', ⟨denote treeTable c, c', q, B⟩) := by
  rw [Fast.te15667345088766844465, Fast.te11892475500146522536, Fast.te14364793385576792824]; exact h
end
section
variable {p : Program} {w : World} {n₀ : Nat} {ann : Option Value} {env : Env} {q : Pos}
theorem piece_cut {n N k : Nat} {s s' r : Shared} {l : List Stmt} {c : Code} {pos p' : Pos} (h : segRun treeTable p w n₀ ann 1 n s (piecesOf (l.take k) env c pos [topFrame q]) = some (.next, s', c, p'))
    (z : topRun treeTable p w n₀ ann N s' (restOf (l.drop k) env c p' [topFrame q]) = some r) : topRun treeTable p w n₀ ann (n + N) s (restOf l env c pos [topFrame q]) = some r := by
  have := piece_app h z
  rwa [List.take_append_drop] at this
theorem piece_last {n N : Nat} {s s' r : Shared} {l : List Stmt} {c : Code} {pos p' : Pos} (h : segRun treeTable p w n₀ ann 1 n s (piecesOf l env c pos [topFrame q]) = some (.next, s', c, p'))
    (z : topRun treeTable p w n₀ ann N s' ⟨doneF .next, c, p', [topFrame q]⟩ = some r) : topRun treeTable p w n₀ ann (n + N) s (restOf l env c pos [topFrame q]) = some r := by
  have := piece_app (rest := []) h z
  rwa [List.append_nil] at this
end
end Mine

set_option autoImplicit false
set_option maxRecDepth 100000
set_option maxHeartbeats 8000000
set_option linter.unusedVariables false
namespace Mine
open PySem PySem.W PySem.Calls PyProof.Rows
noncomputable abbrev pq : Program := Challenge.pw_uf040019_13
theorem pq_eq : Challenge.pw_uf040019_13 = pq := rfl
noncomputable def bq : List Stmt := behindTheImports pq
noncomputable def sA (i : Nat) : Stmt := nthS bq i
noncomputable def mA (i j : Nat) : Stmt := nthS (cBody (sA i)) j
noncomputable def envq : Env := { scope := pq.main.scope, locals := mainNs, globals := mainNs, cells := [], code := .ref 13, frame := some 14 }
noncomputable def cdq : Code := .body (behindTheImports pq) envq
noncomputable def p0q : Pos := ⟨0, 0, 0, 0⟩
noncomputable def q0 : Str := ⟨⟨[60, 109, 111, 100, 117, 108, 101, 62]⟩⟩
noncomputable def q1 : Str := ⟨⟨[47, 99, 108, 97, 105, 109, 47, 99, 117, 116, 46, 112, 121]⟩⟩
noncomputable def q2 : Str := ⟨⟨[95, 95, 109, 97, 105, 110, 95, 95]⟩⟩
noncomputable def q3 : Str := ⟨⟨[95, 95, 110, 97, 109, 101, 95, 95]⟩⟩
noncomputable def q4 : Str := ⟨⟨[100, 101, 98, 116, 116, 114, 101, 101, 46, 101, 114, 114, 111, 114, 115]⟩⟩
noncomputable def q5 : Str := ⟨⟨[95, 95, 100, 111, 99, 95, 95]⟩⟩
noncomputable def q6 : Str := ⟨⟨[95, 95, 112, 97, 99, 107, 97, 103, 101, 95, 95]⟩⟩
noncomputable def q7 : Str := ⟨⟨[95, 95, 108, 111, 97, 100, 101, 114, 95, 95]⟩⟩
noncomputable def q8 : Str := ⟨⟨[95, 95, 115, 112, 101, 99, 95, 95]⟩⟩
noncomputable def q9 : Str := ⟨⟨[95, 95, 97, 110, 110, 111, 116, 97, 116, 105, 111, 110, 115, 95, 95]⟩⟩
noncomputable def q10 : Str := ⟨⟨[95, 95, 98, 117, 105, 108, 116, 105, 110, 115, 95, 95]⟩⟩
noncomputable def q11 : Str := ⟨⟨[95, 95, 102, 105, 108, 101, 95, 95]⟩⟩
noncomputable def q12 : Str := ⟨⟨[95, 95, 99, 97, 99, 104, 101, 100, 95, 95]⟩⟩
noncomputable def q13 : Str := ⟨⟨[68, 101, 98, 116, 69, 114, 114, 111, 114]⟩⟩
noncomputable def q14 : Str := ⟨⟨[78, 111, 67, 111, 109, 112, 97, 110, 121]⟩⟩
noncomputable def q15 : Str := ⟨⟨[95, 95, 109, 111, 100, 117, 108, 101, 95, 95]⟩⟩
noncomputable def q16 : Str := ⟨⟨[95, 95, 102, 105, 114, 115, 116, 108, 105, 110, 101, 110, 111, 95, 95]⟩⟩
noncomputable def q17 : Str := ⟨⟨[95, 95, 115, 116, 97, 116, 105, 99, 95, 97, 116, 116, 114, 105, 98, 117, 116, 101, 115, 95, 95]⟩⟩
noncomputable def q18 : Str := ⟨⟨[95, 95, 119, 101, 97, 107, 114, 101, 102, 95, 95]⟩⟩
noncomputable def q19 : Str := ⟨⟨[95, 95, 113, 117, 97, 108, 110, 97, 109, 101, 95, 95]⟩⟩
noncomputable def q20 : Str := ⟨⟨[78, 111, 72, 97, 110, 100]⟩⟩
noncomputable def q21 : Str := ⟨⟨[78, 111, 87, 111, 114, 107]⟩⟩
noncomputable def q22 : Str := ⟨⟨[78, 111, 80, 108, 97, 99, 101]⟩⟩
noncomputable def q23 : Str := ⟨⟨[66, 101, 103, 117, 110]⟩⟩
noncomputable def q24 : Str := ⟨⟨[100, 101, 98, 116, 116, 114, 101, 101, 46, 110, 111, 116, 101, 115]⟩⟩
noncomputable def q25 : Str := ⟨⟨[78, 111, 82, 111, 119]⟩⟩
noncomputable def q26 : Str := ⟨⟨[70, 73, 71, 85, 82, 69, 83]⟩⟩
noncomputable def q27 : Str := ⟨⟨[48, 49, 50, 51, 52, 53, 54, 55, 56, 57]⟩⟩
noncomputable def q28 : Str := ⟨⟨[77, 79, 83, 84, 95, 70, 73, 71, 85, 82, 69, 83]⟩⟩
noncomputable def q29 : Str := ⟨⟨[80, 65, 82, 84, 83]⟩⟩
noncomputable def q30 : Str := ⟨⟨[115, 104, 111, 119, 110]⟩⟩
noncomputable def q31 : Str := ⟨⟨[110, 117, 109, 98, 101, 114, 95, 111, 102]⟩⟩
noncomputable def q32 : Str := ⟨⟨[114, 101, 97, 100]⟩⟩
noncomputable def q33 : Str := ⟨⟨[98, 101, 103, 105, 110]⟩⟩
noncomputable def q34 : Str := ⟨⟨[100, 111]⟩⟩
noncomputable def q35 : Str := ⟨⟨[104, 97, 110, 100]⟩⟩
noncomputable def q36 : Str := ⟨⟨[99, 97, 114, 114, 121]⟩⟩
noncomputable def q37 : Str := ⟨⟨[119, 111, 114, 100]⟩⟩
noncomputable def q38 : Str := ⟨⟨[102, 105, 103, 117, 114, 101, 115]⟩⟩
noncomputable def q39 : Str := ⟨⟨[115, 105, 103, 110]⟩⟩
noncomputable def q40 : Str := ⟨⟨[108, 97, 119, 95, 117, 102, 48, 52, 48, 48, 49, 57, 95, 49, 51]⟩⟩
noncomputable def q41 : Str := ⟨⟨[95, 108, 97, 119, 95, 99, 101, 108, 108, 95, 97, 116]⟩⟩
noncomputable def q42 : Str := ⟨⟨[95, 108, 97, 119, 95, 119, 104, 111, 108, 101]⟩⟩
noncomputable def q43 : Str := ⟨⟨[95, 108, 97, 119, 95, 97, 108, 105, 107, 101]⟩⟩
noncomputable def q44 : Str := ⟨⟨[95, 108, 97, 119, 95, 116, 101, 120, 116]⟩⟩
noncomputable def q45 : Str := ⟨⟨[95, 108, 97, 119, 95, 110, 117, 109, 98, 101, 114, 95, 98, 121]⟩⟩
noncomputable def q46 : Str := ⟨⟨[95, 108, 97, 119, 95, 114, 111, 119, 95, 98, 121]⟩⟩
noncomputable def q47 : Str := ⟨⟨[95, 108, 97, 119, 95, 115, 105, 103, 110, 95, 98, 121]⟩⟩
noncomputable def q48 : Str := ⟨⟨[95, 108, 97, 119, 95, 116, 117, 114, 110, 101, 100]⟩⟩
noncomputable def q49 : Str := ⟨⟨[95, 108, 97, 119, 95, 110, 117, 109, 98, 101, 114, 95, 103, 111, 111, 100]⟩⟩
noncomputable def q50 : Str := ⟨⟨[95, 108, 97, 119, 95, 100, 101, 101, 100, 95, 111, 102]⟩⟩
noncomputable def q51 : Str := ⟨⟨[95, 108, 97, 119, 95, 114, 101, 102, 117, 115, 101, 100]⟩⟩
noncomputable def q52 : Str := ⟨⟨[95, 108, 97, 119, 95, 114, 101, 97, 100, 95, 103, 111, 111, 100]⟩⟩
noncomputable def q53 : Str := ⟨⟨[108, 97, 119]⟩⟩
noncomputable def q54 : Str := ⟨⟨[95, 108, 97, 119, 95, 102, 111, 117, 110, 100]⟩⟩
noncomputable def q55 : Str := ⟨⟨[95, 108, 97, 119, 95, 108, 105, 110, 101]⟩⟩
noncomputable def q56 : Str := ⟨⟨[95, 108, 97, 119, 95, 100, 117, 101]⟩⟩
noncomputable def q57 : Str := ⟨⟨[95, 108, 97, 119, 95, 99, 101, 108, 108]⟩⟩
noncomputable def q58 : Str := ⟨⟨[95, 108, 97, 119, 95, 115, 105, 103, 110]⟩⟩
noncomputable def q59 : Str := ⟨⟨[95, 108, 97, 119, 95, 97, 116]⟩⟩
noncomputable def q60 : Str := ⟨⟨[95, 108, 97, 119, 95, 114, 111, 119]⟩⟩
noncomputable def q61 : Str := ⟨⟨[95, 108, 97, 119, 95, 115, 105, 103, 110, 115]⟩⟩
noncomputable def q62 : Str := ⟨⟨[95, 108, 97, 119, 95, 112, 97, 114, 116]⟩⟩
noncomputable def q63 : Str := ⟨⟨[95, 108, 97, 119, 95, 115, 111, 109, 101]⟩⟩
noncomputable def q64 : Str := ⟨⟨[95, 108, 97, 119, 95, 115, 99, 114, 105, 112, 116]⟩⟩
noncomputable def q65 : Str := ⟨⟨[95, 108, 97, 119, 95, 107]⟩⟩
noncomputable def q66 : Str := ⟨⟨[101]⟩⟩
noncomputable def ob43 (P : Params) : Obj := { cls := Value.type "tuple", data := Data.seq #[] }
noncomputable def ob45 (P : Params) : Obj := { cls := Value.type "code", data := Data.fields #[Value.str (q0) 182, Value.str (q0) 183, Value.str (q1) 184, Value.int 1 0, Value.int 0 0, Value.int 0 0, Value.int 0 0, Value.int 0 0, Value.ref 11, Value.bool Bool.false, Value.int 181 0, Value.ref 12, Value.none, Value.none, Value.none, Value.none, Value.int 185 0, Value.int 1 0, Value.str (q1) 186] }
noncomputable def ob44 (P : Params) : Obj := { cls := Value.none, data := Data.fields #[] }
noncomputable def ob46 (P : Params) : Obj := { cls := Value.type "frame", slots := #[Option.some (Value.ref 13), Option.some (Value.ref 3), Option.some (Value.ref 3), Option.none, Option.some (Value.str (q2) 164), Option.none, Option.some (Value.ref 0)] }
noncomputable def ob64 (P : Params) : Obj := { cls := Value.type "dict", data := Data.dict #[{ hash := PyData.keyHash P (q3), key := Value.str (q3) 165, val := Value.str (q4) 187 }, { hash := PyData.keyHash P (q5), key := Value.str (q5) 166, val := Value.none }, { hash := PyData.keyHash P (q6), key := Value.str (q6) 167, val := Value.none }, { hash := PyData.keyHash P (q7), key := Value.str (q7) 168, val := Value.builtin "__main__.__loader__#opaque" }, { hash := PyData.keyHash P (q8), key := Value.str (q8) 169, val := Value.none }, { hash := PyData.keyHash P (q9), key := Value.str (q9) 170, val := Value.ref 6 }, { hash := PyData.keyHash P (q10), key := Value.str (q10) 171, val := Value.ref 4 }, { hash := PyData.keyHash P (q11), key := Value.str (q11) 173, val := Value.str (q1) 172 }, { hash := PyData.keyHash P (q12), key := Value.str (q12) 174, val := Value.none }, { hash := PyData.keyHash P (q13), key := Value.str (q13) 206, val := Value.ref 24 }, { hash := PyData.keyHash P (q14), key := Value.str (q14) 222, val := Value.ref 37 }] 11 }
noncomputable def ob51 (P : Params) : Obj := { cls := Value.type "tuple", data := Data.seq #[Value.type "ValueError"] }
noncomputable def ob70 (P : Params) : Obj := { cls := Value.type "tuple", data := Data.seq #[] }
noncomputable def ob59 (P : Params) : Obj := { cls := Value.type "dict", data := Data.dict #[{ hash := PyData.keyHash P (q15), key := Value.str (q15) 196, val := Value.str (q4) 187 }, { hash := PyData.keyHash P (q16), key := Value.str (q16) 200, val := Value.int 2 199 }, { hash := PyData.keyHash P (q17), key := Value.str (q17) 201, val := Value.ref 22 }, { hash := PyData.keyHash P (q18), key := Value.str (q18) 203, val := Value.ref 25 }, { hash := PyData.keyHash P (q5), key := Value.str (q5) 204, val := Value.none }] 3 }
noncomputable def ob78 (P : Params) : Obj := { cls := Value.type "builtin_function_or_method", data := Data.fields #[Value.builtin "object.__init_subclass__", Value.ref 37] }
noncomputable def ob55 (P : Params) : Obj := { cls := Value.none, data := Data.fields #[] }
noncomputable def ob74 (P : Params) : Obj := { cls := Value.type "tuple", data := Data.seq #[] }
noncomputable def ob63 (P : Params) : Obj := { cls := Value.type "builtin_function_or_method", data := Data.fields #[Value.builtin "object.__init_subclass__", Value.ref 24] }
noncomputable def ob53 (P : Params) : Obj := { cls := Value.type "dict", data := Data.dict #[{ hash := PyData.keyHash P (q15), key := Value.str (q15) 196, val := Value.str (q4) 187 }, { hash := PyData.keyHash P (q19), key := Value.str (q19) 198, val := Value.str (q13) 197 }, { hash := PyData.keyHash P (q16), key := Value.str (q16) 200, val := Value.int 2 199 }, { hash := PyData.keyHash P (q17), key := Value.str (q17) 201, val := Value.ref 22 }] 4 }
noncomputable def ob72 (P : Params) : Obj := { cls := Value.type "code", data := Data.fields #[Value.str (q14) 209, Value.str (q14) 210, Value.str (q1) 211, Value.int 4 0, Value.int 0 0, Value.int 0 0, Value.int 0 0, Value.int 0 0, Value.ref 31, Value.bool Bool.false, Value.int 181 0, Value.ref 32, Value.none, Value.none, Value.none, Value.none, Value.int 212 0, Value.int 4 0, Value.str (q1) 213] }
noncomputable def ob61 (P : Params) : Obj := { cls := Value.type "getset_descriptor", data := Data.fields #[Value.str (q18) 202, Value.ref 24, Value.builtin "ExceptionGroup.__weakref__", Value.none] }
noncomputable def ob57 (P : Params) : Obj := { cls := Value.type "frame", slots := #[Option.some (Value.ref 20), Option.some (Value.ref 3), Option.some (Value.ref 17), Option.none, Option.some (Value.str (q4) 187), Option.none, Option.some (Value.ref 0)] }
noncomputable def ob76 (P : Params) : Obj := { cls := Value.type "type", data := Data.cls { name := q14, bases := [Value.ref 24], mro := [Value.ref 37, Value.ref 24, Value.type "ValueError", Value.type "Exception", Value.type "BaseException", Value.type "object"], ns := 36, qualname := q14 }, slots := #[Option.some (Value.ref 28), Option.none, Option.some (Value.str (q14) 207), Option.some (Value.str (q14) 215), Option.some (Value.builtin "ValueError.__new__"), Option.some (Value.bool Bool.true)] }
noncomputable def ob68 (P : Params) : Obj := { cls := Value.type "builtin_function_or_method", data := Data.fields #[Value.builtin "type.__prepare__", Value.type "type"] }
noncomputable def ob52 (P : Params) : Obj := { cls := Value.type "builtin_function_or_method", data := Data.fields #[Value.builtin "type.__prepare__", Value.type "type"] }
noncomputable def ob71 (P : Params) : Obj := { cls := Value.none, data := Data.fields #[] }
noncomputable def ob66 (P : Params) : Obj := { cls := Value.type "type", data := Data.cls { name := q13, bases := [Value.type "ValueError"], mro := [Value.ref 24, Value.type "ValueError", Value.type "Exception", Value.type "BaseException", Value.type "object"], ns := 23, qualname := q13, subclasses := [Value.ref 37] }, slots := #[Option.some (Value.ref 15), Option.none, Option.some (Value.str (q13) 189), Option.some (Value.str (q13) 197), Option.some (Value.builtin "ValueError.__new__"), Option.some (Value.bool Bool.true)] }
noncomputable def ob65 (P : Params) : Obj := { cls := Value.none, data := Data.fields #[Value.int 2 0, Value.int 0 0, Value.ref 20, Value.int 4 0, Value.int 0 0, Value.ref 33] }
noncomputable def ob56 (P : Params) : Obj := { cls := Value.type "code", data := Data.fields #[Value.str (q13) 191, Value.str (q13) 192, Value.str (q1) 193, Value.int 2 0, Value.int 0 0, Value.int 0 0, Value.int 0 0, Value.int 0 0, Value.ref 18, Value.bool Bool.false, Value.int 181 0, Value.ref 19, Value.none, Value.none, Value.none, Value.none, Value.int 194 0, Value.int 2 0, Value.str (q1) 195] }
noncomputable def ob75 (P : Params) : Obj := { cls := Value.type "dict", data := Data.dict #[{ hash := PyData.keyHash P (q15), key := Value.str (q15) 214, val := Value.str (q4) 187 }, { hash := PyData.keyHash P (q16), key := Value.str (q16) 218, val := Value.int 4 217 }, { hash := PyData.keyHash P (q17), key := Value.str (q17) 219, val := Value.ref 35 }, { hash := PyData.keyHash P (q5), key := Value.str (q5) 220, val := Value.none }] 2 }
noncomputable def ob67 (P : Params) : Obj := { cls := Value.type "tuple", data := Data.seq #[Value.ref 24] }
noncomputable def ob54 (P : Params) : Obj := { cls := Value.type "tuple", data := Data.seq #[] }
noncomputable def ob73 (P : Params) : Obj := { cls := Value.type "frame", slots := #[Option.some (Value.ref 33), Option.some (Value.ref 3), Option.some (Value.ref 30), Option.none, Option.some (Value.str (q4) 187), Option.none, Option.some (Value.ref 0)] }
noncomputable def ob62 (P : Params) : Obj := { cls := Value.type "super", data := Data.fields #[Value.ref 24, Value.ref 24, Value.ref 24] }
noncomputable def ob58 (P : Params) : Obj := { cls := Value.type "tuple", data := Data.seq #[] }
noncomputable def ob77 (P : Params) : Obj := { cls := Value.type "super", data := Data.fields #[Value.ref 37, Value.ref 37, Value.ref 37] }
noncomputable def ob69 (P : Params) : Obj := { cls := Value.type "dict", data := Data.dict #[{ hash := PyData.keyHash P (q15), key := Value.str (q15) 214, val := Value.str (q4) 187 }, { hash := PyData.keyHash P (q19), key := Value.str (q19) 216, val := Value.str (q14) 215 }, { hash := PyData.keyHash P (q16), key := Value.str (q16) 218, val := Value.int 4 217 }, { hash := PyData.keyHash P (q17), key := Value.str (q17) 219, val := Value.ref 35 }] 4 }
noncomputable def ob94 (P : Params) : Obj := { cls := Value.type "dict", data := Data.dict #[{ hash := PyData.keyHash P (q3), key := Value.str (q3) 165, val := Value.str (q4) 187 }, { hash := PyData.keyHash P (q5), key := Value.str (q5) 166, val := Value.none }, { hash := PyData.keyHash P (q6), key := Value.str (q6) 167, val := Value.none }, { hash := PyData.keyHash P (q7), key := Value.str (q7) 168, val := Value.builtin "__main__.__loader__#opaque" }, { hash := PyData.keyHash P (q8), key := Value.str (q8) 169, val := Value.none }, { hash := PyData.keyHash P (q9), key := Value.str (q9) 170, val := Value.ref 6 }, { hash := PyData.keyHash P (q10), key := Value.str (q10) 171, val := Value.ref 4 }, { hash := PyData.keyHash P (q11), key := Value.str (q11) 173, val := Value.str (q1) 172 }, { hash := PyData.keyHash P (q12), key := Value.str (q12) 174, val := Value.none }, { hash := PyData.keyHash P (q13), key := Value.str (q13) 206, val := Value.ref 24 }, { hash := PyData.keyHash P (q14), key := Value.str (q14) 222, val := Value.ref 37 }, { hash := PyData.keyHash P (q20), key := Value.str (q20) 238, val := Value.ref 49 }, { hash := PyData.keyHash P (q21), key := Value.str (q21) 254, val := Value.ref 61 }] 13 }
noncomputable def ob108 (P : Params) : Obj := { cls := Value.type "builtin_function_or_method", data := Data.fields #[Value.builtin "object.__init_subclass__", Value.ref 61] }
noncomputable def ob89 (P : Params) : Obj := { cls := Value.type "tuple", data := Data.seq #[] }
noncomputable def ob100 (P : Params) : Obj := { cls := Value.type "tuple", data := Data.seq #[] }
noncomputable def ob93 (P : Params) : Obj := { cls := Value.type "builtin_function_or_method", data := Data.fields #[Value.builtin "object.__init_subclass__", Value.ref 49] }
noncomputable def ob85 (P : Params) : Obj := { cls := Value.type "tuple", data := Data.seq #[] }
noncomputable def ob104 (P : Params) : Obj := { cls := Value.type "tuple", data := Data.seq #[] }
noncomputable def ob91 (P : Params) : Obj := { cls := Value.type "type", data := Data.cls { name := q20, bases := [Value.ref 24], mro := [Value.ref 49, Value.ref 24, Value.type "ValueError", Value.type "Exception", Value.type "BaseException", Value.type "object"], ns := 48, qualname := q20 }, slots := #[Option.some (Value.ref 40), Option.none, Option.some (Value.str (q20) 223), Option.some (Value.str (q20) 231), Option.some (Value.builtin "ValueError.__new__"), Option.some (Value.bool Bool.true)] }
noncomputable def ob83 (P : Params) : Obj := { cls := Value.type "builtin_function_or_method", data := Data.fields #[Value.builtin "type.__prepare__", Value.type "type"] }
noncomputable def ob102 (P : Params) : Obj := { cls := Value.type "code", data := Data.fields #[Value.str (q21) 241, Value.str (q21) 242, Value.str (q1) 243, Value.int 8 0, Value.int 0 0, Value.int 0 0, Value.int 0 0, Value.int 0 0, Value.ref 55, Value.bool Bool.false, Value.int 181 0, Value.ref 56, Value.none, Value.none, Value.none, Value.none, Value.int 244 0, Value.int 8 0, Value.str (q1) 245] }
noncomputable def ob98 (P : Params) : Obj := { cls := Value.type "builtin_function_or_method", data := Data.fields #[Value.builtin "type.__prepare__", Value.type "type"] }
noncomputable def ob87 (P : Params) : Obj := { cls := Value.type "code", data := Data.fields #[Value.str (q20) 225, Value.str (q20) 226, Value.str (q1) 227, Value.int 6 0, Value.int 0 0, Value.int 0 0, Value.int 0 0, Value.int 0 0, Value.ref 43, Value.bool Bool.false, Value.int 181 0, Value.ref 44, Value.none, Value.none, Value.none, Value.none, Value.int 228 0, Value.int 6 0, Value.str (q1) 229] }
noncomputable def ob106 (P : Params) : Obj := { cls := Value.type "type", data := Data.cls { name := q21, bases := [Value.ref 24], mro := [Value.ref 61, Value.ref 24, Value.type "ValueError", Value.type "Exception", Value.type "BaseException", Value.type "object"], ns := 60, qualname := q21 }, slots := #[Option.some (Value.ref 52), Option.none, Option.some (Value.str (q21) 239), Option.some (Value.str (q21) 247), Option.some (Value.builtin "ValueError.__new__"), Option.some (Value.bool Bool.true)] }
noncomputable def ob90 (P : Params) : Obj := { cls := Value.type "dict", data := Data.dict #[{ hash := PyData.keyHash P (q15), key := Value.str (q15) 230, val := Value.str (q4) 187 }, { hash := PyData.keyHash P (q16), key := Value.str (q16) 234, val := Value.int 6 233 }, { hash := PyData.keyHash P (q17), key := Value.str (q17) 235, val := Value.ref 47 }, { hash := PyData.keyHash P (q5), key := Value.str (q5) 236, val := Value.none }] 2 }
noncomputable def ob96 (P : Params) : Obj := { cls := Value.type "type", data := Data.cls { name := q13, bases := [Value.type "ValueError"], mro := [Value.ref 24, Value.type "ValueError", Value.type "Exception", Value.type "BaseException", Value.type "object"], ns := 23, qualname := q13, subclasses := [Value.ref 37, Value.ref 49, Value.ref 61] }, slots := #[Option.some (Value.ref 15), Option.none, Option.some (Value.str (q13) 189), Option.some (Value.str (q13) 197), Option.some (Value.builtin "ValueError.__new__"), Option.some (Value.bool Bool.true)] }
noncomputable def ob82 (P : Params) : Obj := { cls := Value.type "tuple", data := Data.seq #[Value.ref 24] }
noncomputable def ob101 (P : Params) : Obj := { cls := Value.none, data := Data.fields #[] }
noncomputable def ob95 (P : Params) : Obj := { cls := Value.none, data := Data.fields #[Value.int 2 0, Value.int 0 0, Value.ref 20, Value.int 4 0, Value.int 0 0, Value.ref 33, Value.int 6 0, Value.int 0 0, Value.ref 45, Value.int 8 0, Value.int 0 0, Value.ref 57] }
noncomputable def ob97 (P : Params) : Obj := { cls := Value.type "tuple", data := Data.seq #[Value.ref 24] }
noncomputable def ob86 (P : Params) : Obj := { cls := Value.none, data := Data.fields #[] }
noncomputable def ob105 (P : Params) : Obj := { cls := Value.type "dict", data := Data.dict #[{ hash := PyData.keyHash P (q15), key := Value.str (q15) 246, val := Value.str (q4) 187 }, { hash := PyData.keyHash P (q16), key := Value.str (q16) 250, val := Value.int 8 249 }, { hash := PyData.keyHash P (q17), key := Value.str (q17) 251, val := Value.ref 59 }, { hash := PyData.keyHash P (q5), key := Value.str (q5) 252, val := Value.none }] 2 }
noncomputable def ob92 (P : Params) : Obj := { cls := Value.type "super", data := Data.fields #[Value.ref 49, Value.ref 49, Value.ref 49] }
noncomputable def ob84 (P : Params) : Obj := { cls := Value.type "dict", data := Data.dict #[{ hash := PyData.keyHash P (q15), key := Value.str (q15) 230, val := Value.str (q4) 187 }, { hash := PyData.keyHash P (q19), key := Value.str (q19) 232, val := Value.str (q20) 231 }, { hash := PyData.keyHash P (q16), key := Value.str (q16) 234, val := Value.int 6 233 }, { hash := PyData.keyHash P (q17), key := Value.str (q17) 235, val := Value.ref 47 }] 4 }
noncomputable def ob103 (P : Params) : Obj := { cls := Value.type "frame", slots := #[Option.some (Value.ref 57), Option.some (Value.ref 3), Option.some (Value.ref 54), Option.none, Option.some (Value.str (q4) 187), Option.none, Option.some (Value.ref 0)] }
noncomputable def ob99 (P : Params) : Obj := { cls := Value.type "dict", data := Data.dict #[{ hash := PyData.keyHash P (q15), key := Value.str (q15) 246, val := Value.str (q4) 187 }, { hash := PyData.keyHash P (q19), key := Value.str (q19) 248, val := Value.str (q21) 247 }, { hash := PyData.keyHash P (q16), key := Value.str (q16) 250, val := Value.int 8 249 }, { hash := PyData.keyHash P (q17), key := Value.str (q17) 251, val := Value.ref 59 }] 4 }
noncomputable def ob88 (P : Params) : Obj := { cls := Value.type "frame", slots := #[Option.some (Value.ref 45), Option.some (Value.ref 3), Option.some (Value.ref 42), Option.none, Option.some (Value.str (q4) 187), Option.none, Option.some (Value.ref 0)] }
noncomputable def ob107 (P : Params) : Obj := { cls := Value.type "super", data := Data.fields #[Value.ref 61, Value.ref 61, Value.ref 61] }
noncomputable def ob124 (P : Params) : Obj := { cls := Value.type "dict", data := Data.dict #[{ hash := PyData.keyHash P (q3), key := Value.str (q3) 165, val := Value.str (q4) 187 }, { hash := PyData.keyHash P (q5), key := Value.str (q5) 166, val := Value.none }, { hash := PyData.keyHash P (q6), key := Value.str (q6) 167, val := Value.none }, { hash := PyData.keyHash P (q7), key := Value.str (q7) 168, val := Value.builtin "__main__.__loader__#opaque" }, { hash := PyData.keyHash P (q8), key := Value.str (q8) 169, val := Value.none }, { hash := PyData.keyHash P (q9), key := Value.str (q9) 170, val := Value.ref 6 }, { hash := PyData.keyHash P (q10), key := Value.str (q10) 171, val := Value.ref 4 }, { hash := PyData.keyHash P (q11), key := Value.str (q11) 173, val := Value.str (q1) 172 }, { hash := PyData.keyHash P (q12), key := Value.str (q12) 174, val := Value.none }, { hash := PyData.keyHash P (q13), key := Value.str (q13) 206, val := Value.ref 24 }, { hash := PyData.keyHash P (q14), key := Value.str (q14) 222, val := Value.ref 37 }, { hash := PyData.keyHash P (q20), key := Value.str (q20) 238, val := Value.ref 49 }, { hash := PyData.keyHash P (q21), key := Value.str (q21) 254, val := Value.ref 61 }, { hash := PyData.keyHash P (q22), key := Value.str (q22) 270, val := Value.ref 73 }, { hash := PyData.keyHash P (q23), key := Value.str (q23) 286, val := Value.ref 85 }] 15 }
noncomputable def ob130 (P : Params) : Obj := { cls := Value.type "tuple", data := Data.seq #[] }
noncomputable def ob119 (P : Params) : Obj := { cls := Value.type "tuple", data := Data.seq #[] }
noncomputable def ob138 (P : Params) : Obj := { cls := Value.type "builtin_function_or_method", data := Data.fields #[Value.builtin "object.__init_subclass__", Value.ref 85] }
noncomputable def ob115 (P : Params) : Obj := { cls := Value.type "tuple", data := Data.seq #[] }
noncomputable def ob134 (P : Params) : Obj := { cls := Value.type "tuple", data := Data.seq #[] }
noncomputable def ob123 (P : Params) : Obj := { cls := Value.type "builtin_function_or_method", data := Data.fields #[Value.builtin "object.__init_subclass__", Value.ref 73] }
noncomputable def ob113 (P : Params) : Obj := { cls := Value.type "builtin_function_or_method", data := Data.fields #[Value.builtin "type.__prepare__", Value.type "type"] }
noncomputable def ob132 (P : Params) : Obj := { cls := Value.type "code", data := Data.fields #[Value.str (q23) 273, Value.str (q23) 274, Value.str (q1) 275, Value.int 12 0, Value.int 0 0, Value.int 0 0, Value.int 0 0, Value.int 0 0, Value.ref 79, Value.bool Bool.false, Value.int 181 0, Value.ref 80, Value.none, Value.none, Value.none, Value.none, Value.int 276 0, Value.int 12 0, Value.str (q1) 277] }
noncomputable def ob121 (P : Params) : Obj := { cls := Value.type "type", data := Data.cls { name := q22, bases := [Value.ref 24], mro := [Value.ref 73, Value.ref 24, Value.type "ValueError", Value.type "Exception", Value.type "BaseException", Value.type "object"], ns := 72, qualname := q22 }, slots := #[Option.some (Value.ref 64), Option.none, Option.some (Value.str (q22) 255), Option.some (Value.str (q22) 263), Option.some (Value.builtin "ValueError.__new__"), Option.some (Value.bool Bool.true)] }
noncomputable def ob117 (P : Params) : Obj := { cls := Value.type "code", data := Data.fields #[Value.str (q22) 257, Value.str (q22) 258, Value.str (q1) 259, Value.int 10 0, Value.int 0 0, Value.int 0 0, Value.int 0 0, Value.int 0 0, Value.ref 67, Value.bool Bool.false, Value.int 181 0, Value.ref 68, Value.none, Value.none, Value.none, Value.none, Value.int 260 0, Value.int 10 0, Value.str (q1) 261] }
noncomputable def ob136 (P : Params) : Obj := { cls := Value.type "type", data := Data.cls { name := q23, bases := [Value.ref 24], mro := [Value.ref 85, Value.ref 24, Value.type "ValueError", Value.type "Exception", Value.type "BaseException", Value.type "object"], ns := 84, qualname := q23 }, slots := #[Option.some (Value.ref 76), Option.none, Option.some (Value.str (q23) 271), Option.some (Value.str (q23) 279), Option.some (Value.builtin "ValueError.__new__"), Option.some (Value.bool Bool.true)] }
noncomputable def ob128 (P : Params) : Obj := { cls := Value.type "builtin_function_or_method", data := Data.fields #[Value.builtin "type.__prepare__", Value.type "type"] }
noncomputable def ob112 (P : Params) : Obj := { cls := Value.type "tuple", data := Data.seq #[Value.ref 24] }
noncomputable def ob131 (P : Params) : Obj := { cls := Value.none, data := Data.fields #[] }
noncomputable def ob126 (P : Params) : Obj := { cls := Value.type "type", data := Data.cls { name := q13, bases := [Value.type "ValueError"], mro := [Value.ref 24, Value.type "ValueError", Value.type "Exception", Value.type "BaseException", Value.type "object"], ns := 23, qualname := q13, subclasses := [Value.ref 37, Value.ref 49, Value.ref 61, Value.ref 73, Value.ref 85] }, slots := #[Option.some (Value.ref 15), Option.none, Option.some (Value.str (q13) 189), Option.some (Value.str (q13) 197), Option.some (Value.builtin "ValueError.__new__"), Option.some (Value.bool Bool.true)] }
noncomputable def ob120 (P : Params) : Obj := { cls := Value.type "dict", data := Data.dict #[{ hash := PyData.keyHash P (q15), key := Value.str (q15) 262, val := Value.str (q4) 187 }, { hash := PyData.keyHash P (q16), key := Value.str (q16) 266, val := Value.int 10 265 }, { hash := PyData.keyHash P (q17), key := Value.str (q17) 267, val := Value.ref 71 }, { hash := PyData.keyHash P (q5), key := Value.str (q5) 268, val := Value.none }] 2 }
noncomputable def ob125 (P : Params) : Obj := { cls := Value.none, data := Data.fields #[Value.int 2 0, Value.int 0 0, Value.ref 20, Value.int 4 0, Value.int 0 0, Value.ref 33, Value.int 6 0, Value.int 0 0, Value.ref 45, Value.int 8 0, Value.int 0 0, Value.ref 57, Value.int 10 0, Value.int 0 0, Value.ref 69, Value.int 12 0, Value.int 0 0, Value.ref 81] }
noncomputable def ob116 (P : Params) : Obj := { cls := Value.none, data := Data.fields #[] }
noncomputable def ob135 (P : Params) : Obj := { cls := Value.type "dict", data := Data.dict #[{ hash := PyData.keyHash P (q15), key := Value.str (q15) 278, val := Value.str (q4) 187 }, { hash := PyData.keyHash P (q16), key := Value.str (q16) 282, val := Value.int 12 281 }, { hash := PyData.keyHash P (q17), key := Value.str (q17) 283, val := Value.ref 83 }, { hash := PyData.keyHash P (q5), key := Value.str (q5) 284, val := Value.none }] 2 }
noncomputable def ob127 (P : Params) : Obj := { cls := Value.type "tuple", data := Data.seq #[Value.ref 24] }
noncomputable def ob114 (P : Params) : Obj := { cls := Value.type "dict", data := Data.dict #[{ hash := PyData.keyHash P (q15), key := Value.str (q15) 262, val := Value.str (q4) 187 }, { hash := PyData.keyHash P (q19), key := Value.str (q19) 264, val := Value.str (q22) 263 }, { hash := PyData.keyHash P (q16), key := Value.str (q16) 266, val := Value.int 10 265 }, { hash := PyData.keyHash P (q17), key := Value.str (q17) 267, val := Value.ref 71 }] 4 }
noncomputable def ob133 (P : Params) : Obj := { cls := Value.type "frame", slots := #[Option.some (Value.ref 81), Option.some (Value.ref 3), Option.some (Value.ref 78), Option.none, Option.some (Value.str (q4) 187), Option.none, Option.some (Value.ref 0)] }
noncomputable def ob122 (P : Params) : Obj := { cls := Value.type "super", data := Data.fields #[Value.ref 73, Value.ref 73, Value.ref 73] }
noncomputable def ob118 (P : Params) : Obj := { cls := Value.type "frame", slots := #[Option.some (Value.ref 69), Option.some (Value.ref 3), Option.some (Value.ref 66), Option.none, Option.some (Value.str (q4) 187), Option.none, Option.some (Value.ref 0)] }
noncomputable def ob137 (P : Params) : Obj := { cls := Value.type "super", data := Data.fields #[Value.ref 85, Value.ref 85, Value.ref 85] }
noncomputable def ob129 (P : Params) : Obj := { cls := Value.type "dict", data := Data.dict #[{ hash := PyData.keyHash P (q15), key := Value.str (q15) 278, val := Value.str (q4) 187 }, { hash := PyData.keyHash P (q19), key := Value.str (q19) 280, val := Value.str (q23) 279 }, { hash := PyData.keyHash P (q16), key := Value.str (q16) 282, val := Value.int 12 281 }, { hash := PyData.keyHash P (q17), key := Value.str (q17) 283, val := Value.ref 83 }] 4 }
noncomputable def ob139 (P : Params) : Obj := { cls := Value.type "dict", data := Data.dict #[{ hash := PyData.keyHash P (q3), key := Value.str (q3) 165, val := Value.str (q24) 303 }, { hash := PyData.keyHash P (q5), key := Value.str (q5) 166, val := Value.none }, { hash := PyData.keyHash P (q6), key := Value.str (q6) 167, val := Value.none }, { hash := PyData.keyHash P (q7), key := Value.str (q7) 168, val := Value.builtin "__main__.__loader__#opaque" }, { hash := PyData.keyHash P (q8), key := Value.str (q8) 169, val := Value.none }, { hash := PyData.keyHash P (q9), key := Value.str (q9) 170, val := Value.ref 6 }, { hash := PyData.keyHash P (q10), key := Value.str (q10) 171, val := Value.ref 4 }, { hash := PyData.keyHash P (q11), key := Value.str (q11) 173, val := Value.str (q1) 172 }, { hash := PyData.keyHash P (q12), key := Value.str (q12) 174, val := Value.none }, { hash := PyData.keyHash P (q13), key := Value.str (q13) 206, val := Value.ref 24 }, { hash := PyData.keyHash P (q14), key := Value.str (q14) 222, val := Value.ref 37 }, { hash := PyData.keyHash P (q20), key := Value.str (q20) 238, val := Value.ref 49 }, { hash := PyData.keyHash P (q21), key := Value.str (q21) 254, val := Value.ref 61 }, { hash := PyData.keyHash P (q22), key := Value.str (q22) 270, val := Value.ref 73 }, { hash := PyData.keyHash P (q23), key := Value.str (q23) 286, val := Value.ref 85 }, { hash := PyData.keyHash P (q25), key := Value.str (q25) 302, val := Value.ref 97 }, { hash := PyData.keyHash P (q26), key := Value.str (q26) 306, val := Value.str (q27) 305 }, { hash := PyData.keyHash P (q28), key := Value.str (q28) 308, val := Value.int 60 307 }, { hash := PyData.keyHash P (q29), key := Value.str (q29) 321, val := Value.ref 100 }, { hash := PyData.keyHash P (q30), key := Value.str (q30) 327, val := Value.ref 105 }, { hash := PyData.keyHash P (q31), key := Value.str (q31) 336, val := Value.ref 112 }, { hash := PyData.keyHash P (q32), key := Value.str (q32) 342, val := Value.ref 117 }] 22 }
noncomputable def ob149 (P : Params) : Obj := { cls := Value.type "tuple", data := Data.seq #[] }
noncomputable def ob165 (P : Params) : Obj := { cls := Value.type "code", data := Data.fields #[Value.str (q31) 328, Value.str (q31) 329, Value.str (q1) 330, Value.int 22 0, Value.int 1 0, Value.int 0 0, Value.int 0 0, Value.int 3 0, Value.ref 106, Value.bool Bool.true, Value.int 181 0, Value.ref 107, Value.none, Value.ref 108, Value.ref 109, Value.ref 110, Value.int 334 0, Value.int 22 0, Value.str (q1) 335] }
noncomputable def ob157 (P : Params) : Obj := { cls := Value.none, data := Data.func { name := q30, qualname := q30, params := fArgs (sA 12), body := FuncBody.stmts (fBody (sA 12)), scope := fScope (sA 12), globals := 0, closure := [], defaults := Value.none, kwdefaults := Value.none } }
noncomputable def ob153 (P : Params) : Obj := { cls := Value.type "builtin_function_or_method", data := Data.fields #[Value.builtin "object.__init_subclass__", Value.ref 97] }
noncomputable def ob169 (P : Params) : Obj := { cls := Value.none, data := Data.func { name := q32, qualname := q32, params := fArgs (sA 14), body := FuncBody.stmts (fBody (sA 14)), scope := fScope (sA 14), globals := 0, closure := [], defaults := Value.none, kwdefaults := Value.none } }
noncomputable def ob161 (P : Params) : Obj := { cls := Value.none, data := Data.fields #[] }
noncomputable def ob145 (P : Params) : Obj := { cls := Value.type "tuple", data := Data.seq #[] }
noncomputable def ob151 (P : Params) : Obj := { cls := Value.type "type", data := Data.cls { name := q25, bases := [Value.ref 24], mro := [Value.ref 97, Value.ref 24, Value.type "ValueError", Value.type "Exception", Value.type "BaseException", Value.type "object"], ns := 96, qualname := q25 }, slots := #[Option.some (Value.ref 88), Option.none, Option.some (Value.str (q25) 287), Option.some (Value.str (q25) 295), Option.some (Value.builtin "ValueError.__new__"), Option.some (Value.bool Bool.true)] }
noncomputable def ob167 (P : Params) : Obj := { cls := Value.type "tuple", data := Data.seq #[] }
noncomputable def ob159 (P : Params) : Obj := { cls := Value.type "function", data := Data.func { name := q30, qualname := q30, params := fArgs (sA 12), body := FuncBody.stmts (fBody (sA 12)), scope := fScope (sA 12), globals := 3, closure := [], defaults := Value.none, kwdefaults := Value.none, pyModule := Value.str (q24) 303, code := Value.ref 104 } }
noncomputable def ob143 (P : Params) : Obj := { cls := Value.type "builtin_function_or_method", data := Data.fields #[Value.builtin "type.__prepare__", Value.type "type"] }
noncomputable def ob155 (P : Params) : Obj := { cls := Value.type "tuple", data := Data.seq #[] }
noncomputable def ob171 (P : Params) : Obj := { cls := Value.type "function", data := Data.func { name := q32, qualname := q32, params := fArgs (sA 14), body := FuncBody.stmts (fBody (sA 14)), scope := fScope (sA 14), globals := 3, closure := [], defaults := Value.none, kwdefaults := Value.none, pyModule := Value.str (q24) 303, code := Value.ref 116 } }
noncomputable def ob163 (P : Params) : Obj := { cls := Value.type "tuple", data := Data.seq #[] }
noncomputable def ob147 (P : Params) : Obj := { cls := Value.type "code", data := Data.fields #[Value.str (q25) 289, Value.str (q25) 290, Value.str (q1) 291, Value.int 14 0, Value.int 0 0, Value.int 0 0, Value.int 0 0, Value.int 0 0, Value.ref 91, Value.bool Bool.false, Value.int 181 0, Value.ref 92, Value.none, Value.none, Value.none, Value.none, Value.int 292 0, Value.int 14 0, Value.str (q1) 293] }
noncomputable def ob150 (P : Params) : Obj := { cls := Value.type "dict", data := Data.dict #[{ hash := PyData.keyHash P (q15), key := Value.str (q15) 294, val := Value.str (q4) 187 }, { hash := PyData.keyHash P (q16), key := Value.str (q16) 298, val := Value.int 14 297 }, { hash := PyData.keyHash P (q17), key := Value.str (q17) 299, val := Value.ref 95 }, { hash := PyData.keyHash P (q5), key := Value.str (q5) 300, val := Value.none }] 2 }
noncomputable def ob166 (P : Params) : Obj := { cls := Value.type "function", data := Data.func { name := q31, qualname := q31, params := fArgs (sA 13), body := FuncBody.stmts (fBody (sA 13)), scope := fScope (sA 13), globals := 3, closure := [], defaults := Value.none, kwdefaults := Value.none, pyModule := Value.str (q24) 303, code := Value.ref 111 } }
noncomputable def ob141 (P : Params) : Obj := { cls := Value.type "type", data := Data.cls { name := q13, bases := [Value.type "ValueError"], mro := [Value.ref 24, Value.type "ValueError", Value.type "Exception", Value.type "BaseException", Value.type "object"], ns := 23, qualname := q13, subclasses := [Value.ref 37, Value.ref 49, Value.ref 61, Value.ref 73, Value.ref 85, Value.ref 97] }, slots := #[Option.some (Value.ref 15), Option.none, Option.some (Value.str (q13) 189), Option.some (Value.str (q13) 197), Option.some (Value.builtin "ValueError.__new__"), Option.some (Value.bool Bool.true)] }
noncomputable def ob158 (P : Params) : Obj := { cls := Value.type "code", data := Data.fields #[Value.str (q30) 322, Value.str (q30) 323, Value.str (q1) 324, Value.int 20 0, Value.int 1 0, Value.int 0 0, Value.int 0 0, Value.int 3 0, Value.ref 101, Value.bool Bool.true, Value.int 181 0, Value.ref 102, Value.none, Value.none, Value.none, Value.ref 103, Value.int 325 0, Value.int 20 0, Value.str (q1) 326] }
noncomputable def ob142 (P : Params) : Obj := { cls := Value.type "tuple", data := Data.seq #[Value.ref 24] }
noncomputable def ob140 (P : Params) : Obj := { cls := Value.none, data := Data.fields #[Value.int 2 0, Value.int 0 0, Value.ref 20, Value.int 4 0, Value.int 0 0, Value.ref 33, Value.int 6 0, Value.int 0 0, Value.ref 45, Value.int 8 0, Value.int 0 0, Value.ref 57, Value.int 10 0, Value.int 0 0, Value.ref 69, Value.int 12 0, Value.int 0 0, Value.ref 81, Value.int 14 0, Value.int 0 0, Value.ref 93, Value.int 20 0, Value.int 0 0, Value.ref 104, Value.int 22 0, Value.int 0 0, Value.ref 111, Value.int 32 0, Value.int 0 0, Value.ref 116] }
noncomputable def ob154 (P : Params) : Obj := { cls := Value.type "dict", data := Data.dict #[{ hash := PyData.keyHash P (q33), key := Value.str (q33) 309, val := Value.int 1 310 }, { hash := PyData.keyHash P (q34), key := Value.str (q34) 311, val := Value.int 1 312 }, { hash := PyData.keyHash P (q35), key := Value.str (q35) 313, val := Value.int 3 314 }, { hash := PyData.keyHash P (q36), key := Value.str (q36) 315, val := Value.int 1 316 }] 4 }
noncomputable def ob170 (P : Params) : Obj := { cls := Value.type "code", data := Data.fields #[Value.str (q32) 337, Value.str (q32) 338, Value.str (q1) 339, Value.int 32 0, Value.int 1 0, Value.int 0 0, Value.int 0 0, Value.int 3 0, Value.ref 113, Value.bool Bool.true, Value.int 181 0, Value.ref 114, Value.none, Value.none, Value.none, Value.ref 115, Value.int 340 0, Value.int 32 0, Value.str (q1) 341] }
noncomputable def ob162 (P : Params) : Obj := { cls := Value.type "tuple", data := Data.seq #[Value.str (q37) 331, Value.str (q38) 332, Value.str (q39) 333] }
noncomputable def ob146 (P : Params) : Obj := { cls := Value.none, data := Data.fields #[] }
noncomputable def ob152 (P : Params) : Obj := { cls := Value.type "super", data := Data.fields #[Value.ref 97, Value.ref 97, Value.ref 97] }
noncomputable def ob168 (P : Params) : Obj := { cls := Value.none, data := Data.fields #[] }
noncomputable def ob160 (P : Params) : Obj := { cls := Value.type "tuple", data := Data.seq #[] }
noncomputable def ob144 (P : Params) : Obj := { cls := Value.type "dict", data := Data.dict #[{ hash := PyData.keyHash P (q15), key := Value.str (q15) 294, val := Value.str (q4) 187 }, { hash := PyData.keyHash P (q19), key := Value.str (q19) 296, val := Value.str (q25) 295 }, { hash := PyData.keyHash P (q16), key := Value.str (q16) 298, val := Value.int 14 297 }, { hash := PyData.keyHash P (q17), key := Value.str (q17) 299, val := Value.ref 95 }] 4 }
noncomputable def ob156 (P : Params) : Obj := { cls := Value.none, data := Data.fields #[] }
noncomputable def ob164 (P : Params) : Obj := { cls := Value.none, data := Data.func { name := q31, qualname := q31, params := fArgs (sA 13), body := FuncBody.stmts (fBody (sA 13)), scope := fScope (sA 13), globals := 0, closure := [], defaults := Value.none, kwdefaults := Value.none } }
noncomputable def ob148 (P : Params) : Obj := { cls := Value.type "frame", slots := #[Option.some (Value.ref 93), Option.some (Value.ref 3), Option.some (Value.ref 90), Option.none, Option.some (Value.str (q4) 187), Option.none, Option.some (Value.ref 0)] }
noncomputable def ob174 (P : Params) : Obj := { cls := Value.type "dict", data := Data.dict #[{ hash := PyData.keyHash P (q3), key := Value.str (q3) 165, val := Value.str (q40) 343 }, { hash := PyData.keyHash P (q5), key := Value.str (q5) 166, val := Value.none }, { hash := PyData.keyHash P (q6), key := Value.str (q6) 167, val := Value.none }, { hash := PyData.keyHash P (q7), key := Value.str (q7) 168, val := Value.builtin "__main__.__loader__#opaque" }, { hash := PyData.keyHash P (q8), key := Value.str (q8) 169, val := Value.none }, { hash := PyData.keyHash P (q9), key := Value.str (q9) 170, val := Value.ref 6 }, { hash := PyData.keyHash P (q10), key := Value.str (q10) 171, val := Value.ref 4 }, { hash := PyData.keyHash P (q11), key := Value.str (q11) 173, val := Value.str (q1) 172 }, { hash := PyData.keyHash P (q12), key := Value.str (q12) 174, val := Value.none }, { hash := PyData.keyHash P (q13), key := Value.str (q13) 206, val := Value.ref 24 }, { hash := PyData.keyHash P (q14), key := Value.str (q14) 222, val := Value.ref 37 }, { hash := PyData.keyHash P (q20), key := Value.str (q20) 238, val := Value.ref 49 }, { hash := PyData.keyHash P (q21), key := Value.str (q21) 254, val := Value.ref 61 }, { hash := PyData.keyHash P (q22), key := Value.str (q22) 270, val := Value.ref 73 }, { hash := PyData.keyHash P (q23), key := Value.str (q23) 286, val := Value.ref 85 }, { hash := PyData.keyHash P (q25), key := Value.str (q25) 302, val := Value.ref 97 }, { hash := PyData.keyHash P (q26), key := Value.str (q26) 306, val := Value.str (q27) 305 }, { hash := PyData.keyHash P (q28), key := Value.str (q28) 308, val := Value.int 60 307 }, { hash := PyData.keyHash P (q29), key := Value.str (q29) 321, val := Value.ref 100 }, { hash := PyData.keyHash P (q30), key := Value.str (q30) 327, val := Value.ref 105 }, { hash := PyData.keyHash P (q31), key := Value.str (q31) 336, val := Value.ref 112 }, { hash := PyData.keyHash P (q32), key := Value.str (q32) 342, val := Value.ref 117 }, { hash := PyData.keyHash P (q41), key := Value.str (q41) 352, val := Value.ref 124 }, { hash := PyData.keyHash P (q42), key := Value.str (q42) 359, val := Value.ref 131 }, { hash := PyData.keyHash P (q43), key := Value.str (q43) 368, val := Value.ref 138 }, { hash := PyData.keyHash P (q44), key := Value.str (q44) 377, val := Value.ref 145 }, { hash := PyData.keyHash P (q45), key := Value.str (q45) 384, val := Value.ref 152 }, { hash := PyData.keyHash P (q46), key := Value.str (q46) 390, val := Value.ref 157 }, { hash := PyData.keyHash P (q47), key := Value.str (q47) 398, val := Value.ref 164 }, { hash := PyData.keyHash P (q48), key := Value.str (q48) 408, val := Value.ref 171 }, { hash := PyData.keyHash P (q49), key := Value.str (q49) 414, val := Value.ref 176 }, { hash := PyData.keyHash P (q50), key := Value.str (q50) 420, val := Value.ref 181 }, { hash := PyData.keyHash P (q51), key := Value.str (q51) 428, val := Value.ref 188 }, { hash := PyData.keyHash P (q52), key := Value.str (q52) 436, val := Value.ref 195 }, { hash := PyData.keyHash P (q53), key := Value.str (q53) 442, val := Value.ref 200 }] 35 }
noncomputable def ob185 (P : Params) : Obj := { cls := Value.type "tuple", data := Data.seq #[Value.str (q54) 356] }
noncomputable def ob249 (P : Params) : Obj := { cls := Value.type "tuple", data := Data.seq #[Value.str (q55) 432, Value.str (q56) 433] }
noncomputable def ob217 (P : Params) : Obj := { cls := Value.none, data := Data.fields #[] }
noncomputable def ob201 (P : Params) : Obj := { cls := Value.none, data := Data.func { name := q44, qualname := q44, params := fArgs (sA 19), body := FuncBody.stmts (fBody (sA 19)), scope := fScope (sA 19), globals := 0, closure := [], defaults := Value.none, kwdefaults := Value.none } }
noncomputable def ob233 (P : Params) : Obj := { cls := Value.type "code", data := Data.fields #[Value.str (q49) 409, Value.str (q49) 410, Value.str (q1) 411, Value.int 99 0, Value.int 1 0, Value.int 0 0, Value.int 0 0, Value.int 3 0, Value.ref 172, Value.bool Bool.true, Value.int 181 0, Value.ref 173, Value.none, Value.none, Value.none, Value.ref 174, Value.int 412 0, Value.int 99 0, Value.str (q1) 413] }
noncomputable def ob193 (P : Params) : Obj := { cls := Value.type "tuple", data := Data.seq #[] }
noncomputable def ob257 (P : Params) : Obj := { cls := Value.type "code", data := Data.fields #[Value.str (q53) 437, Value.str (q53) 438, Value.str (q1) 439, Value.int 129 0, Value.int 1 0, Value.int 0 0, Value.int 0 0, Value.int 3 0, Value.ref 196, Value.bool Bool.true, Value.int 181 0, Value.ref 197, Value.none, Value.none, Value.none, Value.ref 198, Value.int 440 0, Value.int 129 0, Value.str (q1) 441] }
noncomputable def ob225 (P : Params) : Obj := { cls := Value.type "tuple", data := Data.seq #[Value.str (q55) 402, Value.str (q57) 403, Value.str (q58) 404, Value.str (q59) 405] }
noncomputable def ob209 (P : Params) : Obj := { cls := Value.type "code", data := Data.fields #[Value.str (q45) 378, Value.str (q45) 379, Value.str (q1) 380, Value.int 68 0, Value.int 1 0, Value.int 0 0, Value.int 0 0, Value.int 3 0, Value.ref 146, Value.bool Bool.true, Value.int 181 0, Value.ref 147, Value.none, Value.ref 148, Value.ref 149, Value.ref 150, Value.int 382 0, Value.int 68 0, Value.str (q1) 383] }
noncomputable def ob177 (P : Params) : Obj := { cls := Value.none, data := Data.fields #[] }
noncomputable def ob241 (P : Params) : Obj := { cls := Value.none, data := Data.fields #[] }
noncomputable def ob189 (P : Params) : Obj := { cls := Value.type "function", data := Data.func { name := q42, qualname := q42, params := fArgs (sA 17), body := FuncBody.stmts (fBody (sA 17)), scope := fScope (sA 17), globals := 3, closure := [], defaults := Value.none, kwdefaults := Value.none, pyModule := Value.str (q40) 343, code := Value.ref 130 } }
noncomputable def ob253 (P : Params) : Obj := { cls := Value.type "function", data := Data.func { name := q52, qualname := q52, params := fArgs (sA 27), body := FuncBody.stmts (fBody (sA 27)), scope := fScope (sA 27), globals := 3, closure := [], defaults := Value.none, kwdefaults := Value.none, pyModule := Value.str (q40) 343, code := Value.ref 194 } }
noncomputable def ob221 (P : Params) : Obj := { cls := Value.type "code", data := Data.fields #[Value.str (q47) 391, Value.str (q47) 392, Value.str (q1) 393, Value.int 84 0, Value.int 1 0, Value.int 0 0, Value.int 0 0, Value.int 3 0, Value.ref 158, Value.bool Bool.true, Value.int 181 0, Value.ref 159, Value.none, Value.ref 160, Value.ref 161, Value.ref 162, Value.int 396 0, Value.int 84 0, Value.str (q1) 397] }
noncomputable def ob205 (P : Params) : Obj := { cls := Value.none, data := Data.fields #[] }
noncomputable def ob237 (P : Params) : Obj := { cls := Value.none, data := Data.func { name := q50, qualname := q50, params := fArgs (sA 25), body := FuncBody.stmts (fBody (sA 25)), scope := fScope (sA 25), globals := 0, closure := [], defaults := Value.none, kwdefaults := Value.none } }
noncomputable def ob197 (P : Params) : Obj := { cls := Value.type "tuple", data := Data.seq #[] }
noncomputable def ob229 (P : Params) : Obj := { cls := Value.type "function", data := Data.func { name := q48, qualname := q48, params := fArgs (sA 23), body := FuncBody.stmts (fBody (sA 23)), scope := fScope (sA 23), globals := 3, closure := [], defaults := Value.none, kwdefaults := Value.none, pyModule := Value.str (q40) 343, code := Value.ref 170 } }
noncomputable def ob213 (P : Params) : Obj := { cls := Value.none, data := Data.func { name := q46, qualname := q46, params := fArgs (sA 21), body := FuncBody.stmts (fBody (sA 21)), scope := fScope (sA 21), globals := 0, closure := [], defaults := Value.none, kwdefaults := Value.none } }
noncomputable def ob181 (P : Params) : Obj := { cls := Value.type "code", data := Data.fields #[Value.str (q41) 345, Value.str (q41) 346, Value.str (q1) 347, Value.int 38 0, Value.int 2 0, Value.int 0 0, Value.int 0 0, Value.int 3 0, Value.ref 118, Value.bool Bool.true, Value.int 181 0, Value.ref 119, Value.none, Value.ref 120, Value.ref 121, Value.ref 122, Value.int 350 0, Value.int 38 0, Value.str (q1) 351] }
noncomputable def ob245 (P : Params) : Obj := { cls := Value.type "code", data := Data.fields #[Value.str (q51) 421, Value.str (q51) 422, Value.str (q1) 423, Value.int 116 0, Value.int 1 0, Value.int 0 0, Value.int 0 0, Value.int 3 0, Value.ref 182, Value.bool Bool.true, Value.int 181 0, Value.ref 183, Value.none, Value.ref 184, Value.ref 185, Value.ref 186, Value.int 426 0, Value.int 116 0, Value.str (q1) 427] }
noncomputable def ob187 (P : Params) : Obj := { cls := Value.none, data := Data.func { name := q42, qualname := q42, params := fArgs (sA 17), body := FuncBody.stmts (fBody (sA 17)), scope := fScope (sA 17), globals := 0, closure := [], defaults := Value.none, kwdefaults := Value.none } }
noncomputable def ob251 (P : Params) : Obj := { cls := Value.none, data := Data.func { name := q52, qualname := q52, params := fArgs (sA 27), body := FuncBody.stmts (fBody (sA 27)), scope := fScope (sA 27), globals := 0, closure := [], defaults := Value.none, kwdefaults := Value.none } }
noncomputable def ob219 (P : Params) : Obj := { cls := Value.type "tuple", data := Data.seq #[] }
noncomputable def ob203 (P : Params) : Obj := { cls := Value.type "function", data := Data.func { name := q44, qualname := q44, params := fArgs (sA 19), body := FuncBody.stmts (fBody (sA 19)), scope := fScope (sA 19), globals := 3, closure := [], defaults := Value.none, kwdefaults := Value.none, pyModule := Value.str (q40) 343, code := Value.ref 144 } }
noncomputable def ob235 (P : Params) : Obj := { cls := Value.type "tuple", data := Data.seq #[] }
noncomputable def ob195 (P : Params) : Obj := { cls := Value.type "code", data := Data.fields #[Value.str (q43) 360, Value.str (q43) 361, Value.str (q1) 362, Value.int 44 0, Value.int 2 0, Value.int 0 0, Value.int 0 0, Value.int 3 0, Value.ref 132, Value.bool Bool.true, Value.int 181 0, Value.ref 133, Value.none, Value.ref 134, Value.ref 135, Value.ref 136, Value.int 366 0, Value.int 44 0, Value.str (q1) 367] }
noncomputable def ob227 (P : Params) : Obj := { cls := Value.none, data := Data.func { name := q48, qualname := q48, params := fArgs (sA 23), body := FuncBody.stmts (fBody (sA 23)), scope := fScope (sA 23), globals := 0, closure := [], defaults := Value.none, kwdefaults := Value.none } }
noncomputable def ob211 (P : Params) : Obj := { cls := Value.type "tuple", data := Data.seq #[] }
noncomputable def ob179 (P : Params) : Obj := { cls := Value.type "tuple", data := Data.seq #[] }
noncomputable def ob243 (P : Params) : Obj := { cls := Value.type "tuple", data := Data.seq #[] }
noncomputable def ob191 (P : Params) : Obj := { cls := Value.none, data := Data.fields #[] }
noncomputable def ob255 (P : Params) : Obj := { cls := Value.none, data := Data.fields #[] }
noncomputable def ob223 (P : Params) : Obj := { cls := Value.type "tuple", data := Data.seq #[] }
noncomputable def ob207 (P : Params) : Obj := { cls := Value.type "tuple", data := Data.seq #[] }
noncomputable def ob239 (P : Params) : Obj := { cls := Value.type "function", data := Data.func { name := q50, qualname := q50, params := fArgs (sA 25), body := FuncBody.stmts (fBody (sA 25)), scope := fScope (sA 25), globals := 3, closure := [], defaults := Value.none, kwdefaults := Value.none, pyModule := Value.str (q40) 343, code := Value.ref 180 } }
noncomputable def ob199 (P : Params) : Obj := { cls := Value.type "tuple", data := Data.seq #[Value.str (q60) 372, Value.str (q61) 373, Value.str (q62) 374] }
noncomputable def ob231 (P : Params) : Obj := { cls := Value.none, data := Data.fields #[] }
noncomputable def ob215 (P : Params) : Obj := { cls := Value.type "function", data := Data.func { name := q46, qualname := q46, params := fArgs (sA 21), body := FuncBody.stmts (fBody (sA 21)), scope := fScope (sA 21), globals := 3, closure := [], defaults := Value.none, kwdefaults := Value.none, pyModule := Value.str (q40) 343, code := Value.ref 156 } }
noncomputable def ob183 (P : Params) : Obj := { cls := Value.type "tuple", data := Data.seq #[] }
noncomputable def ob247 (P : Params) : Obj := { cls := Value.type "tuple", data := Data.seq #[] }
noncomputable def ob186 (P : Params) : Obj := { cls := Value.type "tuple", data := Data.seq #[] }
noncomputable def ob250 (P : Params) : Obj := { cls := Value.type "tuple", data := Data.seq #[] }
noncomputable def ob218 (P : Params) : Obj := { cls := Value.type "tuple", data := Data.seq #[Value.str (q57) 394, Value.str (q63) 395] }
noncomputable def ob202 (P : Params) : Obj := { cls := Value.type "code", data := Data.fields #[Value.str (q44) 369, Value.str (q44) 370, Value.str (q1) 371, Value.int 63 0, Value.int 1 0, Value.int 0 0, Value.int 0 0, Value.int 3 0, Value.ref 139, Value.bool Bool.true, Value.int 181 0, Value.ref 140, Value.none, Value.ref 141, Value.ref 142, Value.ref 143, Value.int 375 0, Value.int 63 0, Value.str (q1) 376] }
noncomputable def ob234 (P : Params) : Obj := { cls := Value.type "function", data := Data.func { name := q49, qualname := q49, params := fArgs (sA 24), body := FuncBody.stmts (fBody (sA 24)), scope := fScope (sA 24), globals := 3, closure := [], defaults := Value.none, kwdefaults := Value.none, pyModule := Value.str (q40) 343, code := Value.ref 175 } }
noncomputable def ob194 (P : Params) : Obj := { cls := Value.none, data := Data.func { name := q43, qualname := q43, params := fArgs (sA 18), body := FuncBody.stmts (fBody (sA 18)), scope := fScope (sA 18), globals := 0, closure := [], defaults := Value.none, kwdefaults := Value.none } }
noncomputable def ob258 (P : Params) : Obj := { cls := Value.type "function", data := Data.func { name := q53, qualname := q53, params := fArgs (sA 28), body := FuncBody.stmts (fBody (sA 28)), scope := fScope (sA 28), globals := 3, closure := [], defaults := Value.none, kwdefaults := Value.none, pyModule := Value.str (q40) 343, code := Value.ref 199 } }
noncomputable def ob226 (P : Params) : Obj := { cls := Value.type "tuple", data := Data.seq #[] }
noncomputable def ob210 (P : Params) : Obj := { cls := Value.type "function", data := Data.func { name := q45, qualname := q45, params := fArgs (sA 20), body := FuncBody.stmts (fBody (sA 20)), scope := fScope (sA 20), globals := 3, closure := [], defaults := Value.none, kwdefaults := Value.none, pyModule := Value.str (q40) 343, code := Value.ref 151 } }
noncomputable def ob178 (P : Params) : Obj := { cls := Value.type "tuple", data := Data.seq #[Value.str (q64) 348, Value.str (q65) 349] }
noncomputable def ob242 (P : Params) : Obj := { cls := Value.type "tuple", data := Data.seq #[Value.str (q55) 424, Value.str (q66) 425] }
noncomputable def ob175 (P : Params) : Obj := { cls := Value.none, data := Data.fields #[Value.int 2 0, Value.int 0 0, Value.ref 20, Value.int 4 0, Value.int 0 0, Value.ref 33, Value.int 6 0, Value.int 0 0, Value.ref 45, Value.int 8 0, Value.int 0 0, Value.ref 57, Value.int 10 0, Value.int 0 0, Value.ref 69, Value.int 12 0, Value.int 0 0, Value.ref 81, Value.int 14 0, Value.int 0 0, Value.ref 93, Value.int 20 0, Value.int 0 0, Value.ref 104, Value.int 22 0, Value.int 0 0, Value.ref 111, Value.int 32 0, Value.int 0 0, Value.ref 116, Value.int 38 0, Value.int 0 0, Value.ref 123, Value.int 42 0, Value.int 0 0, Value.ref 130, Value.int 44 0, Value.int 0 0, Value.ref 137, Value.int 63 0, Value.int 0 0, Value.ref 144, Value.int 68 0, Value.int 0 0, Value.ref 151, Value.int 80 0, Value.int 0 0, Value.ref 156, Value.int 84 0, Value.int 0 0, Value.ref 163, Value.int 88 0, Value.int 0 0, Value.ref 170, Value.int 99 0, Value.int 0 0, Value.ref 175, Value.int 108 0, Value.int 0 0, Value.ref 180, Value.int 116 0, Value.int 0 0, Value.ref 187, Value.int 124 0, Value.int 0 0, Value.ref 194, Value.int 129 0, Value.int 0 0, Value.ref 199] }
noncomputable def ob190 (P : Params) : Obj := { cls := Value.type "tuple", data := Data.seq #[] }
noncomputable def ob254 (P : Params) : Obj := { cls := Value.type "tuple", data := Data.seq #[] }
noncomputable def ob222 (P : Params) : Obj := { cls := Value.type "function", data := Data.func { name := q47, qualname := q47, params := fArgs (sA 22), body := FuncBody.stmts (fBody (sA 22)), scope := fScope (sA 22), globals := 3, closure := [], defaults := Value.none, kwdefaults := Value.none, pyModule := Value.str (q40) 343, code := Value.ref 163 } }
noncomputable def ob206 (P : Params) : Obj := { cls := Value.type "tuple", data := Data.seq #[Value.str (q57) 381] }
noncomputable def ob238 (P : Params) : Obj := { cls := Value.type "code", data := Data.fields #[Value.str (q50) 415, Value.str (q50) 416, Value.str (q1) 417, Value.int 108 0, Value.int 1 0, Value.int 0 0, Value.int 0 0, Value.int 3 0, Value.ref 177, Value.bool Bool.true, Value.int 181 0, Value.ref 178, Value.none, Value.none, Value.none, Value.ref 179, Value.int 418 0, Value.int 108 0, Value.str (q1) 419] }
noncomputable def ob198 (P : Params) : Obj := { cls := Value.none, data := Data.fields #[] }
noncomputable def ob230 (P : Params) : Obj := { cls := Value.type "tuple", data := Data.seq #[] }
noncomputable def ob214 (P : Params) : Obj := { cls := Value.type "code", data := Data.fields #[Value.str (q46) 385, Value.str (q46) 386, Value.str (q1) 387, Value.int 80 0, Value.int 1 0, Value.int 0 0, Value.int 0 0, Value.int 3 0, Value.ref 153, Value.bool Bool.true, Value.int 181 0, Value.ref 154, Value.none, Value.none, Value.none, Value.ref 155, Value.int 388 0, Value.int 80 0, Value.str (q1) 389] }
noncomputable def ob182 (P : Params) : Obj := { cls := Value.type "function", data := Data.func { name := q41, qualname := q41, params := fArgs (sA 16), body := FuncBody.stmts (fBody (sA 16)), scope := fScope (sA 16), globals := 3, closure := [], defaults := Value.none, kwdefaults := Value.none, pyModule := Value.str (q40) 343, code := Value.ref 123 } }
noncomputable def ob246 (P : Params) : Obj := { cls := Value.type "function", data := Data.func { name := q51, qualname := q51, params := fArgs (sA 26), body := FuncBody.stmts (fBody (sA 26)), scope := fScope (sA 26), globals := 3, closure := [], defaults := Value.none, kwdefaults := Value.none, pyModule := Value.str (q40) 343, code := Value.ref 187 } }
noncomputable def ob188 (P : Params) : Obj := { cls := Value.type "code", data := Data.fields #[Value.str (q42) 353, Value.str (q42) 354, Value.str (q1) 355, Value.int 42 0, Value.int 1 0, Value.int 0 0, Value.int 0 0, Value.int 3 0, Value.ref 125, Value.bool Bool.true, Value.int 181 0, Value.ref 126, Value.none, Value.ref 127, Value.ref 128, Value.ref 129, Value.int 357 0, Value.int 42 0, Value.str (q1) 358] }
noncomputable def ob252 (P : Params) : Obj := { cls := Value.type "code", data := Data.fields #[Value.str (q52) 429, Value.str (q52) 430, Value.str (q1) 431, Value.int 124 0, Value.int 1 0, Value.int 0 0, Value.int 0 0, Value.int 3 0, Value.ref 189, Value.bool Bool.true, Value.int 181 0, Value.ref 190, Value.none, Value.ref 191, Value.ref 192, Value.ref 193, Value.int 434 0, Value.int 124 0, Value.str (q1) 435] }
noncomputable def ob220 (P : Params) : Obj := { cls := Value.none, data := Data.func { name := q47, qualname := q47, params := fArgs (sA 22), body := FuncBody.stmts (fBody (sA 22)), scope := fScope (sA 22), globals := 0, closure := [], defaults := Value.none, kwdefaults := Value.none } }
noncomputable def ob204 (P : Params) : Obj := { cls := Value.type "tuple", data := Data.seq #[] }
noncomputable def ob236 (P : Params) : Obj := { cls := Value.none, data := Data.fields #[] }
noncomputable def ob196 (P : Params) : Obj := { cls := Value.type "function", data := Data.func { name := q43, qualname := q43, params := fArgs (sA 18), body := FuncBody.stmts (fBody (sA 18)), scope := fScope (sA 18), globals := 3, closure := [], defaults := Value.none, kwdefaults := Value.none, pyModule := Value.str (q40) 343, code := Value.ref 137 } }
noncomputable def ob228 (P : Params) : Obj := { cls := Value.type "code", data := Data.fields #[Value.str (q48) 399, Value.str (q48) 400, Value.str (q1) 401, Value.int 88 0, Value.int 3 0, Value.int 0 0, Value.int 0 0, Value.int 3 0, Value.ref 165, Value.bool Bool.true, Value.int 181 0, Value.ref 166, Value.none, Value.ref 167, Value.ref 168, Value.ref 169, Value.int 406 0, Value.int 88 0, Value.str (q1) 407] }
noncomputable def ob212 (P : Params) : Obj := { cls := Value.none, data := Data.fields #[] }
noncomputable def ob180 (P : Params) : Obj := { cls := Value.none, data := Data.func { name := q41, qualname := q41, params := fArgs (sA 16), body := FuncBody.stmts (fBody (sA 16)), scope := fScope (sA 16), globals := 0, closure := [], defaults := Value.none, kwdefaults := Value.none } }
noncomputable def ob244 (P : Params) : Obj := { cls := Value.none, data := Data.func { name := q51, qualname := q51, params := fArgs (sA 26), body := FuncBody.stmts (fBody (sA 26)), scope := fScope (sA 26), globals := 0, closure := [], defaults := Value.none, kwdefaults := Value.none } }
noncomputable def ob192 (P : Params) : Obj := { cls := Value.type "tuple", data := Data.seq #[Value.str (q54) 363, Value.str (q56) 364, Value.str (q65) 365] }
noncomputable def ob256 (P : Params) : Obj := { cls := Value.none, data := Data.func { name := q53, qualname := q53, params := fArgs (sA 28), body := FuncBody.stmts (fBody (sA 28)), scope := fScope (sA 28), globals := 0, closure := [], defaults := Value.none, kwdefaults := Value.none } }
noncomputable def ob224 (P : Params) : Obj := { cls := Value.none, data := Data.fields #[] }
noncomputable def ob208 (P : Params) : Obj := { cls := Value.none, data := Data.func { name := q45, qualname := q45, params := fArgs (sA 20), body := FuncBody.stmts (fBody (sA 20)), scope := fScope (sA 20), globals := 0, closure := [], defaults := Value.none, kwdefaults := Value.none } }
noncomputable def ob176 (P : Params) : Obj := { cls := Value.type "tuple", data := Data.seq #[] }
noncomputable def ob240 (P : Params) : Obj := { cls := Value.type "tuple", data := Data.seq #[] }
noncomputable def ob200 (P : Params) : Obj := { cls := Value.type "tuple", data := Data.seq #[] }
noncomputable def ob232 (P : Params) : Obj := { cls := Value.none, data := Data.func { name := q49, qualname := q49, params := fArgs (sA 24), body := FuncBody.stmts (fBody (sA 24)), scope := fScope (sA 24), globals := 0, closure := [], defaults := Value.none, kwdefaults := Value.none } }
noncomputable def ob216 (P : Params) : Obj := { cls := Value.type "tuple", data := Data.seq #[] }
noncomputable def ob184 (P : Params) : Obj := { cls := Value.none, data := Data.fields #[] }
noncomputable def ob248 (P : Params) : Obj := { cls := Value.none, data := Data.fields #[] }
noncomputable def heapA (P : Params) : Heap := ⟨⟨[boot_o_0 P, boot_o_1 P, boot_o_2 P, boot_o_3 P, boot_o_4 P, boot_o_5 P, boot_o_6 P, boot_o_7 P, boot_o_8 P, boot_o_9 P, boot_o_10 P, ob43 P, ob44 P, ob45 P, ob46 P]⟩, {}⟩
noncomputable def tr47 (P : Params) : BT := .node (boot_o_0 P) (.node (boot_o_1 P) (.node (boot_o_3 P) (.node (boot_o_7 P) .nil .nil) (.node (ob43 P) .nil .nil)) (.node (boot_o_5 P) (.node (boot_o_9 P) .nil .nil) (.node (ob45 P) .nil .nil))) (.node (boot_o_2 P) (.node (boot_o_4 P) (.node (boot_o_8 P) .nil .nil) (.node (ob44 P) .nil .nil)) (.node (boot_o_6 P) (.node (boot_o_10 P) .nil .nil) (.node (ob46 P) .nil .nil)))
noncomputable def tr78 (P : Params) : BT := .node (boot_o_0 P) (.node (boot_o_1 P) (.node (ob64 P) (.node (boot_o_7 P) (.node (ob51 P) (.node (ob70 P) .nil .nil) .nil) (.node (ob59 P) (.node (ob78 P) .nil .nil) .nil)) (.node (ob43 P) (.node (ob55 P) (.node (ob74 P) .nil .nil) .nil) (.node (ob63 P) .nil .nil))) (.node (boot_o_5 P) (.node (boot_o_9 P) (.node (ob53 P) (.node (ob72 P) .nil .nil) .nil) (.node (ob61 P) .nil .nil)) (.node (ob45 P) (.node (ob57 P) (.node (ob76 P) .nil .nil) .nil) (.node (ob68 P) .nil .nil)))) (.node (boot_o_2 P) (.node (boot_o_4 P) (.node (boot_o_8 P) (.node (ob52 P) (.node (ob71 P) .nil .nil) .nil) (.node (ob66 P) .nil .nil)) (.node (ob65 P) (.node (ob56 P) (.node (ob75 P) .nil .nil) .nil) (.node (ob67 P) .nil .nil))) (.node (boot_o_6 P) (.node (boot_o_10 P) (.node (ob54 P) (.node (ob73 P) .nil .nil) .nil) (.node (ob62 P) .nil .nil)) (.node (ob46 P) (.node (ob58 P) (.node (ob77 P) .nil .nil) .nil) (.node (ob69 P) .nil .nil))))
noncomputable def tr108 (P : Params) : BT := .node (boot_o_0 P) (.node (boot_o_1 P) (.node (ob94 P) (.node (boot_o_7 P) (.node (ob51 P) (.node (ob70 P) (.node (ob108 P) .nil .nil) .nil) (.node (ob89 P) .nil .nil)) (.node (ob59 P) (.node (ob78 P) .nil .nil) (.node (ob100 P) .nil .nil))) (.node (ob43 P) (.node (ob55 P) (.node (ob74 P) .nil .nil) (.node (ob93 P) .nil .nil)) (.node (ob63 P) (.node (ob85 P) .nil .nil) (.node (ob104 P) .nil .nil)))) (.node (boot_o_5 P) (.node (boot_o_9 P) (.node (ob53 P) (.node (ob72 P) .nil .nil) (.node (ob91 P) .nil .nil)) (.node (ob61 P) (.node (ob83 P) .nil .nil) (.node (ob102 P) .nil .nil))) (.node (ob45 P) (.node (ob57 P) (.node (ob76 P) .nil .nil) (.node (ob98 P) .nil .nil)) (.node (ob68 P) (.node (ob87 P) .nil .nil) (.node (ob106 P) .nil .nil))))) (.node (boot_o_2 P) (.node (boot_o_4 P) (.node (boot_o_8 P) (.node (ob52 P) (.node (ob71 P) .nil .nil) (.node (ob90 P) .nil .nil)) (.node (ob96 P) (.node (ob82 P) .nil .nil) (.node (ob101 P) .nil .nil))) (.node (ob95 P) (.node (ob56 P) (.node (ob75 P) .nil .nil) (.node (ob97 P) .nil .nil)) (.node (ob67 P) (.node (ob86 P) .nil .nil) (.node (ob105 P) .nil .nil)))) (.node (boot_o_6 P) (.node (boot_o_10 P) (.node (ob54 P) (.node (ob73 P) .nil .nil) (.node (ob92 P) .nil .nil)) (.node (ob62 P) (.node (ob84 P) .nil .nil) (.node (ob103 P) .nil .nil))) (.node (ob46 P) (.node (ob58 P) (.node (ob77 P) .nil .nil) (.node (ob99 P) .nil .nil)) (.node (ob69 P) (.node (ob88 P) .nil .nil) (.node (ob107 P) .nil .nil)))))
noncomputable def tr138 (P : Params) : BT := .node (boot_o_0 P) (.node (boot_o_1 P) (.node (ob124 P) (.node (boot_o_7 P) (.node (ob51 P) (.node (ob70 P) (.node (ob108 P) .nil .nil) .nil) (.node (ob89 P) (.node (ob130 P) .nil .nil) .nil)) (.node (ob59 P) (.node (ob78 P) (.node (ob119 P) .nil .nil) .nil) (.node (ob100 P) (.node (ob138 P) .nil .nil) .nil))) (.node (ob43 P) (.node (ob55 P) (.node (ob74 P) (.node (ob115 P) .nil .nil) .nil) (.node (ob93 P) (.node (ob134 P) .nil .nil) .nil)) (.node (ob63 P) (.node (ob85 P) (.node (ob123 P) .nil .nil) .nil) (.node (ob104 P) .nil .nil)))) (.node (boot_o_5 P) (.node (boot_o_9 P) (.node (ob53 P) (.node (ob72 P) (.node (ob113 P) .nil .nil) .nil) (.node (ob91 P) (.node (ob132 P) .nil .nil) .nil)) (.node (ob61 P) (.node (ob83 P) (.node (ob121 P) .nil .nil) .nil) (.node (ob102 P) .nil .nil))) (.node (ob45 P) (.node (ob57 P) (.node (ob76 P) (.node (ob117 P) .nil .nil) .nil) (.node (ob98 P) (.node (ob136 P) .nil .nil) .nil)) (.node (ob68 P) (.node (ob87 P) (.node (ob128 P) .nil .nil) .nil) (.node (ob106 P) .nil .nil))))) (.node (boot_o_2 P) (.node (boot_o_4 P) (.node (boot_o_8 P) (.node (ob52 P) (.node (ob71 P) (.node (ob112 P) .nil .nil) .nil) (.node (ob90 P) (.node (ob131 P) .nil .nil) .nil)) (.node (ob126 P) (.node (ob82 P) (.node (ob120 P) .nil .nil) .nil) (.node (ob101 P) .nil .nil))) (.node (ob125 P) (.node (ob56 P) (.node (ob75 P) (.node (ob116 P) .nil .nil) .nil) (.node (ob97 P) (.node (ob135 P) .nil .nil) .nil)) (.node (ob67 P) (.node (ob86 P) (.node (ob127 P) .nil .nil) .nil) (.node (ob105 P) .nil .nil)))) (.node (boot_o_6 P) (.node (boot_o_10 P) (.node (ob54 P) (.node (ob73 P) (.node (ob114 P) .nil .nil) .nil) (.node (ob92 P) (.node (ob133 P) .nil .nil) .nil)) (.node (ob62 P) (.node (ob84 P) (.node (ob122 P) .nil .nil) .nil) (.node (ob103 P) .nil .nil))) (.node (ob46 P) (.node (ob58 P) (.node (ob77 P) (.node (ob118 P) .nil .nil) .nil) (.node (ob99 P) (.node (ob137 P) .nil .nil) .nil)) (.node (ob69 P) (.node (ob88 P) (.node (ob129 P) .nil .nil) .nil) (.node (ob107 P) .nil .nil)))))
noncomputable def tr171 (P : Params) : BT := .node (boot_o_0 P) (.node (boot_o_1 P) (.node (ob139 P) (.node (boot_o_7 P) (.node (ob51 P) (.node (ob70 P) (.node (ob108 P) .nil .nil) (.node (ob149 P) .nil .nil)) (.node (ob89 P) (.node (ob130 P) .nil .nil) (.node (ob165 P) .nil .nil))) (.node (ob59 P) (.node (ob78 P) (.node (ob119 P) .nil .nil) (.node (ob157 P) .nil .nil)) (.node (ob100 P) (.node (ob138 P) .nil .nil) .nil))) (.node (ob43 P) (.node (ob55 P) (.node (ob74 P) (.node (ob115 P) .nil .nil) (.node (ob153 P) .nil .nil)) (.node (ob93 P) (.node (ob134 P) .nil .nil) (.node (ob169 P) .nil .nil))) (.node (ob63 P) (.node (ob85 P) (.node (ob123 P) .nil .nil) (.node (ob161 P) .nil .nil)) (.node (ob104 P) (.node (ob145 P) .nil .nil) .nil)))) (.node (boot_o_5 P) (.node (boot_o_9 P) (.node (ob53 P) (.node (ob72 P) (.node (ob113 P) .nil .nil) (.node (ob151 P) .nil .nil)) (.node (ob91 P) (.node (ob132 P) .nil .nil) (.node (ob167 P) .nil .nil))) (.node (ob61 P) (.node (ob83 P) (.node (ob121 P) .nil .nil) (.node (ob159 P) .nil .nil)) (.node (ob102 P) (.node (ob143 P) .nil .nil) .nil))) (.node (ob45 P) (.node (ob57 P) (.node (ob76 P) (.node (ob117 P) .nil .nil) (.node (ob155 P) .nil .nil)) (.node (ob98 P) (.node (ob136 P) .nil .nil) (.node (ob171 P) .nil .nil))) (.node (ob68 P) (.node (ob87 P) (.node (ob128 P) .nil .nil) (.node (ob163 P) .nil .nil)) (.node (ob106 P) (.node (ob147 P) .nil .nil) .nil))))) (.node (boot_o_2 P) (.node (boot_o_4 P) (.node (boot_o_8 P) (.node (ob52 P) (.node (ob71 P) (.node (ob112 P) .nil .nil) (.node (ob150 P) .nil .nil)) (.node (ob90 P) (.node (ob131 P) .nil .nil) (.node (ob166 P) .nil .nil))) (.node (ob141 P) (.node (ob82 P) (.node (ob120 P) .nil .nil) (.node (ob158 P) .nil .nil)) (.node (ob101 P) (.node (ob142 P) .nil .nil) .nil))) (.node (ob140 P) (.node (ob56 P) (.node (ob75 P) (.node (ob116 P) .nil .nil) (.node (ob154 P) .nil .nil)) (.node (ob97 P) (.node (ob135 P) .nil .nil) (.node (ob170 P) .nil .nil))) (.node (ob67 P) (.node (ob86 P) (.node (ob127 P) .nil .nil) (.node (ob162 P) .nil .nil)) (.node (ob105 P) (.node (ob146 P) .nil .nil) .nil)))) (.node (boot_o_6 P) (.node (boot_o_10 P) (.node (ob54 P) (.node (ob73 P) (.node (ob114 P) .nil .nil) (.node (ob152 P) .nil .nil)) (.node (ob92 P) (.node (ob133 P) .nil .nil) (.node (ob168 P) .nil .nil))) (.node (ob62 P) (.node (ob84 P) (.node (ob122 P) .nil .nil) (.node (ob160 P) .nil .nil)) (.node (ob103 P) (.node (ob144 P) .nil .nil) .nil))) (.node (ob46 P) (.node (ob58 P) (.node (ob77 P) (.node (ob118 P) .nil .nil) (.node (ob156 P) .nil .nil)) (.node (ob99 P) (.node (ob137 P) .nil .nil) .nil)) (.node (ob69 P) (.node (ob88 P) (.node (ob129 P) .nil .nil) (.node (ob164 P) .nil .nil)) (.node (ob107 P) (.node (ob148 P) .nil .nil) .nil)))))
noncomputable def tr258 (P : Params) : BT := .node (boot_o_0 P) (.node (boot_o_1 P) (.node (ob174 P) (.node (boot_o_7 P) (.node (ob51 P) (.node (ob70 P) (.node (ob108 P) (.node (ob185 P) .nil .nil) (.node (ob249 P) .nil .nil)) (.node (ob149 P) (.node (ob217 P) .nil .nil) .nil)) (.node (ob89 P) (.node (ob130 P) (.node (ob201 P) .nil .nil) .nil) (.node (ob165 P) (.node (ob233 P) .nil .nil) .nil))) (.node (ob59 P) (.node (ob78 P) (.node (ob119 P) (.node (ob193 P) .nil .nil) (.node (ob257 P) .nil .nil)) (.node (ob157 P) (.node (ob225 P) .nil .nil) .nil)) (.node (ob100 P) (.node (ob138 P) (.node (ob209 P) .nil .nil) .nil) (.node (ob177 P) (.node (ob241 P) .nil .nil) .nil)))) (.node (ob43 P) (.node (ob55 P) (.node (ob74 P) (.node (ob115 P) (.node (ob189 P) .nil .nil) (.node (ob253 P) .nil .nil)) (.node (ob153 P) (.node (ob221 P) .nil .nil) .nil)) (.node (ob93 P) (.node (ob134 P) (.node (ob205 P) .nil .nil) .nil) (.node (ob169 P) (.node (ob237 P) .nil .nil) .nil))) (.node (ob63 P) (.node (ob85 P) (.node (ob123 P) (.node (ob197 P) .nil .nil) .nil) (.node (ob161 P) (.node (ob229 P) .nil .nil) .nil)) (.node (ob104 P) (.node (ob145 P) (.node (ob213 P) .nil .nil) .nil) (.node (ob181 P) (.node (ob245 P) .nil .nil) .nil))))) (.node (boot_o_5 P) (.node (boot_o_9 P) (.node (ob53 P) (.node (ob72 P) (.node (ob113 P) (.node (ob187 P) .nil .nil) (.node (ob251 P) .nil .nil)) (.node (ob151 P) (.node (ob219 P) .nil .nil) .nil)) (.node (ob91 P) (.node (ob132 P) (.node (ob203 P) .nil .nil) .nil) (.node (ob167 P) (.node (ob235 P) .nil .nil) .nil))) (.node (ob61 P) (.node (ob83 P) (.node (ob121 P) (.node (ob195 P) .nil .nil) .nil) (.node (ob159 P) (.node (ob227 P) .nil .nil) .nil)) (.node (ob102 P) (.node (ob143 P) (.node (ob211 P) .nil .nil) .nil) (.node (ob179 P) (.node (ob243 P) .nil .nil) .nil)))) (.node (ob45 P) (.node (ob57 P) (.node (ob76 P) (.node (ob117 P) (.node (ob191 P) .nil .nil) (.node (ob255 P) .nil .nil)) (.node (ob155 P) (.node (ob223 P) .nil .nil) .nil)) (.node (ob98 P) (.node (ob136 P) (.node (ob207 P) .nil .nil) .nil) (.node (ob171 P) (.node (ob239 P) .nil .nil) .nil))) (.node (ob68 P) (.node (ob87 P) (.node (ob128 P) (.node (ob199 P) .nil .nil) .nil) (.node (ob163 P) (.node (ob231 P) .nil .nil) .nil)) (.node (ob106 P) (.node (ob147 P) (.node (ob215 P) .nil .nil) .nil) (.node (ob183 P) (.node (ob247 P) .nil .nil) .nil)))))) (.node (boot_o_2 P) (.node (boot_o_4 P) (.node (boot_o_8 P) (.node (ob52 P) (.node (ob71 P) (.node (ob112 P) (.node (ob186 P) .nil .nil) (.node (ob250 P) .nil .nil)) (.node (ob150 P) (.node (ob218 P) .nil .nil) .nil)) (.node (ob90 P) (.node (ob131 P) (.node (ob202 P) .nil .nil) .nil) (.node (ob166 P) (.node (ob234 P) .nil .nil) .nil))) (.node (ob141 P) (.node (ob82 P) (.node (ob120 P) (.node (ob194 P) .nil .nil) (.node (ob258 P) .nil .nil)) (.node (ob158 P) (.node (ob226 P) .nil .nil) .nil)) (.node (ob101 P) (.node (ob142 P) (.node (ob210 P) .nil .nil) .nil) (.node (ob178 P) (.node (ob242 P) .nil .nil) .nil)))) (.node (ob175 P) (.node (ob56 P) (.node (ob75 P) (.node (ob116 P) (.node (ob190 P) .nil .nil) (.node (ob254 P) .nil .nil)) (.node (ob154 P) (.node (ob222 P) .nil .nil) .nil)) (.node (ob97 P) (.node (ob135 P) (.node (ob206 P) .nil .nil) .nil) (.node (ob170 P) (.node (ob238 P) .nil .nil) .nil))) (.node (ob67 P) (.node (ob86 P) (.node (ob127 P) (.node (ob198 P) .nil .nil) .nil) (.node (ob162 P) (.node (ob230 P) .nil .nil) .nil)) (.node (ob105 P) (.node (ob146 P) (.node (ob214 P) .nil .nil) .nil) (.node (ob182 P) (.node (ob246 P) .nil .nil) .nil))))) (.node (boot_o_6 P) (.node (boot_o_10 P) (.node (ob54 P) (.node (ob73 P) (.node (ob114 P) (.node (ob188 P) .nil .nil) (.node (ob252 P) .nil .nil)) (.node (ob152 P) (.node (ob220 P) .nil .nil) .nil)) (.node (ob92 P) (.node (ob133 P) (.node (ob204 P) .nil .nil) .nil) (.node (ob168 P) (.node (ob236 P) .nil .nil) .nil))) (.node (ob62 P) (.node (ob84 P) (.node (ob122 P) (.node (ob196 P) .nil .nil) .nil) (.node (ob160 P) (.node (ob228 P) .nil .nil) .nil)) (.node (ob103 P) (.node (ob144 P) (.node (ob212 P) .nil .nil) .nil) (.node (ob180 P) (.node (ob244 P) .nil .nil) .nil)))) (.node (ob46 P) (.node (ob58 P) (.node (ob77 P) (.node (ob118 P) (.node (ob192 P) .nil .nil) (.node (ob256 P) .nil .nil)) (.node (ob156 P) (.node (ob224 P) .nil .nil) .nil)) (.node (ob99 P) (.node (ob137 P) (.node (ob208 P) .nil .nil) .nil) (.node (ob176 P) (.node (ob240 P) .nil .nil) .nil))) (.node (ob69 P) (.node (ob88 P) (.node (ob129 P) (.node (ob200 P) .nil .nil) .nil) (.node (ob164 P) (.node (ob232 P) .nil .nil) .nil)) (.node (ob107 P) (.node (ob148 P) (.node (ob216 P) .nil .nil) .nil) (.node (ob184 P) (.node (ob248 P) .nil .nil) .nil))))))
noncomputable def Kq (P : Params) : Frag := [(2, boot_o_2 P), (3, ob174 P), (15, ob51 P), (22, ob58 P), (23, ob59 P), (24, ob141 P), (25, ob61 P), (28, ob67 P), (35, ob74 P), (36, ob75 P), (37, ob76 P), (40, ob82 P), (47, ob89 P), (48, ob90 P), (49, ob91 P), (52, ob97 P), (59, ob104 P), (60, ob105 P), (61, ob106 P), (64, ob112 P), (71, ob119 P), (72, ob120 P), (73, ob121 P), (76, ob127 P), (83, ob134 P), (84, ob135 P), (85, ob136 P), (88, ob142 P), (95, ob149 P), (96, ob150 P), (97, ob151 P), (100, ob154 P), (101, ob155 P), (104, ob158 P), (105, ob159 P), (106, ob160 P), (108, ob162 P), (109, ob163 P), (111, ob165 P), (112, ob166 P), (113, ob167 P), (116, ob170 P), (117, ob171 P), (118, ob176 P), (120, ob178 P), (121, ob179 P), (123, ob181 P), (124, ob182 P), (125, ob183 P), (127, ob185 P), (128, ob186 P), (130, ob188 P), (131, ob189 P), (132, ob190 P), (134, ob192 P), (135, ob193 P), (137, ob195 P), (138, ob196 P), (139, ob197 P), (141, ob199 P), (142, ob200 P), (144, ob202 P), (145, ob203 P), (146, ob204 P), (148, ob206 P), (149, ob207 P), (151, ob209 P), (152, ob210 P), (153, ob211 P), (156, ob214 P), (157, ob215 P), (158, ob216 P), (160, ob218 P), (161, ob219 P), (163, ob221 P), (164, ob222 P), (165, ob223 P), (167, ob225 P), (168, ob226 P), (170, ob228 P), (171, ob229 P), (172, ob230 P), (175, ob233 P), (176, ob234 P), (177, ob235 P), (180, ob238 P), (181, ob239 P), (182, ob240 P), (184, ob242 P), (185, ob243 P), (187, ob245 P), (188, ob246 P), (189, ob247 P), (191, ob249 P), (192, ob250 P), (194, ob252 P), (195, ob253 P), (196, ob254 P), (199, ob257 P), (200, ob258 P)]
noncomputable def asq : List Addr := [2, 3, 15, 22, 23, 24, 25, 28, 35, 36, 37, 40, 47, 48, 49, 52, 59, 60, 61, 64, 71, 72, 73, 76, 83, 84, 85, 88, 95, 96, 97, 100, 101, 104, 105, 106, 108, 109, 111, 112, 113, 116, 117, 118, 120, 121, 123, 124, 125, 127, 128, 130, 131, 132, 134, 135, 137, 138, 139, 141, 142, 144, 145, 146, 148, 149, 151, 152, 153, 156, 157, 158, 160, 161, 163, 164, 165, 167, 168, 170, 171, 172, 175, 176, 177, 180, 181, 182, 184, 185, 187, 188, 189, 191, 192, 194, 195, 196, 199, 200]
noncomputable def heapE (P : Params) : Heap := absHeap (tr258 P) 201 {}
section
variable (w : World) (os : OsState)
theorem pre_q : topGo treeTable pq w 11 (some (.ref 6)) 12 ⟨boot_heap w.params, ⟨[]⟩, boot_drawn, boot_toks, os⟩ (topStub pq) = some (⟨heapA w.params, ⟨[]⟩, {}, 187, os⟩, ⟨denote treeTable cdq, cdq, p0q, [topFrame p0q]⟩) := go_q (by kernel_rfl)
theorem blk_q : segRun treeTable pq w 11 (some (.ref 6)) 1 1 ⟨heapA w.params, ⟨[]⟩, {}, 187, os⟩ (blockOf bq envq cdq p0q [topFrame p0q]) = some (.next, SharedT.abs ⟨tr47 w.params, 15, {}, ⟨[]⟩, {}, 187, os⟩, cdq, p0q) := seg_q (by kernel_rfl)
theorem pc0_q : segRunT treeTable pq w 11 (some (.ref 6)) 1 409 ⟨tr47 w.params, 15, {}, ⟨[]⟩, {}, 187, os⟩ (piecesOf (bq.take 3) envq cdq p0q [topFrame p0q]) = some (.next, ⟨tr78 w.params, 40, {}, ⟨[]⟩, {}, 223, os⟩, cdq, ⟨4, 0, 5, 8⟩) := segT_q (by kernel_rfl)
theorem pc1_q : segRunT treeTable pq w 11 (some (.ref 6)) 1 427 ⟨tr78 w.params, 40, {}, ⟨[]⟩, {}, 223, os⟩ (piecesOf ((bq.drop 3).take 2) envq cdq ⟨4, 0, 5, 8⟩ [topFrame p0q]) = some (.next, ⟨tr108 w.params, 64, {}, ⟨[]⟩, {}, 255, os⟩, cdq, ⟨8, 0, 9, 8⟩) := segT_q (by kernel_rfl)
theorem pc2_q : segRunT treeTable pq w 11 (some (.ref 6)) 1 427 ⟨tr108 w.params, 64, {}, ⟨[]⟩, {}, 255, os⟩ (piecesOf (((bq.drop 3).drop 2).take 2) envq cdq ⟨8, 0, 9, 8⟩ [topFrame p0q]) = some (.next, ⟨tr138 w.params, 88, {}, ⟨[]⟩, {}, 287, os⟩, cdq, ⟨12, 0, 13, 8⟩) := segT_q (by kernel_rfl)
theorem pc3_q : segRunT treeTable pq w 11 (some (.ref 6)) 1 394 ⟨tr138 w.params, 88, {}, ⟨[]⟩, {}, 287, os⟩ (piecesOf ((((bq.drop 3).drop 2).drop 2).take 8) envq cdq ⟨12, 0, 13, 8⟩ [topFrame p0q]) = some (.next, ⟨tr171 w.params, 118, {}, ⟨[]⟩, {}, 343, os⟩, cdq, ⟨32, 0, 36, 71⟩) := byRow2 "special-get-raises" (P := fun w => segRunT treeTable pq w 11 (some (.ref 6)) 1 394 ⟨tr138 w.params, 88, {}, ⟨[]⟩, {}, 287, os⟩ (piecesOf ((((bq.drop 3).drop 2).drop 2).take 8) envq cdq ⟨12, 0, 13, 8⟩ [topFrame p0q]) = some (.next, ⟨tr171 w.params, 118, {}, ⟨[]⟩, {}, 343, os⟩, cdq, ⟨32, 0, 36, 71⟩)) (fun w => segT_q (by kernel_rfl)) (fun w => segT_q (by kernel_rfl)) w
theorem pc4_q : segRunT treeTable pq w 11 (some (.ref 6)) 1 386 ⟨tr171 w.params, 118, {}, ⟨[]⟩, {}, 343, os⟩ (piecesOf ((((bq.drop 3).drop 2).drop 2).drop 8) envq cdq ⟨32, 0, 36, 71⟩ [topFrame p0q]) = some (.next, ⟨tr258 w.params, 201, {}, ⟨[]⟩, {}, 443, os⟩, cdq, ⟨129, 0, 142, 99⟩) := segT_q (by kernel_rfl)
theorem fin_q : topRun treeTable pq w 11 (some (.ref 6)) 2 (SharedT.abs ⟨tr258 w.params, 201, {}, ⟨[]⟩, {}, 443, os⟩) ⟨doneF .next, cdq, ⟨129, 0, 142, 99⟩, [topFrame p0q]⟩ = some ⟨heapE w.params, ⟨[]⟩, {}, 443, os⟩ := top_q (by kernel_rfl)
theorem rest_q : topRun treeTable pq w 11 (some (.ref 6)) (409 + (427 + (427 + (394 + (386 + (2)))))) (SharedT.abs ⟨tr47 w.params, 15, {}, ⟨[]⟩, {}, 187, os⟩) (restOf bq envq cdq p0q [topFrame p0q]) = some ⟨heapE w.params, ⟨[]⟩, {}, 443, os⟩ := piece_cut (segRun_of (pc0_q w os)) (piece_cut (segRun_of (pc1_q w os)) (piece_cut (segRun_of (pc2_q w os)) (piece_cut (segRun_of (pc3_q w os)) (piece_last (segRun_of (pc4_q w os)) (fin_q w os)))))
theorem run_q : topRun treeTable pq w 11 (some (.ref 6)) (12 + (1 + (409 + (427 + (427 + (394 + (386 + (2)))))))) ⟨boot_heap w.params, ⟨[]⟩, boot_drawn, boot_toks, os⟩ (topStub pq) = some ⟨heapE w.params, ⟨[]⟩, {}, 443, os⟩ :=
  go_top (pre_q w os) (piece_block (blk_q w os) (rest_q w os))
end
noncomputable def lq : List Str := [⟨⟨[80, 65, 82, 84, 83]⟩⟩]
theorem opn_q : ∀ w : World, (fencedOpening treeTable pq w 4202).map (fun s => (s.heap, s.gens, s.drawn, s.toks)) = some (boot_heap w.params, ⟨[]⟩, boot_drawn, boot_toks) :=
  boot_open (by kernel_rfl) (by decide) (fun s => by kernel_rfl)
theorem size_q : ∀ w : World, ((boot_heap w.params).isNs mainGlobals && (⟨[]⟩ : Array GenState).size == 0, (boot_heap w.params).objs.size, (boot_heap w.params).nsMap mainGlobals "__annotations__") = (true, 11, (some (.ref 6))) := fun w => by kernel_rfl
noncomputable def vq : Program := { pq with main := { pq.main with body := [sA 1, sA 2, sA 3, sA 4, sA 5, sA 6, sA 7, sA 9, sA 10, sA 11, sA 12, sA 13, sA 14, sA 16, sA 17, sA 18, sA 19, sA 20, sA 21, sA 22, sA 23, sA 24, sA 25, sA 26, sA 27, sA 28] } }
section
variable (w : World) (os : OsState)
noncomputable abbrev sE : Shared := ⟨heapE w.params, ⟨[]⟩, {}, 443, os⟩
theorem l1 : staticsOk (importedModules pq.main.body) (boot_heap w.params) (heapE w.params) = true := by kernel_rfl
theorem l2 : namesBound pq (heapE w.params) = true := by kernel_rfl
theorem l3 : gensDone (sE w os) = true := by kernel_rfl
theorem l4 : laidKept (boot_heap w.params) (heapE w.params) = true := by kernel_rfl
theorem l5 : seen ((recsOf vq).map (·.name)) (ownsOf vq) [] { sE w os with gens := #[] } = expectedOf vq := by kernel_rfl
theorem l6 : (sE w os).heap.bltView = bltViewBooted := by kernel_rfl
noncomputable def xq (s : Shared) : Bool := xlAt vq [] s && recOk (RowW.records (OpenRow.toRowW (OpenLaw.row Challenge.rw_uf040019_13))) s
theorem l7 : ((sE w os).heap.keysOk (looseW vq lq) ((recsOf vq).map (·.name)) ((litsOf vq).map (·.1)) ((clssOf vq (looseW vq lq)).map (·.name)) && (sE w os).heap.accountedOkI (importedModules pq.main.body) && (sE w os).heap.isNs mainGlobals && (sE w os).heap.isNs builtinsNs && tablesOk vq (sE w os).heap && xq (sE w os) && (if true then (sE w os).gens.size == 0 else !leftWithCleanup (sE w os).gens)) = true := by kernel_rfl
theorem l8 : tabsOk vq (sE w os) = true := by kernel_rfl
theorem l9 : pinSeenD vq (drecsOf vq) (sE w os) = pinGoodD (drecsOf vq) := by kernel_rfl
theorem l10 : plainSeenE vq (looseW vq lq) (sE w os) = plainGoodE vq (looseW vq lq) := by kernel_rfl
theorem l11 : plainSeenD vq lq (sE w os) = plainGoodD vq lq := by kernel_rfl
theorem l12 : wideSeen vq (sE w os) = wideGood vq := by kernel_rfl
theorem l13 : clsSeenW vq lq (sE w os) = clsGoodW vq lq := by kernel_rfl
theorem l14 : asq.map (sE w os).heap.get? = (Kq w.params).map fun p => some p.2 := by kernel_rfl
theorem as_q (P : Params) : asq = (Kq P).map (·.1) := by kernel_rfl
end
noncomputable def Hq : Hook := kHook Kq asq as_q
theorem looks_q : ∀ w : World, (fun os => ((staticsOk (importedModules pq.main.body) (boot_heap w.params) (heapE w.params) && namesBound pq (heapE w.params) && gensDone ⟨heapE w.params, ⟨[]⟩, {}, 443, os⟩ && laidKept (boot_heap w.params) (heapE w.params)),
        openSeen vq lq (importedModules pq.main.body) xq true ⟨heapE w.params, ⟨[]⟩, {}, 443, os⟩, Hook.obs Hq ⟨heapE w.params, ⟨[]⟩, {}, 443, os⟩)) = fun _ => (true, openGood vq lq, Hook.val Hq w) := fun w => funext fun os =>
  looks_pair (by rw [l1, l2, l3 w os, l4]; rfl) (looks_pair (looks_pair (l5 w os) (looks_pair (l6 w os) (looks_pair (l7 w os) (looks_pair (l8 w os) (looks_pair (l9 w os) (looks_pair (l10 w os) (looks_pair (l11 w os) (looks_pair (l12 w os) (l13 w os))))))))) (l14 w os))
theorem prog_q : (OpenLaw.row Challenge.rw_uf040019_13).prog = pq := pq_eq
theorem left_q : LeftO (OpenLaw.row Challenge.rw_uf040019_13).prog vq lq xq (Hook.obs Hq) (Hook.val Hq) 4202 := by
  rw [prog_q]
  exact LeftO.of_pieces opn_q size_q run_q (by decide) looks_q
noncomputable def dq : DefRec := ⟨Str.ofString "law", fArgs (sA 28), fBody (sA 28), fScope (sA 28), (sA 28).pos⟩
theorem dof_q : defOf vq (OpenLaw.row Challenge.rw_uf040019_13).name = some (dq, []) := by kernel_rfl
theorem dthe_q : (OpenLaw.row Challenge.rw_uf040019_13).prog.theDef (OpenLaw.row Challenge.rw_uf040019_13).name = some (dq.params, dq.body, dq.scope) := by kernel_rfl
theorem dkw_q : kwWritten? dq.params.kwonlyargs dq.params.kw_defaults = some [] := by kernel_rfl
theorem xl_q (s : Shared) (e : xq s = true) : XL vq [] (s.heap.nsMap mainGlobals) s.heap := xl_of s (Bool.and_eq_true_iff.mp e).1
theorem rec_q (s : Shared) (e : xq s = true) : RecFacts (OpenLaw.row Challenge.rw_uf040019_13).records s.heap := recFacts_of (Bool.and_eq_true_iff.mp e).2
theorem wr_q : (!(OpenLaw.row Challenge.rw_uf040019_13).writes || List.isEmpty (OpenLaw.row Challenge.rw_uf040019_13).records) = true := by kernel_rfl
theorem ch_q : (chainsOk vq && opensWell (OpenLaw.row Challenge.rw_uf040019_13).prog && (frees (OpenLaw.row Challenge.rw_uf040019_13).toRowW && (OpenLaw.row Challenge.rw_uf040019_13).within.isEmpty)) = true := by kernel_rfl
theorem bare_q : (OpenLaw.row Challenge.rw_uf040019_13).prog.bare := ⟨rfl, rfl, rfl, rfl, rfl, by decide +kernel⟩
theorem own_head (said : (OpenLaw.row Challenge.rw_uf040019_13).wellSaid = true) (hw : (OpenLaw.row Challenge.rw_uf040019_13).promised) (hc : WalkO vq lq (XL vq []) (Hook.says Hq) (OpenLaw.row Challenge.rw_uf040019_13).toRowW dq [] fun f vs => call f vs) : (OpenLaw.row Challenge.rw_uf040019_13).Holds :=
  PySem.W.holds_open left_q (Hook.of Hq) (Hook.keeps Hq) xl_q XL.keeps dof_q dthe_q dkw_q rec_q wr_q said ch_q bare_q hw hc
theorem law_ns (P : Params) : nsIn (Kq P) mainGlobals (Str.ofString "law") = some (some (.ref 200)) := by kernel_rfl
theorem law_at {w : World} {base : Heap} {p : Program} {loose : List Str} {mg mb : Str → Option Value} (X : (Kq w.params).In base) (T : TopRead p loose mg mb base) : mg (Str.ofString "law") = some (.ref 200) := mg_of X T.g (law_ns w.params)
theorem kq_of {w : World} {h : Heap} (Y : Hook.says Hq w h) : (Kq w.params).In h := Y
end Mine

set_option autoImplicit false
namespace Mine
set_option linter.unusedVariables false
set_option maxRecDepth 100000
set_option maxHeartbeats 4000000
open PySem PySem.W PySem.Calls PyProof.Rows

noncomputable def parts : List (String × Int) := [("begin", 1), ("do", 1), ("hand", 3), ("carry", 1)]
noncomputable def b_shown : List S := [
  .ret (.meth (.str " " ⟨21, 11, 21, 14⟩) "join" [.comp (.bltn "str" [.loc "part" ⟨21, 25, 21, 29⟩] ⟨21, 21, 21, 24⟩ ⟨21, 21, 21, 30⟩) "part" [] (.loc "row" ⟨21, 43, 21, 46⟩) [] ({ kind := .function, names := [(Str.ofString ".0", .local), (Str.ofString "part", .local), (Str.ofString "str", .globalImplicit)], isGenerator := false, isCoroutine := false, more := [] }) ⟨21, 35, 21, 39⟩ ⟨21, 20, 21, 47⟩] ⟨21, 11, 21, 19⟩ ⟨21, 11, 21, 48⟩) ⟨21, 4, 21, 48⟩]
noncomputable def p_shown : List String := ["row"]
noncomputable def b_number_of : List S := [
  .assign "figures" (.loc "word" ⟨23, 14, 23, 18⟩) ⟨23, 4, 23, 11⟩ ⟨23, 4, 23, 18⟩,
  .ite (.cmp .Eq (.sliceU (.loc "word" ⟨24, 7, 24, 11⟩) (.int 1 ⟨24, 13, 24, 14⟩) ⟨24, 12, 24, 14⟩ ⟨24, 7, 24, 15⟩) (.str "-" ⟨24, 19, 24, 22⟩) ⟨24, 7, 24, 22⟩) [
    .assign "figures" (.sliceL (.loc "word" ⟨25, 18, 25, 22⟩) (.int 1 ⟨25, 23, 25, 24⟩) ⟨25, 23, 25, 25⟩ ⟨25, 18, 25, 26⟩) ⟨25, 8, 25, 15⟩ ⟨25, 8, 25, 26⟩] [] ⟨24, 4, 25, 26⟩,
  .ite (.or [.cmp .Eq (.loc "figures" ⟨26, 7, 26, 14⟩) (.str "" ⟨26, 18, 26, 20⟩) ⟨26, 7, 26, 20⟩, .cmp .Gt (.bltn "len" [.loc "figures" ⟨26, 28, 26, 35⟩] ⟨26, 24, 26, 27⟩ ⟨26, 24, 26, 36⟩) (.glob "MOST_FIGURES" ⟨26, 39, 26, 51⟩) ⟨26, 24, 26, 51⟩, .cmp .Eq (.loc "word" ⟨26, 55, 26, 59⟩) (.str "-0" ⟨26, 63, 26, 67⟩) ⟨26, 55, 26, 67⟩, .and [.cmp .Eq (.sub (.loc "figures" ⟨26, 72, 26, 79⟩) (.int 0 ⟨26, 80, 26, 81⟩) ⟨26, 72, 26, 82⟩) (.str "0" ⟨26, 86, 26, 89⟩) ⟨26, 72, 26, 89⟩, .cmp .NotEq (.loc "figures" ⟨26, 94, 26, 101⟩) (.str "0" ⟨26, 105, 26, 108⟩) ⟨26, 94, 26, 108⟩] ⟨26, 72, 26, 108⟩] ⟨26, 7, 26, 109⟩) [
    .raise "NoRow" "no number" ⟨27, 14, 27, 19⟩ ⟨27, 20, 27, 31⟩ ⟨27, 14, 27, 32⟩ ⟨27, 8, 27, 32⟩] [] ⟨26, 4, 27, 32⟩,
  .for_ "sign" (.loc "figures" ⟨28, 16, 28, 23⟩) [
    .ite (.cmp .NotIn (.loc "sign" ⟨29, 11, 29, 15⟩) (.glob "FIGURES" ⟨29, 23, 29, 30⟩) ⟨29, 11, 29, 30⟩) [
      .raise "NoRow" "no number" ⟨30, 18, 30, 23⟩ ⟨30, 24, 30, 35⟩ ⟨30, 18, 30, 36⟩ ⟨30, 12, 30, 36⟩] [] ⟨29, 8, 30, 36⟩] ⟨28, 8, 28, 12⟩ ⟨28, 4, 30, 36⟩,
  .ret (.bltn "int" [.loc "word" ⟨31, 15, 31, 19⟩] ⟨31, 11, 31, 14⟩ ⟨31, 11, 31, 20⟩) ⟨31, 4, 31, 20⟩]
noncomputable def p_number_of : List String := ["word"]
noncomputable def b_read : List S := [
  .assign "words" (.meth (.loc "line" ⟨33, 12, 33, 16⟩) "split" [.str " " ⟨33, 23, 33, 26⟩] ⟨33, 12, 33, 22⟩ ⟨33, 12, 33, 27⟩) ⟨33, 4, 33, 9⟩ ⟨33, 4, 33, 27⟩,
  .ite (.or [.cmp .NotIn (.sub (.loc "words" ⟨34, 7, 34, 12⟩) (.int 0 ⟨34, 13, 34, 14⟩) ⟨34, 7, 34, 15⟩) (.glob "PARTS" ⟨34, 23, 34, 28⟩) ⟨34, 7, 34, 28⟩, .cmp .NotEq (.bltn "len" [.loc "words" ⟨34, 36, 34, 41⟩] ⟨34, 32, 34, 35⟩ ⟨34, 32, 34, 42⟩) (.bin .Add (.sub (.glob "PARTS" ⟨34, 46, 34, 51⟩) (.sub (.loc "words" ⟨34, 52, 34, 57⟩) (.int 0 ⟨34, 58, 34, 59⟩) ⟨34, 52, 34, 60⟩) ⟨34, 46, 34, 61⟩) (.int 1 ⟨34, 64, 34, 65⟩) ⟨34, 46, 34, 65⟩) ⟨34, 32, 34, 65⟩] ⟨34, 7, 34, 65⟩) [
    .raise "NoRow" "no deed" ⟨35, 14, 35, 19⟩ ⟨35, 20, 35, 29⟩ ⟨35, 14, 35, 30⟩ ⟨35, 8, 35, 30⟩] [] ⟨34, 4, 35, 30⟩,
  .ret (.bin .Add (.tup [.sub (.loc "words" ⟨36, 12, 36, 17⟩) (.int 0 ⟨36, 18, 36, 19⟩) ⟨36, 12, 36, 20⟩] 0 ⟨36, 11, 36, 22⟩) (.bltn "tuple" [.comp (.call "number_of" [.loc "word" ⟨36, 42, 36, 46⟩] ⟨36, 32, 36, 41⟩ ⟨36, 32, 36, 47⟩) "word" [] (.sliceL (.loc "words" ⟨36, 60, 36, 65⟩) (.int 1 ⟨36, 66, 36, 67⟩) ⟨36, 66, 36, 68⟩ ⟨36, 60, 36, 69⟩) [] ({ kind := .function, names := [(Str.ofString ".0", .local), (Str.ofString "word", .local), (Str.ofString "number_of", .globalImplicit)], isGenerator := false, isCoroutine := false, more := [] }) ⟨36, 52, 36, 56⟩ ⟨36, 31, 36, 70⟩] ⟨36, 25, 36, 30⟩ ⟨36, 25, 36, 71⟩) ⟨36, 11, 36, 71⟩) ⟨36, 4, 36, 71⟩]
noncomputable def p_read : List String := ["line"]
noncomputable def b__law_cell_at : List S := [
  .ite (.cmp .Lt (.loc "_law_k" ⟨39, 7, 39, 13⟩) (.bltn "len" [.loc "_law_script" ⟨39, 20, 39, 31⟩] ⟨39, 16, 39, 19⟩ ⟨39, 16, 39, 32⟩) ⟨39, 7, 39, 32⟩) [
    .ret (.sub (.loc "_law_script" ⟨40, 15, 40, 26⟩) (.loc "_law_k" ⟨40, 27, 40, 33⟩) ⟨40, 15, 40, 34⟩) ⟨40, 8, 40, 34⟩] [] ⟨39, 4, 40, 34⟩,
  .ret (.int 0 ⟨41, 11, 41, 12⟩) ⟨41, 4, 41, 12⟩]
noncomputable def p__law_cell_at : List String := ["_law_script", "_law_k"]
noncomputable def b__law_whole : List S := [
  .ret (.and [.isi (.loc "_law_found" ⟨43, 22, 43, 32⟩) (.ty "int") ⟨43, 11, 43, 21⟩ ⟨43, 34, 43, 37⟩ ⟨43, 11, 43, 38⟩, .not (.isi (.loc "_law_found" ⟨43, 59, 43, 69⟩) (.ty "bool") ⟨43, 48, 43, 58⟩ ⟨43, 71, 43, 75⟩ ⟨43, 48, 43, 76⟩) ⟨43, 44, 43, 76⟩] ⟨43, 11, 43, 77⟩) ⟨43, 4, 43, 77⟩]
noncomputable def p__law_whole : List String := ["_law_found"]
noncomputable def b__law_alike : List S := [
  .ite (.cmp .Is (.loc "_law_due" ⟨45, 7, 45, 15⟩) (.none ⟨45, 19, 45, 23⟩) ⟨45, 7, 45, 23⟩) [
    .ret (.cmp .Is (.loc "_law_found" ⟨46, 15, 46, 25⟩) (.none ⟨46, 29, 46, 33⟩) ⟨46, 15, 46, 33⟩) ⟨46, 8, 46, 33⟩] [] ⟨45, 4, 46, 33⟩,
  .ite (.isi (.loc "_law_due" ⟨47, 18, 47, 26⟩) (.ty "str") ⟨47, 7, 47, 17⟩ ⟨47, 28, 47, 31⟩ ⟨47, 7, 47, 32⟩) [
    .ret (.and [.isi (.loc "_law_found" ⟨48, 26, 48, 36⟩) (.ty "str") ⟨48, 15, 48, 25⟩ ⟨48, 38, 48, 41⟩ ⟨48, 15, 48, 42⟩, .cmp .Eq (.loc "_law_found" ⟨48, 47, 48, 57⟩) (.loc "_law_due" ⟨48, 61, 48, 69⟩) ⟨48, 47, 48, 69⟩] ⟨48, 15, 48, 69⟩) ⟨48, 8, 48, 69⟩] [] ⟨47, 4, 48, 69⟩,
  .ite (.isi (.loc "_law_due" ⟨49, 18, 49, 26⟩) (.ty "bool") ⟨49, 7, 49, 17⟩ ⟨49, 28, 49, 32⟩ ⟨49, 7, 49, 33⟩) [
    .ret (.and [.isi (.loc "_law_found" ⟨50, 26, 50, 36⟩) (.ty "bool") ⟨50, 15, 50, 25⟩ ⟨50, 38, 50, 42⟩ ⟨50, 15, 50, 43⟩, .cmp .Eq (.loc "_law_found" ⟨50, 48, 50, 58⟩) (.loc "_law_due" ⟨50, 62, 50, 70⟩) ⟨50, 48, 50, 70⟩] ⟨50, 15, 50, 70⟩) ⟨50, 8, 50, 70⟩] [] ⟨49, 4, 50, 70⟩,
  .ite (.isi (.loc "_law_due" ⟨51, 18, 51, 26⟩) (.ty "int") ⟨51, 7, 51, 17⟩ ⟨51, 28, 51, 31⟩ ⟨51, 7, 51, 32⟩) [
    .ret (.and [.call "_law_whole" [.loc "_law_found" ⟨52, 26, 52, 36⟩] ⟨52, 15, 52, 25⟩ ⟨52, 15, 52, 37⟩, .cmp .Eq (.loc "_law_found" ⟨52, 42, 52, 52⟩) (.loc "_law_due" ⟨52, 56, 52, 64⟩) ⟨52, 42, 52, 64⟩] ⟨52, 15, 52, 64⟩) ⟨52, 8, 52, 64⟩] [] ⟨51, 4, 52, 64⟩,
  .ite (.and [.isi (.loc "_law_due" ⟨53, 18, 53, 26⟩) (.ty "tuple") ⟨53, 7, 53, 17⟩ ⟨53, 28, 53, 33⟩ ⟨53, 7, 53, 34⟩, .not (.isi (.loc "_law_found" ⟨53, 55, 53, 65⟩) (.ty "tuple") ⟨53, 44, 53, 54⟩ ⟨53, 67, 53, 72⟩ ⟨53, 44, 53, 73⟩) ⟨53, 40, 53, 73⟩] ⟨53, 7, 53, 74⟩) [
    .ret (.bool false ⟨54, 15, 54, 20⟩) ⟨54, 8, 54, 20⟩] [] ⟨53, 4, 54, 20⟩,
  .ite (.and [.isi (.loc "_law_due" ⟨55, 18, 55, 26⟩) (.ty "list") ⟨55, 7, 55, 17⟩ ⟨55, 28, 55, 32⟩ ⟨55, 7, 55, 33⟩, .not (.isi (.loc "_law_found" ⟨55, 54, 55, 64⟩) (.ty "list") ⟨55, 43, 55, 53⟩ ⟨55, 66, 55, 70⟩ ⟨55, 43, 55, 71⟩) ⟨55, 39, 55, 71⟩] ⟨55, 7, 55, 72⟩) [
    .ret (.bool false ⟨56, 15, 56, 20⟩) ⟨56, 8, 56, 20⟩] [] ⟨55, 4, 56, 20⟩,
  .ite (.cmp .NotEq (.bltn "len" [.loc "_law_found" ⟨57, 11, 57, 21⟩] ⟨57, 7, 57, 10⟩ ⟨57, 7, 57, 22⟩) (.bltn "len" [.loc "_law_due" ⟨57, 30, 57, 38⟩] ⟨57, 26, 57, 29⟩ ⟨57, 26, 57, 39⟩) ⟨57, 7, 57, 39⟩) [
    .ret (.bool false ⟨58, 15, 58, 20⟩) ⟨58, 8, 58, 20⟩] [] ⟨57, 4, 58, 20⟩,
  .for_ "_law_k" (.bltn "range" [.bltn "len" [.loc "_law_due" ⟨59, 28, 59, 36⟩] ⟨59, 24, 59, 27⟩ ⟨59, 24, 59, 37⟩] ⟨59, 18, 59, 23⟩ ⟨59, 18, 59, 38⟩) [
    .ite (.not (.call "_law_alike" [.sub (.loc "_law_found" ⟨60, 26, 60, 36⟩) (.loc "_law_k" ⟨60, 37, 60, 43⟩) ⟨60, 26, 60, 44⟩, .sub (.loc "_law_due" ⟨60, 46, 60, 54⟩) (.loc "_law_k" ⟨60, 55, 60, 61⟩) ⟨60, 46, 60, 62⟩] ⟨60, 15, 60, 25⟩ ⟨60, 15, 60, 63⟩) ⟨60, 11, 60, 63⟩) [
      .ret (.bool false ⟨61, 19, 61, 24⟩) ⟨61, 12, 61, 24⟩] [] ⟨60, 8, 61, 24⟩] ⟨59, 8, 59, 14⟩ ⟨59, 4, 61, 24⟩,
  .ret (.bool true ⟨62, 11, 62, 15⟩) ⟨62, 4, 62, 15⟩]
noncomputable def p__law_alike : List String := ["_law_found", "_law_due"]
noncomputable def b__law_text : List S := [
  .assign "_law_signs" (.sub (.loc "_law_row" ⟨64, 17, 64, 25⟩) (.int 0 ⟨64, 26, 64, 27⟩) ⟨64, 17, 64, 28⟩) ⟨64, 4, 64, 14⟩ ⟨64, 4, 64, 28⟩,
  .for_ "_law_part" (.sliceL (.loc "_law_row" ⟨65, 21, 65, 29⟩) (.int 1 ⟨65, 30, 65, 31⟩) ⟨65, 30, 65, 32⟩ ⟨65, 21, 65, 33⟩) [
    .assign "_law_signs" (.bin .Add (.bin .Add (.loc "_law_signs" ⟨66, 21, 66, 31⟩) (.str " " ⟨66, 34, 66, 37⟩) ⟨66, 21, 66, 37⟩) (.bltn "str" [.loc "_law_part" ⟨66, 44, 66, 53⟩] ⟨66, 40, 66, 43⟩ ⟨66, 40, 66, 54⟩) ⟨66, 21, 66, 54⟩) ⟨66, 8, 66, 18⟩ ⟨66, 8, 66, 54⟩] ⟨65, 8, 65, 17⟩ ⟨65, 4, 66, 54⟩,
  .ret (.loc "_law_signs" ⟨67, 11, 67, 21⟩) ⟨67, 4, 67, 21⟩]
noncomputable def p__law_text : List String := ["_law_row"]
noncomputable def b__law_number_by : List S := [
  .ite (.cmp .Lt (.bin .Mod (.loc "_law_cell" ⟨69, 7, 69, 16⟩) (.int 8 ⟨69, 19, 69, 20⟩) ⟨69, 7, 69, 20⟩) (.int 3 ⟨69, 23, 69, 24⟩) ⟨69, 7, 69, 24⟩) [
    .ret (.bin .Mod (.bin .FloorDiv (.loc "_law_cell" ⟨70, 15, 70, 24⟩) (.int 8 ⟨70, 28, 70, 29⟩) ⟨70, 15, 70, 29⟩) (.int 100 ⟨70, 32, 70, 35⟩) ⟨70, 15, 70, 35⟩) ⟨70, 8, 70, 35⟩] [] ⟨69, 4, 70, 35⟩,
  .ite (.cmp .Eq (.bin .Mod (.loc "_law_cell" ⟨71, 7, 71, 16⟩) (.int 8 ⟨71, 19, 71, 20⟩) ⟨71, 7, 71, 20⟩) (.int 3 ⟨71, 24, 71, 25⟩) ⟨71, 7, 71, 25⟩) [
    .ret (.bin .Sub (.neg (.int 1 ⟨72, 16, 72, 17⟩) ⟨72, 15, 72, 17⟩) (.bin .Mod (.bin .FloorDiv (.loc "_law_cell" ⟨72, 20, 72, 29⟩) (.int 8 ⟨72, 33, 72, 34⟩) ⟨72, 20, 72, 34⟩) (.int 100 ⟨72, 37, 72, 40⟩) ⟨72, 20, 72, 40⟩) ⟨72, 15, 72, 40⟩) ⟨72, 8, 72, 40⟩] [] ⟨71, 4, 72, 40⟩,
  .ite (.cmp .Eq (.bin .Mod (.loc "_law_cell" ⟨73, 7, 73, 16⟩) (.int 8 ⟨73, 19, 73, 20⟩) ⟨73, 7, 73, 20⟩) (.int 4 ⟨73, 24, 73, 25⟩) ⟨73, 7, 73, 25⟩) [
    .ret (.sub (.list [.int 0 ⟨74, 16, 74, 17⟩, .bin .Sub (.bin .Pow (.int 10 ⟨74, 19, 74, 21⟩) (.int 60 ⟨74, 25, 74, 27⟩) ⟨74, 19, 74, 27⟩) (.int 1 ⟨74, 30, 74, 31⟩) ⟨74, 19, 74, 31⟩, .bin .Sub (.int 1 ⟨74, 33, 74, 34⟩) (.bin .Pow (.int 10 ⟨74, 37, 74, 39⟩) (.int 60 ⟨74, 43, 74, 45⟩) ⟨74, 37, 74, 45⟩) ⟨74, 33, 74, 45⟩, .bin .Pow (.int 10 ⟨74, 47, 74, 49⟩) (.int 59 ⟨74, 53, 74, 55⟩) ⟨74, 47, 74, 55⟩] ⟨74, 15, 74, 56⟩) (.bin .Mod (.bin .FloorDiv (.loc "_law_cell" ⟨74, 57, 74, 66⟩) (.int 8 ⟨74, 70, 74, 71⟩) ⟨74, 57, 74, 71⟩) (.int 4 ⟨74, 74, 74, 75⟩) ⟨74, 57, 74, 75⟩) ⟨74, 15, 74, 76⟩) ⟨74, 8, 74, 76⟩] [] ⟨73, 4, 74, 76⟩,
  .ite (.cmp .Eq (.bin .Mod (.loc "_law_cell" ⟨75, 7, 75, 16⟩) (.int 8 ⟨75, 19, 75, 20⟩) ⟨75, 7, 75, 20⟩) (.int 5 ⟨75, 24, 75, 25⟩) ⟨75, 7, 75, 25⟩) [
    .ret (.bin .Mult (.bin .Mod (.bin .FloorDiv (.loc "_law_cell" ⟨76, 15, 76, 24⟩) (.int 8 ⟨76, 28, 76, 29⟩) ⟨76, 15, 76, 29⟩) (.bin .Pow (.int 10 ⟨76, 32, 76, 34⟩) (.int 60 ⟨76, 38, 76, 40⟩) ⟨76, 32, 76, 40⟩) ⟨76, 15, 76, 40⟩) (.sub (.list [.int 1 ⟨76, 44, 76, 45⟩, .neg (.int 1 ⟨76, 48, 76, 49⟩) ⟨76, 47, 76, 49⟩] ⟨76, 43, 76, 50⟩) (.bin .Mod (.bin .FloorDiv (.loc "_law_cell" ⟨76, 51, 76, 60⟩) (.int 16 ⟨76, 64, 76, 66⟩) ⟨76, 51, 76, 66⟩) (.int 2 ⟨76, 69, 76, 70⟩) ⟨76, 51, 76, 70⟩) ⟨76, 43, 76, 71⟩) ⟨76, 15, 76, 71⟩) ⟨76, 8, 76, 71⟩] [] ⟨75, 4, 76, 71⟩,
  .ite (.cmp .Eq (.bin .Mod (.loc "_law_cell" ⟨77, 7, 77, 16⟩) (.int 8 ⟨77, 19, 77, 20⟩) ⟨77, 7, 77, 20⟩) (.int 6 ⟨77, 24, 77, 25⟩) ⟨77, 7, 77, 25⟩) [
    .ret (.bin .Mult (.bin .Add (.bin .Pow (.int 10 ⟨78, 16, 78, 18⟩) (.int 60 ⟨78, 22, 78, 24⟩) ⟨78, 16, 78, 24⟩) (.bin .Mod (.bin .FloorDiv (.loc "_law_cell" ⟨78, 27, 78, 36⟩) (.int 8 ⟨78, 40, 78, 41⟩) ⟨78, 27, 78, 41⟩) (.bin .Pow (.int 10 ⟨78, 44, 78, 46⟩) (.int 60 ⟨78, 50, 78, 52⟩) ⟨78, 44, 78, 52⟩) ⟨78, 27, 78, 52⟩) ⟨78, 16, 78, 52⟩) (.sub (.list [.int 1 ⟨78, 57, 78, 58⟩, .neg (.int 1 ⟨78, 61, 78, 62⟩) ⟨78, 60, 78, 62⟩] ⟨78, 56, 78, 63⟩) (.bin .Mod (.bin .FloorDiv (.loc "_law_cell" ⟨78, 64, 78, 73⟩) (.int 16 ⟨78, 77, 78, 79⟩) ⟨78, 64, 78, 79⟩) (.int 2 ⟨78, 82, 78, 83⟩) ⟨78, 64, 78, 83⟩) ⟨78, 56, 78, 84⟩) ⟨78, 15, 78, 84⟩) ⟨78, 8, 78, 84⟩] [] ⟨77, 4, 78, 84⟩,
  .ret (.bin .Mod (.bin .FloorDiv (.loc "_law_cell" ⟨79, 11, 79, 20⟩) (.int 32 ⟨79, 24, 79, 26⟩) ⟨79, 11, 79, 26⟩) (.sub (.list [.int 10 ⟨79, 30, 79, 32⟩, .bin .Pow (.int 10 ⟨79, 34, 79, 36⟩) (.int 6 ⟨79, 40, 79, 41⟩) ⟨79, 34, 79, 41⟩, .bin .Pow (.int 10 ⟨79, 43, 79, 45⟩) (.int 12 ⟨79, 49, 79, 51⟩) ⟨79, 43, 79, 51⟩, .bin .Pow (.int 10 ⟨79, 53, 79, 55⟩) (.int 30 ⟨79, 59, 79, 61⟩) ⟨79, 53, 79, 61⟩] ⟨79, 29, 79, 62⟩) (.bin .Mod (.bin .FloorDiv (.loc "_law_cell" ⟨79, 63, 79, 72⟩) (.int 8 ⟨79, 76, 79, 77⟩) ⟨79, 63, 79, 77⟩) (.int 4 ⟨79, 80, 79, 81⟩) ⟨79, 63, 79, 81⟩) ⟨79, 29, 79, 82⟩) ⟨79, 11, 79, 82⟩) ⟨79, 4, 79, 82⟩]
noncomputable def p__law_number_by : List String := ["_law_cell"]
noncomputable def b__law_row_by : List S := [
  .assign "_law_word" (.sub (.list [.str "begin" ⟨81, 17, 81, 24⟩, .str "do" ⟨81, 26, 81, 30⟩, .str "hand" ⟨81, 32, 81, 38⟩, .str "carry" ⟨81, 40, 81, 47⟩, .str "begun" ⟨81, 49, 81, 56⟩, .str "letter" ⟨81, 58, 81, 66⟩, .str "woken" ⟨81, 68, 81, 75⟩, .str "answer" ⟨81, 77, 81, 85⟩, .str "end" ⟨81, 87, 81, 92⟩] ⟨81, 16, 81, 93⟩) (.bin .Mod (.call "_law_cell_at" [.loc "_law_script" ⟨81, 107, 81, 118⟩, .int 0 ⟨81, 120, 81, 121⟩] ⟨81, 94, 81, 106⟩ ⟨81, 94, 81, 122⟩) (.int 9 ⟨81, 125, 81, 126⟩) ⟨81, 94, 81, 126⟩) ⟨81, 16, 81, 127⟩) ⟨81, 4, 81, 13⟩ ⟨81, 4, 81, 127⟩,
  .assign "_law_many" (.sub (.list [.int 1 ⟨82, 17, 82, 18⟩, .int 1 ⟨82, 20, 82, 21⟩, .int 3 ⟨82, 23, 82, 24⟩, .int 1 ⟨82, 26, 82, 27⟩, .int 1 ⟨82, 29, 82, 30⟩, .int 3 ⟨82, 32, 82, 33⟩, .int 2 ⟨82, 35, 82, 36⟩, .int 3 ⟨82, 38, 82, 39⟩, .int 1 ⟨82, 41, 82, 42⟩] ⟨82, 16, 82, 43⟩) (.bin .Mod (.call "_law_cell_at" [.loc "_law_script" ⟨82, 57, 82, 68⟩, .int 0 ⟨82, 70, 82, 71⟩] ⟨82, 44, 82, 56⟩ ⟨82, 44, 82, 72⟩) (.int 9 ⟨82, 75, 82, 76⟩) ⟨82, 44, 82, 76⟩) ⟨82, 16, 82, 77⟩) ⟨82, 4, 82, 13⟩ ⟨82, 4, 82, 77⟩,
  .ret (.bltn "tuple" [.bin .Add (.list [.loc "_law_word" ⟨83, 18, 83, 27⟩] ⟨83, 17, 83, 28⟩) (.comp (.call "_law_number_by" [.call "_law_cell_at" [.loc "_law_script" ⟨83, 60, 83, 71⟩, .bin .Add (.int 1 ⟨83, 73, 83, 74⟩) (.loc "_law_k" ⟨83, 77, 83, 83⟩) ⟨83, 73, 83, 83⟩] ⟨83, 47, 83, 59⟩ ⟨83, 47, 83, 84⟩] ⟨83, 32, 83, 46⟩ ⟨83, 32, 83, 85⟩) "_law_k" ["_law_script"] (.bltn "range" [.loc "_law_many" ⟨83, 106, 83, 115⟩] ⟨83, 100, 83, 105⟩ ⟨83, 100, 83, 116⟩) [] ({ kind := .function, names := [(Str.ofString ".0", .local), (Str.ofString "_law_k", .local), (Str.ofString "_law_number_by", .globalImplicit), (Str.ofString "_law_cell_at", .globalImplicit), (Str.ofString "_law_script", .free)], isGenerator := false, isCoroutine := false, more := [] }) ⟨83, 90, 83, 96⟩ ⟨83, 31, 83, 117⟩) ⟨83, 17, 83, 117⟩] ⟨83, 11, 83, 16⟩ ⟨83, 11, 83, 118⟩) ⟨83, 4, 83, 118⟩]
noncomputable def p__law_row_by : List String := ["_law_script"]
noncomputable def b__law_sign_by : List S := [
  .assign "_law_some" (.str "0123456789- abcdefghijklmnopqrstuvwxyzABCDEFGHIJKLMNOPQRSTUVWXYZ" ⟨85, 16, 85, 82⟩) ⟨85, 4, 85, 13⟩ ⟨85, 4, 85, 82⟩,
  .assign "_law_some" (.bin .Add (.loc "_law_some" ⟨86, 16, 86, 25⟩) (.str "!\"#$&'()*+,./:;<=>?\x40[\\]^_`{|}~\n\t" ⟨86, 28, 86, 66⟩) ⟨86, 16, 86, 66⟩) ⟨86, 4, 86, 13⟩ ⟨86, 4, 86, 66⟩,
  .ret (.sub (.loc "_law_some" ⟨87, 11, 87, 20⟩) (.bin .Mod (.bin .FloorDiv (.loc "_law_cell" ⟨87, 21, 87, 30⟩) (.int 2 ⟨87, 34, 87, 35⟩) ⟨87, 21, 87, 35⟩) (.sub (.list [.int 12 ⟨87, 39, 87, 41⟩, .int 96 ⟨87, 43, 87, 45⟩] ⟨87, 38, 87, 46⟩) (.bin .Mod (.loc "_law_cell" ⟨87, 47, 87, 56⟩) (.int 2 ⟨87, 59, 87, 60⟩) ⟨87, 47, 87, 60⟩) ⟨87, 38, 87, 61⟩) ⟨87, 21, 87, 61⟩) ⟨87, 11, 87, 62⟩) ⟨87, 4, 87, 62⟩]
noncomputable def p__law_sign_by : List String := ["_law_cell"]
noncomputable def b__law_turned : List S := [
  .assign "_law_at" (.bin .Mod (.bin .FloorDiv (.loc "_law_cell" ⟨89, 14, 89, 23⟩) (.int 8 ⟨89, 27, 89, 28⟩) ⟨89, 14, 89, 28⟩) (.bin .Add (.bltn "len" [.loc "_law_line" ⟨89, 36, 89, 45⟩] ⟨89, 32, 89, 35⟩ ⟨89, 32, 89, 46⟩) (.int 1 ⟨89, 49, 89, 50⟩) ⟨89, 32, 89, 50⟩) ⟨89, 14, 89, 51⟩) ⟨89, 4, 89, 11⟩ ⟨89, 4, 89, 51⟩,
  .ite (.cmp .Lt (.bin .Mod (.loc "_law_cell" ⟨90, 7, 90, 16⟩) (.int 8 ⟨90, 19, 90, 20⟩) ⟨90, 7, 90, 20⟩) (.int 3 ⟨90, 23, 90, 24⟩) ⟨90, 7, 90, 24⟩) [
    .ret (.bin .Add (.bin .Add (.sliceU (.loc "_law_line" ⟨91, 15, 91, 24⟩) (.loc "_law_at" ⟨91, 26, 91, 33⟩) ⟨91, 25, 91, 33⟩ ⟨91, 15, 91, 34⟩) (.loc "_law_sign" ⟨91, 37, 91, 46⟩) ⟨91, 15, 91, 46⟩) (.sliceL (.loc "_law_line" ⟨91, 49, 91, 58⟩) (.loc "_law_at" ⟨91, 59, 91, 66⟩) ⟨91, 59, 91, 67⟩ ⟨91, 49, 91, 68⟩) ⟨91, 15, 91, 68⟩) ⟨91, 8, 91, 68⟩] [] ⟨90, 4, 91, 68⟩,
  .ite (.cmp .Eq (.bin .Mod (.loc "_law_cell" ⟨92, 7, 92, 16⟩) (.int 8 ⟨92, 19, 92, 20⟩) ⟨92, 7, 92, 20⟩) (.int 3 ⟨92, 24, 92, 25⟩) ⟨92, 7, 92, 25⟩) [
    .ret (.bin .Add (.sliceU (.loc "_law_line" ⟨93, 15, 93, 24⟩) (.loc "_law_at" ⟨93, 26, 93, 33⟩) ⟨93, 25, 93, 33⟩ ⟨93, 15, 93, 34⟩) (.sliceL (.loc "_law_line" ⟨93, 37, 93, 46⟩) (.bin .Add (.loc "_law_at" ⟨93, 47, 93, 54⟩) (.int 1 ⟨93, 57, 93, 58⟩) ⟨93, 47, 93, 58⟩) ⟨93, 47, 93, 59⟩ ⟨93, 37, 93, 60⟩) ⟨93, 15, 93, 60⟩) ⟨93, 8, 93, 60⟩] [] ⟨92, 4, 93, 60⟩,
  .ite (.cmp .Eq (.bin .Mod (.loc "_law_cell" ⟨94, 7, 94, 16⟩) (.int 8 ⟨94, 19, 94, 20⟩) ⟨94, 7, 94, 20⟩) (.int 4 ⟨94, 24, 94, 25⟩) ⟨94, 7, 94, 25⟩) [
    .ret (.bin .Add (.bin .Add (.loc "_law_line" ⟨95, 15, 95, 24⟩) (.str " " ⟨95, 27, 95, 30⟩) ⟨95, 15, 95, 30⟩) (.loc "_law_sign" ⟨95, 33, 95, 42⟩) ⟨95, 15, 95, 42⟩) ⟨95, 8, 95, 42⟩] [] ⟨94, 4, 95, 42⟩,
  .ite (.cmp .Eq (.bin .Mod (.loc "_law_cell" ⟨96, 7, 96, 16⟩) (.int 8 ⟨96, 19, 96, 20⟩) ⟨96, 7, 96, 20⟩) (.int 5 ⟨96, 24, 96, 25⟩) ⟨96, 7, 96, 25⟩) [
    .ret (.sliceU (.loc "_law_line" ⟨97, 15, 97, 24⟩) (.meth (.loc "_law_line" ⟨97, 26, 97, 35⟩) "rfind" [.str " " ⟨97, 42, 97, 45⟩] ⟨97, 26, 97, 41⟩ ⟨97, 26, 97, 46⟩) ⟨97, 25, 97, 46⟩ ⟨97, 15, 97, 47⟩) ⟨97, 8, 97, 47⟩] [] ⟨96, 4, 97, 47⟩,
  .ret (.bin .Add (.bin .Add (.sliceU (.loc "_law_line" ⟨98, 11, 98, 20⟩) (.loc "_law_at" ⟨98, 22, 98, 29⟩) ⟨98, 21, 98, 29⟩ ⟨98, 11, 98, 30⟩) (.loc "_law_sign" ⟨98, 33, 98, 42⟩) ⟨98, 11, 98, 42⟩) (.sliceL (.loc "_law_line" ⟨98, 45, 98, 54⟩) (.bin .Add (.loc "_law_at" ⟨98, 55, 98, 62⟩) (.int 1 ⟨98, 65, 98, 66⟩) ⟨98, 55, 98, 66⟩) ⟨98, 55, 98, 67⟩ ⟨98, 45, 98, 68⟩) ⟨98, 11, 98, 68⟩) ⟨98, 4, 98, 68⟩]
noncomputable def p__law_turned : List String := ["_law_line", "_law_cell", "_law_sign"]
noncomputable def b__law_number_good : List S := [
  .assign "_law_figures" (.loc "_law_word" ⟨100, 19, 100, 28⟩) ⟨100, 4, 100, 16⟩ ⟨100, 4, 100, 28⟩,
  .ite (.cmp .Eq (.sliceU (.loc "_law_word" ⟨101, 7, 101, 16⟩) (.int 1 ⟨101, 18, 101, 19⟩) ⟨101, 17, 101, 19⟩ ⟨101, 7, 101, 20⟩) (.str "-" ⟨101, 24, 101, 27⟩) ⟨101, 7, 101, 27⟩) [
    .assign "_law_figures" (.sliceL (.loc "_law_word" ⟨102, 23, 102, 32⟩) (.int 1 ⟨102, 33, 102, 34⟩) ⟨102, 33, 102, 35⟩ ⟨102, 23, 102, 36⟩) ⟨102, 8, 102, 20⟩ ⟨102, 8, 102, 36⟩] [] ⟨101, 4, 102, 36⟩,
  .ite (.or [.cmp .Lt (.bltn "len" [.loc "_law_figures" ⟨103, 11, 103, 23⟩] ⟨103, 7, 103, 10⟩ ⟨103, 7, 103, 24⟩) (.int 1 ⟨103, 27, 103, 28⟩) ⟨103, 7, 103, 28⟩, .cmp .Gt (.bltn "len" [.loc "_law_figures" ⟨103, 36, 103, 48⟩] ⟨103, 32, 103, 35⟩ ⟨103, 32, 103, 49⟩) (.int 60 ⟨103, 52, 103, 54⟩) ⟨103, 32, 103, 54⟩] ⟨103, 7, 103, 54⟩) [
    .ret (.bool false ⟨104, 15, 104, 20⟩) ⟨104, 8, 104, 20⟩] [] ⟨103, 4, 104, 20⟩,
  .ite (.cmp .NotEq (.comp (.loc "_law_sign" ⟨105, 8, 105, 17⟩) "_law_sign" [] (.loc "_law_figures" ⟨105, 35, 105, 47⟩) [.cmp .NotIn (.loc "_law_sign" ⟨105, 51, 105, 60⟩) (.str "0123456789" ⟨105, 68, 105, 80⟩) ⟨105, 51, 105, 80⟩] ({ kind := .function, names := [(Str.ofString ".0", .local), (Str.ofString "_law_sign", .local)], isGenerator := false, isCoroutine := false, more := [] }) ⟨105, 22, 105, 31⟩ ⟨105, 7, 105, 81⟩) (.list [] ⟨105, 85, 105, 87⟩) ⟨105, 7, 105, 87⟩) [
    .ret (.bool false ⟨106, 15, 106, 20⟩) ⟨106, 8, 106, 20⟩] [] ⟨105, 4, 106, 20⟩,
  .ret (.or [.cmp .NotEq (.sub (.loc "_law_figures" ⟨107, 11, 107, 23⟩) (.int 0 ⟨107, 24, 107, 25⟩) ⟨107, 11, 107, 26⟩) (.str "0" ⟨107, 30, 107, 33⟩) ⟨107, 11, 107, 33⟩, .cmp .Eq (.loc "_law_word" ⟨107, 37, 107, 46⟩) (.str "0" ⟨107, 50, 107, 53⟩) ⟨107, 37, 107, 53⟩] ⟨107, 11, 107, 53⟩) ⟨107, 4, 107, 53⟩]
noncomputable def p__law_number_good : List String := ["_law_word"]
noncomputable def b__law_deed_of : List S := [
  .assign "_law_words" (.meth (.loc "_law_line" ⟨109, 17, 109, 26⟩) "split" [.str " " ⟨109, 33, 109, 36⟩] ⟨109, 17, 109, 32⟩ ⟨109, 17, 109, 37⟩) ⟨109, 4, 109, 14⟩ ⟨109, 4, 109, 37⟩,
  .assign "_law_many" (.dlit [(("begin", ⟨110, 17, 110, 24⟩), (1, ⟨110, 26, 110, 27⟩)), (("do", ⟨110, 29, 110, 33⟩), (1, ⟨110, 35, 110, 36⟩)), (("hand", ⟨110, 38, 110, 44⟩), (3, ⟨110, 46, 110, 47⟩)), (("carry", ⟨110, 49, 110, 56⟩), (1, ⟨110, 58, 110, 59⟩))] ⟨110, 16, 110, 60⟩) ⟨110, 4, 110, 13⟩ ⟨110, 4, 110, 60⟩,
  .ite (.or [.cmp .NotIn (.sub (.loc "_law_words" ⟨111, 7, 111, 17⟩) (.int 0 ⟨111, 18, 111, 19⟩) ⟨111, 7, 111, 20⟩) (.loc "_law_many" ⟨111, 28, 111, 37⟩) ⟨111, 7, 111, 37⟩, .cmp .NotEq (.bltn "len" [.loc "_law_words" ⟨111, 45, 111, 55⟩] ⟨111, 41, 111, 44⟩ ⟨111, 41, 111, 56⟩) (.bin .Add (.int 1 ⟨111, 60, 111, 61⟩) (.sub (.loc "_law_many" ⟨111, 64, 111, 73⟩) (.sub (.loc "_law_words" ⟨111, 74, 111, 84⟩) (.int 0 ⟨111, 85, 111, 86⟩) ⟨111, 74, 111, 87⟩) ⟨111, 64, 111, 88⟩) ⟨111, 60, 111, 88⟩) ⟨111, 41, 111, 88⟩] ⟨111, 7, 111, 88⟩) [
    .ret (.none ⟨112, 15, 112, 19⟩) ⟨112, 8, 112, 19⟩] [] ⟨111, 4, 112, 19⟩,
  .ite (.cmp .NotEq (.comp (.loc "_law_word" ⟨113, 8, 113, 17⟩) "_law_word" [] (.sliceL (.loc "_law_words" ⟨113, 35, 113, 45⟩) (.int 1 ⟨113, 46, 113, 47⟩) ⟨113, 46, 113, 48⟩ ⟨113, 35, 113, 49⟩) [.not (.call "_law_number_good" [.loc "_law_word" ⟨113, 74, 113, 83⟩] ⟨113, 57, 113, 73⟩ ⟨113, 57, 113, 84⟩) ⟨113, 53, 113, 84⟩] ({ kind := .function, names := [(Str.ofString ".0", .local), (Str.ofString "_law_word", .local), (Str.ofString "_law_number_good", .globalImplicit)], isGenerator := false, isCoroutine := false, more := [] }) ⟨113, 22, 113, 31⟩ ⟨113, 7, 113, 85⟩) (.list [] ⟨113, 89, 113, 91⟩) ⟨113, 7, 113, 91⟩) [
    .ret (.none ⟨114, 15, 114, 19⟩) ⟨114, 8, 114, 19⟩] [] ⟨113, 4, 114, 19⟩,
  .ret (.bltn "tuple" [.bin .Add (.list [.sub (.loc "_law_words" ⟨115, 18, 115, 28⟩) (.int 0 ⟨115, 29, 115, 30⟩) ⟨115, 18, 115, 31⟩] ⟨115, 17, 115, 32⟩) (.comp (.bltn "int" [.loc "_law_word" ⟨115, 40, 115, 49⟩] ⟨115, 36, 115, 39⟩ ⟨115, 36, 115, 50⟩) "_law_word" [] (.sliceL (.loc "_law_words" ⟨115, 68, 115, 78⟩) (.int 1 ⟨115, 79, 115, 80⟩) ⟨115, 79, 115, 81⟩ ⟨115, 68, 115, 82⟩) [] ({ kind := .function, names := [(Str.ofString ".0", .local), (Str.ofString "_law_word", .local), (Str.ofString "int", .globalImplicit)], isGenerator := false, isCoroutine := false, more := [] }) ⟨115, 55, 115, 64⟩ ⟨115, 35, 115, 83⟩) ⟨115, 17, 115, 83⟩] ⟨115, 11, 115, 16⟩ ⟨115, 11, 115, 84⟩) ⟨115, 4, 115, 84⟩]
noncomputable def p__law_deed_of : List String := ["_law_line"]
noncomputable def b__law_refused : List S := [
  .try_ [
    .expr (.call "read" [.loc "_law_line" ⟨118, 13, 118, 22⟩] ⟨118, 8, 118, 12⟩ ⟨118, 8, 118, 23⟩) ⟨118, 8, 118, 23⟩] "DebtError" (some "e") [
    .ite (.or [.not (.isi (.loc "e" ⟨120, 26, 120, 27⟩) (.ty "ValueError") ⟨120, 15, 120, 25⟩ ⟨120, 29, 120, 39⟩ ⟨120, 15, 120, 40⟩) ⟨120, 11, 120, 40⟩, .not (.isi (.loc "e" ⟨120, 59, 120, 60⟩) (.own "NoRow") ⟨120, 48, 120, 58⟩ ⟨120, 62, 120, 67⟩ ⟨120, 48, 120, 68⟩) ⟨120, 44, 120, 68⟩] ⟨120, 11, 120, 68⟩) [
      .ret (.bool false ⟨121, 19, 121, 24⟩) ⟨121, 12, 121, 24⟩] [] ⟨120, 8, 121, 24⟩,
    .ret (.and [.not (.isi (.loc "e" ⟨122, 30, 122, 31⟩) (.owns [("NoCompany", ⟨122, 34, 122, 43⟩), ("NoHand", ⟨122, 45, 122, 51⟩), ("NoWork", ⟨122, 53, 122, 59⟩)]) ⟨122, 19, 122, 29⟩ ⟨122, 33, 122, 60⟩ ⟨122, 19, 122, 61⟩) ⟨122, 15, 122, 61⟩, .not (.isi (.loc "e" ⟨122, 82, 122, 83⟩) (.owns [("NoPlace", ⟨122, 86, 122, 93⟩), ("Begun", ⟨122, 95, 122, 100⟩)]) ⟨122, 71, 122, 81⟩ ⟨122, 85, 122, 101⟩ ⟨122, 71, 122, 102⟩) ⟨122, 67, 122, 102⟩] ⟨122, 15, 122, 103⟩) ⟨122, 8, 122, 103⟩] [] ⟨119, 11, 119, 20⟩ ⟨119, 4, 122, 103⟩ ⟨117, 4, 122, 103⟩,
  .ret (.bool false ⟨123, 11, 123, 16⟩) ⟨123, 4, 123, 16⟩]
noncomputable def p__law_refused : List String := ["_law_line"]
noncomputable def b__law_read_good : List S := [
  .assign "_law_due" (.call "_law_deed_of" [.loc "_law_line" ⟨125, 28, 125, 37⟩] ⟨125, 15, 125, 27⟩ ⟨125, 15, 125, 38⟩) ⟨125, 4, 125, 12⟩ ⟨125, 4, 125, 38⟩,
  .ite (.cmp .Is (.loc "_law_due" ⟨126, 7, 126, 15⟩) (.none ⟨126, 19, 126, 23⟩) ⟨126, 7, 126, 23⟩) [
    .ret (.call "_law_refused" [.loc "_law_line" ⟨127, 28, 127, 37⟩] ⟨127, 15, 127, 27⟩ ⟨127, 15, 127, 38⟩) ⟨127, 8, 127, 38⟩] [] ⟨126, 4, 127, 38⟩,
  .ret (.call "_law_alike" [.call "read" [.loc "_law_line" ⟨128, 27, 128, 36⟩] ⟨128, 22, 128, 26⟩ ⟨128, 22, 128, 37⟩, .loc "_law_due" ⟨128, 39, 128, 47⟩] ⟨128, 11, 128, 21⟩ ⟨128, 11, 128, 48⟩) ⟨128, 4, 128, 48⟩]
noncomputable def p__law_read_good : List String := ["_law_line"]
noncomputable def b_law : List S := [
  .assign "_law_row" (.call "_law_row_by" [.loc "_law_script" ⟨130, 27, 130, 38⟩] ⟨130, 15, 130, 26⟩ ⟨130, 15, 130, 39⟩) ⟨130, 4, 130, 12⟩ ⟨130, 4, 130, 39⟩,
  .assign "_law_line" (.call "_law_text" [.loc "_law_row" ⟨131, 26, 131, 34⟩] ⟨131, 16, 131, 25⟩ ⟨131, 16, 131, 35⟩) ⟨131, 4, 131, 13⟩ ⟨131, 4, 131, 35⟩,
  .assign "_law_far" (.comp (.loc "_law_part" ⟨132, 16, 132, 25⟩) "_law_part" [] (.sliceL (.loc "_law_row" ⟨132, 43, 132, 51⟩) (.int 1 ⟨132, 52, 132, 53⟩) ⟨132, 52, 132, 54⟩ ⟨132, 43, 132, 55⟩) [.or [.cmp .GtE (.loc "_law_part" ⟨132, 59, 132, 68⟩) (.bin .Pow (.int 10 ⟨132, 72, 132, 74⟩) (.int 60 ⟨132, 78, 132, 80⟩) ⟨132, 72, 132, 80⟩) ⟨132, 59, 132, 80⟩, .cmp .LtE (.loc "_law_part" ⟨132, 84, 132, 93⟩) (.bin .Sub (.int 0 ⟨132, 97, 132, 98⟩) (.bin .Pow (.int 10 ⟨132, 101, 132, 103⟩) (.int 60 ⟨132, 107, 132, 109⟩) ⟨132, 101, 132, 109⟩) ⟨132, 97, 132, 109⟩) ⟨132, 84, 132, 109⟩] ⟨132, 59, 132, 109⟩] ({ kind := .function, names := [(Str.ofString ".0", .local), (Str.ofString "_law_part", .local)], isGenerator := false, isCoroutine := false, more := [] }) ⟨132, 30, 132, 39⟩ ⟨132, 15, 132, 110⟩) ⟨132, 4, 132, 12⟩ ⟨132, 4, 132, 110⟩,
  .ite (.and [.cmp .Eq (.loc "_law_far" ⟨133, 7, 133, 15⟩) (.list [] ⟨133, 19, 133, 21⟩) ⟨133, 7, 133, 21⟩, .not (.call "_law_alike" [.call "shown" [.loc "_law_row" ⟨133, 48, 133, 56⟩] ⟨133, 42, 133, 47⟩ ⟨133, 42, 133, 57⟩, .loc "_law_line" ⟨133, 59, 133, 68⟩] ⟨133, 31, 133, 41⟩ ⟨133, 31, 133, 69⟩) ⟨133, 27, 133, 69⟩] ⟨133, 7, 133, 70⟩) [
    .ret (.bool false ⟨134, 15, 134, 20⟩) ⟨134, 8, 134, 20⟩] [] ⟨133, 4, 134, 20⟩,
  .ite (.not (.call "_law_read_good" [.loc "_law_line" ⟨135, 26, 135, 35⟩] ⟨135, 11, 135, 25⟩ ⟨135, 11, 135, 36⟩) ⟨135, 7, 135, 36⟩) [
    .ret (.bool false ⟨136, 15, 136, 20⟩) ⟨136, 8, 136, 20⟩] [] ⟨135, 4, 136, 20⟩,
  .for_ "_law_k" (.bltn "range" [.int 4 ⟨137, 24, 137, 25⟩, .bltn "max" [.int 9 ⟨137, 31, 137, 32⟩, .bltn "min" [.bltn "len" [.loc "_law_script" ⟨137, 42, 137, 53⟩] ⟨137, 38, 137, 41⟩ ⟨137, 38, 137, 54⟩, .int 30 ⟨137, 56, 137, 58⟩] ⟨137, 34, 137, 37⟩ ⟨137, 34, 137, 59⟩] ⟨137, 27, 137, 30⟩ ⟨137, 27, 137, 60⟩] ⟨137, 18, 137, 23⟩ ⟨137, 18, 137, 61⟩) [
    .assign "_law_cell" (.call "_law_cell_at" [.loc "_law_script" ⟨138, 33, 138, 44⟩, .loc "_law_k" ⟨138, 46, 138, 52⟩] ⟨138, 20, 138, 32⟩ ⟨138, 20, 138, 53⟩) ⟨138, 8, 138, 17⟩ ⟨138, 8, 138, 53⟩,
    .ite (.not (.call "_law_read_good" [.call "_law_turned" [.loc "_law_line" ⟨139, 42, 139, 51⟩, .bin .FloorDiv (.loc "_law_cell" ⟨139, 53, 139, 62⟩) (.int 190 ⟨139, 66, 139, 69⟩) ⟨139, 53, 139, 69⟩, .call "_law_sign_by" [.bin .Add (.bin .Mod (.loc "_law_cell" ⟨139, 84, 139, 93⟩) (.int 190 ⟨139, 96, 139, 99⟩) ⟨139, 84, 139, 99⟩) (.bin .FloorDiv (.loc "_law_cell" ⟨139, 102, 139, 111⟩) (.int 1520 ⟨139, 115, 139, 119⟩) ⟨139, 102, 139, 119⟩) ⟨139, 84, 139, 119⟩] ⟨139, 71, 139, 83⟩ ⟨139, 71, 139, 120⟩] ⟨139, 30, 139, 41⟩ ⟨139, 30, 139, 121⟩] ⟨139, 15, 139, 29⟩ ⟨139, 15, 139, 122⟩) ⟨139, 11, 139, 122⟩) [
      .ret (.bool false ⟨140, 19, 140, 24⟩) ⟨140, 12, 140, 24⟩] [] ⟨139, 8, 140, 24⟩] ⟨137, 8, 137, 14⟩ ⟨137, 4, 140, 24⟩,
  .assign "_law_some" (.list [.str "" ⟨141, 17, 141, 19⟩, .str " " ⟨141, 21, 141, 24⟩, .str "begin" ⟨141, 26, 141, 33⟩, .str "do -" ⟨141, 35, 141, 41⟩, .str "do 00" ⟨141, 43, 141, 50⟩, .str "do -0" ⟨141, 52, 141, 59⟩, .str "hand 1 2" ⟨141, 61, 141, 71⟩, .str "Begin 1" ⟨141, 73, 141, 82⟩, .str "do  1" ⟨141, 84, 141, 91⟩, .str " do 1" ⟨141, 93, 141, 100⟩, .str "do 1 " ⟨141, 102, 141, 109⟩, .str "carry 1\n" ⟨141, 111, 141, 122⟩] ⟨141, 16, 141, 123⟩) ⟨141, 4, 141, 13⟩ ⟨141, 4, 141, 123⟩,
  .ret (.and [.call "_law_read_good" [.loc "_law_line" ⟨142, 26, 142, 35⟩] ⟨142, 11, 142, 25⟩ ⟨142, 11, 142, 36⟩, .call "_law_refused" [.sub (.loc "_law_some" ⟨142, 54, 142, 63⟩) (.bin .Mod (.call "_law_cell_at" [.loc "_law_script" ⟨142, 77, 142, 88⟩, .int 9 ⟨142, 90, 142, 91⟩] ⟨142, 64, 142, 76⟩ ⟨142, 64, 142, 92⟩) (.int 12 ⟨142, 95, 142, 97⟩) ⟨142, 64, 142, 97⟩) ⟨142, 54, 142, 98⟩] ⟨142, 41, 142, 53⟩ ⟨142, 41, 142, 99⟩] ⟨142, 11, 142, 99⟩) ⟨142, 4, 142, 99⟩]
noncomputable def p_law : List String := ["_law_script"]
noncomputable def sg : Sig := { fns := ["_law_alike", "_law_cell_at", "_law_deed_of", "_law_number_by", "_law_number_good", "_law_read_good", "_law_refused", "_law_row_by", "_law_sign_by", "_law_text", "_law_turned", "_law_whole", "number_of", "read", "shown"], clss := [], attrs := [], meths := [], excs := ["Begun", "DebtError", "NoCompany", "NoHand", "NoPlace", "NoRow", "NoWork"], consts := [("FIGURES", .str (Str.ofString "0123456789")), ("MOST_FIGURES", .int 60), ("PARTS", .gd parts)] }
noncomputable def clsT : List (String × Addr) := []
noncomputable def excT : List (String × Addr) := [("Begun", 85), ("DebtError", 24), ("NoCompany", 37), ("NoHand", 49), ("NoPlace", 73), ("NoRow", 97), ("NoWork", 61)]
noncomputable def fnT : List (String × Addr) := [("shown", 105), ("number_of", 112), ("read", 117), ("_law_cell_at", 124), ("_law_whole", 131), ("_law_alike", 138), ("_law_text", 145), ("_law_number_by", 152), ("_law_row_by", 157), ("_law_sign_by", 164), ("_law_turned", 171), ("_law_number_good", 176), ("_law_deed_of", 181), ("_law_refused", 188), ("_law_read_good", 195), ("law", 200)]
noncomputable abbrev ctx (w : World) (base : Heap) : Ctx := ctxOf Challenge.rw_uf040019_13.row.prog w (Kq w.params) base clsT excT fnT
theorem chk (P : Params) : chkGood (Kq P) sg clsT excT fnT = true := by kernel_rfl
section
variable {w : World} {base : Heap} {p : Program} {loose : List Str} {mg mb : Str → Option Value}
theorem gdq (X : (Kq w.params).In base) : ∀ x kvs, sg.consts.lookup x = some (.gd kvs) → GdOk Challenge.rw_uf040019_13.row.prog w (Kq w.params) base x kvs := by
  intro x kvs h
  have hm := lookup_mem h
  simp only [sg, List.mem_cons, Prod.mk.injEq, List.not_mem_nil, or_false, reduceCtorEq, and_false, false_or, V.gd.injEq] at hm
  obtain ⟨rfl, rfl⟩ := hm
  exact gd_of (a := 100) (es := [⟨PyData.keyHash w.params (Str.ofString "begin"), .str (Str.ofString "begin") 309, .int 1 310⟩, ⟨PyData.keyHash w.params (Str.ofString "do"), .str (Str.ofString "do") 311, .int 1 312⟩, ⟨PyData.keyHash w.params (Str.ofString "hand"), .str (Str.ofString "hand") 313, .int 3 314⟩, ⟨PyData.keyHash w.params (Str.ofString "carry"), .str (Str.ofString "carry") 315, .int 1 316⟩]) (ep := 4) X (by kernel_rfl) (by kernel_rfl) (.cons (.cons (.cons (.cons .nil)))) (by decide) (by decide)
theorem good (X : (Kq w.params).In base) (T : TopRead p loose mg mb base) : Good (ctx w base) sg := good_of X T (chk w.params) (gdq X)
theorem d_shown (X : (Kq w.params).In base) (T : TopRead p loose mg mb base) : Def (ctx w base) sg "shown" p_shown b_shown := def_of (fa := 105) X T.nolimit rfl (by kernel_rfl) (by kernel_rfl) (by kernel_rfl) (len1 fun a0 => by kernel_rfl)
theorem d_number_of (X : (Kq w.params).In base) (T : TopRead p loose mg mb base) : Def (ctx w base) sg "number_of" p_number_of b_number_of := def_of (fa := 112) X T.nolimit rfl (by kernel_rfl) (by kernel_rfl) (by kernel_rfl) (len1 fun a0 => by kernel_rfl)
theorem d_read (X : (Kq w.params).In base) (T : TopRead p loose mg mb base) : Def (ctx w base) sg "read" p_read b_read := def_of (fa := 117) X T.nolimit rfl (by kernel_rfl) (by kernel_rfl) (by kernel_rfl) (len1 fun a0 => by kernel_rfl)
theorem d__law_cell_at (X : (Kq w.params).In base) (T : TopRead p loose mg mb base) : Def (ctx w base) sg "_law_cell_at" p__law_cell_at b__law_cell_at := def_of (fa := 124) X T.nolimit rfl (by kernel_rfl) (by kernel_rfl) (by kernel_rfl) (len2 fun a0 a1 => by kernel_rfl)
theorem d__law_whole (X : (Kq w.params).In base) (T : TopRead p loose mg mb base) : Def (ctx w base) sg "_law_whole" p__law_whole b__law_whole := def_of (fa := 131) X T.nolimit rfl (by kernel_rfl) (by kernel_rfl) (by kernel_rfl) (len1 fun a0 => by kernel_rfl)
theorem d__law_alike (X : (Kq w.params).In base) (T : TopRead p loose mg mb base) : Def (ctx w base) sg "_law_alike" p__law_alike b__law_alike := def_of (fa := 138) X T.nolimit rfl (by kernel_rfl) (by kernel_rfl) (by kernel_rfl) (len2 fun a0 a1 => by kernel_rfl)
theorem d__law_text (X : (Kq w.params).In base) (T : TopRead p loose mg mb base) : Def (ctx w base) sg "_law_text" p__law_text b__law_text := def_of (fa := 145) X T.nolimit rfl (by kernel_rfl) (by kernel_rfl) (by kernel_rfl) (len1 fun a0 => by kernel_rfl)
theorem d__law_number_by (X : (Kq w.params).In base) (T : TopRead p loose mg mb base) : Def (ctx w base) sg "_law_number_by" p__law_number_by b__law_number_by := def_of (fa := 152) X T.nolimit rfl (by kernel_rfl) (by kernel_rfl) (by kernel_rfl) (len1 fun a0 => by kernel_rfl)
theorem d__law_row_by (X : (Kq w.params).In base) (T : TopRead p loose mg mb base) : Def (ctx w base) sg "_law_row_by" p__law_row_by b__law_row_by := def_of (fa := 157) X T.nolimit rfl (by kernel_rfl) (by kernel_rfl) (by kernel_rfl) (len1 fun a0 => by kernel_rfl)
theorem d__law_sign_by (X : (Kq w.params).In base) (T : TopRead p loose mg mb base) : Def (ctx w base) sg "_law_sign_by" p__law_sign_by b__law_sign_by := def_of (fa := 164) X T.nolimit rfl (by kernel_rfl) (by kernel_rfl) (by kernel_rfl) (len1 fun a0 => by kernel_rfl)
theorem d__law_turned (X : (Kq w.params).In base) (T : TopRead p loose mg mb base) : Def (ctx w base) sg "_law_turned" p__law_turned b__law_turned := def_of (fa := 171) X T.nolimit rfl (by kernel_rfl) (by kernel_rfl) (by kernel_rfl) (len3 fun a0 a1 a2 => by kernel_rfl)
theorem d__law_number_good (X : (Kq w.params).In base) (T : TopRead p loose mg mb base) : Def (ctx w base) sg "_law_number_good" p__law_number_good b__law_number_good := def_of (fa := 176) X T.nolimit rfl (by kernel_rfl) (by kernel_rfl) (by kernel_rfl) (len1 fun a0 => by kernel_rfl)
theorem d__law_deed_of (X : (Kq w.params).In base) (T : TopRead p loose mg mb base) : Def (ctx w base) sg "_law_deed_of" p__law_deed_of b__law_deed_of := def_of (fa := 181) X T.nolimit rfl (by kernel_rfl) (by kernel_rfl) (by kernel_rfl) (len1 fun a0 => by kernel_rfl)
theorem d__law_refused (X : (Kq w.params).In base) (T : TopRead p loose mg mb base) : Def (ctx w base) sg "_law_refused" p__law_refused b__law_refused := def_of (fa := 188) X T.nolimit rfl (by kernel_rfl) (by kernel_rfl) (by kernel_rfl) (len1 fun a0 => by kernel_rfl)
theorem d__law_read_good (X : (Kq w.params).In base) (T : TopRead p loose mg mb base) : Def (ctx w base) sg "_law_read_good" p__law_read_good b__law_read_good := def_of (fa := 195) X T.nolimit rfl (by kernel_rfl) (by kernel_rfl) (by kernel_rfl) (len1 fun a0 => by kernel_rfl)
theorem d_law (X : (Kq w.params).In base) (T : TopRead p loose mg mb base) : Def (ctx w base) sg "law" p_law b_law := def_of (fa := 200) X T.nolimit rfl (by kernel_rfl) (by kernel_rfl) (by kernel_rfl) (len1 fun a0 => by kernel_rfl)
end
end Mine

namespace Mine
open PySem
set_option hygiene false
local macro_rules | `(tactic| walk_at "w") => do
  let f := fun (s : String) (k : Lean.Ident → Lean.TSyntax `tactic) => (s.splitOn " ").toArray.map fun s => k (Lean.mkIdent s.toName)
  let g := fun (l : Array Lean.Term) (s : Lean.Ident) => (⟨Lean.mkNode `Lean.Parser.Tactic.refine #[Lean.mkAtom "refine", (Lean.Syntax.mkApp s l).raw]⟩ : Lean.TSyntax `tactic)
  let h ← `(?_)
  `(tactic| first | (with_reducible first $[| $(f "e_here k_es1 k_es k_cons k_sub k_cmp k_bin k_asg k_if k_call k_own k_tup k_list k_bltn k_next k_expr k_not k_and k_or k_neg k_retf k_rets k_sqr k_rW k_ite k_si1 k_si2 k_sa k_if1 k_c2a k_c2b k_c2c k_slL1 k_slL k_slU1 k_slU e_int e_bool e_none e_str e_bin e_neg e_not e_and e_or a_one a_cons o_one o_cons e_cmp e_cmp2 e_attr e_sub e_sliceL e_sliceU e_tup e_list e_call e_new e_bltn e_isi e_meth es_nil es_cons tr_in br_t br_f br_nt br_nf int_in add_i sub_i eq_i ne_i lt_i le_i gt_i ge_i len_t len_f s_nil s_expr s_assign s_setattr s_setitem s_if s_ite s_ret fq_ret fq_next sq_next sq_ret str_s notin_s notin_g rfind_s" (g #[h]) ++ f "e_loc br_dt br_df br_ndt br_ndf" (g #[(← `(by assumption)), h])):tactic]*) | ((with_reducible apply e_loc); · exact rfl) | ((with_reducible apply e_loc); · assumption) | ((with_reducible apply e_glob); · exact rfl) | ((with_reducible apply len_l); · assumption) | ((with_reducible apply list_l); · assumption) | ((with_reducible refine e_skip ?_ ?_); · decide) | ((with_reducible refine e_cap ?_ ?_); · decide) | ((with_reducible apply isi_t); · exact rfl) | ((with_reducible apply isi_f); · exact rfl) | ((with_reducible apply getA_in); (· assumption); (· assumption); · exact rfl))
local macro_rules | `(tactic| walk_at "ww") => `(tactic| repeat walk_at "w")
local macro_rules | `(tactic| walk_at "ro") => `(tactic| first | exact loc_here | assumption | (refine loc_skip (by decide) ?_; walk_at "ro"))
local macro_rules | `(tactic| walk_at "x") => `(tactic| first | walk_at "w" | ((with_reducible refine mod_i ?_ ?_); · decide) | ((with_reducible refine div_i ?_ ?_ ?_); (· decide); · decide) | ((with_reducible apply sub_t); · exact rfl) | ((with_reducible apply sub_l); (· assumption); · exact rfl) | ((with_reducible apply meth_lst); (· assumption); · simp) | ((with_reducible apply meth_str); · simp))
local macro_rules | `(tactic| walk_at "xx") => `(tactic| repeat walk_at "x")
set_option hygiene true
set_option autoImplicit false

set_option linter.unusedVariables false
set_option linter.unusedSimpArgs false
open PySem

structure Ad where
  c : Addr
  cd : Addr
  p : Addr
  w : Addr
  k : Addr
  t : Addr
  ps : Addr
  pd : Addr
  rl : Addr
  kn : Addr
noncomputable def Ad.list (a : Ad) : List Addr := [a.c, a.cd, a.p, a.w, a.k, a.t, a.ps, a.pd, a.rl, a.kn]
structure Co where
  P : List Int
  W : List Int
  K : List (Option Int)
  T : List Int
  go : Bool
  kn : List V
  rl : List V
noncomputable def iL (l : List Int) : List V := l.map .int
noncomputable def oV : Option Int → V
  | none => .none
  | some i => .int i
noncomputable def oL (l : List (Option Int)) : List V := l.map oV
noncomputable def atts (a : Ad) (go : Bool) : List (String × V) := [("pieces", .ref a.p), ("waits", .ref a.w), ("wakers", .ref a.k), ("tallies", .ref a.t), ("post", .ref a.ps), ("going", .bool go), ("known", .ref a.kn)]
structure Comp (μ : Mem) (a : Ad) (C : Co) : Prop where
  nd : a.list.Nodup
  c : μ a.c = some (.inst "Company" a.cd)
  cd : μ a.cd = some (.attrs (atts a C.go))
  p : μ a.p = some (.list (iL C.P))
  w : μ a.w = some (.list (iL C.W))
  k : μ a.k = some (.list (oL C.K))
  t : μ a.t = some (.list (iL C.T))
  ps : μ a.ps = some (.inst "Post" a.pd)
  pd : μ a.pd = some (.attrs [("rows", .ref a.rl)])
  rl : μ a.rl = some (.list C.rl)
  kn : μ a.kn = some (.list C.kn)
noncomputable def Off (l : List Addr) (μ μ' : Mem) : Prop := ∀ b o, μ b = some o → b ∉ l → μ' b = some o
theorem Off.refl (l : List Addr) (μ : Mem) : Off l μ μ := fun _ _ h _ => h
theorem Off.trans {l : List Addr} {μ₁ μ₂ μ₃ : Mem} (x : Off l μ₁ μ₂) (y : Off l μ₂ μ₃) : Off l μ₁ μ₃ := fun b o h n => y b o (x b o h n) n
theorem Off.new {l : List Addr} {μ : Mem} {n : Addr} (h : μ n = none) (o : O) : Off l μ (updM μ n o) := fun b o' hb _ => by
  rw [updM_ne fun q => by rw [q, h] at hb; cases hb]; exact hb
theorem Off.none {l : List Addr} {μ : Mem} {n : Addr} (h : μ n = none) (o : O) {b : Addr} {o' : O} (hb : μ b = some o') : updM μ n o b = some o' := by
  rw [updM_ne fun q => by rw [q, h] at hb; cases hb]; exact hb
theorem Comp.mono {μ μ' : Mem} {a : Ad} {C : Co} (h : Comp μ a C) (k : ∀ b o, μ b = some o → b ∈ a.list → μ' b = some o) : Comp μ' a C :=
  ⟨h.nd, k _ _ h.c (by simp [Ad.list]), k _ _ h.cd (by simp [Ad.list]), k _ _ h.p (by simp [Ad.list]), k _ _ h.w (by simp [Ad.list]), k _ _ h.k (by simp [Ad.list]), k _ _ h.t (by simp [Ad.list]), k _ _ h.ps (by simp [Ad.list]), k _ _ h.pd (by simp [Ad.list]), k _ _ h.rl (by simp [Ad.list]), k _ _ h.kn (by simp [Ad.list])⟩
theorem Comp.new {μ : Mem} {a : Ad} {C : Co} (h : Comp μ a C) {n : Addr} (hn : μ n = none) (o : O) : Comp (updM μ n o) a C := h.mono fun b o' hb _ => Off.none (l := []) hn o hb
theorem Comp.other {μ : Mem} {a : Ad} {C : Co} (h : Comp μ a C) {n : Addr} (hn : n ∉ a.list) (o : O) : Comp (updM μ n o) a C := h.mono fun b o' hb hm => by
  rw [updM_ne (fun q : b = n => hn (q ▸ hm))]; exact hb
section
variable {μ : Mem} {a : Ad} {C : Co}
end
noncomputable def Co.inB (C : Co) (i : Int) : Bool := if i = 0 then C.go else (C.K.getD i.toNat none).isSome
structure Co.Ok (C : Co) : Prop where
  w : C.W.length = C.P.length
  k : C.K.length = C.P.length
  t : C.T.length = C.P.length
  lo : 1 ≤ C.P.length
  hi : C.P.length ≤ 60
noncomputable def sV (s : String) : V := .str (Str.ofString s)
noncomputable def Co.settle (C : Co) (i : Int) : Co × List V :=
  if 0 < C.P.getD i.toNat 0 ∨ 0 < C.W.getD i.toNat 0 ∨ C.inB i = false then (C, [])
  else
    let t := C.T.getD i.toNat 0
    if i = 0 then ({ C with T := C.T.set i.toNat 0, go := false }, [.tup [sV "end", .int t]])
    else
      let row := V.tup [sV "answer", .int i, oV (C.K.getD i.toNat none), .int t]
      ({ C with T := C.T.set i.toNat 0, K := C.K.set i.toNat none, rl := C.rl ++ [row] }, [row])

set_option autoImplicit false

set_option linter.unusedVariables false
set_option linter.unusedSimpArgs false
open PySem

section
variable {c : Ctx} (G : Good c sg)
include G
variable {hd : Bool} {μ : Mem} {Q : V → Mem → Prop} {X : String → Mem → Prop} {a : Ad} {C : Co}

end

set_option autoImplicit false

set_option linter.unusedVariables false
set_option linter.unusedSimpArgs false
open PySem

section
variable {c : Ctx} (G : Good c sg)
include G
variable {hd : Bool} {μ : Mem} {Q : V → Mem → Prop} {X : String → Mem → Prop} {a : Ad} {C : Co}

/-- one piece done -/
noncomputable def Co.one (C : Co) (i : Int) : Co := { C with P := C.P.set i.toNat (C.P.getD i.toNat 0 - 1), T := C.T.set i.toNat (C.T.getD i.toNat 0 + 1) }
omit G in
theorem Co.Ok.one (ok : C.Ok) (i : Int) : (C.one i).Ok := ⟨by simp [Co.one, ok.w], by simp [Co.one, ok.k], by simp [Co.one, ok.t], by simp [Co.one, ok.lo], by simp [Co.one, ok.hi]⟩
noncomputable def Co.doit (C : Co) (i : Int) : Co := let s := (C.one i).settle i; { s.1 with kn := s.1.kn ++ s.2 }
omit G in
theorem Co.Ok.settle (ok : C.Ok) (i : Int) : (C.settle i).1.Ok := by
  obtain ⟨h1, h2, h3, h4, h5⟩ := ok
  unfold Co.settle; split
  · exact ⟨h1, h2, h3, h4, h5⟩
  · dsimp only; split
    · exact ⟨h1, h2, by simpa using h3, h4, h5⟩
    · exact ⟨h1, by simpa using h2, by simpa using h3, h4, h5⟩

end

set_option autoImplicit false

set_option linter.unusedVariables false
set_option linter.unusedSimpArgs false
open PySem

noncomputable def newCo (m : Int) : Co := ⟨List.replicate m.toNat 0, List.replicate m.toNat 0, List.replicate m.toNat none, List.replicate m.toNat 0, false, [], []⟩

section
variable {c : Ctx} (G : Good c sg)
include G
variable {hd : Bool} {μ : Mem} {Q : V → Mem → Prop} {X : String → Mem → Prop}

end

set_option autoImplicit false

set_option linter.unusedVariables false
set_option linter.unusedSimpArgs false
open PySem

/-- plain data, of some depth -/
noncomputable def plain : Nat → V → Bool
  | _, .none => true
  | _, .bool _ => true
  | _, .int _ => true
  | _, .str s => PyData.strOk s
  | n + 1, .tup l => l.all (plain n) && decide (l.length ≤ lim)
  | _, _ => false

theorem sub_f {ns : List Int} {i : Int} {μ : Mem} {Q : V → Mem → Prop} (h0 : 0 ≤ i) (h1 : i < ns.length) (h : Q (.int (ns.getD i.toNat 0)) μ) : subK Q (.frz ns) (.int i) μ := by
  unfold subK subO
  simp only [h0, if_true]
  rw [List.getElem?_eq_getElem (by omega)]
  rw [List.getD_eq_getElem?_getD, List.getElem?_eq_getElem (by omega)] at h
  exact h
theorem deq_str {s : Str} {μ : Mem} (h : PyData.strOk s = true) : deq μ (.str s) (.str s) = some true := by
  simp only [deq, rd, h, if_true]
  simp [PyData.eqv]
theorem deq_bool {b : Bool} {μ : Mem} : deq μ (.bool b) (.bool b) = some true := by
  cases b <;> rfl
section
variable {c : Ctx} (G : Good c sg)
include G
variable {hd : Bool} {μ : Mem} {Q : V → Mem → Prop} {X : String → Mem → Prop}

theorem cell_at_spec (D : Def c sg "_law_cell_at" p__law_cell_at b__law_cell_at) {ns : List Int} {k : Int} (h0 : 0 ≤ k) (h : Q (.int (ns.getD k.toNat 0)) μ) : SC c 1 hd "_law_cell_at" [.frz ns, .int k] μ Q X := by
  refine call_in G D rfl ?_
  unfold b__law_cell_at
  walk_at "ww"
  refine br_d (fun hk => ?_) (fun hk => ?_)
  · walk_at "ww"
    refine sub_f h0 hk ?_
    walk_at "ww"
    exact h
  · walk_at "ww"
    rw [List.getD_eq_getElem?_getD, List.getElem?_eq_none_iff.mpr (by omega)] at h
    exact h

theorem whole_spec (D : Def c sg "_law_whole" p__law_whole b__law_whole) {i : Int} (h : Q (.bool true) μ) : SC c 1 hd "_law_whole" [.int i] μ Q X := by
  refine call_in G D rfl ?_
  unfold b__law_whole
  walk_at "ww"
  exact h

end

set_option autoImplicit false

set_option linter.unusedVariables false
set_option linter.unusedSimpArgs false
open PySem

theorem idx_some {l : List V} {i : Int} (h0 : 0 ≤ i) (h1 : i < l.length) : ∃ v, idx l i = some v ∧ v ∈ l := by
  unfold idx
  rw [if_pos h0, List.getElem?_eq_getElem (by omega)]
  exact ⟨_, rfl, List.getElem_mem _⟩

section
variable {c : Ctx} (G : Good c sg)
include G
variable {μ : Mem} {Q : V → Mem → Prop} {X : String → Mem → Prop}

theorem alike_leaf (D1 : Def c sg "_law_whole" p__law_whole b__law_whole) (D : Def c sg "_law_alike" p__law_alike b__law_alike) {v : V} (hv : plain 0 v = true) (h : Q (.bool true) μ) : SC c 2 false "_law_alike" [v, v] μ Q X := by
  refine call_in G D rfl ?_
  unfold b__law_alike
  cases v with
  | none =>
    walk_at "ww"
    refine cmp_in (r := true) (by rfl) ?_
    walk_at "ww"
    refine cmp_in (r := true) (by rfl) ?_
    walk_at "ww"
    exact h
  | bool b =>
    walk_at "ww"
    refine cmp_in (r := false) (by rfl) ?_
    walk_at "ww"
    refine cmp_in (r := true) (deq_bool (μ := μ)) ?_
    walk_at "ww"
    exact h
  | int i =>
    walk_at "ww"
    refine cmp_in (r := false) (by rfl) ?_
    walk_at "ww"
    refine whole_spec G D1 ?_
    walk_at "ww"
    simpa using h
  | str s =>
    walk_at "ww"
    refine cmp_in (r := false) (by rfl) ?_
    walk_at "ww"
    refine cmp_in (r := true) (deq_str (by simpa [plain] using hv)) ?_
    walk_at "ww"
    exact h
  | tup l => cases hv
  | ref a => cases hv
  | rng a b s => cases hv
  | exc x => cases hv
  | frz ns => cases hv
  | gd _ => cases hv

theorem alike_tup (D1 : Def c sg "_law_whole" p__law_whole b__law_whole) (D : Def c sg "_law_alike" p__law_alike b__law_alike) {d : Nat} {l : List V} (hz : l.length ≤ lim) (ih : ∀ v ∈ l, ∀ {Q : V → Mem → Prop} {X : String → Mem → Prop}, Q (.bool true) μ → SC c d false "_law_alike" [v, v] μ Q X) (h : Q (.bool true) μ) : SC c (d + 1) false "_law_alike" [.tup l, .tup l] μ Q X := by
  refine call_in G D rfl ?_
  unfold b__law_alike
  walk_at "ww"
  refine cmp_in (r := false) (by rfl) ?_
  walk_at "ww"
  refine br_ndt rfl ?_
  refine s_for rfl ?_
  walk_at "ww"
  have hz' : (l.length : Int) ≤ 1048576 := Int.ofNat_le.mpr hz
  refine rng1 hz' (by omega) ?_
  refine for_rng (fun i ρ μ' => ρ "_law_found" = some (.tup l) ∧ ρ "_law_due" = some (.tup l) ∧ μ' = μ) ⟨by rfl, by rfl, rfl⟩ (fun i ρ μ' h0 h1 hi => ?_) (fun ρ μ' hi => ?_)
  · obtain ⟨r1, r2, rfl⟩ := hi
    obtain ⟨v, hv, hm⟩ := idx_some h0 h1
    walk_at "ww"
    refine sub_t hv ?_
    walk_at "ww"
    refine sub_t hv ?_
    walk_at "ww"
    refine ih v hm ?_
    walk_at "ww"
    exact ⟨by rw [updL_at, if_neg (by decide)]; exact r1, by rw [updL_at, if_neg (by decide)]; exact r2, rfl⟩
  · obtain ⟨r1, r2, rfl⟩ := hi
    walk_at "ww"
    exact h

theorem alike_plain (D1 : Def c sg "_law_whole" p__law_whole b__law_whole) (D : Def c sg "_law_alike" p__law_alike b__law_alike) : ∀ (n : Nat) {v : V} {Q : V → Mem → Prop} {X : String → Mem → Prop}, plain n v = true → Q (.bool true) μ → SC c (n + 2) false "_law_alike" [v, v] μ Q X
  | 0, v, Q, X, hv, h => alike_leaf G D1 D hv h
  | n + 1, v, Q, X, hv, h => by
    by_cases hl : plain 0 v = true
    · exact sc_up (alike_leaf G D1 D hl h) (by omega)
    · cases v with
      | tup l =>
        simp only [plain, Bool.and_eq_true, List.all_eq_true, decide_eq_true_eq] at hv
        exact alike_tup G D1 D hv.2 (fun v hm => alike_plain D1 D n (hv.1 v hm)) h
      | _ => first | exact (hl rfl).elim | exact (hl hv).elim | cases hv

end

set_option autoImplicit false

set_option maxHeartbeats 1000000
set_option linter.unusedVariables false
open PySem

/-! Texts of plain signs, the words of a line, and what a number's word is. -/
noncomputable def asc (x : Str) : Bool := x.cps.all (· < 128)
theorem asc_iff {x : Str} : asc x = true ↔ ∀ c ∈ x.cps.toList, c < 128 := by
  unfold asc
  rw [← Array.all_toList, List.all_eq_true]
  simp only [decide_eq_true_eq]
theorem asc_ok {x : Str} (h : asc x = true) : PyData.strOk x = true := by
  unfold PyData.strOk
  rw [← Array.all_toList, List.all_eq_true]
  intro c hc
  have := asc_iff.mp h c hc
  exact decide_eq_true (by omega)
theorem asc_app {x y : Str} (hx : asc x = true) (hy : asc y = true) : asc (x ++ y) = true := by
  rw [asc_iff]
  intro c hc
  have : (x ++ y).cps = x.cps ++ y.cps := rfl
  rw [this, Array.toList_append, List.mem_append] at hc
  exact hc.elim (asc_iff.mp hx c) (asc_iff.mp hy c)
theorem asc_slice {x : Str} {lo hi : Option Int} (hx : asc x = true) : asc (Txt.slice x lo hi) = true := by
  unfold Txt.slice
  split
  · exact hx
  · rw [asc_iff]
    intro c hc
    simp only [List.mem_filterMap] at hc
    obtain ⟨i, _, hi⟩ := hc
    rw [← Array.getElem?_toList] at hi
    exact asc_iff.mp hx c (List.mem_of_getElem? hi)
theorem asc_item {x : Str} {i : Int} (hx : asc x = true) : asc (Txt.item x i) = true := by
  rw [asc_iff]
  intro c hc
  unfold Txt.item at hc
  simp only [List.mem_cons, List.not_mem_nil, or_false] at hc
  subst hc
  unfold Txt.charAt
  cases h : (seqIndex? i x.length).bind (x.cps[·]?) with
  | none => decide
  | some c =>
    obtain ⟨j, _, hj⟩ := Option.bind_eq_some_iff.mp h
    rw [← Array.getElem?_toList] at hj
    exact asc_iff.mp hx c (List.mem_of_getElem? hj)
theorem len_app (x y : Str) : (x ++ y).length = x.length + y.length := Str.length_append x y

noncomputable def sp : Str := Str.ofString " "
theorem sp_len : sp.length = 1 := by decide +kernel
theorem join_len (sep : Str) : ∀ (r : List Str) (p : Str), r.length * sep.length ≤ (Str.join sep (p :: r)).length
  | [], p => by simp
  | q :: r, p => by
    have ih := join_len sep r q
    show _ ≤ (p ++ sep ++ Str.join sep (q :: r)).length
    rw [Str.length_append, Str.length_append, List.length_cons, Nat.succ_mul]
    omega
theorem sub_mem {x : Str} {i j c : Nat} (h : c ∈ (Builtin.Str.strSub x i j).cps.toList) : c ∈ x.cps.toList := by
  unfold Builtin.Str.strSub at h
  simp only [Array.toList_extract, List.extract] at h
  exact List.mem_of_mem_drop (List.mem_of_mem_take h)
theorem sub_le {x : Str} {i j : Nat} : (Builtin.Str.strSub x i j).length ≤ x.length := by
  show (x.cps.extract i j).size ≤ x.cps.size
  rw [Array.size_extract]; omega
/-- the words of a line -/
noncomputable def words (x : Str) : List Str := Txt.split x sp
theorem words_spec (x : Str) : words x ≠ [] ∧ (words x).length ≤ x.length + 1 ∧ ∀ p ∈ words x, p.length ≤ x.length ∧ (asc x = true → asc p = true) := by
  unfold words Txt.split
  split
  · exact ⟨by simp, by simp, fun p hp => by rw [List.mem_singleton.mp hp]; exact ⟨Nat.le_refl _, id⟩⟩
  · split
    · exact ⟨by simp, by simp, fun p hp => by rw [List.mem_singleton.mp hp]; exact ⟨Nat.le_refl _, id⟩⟩
    · generalize hc : Builtin.Str.occurrences x sp 0 x.length (x.length + 1) = cuts
      have hg := PySem.StrLaws.glued_between_self x sp (x.length + 1)
      rw [hc] at hg
      have hl := length_partsBetween x cuts sp.length
      refine ⟨fun q => by rw [q] at hl; simp at hl, ?_, fun p hp => ?_⟩
      · rw [StrLaws.glued_eq_join] at hg
        cases hq : Builtin.Str.partsBetween x cuts sp.length with
        | nil => simp
        | cons p r =>
          rw [hq] at hg
          have := join_len sp r p
          rw [hg, sp_len] at this
          rw [List.length_cons]; omega
      · unfold Builtin.Str.partsBetween at hp
        obtain ⟨⟨i, j⟩, _, rfl⟩ := List.mem_map.mp hp
        exact ⟨sub_le, fun h => asc_iff.mpr fun c hc => asc_iff.mp h c (sub_mem hc)⟩

set_option autoImplicit false

set_option maxHeartbeats 1000000
set_option linter.unusedVariables false
open PySem

theorem str_ext {x y : Str} (h : x.cps.toList = y.cps.toList) : x = y := by
  obtain ⟨a⟩ := x; obtain ⟨b⟩ := y
  exact congrArg Str.mk (Array.toList_inj.mp h)
theorem head_slice {w : Str} (h : Txt.slice w none (some 1) = Str.ofString "-") : ∃ r, w.cps.toList = 45 :: r ∧ Txt.slice w (some 1) none = ⟨r.toArray⟩ := by
  cases q : w.cps.toList with
  | nil =>
    have : w = ⟨#[]⟩ := str_ext q
    subst this
    exact absurd h (by decide +kernel)
  | cons c r =>
    have e1 : Txt.slice w none (some 1) = _ := StrLaws.sliceText_to (x := w) (j := 1) ⟨by omega, by rw [q, List.length_cons]; omega⟩
    have e2 : Txt.slice w (some 1) none = _ := StrLaws.sliceText_from (x := w) (i := 1) ⟨by omega, by rw [q, List.length_cons]; omega⟩
    rw [q] at e1 e2
    rw [e1] at h
    have hc : c = 45 := by
      have := congrArg (fun x : Str => x.cps.toList) h
      have e3 : (Str.ofString "-").cps.toList = [45] := by decide +kernel
      simp only [e3] at this
      simpa using this
    refine ⟨r, by rw [hc], ?_⟩
    rw [e2]
    congr 2
    show ((c :: r).drop 1).take _ = r
    rw [List.drop_succ_cons, List.drop_zero, List.take_of_length_le]
    rw [List.length_cons]; omega

noncomputable def fg : Str := Str.ofString "0123456789"
noncomputable def fig (c : Nat) : Bool := Txt.contains fg ⟨#[c]⟩
theorem fig_small : ∀ c : Fin 128, fig c = decide (48 ≤ c.val ∧ c.val ≤ 57) := by decide +kernel
theorem fig_iff {c : Nat} (h : c < 128) : fig c = true ↔ 48 ≤ c ∧ c ≤ 57 := by
  rw [show fig c = _ from fig_small ⟨c, h⟩]
  exact decide_eq_true_iff
noncomputable def z0 : Str := Str.ofString "0"
noncomputable def mz : Str := Str.ofString "-0"
noncomputable def figs (w : Str) : Str := if Txt.slice w none (some 1) = Str.ofString "-" then Txt.slice w (some 1) none else w
noncomputable def allFig (f : Str) : Bool := f.cps.toList.all fig
noncomputable def bad1 (w : Str) : Bool := decide (figs w = Str.ofString "") || (decide (60 < (figs w).length) || (decide (w = mz) || (decide (Txt.item (figs w) 0 = z0) && !decide (figs w = z0))))
noncomputable def ok1 (w : Str) : Bool := !bad1 w && allFig (figs w)
noncomputable def goodW (w : Str) : Bool := !(decide ((figs w).length < 1) || decide (60 < (figs w).length)) && (allFig (figs w) && (!decide (Txt.item (figs w) 0 = z0) || decide (w = z0)))
theorem figs_asc {w : Str} (h : asc w = true) : asc (figs w) = true := by
  unfold figs; split
  · exact asc_slice h
  · exact h
theorem figs_le (w : Str) : (figs w).length ≤ w.length := by
  unfold figs; split
  · exact Txt.slice_le w _ _
  · exact Nat.le_refl _
theorem figs_mz : figs mz = z0 := by decide +kernel
theorem figs_z : figs z0 = z0 := by decide +kernel
theorem item_z : Txt.item z0 0 = z0 := by decide +kernel
theorem z_mz : z0 ≠ mz := by decide +kernel
theorem len_nil {f : Str} : f = Str.ofString "" ↔ f.length < 1 := by
  constructor
  · intro h; rw [h]; decide +kernel
  · intro h
    refine str_ext ?_
    have e : f.cps.toList.length = f.length := Array.length_toList
    rw [List.eq_nil_of_length_eq_zero (l := f.cps.toList) (by omega)]
    decide +kernel
theorem back_z {w : Str} (h : figs w = z0) : w = z0 ∨ w = mz := by
  unfold figs at h
  split at h
  · rename_i q
    obtain ⟨r, e1, e2⟩ := head_slice q
    rw [e2] at h
    right
    refine str_ext ?_
    have e3 : r = z0.cps.toList := by rw [← h]
    rw [e1, e3]
    decide +kernel
  · exact .inl h
theorem ok1_good (w : Str) : ok1 w = goodW w := by
  unfold ok1 bad1 goodW
  by_cases h1 : (figs w).length < 1
  · rw [decide_eq_true h1, decide_eq_true (len_nil.mpr h1)]; rfl
  rw [decide_eq_false h1, decide_eq_false (fun q => h1 (len_nil.mp q)), Bool.false_or, Bool.false_or]
  by_cases h2 : 60 < (figs w).length
  · rw [decide_eq_true h2]; rfl
  rw [decide_eq_false h2, Bool.false_or]
  by_cases h3 : Txt.item (figs w) 0 = z0
  · rw [decide_eq_true h3]
    by_cases h4 : w = z0
    · rw [decide_eq_true h4, h4, decide_eq_false z_mz, decide_eq_true figs_z]; simp
    · rw [decide_eq_false h4]
      by_cases h5 : figs w = z0
      · rcases back_z h5 with q | q
        · exact absurd q h4
        · rw [decide_eq_true q]; simp
      · rw [decide_eq_false h5]; simp
  · have h6 : w ≠ mz := fun q => h3 (by rw [q, figs_mz, item_z])
    rw [decide_eq_false h3, decide_eq_false h6]; simp
theorem good_int {w : Str} (ha : asc w = true) (h : goodW w = true) : w.length ≤ 640 ∧ ∃ n, intText? w = some n := by
  unfold goodW at h
  simp only [Bool.and_eq_true, Bool.not_eq_true', Bool.or_eq_false_iff, decide_eq_false_iff_not] at h
  obtain ⟨⟨h1, h2⟩, h3, _⟩ := h
  have hd : NumText.AllDigits (figs w).cps.toList := fun c hc => (fig_iff (asc_iff.mp (figs_asc ha) c hc)).mp (List.all_eq_true.mp h3 c hc)
  have hn : (figs w).cps.toList ≠ [] := fun q => h1 (by
    have e : (figs w).cps.toList.length = (figs w).length := Array.length_toList
    rw [q] at e; simp at e; omega)
  unfold figs at hd hn h1 h2
  split at hd
  · rename_i q
    rw [if_pos q] at hn h2
    obtain ⟨r, e1, e2⟩ := head_slice q
    rw [e2] at hd hn h2
    have hl : w.length = r.length + 1 := by
      have e : w.cps.toList.length = w.length := Array.length_toList
      rw [e1, List.length_cons] at e; exact e.symm
    have hr : r.length ≤ 60 := by have : (⟨r.toArray⟩ : Str).length = r.length := by show r.toArray.size = _; simp
                                  omega
    exact ⟨by omega, _, intText_neg e1 (by simpa using hd) (by simpa using hn) (by omega)⟩
  · rename_i q
    rw [if_neg q] at hn h2
    exact ⟨by omega, _, intText_digits hd hn (by omega)⟩

set_option autoImplicit false

set_option maxHeartbeats 2000000
set_option maxRecDepth 4000
set_option linter.unusedVariables false
set_option linter.unusedSimpArgs false
open PySem

noncomputable def Ext (μ μ' : Mem) : Prop := ∀ b o, μ b = some o → μ' b = some o
theorem Ext.refl (μ : Mem) : Ext μ μ := fun _ _ h => h
theorem Ext.trans {μ₁ μ₂ μ₃ : Mem} (x : Ext μ₁ μ₂) (y : Ext μ₂ μ₃) : Ext μ₁ μ₃ := fun b o h => y b o (x b o h)
theorem Ext.new {μ : Mem} {n : Addr} {o : O} (h : μ n = none) : Ext μ (updM μ n o) := fun b q hb => by
  unfold updM
  split
  · rename_i e; rw [e, h] at hb; cases hb
  · exact hb
theorem nb {b : Bool} (e : (!b) = true) : b = false := by simpa using e
theorem nb' {b : Bool} (e : (!b) = false) : b = true := by simpa using e
noncomputable def nf (v : V) : Option V := match v with | .str x => if Txt.contains fg x then none else some (.str x) | _ => none
noncomputable def noFig (f : Str) : List V := (f.cps.toList.map fun c => V.str ⟨#[c]⟩).filterMap nf
noncomputable def leafy (v : V) : Prop := (∃ i, v = .int i) ∨ ∃ x, v = .str x ∧ PyData.strOk x = true
theorem rdAll_leafy {μ : Mem} : ∀ l : List V, (∀ v ∈ l, leafy v) → ∃ ds, rdAll (rd μ 7) l = some ds ∧ (l = [] ↔ ds = [])
  | [], _ => ⟨[], rfl, by simp⟩
  | v :: l, h => by
    obtain ⟨ds, e, _⟩ := rdAll_leafy l fun w hw => h w (.tail _ hw)
    rcases h v (.head _) with ⟨i, rfl⟩ | ⟨x, rfl, hx⟩
    · exact ⟨.int i :: ds, by unfold rdAll; rw [e]; rfl, by simp⟩
    · exact ⟨.str x :: ds, by unfold rdAll; rw [e, show rd μ 7 (.str x) = some (.str x) from if_pos hx], by simp⟩
theorem deq_nil {μ : Mem} {n m : Addr} {l : List V} (hn : μ n = some (.list l)) (hm : μ m = some (.list [])) (hp : ∀ v ∈ l, leafy v) : deq μ (.ref n) (.ref m) = some (decide (l = [])) := by
  obtain ⟨ds, e, hd⟩ := rdAll_leafy (μ := μ) l hp
  have e1 : rd μ 8 (.ref n) = some (.list ds) := by
    show (match μ n with | some (.list l) => (rdAll (rd μ 7) l).map PyData.list | _ => none) = _
    rw [hn]; simp only [e, Option.map_some]
  have e2 : rd μ 8 (.ref m) = some (.list []) := by
    show (match μ m with | some (.list l) => (rdAll (rd μ 7) l).map PyData.list | _ => none) = _
    rw [hm]; rfl
  show (match rd μ 8 (.ref n), rd μ 8 (.ref m) with | some x, some y => some (PyData.eqv x y) | _, _ => none) = _
  rw [e1, e2]
  cases ds with
  | nil => rw [decide_eq_true (hd.mpr rfl)]; rfl
  | cons d ds => rw [decide_eq_false fun q => by cases hd.mp q]; rfl
theorem ne_nil {μ : Mem} {Q : V → Mem → Prop} {n m : Addr} {l : List V} (hn : μ n = some (.list l)) (hm : μ m = some (.list [])) (hp : ∀ v ∈ l, leafy v) (h : Q (.bool (!decide (l = []))) μ) : cmpK Q .NotEq (.ref n) (.ref m) μ := by
  unfold cmpK cmpW cmpO; simp only [deq_nil hn hm hp, Option.map_some]; exact h
theorem eq_nil {μ : Mem} {Q : V → Mem → Prop} {n m : Addr} {l : List V} (hn : μ n = some (.list l)) (hm : μ m = some (.list [])) (hp : ∀ v ∈ l, leafy v) (h : Q (.bool (decide (l = []))) μ) : cmpK Q .Eq (.ref n) (.ref m) μ := by
  unfold cmpK cmpW cmpO; simp only [deq_nil hn hm hp]; exact h
section
variable {c : Ctx} (G : Good c sg)
include G
variable {μ : Mem} {Q : V → Mem → Prop} {X : String → Mem → Prop}

theorem number_of_spec (D : Def c sg "number_of" p_number_of b_number_of) {w : Str} (ha : asc w = true) (hl : w.length ≤ 2000) (hg : ∀ n, intText? w = some n → goodW w = true → Q (.int n) μ) (hb : goodW w = false → X "NoRow" μ) : SC c 1 false "number_of" [.str w] μ Q X := by
  have hw : PyData.strOk w = true := asc_ok ha
  have hf := figs_asc ha
  have hf' : PyData.strOk (figs w) = true := asc_ok hf
  have hfl : (figs w).length ≤ lim := Nat.le_trans (figs_le w) (by show w.length ≤ 1048576; omega)
  have hX : ok1 w = false → X "NoRow" μ := fun e => hb (by rw [← ok1_good]; exact e)
  have ze : PyData.strOk (Str.ofString "") = true := by decide +kernel
  have z1 : PyData.strOk (Str.ofString "-0") = true := by decide +kernel
  have z2 : PyData.strOk (Str.ofString "0") = true := by decide +kernel
  have z3 : PyData.strOk (Str.ofString "-") = true := by decide +kernel
  have hx : bad1 w = true → X "NoRow" μ := fun e => hX (by unfold ok1; rw [e]; rfl)
  have loop : bad1 w = false → ∀ {ρ : Loc}, ρ "word" = some (.str w) → ρ "figures" = some (.str (figs w)) → wpSs sg (SC c 0) false (b_number_of.drop 3) ρ μ (fq Q) (fx X) := by
    intro hb1 ρ r1 r2
    simp only [b_number_of, List.drop]
    refine s_for rfl ?_
    walk_at "xx"
    refine for_in (items := (figs w).cps.toList.map fun c => V.str ⟨#[c]⟩) (by unfold itemsOf; exact if_pos hf) (fun k ρ' μ' => μ' = μ ∧ ρ' "word" = some (.str w) ∧ ∀ ch ∈ (figs w).cps.toList.take k, fig ch = true) ⟨rfl, r1, fun ch h => by simp at h⟩ (fun k ρ' μ' h => by unfold itemsOf; exact if_pos hf) (fun k v ρ' μ' hk h => ?_) (fun ρ' μ' h => ?_)
    · obtain ⟨rfl, h1, h2⟩ := h
      rw [List.getElem?_map] at hk
      obtain ⟨ch, hch, rfl⟩ := Option.map_eq_some_iff.mp hk
      walk_at "xx"
      refine ⟨fun e => ?_, fun e => ?_⟩
      · refine s_raise rfl (hX ?_)
        unfold ok1 allFig
        rw [Bool.and_eq_false_iff]
        right
        rw [List.all_eq_false]
        exact ⟨ch, List.mem_of_getElem? hch, fun q => by
          have q' : Txt.contains (Str.ofString "0123456789") ⟨#[ch]⟩ = true := q
          rw [q'] at e; cases e⟩
      · walk_at "xx"
        refine ⟨rfl, by walk_at "ro", fun d hd => ?_⟩
        rw [List.take_add_one, hch] at hd
        rcases List.mem_append.mp hd with hd | hd
        · exact h2 d hd
        · have : d = ch := by simpa using hd
          subst this
          have q' : Txt.contains (Str.ofString "0123456789") ⟨#[d]⟩ = true := by simpa using e
          exact q'
    · obtain ⟨rfl, h1, h2⟩ := h
      have hok : goodW w = true := by
        rw [← ok1_good]
        unfold ok1 allFig
        rw [hb1, List.all_eq_true.mpr]
        · rfl
        · intro d hd
          exact h2 d (by rw [List.length_map, List.take_length]; exact hd)
      obtain ⟨l1, n, hn⟩ := good_int ha hok
      walk_at "xx"
      refine int_s l1 hn ?_
      walk_at "xx"
      exact hg n hn hok
  have rest : ∀ {ρ : Loc}, ρ "word" = some (.str w) → ρ "figures" = some (.str (figs w)) → wpSs sg (SC c 0) false (b_number_of.drop 2) ρ μ (fq Q) (fx X) := by
    intro ρ r1 r2
    simp only [b_number_of, List.drop] at loop ⊢
    walk_at "xx"
    refine eq_s hf' ze ?_
    walk_at "xx"
    refine br_d (fun q1 => ?_) (fun q1 => ?_)
    · walk_at "xx"
      refine s_raise rfl (hx ?_)
      unfold bad1; rw [decide_eq_true q1]; rfl
    have q1' : 0 < (figs w).length := Nat.lt_of_not_le fun q => q1 (len_nil.mpr (by omega))
    walk_at "xx"
    refine len_s hfl ?_
    walk_at "xx"
    refine br_d (fun q2 => ?_) (fun q2 => ?_)
    · walk_at "xx"
      refine s_raise rfl (hx ?_)
      unfold bad1; rw [decide_eq_true (p := 60 < (figs w).length) (by omega)]; simp
    walk_at "xx"
    refine eq_s hw z1 ?_
    walk_at "xx"
    refine br_d (fun q3 => ?_) (fun q3 => ?_)
    · walk_at "xx"
      refine s_raise rfl (hx ?_)
      unfold bad1; rw [decide_eq_true (show w = mz from q3)]; simp
    walk_at "xx"
    refine sub_s ⟨by omega, by omega, hfl⟩ ?_
    walk_at "xx"
    refine eq_s (asc_ok (asc_item hf)) z2 ?_
    walk_at "xx"
    have fin : (Txt.item (figs w) 0 = z0 → figs w = z0) → bad1 w = false := fun q => by
      unfold bad1
      rw [decide_eq_false q1, decide_eq_false (p := 60 < (figs w).length) (by omega), decide_eq_false (show ¬ w = mz from q3)]
      by_cases q4 : Txt.item (figs w) 0 = z0
      · rw [decide_eq_true q4, decide_eq_true (q q4)]; rfl
      · rw [decide_eq_false q4]; rfl
    refine br_d (fun q4 => ?_) (fun q4 => ?_)
    · walk_at "xx"
      refine ne_s hf' z2 ?_
      walk_at "xx"
      refine br_nd (fun q5 => ?_) (fun q5 => ?_)
      · exact loop (fin fun _ => q5) r1 r2
      · walk_at "xx"
        refine s_raise rfl (hx ?_)
        unfold bad1; rw [decide_eq_true (show Txt.item (figs w) 0 = z0 from q4), decide_eq_false (show ¬ figs w = z0 from q5)]; simp
    · walk_at "xx"
      exact loop (fin fun q => absurd q q4) r1 r2
  refine call_in G D rfl ?_
  unfold b_number_of
  walk_at "xx"
  refine slice_s (by show w.length ≤ 1048576; omega) ?_
  walk_at "xx"
  refine eq_s (asc_ok (asc_slice ha)) z3 ?_
  walk_at "xx"
  simp only [b_number_of, List.drop] at rest
  refine br_d (fun q => ?_) (fun q => ?_)
  · walk_at "xx"
    refine slice_s (by show w.length ≤ 1048576; omega) ?_
    refine k_asg (s_nil (sq_next (k_rW ?_)))
    refine rest (by walk_at "ro") ?_
    have e : figs w = Txt.slice w (some 1) none := if_pos q
    rw [e]; walk_at "ro"
  · refine rest (by walk_at "ro") ?_
    have e : figs w = w := if_neg q
    rw [e]; walk_at "ro"

/-- what a comprehension keeps of a text's signs -/
theorem number_good_spec (D : Def c sg "_law_number_good" p__law_number_good b__law_number_good) {w : Str} (ha : asc w = true) (hl : w.length ≤ 2000) (h : ∀ μ', Ext μ μ' → Q (.bool (goodW w)) μ') : SC c 1 false "_law_number_good" [.str w] μ Q X := by
  have hw : PyData.strOk w = true := asc_ok ha
  have hf := figs_asc ha
  have hf' : PyData.strOk (figs w) = true := asc_ok hf
  have hfl : (figs w).length ≤ lim := Nat.le_trans (figs_le w) (by show w.length ≤ 1048576; omega)
  have hfn : (figs w).length ≤ 2000 := Nat.le_trans (figs_le w) hl
  have z2 : PyData.strOk (Str.ofString "0") = true := by decide +kernel
  have z3 : PyData.strOk (Str.ofString "-") = true := by decide +kernel
  have rest : ∀ {ρ : Loc}, ρ "_law_word" = some (.str w) → ρ "_law_figures" = some (.str (figs w)) → wpSs sg (SC c 0) false (b__law_number_good.drop 2) ρ μ (fq Q) (fx X) := by
    intro ρ r1 r2
    simp only [b__law_number_good, List.drop]
    walk_at "xx"
    refine len_s hfl ?_
    walk_at "xx"
    have bad : ∀ {μ'}, goodW w = false → Ext μ μ' → Q (.bool false) μ' := fun e x => by rw [← e]; exact h _ x
    refine br_d (fun q1 => ?_) (fun q1 => ?_)
    · walk_at "xx"
      refine bad ?_ (fun _ _ x => x)
      unfold goodW; rw [decide_eq_true (p := (figs w).length < 1) (by omega)]; rfl
    walk_at "xx"
    refine len_s hfl ?_
    walk_at "xx"
    refine br_d (fun q2 => ?_) (fun q2 => ?_)
    · walk_at "xx"
      refine bad ?_ (fun _ _ x => x)
      unfold goodW; rw [decide_eq_true (p := 60 < (figs w).length) (by omega)]; simp
    walk_at "xx"
    refine e_comp rfl ?_
    walk_at "xx"
    refine comp_map (items := (figs w).cps.toList.map fun c => V.str ⟨#[c]⟩) nf (by unfold itemsOf; exact if_pos hf) (by rw [List.length_map]; exact hfl) (fun k v μ' K hk he hK => ?_) fun n hn => ?_
    · rw [List.getElem?_map] at hk
      obtain ⟨ch, hch, rfl⟩ := Option.map_eq_some_iff.mp hk
      refine if_one ?_
      walk_at "xx"
      refine ⟨fun e => ?_, fun e => ?_⟩
      · walk_at "xx"
        have e' : Txt.contains fg ⟨#[ch]⟩ = false := nb e
        have : nf (.str ⟨#[ch]⟩) = some (.str ⟨#[ch]⟩) := if_neg (by rw [e']; exact Bool.false_ne_true)
        rw [this] at hK; exact hK
      · have e' : Txt.contains fg ⟨#[ch]⟩ = true := nb' e
        have : nf (.str ⟨#[ch]⟩) = none := if_pos e'
        rw [this] at hK; exact hK
    walk_at "xx"
    refine newL_in (by decide) fun m hm => ?_
    walk_at "xx"
    have hnm : n ≠ m := fun q => by rw [← q, updM_self] at hm; cases hm
    have hL : ∀ v ∈ (noFig (figs w)), leafy v := by
      intro v hv
      unfold noFig at hv
      obtain ⟨u, hu, huv⟩ := List.mem_filterMap.mp hv
      obtain ⟨ch, hch, rfl⟩ := List.mem_map.mp hu
      unfold nf at huv
      dsimp only at huv
      split at huv
      · cases huv
      · cases huv
        refine .inr ⟨_, rfl, asc_ok (asc_iff.mpr fun d hd => ?_)⟩
        have : d = ch := by simpa using hd
        rw [this]; exact asc_iff.mp hf ch hch
    have hE : ((noFig (figs w)) = []) ↔ allFig (figs w) = true := by
      unfold noFig allFig
      rw [List.filterMap_eq_nil_iff]
      rw [List.all_eq_true]
      constructor
      · intro q ch hch
        have := q (.str ⟨#[ch]⟩) (List.mem_map.mpr ⟨ch, hch, rfl⟩)
        unfold nf at this
        dsimp only at this
        split at this
        · rename_i t; exact t
        · cases this
      · intro q v hv
        obtain ⟨ch, hch, rfl⟩ := List.mem_map.mp hv
        exact if_pos (q ch hch)
    refine ne_nil (l := (noFig (figs w))) (by rw [updM_ne hnm, updM_self]; rfl) (updM_self _ _ _) hL ?_
    walk_at "xx"
    refine br_nd (fun q3 => ?_) (fun q3 => ?_)
    · have hall := hE.mp q3
      walk_at "xx"
      refine sub_s ⟨by omega, by omega, hfl⟩ ?_
      walk_at "xx"
      refine ne_s (asc_ok (asc_item hf)) z2 ?_
      walk_at "xx"
      have gw : goodW w = (!decide (Txt.item (figs w) 0 = z0) || decide (w = z0)) := by
        unfold goodW
        rw [decide_eq_false (p := (figs w).length < 1) (by omega), decide_eq_false (p := 60 < (figs w).length) (by omega), hall]; rfl
      refine br_nd (fun q4 => ?_) (fun q4 => ?_)
      · walk_at "xx"
        refine eq_s hw z2 ?_
        walk_at "xx"
        have e : decide (w = Str.ofString "0") = goodW w := by rw [gw, decide_eq_true (show Txt.item (figs w) 0 = z0 from q4)]; rfl
        rw [e]; exact h _ ((Ext.new hn).trans (Ext.new hm))
      · walk_at "xx"
        have e : (!decide (Txt.item (figs w) 0 = Str.ofString "0")) = goodW w := by rw [gw, decide_eq_false (show ¬ Txt.item (figs w) 0 = z0 from q4), decide_eq_false (show ¬ Txt.item (figs w) 0 = Str.ofString "0" from q4)]; rfl
        rw [e]; exact h _ ((Ext.new hn).trans (Ext.new hm))
    · walk_at "xx"
      refine bad ?_ ((Ext.new hn).trans (Ext.new hm))
      unfold goodW
      rw [Bool.eq_false_iff.mpr (fun q => q3 (hE.mpr q)), Bool.false_and, Bool.and_false]
  refine call_in G D rfl ?_
  unfold b__law_number_good
  walk_at "xx"
  refine slice_s (by show w.length ≤ 1048576; omega) ?_
  walk_at "xx"
  refine eq_s (asc_ok (asc_slice ha)) z3 ?_
  walk_at "xx"
  simp only [b__law_number_good, List.drop] at rest
  refine br_d (fun q => ?_) (fun q => ?_)
  · walk_at "xx"
    refine slice_s (by show w.length ≤ 1048576; omega) ?_
    refine k_asg (s_nil (sq_next (k_rW ?_)))
    refine rest (by walk_at "ro") ?_
    have e : figs w = Txt.slice w (some 1) none := if_pos q
    rw [e]; walk_at "ro"
  · refine rest (by walk_at "ro") ?_
    have e : figs w = w := if_neg q
    rw [e]; walk_at "ro"
end

set_option autoImplicit false

set_option maxHeartbeats 2000000
set_option maxRecDepth 4000
set_option linter.unusedVariables false
set_option linter.unusedSimpArgs false
open PySem

theorem br_bt {b : Bool} {A B : Prop} (e : b = true) (h : A) : br b A B := ⟨fun _ => h, fun e' => by rw [e] at e'; cases e'⟩
theorem Ext.put {μ μ' : Mem} {n : Addr} {o : O} (x : Ext μ μ') (h : μ n = none) : Ext μ (updM μ' n o) := fun b q hb => by
  unfold updM
  split
  · rename_i e; rw [e, h] at hb; cases hb
  · exact x b q hb
/-- a comprehension whose turns may make new objects, and may raise -/
theorem comp_x {sc : Bool → Sc} {hd : Bool} {X : String → Mem → Prop} {ρ : Loc} {μ : Mem} {Q : V → Mem → Prop} {elt : E} {x : String} {cs : List String} {ifs : List E} {v : V} {items : List V} (F : V → Option V) (P : V → Prop) (e : ∀ μ', Ext μ μ' → itemsOf μ' v = some items) (hz : items.length ≤ lim)
    (turn : ∀ (k : Nat) (w : V) (μ' : Mem) (K : Option V → Mem → Prop), items[k]? = some w → Ext μ μ' → (P w → ∀ μ'', Ext μ' μ'' → K (F w) μ'') → wpIf sg sc hd ifs (updL (capL cs ρ) x w) μ' fun b μ₃ => br b (wpE sg sc hd elt (updL (capL cs ρ) x w) μ₃ (fun r μ'' => K (some r) μ'') X) (K none μ₃))
    (fin : (∀ w ∈ items, P w) → ∀ n μ', μ n = none → Ext μ μ' → μ' n = some (.list (items.filterMap F)) → Q (.ref n) μ') : compW sg sc hd X ρ Q elt x cs ifs v μ := by
  refine comp_in (e μ (Ext.refl μ)) fun n hn => ⟨fun k μ' => k ≤ items.length ∧ Ext μ μ' ∧ μ' n = some (.list ((items.take k).filterMap F)) ∧ ∀ w ∈ items.take k, P w, ⟨Nat.zero_le _, Ext.new hn, updM_self _ _ _, fun w h => by simp at h⟩, fun k μ' h => e μ' h.2.1, fun k w μ' hk h => ?_, fun μ' h => ?_⟩
  · obtain ⟨hk', hx, hl, hP⟩ := h
    have hlt : k < items.length := (List.getElem?_eq_some_iff.mp hk).1
    have ht := take_filter F items k w hk
    refine turn k w μ' _ hk hx fun hw μ'' ex => ?_
    have hP' : ∀ u ∈ items.take (k + 1), P u := fun u hu => by
      rw [List.take_add_one, hk] at hu
      rcases List.mem_append.mp hu with hu | hu
      · exact hP u hu
      · have : u = w := by simpa using hu
        rw [this]; exact hw
    cases hF : F w with
    | none =>
      rw [hF] at ht
      exact ⟨hlt, hx.trans ex, by rw [ht, List.append_nil]; exact ex _ _ hl, hP'⟩
    | some r =>
      rw [hF] at ht
      refine ⟨(items.take k).filterMap F, ex _ _ hl, ?_, hlt, (hx.trans ex).put hn, by rw [ht]; exact updM_self _ _ _, hP'⟩
      have h1 := List.length_filterMap_le F (items.take k)
      rw [List.length_take] at h1
      omega
  · obtain ⟨_, hx, hl, hP⟩ := h
    rw [List.take_length] at hl hP
    exact fin hP n μ' hn hx hl
theorem sIn_get {kvs : List (String × Int)} {x : Str} : sIn kvs x = (sGet kvs x).isSome := by
  unfold sIn sGet
  induction kvs with
  | nil => rfl
  | cons a r ih =>
    rw [List.any_cons, List.find?_cons]
    cases h : (Str.ofString a.1 == x) with
    | true => rfl
    | false => rw [Bool.false_or]; exact ih
noncomputable def valOf (w : Str) : Int := (intText? w).getD 0
noncomputable def rowV (w0 : Str) (ws : List Str) : V := .tup (.str w0 :: ws.map fun w => .int (valOf w))
noncomputable def deedOk (w0 : Str) (ws : List Str) : Bool := match sGet parts w0 with
  | some k => decide ((ws.length : Int) + 1 = k + 1) && ws.all goodW
  | none => false
noncomputable def toInt (v : V) : Option V := match v with | .str w => some (.int (valOf w)) | _ => none
theorem ints_of (ws : List Str) : (ws.map V.str).filterMap toInt = ws.map fun w => .int (valOf w) := by
  induction ws with
  | nil => rfl
  | cons w ws ih => rw [List.map_cons, List.filterMap_cons, ih]; rfl
theorem parts_pos {w0 : Str} {k : Int} (h : sGet parts w0 = some k) : 1 ≤ k ∧ k ≤ 3 := by
  unfold sGet at h
  obtain ⟨q, hq, rfl⟩ := Option.map_eq_some_iff.mp h
  have := List.mem_of_find?_eq_some hq
  simp only [parts, List.mem_cons, List.not_mem_nil, or_false] at this
  rcases this with rfl | rfl | rfl | rfl <;> decide

section
variable {c : Ctx} (G : Good c sg)
include G
variable {μ : Mem} {Q : V → Mem → Prop} {X : String → Mem → Prop}

theorem read_spec (D1 : Def c sg "number_of" p_number_of b_number_of) (D : Def c sg "read" p_read b_read) {x w0 : Str} {ws : List Str} (hx : x.length ≤ 1000) (hw : words x = w0 :: ws) (hp : ∀ p ∈ w0 :: ws, p.length ≤ x.length ∧ asc p = true) (hn : (w0 :: ws).length ≤ x.length + 1)
    (ok : deedOk w0 ws = true → ∀ μ', Ext μ μ' → Q (rowV w0 ws) μ') (no : deedOk w0 ws = false → ∀ μ', Ext μ μ' → X "NoRow" μ') : SC c 2 false "read" [.str x] μ Q X := by
  refine call_in G D rfl ?_
  unfold b_read
  walk_at "xx"
  refine split_s (by decide +kernel) (by show x.length ≤ 1048576; omega) ?_
  rw [show Txt.split x (Str.ofString " ") = w0 :: ws from hw]
  refine newL_in (by rw [List.length_map]; show _ ≤ 1048576; omega) fun n hn0 => ?_
  have e1 : Ext μ (updM μ n (.list ((w0 :: ws).map V.str))) := Ext.new hn0
  have hl : updM μ n (.list ((w0 :: ws).map V.str)) n = some (.list ((w0 :: ws).map V.str)) := updM_self _ _ _
  generalize updM μ n (.list ((w0 :: ws).map V.str)) = μ₁ at e1 hl ⊢
  walk_at "xx"
  refine ⟨fun e => ?_, fun e => ?_⟩
  · walk_at "xx"
    refine br_bt e ?_
    walk_at "xx"
    refine s_raise rfl (no ?_ _ e1)
    have := nb e
    rw [sIn_get] at this
    unfold deedOk
    rw [Option.isSome_eq_false_iff, Option.isNone_iff_eq_none] at this
    rw [this]
  have hin := nb' e
  rw [sIn_get] at hin
  obtain ⟨k, hk⟩ := Option.isSome_iff_exists.mp hin
  obtain ⟨k1, k3⟩ := parts_pos hk
  walk_at "xx"
  refine sub_g hk ?_
  walk_at "xx"
  refine br_nd (fun q => ?_) (fun q => ?_)
  rotate_left
  · walk_at "xx"
    refine s_raise rfl (no ?_ _ e1)
    unfold deedOk
    rw [hk]
    show (decide ((ws.length : Int) + 1 = k + 1) && _) = false
    rw [decide_eq_false (by intro z; apply q; simp only [List.length_map, List.length_cons]; omega)]; rfl
  have hlen : (ws.length : Int) = k := by simp only [List.length_map, List.length_cons] at q; omega
  walk_at "xx"
  refine e_comp rfl ?_
  walk_at "xx"
  refine slice_in hl (by show (0 : Int) ≤ 1; decide) trivial ?_
  show newL μ₁ (ws.map V.str) _
  refine newL_in (by rw [List.length_map]; show _ ≤ 1048576; omega) fun m hm => ?_
  have e2 : Ext μ₁ (updM μ₁ m (.list (ws.map V.str))) := Ext.new hm
  have hl2 : updM μ₁ m (.list (ws.map V.str)) m = some (.list (ws.map V.str)) := updM_self _ _ _
  generalize updM μ₁ m (.list (ws.map V.str)) = μ₂ at e2 hl2 ⊢
  refine comp_x (items := ws.map V.str) toInt (fun v => ∀ w, v = .str w → goodW w = true) (fun μ' hx' => by unfold itemsOf; simp only [hx' _ _ hl2]) (by rw [List.length_map]; show _ ≤ 1048576; omega) (fun j v μ' K hj he hK => ?_) fun hall t μ₃ ht e3 hl3 => ?_
  · rw [List.getElem?_map] at hj
    obtain ⟨w, hwj, rfl⟩ := Option.map_eq_some_iff.mp hj
    have hwm := List.mem_of_getElem? hwj
    obtain ⟨p1, p2⟩ := hp w (.tail _ hwm)
    refine if_nil (br_t ?_)
    walk_at "xx"
    refine sc_up (number_of_spec G D1 p2 (by omega) (fun i hi hg => ?_) (fun hb => ?_)) (by decide)
    · have : toInt (.str w) = some (.int i) := by
        show some (V.int ((intText? w).getD 0)) = _
        rw [hi]; rfl
      rw [← this]; exact hK (fun u hu => by cases hu; exact hg) _ (Ext.refl _)
    · refine no ?_ _ ((e1.trans e2).trans he)
      unfold deedOk
      rw [hk]
      show (_ && ws.all goodW) = false
      rw [Bool.and_eq_false_iff]
      right
      rw [List.all_eq_false]
      exact ⟨w, hwm, by rw [hb]; exact Bool.false_ne_true⟩
  · rw [ints_of] at hl3
    have hgood : ws.all goodW = true := List.all_eq_true.mpr fun w hwm => hall (.str w) (List.mem_map.mpr ⟨w, hwm, rfl⟩) w rfl
    have hdeed : deedOk w0 ws = true := by
      unfold deedOk
      rw [hk]
      show (decide ((ws.length : Int) + 1 = k + 1) && ws.all goodW) = true
      rw [decide_eq_true (by omega), hgood]; rfl
    walk_at "xx"
    refine tup_l hl3 ?_
    walk_at "xx"
    refine add_t (by simp) (fun z => by have := congrArg List.length z; simp at this; rw [this] at hlen; simp at hlen; omega) (by simp only [List.length_append, List.length_map, List.length_cons, List.length_nil]; show _ ≤ 1048576; omega) ?_
    walk_at "xx"
    exact ok hdeed _ ((e1.trans e2).trans e3)
end

set_option autoImplicit false

set_option maxHeartbeats 2000000
set_option maxRecDepth 4000
set_option linter.unusedVariables false
set_option linter.unusedSimpArgs false
open PySem

noncomputable def badF (v : V) : Option V := match v with | .str w => if goodW w then none else some (.str w) | _ => none
theorem badF_nil (ws : List Str) : ((ws.map V.str).filterMap badF = []) ↔ ws.all goodW = true := by
  rw [List.filterMap_eq_nil_iff, List.all_eq_true]
  constructor
  · intro h w hw
    have := h (.str w) (List.mem_map.mpr ⟨w, hw, rfl⟩)
    unfold badF at this
    dsimp only at this
    split at this
    · rename_i q; exact q
    · cases this
  · intro h v hv
    obtain ⟨w, hw, rfl⟩ := List.mem_map.mp hv
    exact if_pos (h w hw)
section
variable {c : Ctx} (G : Good c sg)
include G
variable {μ : Mem} {Q : V → Mem → Prop} {X : String → Mem → Prop}

theorem deed_of_spec (D1 : Def c sg "_law_number_good" p__law_number_good b__law_number_good) (D : Def c sg "_law_deed_of" p__law_deed_of b__law_deed_of) {x w0 : Str} {ws : List Str} (hx : x.length ≤ 1000) (hw : words x = w0 :: ws) (hp : ∀ p ∈ w0 :: ws, p.length ≤ x.length ∧ asc p = true) (hn : (w0 :: ws).length ≤ x.length + 1)
    (h : ∀ μ', Ext μ μ' → Q (if deedOk w0 ws = true then rowV w0 ws else .none) μ') : SC c 2 false "_law_deed_of" [.str x] μ Q X := by
  have no : deedOk w0 ws = false → ∀ μ', Ext μ μ' → Q .none μ' := fun e μ' x => by have := h μ' x; rw [e] at this; exact this
  have ok : deedOk w0 ws = true → ∀ μ', Ext μ μ' → Q (rowV w0 ws) μ' := fun e μ' x => by have := h μ' x; rw [e] at this; exact this
  refine call_in G D rfl ?_
  unfold b__law_deed_of
  walk_at "xx"
  refine split_s (by decide +kernel) (by show x.length ≤ 1048576; omega) ?_
  rw [show Txt.split x (Str.ofString " ") = w0 :: ws from hw]
  refine newL_in (by rw [List.length_map]; show _ ≤ 1048576; omega) fun n hn0 => ?_
  have e1 : Ext μ (updM μ n (.list ((w0 :: ws).map V.str))) := Ext.new hn0
  have hl : updM μ n (.list ((w0 :: ws).map V.str)) n = some (.list ((w0 :: ws).map V.str)) := updM_self _ _ _
  generalize updM μ n (.list ((w0 :: ws).map V.str)) = μ₁ at e1 hl ⊢
  walk_at "xx"
  refine e_dlit fun dd hd0 hd1 => ?_
  show asgK _ _ _ _ _ _ _ _ (.ref dd) (updM μ₁ dd (.sd parts))
  have e2 : Ext μ₁ (updM μ₁ dd (.sd parts)) := Ext.new hd0
  have hdd : updM μ₁ dd (.sd parts) dd = some (.sd parts) := updM_self _ _ _
  have hl := e2 _ _ hl
  generalize updM μ₁ dd (.sd parts) = μ₂ at e2 hdd hl ⊢
  have e12 := e1.trans e2
  walk_at "xx"
  refine notin_d hdd hd1 ?_
  walk_at "xx"
  refine ⟨fun e => ?_, fun e => ?_⟩
  · walk_at "xx"
    refine br_bt e ?_
    walk_at "xx"
    refine no ?_ _ e12
    have := nb e
    rw [sIn_get] at this
    unfold deedOk
    rw [Option.isSome_eq_false_iff, Option.isNone_iff_eq_none] at this
    rw [this]
  have hin := nb' e
  rw [sIn_get] at hin
  obtain ⟨k, hk⟩ := Option.isSome_iff_exists.mp hin
  obtain ⟨k1, k3⟩ := parts_pos hk
  walk_at "xx"
  refine sub_d hdd hd1 hk ?_
  walk_at "xx"
  refine br_nd (fun q => ?_) (fun q => ?_)
  rotate_left
  · walk_at "xx"
    refine no ?_ _ e12
    unfold deedOk
    rw [hk]
    show (decide ((ws.length : Int) + 1 = k + 1) && _) = false
    rw [decide_eq_false (by intro z; apply q; simp only [List.length_map, List.length_cons]; omega)]; rfl
  have hlen : (ws.length : Int) = k := by simp only [List.length_map, List.length_cons] at q; omega
  walk_at "xx"
  refine e_comp rfl ?_
  walk_at "xx"
  refine slice_in hl (by show (0 : Int) ≤ 1; decide) trivial ?_
  show newL μ₂ (ws.map V.str) _
  refine newL_in (by rw [List.length_map]; show _ ≤ 1048576; omega) fun m hm => ?_
  have e3 : Ext μ₂ (updM μ₂ m (.list (ws.map V.str))) := Ext.new hm
  have hl2 : updM μ₂ m (.list (ws.map V.str)) m = some (.list (ws.map V.str)) := updM_self _ _ _
  generalize updM μ₂ m (.list (ws.map V.str)) = μ₃ at e3 hl2 ⊢
  refine comp_x (items := ws.map V.str) badF (fun _ => True) (fun μ' hx' => by unfold itemsOf; simp only [hx' _ _ hl2]) (by rw [List.length_map]; show _ ≤ 1048576; omega) (fun j v μ' K hj he hK => ?_) fun _ t μ₄ ht e4 hl4 => ?_
  · rw [List.getElem?_map] at hj
    obtain ⟨w, hwj, rfl⟩ := Option.map_eq_some_iff.mp hj
    have hwm := List.mem_of_getElem? hwj
    obtain ⟨p1, p2⟩ := hp w (.tail _ hwm)
    refine if_one ?_
    walk_at "xx"
    refine sc_up (number_good_spec G D1 p2 (by omega) fun μ'' ex => ?_) (by decide)
    walk_at "xx"
    refine ⟨fun e => ?_, fun e => ?_⟩
    · walk_at "xx"
      have : badF (.str w) = some (.str w) := if_neg (by rw [nb e]; exact Bool.false_ne_true)
      rw [← this]; exact hK trivial _ ex
    · have : badF (.str w) = none := if_pos (nb' e)
      rw [← this]; exact hK trivial _ ex
  have e14 := (e12.trans e3).trans e4
  have hl := e4 _ _ (e3 _ _ hl)
  have hL : ∀ v ∈ (ws.map V.str).filterMap badF, leafy v := by
    intro v hv
    obtain ⟨u, hu, huv⟩ := List.mem_filterMap.mp hv
    obtain ⟨w, hw', rfl⟩ := List.mem_map.mp hu
    unfold badF at huv
    dsimp only at huv
    split at huv
    · cases huv
    · cases huv
      exact .inr ⟨w, rfl, asc_ok (hp w (.tail _ hw')).2⟩
  walk_at "xx"
  refine newL_in (by decide) fun b hb => ?_
  have e5 : Ext μ₄ (updM μ₄ b (.list [])) := Ext.new hb
  have hb5 : updM μ₄ b (.list []) b = some (.list []) := updM_self _ _ _
  generalize updM μ₄ b (.list []) = μ₅ at e5 hb5 ⊢
  walk_at "xx"
  refine ne_nil (e5 _ _ hl4) hb5 hL ?_
  walk_at "xx"
  have e15 := e14.trans e5
  have hl := e5 _ _ hl
  refine br_nd (fun q3 => ?_) (fun q3 => ?_)
  rotate_left
  · walk_at "xx"
    refine no ?_ _ e15
    unfold deedOk
    rw [hk]
    show (_ && ws.all goodW) = false
    rw [Bool.eq_false_iff.mpr fun z => q3 ((badF_nil ws).mpr z), Bool.and_false]
  have hgood := (badF_nil ws).mp q3
  have hdeed : deedOk w0 ws = true := by
    unfold deedOk
    rw [hk]
    show (decide ((ws.length : Int) + 1 = k + 1) && ws.all goodW) = true
    rw [decide_eq_true (by omega), hgood]; rfl
  walk_at "xx"
  refine newL_in (by show 1 ≤ 1048576; decide) fun u hu => ?_
  have e6 : Ext μ₅ (updM μ₅ u (.list [.str w0])) := Ext.new hu
  have hu6 : updM μ₅ u (.list [.str w0]) u = some (.list [.str w0]) := updM_self _ _ _
  generalize updM μ₅ u (.list [.str w0]) = μ₆ at e6 hu6 ⊢
  walk_at "xx"
  refine e_comp rfl ?_
  walk_at "xx"
  refine slice_in (e6 _ _ hl) (by show (0 : Int) ≤ 1; decide) trivial ?_
  show newL μ₆ (ws.map V.str) _
  refine newL_in (by rw [List.length_map]; show _ ≤ 1048576; omega) fun m7 hm7 => ?_
  have e7 : Ext μ₆ (updM μ₆ m7 (.list (ws.map V.str))) := Ext.new hm7
  have hl7 : updM μ₆ m7 (.list (ws.map V.str)) m7 = some (.list (ws.map V.str)) := updM_self _ _ _
  generalize updM μ₆ m7 (.list (ws.map V.str)) = μ₇ at e7 hl7 ⊢
  refine comp_x (items := ws.map V.str) toInt (fun _ => True) (fun μ' hx' => by unfold itemsOf; simp only [hx' _ _ hl7]) (by rw [List.length_map]; show _ ≤ 1048576; omega) (fun j v μ' K hj he hK => ?_) fun _ t8 μ₈ ht8 e8 hl8 => ?_
  · rw [List.getElem?_map] at hj
    obtain ⟨w, hwj, rfl⟩ := Option.map_eq_some_iff.mp hj
    have hwm := List.mem_of_getElem? hwj
    obtain ⟨l1, i, hi⟩ := good_int (hp w (.tail _ hwm)).2 (List.all_eq_true.mp hgood w hwm)
    refine if_nil (br_t ?_)
    walk_at "xx"
    refine int_s l1 hi ?_
    have : toInt (.str w) = some (.int i) := by
      show some (V.int ((intText? w).getD 0)) = _
      rw [hi]; rfl
    rw [← this]; exact hK trivial _ (Ext.refl _)
  rw [ints_of] at hl8
  walk_at "xx"
  refine cat_l (e8 _ _ (e7 _ _ hu6)) hl8 ?_
  refine newL_in (by simp only [List.length_append, List.length_map, List.length_cons, List.length_nil]; show _ ≤ 1048576; omega) fun y hy => ?_
  walk_at "xx"
  refine tup_l (updM_self _ _ _) ?_
  walk_at "xx"
  exact ok hdeed _ ((((e15.trans e6).trans e7).trans e8).trans (Ext.new hy))
end

set_option autoImplicit false

set_option maxHeartbeats 2000000
set_option maxRecDepth 4000
set_option linter.unusedVariables false
set_option linter.unusedSimpArgs false
open PySem

noncomputable def lineOk (x : Str) : Bool := match words x with | w0 :: ws => deedOk w0 ws | [] => false
theorem line_words {x : Str} (ha : asc x = true) : ∃ w0 ws, words x = w0 :: ws ∧ (∀ p ∈ w0 :: ws, p.length ≤ x.length ∧ asc p = true) ∧ (w0 :: ws).length ≤ x.length + 1 ∧ lineOk x = deedOk w0 ws := by
  obtain ⟨h1, h2, h3⟩ := words_spec x
  cases q : words x with
  | nil => exact absurd q h1
  | cons w0 ws =>
    rw [q] at h2 h3
    exact ⟨w0, ws, rfl, fun p hp => ⟨(h3 p hp).1, (h3 p hp).2 ha⟩, h2, by unfold lineOk; rw [q]⟩
theorem row_plain {w0 : Str} {ws : List Str} (h : asc w0 = true) (hl : ws.length ≤ 2000) : plain 1 (rowV w0 ws) = true := by
  unfold rowV
  show (List.all _ (plain 0) && decide (_ ≤ lim)) = true
  rw [Bool.and_eq_true]
  constructor
  · rw [List.all_eq_true]
    intro v hv
    rcases List.mem_cons.mp hv with rfl | hv
    · exact asc_ok h
    · obtain ⟨w, _, rfl⟩ := List.mem_map.mp hv
      rfl
  · rw [List.length_cons, List.length_map]
    exact decide_eq_true (by show _ ≤ 1048576; omega)

structure RD (c : Ctx) : Prop where
  nof : Def c sg "number_of" p_number_of b_number_of
  rd : Def c sg "read" p_read b_read
  ngood : Def c sg "_law_number_good" p__law_number_good b__law_number_good
  deed : Def c sg "_law_deed_of" p__law_deed_of b__law_deed_of
  refd : Def c sg "_law_refused" p__law_refused b__law_refused
  rgood : Def c sg "_law_read_good" p__law_read_good b__law_read_good
  whole : Def c sg "_law_whole" p__law_whole b__law_whole
  alike : Def c sg "_law_alike" p__law_alike b__law_alike
section
variable {c : Ctx} (G : Good c sg) (K : RD c)
include G K
variable {μ : Mem} {Q : V → Mem → Prop} {X : String → Mem → Prop}

theorem refused_spec {x : Str} (hx : x.length ≤ 1000) (ha : asc x = true) (h : ∀ μ', Ext μ μ' → Q (.bool (!lineOk x)) μ') : SC c 3 false "_law_refused" [.str x] μ Q X := by
  obtain ⟨w0, ws, hw, hp, hn, hk⟩ := line_words ha
  rw [hk] at h
  refine call_in G K.refd rfl ?_
  unfold b__law_refused
  refine s_try rfl ?_
  walk_at "xx"
  refine read_spec G K.nof K.rd hx hw hp hn (fun e μ' ex => ?_) (fun e μ' ex => ?_)
  · walk_at "xx"
    have := h μ' ex
    rw [e] at this
    exact this
  · have hq := h μ' ex
    rw [e] at hq
    refine try_as (by rfl) ?_
    walk_at "xx"
    exact hq

theorem read_good_spec {x : Str} (hx : x.length ≤ 1000) (ha : asc x = true) (h : ∀ μ', Ext μ μ' → Q (.bool true) μ') : SC c 4 false "_law_read_good" [.str x] μ Q X := by
  obtain ⟨w0, ws, hw, hp, hn, hk⟩ := line_words ha
  refine call_in G K.rgood rfl ?_
  unfold b__law_read_good
  walk_at "xx"
  refine sc_up (deed_of_spec G K.ngood K.deed hx hw hp hn fun μ₁ e1 => ?_) (by decide)
  cases q : deedOk w0 ws with
  | false =>
    rw [if_neg Bool.false_ne_true]
    walk_at "xx"
    refine cmp_in (r := true) (by rfl) ?_
    walk_at "xx"
    refine refused_spec G K hx ha fun μ₂ e2 => ?_
    walk_at "xx"
    rw [hk, q]
    exact h μ₂ (e1.trans e2)
  | true =>
    rw [if_pos rfl]
    walk_at "xx"
    refine cmp_in (r := false) (by rfl) ?_
    walk_at "xx"
    refine sc_up (read_spec G K.nof K.rd hx hw hp hn (fun _ μ₂ e2 => ?_) (fun e => by rw [q] at e; cases e)) (by decide)
    walk_at "xx"
    refine alike_plain G K.whole K.alike 1 (row_plain (hp w0 (.head _)).2 (by rw [List.length_cons] at hn; omega)) ?_
    walk_at "xx"
    exact h μ₂ (e1.trans e2)
end

set_option autoImplicit false

set_option maxHeartbeats 2000000
set_option maxRecDepth 4000
set_option linter.unusedVariables false
set_option linter.unusedSimpArgs false
open PySem

noncomputable def tx (i : Int) : Str := Str.ofString (toString i)
noncomputable def small (i : Int) : Prop := i.natAbs < 10 ^ 61
theorem asc_of_digits {l : List Char} (h : ∀ c ∈ l, c.isDigit = true ∨ c = '-') : ∀ n ∈ l.map Char.toNat, n < 128 := by
  intro n hn
  obtain ⟨c, hc, rfl⟩ := List.mem_map.mp hn
  rcases h c hc with q | rfl
  · have := Char.isDigit_iff_toNat.mp q
    have h9 : '9'.toNat = 57 := rfl
    omega
  · decide
theorem tx_fine {i : Int} (h : small i) : asc (tx i) = true ∧ (tx i).length ≤ 62 ∧ i.natAbs.log2 < 1920 := by
  have hs : (tx i).cps.toList = (toString i).toList.map Char.toNat := PyProof.Rows.signs_ofString _
  have hl : (tx i).length = (toString i).toList.length := by
    have : (tx i).cps.toList.length = (tx i).length := Array.length_toList
    rw [← this, hs, List.length_map]
  have hd : ∀ m : Nat, m < 10 ^ 61 → (Nat.toDigits 10 m).length ≤ 61 := fun m hm => (Nat.length_toDigits_le_iff (by decide) (by decide)).mpr hm
  have key : (∀ c ∈ (toString i).toList, c.isDigit = true ∨ c = '-') ∧ (toString i).toList.length ≤ 62 := by
    cases i with
    | ofNat m =>
      have e : (toString (Int.ofNat m)).toList = Nat.toDigits 10 m := Nat.toList_repr
      rw [e]
      exact ⟨fun c hc => .inl (Nat.isDigit_of_mem_toDigits (by decide) (by decide) hc), Nat.le_trans (hd m h) (by decide)⟩
    | negSucc m =>
      have e : (toString (Int.negSucc m)).toList = '-' :: Nat.toDigits 10 (m + 1) := by
        show ("-" ++ Nat.repr (m + 1)).toList = _
        rw [String.toList_append, Nat.toList_repr]; rfl
      rw [e]
      refine ⟨fun c hc => ?_, ?_⟩
      · rcases List.mem_cons.mp hc with rfl | hc
        · exact .inr rfl
        · exact .inl (Nat.isDigit_of_mem_toDigits (by decide) (by decide) hc)
      · rw [List.length_cons]
        have := hd (m + 1) h
        omega
  refine ⟨asc_iff.mpr ?_, by rw [hl]; exact key.2, ?_⟩
  · rw [hs]; exact asc_of_digits key.1
  · by_cases q : i.natAbs = 0
    · rw [q]; decide
    · rw [Nat.log2_lt q]
      exact Nat.lt_trans h (by decide +kernel)

/-- a row's text -/
noncomputable def textOf (w : Str) (is : List Int) : Str := is.foldl (fun acc i => acc ++ sp ++ tx i) w
theorem text_fine {w : Str} (hw : asc w = true) : ∀ (is : List Int), (∀ i ∈ is, small i) → asc (textOf w is) = true ∧ (textOf w is).length ≤ w.length + 63 * is.length := by
  intro is
  induction is generalizing w with
  | nil => intro _; exact ⟨hw, by simp [textOf]⟩
  | cons i is ih =>
    intro h
    obtain ⟨a1, a2, _⟩ := tx_fine (h i (.head _))
    have hsp : asc sp = true := by decide +kernel
    obtain ⟨b1, b2⟩ := ih (w := w ++ sp ++ tx i) (asc_app (asc_app hw hsp) a1) fun j hj => h j (.tail _ hj)
    refine ⟨b1, ?_⟩
    have e : (w ++ sp ++ tx i).length = w.length + 1 + (tx i).length := by rw [len_app, len_app, sp_len]
    rw [e] at b2
    show (textOf (w ++ sp ++ tx i) is).length ≤ _
    rw [List.length_cons]
    omega
theorem textOf_snoc (w : Str) (is : List Int) (i : Int) : textOf w (is ++ [i]) = textOf w is ++ sp ++ tx i := by
  unfold textOf; rw [List.foldl_append]; rfl
theorem text_join (w : Str) (is : List Int) : Txt.join sp (w :: is.map tx) = textOf w is := by
  show (⟨(is.map tx).foldl (fun acc p => acc ++ sp.cps ++ p.cps) w.cps⟩ : Str) = _
  induction is generalizing w with
  | nil => rfl
  | cons i is ih => exact ih (w ++ sp ++ tx i)
noncomputable def rowT (w : Str) (is : List Int) : V := .tup (.str w :: is.map V.int)

section
variable {c : Ctx} (G : Good c sg)
include G
variable {μ : Mem} {Q : V → Mem → Prop} {X : String → Mem → Prop}

theorem text_spec (D : Def c sg "_law_text" p__law_text b__law_text) {w : Str} {is : List Int} (hw : asc w = true) (hl : w.length ≤ 10) (hi : ∀ i ∈ is, small i) (hn : is.length ≤ 3) (h : Q (.str (textOf w is)) μ) : SC c 1 false "_law_text" [rowT w is] μ Q X := by
  refine call_in G D rfl ?_
  unfold b__law_text rowT
  walk_at "xx"
  refine s_for rfl ?_
  walk_at "xx"
  refine slice_t (by decide) (by simp only [List.length_cons]; omega) trivial ?_
  show forW _ _ _ _ _ _ _ _ _ (.tup (is.map V.int)) μ
  refine for_in (items := is.map V.int) rfl (fun k ρ' μ' => μ' = μ ∧ ρ' "_law_signs" = some (.str (textOf w (is.take k)))) ⟨rfl, by walk_at "ro"⟩ (fun k ρ' μ' h => rfl) (fun k v ρ' μ' hk hI => ?_) (fun ρ' μ' hI => ?_)
  · obtain ⟨rfl, h1⟩ := hI
    rw [List.getElem?_map] at hk
    obtain ⟨i, hik, rfl⟩ := Option.map_eq_some_iff.mp hk
    obtain ⟨t1, t2, t3⟩ := tx_fine (hi i (List.mem_of_getElem? hik))
    obtain ⟨f1, f2⟩ := text_fine hw (is.take k) fun j hj => hi j (List.mem_of_mem_take hj)
    have f3 : (is.take k).length ≤ 3 := by rw [List.length_take]; omega
    walk_at "xx"
    refine add_s (by show _ ≤ 1048576; have := sp_len; unfold sp at this; omega) ?_
    walk_at "xx"
    refine str_i t3 ?_
    walk_at "xx"
    refine add_s (by show _ ≤ 1048576; rw [len_app]; have := sp_len; unfold sp at this; have e : (Str.ofString (toString i)).length ≤ 62 := t2; omega) ?_
    walk_at "xx"
    refine ⟨rfl, ?_⟩
    have e : textOf w (is.take (k + 1)) = textOf w (is.take k) ++ sp ++ tx i := by
      rw [List.take_add_one, hik]; exact textOf_snoc _ _ _
    rw [e]
    exact loc_here
  · obtain ⟨rfl, h1⟩ := hI
    rw [List.length_map, List.take_length] at h1
    walk_at "xx"
    exact h
end

set_option autoImplicit false

set_option maxHeartbeats 2000000
set_option maxRecDepth 4000
set_option linter.unusedVariables false
set_option linter.unusedSimpArgs false
open PySem

theorem small_of {i : Int} (h0 : -(10 ^ 61) < i) (h1 : i < 10 ^ 61) : small i := by unfold small; omega
/-- a comprehension of one's own values, with no test -/
theorem comp_r {sc : Bool → Sc} {hd : Bool} {X : String → Mem → Prop} {ρ : Loc} {μ : Mem} {Q : V → Mem → Prop} {elt : E} {x : String} {cs : List String} {v : V} {items : List V} (R : V → Prop) (e : ∀ μ', Ext μ μ' → itemsOf μ' v = some items) (hz : items.length ≤ lim)
    (turn : ∀ (k : Nat) (w : V) (μ' : Mem) (K : V → Mem → Prop), items[k]? = some w → Ext μ μ' → (∀ r μ'', R r → Ext μ' μ'' → K r μ'') → wpE sg sc hd elt (updL (capL cs ρ) x w) μ' K X)
    (fin : ∀ n μ' l, μ n = none → Ext μ μ' → μ' n = some (.list l) → l.length = items.length → (∀ w ∈ l, R w) → Q (.ref n) μ') : compW sg sc hd X ρ Q elt x cs [] v μ := by
  refine comp_in (e μ (Ext.refl μ)) fun n hn => ⟨fun k μ' => k ≤ items.length ∧ Ext μ μ' ∧ ∃ l, μ' n = some (.list l) ∧ l.length = k ∧ ∀ w ∈ l, R w, ⟨Nat.zero_le _, Ext.new hn, [], updM_self _ _ _, rfl, fun w h => by cases h⟩, fun k μ' h => e μ' h.2.1, fun k w μ' hk h => ?_, fun μ' h => ?_⟩
  · obtain ⟨hk', hx, l, hl, hll, hR⟩ := h
    have hlt : k < items.length := (List.getElem?_eq_some_iff.mp hk).1
    refine if_nil (br_t ?_)
    refine turn k w μ' _ hk hx fun r μ'' hr ex => ?_
    refine ⟨l, ex _ _ hl, by omega, hlt, (hx.trans ex).put hn, l ++ [r], updM_self _ _ _, by simp [hll], fun u hu => ?_⟩
    rcases List.mem_append.mp hu with hu | hu
    · exact hR u hu
    · rw [List.mem_singleton.mp hu]; exact hr
  · obtain ⟨_, hx, l, hl, hll, hR⟩ := h
    exact fin n μ' l hn hx hl hll hR

section
variable {c : Ctx} (G : Good c sg)
include G
variable {μ : Mem} {Q : V → Mem → Prop} {X : String → Mem → Prop}

theorem number_by_spec (D : Def c sg "_law_number_by" p__law_number_by b__law_number_by) {n : Int} (h : ∀ i μ', small i → Ext μ μ' → Q (.int i) μ') : SC c 1 false "_law_number_by" [.int n] μ Q X := by
  have p60 : (10 : Int) ^ (60 : Int).toNat = 10 ^ 60 := rfl
  have pos60 : (0 : Int) < 10 ^ (60 : Int).toNat := by decide +kernel
  have hpm : ∀ {k : Int}, ∃ s : Int, idx [V.int 1, V.int (-1)] (k % 2) = some (.int s) ∧ (s = 1 ∨ s = -1) := fun {k} => by
    have : k % 2 = 0 ∨ k % 2 = 1 := by omega
    rcases this with q | q <;> rw [q]
    · exact ⟨1, rfl, .inl rfl⟩
    · exact ⟨-1, rfl, .inr rfl⟩
  refine call_in G D rfl ?_
  unfold b__law_number_by
  walk_at "xx"
  refine br_d (fun q => ?_) (fun q => ?_)
  · walk_at "xx"
    exact h _ _ (small_of (by omega) (by omega)) (Ext.refl _)
  walk_at "xx"
  refine br_d (fun q => ?_) (fun q => ?_)
  · walk_at "xx"
    exact h _ _ (small_of (by omega) (by omega)) (Ext.refl _)
  walk_at "xx"
  refine br_d (fun q => ?_) (fun q => ?_)
  · walk_at "xx"
    refine pow_i (by decide) (by decide) (by decide) ?_
    walk_at "xx"
    refine pow_i (by decide) (by decide) (by decide) ?_
    walk_at "xx"
    refine pow_i (by decide) (by decide) (by decide) ?_
    walk_at "xx"
    refine newL_in (by show 4 ≤ 1048576; decide) fun m hm => ?_
    walk_at "xx"
    have hi : ∃ s : Int, idx [V.int 0, V.int (10 ^ (60 : Int).toNat - 1), V.int (1 - 10 ^ (60 : Int).toNat), V.int (10 ^ (59 : Int).toNat)] (n / 8 % 4) = some (.int s) ∧ small s := by
      have : n / 8 % 4 = 0 ∨ n / 8 % 4 = 1 ∨ n / 8 % 4 = 2 ∨ n / 8 % 4 = 3 := by omega
      rcases this with q | q | q | q <;> rw [q] <;> refine ⟨_, rfl, by unfold small; decide +kernel⟩
    obtain ⟨s, e1, e2⟩ := hi
    refine sub_l (updM_self _ _ _) e1 ?_
    walk_at "xx"
    exact h _ _ e2 (Ext.new hm)
  walk_at "xx"
  refine br_d (fun q => ?_) (fun q => ?_)
  · walk_at "xx"
    refine pow_i (by decide) (by decide) (by decide) ?_
    walk_at "xx"
    refine newL_in (by show 2 ≤ 1048576; decide) fun m hm => ?_
    walk_at "xx"
    obtain ⟨s, e1, e2⟩ := hpm (k := n / 16)
    refine sub_l (updM_self _ _ _) e1 ?_
    walk_at "xx"
    refine mul_i (.inr (by rcases e2 with rfl | rfl <;> decide)) ?_
    walk_at "xx"
    have b0 := Int.emod_nonneg (n / 8) (b := 10 ^ (60 : Int).toNat) (by decide +kernel)
    have b1 := Int.emod_lt_of_pos (n / 8) pos60
    rw [p60] at b0 b1
    refine h _ _ ?_ (Ext.new hm)
    rw [p60]
    rcases e2 with rfl | rfl
    · exact small_of (by omega) (by omega)
    · exact small_of (by omega) (by omega)
  walk_at "xx"
  refine br_d (fun q => ?_) (fun q => ?_)
  · walk_at "xx"
    refine pow_i (by decide) (by decide) (by decide) ?_
    walk_at "xx"
    refine pow_i (by decide) (by decide) (by decide) ?_
    walk_at "xx"
    refine newL_in (by show 2 ≤ 1048576; decide) fun m hm => ?_
    walk_at "xx"
    obtain ⟨s, e1, e2⟩ := hpm (k := n / 16)
    refine sub_l (updM_self _ _ _) e1 ?_
    walk_at "xx"
    refine mul_i (.inr (by rcases e2 with rfl | rfl <;> decide)) ?_
    walk_at "xx"
    have b0 := Int.emod_nonneg (n / 8) (b := 10 ^ (60 : Int).toNat) (by decide +kernel)
    have b1 := Int.emod_lt_of_pos (n / 8) pos60
    rw [p60] at b0 b1
    refine h _ _ ?_ (Ext.new hm)
    rw [p60]
    rcases e2 with rfl | rfl
    · exact small_of (by omega) (by omega)
    · exact small_of (by omega) (by omega)
  walk_at "xx"
  refine pow_i (by decide) (by decide) (by decide) ?_
  walk_at "xx"
  refine pow_i (by decide) (by decide) (by decide) ?_
  walk_at "xx"
  refine pow_i (by decide) (by decide) (by decide) ?_
  walk_at "xx"
  refine newL_in (by show 4 ≤ 1048576; decide) fun m hm => ?_
  walk_at "xx"
  have hi : ∃ s : Int, idx [V.int 10, V.int (10 ^ (6 : Int).toNat), V.int (10 ^ (12 : Int).toNat), V.int (10 ^ (30 : Int).toNat)] (n / 8 % 4) = some (.int s) ∧ 0 < s ∧ s < 10 ^ 61 := by
    have : n / 8 % 4 = 0 ∨ n / 8 % 4 = 1 ∨ n / 8 % 4 = 2 ∨ n / 8 % 4 = 3 := by omega
    rcases this with q | q | q | q <;> rw [q] <;> refine ⟨_, rfl, by decide +kernel, by decide +kernel⟩
  obtain ⟨s, e1, e2, e3⟩ := hi
  refine sub_l (updM_self _ _ _) e1 ?_
  walk_at "xx"
  refine mod_i e2 ?_
  walk_at "xx"
  have b0 := Int.emod_nonneg (n / 32) (b := s) (by omega)
  have b1 := Int.emod_lt_of_pos (n / 32) e2
  exact h _ _ (small_of (by omega) (by omega)) (Ext.new hm)
end

set_option autoImplicit false

set_option maxHeartbeats 2000000
set_option maxRecDepth 4000
set_option linter.unusedVariables false
set_option linter.unusedSimpArgs false
open PySem

noncomputable def strF (v : V) : Option V := match v with | .str x => some (.str x) | .int i => some (.str (Str.ofString (toString i))) | _ => none
theorem txts_map (ts : List Str) : txts (ts.map V.str) = some ts := by
  induction ts with
  | nil => rfl
  | cons t ts ih => show (txts (ts.map V.str)).map (t :: ·) = _; rw [ih]; rfl
theorem strF_ints (is : List Int) : (is.map V.int).filterMap strF = (is.map tx).map V.str := by
  induction is with
  | nil => rfl
  | cons i is ih => rw [List.map_cons, List.filterMap_cons, ih]; rfl
theorem sum_tx {is : List Int} (hi : ∀ i ∈ is, small i) : ((is.map tx).map (·.length)).sum ≤ 62 * is.length := by
  induction is with
  | nil => simp
  | cons i is ih =>
    have := (tx_fine (hi i (.head _))).2.1
    have ih := ih fun j hj => hi j (.tail _ hj)
    simp only [List.map_cons, List.sum_cons, List.length_cons]
    omega
section
variable {c : Ctx} (G : Good c sg)
include G
variable {μ : Mem} {Q : V → Mem → Prop} {X : String → Mem → Prop}

theorem shown_spec (D : Def c sg "shown" p_shown b_shown) {w : Str} {is : List Int} (hl : w.length ≤ 10) (hi : ∀ i ∈ is, small i) (hn : is.length ≤ 3) (h : ∀ μ', Ext μ μ' → Q (.str (textOf w is)) μ') : SC c 1 false "shown" [rowT w is] μ Q X := by
  refine call_in G D rfl ?_
  unfold b_shown rowT
  walk_at "xx"
  refine e_comp rfl ?_
  walk_at "xx"
  refine comp_x (items := .str w :: is.map V.int) strF (fun _ => True) (fun μ' _ => rfl) (by simp only [List.length_cons, List.length_map]; show _ ≤ 1048576; omega) (fun j v μ' K hj he hK => ?_) fun _ t μ₁ ht e1 hl1 => ?_
  · have hv := List.mem_of_getElem? hj
    refine if_nil (br_t ?_)
    rcases List.mem_cons.mp hv with rfl | hv
    · walk_at "xx"
      exact hK trivial _ (Ext.refl _)
    · obtain ⟨i, hi', rfl⟩ := List.mem_map.mp hv
      walk_at "xx"
      refine str_i (tx_fine (hi i hi')).2.2 ?_
      exact hK trivial _ (Ext.refl _)
  · have e : (V.str w :: is.map V.int).filterMap strF = (w :: is.map tx).map V.str := by
      rw [List.filterMap_cons, strF_ints]; rfl
    rw [e] at hl1
    walk_at "xx"
    refine join_s hl1 (txts_map _) ?_ ?_
    · unfold JoinOk
      rw [StrLaws.joinTotal]
      have := sum_tx hi
      have h2 : (Str.ofString " ").length = 1 := sp_len
      rw [h2]
      simp only [List.map_cons, List.sum_cons, List.length_cons, List.length_map]
      unfold Builtin.Str.tooLong
      rw [decide_eq_false]
      · rfl
      · rw [sizeLine_eq]; omega
    · walk_at "xx"
      have := text_join w is
      rw [show Txt.join (Str.ofString " ") (w :: is.map tx) = textOf w is from this]
      exact h _ e1

theorem row_by_spec (D1 : Def c sg "_law_cell_at" p__law_cell_at b__law_cell_at) (D2 : Def c sg "_law_number_by" p__law_number_by b__law_number_by) (D : Def c sg "_law_row_by" p__law_row_by b__law_row_by) {ns : List Int}
    (h : ∀ w is μ', asc w = true → w.length ≤ 10 → (∀ i ∈ is, small i) → is.length ≤ 3 → Ext μ μ' → Q (rowT w is) μ') : SC c 2 false "_law_row_by" [.frz ns] μ Q X := by
  refine call_in G D rfl ?_
  unfold b__law_row_by
  walk_at "xx"
  refine newL_in (by show 9 ≤ 1048576; decide) fun a1 h1 => ?_
  walk_at "xx"
  refine cell_at_spec G D1 (by decide) ?_
  walk_at "xx"
  have r9 : ∀ z : Int, z % 9 = 0 ∨ z % 9 = 1 ∨ z % 9 = 2 ∨ z % 9 = 3 ∨ z % 9 = 4 ∨ z % 9 = 5 ∨ z % 9 = 6 ∨ z % 9 = 7 ∨ z % 9 = 8 := fun z => by omega
  have hw : ∀ z : Int, ∃ w : Str, idx [V.str (Str.ofString "begin"), V.str (Str.ofString "do"), V.str (Str.ofString "hand"), V.str (Str.ofString "carry"), V.str (Str.ofString "begun"), V.str (Str.ofString "letter"), V.str (Str.ofString "woken"), V.str (Str.ofString "answer"), V.str (Str.ofString "end")] (z % 9) = some (.str w) ∧ asc w = true ∧ w.length ≤ 10 := fun z => by
    rcases r9 z with q | q | q | q | q | q | q | q | q <;> rw [q] <;> exact ⟨_, rfl, by decide +kernel, by decide +kernel⟩
  have hm : ∀ z : Int, ∃ m : Int, idx [V.int 1, V.int 1, V.int 3, V.int 1, V.int 1, V.int 3, V.int 2, V.int 3, V.int 1] (z % 9) = some (.int m) ∧ 1 ≤ m ∧ m ≤ 3 := fun z => by
    rcases r9 z with q | q | q | q | q | q | q | q | q <;> rw [q] <;> exact ⟨_, rfl, by decide, by decide⟩
  generalize ns.getD (0 : Int).toNat 0 = z
  obtain ⟨w, w1, w2, w3⟩ := hw z
  refine sub_l (updM_self _ _ _) w1 ?_
  have e1 := Ext.new (o := .list [V.str (Str.ofString "begin"), V.str (Str.ofString "do"), V.str (Str.ofString "hand"), V.str (Str.ofString "carry"), V.str (Str.ofString "begun"), V.str (Str.ofString "letter"), V.str (Str.ofString "woken"), V.str (Str.ofString "answer"), V.str (Str.ofString "end")]) h1
  generalize updM μ a1 _ = μ₁ at e1 ⊢
  walk_at "xx"
  refine newL_in (by show 9 ≤ 1048576; decide) fun a2 h2 => ?_
  walk_at "xx"
  refine cell_at_spec G D1 (by decide) ?_
  walk_at "xx"
  generalize ns.getD (0 : Int).toNat 0 = z2
  obtain ⟨m, m1, m2, m3⟩ := hm z2
  refine sub_l (updM_self _ _ _) m1 ?_
  have e2 := e1.trans (Ext.new (o := .list [V.int 1, V.int 1, V.int 3, V.int 1, V.int 1, V.int 3, V.int 2, V.int 3, V.int 1]) h2)
  generalize updM μ₁ a2 _ = μ₂ at e2 ⊢
  walk_at "xx"
  refine newL_in (by show 1 ≤ 1048576; decide) fun a3 h3 => ?_
  have e3 : Ext μ₂ (updM μ₂ a3 (.list [.str w])) := Ext.new h3
  have hl3 : updM μ₂ a3 (.list [.str w]) a3 = some (.list [.str w]) := updM_self _ _ _
  generalize updM μ₂ a3 (.list [.str w]) = μ₃ at e3 hl3 ⊢
  walk_at "xx"
  refine e_comp rfl ?_
  walk_at "xx"
  refine rng1 (by show m ≤ 1048576; omega) (by omega) ?_
  refine comp_r (items := rngItems 0 m 1) (fun v => ∃ i, v = .int i ∧ small i) (fun μ' _ => rfl) (by unfold rngItems; simp; show _ ≤ 1048576; omega) (fun k v μ' K hk he hK => ?_) fun n4 μ₄ l h4 e4 hl4 hll hR => ?_
  · rw [rngItems_get (.inl rfl)] at hk
    split at hk
    · cases hk
      walk_at "xx"
      refine cell_at_spec G D1 (by omega) ?_
      walk_at "xx"
      exact number_by_spec G D2 fun i μ'' hs ex => hK _ _ ⟨i, rfl, hs⟩ ex
    · cases hk
  · have hex : ∀ l : List V, (∀ v ∈ l, ∃ i, v = .int i ∧ small i) → ∃ is : List Int, l = is.map V.int ∧ ∀ i ∈ is, small i := by
      intro l
      induction l with
      | nil => intro _; exact ⟨[], rfl, fun i h => by cases h⟩
      | cons v l ih =>
        intro h
        obtain ⟨i, rfl, hi⟩ := h v (.head _)
        obtain ⟨is, rfl, his⟩ := ih fun u hu => h u (.tail _ hu)
        exact ⟨i :: is, rfl, fun j hj => by rcases List.mem_cons.mp hj with rfl | hj; exact hi; exact his j hj⟩
    obtain ⟨is, rfl, his⟩ := hex l hR
    have hlen : is.length ≤ 3 := by
      have : (rngItems 0 m 1).length = (m - 0).toNat := by unfold rngItems; simp
      rw [List.length_map, this] at hll; omega
    walk_at "xx"
    refine cat_l (e4 _ _ hl3) hl4 ?_
    refine newL_in (by simp only [List.length_append, List.length_map, List.length_cons, List.length_nil]; show _ ≤ 1048576; omega) fun y hy => ?_
    walk_at "xx"
    refine tup_l (updM_self _ _ _) ?_
    walk_at "xx"
    exact h w is _ w2 w3 his hlen (((e2.trans e3).trans e4).trans (Ext.new hy))
end

set_option autoImplicit false

set_option maxHeartbeats 2000000
set_option maxRecDepth 4000
set_option linter.unusedVariables false
set_option linter.unusedSimpArgs false
open PySem

theorem max_i {hd : Bool} {μ : Mem} {Q : V → Mem → Prop} {a b : Int} (h0 : hd = false) (h : Q (.int (max a b)) μ) : bltnW hd "max" [.int a, .int b] μ Q := ⟨h0, h⟩
/-- a comprehension of which only the kind of items is told -/
theorem comp_s {sc : Bool → Sc} {hd : Bool} {X : String → Mem → Prop} {ρ : Loc} {μ : Mem} {Q : V → Mem → Prop} {elt : E} {x : String} {cs : List String} {ifs : List E} {v : V} {items : List V} (R : V → Prop) (e : ∀ μ', Ext μ μ' → itemsOf μ' v = some items) (hz : items.length ≤ lim)
    (turn : ∀ (k : Nat) (w : V) (μ' : Mem) (K : Option V → Mem → Prop), items[k]? = some w → Ext μ μ' → (∀ r μ'', (∀ u, r = some u → R u) → Ext μ' μ'' → K r μ'') → wpIf sg sc hd ifs (updL (capL cs ρ) x w) μ' fun b μ₃ => br b (wpE sg sc hd elt (updL (capL cs ρ) x w) μ₃ (fun r μ'' => K (some r) μ'') X) (K none μ₃))
    (fin : ∀ n μ' l, μ n = none → Ext μ μ' → μ' n = some (.list l) → (∀ w ∈ l, R w) → Q (.ref n) μ') : compW sg sc hd X ρ Q elt x cs ifs v μ := by
  refine comp_in (e μ (Ext.refl μ)) fun n hn => ⟨fun k μ' => k ≤ items.length ∧ Ext μ μ' ∧ ∃ l, μ' n = some (.list l) ∧ l.length ≤ k ∧ ∀ w ∈ l, R w, ⟨Nat.zero_le _, Ext.new hn, [], updM_self _ _ _, Nat.le_refl _, fun w h => by cases h⟩, fun k μ' h => e μ' h.2.1, fun k w μ' hk h => ?_, fun μ' h => ?_⟩
  · obtain ⟨hk', hx, l, hl, hll, hR⟩ := h
    have hlt : k < items.length := (List.getElem?_eq_some_iff.mp hk).1
    refine turn k w μ' _ hk hx fun r μ'' hr ex => ?_
    cases r with
    | none => exact ⟨hlt, hx.trans ex, l, ex _ _ hl, by omega, hR⟩
    | some r =>
      refine ⟨l, ex _ _ hl, by omega, hlt, (hx.trans ex).put hn, l ++ [r], updM_self _ _ _, by simp; exact hll, fun u hu => ?_⟩
      rcases List.mem_append.mp hu with hu | hu
      · exact hR u hu
      · rw [List.mem_singleton.mp hu]; exact hr r rfl
  · obtain ⟨_, hx, l, hl, hll, hR⟩ := h
    exact fin n μ' l hn hx hl hR

section
variable {c : Ctx} (G : Good c sg)
include G
variable {μ : Mem} {Q : V → Mem → Prop} {X : String → Mem → Prop}

theorem sign_by_spec (D : Def c sg "_law_sign_by" p__law_sign_by b__law_sign_by) {n : Int} (h : ∀ x μ', asc x = true → x.length ≤ 1 → Ext μ μ' → Q (.str x) μ') : SC c 1 false "_law_sign_by" [.int n] μ Q X := by
  have hA : (Str.ofString "0123456789- abcdefghijklmnopqrstuvwxyzABCDEFGHIJKLMNOPQRSTUVWXYZ" ++ Str.ofString "!\"#$&'()*+,./:;<=>?\x40[\\]^_`{|}~\n\t").length = 96 ∧ asc (Str.ofString "0123456789- abcdefghijklmnopqrstuvwxyzABCDEFGHIJKLMNOPQRSTUVWXYZ" ++ Str.ofString "!\"#$&'()*+,./:;<=>?\x40[\\]^_`{|}~\n\t") = true := by decide +kernel
  refine call_in G D rfl ?_
  unfold b__law_sign_by
  walk_at "xx"
  refine add_s (by decide +kernel) ?_
  generalize Str.ofString "0123456789- abcdefghijklmnopqrstuvwxyzABCDEFGHIJKLMNOPQRSTUVWXYZ" ++ Str.ofString "!\"#$&'()*+,./:;<=>?\x40[\\]^_`{|}~\n\t" = y at hA ⊢
  obtain ⟨y1, y2⟩ := hA
  walk_at "xx"
  refine newL_in (by show 2 ≤ 1048576; decide) fun m hm => ?_
  walk_at "xx"
  have hi : ∃ s : Int, idx [V.int 12, V.int 96] (n % 2) = some (.int s) ∧ 0 < s ∧ s ≤ 96 := by
    have : n % 2 = 0 ∨ n % 2 = 1 := by omega
    rcases this with q | q <;> rw [q] <;> exact ⟨_, rfl, by decide, by decide⟩
  obtain ⟨s, e1, e2, e3⟩ := hi
  refine sub_l (updM_self _ _ _) e1 ?_
  walk_at "xx"
  refine mod_i e2 ?_
  walk_at "xx"
  have b0 := Int.emod_nonneg (n / 2) (b := s) (by omega)
  have b1 := Int.emod_lt_of_pos (n / 2) e2
  refine sub_s ⟨b0, by omega, by rw [y1]; decide⟩ ?_
  walk_at "xx"
  exact h _ _ (asc_item y2) (Nat.le_refl 1) (Ext.new hm)

theorem turned_spec (D : Def c sg "_law_turned" p__law_turned b__law_turned) {x sg' : Str} {n : Int} (hx : asc x = true) (hl : x.length ≤ 400) (hs : asc sg' = true) (hsl : sg'.length ≤ 1) (h : ∀ y, asc y = true → y.length ≤ 1000 → Q (.str y) μ) : SC c 1 false "_law_turned" [.str x, .int n, .str sg'] μ Q X := by
  have hlim : x.length ≤ lim := by show _ ≤ 1048576; omega
  have sl : ∀ lo hi, (Txt.slice x lo hi).length ≤ 400 := fun lo hi => Nat.le_trans (Txt.slice_le x lo hi) hl
  have sa : ∀ lo hi, asc (Txt.slice x lo hi) = true := fun lo hi => asc_slice hx
  have hsp : asc (Str.ofString " ") = true := by decide +kernel
  have hsp1 : (Str.ofString " ").length = 1 := sp_len
  refine call_in G D rfl ?_
  unfold b__law_turned
  walk_at "xx"
  refine len_s hlim ?_
  walk_at "xx"
  refine mod_i (by omega) ?_
  generalize n / 8 % ((x.length : Int) + 1) = at_
  walk_at "xx"
  refine br_d (fun q => ?_) (fun q => ?_)
  · walk_at "xx"
    refine slice_s hlim ?_
    walk_at "xx"
    refine add_s (by have := sl none (some at_); show _ ≤ 1048576; omega) ?_
    walk_at "xx"
    refine slice_s hlim ?_
    walk_at "xx"
    refine add_s (by have := sl none (some at_); have := sl (some at_) none; rw [len_app]; show _ ≤ 1048576; omega) ?_
    walk_at "xx"
    exact h _ (asc_app (asc_app (sa _ _) hs) (sa _ _)) (by have := sl none (some at_); have := sl (some at_) none; rw [len_app, len_app]; omega)
  walk_at "xx"
  refine br_d (fun q => ?_) (fun q => ?_)
  · walk_at "xx"
    refine slice_s hlim ?_
    walk_at "xx"
    refine slice_s hlim ?_
    walk_at "xx"
    refine add_s (by have := sl none (some at_); have := sl (some (at_ + 1)) none; show _ ≤ 1048576; omega) ?_
    walk_at "xx"
    exact h _ (asc_app (sa _ _) (sa _ _)) (by have := sl none (some at_); have := sl (some (at_ + 1)) none; rw [len_app]; omega)
  walk_at "xx"
  refine br_d (fun q => ?_) (fun q => ?_)
  · walk_at "xx"
    refine add_s (by show _ ≤ 1048576; omega) ?_
    walk_at "xx"
    refine add_s (by rw [len_app]; show _ ≤ 1048576; omega) ?_
    walk_at "xx"
    exact h _ (asc_app (asc_app hx hsp) hs) (by rw [len_app, len_app]; omega)
  walk_at "xx"
  refine br_d (fun q => ?_) (fun q => ?_)
  · walk_at "xx"
    refine slice_s hlim ?_
    walk_at "xx"
    exact h _ (sa _ _) (by have := sl none (some (Txt.rfind x (Str.ofString " "))); omega)
  walk_at "xx"
  refine slice_s hlim ?_
  walk_at "xx"
  refine add_s (by have := sl none (some at_); show _ ≤ 1048576; omega) ?_
  walk_at "xx"
  refine slice_s hlim ?_
  walk_at "xx"
  refine add_s (by have := sl none (some at_); have := sl (some (at_ + 1)) none; rw [len_app]; show _ ≤ 1048576; omega) ?_
  walk_at "xx"
  exact h _ (asc_app (asc_app (sa _ _) hs) (sa _ _)) (by have := sl none (some at_); have := sl (some (at_ + 1)) none; rw [len_app, len_app]; omega)
end

set_option autoImplicit false

set_option maxHeartbeats 2000000
set_option maxRecDepth 4000
set_option linter.unusedVariables false
set_option linter.unusedSimpArgs false
open PySem

structure DD (c : Ctx) : Prop where
  k : RD c
  cell : Def c sg "_law_cell_at" p__law_cell_at b__law_cell_at
  text : Def c sg "_law_text" p__law_text b__law_text
  numby : Def c sg "_law_number_by" p__law_number_by b__law_number_by
  rowby : Def c sg "_law_row_by" p__law_row_by b__law_row_by
  signby : Def c sg "_law_sign_by" p__law_sign_by b__law_sign_by
  turned : Def c sg "_law_turned" p__law_turned b__law_turned
  shown : Def c sg "shown" p_shown b_shown
  law : Def c sg "law" p_law b_law
section
variable {c : Ctx} (G : Good c sg) (D : DD c)
include G D

theorem law_mini {ns : List Int} : SC c 6 false "law" [.frz ns] (fun _ => none) (fun v _ => v = .bool true) (fun _ _ => False) := by
  have z12 : ∀ z : Int, ∃ s : Str, idx [V.str (Str.ofString ""), V.str (Str.ofString " "), V.str (Str.ofString "begin"), V.str (Str.ofString "do -"), V.str (Str.ofString "do 00"), V.str (Str.ofString "do -0"), V.str (Str.ofString "hand 1 2"), V.str (Str.ofString "Begin 1"), V.str (Str.ofString "do  1"), V.str (Str.ofString " do 1"), V.str (Str.ofString "do 1 "), V.str (Str.ofString "carry 1\n")] (z % 12) = some (.str s) ∧ s.length ≤ 1000 ∧ asc s = true ∧ lineOk s = false := fun z => by
    have : z % 12 = 0 ∨ z % 12 = 1 ∨ z % 12 = 2 ∨ z % 12 = 3 ∨ z % 12 = 4 ∨ z % 12 = 5 ∨ z % 12 = 6 ∨ z % 12 = 7 ∨ z % 12 = 8 ∨ z % 12 = 9 ∨ z % 12 = 10 ∨ z % 12 = 11 := by omega
    rcases this with q | q | q | q | q | q | q | q | q | q | q | q <;> rw [q] <;> exact ⟨_, rfl, by decide +kernel, by decide +kernel, by decide +kernel⟩
  have rest : ∀ {μ : Mem} {ρ : Loc} {x : Str}, x.length ≤ 400 → asc x = true → ρ "_law_script" = some (.frz ns) → ρ "_law_line" = some (.str x) → wpSs sg (SC c 5) false (b_law.drop 4) ρ μ (fq fun v _ => v = .bool true) (fx fun _ _ => False) := by
    intro μ ρ x hx ha r1 r2
    simp only [b_law, List.drop]
    walk_at "xx"
    refine sc_up (read_good_spec G D.k (by omega) ha fun μ₁ _ => ?_) (by decide)
    walk_at "xx"
    refine s_for rfl ?_
    walk_at "xx"
    refine min_i rfl ?_
    walk_at "xx"
    refine max_i rfl ?_
    walk_at "xx"
    refine rng2 (by show _ ≤ ((1048576 : Nat) : Int); omega) (by omega) (by decide) ?_
    refine for_rng (fun i ρ' μ' => ρ' "_law_script" = some (.frz ns) ∧ ρ' "_law_line" = some (.str x)) ⟨r1, r2⟩ (fun i ρ' μ' h4 _ hI => ?_) (fun ρ' μ' hI => ?_)
    · obtain ⟨s1, s2⟩ := hI
      walk_at "xx"
      refine sc_up (cell_at_spec G D.cell (by omega) ?_) (by decide)
      walk_at "xx"
      refine sc_up (sign_by_spec G D.signby fun y μ₂ y1 y2 _ => ?_) (by decide)
      walk_at "xx"
      refine sc_up (turned_spec G D.turned ha hx y1 y2 fun t t1 t2 => ?_) (by decide)
      walk_at "xx"
      refine sc_up (read_good_spec G D.k t2 t1 fun μ₃ _ => ?_) (by decide)
      walk_at "xx"
      exact ⟨by walk_at "ro", by walk_at "ro"⟩
    · obtain ⟨s1, s2⟩ := hI
      walk_at "xx"
      refine newL_in (by show 12 ≤ 1048576; decide) fun m hm => ?_
      have hl : updM μ' m (.list [V.str (Str.ofString ""), V.str (Str.ofString " "), V.str (Str.ofString "begin"), V.str (Str.ofString "do -"), V.str (Str.ofString "do 00"), V.str (Str.ofString "do -0"), V.str (Str.ofString "hand 1 2"), V.str (Str.ofString "Begin 1"), V.str (Str.ofString "do  1"), V.str (Str.ofString " do 1"), V.str (Str.ofString "do 1 "), V.str (Str.ofString "carry 1\n")]) m = _ := updM_self _ _ _
      generalize updM μ' m _ = μ₂ at hl ⊢
      walk_at "xx"
      refine sc_up (read_good_spec G D.k (by omega) ha fun μ₃ e3 => ?_) (by decide)
      walk_at "xx"
      refine sc_up (cell_at_spec G D.cell (by decide) ?_) (by decide)
      walk_at "xx"
      generalize ns.getD (9 : Int).toNat 0 = z
      obtain ⟨s, w1, w2, w3, w4⟩ := z12 z
      refine sub_l (e3 _ _ hl) w1 ?_
      walk_at "xx"
      refine sc_up (refused_spec G D.k w2 w3 fun μ₄ _ => ?_) (by decide)
      rw [w4]
      walk_at "xx"
      rfl
  refine call_in G D.law rfl ?_
  unfold b_law
  simp only [b_law, List.drop] at rest
  walk_at "xx"
  refine sc_up (row_by_spec G D.cell D.numby D.rowby fun w is μ₁ w1 w2 i1 i2 _ => ?_) (by decide)
  walk_at "xx"
  refine sc_up (text_spec G D.text w1 w2 i1 i2 ?_) (by decide)
  obtain ⟨t1, t2⟩ := text_fine w1 is i1
  walk_at "xx"
  refine e_comp rfl ?_
  walk_at "xx"
  unfold rowT
  refine slice_t (by decide) (by simp only [List.length_cons]; omega) trivial ?_
  show compW _ _ _ _ _ _ _ _ _ _ (.tup (is.map V.int)) μ₁
  refine comp_s (items := is.map V.int) leafy (fun μ' _ => rfl) (by rw [List.length_map]; show _ ≤ 1048576; omega) (fun k v μ' K hk he hK => ?_) fun n μ₂ l hn e2 hl2 hR => ?_
  · obtain ⟨i, hi, rfl⟩ := List.mem_map.mp (List.mem_of_getElem? hk)
    have yes : K (some (.int i)) μ' := hK _ _ (fun u hu => by cases hu; exact .inl ⟨i, rfl⟩) (Ext.refl _)
    have no : K none μ' := hK _ _ (fun u hu => by cases hu) (Ext.refl _)
    refine if_one ?_
    walk_at "xx"
    refine pow_i (by decide) (by decide) (by decide) ?_
    walk_at "xx"
    refine br_d (fun q => ?_) (fun q => ?_)
    · walk_at "xx"
      exact yes
    · walk_at "xx"
      refine pow_i (by decide) (by decide) (by decide) ?_
      walk_at "xx"
      refine br_d (fun q => ?_) (fun q => ?_)
      · walk_at "xx"
        exact yes
      · walk_at "xx"
        exact no
  · walk_at "xx"
    refine newL_in (by decide) fun b hb => ?_
    have hb3 : updM μ₂ b (.list []) b = some (.list []) := updM_self _ _ _
    have e3 : Ext μ₂ (updM μ₂ b (.list [])) := Ext.new hb
    generalize updM μ₂ b (.list []) = μ₃ at hb3 e3 ⊢
    walk_at "xx"
    refine eq_nil (e3 _ _ hl2) hb3 hR ?_
    walk_at "xx"
    have hx : (textOf w is).length ≤ 400 := by omega
    refine br_d (fun q => ?_) (fun q => ?_)
    · walk_at "xx"
      refine sc_up (shown_spec G D.shown w2 i1 i2 fun μ₄ _ => ?_) (by decide)
      walk_at "xx"
      refine sc_up (alike_leaf G D.k.whole D.k.alike (v := .str (textOf w is)) (asc_ok t1) ?_) (by decide)
      repeat (first | (with_reducible refine rest hx t1 ?_ ?_) | walk_at "w")
      · walk_at "ro"
      · walk_at "ro"
    · refine br_df q ?_
      exact rest hx t1 (by walk_at "ro") (by walk_at "ro")
end

end Mine

namespace Mine
open PySem PySem.W PySem.Calls PyProof.Rows
theorem all_defs {w : World} {base : Heap} {p : Program} {loose : List Str} {mg mb : Str → Option Value} (X : (Kq w.params).In base) (T : TopRead p loose mg mb base) : DD (ctx w base) :=
  ⟨⟨d_number_of X T, d_read X T, d__law_number_good X T, d__law_deed_of X T, d__law_refused X T, d__law_read_good X T, d__law_whole X T, d__law_alike X T⟩, d__law_cell_at X T, d__law_text X T, d__law_number_by X T, d__law_row_by X T, d__law_sign_by X T, d__law_turned X T, d_shown X T, d_law X T⟩
set_option maxRecDepth 100000 in
set_option maxHeartbeats 8000000 in
theorem said_q : OpenLaw.wellSaid Challenge.rw_uf040019_13 = true := by kernel_rfl
end Mine
open PySem PySem.W PyProof.Rows Mine
set_option maxRecDepth 100000 in
set_option maxHeartbeats 8000000 in
theorem PySem.Challenge.cw_uf040019_13_holds : PySem.Challenge.rw_uf040019_13.Holds := by
  w_on
  refine holds_law said_q fun said => ?_
  refine own_head (by assumption) ?hw ?hc
  case hw => w_witness2
  case hc =>
  intro w s₀ s₁ mg mb G Y fa o pm cd doc dV kV ho hd hcd hD hmg hg args vals as hpre hlay hrd hwl hlo
  clear ho hd hcd hD
  have KX := kq_of Y
  clear Y
  refine Ground.open G ?_
  intro T B D TE TW
  have TR := topRead_of T
  clear B D TE TW
  have hfa' : fa = 200 := Value.ref.inj (Option.some.inj (hmg.symm.trans (law_at KX TR)))
  clear hmg
  subst hfa'
  wrow_args hpre hlay hrd hwl hlo
  all_goals refine enter_call ?_
  with_reducible rename IntsAre _ _ => hI
  with_reducible rename Heap.IsList _ _ _ => hL
  with_reducible rename ¬ _ < _ => hlen
  have hn : ((_ : List Int).length) ≤ 63 := Int.ofNat_le.mp (Int.not_lt.mp hlen)
  exact top_sound (c := ctx w s₁.heap) rfl (by decide) rfl hL hI (Nat.le_trans hn (by decide)) (law_mini (good KX TR) (all_defs KX TR)) fun s' hk hos hgens => GoodW.toG ⟨.inl ⟨_, _, _, rfl, fun _ => rfl, .bool true, postW_of (X := true) rfl (by first | rfl | kernel_rfl | (simp; done)) rfl, fun _ => ⟨List.nodup_nil, nofun⟩⟩, hk, hos, hgens.trans hg⟩

