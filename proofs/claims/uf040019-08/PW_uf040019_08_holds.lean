import PyProof.Rows.All
import Wide.All
import OpenK.AllK
import Wide.FinOn
import OpenK.KMore
import PyProof.SliceMore
import PyProof.Rows.TupMore
import KE.LcSums
import OpenK.KNot
import PyProof.ExcAttrAll.ValueError
import KE.KIsAll
import KE.KTryMore
import PyProof.DictWalks
import KE.KItemsList
import PyProof.Rows.SetFrom
import PyProof.SetRoads
import PyProof.IsiHeapPairs
import KE.KItem
import PySem.Challenge.RW_uf040019_08
set_option Elab.async false
set_option autoImplicit false
namespace Mine
open PySem

/-! A small language: the part of Python that the laws use; tuples by value, lists and instances at addresses. -/

set_option genSizeOf false in
inductive V where
  | none
  | bool (b : Bool)
  | int (i : Int)
  | str (s : Str)
  | tup (l : List V)
  | ref (a : Addr)
  | rng (lo hi step : Int)
  | exc (cls : String)
  | frz (ns : List Int)
  | dk (a : Addr) (ep : Nat) (ks : List Int)

set_option genSizeOf false in
set_option genInjectivity false in
inductive O where
  | list (l : List V)
  | inst (cls : String) (d : Addr)
  | attrs (fs : List (String × V))
  | dict (ep : Nat) (kvs : List (Int × V))

noncomputable abbrev Mem := Addr → Option O
noncomputable abbrev Loc := String → Option V

noncomputable def updM (μ : Mem) (a : Addr) (o : O) : Mem := fun x => if x = a then some o else μ x
noncomputable def updL (ρ : Loc) (a : String) (v : V) : Loc := fun x => if x = a then some v else ρ x
noncomputable def delL (ρ : Loc) (a : String) : Loc := fun x => if x = a then none else ρ x

theorem updM_self (μ : Mem) (a : Addr) (o : O) : updM μ a o a = some o := by simp [updM]
theorem updM_ne {μ : Mem} {a b : Addr} {o : O} (h : b ≠ a) : updM μ a o b = μ b := by simp [updM, h]
theorem updL_at (ρ : Loc) (a b : String) (v : V) : updL ρ a v b = if b = a then some v else ρ b := rfl
set_option genInjectivity false in
/-- classes that isinstance is asked about -/
inductive Cl where
  | ty (n : String)
  | own (n : String)
  | owns (ns : List (String × Pos))

set_option genInjectivity false in
/-- list(d.items()), len(set(l)), isinstance(d, dict) -/
inductive Un where
  | items
  | lenset
  | isd

set_option genInjectivity false in
inductive E where
  | none (p : Pos)
  | bool (b : Bool) (p : Pos)
  | int (i : Int) (p : Pos)
  | str (s : String) (p : Pos)
  | loc (x : String) (p : Pos)
  | glob (x : String) (p : Pos)
  | bin (op : Operator) (l r : E) (p : Pos)
  | neg (e : E) (p : Pos)
  | not (e : E) (p : Pos)
  | and (es : List E) (p : Pos)
  | or (es : List E) (p : Pos)
  | cmp (op : CmpOp) (l r : E) (p : Pos)
  | cmp2 (op₁ op₂ : CmpOp) (a b c : E) (p : Pos)
  | attr (o : E) (a : String) (p : Pos)
  | sub (o i : E) (p : Pos)
  | sliceL (o l : E) (ps p : Pos)
  | sliceU (o u : E) (ps p : Pos)
  | sliceLU (o l u : E) (ps p : Pos)
  | tup (es : List E) (k : Nat) (p : Pos)
  | list (es : List E) (p : Pos)
  | call (f : String) (args : List E) (pf p : Pos)
  | new (c : String) (args : List E) (pf p : Pos)
  | bltn (f : String) (args : List E) (pf p : Pos)
  | isi (e : E) (c : Cl) (pf pc p : Pos)
  | meth (o : E) (m : String) (args : List E) (pa p : Pos)
  | dnew (p : Pos)
  | dkeys (x : String) (p : Pos)
  | dsub (o i : E) (p : Pos)
  | un (k : Un) (e : E) (p1 p2 p3 p : Pos)
  | compP (elt : E) (x y : String) (cs : List String) (it : E) (ifs : List E) (sc : Scope) (k : Nat) (px py pt p : Pos)
  | comp (elt : E) (x : String) (cs : List String) (it : E) (ifs : List E) (sc : Scope) (px p : Pos)

set_option genInjectivity false in
inductive S where
  | expr (e : E) (p : Pos)
  | assign (x : String) (e : E) (px p : Pos)
  | setattr (o : E) (a : String) (e : E) (pa p : Pos)
  | setitem (o i e : E) (ps p : Pos)
  | dset (o i e : E) (ps p : Pos)
  | unpack (xs : List (String × Pos)) (e : E) (k : Nat) (pt p : Pos)
  | ite (c : E) (t f : List S) (p : Pos)
  | for_ (x : String) (it : E) (body : List S) (px p : Pos)
  | while_ (c : E) (body : List S) (p : Pos)
  | ret (e : E) (p : Pos)
  | raise (cls msg : String) (pf pm pc p : Pos)
  | try_ (body : List S) (cls : String) (as : Option String) (h : List S) (more : List (String × Pos × E × Pos × Pos)) (pc ph p : Pos)
  | pass (p : Pos)

end Mine

set_option autoImplicit false
namespace Mine
open PySem

noncomputable abbrev Sc := String → List V → Mem → (V → Mem → Prop) → (String → Mem → Prop) → Prop

noncomputable def lim : Nat := 1048576

noncomputable def truth : V → Option Bool
  | .bool b => some b
  | _ => none
noncomputable def tr (v : V) (k : Bool → Prop) : Prop := match truth v with
  | some b => k b
  | none => False
noncomputable def br (b : Bool) (A B : Prop) : Prop := (b = true → A) ∧ (b = false → B)

/-- reads a value as data -/
noncomputable def rdAll (f : V → Option PyData) : List V → Option (List PyData)
  | [] => some []
  | v :: r => match f v, rdAll f r with
    | some d, some ds => some (d :: ds)
    | _, _ => none
noncomputable def rd (μ : Mem) : Nat → V → Option PyData
  | 0, _ => none
  | n + 1, v => match v with
    | .none => some .none
    | .bool b => some (.bool b)
    | .int i => some (.int i)
    | .str s => if PyData.strOk s then some (.str s) else none
    | .tup l => (rdAll (rd μ n) l).map .tuple
    | .ref a => match μ a with
      | some (.list l) => (rdAll (rd μ n) l).map .list
      | _ => none
    | _ => none
noncomputable def deq (μ : Mem) (a b : V) : Option Bool := match a, b with
  | .int i, .int j => some (decide (i = j))
  | _, _ => match rd μ 8 a, rd μ 8 b with
    | some x, some y => some (PyData.eqv x y)
    | _, _ => none

noncomputable def isO (v : V) : V → Option Bool
  | .none => some (match v with | .none => true | _ => false)
  | _ => none

noncomputable def inO (μ : Mem) (v w : V) : Option Bool := match rd μ 8 w, rd μ 8 v with
  | some (.list xs), some d => some (xs.any fun y => PyData.eqv y d)
  | _, _ => none

noncomputable def cmpO (op : CmpOp) (μ : Mem) (a b : V) : Option Bool := match op with
  | .Eq => deq μ a b
  | .NotEq => (deq μ a b).map (!·)
  | .Lt => match a, b with | .int i, .int j => some (decide (i < j)) | _, _ => none
  | .LtE => match a, b with | .int i, .int j => some (decide (i ≤ j)) | _, _ => none
  | .Gt => match a, b with | .int i, .int j => some (decide (j < i)) | _, _ => none
  | .GtE => match a, b with | .int i, .int j => some (decide (j ≤ i)) | _, _ => none
  | .Is => isO a b
  | .IsNot => (isO a b).map (!·)
  | .In => none
  | .NotIn => none
noncomputable def cmpW (op : CmpOp) (μ : Mem) (a b : V) (Q : V → Mem → Prop) : Prop := match cmpO op μ a b with
  | some c => Q (.bool c) μ
  | none => False

noncomputable def newL (μ : Mem) (l : List V) (Q : V → Mem → Prop) : Prop := l.length ≤ lim ∧ ∀ n, μ n = none → Q (.ref n) (updM μ n (.list l))

noncomputable def asInt (v : V) (k : Int → Prop) : Prop := match v with | .int i => k i | _ => False
noncomputable def asL (μ : Mem) (v : V) (k : Addr → List V → Prop) : Prop := match v with
  | .ref x => (match μ x with | some (.list l) => k x l | _ => False)
  | _ => False
noncomputable def asD (μ : Mem) (v : V) (k : Addr → Nat → List (Int × V) → Prop) : Prop := match v with
  | .ref x => (match μ x with | some (.dict ep l) => k x ep l | _ => False)
  | _ => False
noncomputable def asT (v : V) (k : List V → Prop) : Prop := match v with | .tup l => k l | _ => False
noncomputable def one (vs : List V) (k : V → Prop) : Prop := match vs with | [v] => k v | _ => False
noncomputable def two (vs : List V) (k : V → V → Prop) : Prop := match vs with | [v, w] => k v w | _ => False
noncomputable def ints2 (a b : V) (k : Int → Int → Prop) : Prop := asInt a fun i => asInt b fun j => k i j

noncomputable def binW (op : Operator) (a b : V) (μ : Mem) (Q : V → Mem → Prop) : Prop := match op with
  | .Add => (match a with
    | .int i => asInt b fun j => Q (.int (i + j)) μ
    | a => asL μ a fun _ l => asL μ b fun _ k => newL μ (l ++ k) Q)
  | .Sub => ints2 a b fun i j => Q (.int (i - j)) μ
  | .Mult => (match a with
    | .int i => asInt b fun j => (i.natAbs < 2 ^ 63 ∨ j.natAbs < 2 ^ 63) ∧ Q (.int (i * j)) μ
    | a => asL μ a fun _ l => asInt b fun n => 0 ≤ n ∧ n ≤ 1000000 ∧ n.toNat * l.length ≤ lim ∧ newL μ (List.replicate n.toNat l).flatten Q)
  | .FloorDiv => ints2 a b fun i j => 0 < j ∧ j < 1000000000 ∧ Q (.int (i / j)) μ
  | .Mod => ints2 a b fun i j => 0 < j ∧ Q (.int (i % j)) μ
  | .Pow => ints2 a b fun i j => 0 ≤ j ∧ j ≤ 1000 ∧ i.natAbs < 2 ^ 63 ∧ Q (.int (i ^ j.toNat)) μ
  | _ => False

noncomputable def getA (μ : Mem) (v : V) (a : String) : Option V := match v with
  | .ref x => match μ x with
    | some (.inst _ d) => match μ d with
      | some (.attrs fs) => fs.lookup a
      | _ => none
    | _ => none
  | _ => none

noncomputable def putA (a : String) (v : V) : List (String × V) → List (String × V)
  | [] => [(a, v)]
  | (b, w) :: r => if b = a then (b, v) :: r else (b, w) :: putA a v r

noncomputable def idx (l : List V) (i : Int) : Option V := if 0 ≤ i then l[i.toNat]? else if 0 ≤ i + l.length then l[(i + l.length).toNat]? else none
noncomputable def subO (μ : Mem) (o i : V) : Option V := match o, i with
  | .ref x, .int i => match μ x with
    | some (.list l) => idx l i
    | _ => none
  | .tup l, .int i => idx l i
  | .frz ns, .int i => if 0 ≤ i then (ns[i.toNat]?).map .int else none
  | _, _ => none
noncomputable def optW (r : Option V) (μ : Mem) (Q : V → Mem → Prop) : Prop := match r with
  | some v => Q v μ
  | none => False

noncomputable def cut (lo : Option Int) (hi : Option Int) (l : List V) : List V :=
  let k := match hi with | some u => l.take u.toNat | none => l
  match lo with | some i => k.drop i.toNat | none => k
noncomputable def nn (i : Option Int) : Prop := match i with | some i => 0 ≤ i | none => True
noncomputable def sliceW (μ : Mem) (o : V) (lo hi : Option Int) (Q : V → Mem → Prop) : Prop := match o with
  | .ref x => match μ x with
    | some (.list l) => nn lo ∧ nn hi ∧ newL μ (cut lo hi l) Q
    | _ => False
  | _ => False

noncomputable def rngItems (lo hi step : Int) : List V :=
  if step = 1 then (List.range (hi - lo).toNat).map fun (i : Nat) => V.int (lo + i)
  else if step = -1 then (List.range (lo - hi).toNat).map fun (i : Nat) => V.int (lo - i)
  else []
noncomputable def itemsOf (μ : Mem) (v : V) : Option (List V) := match v with
  | .rng lo hi step => some (rngItems lo hi step)
  | .ref x => match μ x with
    | some (.list l) => some l
    | _ => none
  | .dk x ep ks => match μ x with
    | some (.dict ep' l) => if x ≠ 1 ∧ ep' = ep ∧ l.map (·.1) = ks then some (ks.map V.int) else none
    | _ => none
  | _ => none

noncomputable def tyO (μ : Mem) (v : V) : Option String := match v with
  | .none => some "NoneType"
  | .bool _ => some "bool"
  | .int _ => some "int"
  | .str _ => some "str"
  | .tup _ => some "tuple"
  | .ref x => match μ x with
    | some (.list _) => some "list"
    | _ => none
  | _ => none
noncomputable def isSub (x c : String) : Bool := x == c || c == "DebtError"
noncomputable def isiO (μ : Mem) (v : V) (c : Cl) : Option Bool := match c with
  | .ty n => match v with
    | .exc _ => none
    | v => if n = "int" ∨ n = "bool" ∨ n = "str" ∨ n = "tuple" ∨ n = "list" then (tyO μ v).map fun t => t == n || (t == "bool" && n == "int") else none
  | .own _ => none
  | .owns _ => none

noncomputable def sumO : List V → Option Int
  | [] => some 0
  | .int i :: r => (sumO r).map (i + ·)
  | _ => none
noncomputable def allO : List V → Option Bool
  | [] => some true
  | .bool b :: r => (allO r).map (b && ·)
  | _ => none

noncomputable def lenW (v : V) (μ : Mem) (Q : V → Mem → Prop) : Prop := match v with
  | .tup l => Q (.int l.length) μ
  | .frz ns => Q (.int ns.length) μ
  | v => asL μ v fun _ l => Q (.int l.length) μ
noncomputable def mid (b : Int) : Prop := -2 ^ 62 < b ∧ b < 2 ^ 62
noncomputable def rngW (vs : List V) (μ : Mem) (Q : V → Mem → Prop) : Prop := match vs with
  | [a] => asInt a fun b => b ≤ lim ∧ -2 ^ 62 < b ∧ Q (.rng 0 b 1) μ
  | [a, b] => ints2 a b fun a b => b - a ≤ lim ∧ mid b ∧ mid a ∧ Q (.rng a b 1) μ
  | [a, b, c] => ints2 a b fun a b => asInt c fun c => c = -1 ∧ a - b ≤ lim ∧ mid b ∧ mid a ∧ Q (.rng a b (-1)) μ
  | _ => False
noncomputable def listW (hd : Bool) (v : V) (μ : Mem) (Q : V → Mem → Prop) : Prop := match v with
  | .rng lo hi st => hd = false ∧ st = 1 ∧ hi - lo ≤ lim ∧ mid lo ∧ mid hi ∧ newL μ (rngItems lo hi st) Q
  | v => asL μ v fun _ l => newL μ l Q
noncomputable def sumW (l : List V) (k : Int → Prop) : Prop := match sumO l with | some i => k i | none => False
noncomputable def cntO (k : Int) : List V → Option Nat
  | [] => some 0
  | .int i :: r => (cntO k r).map fun n => (if i = k then 1 else 0) + n
  | .none :: r => cntO k r
  | _ => none
noncomputable def cntW (k : Int) (l : List V) (K : Nat → Prop) : Prop := match cntO k l with | some n => K n | none => False
noncomputable def allW (l : List V) (k : Bool → Prop) : Prop := match allO l with | some b => k b | none => False
noncomputable def bltnW (hd : Bool) (f : String) (vs : List V) (μ : Mem) (Q : V → Mem → Prop) : Prop :=
  if f = "len" then one vs fun v => lenW v μ Q
  else if f = "range" then rngW vs μ Q
  else if f = "list" then one vs fun v => listW hd v μ Q
  else if f = "all" then hd = false ∧ one vs fun v => asL μ v fun _ l => allW l fun b => Q (.bool b) μ
  else False

noncomputable def pairs (l : List (Int × V)) : List V := l.map fun q => .tup [.int q.1, q.2]
noncomputable def unW (hd : Bool) (k : Un) (v : V) (μ : Mem) (Q : V → Mem → Prop) : Prop := match k with
  | .items => hd = false ∧ asD μ v fun x _ l => x ≠ 1 ∧ newL μ (pairs l) Q
  | .lenset => hd = false ∧ asL μ v fun _ l => ∃ ns : List Int, l = ns.map V.int ∧ ns.Nodup ∧ ns.length < 1000 ∧ Q (.int ns.length) μ
  | .isd => asD μ v fun _ _ _ => Q (.bool true) μ
noncomputable def pairW (w : V) (k : V → V → Prop) : Prop := match w with
  | .tup [a, b] => k a b
  | _ => False
structure Sig where
  fns : List String
  clss : List String
  attrs : List String
  meths : List (String × String)
  excs : List String
  consts : List (String × V)

inductive Cal where
  | own (f : String) (self : Addr)
  | lst (m : String) (a : Addr)
noncomputable def calO (sg : Sig) (μ : Mem) (v : V) (m : String) : Option Cal := match v with
  | .ref x => match μ x with
    | some (.inst c d) => match μ d with
      | some (.attrs fs) => if (fs.lookup m).isNone && sg.meths.contains (c, m) then some (.own (c ++ "." ++ m) x) else none
      | _ => none
    | some (.list _) => if m = "append" ∨ m = "extend" ∨ m = "count" then some (.lst m x) else none
    | _ => none
  | _ => none
noncomputable def lstW (m : String) (a : Addr) (vs : List V) (μ : Mem) (Q : V → Mem → Prop) : Prop := asL μ (.ref a) fun _ l =>
  if m = "append" then one vs fun v => l.length < lim ∧ Q .none (updM μ a (.list (l ++ [v])))
  else if m = "extend" then one vs fun v => asL μ v fun b k => b ≠ a ∧ l.length + k.length ≤ lim ∧ Q .none (updM μ a (.list (l ++ k)))
  else False

inductive Fl where
  | next
  | ret (v : V)
/-- what follows a block -/
noncomputable def sq (R : Loc → Mem → Prop) (Q : Fl → Loc → Mem → Prop) : Fl → Loc → Mem → Prop := fun fl ρ μ => match fl with | .next => R ρ μ | .ret v => Q (.ret v) ρ μ
/-- loops, by what stands ahead of the turn k -/
noncomputable def capL (cs : List String) (ρ : Loc) : Loc := fun y => if cs.contains y then ρ y else none
/-- what a turn of a comprehension leaves: an item more, or none -/
noncomputable def compT (n : Addr) (J : Mem → Prop) (r : Option V) (μ' : Mem) : Prop := match r with
  | some r => ∃ acc, μ' n = some (.list acc) ∧ acc.length < lim ∧ J (updM μ' n (.list (acc ++ [r])))
  | none => J μ'
noncomputable def compI (n : Addr) (still : Mem → Prop) (B : V → Mem → (Option V → Mem → Prop) → Prop) (items : List V) (μ : Mem) (Q : Mem → Prop) : Prop :=
  ∃ I : Nat → Mem → Prop, I 0 μ ∧ (∀ k μ, I k μ → still μ) ∧ (∀ k v μ, items[k]? = some v → I k μ → B v μ (compT n (I (k + 1)))) ∧ ∀ μ, I items.length μ → Q μ
noncomputable def forI (still : Mem → Prop) (x : String) (B : Loc → Mem → (Fl → Loc → Mem → Prop) → Prop) (items : List V) (ρ : Loc) (μ : Mem) (Q : Fl → Loc → Mem → Prop) : Prop :=
  ∃ I : Nat → Loc → Mem → Prop, I 0 ρ μ ∧ (∀ k ρ μ, I k ρ μ → still μ) ∧ (∀ k v ρ μ, items[k]? = some v → I k ρ μ → B (updL ρ x v) μ (sq (I (k + 1)) Q)) ∧ ∀ ρ μ, I items.length ρ μ → Q .next ρ μ
noncomputable def whileI (T : Loc → Mem → (Bool → Mem → Prop) → Prop) (B : Loc → Mem → (Fl → Loc → Mem → Prop) → Prop) (ρ : Loc) (μ : Mem) (Q : Fl → Loc → Mem → Prop) : Prop :=
  ∃ I : Nat → Loc → Mem → Prop, (∃ n, I n ρ μ) ∧ ∀ n ρ μ, I n ρ μ → T ρ μ fun b μ₁ => br b (B ρ μ₁ (sq (fun ρ' μ' => ∃ m, m < n ∧ I m ρ' μ') Q)) (Q .next ρ μ₁)

section
variable (sg : Sig) (sc : Bool → Sc)

mutual
noncomputable def wpE (hd : Bool) : E → Loc → Mem → (V → Mem → Prop) → (String → Mem → Prop) → Prop
  | .none _, _, μ, Q, _ => Q .none μ
  | .bool b _, _, μ, Q, _ => Q (.bool b) μ
  | .int i _, _, μ, Q, _ => Q (.int i) μ
  | .str s _, _, μ, Q, _ => Q (.str (Str.ofString s)) μ
  | .loc x _, ρ, μ, Q, _ => optW (ρ x) μ Q
  | .glob x _, _, μ, Q, _ => optW (sg.consts.lookup x) μ Q
  | .bin op l r _, ρ, μ, Q, X => wpE hd l ρ μ (fun a μ₁ => wpE hd r ρ μ₁ (fun b μ₂ => binW op a b μ₂ Q) X) X
  | .neg e _, ρ, μ, Q, X => wpE hd e ρ μ (fun v μ₁ => asInt v fun i => Q (.int (-i)) μ₁) X
  | .not e _, ρ, μ, Q, X => wpE hd e ρ μ (fun v μ₁ => tr v fun b => Q (.bool (!b)) μ₁) X
  | .and es _, ρ, μ, Q, X => wpAnd hd es ρ μ Q X
  | .or es _, ρ, μ, Q, X => wpOr hd es ρ μ Q X
  | .cmp op l r _, ρ, μ, Q, X => wpE hd l ρ μ (fun a μ₁ => wpE hd r ρ μ₁ (fun b μ₂ => cmpW op μ₂ a b Q) X) X
  | .cmp2 op₁ op₂ a b c _, ρ, μ, Q, X => wpE hd a ρ μ (fun va μ₁ => wpE hd b ρ μ₁ (fun vb μ₂ => cmpW op₁ μ₂ va vb fun t μ₃ => tr t fun y =>
      br y (wpE hd c ρ μ₃ (fun vc μ₄ => cmpW op₂ μ₄ vb vc Q) X) (Q t μ₃)) X) X
  | .attr o a _, ρ, μ, Q, X => wpE hd o ρ μ (fun v μ₁ => optW (getA μ₁ v a) μ₁ Q) X
  | .sub o i _, ρ, μ, Q, X => wpE hd o ρ μ (fun v μ₁ => wpE hd i ρ μ₁ (fun j μ₂ => optW (subO μ₂ v j) μ₂ Q) X) X
  | .sliceL o l _ _, ρ, μ, Q, X => wpE hd o ρ μ (fun v μ₁ => wpE hd l ρ μ₁ (fun i μ₂ => asInt i fun i => sliceW μ₂ v (some i) none Q) X) X
  | .sliceU o u _ _, ρ, μ, Q, X => wpE hd o ρ μ (fun v μ₁ => wpE hd u ρ μ₁ (fun i μ₂ => asInt i fun i => sliceW μ₂ v none (some i) Q) X) X
  | .sliceLU o l u _ _, ρ, μ, Q, X => wpE hd o ρ μ (fun v μ₁ => wpE hd l ρ μ₁ (fun i μ₂ => wpE hd u ρ μ₂ (fun j μ₃ => asInt i fun i => asInt j fun j => sliceW μ₃ v (some i) (some j) Q) X) X) X
  | .tup es _ _, ρ, μ, Q, X => wpEs hd es ρ μ (fun vs μ₁ => Q (.tup vs) μ₁) X
  | .list es _, ρ, μ, Q, X => wpEs hd es ρ μ (fun vs μ₁ => newL μ₁ vs Q) X
  | .call f es _ _, ρ, μ, Q, X => wpEs hd es ρ μ (fun vs μ₁ => sc hd f vs μ₁ Q X) X
  | .new c es _ _, ρ, μ, Q, X => wpEs hd es ρ μ (fun vs μ₁ => ∀ a d, μ₁ a = none → μ₁ d = none → d ≠ a →
      sc hd (c ++ ".__init__") (.ref a :: vs) (updM (updM μ₁ d (.attrs [])) a (.inst c d)) (fun v μ₂ => (match v with | .none => True | _ => False) ∧ Q (.ref a) μ₂) X) X
  | .bltn f es _ _, ρ, μ, Q, X => wpEs hd es ρ μ (fun vs μ₁ => bltnW hd f vs μ₁ Q) X
  | .isi e c _ _ _, ρ, μ, Q, X => wpE hd e ρ μ (fun v μ₁ => match isiO μ₁ v c with | some b => Q (.bool b) μ₁ | none => False) X
  | .meth o m es _ _, ρ, μ, Q, X => wpE hd o ρ μ (fun v μ₁ => match calO sg μ₁ v m with
      | some (.own f a) => wpEs hd es ρ μ₁ (fun vs μ₂ => sc hd f (.ref a :: vs) μ₂ Q X) X
      | some (.lst m a) => wpEs hd es ρ μ₁ (fun vs μ₂ => lstW m a vs μ₂ Q) X
      | none => False) X
  | .dnew _, _, μ, Q, _ => ∀ n ep, μ n = none → n ≠ 1 → Q (.ref n) (updM μ n (.dict ep []))
  | .dkeys x _, ρ, μ, Q, _ => optW (ρ x) μ fun v μ₁ => asD μ₁ v fun a ep l => Q (.dk a ep (l.map (·.1))) μ₁
  | .dsub o i _, ρ, μ, Q, X => wpE hd o ρ μ (fun v μ₁ => wpE hd i ρ μ₁ (fun j μ₂ => asD μ₂ v fun _ _ l => asInt j fun k => optW (l.lookup k) μ₂ Q) X) X
  | .un k e _ _ _ _, ρ, μ, Q, X => wpE hd e ρ μ (fun v μ₁ => unW hd k v μ₁ Q) X
  | .compP elt x y cs it ifs _ _ _ _ _ _, ρ, μ, Q, X => hd = false ∧ wpE hd it ρ μ (fun v μ₁ => match itemsOf μ₁ v with
      | some items => ∀ n, μ₁ n = none → compI n (fun μ' => itemsOf μ' v = some items) (fun w μ₂ k => pairW w fun a b => wpIf hd ifs (updL (updL (capL cs ρ) x a) y b) μ₂ fun t μ₃ =>
          br t (wpE hd elt (updL (updL (capL cs ρ) x a) y b) μ₃ (fun r μ' => k (some r) μ') fun _ _ => False) (k none μ₃)) items (updM μ₁ n (.list [])) (Q (.ref n))
      | none => False) X
  | .comp elt x cs it ifs _ _ _, ρ, μ, Q, X => hd = false ∧ wpE hd it ρ μ (fun v μ₁ => match itemsOf μ₁ v with
      | some items => ∀ n, μ₁ n = none → compI n (fun μ' => itemsOf μ' v = some items) (fun w μ₂ k => wpIf hd ifs (updL (capL cs ρ) x w) μ₂ fun b μ₃ =>
          br b (wpE hd elt (updL (capL cs ρ) x w) μ₃ (fun r μ' => k (some r) μ') fun _ _ => False) (k none μ₃)) items (updM μ₁ n (.list [])) (Q (.ref n))
      | none => False) X
noncomputable def wpIf (hd : Bool) : List E → Loc → Mem → (Bool → Mem → Prop) → Prop
  | [], _, μ, k => k true μ
  | e :: _, ρ, μ, k => wpE hd e ρ μ (fun v μ₁ => tr v fun b => k b μ₁) fun _ _ => False
noncomputable def wpEs (hd : Bool) : List E → Loc → Mem → (List V → Mem → Prop) → (String → Mem → Prop) → Prop
  | [], _, μ, Q, _ => Q [] μ
  | e :: es, ρ, μ, Q, X => wpE hd e ρ μ (fun v μ₁ => wpEs hd es ρ μ₁ (fun vs μ₂ => Q (v :: vs) μ₂) X) X
noncomputable def wpAnd (hd : Bool) : List E → Loc → Mem → (V → Mem → Prop) → (String → Mem → Prop) → Prop
  | [], _, _, _, _ => False
  | e :: es, ρ, μ, Q, X => match es with
    | [] => wpE hd e ρ μ Q X
    | _ :: _ => wpE hd e ρ μ (fun v μ₁ => tr v fun b => br b (wpAnd hd es ρ μ₁ Q X) (Q v μ₁)) X
noncomputable def wpOr (hd : Bool) : List E → Loc → Mem → (V → Mem → Prop) → (String → Mem → Prop) → Prop
  | [], _, _, _, _ => False
  | e :: es, ρ, μ, Q, X => match es with
    | [] => wpE hd e ρ μ Q X
    | _ :: _ => wpE hd e ρ μ (fun v μ₁ => tr v fun b => br b (Q v μ₁) (wpOr hd es ρ μ₁ Q X)) X
end

noncomputable def moreW (x : String) (ρ : Loc) (μ : Mem) (Q : Fl → Loc → Mem → Prop) : List (String × Pos × E × Pos × Pos) → Prop
  | [] => False
  | (c, _, e, _, _) :: r => if isSub x c then wpE sg sc true e ρ μ (fun v μ₁ => Q (.ret v) ρ μ₁) (fun _ _ => False) else moreW x ρ μ Q r

noncomputable def bindAll : List String → List V → Loc → Option Loc
  | [], [], ρ => some ρ
  | x :: xs, v :: vs, ρ => bindAll xs vs (updL ρ x v)
  | _, _, _ => none

mutual
noncomputable def wpS (hd : Bool) : S → Loc → Mem → (Fl → Loc → Mem → Prop) → (String → Loc → Mem → Prop) → Prop
  | .expr e _, ρ, μ, Q, X => wpE sg sc hd e ρ μ (fun _ μ₁ => Q .next ρ μ₁) (fun x μ₁ => X x ρ μ₁)
  | .assign x e _ _, ρ, μ, Q, X => wpE sg sc hd e ρ μ (fun v μ₁ => Q .next (updL ρ x v) μ₁) (fun x μ₁ => X x ρ μ₁)
  | .setattr o a e _ _, ρ, μ, Q, X => wpE sg sc hd e ρ μ (fun v μ₁ => wpE sg sc hd o ρ μ₁ (fun w μ₂ => match w with
      | .ref x => (match μ₂ x with
        | some (.inst _ d) => (match μ₂ d with
          | some (.attrs fs) => fs.length < 900 ∧ Q .next ρ (updM μ₂ d (.attrs (putA a v fs)))
          | _ => False)
        | _ => False)
      | _ => False) (fun x μ₁ => X x ρ μ₁)) (fun x μ₁ => X x ρ μ₁)
  | .setitem o i e _ _, ρ, μ, Q, X => wpE sg sc hd e ρ μ (fun v μ₁ => wpE sg sc hd o ρ μ₁ (fun w μ₂ => wpE sg sc hd i ρ μ₂ (fun j μ₃ => match w, j with
      | .ref x, .int k => (match μ₃ x with
        | some (.list l) => 0 ≤ k ∧ k < l.length ∧ Q .next ρ (updM μ₃ x (.list (l.set k.toNat v)))
        | _ => False)
      | _, _ => False) (fun x μ₁ => X x ρ μ₁)) (fun x μ₁ => X x ρ μ₁)) (fun x μ₁ => X x ρ μ₁)
  | .dset o i e _ _, ρ, μ, Q, X => wpE sg sc hd e ρ μ (fun v μ₁ => wpE sg sc hd o ρ μ₁ (fun w μ₂ => wpE sg sc hd i ρ μ₂ (fun j μ₃ => asD μ₃ w fun x _ l => asInt j fun k =>
      k ∉ l.map (·.1) ∧ l.length < 1000 ∧ ∀ ep, Q .next ρ (updM μ₃ x (.dict ep (l ++ [(k, v)])))) (fun x μ₁ => X x ρ μ₁)) (fun x μ₁ => X x ρ μ₁)) (fun x μ₁ => X x ρ μ₁)
  | .unpack xs e _ _ _, ρ, μ, Q, X => hd = false ∧ wpE sg sc hd e ρ μ (fun v μ₁ => asT v fun l => match bindAll (xs.map (·.1)) l ρ with
        | some ρ' => Q .next ρ' μ₁
        | none => False) (fun x μ₁ => X x ρ μ₁)
  | .ite c t f _, ρ, μ, Q, X => wpE sg sc hd c ρ μ (fun v μ₁ => tr v fun b => br b (wpSs hd t ρ μ₁ Q X) (wpSs hd f ρ μ₁ Q X)) (fun x μ₁ => X x ρ μ₁)
  | .for_ x it body _ _, ρ, μ, Q, X => hd = false ∧ wpE sg sc hd it ρ μ (fun v μ₁ => match itemsOf μ₁ v with
      | some items => forI (fun μ' => itemsOf μ' v = some items) x (fun ρ' μ' k => wpSs hd body ρ' μ' k fun _ _ _ => False) items ρ μ₁ Q
      | none => False) (fun x μ₁ => X x ρ μ₁)
  | .while_ c body _, ρ, μ, Q, _ => whileI (fun ρ' μ' k => wpE sg sc hd c ρ' μ' (fun v μ₁ => tr v fun b => k b μ₁) fun _ _ => False) (fun ρ' μ' k => wpSs hd body ρ' μ' k fun _ _ _ => False) ρ μ Q
  | .ret e _, ρ, μ, Q, X => wpE sg sc hd e ρ μ (fun v μ₁ => Q (.ret v) ρ μ₁) (fun x μ₁ => X x ρ μ₁)
  | .raise c _ _ _ _ _, ρ, μ, _, X => hd = false ∧ X c ρ μ
  | .try_ _ _ _ _ _ _ _ _, _, _, _, _ => False
  | .pass _, ρ, μ, Q, _ => Q .next ρ μ
noncomputable def wpSs (hd : Bool) : List S → Loc → Mem → (Fl → Loc → Mem → Prop) → (String → Loc → Mem → Prop) → Prop
  | [], ρ, μ, Q, _ => Q .next ρ μ
  | s :: r, ρ, μ, Q, X => wpS hd s ρ μ (fun fl ρ₁ μ₁ => match fl with
      | .next => wpSs hd r ρ₁ μ₁ Q X
      | .ret v => Q (.ret v) ρ₁ μ₁) X
end
end
end Mine

set_option autoImplicit false
namespace Mine
open PySem

mutual
noncomputable def toE : E → Expr
  | .none p => .Constant .none 0 p
  | .bool b p => .Constant (.bool b) 0 p
  | .int i p => .Constant (.int i) 0 p
  | .str s p => .Constant (.str (Str.ofString s)) 0 p
  | .loc x p => .Name (Str.ofString x) p
  | .glob x p => .Name (Str.ofString x) p
  | .bin op l r p => .BinOp (toE l) op (toE r) p
  | .neg e p => .UnaryOp .USub (toE e) p
  | .not e p => .UnaryOp .Not (toE e) p
  | .and es p => .BoolOp .And (toEs es) p
  | .or es p => .BoolOp .Or (toEs es) p
  | .cmp op l r p => .Compare (toE l) [op] [toE r] p
  | .cmp2 op₁ op₂ a b c p => .Compare (toE a) [op₁, op₂] [toE b, toE c] p
  | .attr o a p => .Attribute (toE o) (Str.ofString a) p
  | .sub o i p => .Subscript (toE o) (toE i) p
  | .sliceL o l ps p => .Subscript (toE o) (.Slice (some (toE l)) none none ps) p
  | .sliceU o u ps p => .Subscript (toE o) (.Slice none (some (toE u)) none ps) p
  | .sliceLU o l u ps p => .Subscript (toE o) (.Slice (some (toE l)) (some (toE u)) none ps) p
  | .tup es k p => .Tuple (toEs es) k p
  | .list es p => .List (toEs es) p
  | .call f es pf p => .Call (.Name (Str.ofString f) pf) (toEs es) [] p
  | .new c es pf p => .Call (.Name (Str.ofString c) pf) (toEs es) [] p
  | .bltn f es pf p => .Call (.Name (Str.ofString f) pf) (toEs es) [] p
  | .isi e c pf pc p => .Call (.Name (Str.ofString "isinstance") pf) [toE e, match c with
      | .ty n => .Name (Str.ofString n) pc
      | .own n => .Name (Str.ofString n) pc
      | .owns ns => .Tuple (ns.map fun n => .Name (Str.ofString n.1) n.2) 0 pc] [] p
  | .meth o m es pa p => .Call (.Attribute (toE o) (Str.ofString m) pa) (toEs es) [] p
  | .dnew p => .Dict [] [] p
  | .dkeys x p => .Name (Str.ofString x) p
  | .dsub o i p => .Subscript (toE o) (toE i) p
  | .un k e p1 p2 p3 p => (match k with
    | .items => .Call (.Name (Str.ofString "list") p1) [.Call (.Attribute (toE e) (Str.ofString "items") p2) [] [] p3] [] p
    | .lenset => .Call (.Name (Str.ofString "len") p1) [.Call (.Name (Str.ofString "set") p2) [toE e] [] p3] [] p
    | .isd => .Call (.Name (Str.ofString "isinstance") p1) [toE e, .Name (Str.ofString "dict") p2] [] p)
  | .compP elt x y _ it ifs sc k px py pt p => .ListComp (toE elt) [⟨.Tuple [.Name (Str.ofString x) px, .Name (Str.ofString y) py] k pt, toE it, toEs ifs, 0⟩] sc p
  | .comp elt x _ it ifs sc px p => .ListComp (toE elt) [⟨.Name (Str.ofString x) px, toE it, toEs ifs, 0⟩] sc p
noncomputable def toEs : List E → List Expr
  | [] => []
  | e :: es => toE e :: toEs es
end

noncomputable def toMore : List (String × Pos × E × Pos × Pos) → List ExceptHandler
  | [] => []
  | (c, pc, e, pr, ph) :: r => .ExceptHandler (some (.Name (Str.ofString c) pc)) none [.Return (some (toE e)) pr] ph :: toMore r

mutual
noncomputable def toS : S → Stmt
  | .expr e p => .Expr (toE e) p
  | .assign x e px p => .Assign [.Name (Str.ofString x) px] (toE e) p
  | .setattr o a e pa p => .Assign [.Attribute (toE o) (Str.ofString a) pa] (toE e) p
  | .setitem o i e ps p => .Assign [.Subscript (toE o) (toE i) ps] (toE e) p
  | .dset o i e ps p => .Assign [.Subscript (toE o) (toE i) ps] (toE e) p
  | .unpack xs e k pt p => .Assign [.Tuple (xs.map fun x => .Name (Str.ofString x.1) x.2) k pt] (toE e) p
  | .ite c t f p => .If (toE c) (toSs t) (toSs f) p
  | .for_ x it body px p => .For (.Name (Str.ofString x) px) (toE it) (toSs body) [] p
  | .while_ c body p => .While (toE c) (toSs body) [] p
  | .ret e p => .Return (some (toE e)) p
  | .raise c m pf pm pc p => .Raise (some (.Call (.Name (Str.ofString c) pf) [.Constant (.str (Str.ofString m)) 0 pm] [] pc)) none p
  | .try_ body c as h more pc ph p => .Try (toSs body) (.ExceptHandler (some (.Name (Str.ofString c) pc)) (as.map Str.ofString) (toSs h) ph :: toMore more) [] [] p
  | .pass p => .Pass p
noncomputable def toSs : List S → List Stmt
  | [] => []
  | s :: r => toS s :: toSs r
end
end Mine

set_option autoImplicit false
namespace Mine
set_option linter.unusedVariables false
open PySem PySem.W PySem.Calls PyProof.Rows

/-! The tie between the abstract memory and the model's heap. -/

structure Ctx where
  prog : Program
  w : World
  K : Frag
  base : Heap
  cls : String → Option Addr
  exc : String → Option Addr
  fn : String → Option Addr

noncomputable def RngOk (lo hi st : Int) : Prop := (-2 ^ 62 < lo ∧ lo < 2 ^ 62) ∧ (-2 ^ 62 < hi ∧ hi < 2 ^ 62) ∧ (st = 1 ∨ st = -1)

mutual
inductive RV (c : Ctx) (h : Heap) : Value → V → Prop
  | none : RV c h .none .none
  | bool (b : Bool) : RV c h (.bool b) (.bool b)
  | int (i : Int) (t : Tok) : RV c h (.int i t) (.int i)
  | str (x : Str) (t : Tok) : RV c h (.str x t) (.str x)
  | tup {a : Addr} {o : Obj} {vs : Array Value} {n : Nat} {l : List V} : h.get? a = some o → o.cls = .type "tuple" → o.data = .seq vs n → RVs c h vs.toList l → l.length ≤ lim → RV c h (.ref a) (.tup l)
  | ref (a : Addr) : RV c h (.ref a) (.ref a)
  | rng {a : Addr} {lo hi st : Int} {t₁ t₂ t₃ : Tok} : h.get? a = some { cls := .type "range", dict := none, data := .fields #[.int lo t₁, .int hi t₂, .int st t₃], slots := #[] } → RngOk lo hi st → RV c h (.ref a) (.rng lo hi st)
  | exc {a : Addr} {o : Obj} {C : Addr} {x : String} {vs : Array Value} : h.get? a = some o → o.cls = .ref C → o.data = .fields vs → c.exc x = some C → RV c h (.ref a) (.exc x)
  | dk (a : Addr) (ep : Nat) (ks : List Int) : RV c h (.ref a) (.dk a ep ks)
  | frz {a : Addr} {o : Obj} {vs : Array Value} {n : Nat} {ns : List Int} : c.base.get? a = some o → o.cls = .type "list" → o.data = .seq vs n → IntsAre vs.toList ns → ns.length ≤ lim → RV c h (.ref a) (.frz ns)
inductive RVs (c : Ctx) (h : Heap) : List Value → List V → Prop
  | nil : RVs c h [] []
  | cons {v : Value} {vs : List Value} {x : V} {xs : List V} : RV c h v x → RVs c h vs xs → RVs c h (v :: vs) (x :: xs)
end

inductive RFs (c : Ctx) (h : Heap) : List DictEntry → List (String × V) → Prop
  | nil : RFs c h [] []
  | cons {hs : Int} {t : Tok} {rv : Value} {x : String} {v : V} {es : List DictEntry} {fs : List (String × V)} : hs = PyData.keyHash c.w.params (Str.ofString x) → RV c h rv v → RFs c h es fs →
      RFs c h (⟨hs, .str (Str.ofString x) t, rv⟩ :: es) ((x, v) :: fs)

inductive RO (c : Ctx) (h : Heap) : Obj → O → Prop
  | list {vs : Array Value} {n : Nat} {l : List V} : RVs c h vs.toList l → l.length ≤ lim → RO c h { cls := .type "list", data := .seq vs n } (.list l)
  | inst {C d : Addr} {x : String} : c.cls x = some C → RO c h (instObj C d) (.inst x d)
  | attrs {es : List DictEntry} {n : Nat} {fs : List (String × V)} : RFs c h es fs → RO c h (dictOf es n) (.attrs fs)
  | dict {ob : Obj} {es : Array DictEntry} {ep : Nat} {rs : List (Int × Value)} {l : List (Int × V)} : ob.ExactDict → ob.data = .dict es ep → KeysOf (intKind c.prog c.w) es → Pairs (intKind c.prog c.w) es.toList rs → (rs.map (·.1)).Nodup →
      rs.map (·.1) = l.map (·.1) → RVs c h (rs.map (·.2)) (l.map (·.2)) → l.length ≤ 1000 → RO c h ob (.dict ep l)

structure Rel (c : Ctx) (μ : Mem) (h : Heap) : Prop where
  base : c.base.StaysIn h
  mem : ∀ a o, μ a = some o → c.base.get? a = none ∧ ∃ ob, h.get? a = some ob ∧ RO c h ob o

/-- h' keeps what h has off the memory: exactly, but the frames fr, which may turn their slots -/
noncomputable def Kept (fr : List Addr) (μ μ' : Mem) (h h' : Heap) : Prop :=
  ∀ b o, h.get? b = some o → μ b = none → μ' b = none ∧ ∃ sl, h'.get? b = some { o with slots := sl } ∧ (b ∉ fr ∨ (∃ vs, o.data = .fields vs) → sl = o.slots)

theorem Kept.refl (fr : List Addr) (μ : Mem) (h : Heap) : Kept fr μ μ h h := fun _ o e hm => ⟨hm, o.slots, e, fun _ => rfl⟩
theorem Kept.trans {fr : List Addr} {μ₁ μ₂ μ₃ : Mem} {h₁ h₂ h₃ : Heap} (x : Kept fr μ₁ μ₂ h₁ h₂) (y : Kept fr μ₂ μ₃ h₂ h₃) : Kept fr μ₁ μ₃ h₁ h₃ := fun b o e hm => by
  obtain ⟨m₂, sl, e₂, n₂⟩ := x b o e hm
  obtain ⟨m₃, sl', e₃, n₃⟩ := y b _ e₂ m₂
  exact ⟨m₃, sl', e₃, fun hb => (n₃ hb).trans (n₂ hb)⟩
theorem Kept.of_keeps {fr : List Addr} {μ μ' : Mem} {h h' : Heap} (k : ∀ b o, h.get? b = some o → μ b = none → h'.get? b = some o) (m : ∀ b o, h.get? b = some o → μ b = none → μ' b = none) : Kept fr μ μ' h h' :=
  fun b o e hm => ⟨m b o e hm, o.slots, k b o e hm, fun _ => rfl⟩
theorem Kept.exact {fr : List Addr} {μ μ' : Mem} {h h' : Heap} (x : Kept fr μ μ' h h') {b : Addr} {o : Obj} (e : h.get? b = some o) (hm : μ b = none) (hb : b ∉ fr) : h'.get? b = some o := by
  obtain ⟨_, sl, e', n⟩ := x b o e hm
  rw [n (.inl hb)] at e'; exact e'

theorem RO.cls_ne {c : Ctx} {h : Heap} {ob : Obj} {o : O} (x : RO c h ob o) {T : String} (e : ob.cls = .type T) : T = "list" ∨ T = "dict" := by
  cases x with
  | list _ _ => exact .inl (by injection e with e; exact e.symm)
  | inst _ => cases e
  | attrs _ => exact .inr (by injection e with e; exact e.symm)
  | dict x _ _ _ _ _ _ _ => rw [x.1] at e; exact .inr (by injection e with e; exact e.symm)
theorem RO.fields_ne {c : Ctx} {h : Heap} {ob : Obj} {o : O} (x : RO c h ob o) (vs : Array Value) : ob.data ≠ .fields vs := by
  intro e
  cases x with
  | dict _ q _ _ _ _ _ _ => rw [q] at e; cases e
  | _ => cases e

theorem Rel.none_of_cls {c : Ctx} {μ : Mem} {h : Heap} (r : Rel c μ h) {a : Addr} {ob : Obj} {T : String} (e : h.get? a = some ob) (hc : ob.cls = .type T) (h1 : T ≠ "list") (h2 : T ≠ "dict") : μ a = none := by
  cases q : μ a with
  | none => rfl
  | some o =>
    obtain ⟨_, ob', e', ro⟩ := r.mem a o q
    rw [e] at e'; cases e'
    rcases ro.cls_ne hc with q | q
    · exact absurd q h1
    · exact absurd q h2
theorem Rel.none_of_fields {c : Ctx} {μ : Mem} {h : Heap} (r : Rel c μ h) {a : Addr} {ob : Obj} {vs : Array Value} (e : h.get? a = some ob) (hd : ob.data = .fields vs) : μ a = none := by
  cases q : μ a with
  | none => rfl
  | some o =>
    obtain ⟨_, ob', e', ro⟩ := r.mem a o q
    rw [e] at e'; cases e'
    exact absurd hd (ro.fields_ne vs)
/-- what a value reads is kept where objects keep their class and data -/
noncomputable def Sees (μ : Mem) (h h' : Heap) : Prop := ∀ b o, h.get? b = some o → μ b = none → ∃ sl, h'.get? b = some { o with slots := sl } ∧ ((∃ vs, o.data = .fields vs) → sl = o.slots)
theorem Kept.sees {fr : List Addr} {μ μ' : Mem} {h h' : Heap} (x : Kept fr μ μ' h h') : Sees μ h h' := fun b o e hm => let ⟨_, sl, e', n⟩ := x b o e hm; ⟨sl, e', fun q => n (.inr q)⟩
theorem Sees.of_keeps {μ : Mem} {h h' : Heap} (k : ∀ b o, h.get? b = some o → μ b = none → h'.get? b = some o) : Sees μ h h' := fun b o e hm => ⟨o.slots, k b o e hm, fun _ => rfl⟩

mutual
theorem RV.mono {c : Ctx} {μ : Mem} {h h' : Heap} (r : Rel c μ h) (k : Sees μ h h') : ∀ {v : Value} {x : V}, RV c h v x → RV c h' v x
  | _, _, .none => .none
  | _, _, .bool b => .bool b
  | _, _, .int i t => .int i t
  | _, _, .str x t => .str x t
  | _, _, .tup e hc hd hl hz => by
    obtain ⟨sl, e', _⟩ := k _ _ e (r.none_of_cls e hc (by decide) (by decide))
    exact .tup e' hc hd (RVs.mono r k hl) hz
  | _, _, .ref a => .ref a
  | _, _, .rng e ok => by
    obtain ⟨sl, e', n⟩ := k _ _ e (r.none_of_fields e rfl)
    rw [n ⟨_, rfl⟩] at e'
    exact .rng e' ok
  | _, _, .exc e hc hd hx => by
    obtain ⟨sl, e', _⟩ := k _ _ e (r.none_of_fields e hd)
    exact .exc e' hc hd hx
  | _, _, .frz e hc hd hi hz => .frz e hc hd hi hz
  | _, _, .dk a ep ks => .dk a ep ks
theorem RVs.mono {c : Ctx} {μ : Mem} {h h' : Heap} (r : Rel c μ h) (k : Sees μ h h') : ∀ {vs : List Value} {xs : List V}, RVs c h vs xs → RVs c h' vs xs
  | _, _, .nil => .nil
  | _, _, .cons hv hr => .cons (RV.mono r k hv) (RVs.mono r k hr)
end
theorem RFs.mono {c : Ctx} {μ : Mem} {h h' : Heap} (r : Rel c μ h) (k : Sees μ h h') {es : List DictEntry} {fs : List (String × V)} (x : RFs c h es fs) : RFs c h' es fs := by
  induction x with
  | nil => exact .nil
  | cons e hv _ ih => exact .cons e (hv.mono r k) ih
theorem RO.mono {c : Ctx} {μ : Mem} {h h' : Heap} (r : Rel c μ h) (k : Sees μ h h') {ob : Obj} {o : O} (x : RO c h ob o) : RO c h' ob o := by
  cases x with
  | list hl hz => exact .list (hl.mono r k) hz
  | inst e => exact .inst e
  | attrs hf => exact .attrs (hf.mono r k)
  | dict h1 h2 h3 h4 h5 h6 h7 h8 => exact .dict h1 h2 h3 h4 h5 h6 (h7.mono r k) h8

theorem RVs.length {c : Ctx} {h : Heap} : ∀ {vs : List Value} {xs : List V}, RVs c h vs xs → vs.length = xs.length
  | _, _, .nil => rfl
  | _, _, .cons _ r => by simp [r.length]
theorem RVs.get {c : Ctx} {h : Heap} : ∀ {vs : List Value} {xs : List V}, RVs c h vs xs → ∀ {i : Nat} {x : V}, xs[i]? = some x → ∃ v, vs[i]? = some v ∧ RV c h v x
  | _, _, .nil, _, _, e => by simp at e
  | _, _, .cons hv hr, 0, _, e => by simp at e; subst e; exact ⟨_, rfl, hv⟩
  | _, _, .cons hv hr, i + 1, _, e => by
    simp at e
    obtain ⟨v, h1, h2⟩ := hr.get e
    exact ⟨v, by simpa using h1, h2⟩
theorem RVs.append {c : Ctx} {h : Heap} : ∀ {vs us : List Value} {xs ys : List V}, RVs c h vs xs → RVs c h us ys → RVs c h (vs ++ us) (xs ++ ys)
  | _, _, _, _, .nil, k => k
  | _, _, _, _, .cons hv hr, k => .cons hv (hr.append k)
theorem RVs.take {c : Ctx} {h : Heap} (n : Nat) : ∀ {vs : List Value} {xs : List V}, RVs c h vs xs → RVs c h (vs.take n) (xs.take n) := by
  induction n with
  | zero => intro vs xs _; simp; exact .nil
  | succ n ih => intro vs xs hr; cases hr with
    | nil => simp; exact .nil
    | cons hv hr => simp; exact .cons hv (ih hr)
theorem RVs.drop {c : Ctx} {h : Heap} (n : Nat) : ∀ {vs : List Value} {xs : List V}, RVs c h vs xs → RVs c h (vs.drop n) (xs.drop n) := by
  induction n with
  | zero => intro vs xs hr; simpa using hr
  | succ n ih => intro vs xs hr; cases hr with
    | nil => simp; exact .nil
    | cons hv hr => simpa using ih hr
theorem RVs.set {c : Ctx} {h : Heap} {v : Value} {x : V} (hx : RV c h v x) : ∀ {vs : List Value} {xs : List V} (n : Nat), RVs c h vs xs → RVs c h (vs.set n v) (xs.set n x)
  | _, _, _, .nil => .nil
  | _, _, 0, .cons hv hr => .cons hx hr
  | _, _, n + 1, .cons hv hr => .cons hv (hr.set hx n)
theorem RVs.eraseIdx {c : Ctx} {h : Heap} : ∀ {vs : List Value} {xs : List V} (n : Nat), RVs c h vs xs → RVs c h (vs.eraseIdx n) (xs.eraseIdx n)
  | _, _, _, .nil => .nil
  | _, _, 0, .cons hv hr => hr
  | _, _, n + 1, .cons hv hr => .cons hv (hr.eraseIdx n)
/-- the memory goes with a heap that keeps all -/
theorem Rel.keeps {c : Ctx} {μ : Mem} {h h' : Heap} (r : Rel c μ h) (k : ∀ b o, h.get? b = some o → h'.get? b = some o) : Rel c μ h' :=
  ⟨fun b o e => k b o (r.base b o e), fun a o e => let ⟨n, ob, e', ro⟩ := r.mem a o e; ⟨n, ob, k _ _ e', ro.mono r (.of_keeps fun b o e _ => k b o e)⟩⟩

/-- a new object under a new address -/
theorem Rel.alloc {c : Ctx} {μ : Mem} {h h' : Heap} (r : Rel c μ h) (k : ∀ b o, h.get? b = some o → h'.get? b = some o) {a : Addr} {ob : Obj} {o : O} (hn : h.get? a = none) (ha : h'.get? a = some ob) (ro : RO c h' ob o) : Rel c (updM μ a o) h' := by
  have r' := r.keeps k
  refine ⟨r'.base, fun b q e => ?_⟩
  unfold updM at e
  split at e
  · rename_i hb; subst hb; cases e
    refine ⟨?_, ob, ha, ro⟩
    cases q : c.base.get? b with
    | none => rfl
    | some x => have := r.base b x q; rw [hn] at this; cases this
  · exact r'.mem b q e
theorem Rel.free {c : Ctx} {μ : Mem} {h : Heap} (r : Rel c μ h) {a : Addr} (hn : h.get? a = none) : μ a = none := by
  cases q : μ a with
  | none => rfl
  | some o => obtain ⟨_, ob, e, _⟩ := r.mem a o q; rw [hn] at e; cases e

/-- an object of the memory is changed -/
theorem Rel.store {c : Ctx} {μ : Mem} {h h' : Heap} {a : Addr} {o₀ : O} (r : Rel c μ h) (h0 : μ a = some o₀) (k : ∀ b, b ≠ a → h'.get? b = h.get? b) {ob : Obj} {o : O} (ha : h'.get? a = some ob) (ro : RO c h ob o) : Rel c (updM μ a o) h' := by
  obtain ⟨nb, ob₀, e₀, ro₀⟩ := r.mem a o₀ h0
  have sees : Sees μ h h' := .of_keeps fun b o e hm => (k b fun q => by rw [q, h0] at hm; cases hm).trans e
  refine ⟨fun b x e => (k b fun q => by rw [q, nb] at e; cases e).trans (r.base b x e), fun b q e => ?_⟩
  unfold updM at e
  split at e
  · rename_i hb; subst hb; cases e
    exact ⟨nb, ob, ha, ro.mono r sees⟩
  · rename_i hb
    obtain ⟨n, ob', e', ro'⟩ := r.mem b q e
    exact ⟨n, ob', (k b hb).trans e', ro'.mono r sees⟩

theorem Rel.dct {c : Ctx} {μ : Mem} {h : Heap} (r : Rel c μ h) {x : Addr} {ep : Nat} {l : List (Int × V)} (hl : μ x = some (.dict ep l)) :
    ∃ rs : List (Int × Value), h.DictAt (intKind c.prog c.w) x rs ep ∧ rs.map (·.1) = l.map (·.1) ∧ RVs c h (rs.map (·.2)) (l.map (·.2)) ∧ l.length ≤ 1000 := by
  obtain ⟨_, ob, e, ro⟩ := r.mem x _ hl
  cases ro with
  | dict h1 h2 h3 h4 h5 h6 h7 h8 => exact ⟨_, ⟨ob, _, e, h1, h2, h3, h4, h5⟩, h6, h7, h8⟩
end Mine

set_option autoImplicit false
namespace Mine
set_option linter.unusedVariables false
open PySem PySem.W PySem.Calls PyProof.Rows

noncomputable def frs (fs : List Env) : List Addr := fs.filterMap (·.frame)

structure Step (c : Ctx) (fs : List Env) (μ μ' : Mem) (s s' : Shared) : Prop where
  gens : s'.gens = s.gens
  drawn : s'.drawn = s.drawn
  os : s'.os = s.os
  rel : Rel c μ' s'.heap
  kept : Kept (frs fs) μ μ' s.heap s'.heap

theorem Step.refl {c : Ctx} {fs : List Env} {μ : Mem} {s : Shared} (r : Rel c μ s.heap) : Step c fs μ μ s s := ⟨rfl, rfl, rfl, r, .refl _ _ _⟩
theorem Step.trans {c : Ctx} {fs : List Env} {μ₁ μ₂ μ₃ : Mem} {s₁ s₂ s₃ : Shared} (x : Step c fs μ₁ μ₂ s₁ s₂) (y : Step c fs μ₂ μ₃ s₂ s₃) : Step c fs μ₁ μ₃ s₁ s₃ :=
  ⟨y.gens.trans x.gens, y.drawn.trans x.drawn, y.os.trans x.os, y.rel, x.kept.trans y.kept⟩
/-- ticks alone -/
theorem Step.toks {c : Ctx} {fs : List Env} {μ : Mem} {s : Shared} {n : Nat} (r : Rel c μ s.heap) : Step c fs μ μ s { s with toks := n } := ⟨rfl, rfl, rfl, r, .refl _ _ _⟩
/-- a heap that keeps all -/
theorem Step.grows {c : Ctx} {fs : List Env} {μ : Mem} {s : Shared} {h' : Heap} {n : Nat} (r : Rel c μ s.heap) (k : ∀ b o, s.heap.get? b = some o → h'.get? b = some o) : Step c fs μ μ s { s with heap := h', toks := n } :=
  ⟨rfl, rfl, rfl, r.keeps k, .of_keeps (fun b o e _ => k b o e) fun _ _ _ hm => hm⟩
/-- a new object of the memory -/
theorem Step.alloc {c : Ctx} {fs : List Env} {μ : Mem} {s : Shared} {h' : Heap} {n : Nat} {a : Addr} {ob : Obj} {o : O} (r : Rel c μ s.heap) (k : ∀ b o, s.heap.get? b = some o → h'.get? b = some o) (hn : s.heap.get? a = none)
    (ha : h'.get? a = some ob) (ro : RO c h' ob o) : Step c fs μ (updM μ a o) s { s with heap := h', toks := n } :=
  ⟨rfl, rfl, rfl, r.alloc k hn ha ro, .of_keeps (fun b o e _ => k b o e) fun b o e hm => by rw [updM_ne (fun q => by rw [q, hn] at e; cases e)]; exact hm⟩
/-- an object of the memory changed -/
theorem Step.store {c : Ctx} {fs : List Env} {μ : Mem} {s : Shared} {h' : Heap} {n : Nat} {a : Addr} {o₀ : O} (r : Rel c μ s.heap) (h0 : μ a = some o₀) (k : ∀ b, b ≠ a → h'.get? b = s.heap.get? b) {ob : Obj} {o : O}
    (ha : h'.get? a = some ob) (ro : RO c s.heap ob o) : Step c fs μ (updM μ a o) s { s with heap := h', toks := n } :=
  ⟨rfl, rfl, rfl, r.store h0 k ha ro, .of_keeps (fun b o e hm => (k b fun q => by rw [q, h0] at hm; cases hm).trans e) fun b o e hm => by rw [updM_ne (fun q => by rw [q, h0] at hm; cases hm)]; exact hm⟩

theorem RV.step {c : Ctx} {fs : List Env} {μ μ' : Mem} {s s' : Shared} {v : Value} {x : V} (r : Rel c μ s.heap) (y : Step c fs μ μ' s s') (h : RV c s.heap v x) : RV c s'.heap v x := h.mono r y.kept.sees
theorem RVs.step {c : Ctx} {fs : List Env} {μ μ' : Mem} {s s' : Shared} {v : List Value} {x : List V} (r : Rel c μ s.heap) (y : Step c fs μ μ' s s') (h : RVs c s.heap v x) : RVs c s'.heap v x := h.mono r y.kept.sees

/-- an exception of the text's own in flight -/
structure Fly (c : Ctx) (fs : List Env) (μ μ' : Mem) (s s' : Shared) (e : Addr) (x : String) : Prop where
  gens : s'.gens = s.gens
  drawn : s'.drawn = s.drawn
  os : s'.os = s.os
  there : ∃ B C a0, c.exc x = some C ∧ Heap.FlyingW B fs e (.ref C) a0 s'.heap ∧ Rel c μ' B ∧ ∀ b o, s.heap.get? b = some o → μ b = none → b ∉ frs fs → B.get? b = some o
  kept : Kept (frs fs) μ μ' s.heap s'.heap

noncomputable def Post (c : Ctx) (fs : List Env) (μ : Mem) (s : Shared) (Q : V → Mem → Prop) (rv : Value) (s' : Shared) : Prop := ∃ v μ', Step c fs μ μ' s s' ∧ RV c s'.heap rv v ∧ Q v μ'
noncomputable def Posts (c : Ctx) (fs : List Env) (μ : Mem) (s : Shared) (Q : List V → Mem → Prop) (rv : List Value) (s' : Shared) : Prop := ∃ v μ', Step c fs μ μ' s s' ∧ RVs c s'.heap rv v ∧ Q v μ'
noncomputable def PostB (c : Ctx) (fs : List Env) (μ : Mem) (s : Shared) (Q : Bool → Mem → Prop) (b : Bool) (s' : Shared) : Prop := ∃ μ', Step c fs μ μ' s s' ∧ Q b μ'
noncomputable def XPost (c : Ctx) (fs : List Env) (μ : Mem) (s : Shared) (X : String → Mem → Prop) (re : Value) (s' : Shared) : Prop := ∃ e x μ', re = .ref e ∧ Fly c fs μ μ' s s' e x ∧ X x μ'

theorem Fly.after {c : Ctx} {fs : List Env} {μ₁ μ₂ μ₃ : Mem} {s₁ s₂ s₃ : Shared} {e : Addr} {x : String} (a : Step c fs μ₁ μ₂ s₁ s₂) (y : Fly c fs μ₂ μ₃ s₂ s₃ e x) : Fly c fs μ₁ μ₃ s₁ s₃ e x := by
  obtain ⟨B, C, a0, h1, h2, h3, h4⟩ := y.there
  refine ⟨y.gens.trans a.gens, y.drawn.trans a.drawn, y.os.trans a.os, ⟨B, C, a0, h1, h2, h3, fun b o e hm hb => ?_⟩, a.kept.trans y.kept⟩
  exact h4 b o (a.kept.exact e hm hb) (a.kept b o e hm).1 hb
theorem Post.after {c : Ctx} {fs : List Env} {μ₁ μ₂ : Mem} {s₁ s₂ s₃ : Shared} {Q : V → Mem → Prop} {rv : Value} (a : Step c fs μ₁ μ₂ s₁ s₂) (y : Post c fs μ₂ s₂ Q rv s₃) : Post c fs μ₁ s₁ Q rv s₃ :=
  let ⟨v, μ', st, r, q⟩ := y; ⟨v, μ', a.trans st, r, q⟩
theorem PostB.after {c : Ctx} {fs : List Env} {μ₁ μ₂ : Mem} {s₁ s₂ s₃ : Shared} {Q : Bool → Mem → Prop} {b : Bool} (a : Step c fs μ₁ μ₂ s₁ s₂) (y : PostB c fs μ₂ s₂ Q b s₃) : PostB c fs μ₁ s₁ Q b s₃ :=
  let ⟨μ', st, q⟩ := y; ⟨μ', a.trans st, q⟩
theorem XPost.after {c : Ctx} {fs : List Env} {μ₁ μ₂ : Mem} {s₁ s₂ s₃ : Shared} {X : String → Mem → Prop} {re : Value} (a : Step c fs μ₁ μ₂ s₁ s₂) (y : XPost c fs μ₂ s₂ X re s₃) : XPost c fs μ₁ s₁ X re s₃ :=
  let ⟨e, x, μ', he, f, q⟩ := y; ⟨e, x, μ', he, f.after a, q⟩

/-- the frames, the room, what is handled -/
structure AOK (c : Ctx) (d : Nat) (hd : Bool) (A : Around) (fs : List Env) (μ : Mem) (h : Heap) : Prop where
  frames : A.frames = some fs
  room : A.depth + 3 * d < 900
  units : A.units + 100 * d + 200 < cLine
  handled : hd = false → A.handled = none
  fun_ : h.FunFrames c.base fs
  priv : ∀ L ∈ frs fs, μ L = none
  dicts : ∀ L ∈ frs fs, ∃ o es n, h.get? L = some o ∧ o.data = .dict es n

theorem AOK.step {c : Ctx} {d : Nat} {hd : Bool} {A : Around} {fs : List Env} {μ μ' : Mem} {s s' : Shared} (x : AOK c d hd A fs μ s.heap) (y : Step c fs μ μ' s s') : AOK c d hd A fs μ' s'.heap := by
  refine ⟨x.frames, x.room, x.units, x.handled, ?_, fun L hL => ?_, fun L hL => ?_⟩
  · have hp := x.priv
    have hf := x.fun_
    clear x
    induction fs with
    | nil => trivial
    | cons env rest ih =>
      obtain ⟨hk, ⟨L, o, hfr, hn, ho, hd⟩, hr⟩ := hf
      have kept := y.kept
      obtain ⟨_, sl, e', _⟩ := kept L o ho (hp L (by simp [frs, hfr]))
      refine ⟨hk, ⟨L, _, hfr, hn, e', hd⟩, ?_⟩
      have key : ∀ (l : List Env), s.heap.FunFrames c.base l → (∀ L ∈ frs l, μ L = none) → s'.heap.FunFrames c.base l := by
        intro l
        induction l with
        | nil => intros; trivial
        | cons env l ih =>
          rintro ⟨hk, ⟨L, o, hfr, hn, ho, hd⟩, hr⟩ hp
          obtain ⟨_, sl, e', _⟩ := kept L o ho (hp L (by simp [frs, hfr]))
          exact ⟨hk, ⟨L, _, hfr, hn, e', hd⟩, ih hr fun M hM => hp M (by simp only [frs, List.filterMap_cons, hfr]; exact List.mem_cons_of_mem _ hM)⟩
      exact key rest hr fun M hM => hp M (by simp only [frs, List.filterMap_cons, hfr]; exact List.mem_cons_of_mem _ hM)
  · obtain ⟨_, o, ho, _⟩ := x.fun_.mem hL
    exact (y.kept L o ho (x.priv L hL)).1
  · obtain ⟨o, es, n, ho, hd⟩ := x.dicts L hL
    obtain ⟨_, sl, e', _⟩ := y.kept L o ho (x.priv L hL)
    exact ⟨_, es, n, e', hd⟩

/-- the names of a block -/
noncomputable def NameIs (c : Ctx) (env : Env) (m : Str → Option Value) (μ : Mem) (h : Heap) (x : String) (v : V) : Prop :=
  (env.kindOf (Str.ofString x) = some .local ∧ ∃ rv, m (Str.ofString x) = some rv ∧ RV c h rv v) ∨
  ((env.kindOf (Str.ofString x) = some .cell ∨ env.kindOf (Str.ofString x) = some .free) ∧ ∃ ca rv, env.cells.lookup (Str.ofString x) = some ca ∧ h.IsCell ca (some rv) ∧ RV c h rv v)
structure ER (c : Ctx) (env : Env) (ρ : Loc) (μ : Mem) (h : Heap) : Prop where
  kind : env.scope.kind = .function
  glob : env.globals = mainGlobals
  blt : env.builtins = builtinsNs
  priv : μ env.locals = none
  new : c.base.get? env.locals = none
  cells : ∀ x ca, env.cells.lookup x = some ca → (∃ v, h.IsCell ca v) ∧ μ ca = none ∧ c.base.get? ca = none
  inj : ∀ x y ca, env.cells.lookup x = some ca → env.cells.lookup y = some ca → x = y
  has : ∀ x, env.kindOf x = some .cell → (env.cells.lookup x).isSome = true
  names : ∃ m, h.Ns env.locals m ∧ ∀ x v, ρ x = some v → NameIs c env m μ h x v

theorem IsCell.sees {μ : Mem} {h h' : Heap} (k : Sees μ h h') {ca : Addr} {v : Option Value} (x : h.IsCell ca v) (hm : μ ca = none) : h'.IsCell ca v := by
  obtain ⟨o, ho, hd⟩ := x
  obtain ⟨sl, e, _⟩ := k ca o ho hm
  exact ⟨_, e, hd⟩
theorem Ns.sees {μ : Mem} {h h' : Heap} (k : Sees μ h h') {a : Addr} {m : Str → Option Value} (x : h.Ns a m) (hm : μ a = none) : h'.Ns a m := by
  obtain ⟨o, es, ep, ho, hd, r⟩ := x
  obtain ⟨sl, e, _⟩ := k a o ho hm
  exact ⟨_, es, ep, e, hd, r⟩

theorem ER.step {c : Ctx} {env : Env} {ρ : Loc} {fs : List Env} {μ μ' : Mem} {s s' : Shared} (x : ER c env ρ μ s.heap) (r : Rel c μ s.heap) (y : Step c fs μ μ' s s') : ER c env ρ μ' s'.heap := by
  obtain ⟨m, hns, hm⟩ := x.names
  have k := y.kept.sees
  obtain ⟨oL, esL, epL, hoL, _⟩ := id hns
  refine ⟨x.kind, x.glob, x.blt, (y.kept _ _ hoL x.priv).1, x.new, fun z ca e => ?_, x.inj, x.has, m, Ns.sees k hns x.priv, fun z v e => ?_⟩
  · obtain ⟨⟨v, hv⟩, h1, h2⟩ := x.cells z ca e
    obtain ⟨o, ho, hd⟩ := id hv
    exact ⟨⟨v, IsCell.sees k hv h1⟩, (y.kept _ _ ho h1).1, h2⟩
  · rcases hm z v e with ⟨h1, rv, h2, h3⟩ | ⟨h1, ca, rv, h2, h3, h4⟩
    · exact .inl ⟨h1, rv, h2, h3.step r y⟩
    · exact .inr ⟨h1, ca, rv, h2, IsCell.sees k h3 (x.cells _ ca h2).2.1, h4.step r y⟩

end Mine

set_option autoImplicit false
namespace Mine
set_option linter.unusedVariables false
open PySem PySem.W PySem.Calls PyProof.Rows

theorem lim_le : lim ≤ sizeLine := by decide

section
variable {c : Ctx} {A : Around} {fs : List Env} {μ : Mem} {s : Shared} {E : Value → Shared → Prop}

theorem Rel.lst {l : Addr} {xs : List V} (r : Rel c μ s.heap) (h : μ l = some (.list xs)) : ∃ vs n, IsL s.heap l vs n ∧ RVs c s.heap vs.toList xs ∧ xs.length ≤ lim := by
  obtain ⟨_, ob, e, ro⟩ := r.mem l _ h
  cases ro with
  | list hl hz => exact ⟨_, _, e, hl, hz⟩
theorem Rel.insts {x d : Addr} {cl : String} (r : Rel c μ s.heap) (h : μ x = some (.inst cl d)) : ∃ C, c.cls cl = some C ∧ s.heap.get? x = some (instObj C d) := by
  obtain ⟨_, ob, e, ro⟩ := r.mem x _ h
  cases ro with
  | inst hc => exact ⟨_, hc, e⟩
theorem Rel.attr {d : Addr} {fl : List (String × V)} (r : Rel c μ s.heap) (h : μ d = some (.attrs fl)) : ∃ es n, s.heap.get? d = some (dictOf es n) ∧ RFs c s.heap es fl := by
  obtain ⟨_, ob, e, ro⟩ := r.mem d _ h
  cases ro with
  | attrs hf => exact ⟨_, _, e, hf⟩

theorem newL_size {xs : List V} {vs : Array Value} {h : Heap} (hr : RVs c h vs.toList xs) (hl : xs.length ≤ lim) : vs.size ≤ sizeLine := by
  have := hr.length
  rw [Array.length_toList] at this
  exact this ▸ Nat.le_trans hl lim_le

/-- a new list -/
theorem post_newL {Q : V → Mem → Prop} {xs : List V} {vs : Array Value} (r : Rel c μ s.heap) (hr : RVs c s.heap vs.toList xs) (q : newL μ xs Q) (n : Nat) :
    Post c fs μ s Q (.ref s.heap.objs.size) { s with heap := s.heap.push { cls := .type "list", data := .seq vs }, toks := n } := by
  have hn : s.heap.get? s.heap.objs.size = none := Heap.get?_none_of_le (Nat.le_refl _)
  have k : ∀ b o, s.heap.get? b = some o → (s.heap.push { cls := .type "list", data := .seq vs }).get? b = some o := fun b o e => Heap.get?_push_of_some _ e
  refine ⟨.ref s.heap.objs.size, _, Step.alloc r k hn (Heap.get?_push_size _ rfl) (.list (hr.mono r (.of_keeps fun b o e _ => k b o e)) q.1), .ref _, q.2 _ (r.free hn)⟩

theorem mul_raw {prog : Program} {w : World} {l : Addr} {items : Array Value} {k : Nat} {x : Int} {u : Tok} {Q : Value → Shared → Prop} (hl : IsL s.heap l items k) (hlo : -(2 ^ 63 : Int) ≤ x) (hhi : x < 2 ^ 63) (hsz : items.size * x.toNat ≤ 2 ^ 24)
    (h : Q (.ref s.heap.objs.size) { s with heap := s.heap.push { cls := .type "list", data := .seq (List.replicate x.toNat items.toList).flatten.toArray } }) :
    wpAny (model prog w) A (binaryOp .Mult (.ref l) (.int x u)) Q E s := by
  rw [← listMul_foldl_if] at h
  exact wpAny_binaryOp_repeat_ref (T := "list") (U := "int") (by decide) ⟨_, hl, rfl⟩ (fun s' => typeIs_int s' x u) noFill_list_mul F.fills_int_mul F.slot_int_rmul repeat_list F.slot_int_index.lookup
    (call_meets F.slot_int_rmul (typeIs_int s x u) F.entry_int_rmul (F.args_int_rmul_2 _ _) (int___rmul___int_list x u l items k)
      ⟨hl, rfl, ⟨_, hl, rfl⟩, call_meets F.slot_list_mul ⟨_, hl, rfl⟩ F.entry_list_mul (F.args_list_mul_2 _ _)
        (AutoListH.list___mul___list_int_3 l items k x u (by simp [Builtin.List.listFitsIndex]; omega) (by omega) (by simp [Builtin.List.listTooLong, sizeLine]; omega))
        ⟨hl, h⟩⟩)

omit A fs s E in
theorem asInt_of {v : V} {k : Int → Prop} (h : asInt v k) : ∃ i, v = .int i ∧ k i := by
  unfold asInt at h
  split at h
  · exact ⟨_, rfl, h⟩
  · exact h.elim
theorem asL_of {v : V} {k : Addr → List V → Prop} (h : asL μ v k) : ∃ x l, v = .ref x ∧ μ x = some (.list l) ∧ k x l := by
  unfold asL at h
  split at h
  · split at h
    · rename_i e; exact ⟨_, _, rfl, e, h⟩
    · exact h.elim
  · exact h.elim
theorem ints2_of {a b : V} {k : Int → Int → Prop} (h : ints2 a b k) : ∃ i j, a = .int i ∧ b = .int j ∧ k i j := by
  obtain ⟨i, e1, h1⟩ := asInt_of h
  obtain ⟨j, e2, h2⟩ := asInt_of h1
  exact ⟨i, j, e1, e2, h2⟩
theorem one_of {vs : List V} {k : V → Prop} (h : one vs k) : ∃ v, vs = [v] ∧ k v := by
  unfold one at h
  split at h
  · exact ⟨_, rfl, h⟩
  · exact h.elim
theorem RV.int_of {h : Heap} {rv : Value} {i : Int} (x : RV c h rv (.int i)) : ∃ t, rv = .int i t := by cases x; exact ⟨_, rfl⟩
theorem RV.ref_of {h : Heap} {rv : Value} {a : Addr} (x : RV c h rv (.ref a)) : rv = .ref a := by cases x; rfl
theorem RV.bool_of {h : Heap} {rv : Value} {b : Bool} (x : RV c h rv (.bool b)) : rv = .bool b := by cases x; rfl
theorem RVs.one {h : Heap} {rvs : List Value} {v : V} (x : RVs c h rvs [v]) : ∃ rv, rvs = [rv] ∧ RV c h rv v := by
  cases x with | cons hv hr => cases hr; exact ⟨_, rfl, hv⟩
theorem RVs.two {h : Heap} {rvs : List Value} {v w : V} (x : RVs c h rvs [v, w]) : ∃ rv rw_, rvs = [rv, rw_] ∧ RV c h rv v ∧ RV c h rw_ w := by
  cases x with | cons hv hr => obtain ⟨_, rfl, hw⟩ := hr.one; exact ⟨_, _, rfl, hv, hw⟩

theorem bin_cat {ra rb : Value} {a b : V} {Q : V → Mem → Prop} (r : Rel c μ s.heap) (ha : RV c s.heap ra a) (hb : RV c s.heap rb b) (q : asL μ a fun _ l => asL μ b fun _ k => newL μ (l ++ k) Q) : wpAny (model c.prog c.w) A (binaryOp .Add ra rb) (Post c fs μ s Q) E s := by
  obtain ⟨x, l, rfl, hx, q⟩ := asL_of q
  obtain ⟨y, k, rfl, hy, q⟩ := asL_of q
  cases ha.ref_of; cases hb.ref_of
  obtain ⟨vs, n, hl, hr, _⟩ := r.lst hx
  obtain ⟨us, n', hl', hr', _⟩ := r.lst hy
  have hr2 : RVs c s.heap (vs ++ us).toList (l ++ k) := by rw [Array.toList_append]; exact hr.append hr'
  refine PySem.P.add_list hl hl' (post_newL r hr2 q s.toks) ?_
  have := newL_size hr2 q.1
  rw [Array.size_append] at this
  exact this
theorem bin_rep {ra rb : Value} {a b : V} {Q : V → Mem → Prop} (r : Rel c μ s.heap) (ha : RV c s.heap ra a) (hb : RV c s.heap rb b) (q : asL μ a fun _ l => asInt b fun n => 0 ≤ n ∧ n ≤ 1000000 ∧ n.toNat * l.length ≤ lim ∧ newL μ (List.replicate n.toNat l).flatten Q) : wpAny (model c.prog c.w) A (binaryOp .Mult ra rb) (Post c fs μ s Q) E s := by
  obtain ⟨x, l, rfl, hx, q⟩ := asL_of q
  obtain ⟨n, rfl, q⟩ := asInt_of q
  cases ha.ref_of
  obtain ⟨t, rfl⟩ := hb.int_of
  obtain ⟨vs, k, hl, hr, _⟩ := r.lst hx
  have h2 := q.2.2.1
  have hrl := hr.length
  rw [Array.length_toList] at hrl
  have hr2 : RVs c s.heap (List.replicate n.toNat vs.toList).flatten.toArray.toList (List.replicate n.toNat l).flatten := by
    show RVs c s.heap (List.replicate n.toNat vs.toList).flatten _
    generalize n.toNat = m
    induction m with
    | zero => exact .nil
    | succ m ih => rw [List.replicate_succ, List.replicate_succ, List.flatten_cons, List.flatten_cons]; exact hr.append ih
  refine mul_raw hl (by have := q.1; omega) ?_ ?_ (post_newL r hr2 q.2.2.2 s.toks)
  · have := q.2.1; omega
  · rw [hrl, Nat.mul_comm]; unfold lim at h2; omega

theorem bin_sound {d : Nat} {hd : Bool} {op : Operator} {ra rb : Value} {a b : V} {Q : V → Mem → Prop} (r : Rel c μ s.heap) (ha : RV c s.heap ra a) (hb : RV c s.heap rb b) (q : binW op a b μ Q)
    (aok : AOK c d hd A fs μ s.heap) : wpAny (model c.prog c.w) A (binaryOp op ra rb) (Post c fs μ s Q) E s := by
  unfold binW at q
  split at q
  · split at q
    · obtain ⟨j, rfl, q⟩ := asInt_of q
      obtain ⟨t, rfl⟩ := ha.int_of
      obtain ⟨u, rfl⟩ := hb.int_of
      exact PyProof.Rows.add_int ⟨_, _, Step.toks r, .int _ _, q⟩
    · exact bin_cat r ha hb q
  · obtain ⟨i, j, rfl, rfl, q⟩ := ints2_of q
    obtain ⟨t, rfl⟩ := ha.int_of
    obtain ⟨u, rfl⟩ := hb.int_of
    exact PyProof.Rows.sub_int ⟨_, _, Step.toks r, .int _ _, q⟩
  · split at q
    · obtain ⟨j, rfl, q⟩ := asInt_of q
      obtain ⟨t, rfl⟩ := ha.int_of
      obtain ⟨u, rfl⟩ := hb.int_of
      refine PyProof.Rows.mul_int ⟨_, _, Step.toks r, .int _ _, q.2⟩ ?_
      rcases q.1 with h | h
      · exact IntMulOk.of_left (intBits_le_64 (by omega) (by omega))
      · exact IntMulOk.of_right (intBits_le_64 (by omega) (by omega))
    · exact bin_rep r ha hb q
  · obtain ⟨i, j, rfl, rfl, q1, q2, q3⟩ := ints2_of q
    obtain ⟨t, rfl⟩ := ha.int_of
    obtain ⟨u, rfl⟩ := hb.int_of
    refine PyProof.Rows.floordiv_int (Int.ne_of_gt q1) ⟨_, _, Step.toks r, .int _ _, ?_⟩ (.inl (PyProof.noPylong_small (by omega)))
    rw [Int.fdiv_eq_ediv_of_nonneg _ (Int.le_of_lt q1)]; exact q3
  · obtain ⟨i, j, rfl, rfl, q1, q2⟩ := ints2_of q
    obtain ⟨t, rfl⟩ := ha.int_of
    obtain ⟨u, rfl⟩ := hb.int_of
    refine PyProof.Rows.mod_int' (Int.ne_of_gt q1) ⟨_, _, Step.toks r, .int _ _, ?_⟩
    rw [Int.fmod_eq_emod_of_nonneg _ (Int.le_of_lt q1)]; exact q2
  · obtain ⟨i, j, rfl, rfl, q1, q2, q3, q4⟩ := ints2_of q
    obtain ⟨t, rfl⟩ := ha.int_of
    obtain ⟨u, rfl⟩ := hb.int_of
    exact PyProof.Rows.pow_int_small q1 (by omega) (by omega) ⟨_, _, Step.toks r, .int _ _, q4⟩
  · exact q.elim
end
end Mine

set_option autoImplicit false
namespace Mine
set_option linter.unusedVariables false
open PySem PySem.W PySem.Calls PyProof.Rows

section
variable {c : Ctx} {A : Around} {fs : List Env} {μ : Mem} {s : Shared} {E : Value → Shared → Prop}

/-- the values read as data -/
theorem rd_reads {h : Heap} (r : Rel c μ h) : ∀ (n : Nat) {rv : Value} {v : V} {d : PyData}, RV c h rv v → rd μ n v = some d → (∃ as, Reads h rv d as) ∧ d.canLay0 = true ∧ d.depth ≤ n := by
  intro n
  induction n with
  | zero => intro rv v d _ e; cases e
  | succ n ih =>
    have all : ∀ {xs : List V} {vs : List Value} {ds : List PyData}, RVs c h vs xs → rdAll (rd μ n) xs = some ds → (∃ as, ReadsAll h vs ds as) ∧ PyData.canLayAll0 ds = true ∧ PyData.depthAll ds ≤ n := by
      intro xs
      induction xs with
      | nil => intro vs ds hr e; cases hr; cases e; exact ⟨⟨_, .nil⟩, by simp [PyData.canLayAll0], by simp [PyData.depthAll]⟩
      | cons x xs ihx =>
        intro vs ds hr e
        cases hr with
        | cons hv hr =>
          unfold rdAll at e
          split at e
          · rename_i d ds' e1 e2
            cases e
            obtain ⟨⟨as, h1⟩, h2, h3⟩ := ih hv e1
            obtain ⟨⟨bs, g1⟩, g2, g3⟩ := ihx hr e2
            exact ⟨⟨_, .cons h1 g1⟩, by simp [PyData.canLayAll0, h2, g2], by simp only [PyData.depthAll]; omega⟩
          · cases e
    intro rv v d hv e
    cases hv with
    | none => cases e; exact ⟨⟨_, .none⟩, rfl, by simp [PyData.depth]⟩
    | bool b => cases e; exact ⟨⟨_, .bool b⟩, rfl, by simp [PyData.depth]⟩
    | int i t => cases e; exact ⟨⟨_, .int i t⟩, rfl, by simp [PyData.depth]⟩
    | str x t =>
      simp only [rd] at e
      split at e
      · rename_i hs; cases e; exact ⟨⟨_, .str x t⟩, by simpa [PyData.canLay0] using hs, by simp [PyData.depth]⟩
      · cases e
    | tup ho hc hd hl _ =>
      simp only [rd, Option.map_eq_some_iff] at e
      obtain ⟨ds, e, rfl⟩ := e
      obtain ⟨⟨as, g1⟩, g2, g3⟩ := all hl e
      exact ⟨⟨_, .tuple ho hc hd g1⟩, by simpa [PyData.canLay0] using g2, by simp only [PyData.depth]; omega⟩
    | ref a =>
      simp only [rd] at e
      split at e
      · rename_i l hl
        simp only [Option.map_eq_some_iff] at e
        obtain ⟨ds, e, rfl⟩ := e
        obtain ⟨_, ob, eo, ro⟩ := r.mem a _ hl
        cases ro with
        | list hr _ =>
          obtain ⟨⟨as, g1⟩, g2, g3⟩ := all hr e
          exact ⟨⟨_, .list eo rfl rfl g1⟩, by simpa [PyData.canLay0] using g2, by simp only [PyData.depth]; omega⟩
      · cases e
    | rng => cases e
    | exc => cases e
    | frz => cases e
    | dk => cases e

theorem rd_shaped {h : Heap} (r : Rel c μ h) {rv : Value} {v : V} {d : PyData} (hv : RV c h rv v) (e : rd μ 8 v = some d) : (∃ as, Reads h rv d as) ∧ SeqAt.shaped d = true := by
  obtain ⟨h1, h2, h3⟩ := rd_reads r 8 hv e
  exact ⟨h1, by unfold SeqAt.shaped; rw [h2, Bool.true_and]; exact decide_eq_true (by omega)⟩

theorem deq_sound {d : Nat} {hd : Bool} {ra rb : Value} {a b : V} {e : Bool} {P : Value → Shared → Prop} (r : Rel c μ s.heap) (ha : RV c s.heap ra a) (hb : RV c s.heap rb b) (aok : AOK c d hd A fs μ s.heap) (q : deq μ a b = some e) :
    (P (.bool e) s → wpAny (model c.prog c.w) A (compareOp .Eq ra rb) P E s) ∧ (P (.bool (!e)) s → wpAny (model c.prog c.w) A (compareOp .NotEq ra rb) P E s) := by
  unfold deq at q
  split at q
  · cases ha; cases hb; cases q
    refine ⟨fun h => PyProof.Rows.eq_int ?_, fun h => PyProof.Rows.ne_int ?_⟩
    · exact h
    · exact h
  · split at q
    · rename_i x y e1 e2
      cases q
      obtain ⟨⟨as, g1⟩, g2⟩ := rd_shaped r ha e1
      obtain ⟨⟨bs, k1⟩, k2⟩ := rd_shaped r hb e2
      have hu : A.units + 64 < cLine := by have := aok.units; omega
      exact ⟨fun h => eq_dataH g1 k1 g2 k2 hu h, fun h => ne_dataH g1 k1 g2 k2 hu h⟩
    · cases q

theorem is_sound {ra rb : Value} {a b : V} {e : Bool} {h : Heap} (ha : RV c h ra a) (hb : RV c h rb b) (q : isO a b = some e) : plainIs ra rb = true ∧ (ra == rb) = e := by
  cases hb <;> simp only [isO] at q <;> (try cases q) <;> cases ha <;> first | exact ⟨rfl, rfl⟩ | (refine ⟨rfl, ?_⟩; rename_i a b; cases a <;> cases b <;> rfl) | (refine ⟨rfl, ?_⟩; simp)

theorem cmp_sound {d : Nat} {hd : Bool} {op : CmpOp} {ra rb : Value} {a b : V} {Q : V → Mem → Prop} (r : Rel c μ s.heap) (ha : RV c s.heap ra a) (hb : RV c s.heap rb b) (q : cmpW op μ a b Q)
    (aok : AOK c d hd A fs μ s.heap) : wpAny (model c.prog c.w) A (compareOp op ra rb) (Post c fs μ s Q) E s := by
  unfold cmpW at q
  split at q
  · rename_i e he
    have fin : ∀ b', e = b' → Post c fs μ s Q (.bool b') s := fun b' h => ⟨.bool b', μ, Step.refl r, .bool _, h ▸ q⟩
    cases op <;> simp only [cmpO] at he
    · exact (deq_sound r ha hb aok he).1 (fin _ rfl)
    · obtain ⟨e', h1, rfl⟩ := Option.map_eq_some_iff.mp he
      exact (deq_sound r ha hb aok h1).2 (fin _ rfl)
    · split at he
      · cases ha; cases hb; cases he; exact PyProof.Rows.lt_int (fin _ rfl)
      · cases he
    · split at he
      · cases ha; cases hb; cases he; exact PyProof.Rows.le_int (fin _ rfl)
      · cases he
    · split at he
      · cases ha; cases hb; cases he; exact PyProof.Rows.gt_int (fin _ rfl)
      · cases he
    · split at he
      · cases ha; cases hb; cases he; exact PyProof.Rows.ge_int (fin _ rfl)
      · cases he
    · obtain ⟨h1, h2⟩ := is_sound ha hb he
      exact wpAny_is_plain h1 (fin _ h2.symm)
    · obtain ⟨e', h0, rfl⟩ := Option.map_eq_some_iff.mp he
      obtain ⟨h1, h2⟩ := is_sound ha hb h0
      exact wpAny_isNot_plain h1 (fin _ (by rw [h2]))
    · cases he
    · cases he
  · exact q.elim

end
end Mine

set_option autoImplicit false
namespace Mine
set_option linter.unusedVariables false
open PySem PySem.W PySem.Calls PyProof.Rows Builtin Builtin.ObjectAttr

theorem ofString_inj {a b : String} (h : Str.ofString a = Str.ofString b) : a = b := by
  rw [Str.ofString_eq_toList, Str.ofString_eq_toList] at h
  injection h with h
  have h' : a.toList.map Char.toNat = b.toList.map Char.toNat := by simpa using congrArg Array.toList h
  have inj : ∀ x y : Char, x.toNat = y.toNat → x = y := fun x y e => Char.ext (by exact UInt32.toNat_inj.mp e)
  have h2 : a.toList = b.toList := by
    generalize a.toList = l at h'
    generalize b.toList = k at h'
    induction l generalizing k with
    | nil => cases k with | nil => rfl | cons _ _ => simp at h'
    | cons x l ih => cases k with
      | nil => simp at h'
      | cons y k => simp only [List.map_cons, List.cons.injEq] at h'; rw [inj x y h'.1, ih k h'.2]
  exact String.ext h2
theorem ofString_beq (a b : String) : (Str.ofString a == Str.ofString b) = (a == b) := by
  by_cases h : a = b
  · subst h; simp
  · have : Str.ofString a ≠ Str.ofString b := fun e => h (ofString_inj e)
    rw [beq_eq_false_iff_ne.mpr this, beq_eq_false_iff_ne.mpr h]

/-- facts of a plain class -/
structure ClsOk (K : Frag) (C : Addr) : Prop where
  ga : findIn K (.ref C) "__getattribute__" = some (some (.builtin "object.__getattribute__"))
  gat : findIn K (.ref C) "__getattr__" = some none
  sa : findIn K (.ref C) "__setattr__" = some (some (.builtin "object.__setattr__"))
  dict : hasDictIn K C = true
  over : plainOver K C = true

section
variable {c : Ctx} {A : Around} {fs : List Env} {μ : Mem} {s : Shared} {E : Value → Shared → Prop}

theorem RFs.get {h : Heap} {a : String} {v : V} : ∀ {es : List DictEntry} {fl : List (String × V)}, RFs c h es fl → fl.lookup a = some v → ∃ rv, getL (Str.ofString a) es = some (some rv) ∧ RV c h rv v
  | _, _, .nil, e => by cases e
  | _, _, .cons (x := x) (t := t) (rv := rv) (es := es) hh hv hr, e => by
    simp only [List.lookup_cons] at e
    unfold getL
    rw [List.find?_cons]
    simp only [Value.isStr, ofString_beq]
    have sym : (a == x) = (x == a) := BEq.comm
    cases q : x == a with
    | true =>
      rw [sym, q] at e
      cases e
      exact ⟨rv, rfl, hv⟩
    | false =>
      rw [sym, q] at e
      obtain ⟨rv', h1, h2⟩ := hr.get e
      refine ⟨rv', ?_, h2⟩
      unfold getL at h1
      simp only [Value.isStr] at h1
      split at h1
      · rename_i en he
        cases h1
        simp only [Value.isStr, he]
      · split at h1 <;> cases h1
theorem RFs.noRef {h : Heap} : ∀ {es : List DictEntry} {fl : List (String × V)}, RFs c h es fl → es.any (·.refKey) = false
  | _, _, .nil => rfl
  | _, _, .cons _ _ hr => by rw [List.any_cons, hr.noRef]; rfl
theorem RFs.miss {h : Heap} {a : String} : ∀ {es : List DictEntry} {fl : List (String × V)}, RFs c h es fl → fl.lookup a = none → es.find? (·.key.isStr (Str.ofString a)) = none
  | _, _, .nil, e => rfl
  | _, _, .cons (x := x) hh hv hr, e => by
    simp only [List.lookup_cons] at e
    rw [List.find?_cons]
    simp only [Value.isStr, ofString_beq]
    have sym : (a == x) = (x == a) := BEq.comm
    cases q : x == a with
    | true => rw [sym, q] at e; cases e
    | false => rw [sym, q] at e; exact hr.miss e
theorem RFs.missL {h : Heap} {a : String} {es : List DictEntry} {fl : List (String × V)} (x : RFs c h es fl) (e : fl.lookup a = none) : getL (Str.ofString a) es = some none := by
  unfold getL; rw [x.miss e, x.noRef]; rfl
theorem RFs.put {h : Heap} {a : String} {v : V} {rv : Value} {t : Tok} (hv : RV c h rv v) : ∀ {es : List DictEntry} {fl : List (String × V)}, RFs c h es fl → RFs c h (putL (Str.ofString a) (PyData.keyHash c.w.params (Str.ofString a)) (.str (Str.ofString a) t) rv es) (putA a v fl)
  | _, _, .nil => .cons rfl hv .nil
  | _, _, .cons (x := x) (t := t') hh hw hr => by
    unfold putL putA
    simp only [Value.isStr, ofString_beq]
    by_cases q : x = a
    · subst q; simp only [beq_self_eq_true, if_true]; exact .cons hh hv hr
    · simp only [beq_eq_false_iff_ne.mpr q, Bool.false_eq_true, if_false, if_neg q]; exact .cons hh hw (hr.put hv)
theorem putL_len (name : Str) (hs : Int) (k v : Value) : ∀ es : List DictEntry, (putL name hs k v es).length ≤ es.length + 1
  | [] => by simp [putL]
  | e :: r => by unfold putL; split <;> simp [putL_len name hs k v r]
theorem RFs.length {h : Heap} : ∀ {es : List DictEntry} {fl : List (String × V)}, RFs c h es fl → es.length = fl.length
  | _, _, .nil => rfl
  | _, _, .cons _ _ hr => by simp [hr.length]

theorem handed_of {h : Heap} {rv : Value} {v : V} (x : RV c h rv v) : handedIn rv = true := by cases x <;> rfl

theorem attr_sound {ra : Value} {v w : V} {a : String} {Q : V → Mem → Prop} {expr : Bool} (X : c.K.In s.heap) (r : Rel c μ s.heap) (hv : RV c s.heap ra v) (g : getA μ v a = some w)
    (hc : ∀ x C, c.cls x = some C → ClsOk c.K C) (ha : ∀ x C, c.cls x = some C → findIn c.K (.ref C) (Str.ofString a) = some none) (q : Q w μ) :
    wpAny (model c.prog c.w) A (getAttr ra (Str.ofString a) expr) (Post c fs μ s Q) E s := by
  unfold getA at g
  split at g
  · cases hv
    rename_i x
    split at g
    · rename_i cl d hx
      split at g
      · rename_i fl hd
        obtain ⟨C, h1, h2⟩ := r.insts hx
        obtain ⟨es, n, h3, h4⟩ := r.attr hd
        obtain ⟨rv, h5, h6⟩ := h4.get g
        have I : InstAt s.heap x (instObj C d) C (some (dictOf es n)) := ⟨h2, rfl, rfl, h3⟩
        exact get_value X I (hc _ _ h1).ga (findObj_own (hc _ _ h1).dict (ha _ _ h1) rfl h5) (handed_of h6) ⟨w, μ, Step.toks r, h6, q⟩
      · cases g
    · cases g
  · cases g

/-- a store into a dict of one's own, the raw heap -/
theorem store_raw {prog : Program} {w : World} {K : Frag} {x C dx : Addr} {es : List DictEntry} {n : Nat} {name : Str} {v : Value} {Q : Unit → Shared → Prop} (X : K.In s.heap) (hx : s.heap.get? x = some (instObj C dx)) (hd : s.heap.get? dx = some (dictOf es n)) (ok : ClsOk K C)
    (ht : findIn K (.ref C) name = some none) (hl : es.any (·.refKey) = false) (hz : es.length < 900)
    (h : Q () { s with heap := s.heap.update dx (Obj.putName name (PyData.keyHash w.params name) (.str name (s.toks + 1)) v), toks := s.toks + 1 + 1 }) :
    wpAny (model prog w) A (setAttr (.ref x) name v) Q E s := by
  have I : InstAt s.heap x (instObj C dx) C (some (dictOf es n)) := ⟨hx, rfl, rfl, hd⟩
  refine set_plain X I ok.sa ?_
  refine osa_open (s := { s with toks := s.toks + 1 }) X I ok.over (r := none) (by unfold takerIn; rw [ht]; rfl) fun b => ?_
  obtain ⟨cd, hc, hd'⟩ := any_some ok.dict
  have D' : (s.heap.update dx (Obj.putName name (PyData.keyHash w.params name) (.str name (s.toks + 1)) v)).get? dx = some (dictOf (putL name (PyData.keyHash w.params name) (.str name (s.toks + 1)) v es) (putN name es n)) := by
    rw [← putName_dict]
    exact Heap.get?_update_self _ hd (by rw [putName_dict]; rfl)
  refine wpAny_bind (wpAny_pure (wpAny_bind (wpAny_bind (wpAny_loadPart hx (wpAny_bind ((looks_clsIn (M := model prog w) X hc).here (s := { s with toks := s.toks + 1 }) ?_))))))
  rw [hd']
  refine wpAny_pure (a := some dx) (wpAny_bind (wpAny_pure (wpAny_bind ?_)))
  unfold nsSet
  refine wpAny_bind (wpAny_bind (wpAny_askSetting (wpAny_pure (wpAny_bind (wpAny_mkText (wpAny_bind (wpAny_loadPart hd ?_)))))))
  dsimp only
  have cc : (!es.toArray.any (·.key.isStr name) && es.toArray.any (·.refKey)) = false := by
    rw [← Array.any_toList, ← Array.any_toList, hl, Bool.and_false]
  rw [aRefKeyMayBeTheName_at, cc]
  refine wpAny_updatePart hd ?_
  refine wpAny_bind (wpAny_lookBehind D' (pastItsLine_dict (by have := putL_len name (PyData.keyHash w.params name) (.str name (s.toks + 1)) v es; rw [List.size_toArray, sizeLine_eq]; omega)) ?_)
  exact wpAny_pure h

theorem setattr_sound {rv : Value} {v : V} {x d : Addr} {cl a : String} {fl : List (String × V)} {P : Unit → Shared → Prop} (X : c.K.In s.heap) (r : Rel c μ s.heap) (hv : RV c s.heap rv v) (hx : μ x = some (.inst cl d)) (hd : μ d = some (.attrs fl))
    (hc : ∀ x C, c.cls x = some C → ClsOk c.K C) (ha : ∀ x C, c.cls x = some C → findIn c.K (.ref C) (Str.ofString a) = some none) (hz : fl.length < 900)
    (h : ∀ s', Step c fs μ (updM μ d (.attrs (putA a v fl))) s s' → P () s') : wpAny (model c.prog c.w) A (setAttr (.ref x) (Str.ofString a) rv) P E s := by
  obtain ⟨C, h1, h2⟩ := r.insts hx
  obtain ⟨es, n, h3, h4⟩ := r.attr hd
  refine store_raw X h2 h3 (hc _ _ h1) (ha _ _ h1) h4.noRef (by rw [h4.length]; exact hz) (h _ ?_)
  refine Step.store r hd (fun b hb => Heap.get?_update_other _ _ (Ne.symm hb)) (ob := dictOf (putL (Str.ofString a) (PyData.keyHash c.w.params (Str.ofString a)) (.str (Str.ofString a) (s.toks + 1)) rv es) (putN (Str.ofString a) es n)) ?_ (.attrs (h4.put hv))
  rw [← putName_dict]
  exact Heap.get?_update_self _ h3 (by rw [putName_dict]; rfl)

end
end Mine

set_option autoImplicit false
namespace Mine
set_option linter.unusedVariables false
open PySem PySem.W PySem.Calls PyProof.Rows

theorem subscripted_toE (e : E) (o i : Value) : subscripted (toE e) false o i = operate [o, i] (getItem o i) := by
  cases e <;> first | rfl | (rename Un => kk; cases kk <;> rfl)

section
variable {c : Ctx} {A : Around} {fs : List Env} {μ : Mem} {s : Shared} {E : Value → Shared → Prop}

theorem seqIndex_of {l : List V} {i : Int} {w : V} (h : idx l i = some w) : ∃ j, seqIndex? i l.length = some j ∧ l[j]? = some w := by
  unfold idx at h
  split at h
  · rename_i h0
    have := (List.getElem?_eq_some_iff.mp h).1
    refine ⟨i.toNat, ?_, h⟩
    unfold seqIndex?
    simp only [show ¬ i < 0 from by omega, if_false]
    rw [if_pos (by simp only [Bool.and_eq_true, decide_eq_true_eq]; omega)]
  · split at h
    · rename_i h0 h1
      have := (List.getElem?_eq_some_iff.mp h).1
      refine ⟨(i + l.length).toNat, ?_, h⟩
      unfold seqIndex?
      simp only [show i < 0 from by omega, if_true]
      rw [if_pos (by simp only [Bool.and_eq_true, decide_eq_true_eq]; omega)]
    · cases h

theorem idx_bound {l : List V} {i : Int} {w : V} (h : idx l i = some w) : -(l.length : Int) ≤ i ∧ i < l.length := by
  unfold idx at h
  split at h
  · have := (List.getElem?_eq_some_iff.mp h).1; omega
  · split at h
    · have := (List.getElem?_eq_some_iff.mp h).1; omega
    · cases h

end
end Mine

set_option autoImplicit false
namespace Mine
set_option linter.unusedVariables false
set_option linter.unusedSimpArgs false
open PySem PySem.W PySem.Calls PyProof.Rows

theorem lim_val : lim = 1048576 := rfl

section
variable {c : Ctx} {A : Around} {fs : List Env} {μ : Mem} {s : Shared} {E : Value → Shared → Prop}

theorem ints_get {vs : List Value} {ns : List Int} (hi : IntsAre vs ns) {i : Nat} {n : Int} (h : ns[i]? = some n) : ∃ t, vs[i]? = some (.int n t) := hi.get i n h

theorem sub_sound {value : Expr} {e : Mine.E} {ra ri : Value} {v j w : V} {Q : V → Mem → Prop} (r : Rel c μ s.heap) (ha : RV c s.heap ra v) (hi : RV c s.heap ri j) (g : subO μ v j = some w) (q : Q w μ) :
    wpAny (model c.prog c.w) A (subscriptTail value (toE e) ra ri) (Post c fs μ s Q) E s := by
  unfold subO at g
  split at g
  · cases ha; cases hi
    rename_i x i t
    split at g
    · rename_i l hl
      obtain ⟨vs, n, h1, h2, h3⟩ := r.lst hl
      have hb := idx_bound g
      have hsz : vs.size = l.length := by rw [← Array.length_toList, h2.length]
      rw [lim_val] at h3
      have key : ∀ {jj : Nat} {y : V}, l[jj]? = some y → ∃ rv, vs[jj]? = some rv ∧ RV c s.heap rv y := fun h => by
        obtain ⟨rv, k1, k2⟩ := h2.get h
        exact ⟨rv, by rw [← Array.getElem?_toList]; exact k1, k2⟩
      refine tail_any h1.isList.typeIs slot_list_getitem.lookup ?_ (subscripted_toE e _ _)
      unfold idx at g
      split at g
      · obtain ⟨rv, k1, k2⟩ := key g
        exact wpAny_getItem_list h1.isList (by omega) (by omega) k1 ⟨w, μ, Step.refl r, k2, q⟩
      · split at g
        · obtain ⟨rv, k1, k2⟩ := key g
          exact wpAny_getItem_list_neg h1.isList (by omega) (by omega) (by omega) (by rw [hsz]; exact k1) ⟨w, μ, Step.refl r, k2, q⟩
        · cases g
    · cases g
  · cases ha with
    | @tup a o vs n _ ho hc hd hl hz =>
    cases hi
    obtain ⟨jj, k1, k2⟩ := seqIndex_of g
    have hb := idx_bound g
    rw [lim_val] at hz
    obtain ⟨rv, k3, k4⟩ := hl.get k2
    have ht : IsTup s.heap a vs.toList.toArray := ⟨_, ho, hc, n, by simpa using hd⟩
    exact item_tupleT ht (by omega) (by omega) (by rw [hl.length]; exact k1) k3 ⟨w, μ, Step.refl r, k4, q⟩ (subscripted_toE e _ _)
  · cases ha with
    | @frz a o vs n _ e1 e2 e3 e4 e5 =>
    cases hi
    split at g
    · obtain ⟨n', k1, rfl⟩ := Option.map_eq_some_iff.mp g
      have hb := (List.getElem?_eq_some_iff.mp k1).1
      obtain ⟨t, k2⟩ := ints_get e4 k1
      rw [lim_val] at e5
      have hL : s.heap.IsList a vs := ⟨_, r.base _ _ e1, e2, n, e3⟩
      exact tail_any hL.typeIs slot_list_getitem.lookup (wpAny_getItem_list hL (by omega) (by omega) (by rw [← Array.getElem?_toList]; exact k2) ⟨_, μ, Step.refl r, .int _ _, q⟩) (subscripted_toE e _ _)
    · cases g
  · cases g

theorem cut_sound {h : Heap} {vs : Array Value} {l : List V} {lo hi : Option Int} (hr : RVs c h vs.toList l) (h1 : nn lo) (h2 : nn hi) : RVs c h (slicePick vs lo hi none).toList (cut lo hi l) := by
  rw [slicePick_plain]
  simp only [List.toList_toArray, cut]
  have hl := hr.length
  rw [Array.length_toList] at hl
  have cl : ∀ i : Int, 0 ≤ i → clipAt vs.size i = min i.toNat vs.size := fun i hi => by
    have : clipAt vs.size ((i.toNat : Nat) : Int) = min i.toNat vs.size := clipAt_nat ..
    rw [← this]; congr 1; omega
  cases lo with
  | none =>
    simp only [Option.elim, List.drop_zero, Nat.sub_zero]
    cases hi with
    | none => simp only [Option.elim]; rw [List.take_of_length_le (by simp)]; exact hr
    | some u =>
      simp only [Option.elim, cl u h2]
      have := hr.take u.toNat
      by_cases hu : u.toNat ≤ vs.size
      · rw [Nat.min_eq_left hu]; exact this
      · rw [Nat.min_eq_right (by omega), List.take_of_length_le (by simp)]
        rw [List.take_of_length_le (by omega)]; exact hr
  | some i =>
    simp only [Option.elim, cl i h1]
    cases hi with
    | none =>
      simp only [Option.elim]
      by_cases hi : i.toNat ≤ vs.size
      · rw [Nat.min_eq_left hi, List.take_of_length_le (by simp)]; exact hr.drop _
      · rw [Nat.min_eq_right (by omega), Nat.sub_self, List.take_zero, List.drop_of_length_le (by omega)]; exact .nil
    | some u =>
      simp only [Option.elim, cl u h2]
      have hd := (hr.take u.toNat).drop i.toNat
      have e : (vs.toList.take u.toNat).drop i.toNat = (vs.toList.drop (min i.toNat vs.size)).take (min u.toNat vs.size - min i.toNat vs.size) := by
        rw [List.drop_take]
        by_cases hi : i.toNat ≤ vs.size
        · rw [Nat.min_eq_left hi]
          by_cases hu : u.toNat ≤ vs.size
          · rw [Nat.min_eq_left hu]
          · rw [Nat.min_eq_right (by omega), List.take_of_length_le (by simp; omega), List.take_of_length_le (by simp)]
        · rw [Nat.min_eq_right (a := i.toNat) (by omega)]
          rw [List.drop_of_length_le (by simp; omega), List.drop_of_length_le (by simp)]; simp
      rw [← e]; exact hd

/-- a tuple cut behind its first item -/
noncomputable def upTo (hi : Option Int) (n : Nat) : Nat := match hi with | some u => min u.toNat n | none => n
/-- the slice object is made, then the list is cut -/
theorem slice_sound {value slice : Expr} {ra rl ru : Value} {v : V} {lo hi : Option Int} {Q : V → Mem → Prop} {s : Shared} (r : Rel c μ s.heap) (ha : RV c s.heap ra v) (pl : IsPart rl lo) (pu : IsPart ru hi) (g : sliceW μ v lo hi Q)
    (hs : ∀ a i, subscripted slice false a i = operate [i, a] (getItem a i)) :
    wpAny (model c.prog c.w) A (subscriptTail value slice ra (.ref s.heap.objs.size)) (Post c fs μ s Q) E { s with heap := s.heap.push { cls := .type "slice", data := .fields #[rl, ru, .none] } } := by
  unfold sliceW at g
  split at g
  · cases ha
    split at g
    · rename_i x l hl
      obtain ⟨vs, n, h1, h2, h3⟩ := r.lst hl
      have hz : vs.size ≤ sizeLine := newL_size h2 h3
      refine tail_any (Heap.IsList.typeIs (s := { s with heap := s.heap.push { cls := .type "slice", data := .fields #[rl, ru, .none] } }) (h1.isList.push _)) list_getitem_lookup
        (wpAny_getItem_list_slice (h1.isList.push _) (Heap.IsSliceOf.new ..) pl pu .none (by simp) ?_ hz) (hs _ _)
      have st : Step c fs μ μ s { s with heap := s.heap.push { cls := .type "slice", data := .fields #[rl, ru, .none] } } := Step.grows (n := s.toks) r fun b o e => Heap.get?_push_of_some _ e
      exact (post_newL (s := { s with heap := s.heap.push { cls := .type "slice", data := .fields #[rl, ru, .none] } }) st.rel (cut_sound (h2.step r st) g.1 g.2.1) g.2.2 s.toks).after st
    · exact g.elim
  · exact g.elim

end
end Mine

set_option autoImplicit false
namespace Mine
set_option linter.unusedVariables false
set_option linter.unusedSimpArgs false
open PySem PySem.W PySem.Calls PyProof.Rows

section
variable {c : Ctx} {A : Around} {fs : List Env} {μ : Mem} {s : Shared} {E : Value → Shared → Prop}

/-- isinstance against a built-in type -/
theorem isi_ty_sound {ra : Value} {v : V} {n : String} {b : Bool} {P : Value → Shared → Prop} (r : Rel c μ s.heap) (ha : RV c s.heap ra v) (hne : ∀ x, v ≠ .exc x) (g : isiO μ v (.ty n) = some b)
    (h : ∀ tk, P (.bool b) { s with toks := tk }) : wpAny (model c.prog c.w) A (call (.builtin "isinstance") [ra, .type n]) P E s := by
  have h0 := h s.toks
  have h' := h (s.toks + 1)
  have fin : ∀ t, ((if n = "int" ∨ n = "bool" ∨ n = "str" ∨ n = "tuple" ∨ n = "list" then (some t).map fun t => t == n || (t == "bool" && n == "int") else none) = some b) → (n = "int" ∨ n = "bool" ∨ n = "str" ∨ n = "tuple" ∨ n = "list") ∧ (t == n || (t == "bool" && n == "int")) = b := fun t g => by
    split at g
    · rename_i hn; exact ⟨hn, Option.some.inj g⟩
    · cases g
  cases ha with
  | none => obtain ⟨hn, h2⟩ := fin _ g; rcases hn with rfl | rfl | rfl | rfl | rfl <;> simp at h2 <;> subst h2 <;> first | exact IsiPair.NoneType_int h' | exact IsiPair.NoneType_bool h' | exact IsiPair.NoneType_str h' | exact IsiPair.NoneType_tuple h' | exact IsiPair.NoneType_list h'
  | bool x => obtain ⟨hn, h2⟩ := fin _ g; rcases hn with rfl | rfl | rfl | rfl | rfl <;> simp at h2 <;> subst h2 <;> first | exact IsiPair.bool_int h0 | exact IsiPair.bool_bool h0 | exact IsiPair.bool_str h' | exact IsiPair.bool_tuple h' | exact IsiPair.bool_list h'
  | int x t => obtain ⟨hn, h2⟩ := fin _ g; rcases hn with rfl | rfl | rfl | rfl | rfl <;> simp at h2 <;> subst h2 <;> first | exact IsiPair.int_int h0 | exact IsiPair.int_bool h' | exact IsiPair.int_str h' | exact IsiPair.int_tuple h' | exact IsiPair.int_list h'
  | str x t => obtain ⟨hn, h2⟩ := fin _ g; rcases hn with rfl | rfl | rfl | rfl | rfl <;> simp at h2 <;> subst h2 <;> first | exact IsiPair.str_int h' | exact IsiPair.str_bool h' | exact IsiPair.str_str h0 | exact IsiPair.str_tuple h' | exact IsiPair.str_list h'
  | tup ho hc _ _ _ => obtain ⟨hn, h2⟩ := fin _ g; rcases hn with rfl | rfl | rfl | rfl | rfl <;> simp at h2 <;> subst h2 <;> first | exact IsiPair.tuple_int ho hc h' | exact IsiPair.tuple_bool ho hc h' | exact IsiPair.tuple_str ho hc h' | exact IsiPair.tuple_tuple ho hc h0 | exact IsiPair.tuple_list ho hc h'
  | ref a =>
    simp only [isiO, tyO] at g
    cases hm : μ a with
    | none => rw [hm] at g; split at g <;> cases g
    | some o =>
      rw [hm] at g
      cases o with
      | list l =>
        obtain ⟨vs, k, e, _⟩ := r.lst hm
        obtain ⟨hn, h2⟩ := fin _ g
        rcases hn with rfl | rfl | rfl | rfl | rfl <;> simp at h2 <;> subst h2 <;> first | exact IsiPair.list_int e rfl h' | exact IsiPair.list_bool e rfl h' | exact IsiPair.list_str e rfl h' | exact IsiPair.list_tuple e rfl h' | exact IsiPair.list_list e rfl h0
      | _ => split at g <;> cases g
  | rng _ _ => simp only [isiO, tyO] at g; split at g <;> cases g
  | exc _ _ _ _ => exact absurd rfl (hne _)
  | frz _ _ _ _ _ => simp only [isiO, tyO] at g; split at g <;> cases g
  | dk _ _ _ => simp only [isiO, tyO] at g; split at g <;> cases g

theorem rng_items_sound {h : Heap} {a b : Int} {acc : Array Value} {n : Nat} (hn : n = (b - a).toNat) (h1 : acc.size = n) (h2 : ∀ (j : Nat) v, acc[j]? = some v → ∃ t, v = Value.int (a + j * 1) t) : RVs c h acc.toList (rngItems a b 1) := by
  have key : ∀ (l : List Value) (k : Nat), (∀ j v, l[j]? = some v → ∃ t, v = Value.int (a + (k + j : Nat)) t) → RVs c h l ((List.range' k l.length).map fun (i : Nat) => V.int (a + i)) := by
    intro l
    induction l with
    | nil => intro k _; exact .nil
    | cons x l ih =>
      intro k hk
      obtain ⟨t, rfl⟩ := hk 0 x rfl
      rw [List.length_cons, List.range'_succ, List.map_cons]
      refine .cons (by simpa using RV.int _ t) (ih (k + 1) fun j v hj => ?_)
      obtain ⟨t', rfl⟩ := hk (j + 1) v (by simpa using hj)
      exact ⟨t', by congr 2; omega⟩
  unfold rngItems
  rw [if_pos rfl, List.range_eq_range', ← hn, ← h1, ← Array.length_toList]
  refine key acc.toList 0 fun j v hj => ?_
  obtain ⟨t, e⟩ := h2 j v (by rw [← Array.getElem?_toList]; exact hj)
  exact ⟨t, by rw [e]; simp⟩

theorem rng_small {lo hi : Int} (q1 : hi - lo ≤ 1048576) (q2 : -2 ^ 62 < lo ∧ lo < 2 ^ 62) (q3 : -2 ^ 62 < hi ∧ hi < 2 ^ 62) : Builtin.Range.small lo hi 1 = true := by
  have hs : Builtin.Range.rangeSize lo hi 1 = ((hi - lo).toNat : Int) := by
    unfold Builtin.Range.rangeSize
    rw [if_pos (by decide)]
    split <;> omega
  unfold Builtin.Range.small
  rw [hs]
  unfold Builtin.Range.rangeFitsLong
  simp only [Bool.and_eq_true, Bool.or_eq_true, decide_eq_true_eq, beq_iff_eq, if_pos (show (1 : Int) > 0 from by decide)]
  omega

/-- calls of built-in functions and types -/
noncomputable def bltnV (f : String) : Value := if f = "len" ∨ f = "min" ∨ f = "max" ∨ f = "sum" ∨ f = "all" then .builtin f else .type f

theorem all_bools {l : Addr} {us : Array Value} {bs : List Bool} {Q : Value → Shared → Prop} {prog : Program} {w : World} (hh : A.handled = none) (hl : s.heap.IsList l us) (hb : LSm.BoolsAre us.toList bs)
    (h : ∀ h' tk, (∀ b o, s.heap.get? b = some o → h'.get? b = some o) → Q (.bool (bs.all id)) { s with heap := h', toks := tk }) : wpAny (model prog w) A (call (.builtin "all") [.ref l]) Q E s := by
  have hlt : l < s.heap.objs.size := by obtain ⟨_, e, _⟩ := hl; exact Heap.lt_size e
  refine call_all_walk (wpAny_pyIter_list hl ?_)
  refine ⟨s.heap.objs.size, [s.heap.objs.size, l], [s.heap.objs.size], us.size, _, _, fun i => (bs[i]?).getD true, rfl, Walks.list (A := A.in1) hh _ l (Nat.ne_of_lt hlt) us,
    ⟨⟨_, Heap.get?_push_size _ rfl, rfl, rfl⟩, hl.push _⟩, fun i v s' Q' E' hP hQ => ?_, fun h' tk hk => ?_⟩
  · obtain ⟨b, e, rfl⟩ := hb.get i v (by simpa using hP)
    simp only [e, Option.getD_some] at hQ
    exact wpAny_truthy_bool hQ
  · have e : ((List.range us.size).all fun i => (bs[i]?).getD true) = bs.all id := by
      rw [← Array.length_toList, hb.length]; exact LSm.range_all bs
    rw [e]
    exact h h' tk (LSm.kept_iter hk)
theorem allO_sound {h : Heap} : ∀ {l : List V} {us : List Value} {b : Bool}, RVs c h us l → allO l = some b → ∃ bs, LSm.BoolsAre us bs ∧ bs.all id = b
  | [], _, b, hr, e => by
    cases hr; cases e; exact ⟨[], .nil, rfl⟩
  | .bool x :: l, _, b, hr, e => by
    cases hr with
    | cons hv hr =>
    cases hv.bool_of
    unfold allO at e
    obtain ⟨b', e', rfl⟩ := Option.map_eq_some_iff.mp e
    obtain ⟨bs, h1, h2⟩ := allO_sound hr e'
    exact ⟨x :: bs, .cons x h1, by rw [List.all_cons, h2]; rfl⟩
  | .none :: _, _, _, _, e | .int _ :: _, _, _, _, e | .str _ :: _, _, _, _, e | .tup _ :: _, _, _, _, e | .ref _ :: _, _, _, _, e | .rng _ _ _ :: _, _, _, _, e | .exc _ :: _, _, _, _, e | .frz _ :: _, _, _, _, e => by cases e

theorem len_sound {rv : Value} {v : V} {Q : V → Mem → Prop} (r : Rel c μ s.heap) (hv : RV c s.heap rv v) (q : lenW v μ Q) : wpAny (model c.prog c.w) A (call (.builtin "len") [rv]) (Post c fs μ s Q) E s := by
  unfold lenW at q
  split at q
  · cases hv with
    | @tup a o us n _ ho hc hdd hl hz =>
    rw [lim_val] at hz
    have hsz := hl.length
    rw [Array.length_toList] at hsz
    refine PyProof.Rows.len_tuple ⟨_, ho, hc, n, hdd⟩ (by omega) ⟨_, _, Step.toks r, .int _ _, ?_⟩
    rw [hsz]; exact q
  · cases hv with
    | @frz a o us n _ e1 e2 e3 e4 e5 =>
    rw [lim_val] at e5
    have hsz := e4.length
    rw [Array.length_toList] at hsz
    refine call_len_list (items := us) ⟨_, r.base _ _ e1, e2, n, e3⟩ (by omega) ⟨_, _, Step.toks r, .int _ _, ?_⟩
    rw [hsz]; exact q
  · obtain ⟨x, l, rfl, hl, q⟩ := asL_of q
    cases hv.ref_of
    obtain ⟨us, n, h1, h2, h3⟩ := r.lst hl
    have hsz : us.size = l.length := by rw [← Array.length_toList, h2.length]
    rw [lim_val] at h3
    refine call_len_list h1.isList (by omega) ⟨_, _, Step.toks r, .int _ _, ?_⟩
    rw [hsz]; exact q
theorem rngB_sound {rvs : List Value} {vs : List V} {Q : V → Mem → Prop} (r : Rel c μ s.heap) (hr : RVs c s.heap rvs vs) (q : rngW vs μ Q) : wpAny (model c.prog c.w) A (call (.type "range") rvs) (Post c fs μ s Q) E s := by
  unfold rngW at q
  split at q
  · obtain ⟨b, rfl, q⟩ := asInt_of q
    obtain ⟨_, rfl, hv⟩ := hr.one
    obtain ⟨_, rfl⟩ := hv.int_of
    exact call_range_1 ⟨_, _, Step.grows r fun b o e => Heap.get?_push_of_some _ e, .rng (Heap.get?_push_size _ rfl) ⟨by decide, ⟨q.2.1, Int.lt_of_le_of_lt q.1 (by decide)⟩, .inl rfl⟩, q.2.2⟩
  · obtain ⟨a, b, rfl, rfl, q⟩ := ints2_of q
    obtain ⟨_, _, rfl, hv, hw⟩ := hr.two
    obtain ⟨_, rfl⟩ := hv.int_of
    obtain ⟨_, rfl⟩ := hw.int_of
    exact call_range_2 ⟨_, _, Step.grows r fun b o e => Heap.get?_push_of_some _ e, .rng (Heap.get?_push_size _ rfl) ⟨q.2.2.1, q.2.1, .inl rfl⟩, q.2.2.2⟩
  · obtain ⟨a, b, rfl, rfl, q'⟩ := ints2_of q
    obtain ⟨z, rfl, rfl, u⟩ := asInt_of q'
    cases hr with
    | cons hv hr =>
    obtain ⟨_, _, rfl, hw, hx⟩ := hr.two
    obtain ⟨_, rfl⟩ := hv.int_of
    obtain ⟨_, rfl⟩ := hw.int_of
    obtain ⟨_, rfl⟩ := hx.int_of
    exact call_range_3 (by decide) ⟨_, _, Step.grows (n := s.toks) r fun b o e => Heap.get?_push_of_some _ e, .rng (Heap.get?_push_size _ rfl) ⟨u.2.2.1, u.2.1, .inr rfl⟩, u.2.2.2⟩ (.inl (PyProof.noPylong_small (by decide)))
  · exact q.elim
theorem listB_sound {d : Nat} {hd : Bool} {rv : Value} {v : V} {Q : V → Mem → Prop} (r : Rel c μ s.heap) (hv : RV c s.heap rv v) (q : listW hd v μ Q) (aok : AOK c d hd A fs μ s.heap) : wpAny (model c.prog c.w) A (call (.type "list") [rv]) (Post c fs μ s Q) E s := by
  have hn : s.heap.get? s.heap.objs.size = none := Heap.get?_none_of_le (Nat.le_refl _)
  unfold listW at q
  split at q
  · cases hv with
    | rng hrg hok =>
    obtain ⟨q0, rfl, q1, q2, q3, q4⟩ := q
    clear hok
    rename_i lo hi a t1 t2 t3
    rw [lim_val] at q1
    have hsize : Builtin.Range.rangeSize lo hi 1 = ((hi - lo).toNat : Int) := by
      unfold Builtin.Range.rangeSize
      rw [if_pos (by decide)]
      split <;> omega
    refine call_list_range (aok.handled q0) hrg (rng_small q1 q2 q3) hsize (by omega) fun h' tk acc' c' hk hD hI => ?_
    exact ⟨_, _, Step.alloc r hk hn hD (.list (rng_items_sound rfl hI.1 hI.2) q4.1), .ref _, q4.2 _ (r.free hn)⟩
  · obtain ⟨x, l, rfl, hl, q⟩ := asL_of q
    cases hv.ref_of
    obtain ⟨us, n, h1, h2, h3⟩ := r.lst hl
    refine call_list_seq _ (.inl rfl) h1 rfl rfl (fun h' c' hk hD => ?_) (newL_size h2 h3)
    exact ⟨_, _, Step.alloc (n := s.toks) r hk hn hD (.list (h2.mono r (.of_keeps fun b o e _ => hk b o e)) h3), .ref _, q.2 _ (r.free hn)⟩

theorem bltn_sound {d : Nat} {hd : Bool} {f : String} {rvs : List Value} {vs : List V} {Q : V → Mem → Prop} (r : Rel c μ s.heap) (hr : RVs c s.heap rvs vs) (q : bltnW hd f vs μ Q) (aok : AOK c d hd A fs μ s.heap) :
    wpAny (model c.prog c.w) A (call (bltnV f) rvs) (Post c fs μ s Q) E s := by
  unfold bltnW at q
  split at q
  · rename_i e; subst e
    obtain ⟨v, rfl, q⟩ := one_of q
    obtain ⟨_, rfl, hv⟩ := hr.one
    exact len_sound r hv q
  split at q
  · rename_i e; subst e
    exact rngB_sound r hr q
  split at q
  · rename_i e; subst e
    obtain ⟨v, rfl, q⟩ := one_of q
    obtain ⟨_, rfl, hv⟩ := hr.one
    exact listB_sound r hv q aok
  split at q
  · rename_i e; subst e
    obtain ⟨q0, q⟩ := q
    obtain ⟨v, rfl, q⟩ := one_of q
    obtain ⟨_, rfl, hv⟩ := hr.one
    obtain ⟨x, l, rfl, hl, q⟩ := asL_of q
    cases hv.ref_of
    obtain ⟨us, n, h1, h2, h3⟩ := r.lst hl
    unfold allW at q
    split at q
    · rename_i b e
      obtain ⟨bs, g1, rfl⟩ := allO_sound h2 e
      exact all_bools (aok.handled q0) h1.isList g1 fun h' tk hk => ⟨_, _, Step.grows r hk, .bool _, q⟩
    · exact q.elim
  · exact q.elim
end
end Mine

set_option autoImplicit false
namespace Mine
set_option linter.unusedVariables false
set_option linter.unusedSimpArgs false
open PySem PySem.W PySem.Calls PyProof.Rows

section
variable {c : Ctx} {A : Around} {fs : List Env} {μ : Mem} {s : Shared} {E : Value → Shared → Prop}

theorem step_list {a : Addr} {l l' : List V} {vs vs' : Array Value} {n : Nat} {f : Array Value → Array Value} (r : Rel c μ s.heap) (hm : μ a = some (.list l)) (hl : IsL s.heap a vs n) (e : f vs = vs') (hr : RVs c s.heap vs'.toList l') (hz : l'.length ≤ lim) :
    Step c fs μ (updM μ a (.list l')) s { s with heap := s.heap.update a (Obj.mapSeq f) } := by
  subst e
  exact Step.store (n := s.toks) r hm (fun b hb => Heap.get?_update_other _ _ (Ne.symm hb)) (hl.update f) (.list hr hz)

/-- a method of a list -/
theorem lst_sound {d : Nat} {hd : Bool} {m : String} {a : Addr} {rvs : List Value} {vs : List V} {Q : V → Mem → Prop} (r : Rel c μ s.heap) (hr : RVs c s.heap rvs vs) (q : lstW m a vs μ Q) (aok : AOK c d hd A fs μ s.heap) :
    wpAny (model c.prog c.w) A (call (.builtin ("list." ++ m)) (.ref a :: rvs)) (Post c fs μ s Q) E s := by
  unfold lstW at q
  replace q := asL_of q
  obtain ⟨_, l, e, hm, q⟩ := q
  injection e with e
  subst e
  obtain ⟨us, n, h1, h2, h3⟩ := r.lst hm
  have hz : us.size ≤ sizeLine := newL_size h2 h3
  split at q
  · rename_i e; subst e
    replace q := one_of q
    obtain ⟨v, rfl, q⟩ := q
    obtain ⟨rv, rfl, hv⟩ := hr.one
    refine call_meets F.slot_list_append ⟨_, h1, rfl⟩ F.entry_list_append (F.args_list_append_2 _ _) (list_append a us n rv hz) ⟨h1, .none, _, step_list r hm h1 rfl (l' := l ++ [v]) ?_ (by rw [List.length_append]; exact q.1), .none, q.2⟩
    rw [Array.toList_push]; exact h2.append (.cons hv .nil)
  split at q
  · rename_i e; subst e
    replace q := one_of q
    obtain ⟨v, rfl, q⟩ := q
    obtain ⟨rv, rfl, hv⟩ := hr.one
    replace q := asL_of q
    obtain ⟨b, k, rfl, hb, q⟩ := q
    cases hv.ref_of
    obtain ⟨ws, n', g1, g2, g3⟩ := r.lst hb
    have hsz : us.size = l.length := by rw [← Array.length_toList, h2.length]
    have hsw : ws.size = k.length := by rw [← Array.length_toList, g2.length]
    have q2 := q.2.1
    rw [lim_val] at q2
    refine call_meets F.slot_list_extend ⟨_, h1, rfl⟩ F.entry_list_extend (F.args_list_extend_2 _ _) (AutoSeq1.list_extend_list_list_0 a us n _ ws n' ?_ hz (by rw [sizeLine_eq]; omega)) ⟨h1, g1, .none, _, step_list r hm h1 rfl (l' := l ++ k) ?_ (by rw [List.length_append]; exact q.2.1), .none, q.2.2⟩
    · simp [Builtin.List.listTooLong, sizeLine_eq]; omega
    · rw [Array.toList_append]; exact h2.append g2
  · exact q.elim
end
end Mine

set_option autoImplicit false
set_option maxRecDepth 100000
namespace Mine
open PySem PySem.Spec PySem.W PySem.Calls PyProof.Rows PySem.Builtin PySem.Builtin.ObjectAttr PySem.Builtin.Getset_descriptor

structure ExcK (K : Frag) (C : Addr) : Prop where
  is : (clsIn K C).isSome = true
  ga : findIn K (.ref C) "__getattribute__" = some (some (.builtin "BaseException.__getattribute__"))
  gt : findIn K (.ref C) "__getattr__" = some none
  cl : findIn K (.ref C) "__class__" = some (some (.builtin "object.__class__"))
  gn : specialIn K (.builtin "object.__class__") "__get__" = some (some (.builtin "getset_descriptor.__get__"))
  tk : takesIn K (.builtin "object.__class__") = some true
  mo : mroIn K C (.type "object") = some true
  mb : mroIn K C (.type "BaseException") = some true

end Mine

set_option autoImplicit false
set_option maxRecDepth 100000
namespace Mine
open PySem PySem.Spec PySem.W PySem.Calls PyProof.Rows

end Mine

set_option autoImplicit false
namespace Mine
set_option linter.unusedVariables false
set_option linter.unusedSimpArgs false
open PySem PySem.W PySem.Calls PyProof.Rows

/-- what a call of a function of the text does -/
noncomputable def SC (c : Ctx) (d : Nat) (hd : Bool) : Sc := fun f vs μ Q X =>
  ∃ fa, c.fn f = some fa ∧ ∀ A fs s rvs, AOK c d hd A fs μ s.heap → Rel c μ s.heap → RVs c s.heap rvs vs →
    codeAny (model c.prog c.w) A (.call (.ref fa) ⟨rvs, []⟩) (fun r s' => match r with
      | .ok (.ret rv) => Post c fs μ s Q rv s'
      | .ok _ => False
      | .error re => XPost c fs μ s X re s') s

noncomputable def bltNames : List String := ["len", "int", "min", "max", "range", "list", "sum", "all"]
noncomputable def tyNames : List String := ["int", "bool", "str", "tuple", "list", "ValueError", "dict", "set"]

noncomputable def vErr : List Value := [.type "ValueError", .type "Exception", .type "BaseException", .type "object"]

structure Good (c : Ctx) (sg : Sig) : Prop where
  X : c.K.In c.base
  top : ∃ p loose mg mb, TopRead p loose mg mb c.base
  cls : ∀ x C, c.cls x = some C → ClsOk c.K C
  attr : ∀ x C a, c.cls x = some C → a ∈ sg.attrs → findIn c.K (.ref C) (Str.ofString a) = some none
  meth : ∀ x C m, c.cls x = some C → (x, m) ∈ sg.meths → ∃ f, c.fn (x ++ "." ++ m) = some f ∧ findIn c.K (.ref C) (Str.ofString m) = some (some (.ref f)) ∧ typeIn c.K (.ref f) = some (.type "function") ∧ keepIn c.K (.ref f) = true
  fn : ∀ f ∈ sg.fns, ∃ fa, c.fn f = some fa ∧ nsIn c.K mainGlobals (Str.ofString f) = some (some (.ref fa)) ∧ keepIn c.K (.ref fa) = true
  new : ∀ x ∈ sg.clss, ∃ C fI, c.cls x = some C ∧ nsIn c.K mainGlobals (Str.ofString x) = some (some (.ref C)) ∧ makesIn c.K C = true ∧ keepIn c.K (.ref C) = true ∧ c.fn (x ++ ".__init__") = some fI ∧
    findIn c.K (.ref C) "__init__" = some (some (.ref fI)) ∧ typeIn c.K (.ref fI) = some (.type "function")
  blt : ∀ f ∈ "isinstance" :: bltNames ++ tyNames, nsIn c.K mainGlobals (Str.ofString f) = some none
  exc : ∀ x C, c.exc x = some C → nsIn c.K mainGlobals (Str.ofString x) = some (some (.ref C)) ∧ excIn c.K C vErr "ValueError.__new__" = true
  excs : ∀ x ∈ sg.excs, ∃ C, c.exc x = some C
  sub : ∀ x y C D, c.exc x = some C → c.exc y = some D → exmOne c.K (.ref C) (.ref D) = some (isSub x y)
  exk : ∀ x C, c.exc x = some C → ExcK c.K C ∧ kitOne c.K (.ref C) (.type "ValueError") = some true
  kit : ∀ x y C D, c.exc x = some C → c.exc y = some D → kitOne c.K (.ref C) (.ref D) = some (isSub x y)
  const : ∀ x v, sg.consts.lookup x = some v → ∃ rv, nsIn c.K mainGlobals (Str.ofString x) = some (some rv) ∧ ∀ h, RV c h rv v

noncomputable def isLoc : Option NameKind → Bool
  | some .local | some .cell | some .free => true
  | _ => false

noncomputable def okX (sg : Sig) (ns : List (Str × NameKind)) (n : String) : Bool := sg.excs.contains n && ns.lookup (Str.ofString n) == some .globalImplicit && n != "__debug__"
noncomputable def isCmp : E → Bool
  | .cmp _ _ _ _ => true
  | _ => false
/-- the names of a comprehension, in a function with the names ns -/
noncomputable def relN (ns names : List (Str × NameKind)) : List (Str × NameKind) := names.map fun (n, k) => if (k == .free && ns.lookup n == some .cell) then (n, .cell) else (n, k)
noncomputable def okU (ns : List (Str × NameKind)) (k : Un) : Bool := match k with
  | .items => ns.lookup (Str.ofString "list") == some .globalImplicit
  | .lenset => ns.lookup (Str.ofString "len") == some .globalImplicit && ns.lookup (Str.ofString "set") == some .globalImplicit
  | .isd => ns.lookup (Str.ofString "isinstance") == some .globalImplicit && ns.lookup (Str.ofString "dict") == some .globalImplicit
noncomputable def plainU (e : E) : Bool := match e with
  | .loc _ _ | .sub _ _ _ => true
  | _ => false
mutual
noncomputable def okE (sg : Sig) (ns : List (Str × NameKind)) : E → Bool
  | .none _ | .bool _ _ | .int _ _ | .str _ _ => true
  | .loc x _ => isLoc (ns.lookup (Str.ofString x)) && x != "__debug__" && x != "__classdict__"
  | .glob x _ => ns.lookup (Str.ofString x) == some .globalImplicit && (sg.consts.lookup x).isSome && x != "__debug__"
  | .bin _ l r _ => okE sg ns l && okE sg ns r
  | .neg e _ | .not e _ => okE sg ns e
  | .and es _ | .or es _ => okEs sg ns es
  | .cmp _ l r _ => okE sg ns l && okE sg ns r
  | .cmp2 _ _ a b c _ => okE sg ns a && okE sg ns b && okE sg ns c
  | .attr o a _ => okE sg ns o && sg.attrs.contains a && (match o with | .loc _ _ => true | _ => false)
  | .sub o i _ => okE sg ns o && okE sg ns i
  | .sliceL o i _ _ | .sliceU o i _ _ => okE sg ns o && okE sg ns i
  | .sliceLU o i j _ _ => okE sg ns o && okE sg ns i && okE sg ns j
  | .tup es _ _ | .list es _ => okEs sg ns es && decide (es.length < 1000)
  | .call f es _ _ => ns.lookup (Str.ofString f) == some .globalImplicit && sg.fns.contains f && okEs sg ns es && f != "__debug__"
  | .new f es _ _ => ns.lookup (Str.ofString f) == some .globalImplicit && sg.clss.contains f && okEs sg ns es && f != "__debug__"
  | .bltn f es _ _ => ns.lookup (Str.ofString f) == some .globalImplicit && bltNames.contains f && okEs sg ns es
  | .isi e cl _ _ _ => ns.lookup (Str.ofString "isinstance") == some .globalImplicit && okE sg ns e && (match cl with
      | .ty n => tyNames.contains n && ns.lookup (Str.ofString n) == some .globalImplicit
      | .own n => okX sg ns n
      | .owns l => (l.all fun n => okX sg ns n.1) && decide (l.length < 1000))
  | .meth o m es pa p => okE sg ns o && okEs sg ns es && pa.endLine == p.line && decide (es.length < 20) && (match o with
      | .call _ es _ _ | .new _ es _ _ | .bltn _ es _ _ => !es.isEmpty
      | _ => true)
  | .dnew _ => true
  | .dkeys x _ => isLoc (ns.lookup (Str.ofString x)) && x != "__debug__" && x != "__classdict__"
  | .dsub o i _ => okE sg ns o && okE sg ns i
  | .un k e _ p2 p3 _ => okE sg ns e && okU ns k && (match k with | .items => p2.endLine == p3.line && plainU e | _ => true)
  | .compP elt x y cs it ifs sc _ _ _ _ _ => okE sg ns it && okE sg (relN ns sc.names) elt && okEs sg (relN ns sc.names) ifs && (ifs.all isCmp && decide (ifs.length ≤ 1)) && sc.kind == .function &&
      (sc.names.all fun y => (y.2 == .local && sc.names.lookup y.1 == some .local) || (y.2 == .free && ns.lookup y.1 == some .cell) || y.2 == .globalImplicit) && (sc.names.lookup (Str.ofString x) == some .local && sc.names.lookup (Str.ofString y) == some .local) &&
      (cs.all fun y => sc.names.lookup (Str.ofString y) == some .free)
  | .comp elt x cs it ifs sc _ _ => okE sg ns it && okE sg (relN ns sc.names) elt && okEs sg (relN ns sc.names) ifs && (ifs.all isCmp && decide (ifs.length ≤ 1)) && sc.kind == .function &&
      (sc.names.all fun y => (y.2 == .local && sc.names.lookup y.1 == some .local) || (y.2 == .free && ns.lookup y.1 == some .cell) || y.2 == .globalImplicit) && sc.names.lookup (Str.ofString x) == some .local &&
      (cs.all fun y => sc.names.lookup (Str.ofString y) == some .free)
noncomputable def okEs (sg : Sig) (ns : List (Str × NameKind)) : List E → Bool
  | [] => true
  | e :: es => okE sg ns e && okEs sg ns es
end

section
variable {sg : Sig} {ns : List (Str × NameKind)}
theorem okE_dkeys {x : String} {p : Pos} : okE sg ns (.dkeys x p) = (isLoc (ns.lookup (Str.ofString x)) && x != "__debug__" && x != "__classdict__") := rfl
theorem okE_dsub {o i : E} {p : Pos} : okE sg ns (.dsub o i p) = (okE sg ns o && okE sg ns i) := rfl
theorem okE_un {k : Un} {e : E} {p1 p2 p3 p : Pos} : okE sg ns (.un k e p1 p2 p3 p) = (okE sg ns e && okU ns k && (match k with | .items => p2.endLine == p3.line && plainU e | _ => true)) := rfl
theorem okE_compP {elt it : E} {x y : String} {cs : List String} {ifs : List E} {sc : Scope} {k : Nat} {a b q p : Pos} : okE sg ns (.compP elt x y cs it ifs sc k a b q p) = (okE sg ns it && okE sg (relN ns sc.names) elt && okEs sg (relN ns sc.names) ifs && (ifs.all isCmp && decide (ifs.length ≤ 1)) && sc.kind == .function &&
      (sc.names.all fun y => (y.2 == .local && sc.names.lookup y.1 == some .local) || (y.2 == .free && ns.lookup y.1 == some .cell) || y.2 == .globalImplicit) && (sc.names.lookup (Str.ofString x) == some .local && sc.names.lookup (Str.ofString y) == some .local) &&
      (cs.all fun y => sc.names.lookup (Str.ofString y) == some .free)) := rfl
theorem okE_loc {x : String} {p : Pos} : okE sg ns (.loc x p) = (isLoc (ns.lookup (Str.ofString x)) && x != "__debug__" && x != "__classdict__") := rfl
theorem okE_glob {x : String} {p : Pos} : okE sg ns (.glob x p) = (ns.lookup (Str.ofString x) == some .globalImplicit && (sg.consts.lookup x).isSome && x != "__debug__") := rfl
theorem okE_bin {op : Operator} {l r : E} {p : Pos} : okE sg ns (.bin op l r p) = (okE sg ns l && okE sg ns r) := rfl
theorem okE_neg {e : E} {p : Pos} : okE sg ns (.neg e p) = okE sg ns e := rfl
theorem okE_not {e : E} {p : Pos} : okE sg ns (.not e p) = okE sg ns e := rfl
theorem okE_and {es : List E} {p : Pos} : okE sg ns (.and es p) = okEs sg ns es := rfl
theorem okE_or {es : List E} {p : Pos} : okE sg ns (.or es p) = okEs sg ns es := rfl
theorem okE_cmp {op : CmpOp} {l r : E} {p : Pos} : okE sg ns (.cmp op l r p) = (okE sg ns l && okE sg ns r) := rfl
theorem okE_cmp2 {o o' : CmpOp} {a b e : E} {p : Pos} : okE sg ns (.cmp2 o o' a b e p) = (okE sg ns a && okE sg ns b && okE sg ns e) := rfl
theorem okE_attr {o : E} {a : String} {p : Pos} : okE sg ns (.attr o a p) = (okE sg ns o && sg.attrs.contains a && (match o with | .loc _ _ => true | _ => false)) := rfl
theorem okE_sub {o i : E} {p : Pos} : okE sg ns (.sub o i p) = (okE sg ns o && okE sg ns i) := rfl
theorem okE_sliceL {o i : E} {q p : Pos} : okE sg ns (.sliceL o i q p) = (okE sg ns o && okE sg ns i) := rfl
theorem okE_sliceU {o i : E} {q p : Pos} : okE sg ns (.sliceU o i q p) = (okE sg ns o && okE sg ns i) := rfl
theorem okE_sliceLU {o i j : E} {q p : Pos} : okE sg ns (.sliceLU o i j q p) = (okE sg ns o && okE sg ns i && okE sg ns j) := rfl
theorem okE_tup {es : List E} {k : Nat} {p : Pos} : okE sg ns (.tup es k p) = (okEs sg ns es && decide (es.length < 1000)) := rfl
theorem okE_list {es : List E} {p : Pos} : okE sg ns (.list es p) = (okEs sg ns es && decide (es.length < 1000)) := rfl
theorem okE_call {f : String} {es : List E} {q p : Pos} : okE sg ns (.call f es q p) = (ns.lookup (Str.ofString f) == some .globalImplicit && sg.fns.contains f && okEs sg ns es && f != "__debug__") := rfl
theorem okE_new {f : String} {es : List E} {q p : Pos} : okE sg ns (.new f es q p) = (ns.lookup (Str.ofString f) == some .globalImplicit && sg.clss.contains f && okEs sg ns es && f != "__debug__") := rfl
theorem okE_bltn {f : String} {es : List E} {q p : Pos} : okE sg ns (.bltn f es q p) = (ns.lookup (Str.ofString f) == some .globalImplicit && bltNames.contains f && okEs sg ns es) := rfl
theorem okE_isi {e : E} {cl : Cl} {a b p : Pos} : okE sg ns (.isi e cl a b p) = (ns.lookup (Str.ofString "isinstance") == some .globalImplicit && okE sg ns e && (match cl with
      | .ty n => tyNames.contains n && ns.lookup (Str.ofString n) == some .globalImplicit
      | .own n => okX sg ns n
      | .owns l => (l.all fun n => okX sg ns n.1) && decide (l.length < 1000))) := rfl
theorem okE_meth {o : E} {m : String} {es : List E} {pa p : Pos} : okE sg ns (.meth o m es pa p) = (okE sg ns o && okEs sg ns es && pa.endLine == p.line && decide (es.length < 20) && (match o with
      | .call _ es _ _ | .new _ es _ _ | .bltn _ es _ _ => !es.isEmpty
      | _ => true)) := rfl
theorem okE_comp {elt it : E} {x : String} {cs : List String} {ifs : List E} {sc : Scope} {q p : Pos} : okE sg ns (.comp elt x cs it ifs sc q p) = (okE sg ns it && okE sg (relN ns sc.names) elt && okEs sg (relN ns sc.names) ifs && (ifs.all isCmp && decide (ifs.length ≤ 1)) && sc.kind == .function &&
      (sc.names.all fun y => (y.2 == .local && sc.names.lookup y.1 == some .local) || (y.2 == .free && ns.lookup y.1 == some .cell) || y.2 == .globalImplicit) && sc.names.lookup (Str.ofString x) == some .local &&
      (cs.all fun y => sc.names.lookup (Str.ofString y) == some .free)) := rfl
end

structure St (c : Ctx) (d : Nat) (hd : Bool) (A : Around) (fs : List Env) (env : Env) (ρ : Loc) (μ : Mem) (s : Shared) : Prop where
  rel : Rel c μ s.heap
  er : ER c env ρ μ s.heap
  aok : AOK c d hd A fs μ s.heap
  room : A.depth + 3 * d + 2 < 900
  units : A.units + 100 * d + 250 < cLine
theorem St.step {c : Ctx} {d : Nat} {hd : Bool} {A : Around} {fs : List Env} {env : Env} {ρ : Loc} {μ μ' : Mem} {s s' : Shared} (x : St c d hd A fs env ρ μ s) (y : Step c fs μ μ' s s') : St c d hd A fs env ρ μ' s' :=
  ⟨y.rel, x.er.step x.rel y, x.aok.step y, x.room, x.units⟩

section
variable {c : Ctx} {d : Nat} {hd : Bool} {A : Around} {fs : List Env} {env : Env} {ρ : Loc} {μ : Mem} {s : Shared} {sg : Sig}

theorem wp_after {t : Sem Value} {μ₁ : Mem} {s₁ : Shared} {Q : V → Mem → Prop} {X : String → Mem → Prop} (st : Step c fs μ μ₁ s s₁) (h : wpAny (model c.prog c.w) A t (Post c fs μ₁ s₁ Q) (XPost c fs μ₁ s₁ X) s₁) :
    wpAny (model c.prog c.w) A t (Post c fs μ s Q) (XPost c fs μ s X) s₁ := wpAny_mono h (fun _ _ p => p.after st) fun _ _ p => p.after st
theorem Kin (G : Good c sg) (r : Rel c μ s.heap) : c.K.In s.heap := G.X.keeps r.base

/-- a global name of the text -/
theorem name_glob {x : String} {rv : Value} {P : Value → Shared → Prop} {E : Value → Shared → Prop} {p : Pos} (G : Good c sg) (x' : ER c env ρ μ s.heap) (r : Rel c μ s.heap) (hk : env.kindOf (Str.ofString x) = some .globalImplicit) (hd : x ≠ "__debug__")
    (e : nsIn c.K mainGlobals (Str.ofString x) = some (some rv)) (h : P rv s) : wpAny (model c.prog c.w) A (eval (.Name (Str.ofString x) p) env) P E s := by
  obtain ⟨pp, loose, mg, mb, T⟩ := G.top
  refine Name_function_global x'.kind hk (loadGlobal_global (env := env) (mg := mg) (by rw [x'.glob]; exact T.g.keeps r.base) (mg_of G.X T.g e) h) ?_
  rw [ofString_beq]; exact beq_eq_false_iff_ne.mpr hd
/-- a built-in name -/
theorem name_blt {x : String} {rv : Value} {P : Value → Shared → Prop} {E : Value → Shared → Prop} {p : Pos} (G : Good c sg) (x' : ER c env ρ μ s.heap) (r : Rel c μ s.heap) (hk : env.kindOf (Str.ofString x) = some .globalImplicit) (hd : x ≠ "__debug__") (hn : x ≠ "__name__")
    (e : nsIn c.K mainGlobals (Str.ofString x) = some none) (hv : bootBuiltins (Str.ofString x) = some rv) (h : P rv s) : wpAny (model c.prog c.w) A (eval (.Name (Str.ofString x) p) env) P E s := by
  obtain ⟨pp, loose, mg, mb, T⟩ := G.top
  refine Name_function_global x'.kind hk (loadGlobal_builtin (env := env) (mg := mg) (mb := mb) (by rw [x'.glob]; exact T.g.keeps r.base) (mg_none_of G.X T.g e) (by rw [x'.blt]; exact T.b.keeps r.base) ((T.builtins _ fun q => hn (ofString_inj q)).trans hv) h) ?_
  rw [ofString_beq]; exact beq_eq_false_iff_ne.mpr hd

theorem loc_sound {x : String} {v : V} {Q : V → Mem → Prop} {E : Value → Shared → Prop} {p : Pos} (S : St c d hd A fs env ρ μ s) (e : ρ x = some v) (hd' : x ≠ "__debug__") (hc : x ≠ "__classdict__") (q : Q v μ) :
    wpAny (model c.prog c.w) A (eval (.Name (Str.ofString x) p) env) (Post c fs μ s Q) E s := by
  obtain ⟨m, hns, hm⟩ := S.er.names
  refine wpAny_Name ?_ (by rw [ofString_beq]; exact beq_eq_false_iff_ne.mpr hd')
  rcases hm x v e with ⟨h1, rv, h2, h3⟩ | ⟨h1, ca, rv, h2, h3, h4⟩
  · exact wpAny_loadName_local S.er.kind h1 hns h2 ⟨v, μ, Step.refl S.rel, h3, q⟩
  · rcases h1 with h1 | h1
    · exact wpAny_loadName_cell S.er.kind h1 h2 h3 ⟨v, μ, Step.refl S.rel, h4, q⟩
    · exact wpAny_loadName_free S.er.kind h1 h2 h3 ⟨v, μ, Step.refl S.rel, h4, q⟩ (by rw [ofString_beq]; exact beq_eq_false_iff_ne.mpr hc)
end

theorem starEach_toEs (env : Env) : ∀ es : List E, starEach (toEs es) env = es.map fun e => (false, eval (toE e) env)
  | [] => rfl
  | e :: es => by
    have ih := starEach_toEs env es
    rw [List.map_cons, ← ih]
    cases e <;> first | rfl | (rename Un => kk; cases kk <;> rfl)
theorem backTo_toEs (env : Env) (p : Pos) (es : List E) : backTo p (starEach (toEs es) env) = es.map fun e => (false, eval (toE e) env) := by
  rw [starEach_toEs, backTo, List.map_map]
  rfl
theorem toEs_length : ∀ es : List E, (toEs es).length = es.length
  | [] => rfl
  | e :: es => by simp [toEs, toEs_length es]

theorem evalArgs_es {M : Model} {A : Around} {E : Value → Shared → Prop} {s : Shared} {f : Value} {l : List (Sem Value)} {Q : Args → Shared → Prop}
    (h : wpAny M A (spliced (l.map fun t => (false, t))) (fun vs s₁ => Q ⟨vs, []⟩ s₁) E s) : wpAny M A (evalArgs f true (l.map fun t => (false, t)) []) Q E s := by
  cases l with
  | nil =>
    unfold evalArgs
    show wpAny M A (spliced [] >>= _) Q E s
    refine wpAny_bind (wpAny_mono h (fun vs s₁ h₁ => ?_) fun _ _ x => x)
    refine wpAny_bind (wpAny_pure ?_)
    refine wpAny_holding ?_
    exact wpAny_bind (wpAny_pure (wpAny_bind (wpAny_pure (wpAny_pure h₁))))
  | cons t l => exact evalArgs_plain h
end Mine

set_option autoImplicit false
namespace Mine
set_option linter.unusedVariables false
set_option linter.unusedSimpArgs false
open PySem PySem.W PySem.Calls PyProof.Rows

/-- the objects that values are read from -/
noncomputable def RK (o : Obj) : Prop := (o.cls = .type "tuple" ∧ ∃ vs n, o.data = .seq vs n) ∨ ((o.cls = .type "range" ∨ ∃ C, o.cls = .ref C) ∧ ∃ vs, o.data = .fields vs)
mutual
theorem RV.monoV {c : Ctx} {h h' : Heap} (k : ∀ b o, h.get? b = some o → RK o → ∃ sl, h'.get? b = some { o with slots := sl } ∧ ((∃ vs, o.data = .fields vs) → sl = o.slots)) : ∀ {v : Value} {x : V}, RV c h v x → RV c h' v x
  | _, _, .none => .none
  | _, _, .bool b => .bool b
  | _, _, .int i t => .int i t
  | _, _, .str x t => .str x t
  | _, _, .tup e hc hd hl hz => by
    obtain ⟨sl, e', _⟩ := k _ _ e (.inl ⟨hc, _, _, hd⟩)
    exact .tup e' hc hd (RVs.monoV k hl) hz
  | _, _, .ref a => .ref a
  | _, _, .rng e ok => by
    obtain ⟨sl, e', n⟩ := k _ _ e (.inr ⟨.inl rfl, _, rfl⟩)
    rw [n ⟨_, rfl⟩] at e'
    exact .rng e' ok
  | _, _, .exc e hc hd hx => by
    obtain ⟨sl, e', _⟩ := k _ _ e (.inr ⟨.inr ⟨_, hc⟩, _, hd⟩)
    exact .exc e' hc hd hx
  | _, _, .frz e hc hd hi hz => .frz e hc hd hi hz
  | _, _, .dk a ep ks => .dk a ep ks
theorem RVs.monoV {c : Ctx} {h h' : Heap} (k : ∀ b o, h.get? b = some o → RK o → ∃ sl, h'.get? b = some { o with slots := sl } ∧ ((∃ vs, o.data = .fields vs) → sl = o.slots)) : ∀ {vs : List Value} {xs : List V}, RVs c h vs xs → RVs c h' vs xs
  | _, _, .nil => .nil
  | _, _, .cons hv hr => .cons (RV.monoV k hv) (RVs.monoV k hr)
end
theorem RO.monoV {c : Ctx} {h h' : Heap} (k : ∀ b o, h.get? b = some o → RK o → ∃ sl, h'.get? b = some { o with slots := sl } ∧ ((∃ vs, o.data = .fields vs) → sl = o.slots)) {ob : Obj} {o : O} (x : RO c h ob o) : RO c h' ob o := by
  cases x with
  | list hl hz => exact .list (hl.monoV k) hz
  | inst e => exact .inst e
  | attrs hf =>
    refine .attrs ?_
    induction hf with
    | nil => exact .nil
    | cons e hv _ ih => exact .cons e (hv.monoV k) ih
  | dict h1 h2 h3 h4 h5 h6 h7 h8 => exact .dict h1 h2 h3 h4 h5 h6 (h7.monoV k) h8

noncomputable def pv (env : Env) (b : Addr) : Prop := b = env.locals ∨ ∃ x, env.cells.lookup x = some b

structure StepS (c : Ctx) (fs : List Env) (env : Env) (μ μ' : Mem) (s s' : Shared) : Prop where
  gens : s'.gens = s.gens
  drawn : s'.drawn = s.drawn
  os : s'.os = s.os
  kept : ∀ b o, s.heap.get? b = some o → μ b = none → ¬ pv env b → μ' b = none ∧ ∃ sl, s'.heap.get? b = some { o with slots := sl } ∧ (b ∉ frs fs ∨ (∃ vs, o.data = .fields vs) → sl = o.slots)
theorem StepS.refl {c : Ctx} {fs : List Env} {env : Env} {μ : Mem} {s : Shared} : StepS c fs env μ μ s s := ⟨rfl, rfl, rfl, fun _ o e hm _ => ⟨hm, o.slots, e, fun _ => rfl⟩⟩
theorem StepS.trans {c : Ctx} {fs : List Env} {env : Env} {μ₁ μ₂ μ₃ : Mem} {s₁ s₂ s₃ : Shared} (x : StepS c fs env μ₁ μ₂ s₁ s₂) (y : StepS c fs env μ₂ μ₃ s₂ s₃) : StepS c fs env μ₁ μ₃ s₁ s₃ :=
  ⟨y.gens.trans x.gens, y.drawn.trans x.drawn, y.os.trans x.os, fun b o e hm hp => by
    obtain ⟨m₂, sl, e₂, n₂⟩ := x.kept b o e hm hp
    obtain ⟨m₃, sl', e₃, n₃⟩ := y.kept b _ e₂ m₂ hp
    exact ⟨m₃, sl', e₃, fun hb => (n₃ hb).trans (n₂ hb)⟩⟩
theorem Step.toS {c : Ctx} {fs : List Env} {env : Env} {μ μ' : Mem} {s s' : Shared} (x : Step c fs μ μ' s s') : StepS c fs env μ μ' s s' := ⟨x.gens, x.drawn, x.os, fun b o e hm _ => x.kept b o e hm⟩

inductive RFl (c : Ctx) (h : Heap) : Flow → Fl → Prop
  | next : RFl c h .next .next
  | ret {rv : Value} {v : V} : RV c h rv v → RFl c h (.ret rv) (.ret v)

noncomputable def Born (c : Ctx) (s s' : Shared) (e : Addr) (x : String) : Prop := s'.gens = s.gens ∧ s'.drawn = s.drawn ∧ s'.os = s.os ∧ ∃ C args, c.exc x = some C ∧ Heap.MadeExcOf s.heap s'.heap e (.ref C) args

noncomputable def PostS (c : Ctx) (d : Nat) (hd : Bool) (A : Around) (fs : List Env) (env : Env) (μ : Mem) (s : Shared) (Q : Fl → Loc → Mem → Prop) (fl : Flow) (s' : Shared) : Prop :=
  ∃ fl' ρ' μ', StepS c fs env μ μ' s s' ∧ St c d hd A fs env ρ' μ' s' ∧ RFl c s'.heap fl fl' ∧ Q fl' ρ' μ'
noncomputable def XPostS (c : Ctx) (d : Nat) (hd : Bool) (A : Around) (fs : List Env) (env : Env) (nr : Bool) (μ : Mem) (s : Shared) (X : String → Loc → Mem → Prop) (re : Value) (s' : Shared) : Prop :=
  ∃ e x ρ₁ μ₁ μ' s₁, re = .ref e ∧ StepS c fs env μ μ₁ s s₁ ∧ St c d hd A fs env ρ₁ μ₁ s₁ ∧ (Fly c fs μ₁ μ' s₁ s' e x ∨ (nr = false ∧ μ' = μ₁ ∧ Born c s₁ s' e x)) ∧ X x ρ₁ μ'

theorem PostS.after {c : Ctx} {d : Nat} {hd : Bool} {A : Around} {fs : List Env} {env : Env} {μ μ₁ : Mem} {s s₁ s' : Shared} {Q : Fl → Loc → Mem → Prop} {fl : Flow} (st : StepS c fs env μ μ₁ s s₁) (x : PostS c d hd A fs env μ₁ s₁ Q fl s') : PostS c d hd A fs env μ s Q fl s' :=
  let ⟨fl', ρ', μ', a, b, q, r⟩ := x; ⟨fl', ρ', μ', st.trans a, b, q, r⟩
theorem XPostS.after {c : Ctx} {d : Nat} {hd : Bool} {A : Around} {fs : List Env} {env : Env} {nr : Bool} {μ μ₁ : Mem} {s s₁ s' : Shared} {X : String → Loc → Mem → Prop} {re : Value} (st : StepS c fs env μ μ₁ s s₁) (x : XPostS c d hd A fs env nr μ₁ s₁ X re s') : XPostS c d hd A fs env nr μ s X re s' :=
  let ⟨e, n, ρ₁, μ₁, μ', s₁, h1, a, r⟩ := x; ⟨e, n, ρ₁, μ₁, μ', s₁, h1, st.trans a, r⟩

theorem XPost.toS {c : Ctx} {d : Nat} {hd : Bool} {A : Around} {fs : List Env} {env : Env} {nr : Bool} {ρ : Loc} {μ : Mem} {s s' : Shared} {X : String → Loc → Mem → Prop} {re : Value} (S : St c d hd A fs env ρ μ s) (x : XPost c fs μ s (fun n μ₁ => X n ρ μ₁) re s') : XPostS c d hd A fs env nr μ s X re s' :=
  let ⟨e, n, μ', he, f, q⟩ := x; ⟨e, n, ρ, μ, μ', s, he, .refl, S, .inl f, q⟩

section
variable {c : Ctx} {sg : Sig} {d : Nat} {hd : Bool} {A : Around} {fs : List Env} {env : Env} {ρ : Loc} {μ : Mem} {s : Shared}

/-- a change of one private object -/
theorem Rel.private {b : Addr} {h h' : Heap} (r : Rel c μ h) (hm : μ b = none) (hb : c.base.get? b = none) (hnv : ∀ o, h.get? b = some o → ¬ RK o) (sb : Heap.SameBut b h h') : Rel c μ h' ∧ (∀ {v x}, RV c h v x → RV c h' v x) := by
  have k : ∀ a o, h.get? a = some o → RK o → ∃ sl, h'.get? a = some { o with slots := sl } ∧ ((∃ vs, o.data = .fields vs) → sl = o.slots) := fun a o e q => by
    refine ⟨o.slots, (sb.2 a fun z => ?_).trans e, fun _ => rfl⟩
    subst z
    exact hnv o e q
  refine ⟨⟨fun a o e => (sb.2 a fun z => by rw [z, hb] at e; cases e).trans (r.base a o e), fun a o e => ?_⟩, fun hv => hv.monoV k⟩
  obtain ⟨n, ob, e', ro⟩ := r.mem a o e
  exact ⟨n, ob, (sb.2 a fun z => by rw [z, hm] at e; cases e).trans e', ro.monoV k⟩

theorem FunFrames.turn {h h' base : Heap} {b : Addr} (sb : Heap.SameBut b h h') (hb : ∃ o, h'.get? b = some o ∧ ∀ vs, o.data ≠ .fields vs) : ∀ {l : List Env}, h.FunFrames base l → h'.FunFrames base l
  | [], _ => trivial
  | env :: l, ⟨hk, ⟨L, o, hf, hn, ho, hd⟩, hr⟩ => by
    refine ⟨hk, ?_, FunFrames.turn sb hb hr⟩
    by_cases e : L = b
    · subst e; obtain ⟨o', ho', hd'⟩ := hb; exact ⟨L, o', hf, hn, ho', hd'⟩
    · exact ⟨L, o, hf, hn, (sb.2 L e).trans ho, hd⟩

theorem AOK.turn {h h' : Heap} {b : Addr} (x : AOK c d hd A fs μ h) (sb : Heap.SameBut b h h') (hb : ∃ o, h'.get? b = some o ∧ ∀ vs, o.data ≠ .fields vs) (hd' : b ∈ frs fs → ∃ o es n, h'.get? b = some o ∧ o.data = .dict es n) : AOK c d hd A fs μ h' :=
  ⟨x.frames, x.room, x.units, x.handled, FunFrames.turn sb hb x.fun_, x.priv, fun L hL => by
    by_cases e : L = b
    · subst e; exact hd' hL
    · obtain ⟨o, es, n, ho, hd⟩ := x.dicts L hL
      exact ⟨o, es, n, (sb.2 L e).trans ho, hd⟩⟩

theorem Ns.dict {h : Heap} {a : Addr} {m : Str → Option Value} (x : h.Ns a m) : ∃ o es n, h.get? a = some o ∧ o.data = .dict es n := let ⟨o, es, n, ho, hd, _⟩ := x; ⟨o, es, n, ho, hd⟩

noncomputable def bare (env : Env) : Env := { env with cells := [] }
theorem StepS.wide {env : Env} {μ μ' : Mem} {s s' : Shared} (x : StepS c fs (bare env) μ μ' s s') : StepS c fs env μ μ' s s' :=
  ⟨x.gens, x.drawn, x.os, fun b o e hm hp => x.kept b o e hm (by rintro (q | ⟨y, q⟩); exact hp (.inl q); cases q)⟩
theorem store_local {x : String} {rv : Value} {v : V} {P : Unit → Shared → Prop} {E : Value → Shared → Prop} (S : St c d hd A fs env ρ μ s) (hk : env.kindOf (Str.ofString x) = some .local) (hv : RV c s.heap rv v)
    (h : ∀ s', StepS c fs (bare env) μ μ s s' → St c d hd A fs env (updL ρ x v) μ s' → P () s') : wpAny (model c.prog c.w) A (storeName env (Str.ofString x) rv) P E s := by
  obtain ⟨m, hns, hm⟩ := S.er.names
  obtain ⟨oL, esL, nL, hoL, hdL⟩ := Ns.dict hns
  refine wpAny_storeName_local hk hns (fun h' hn' sb => ?_) (by rw [S.er.kind]; rfl)
  obtain ⟨oL', esL', nL', hoL', hdL'⟩ := Ns.dict hn'
  obtain ⟨r', mono⟩ := Rel.private S.rel S.er.priv S.er.new (fun o e => by rw [hoL] at e; cases e; rintro (⟨_, vs, n, q⟩ | ⟨_, vs, q⟩) <;> (rw [hdL] at q; cases q)) sb
  have other : ∀ ca, (∃ w, s.heap.IsCell ca w) → ca ≠ env.locals := fun ca ⟨w, o, ho, hd⟩ q => by rw [q, hoL] at ho; cases ho; rw [hdL] at hd; cases hd
  refine h _ ⟨rfl, rfl, rfl, fun b o e hmb hp => ⟨hmb, o.slots, (sb.2 b fun q => hp (.inl q)).trans e, fun _ => rfl⟩⟩ ⟨r', ⟨S.er.kind, S.er.glob, S.er.blt, S.er.priv, S.er.new, fun y ca e => ?_, S.er.inj, S.er.has, _, hn', fun y w e => ?_⟩, S.aok.turn sb ⟨oL', hoL', fun vs q => by rw [hdL'] at q; cases q⟩ (fun _ => ⟨oL', _, _, hoL', hdL'⟩), S.room, S.units⟩
  · obtain ⟨⟨w, o, ho, hd⟩, h1, h2⟩ := S.er.cells y ca e
    exact ⟨⟨w, o, (sb.2 ca (other ca ⟨w, o, ho, hd⟩)).trans ho, hd⟩, h1, h2⟩
  · unfold updL at e
    split at e
    · rename_i hy; subst hy; cases e
      exact .inl ⟨hk, rv, by simp, mono hv⟩
    · rename_i hy
      rcases hm y w e with ⟨h1, rw_, h2, h3⟩ | ⟨h1, ca, rw_, h2, ⟨o, ho, hd⟩, h4⟩
      · exact .inl ⟨h1, rw_, by simp only [show Str.ofString y ≠ Str.ofString x from fun q => hy (ofString_inj q), if_false]; exact h2, mono h3⟩
      · exact .inr ⟨h1, ca, rw_, h2, ⟨o, (sb.2 ca (other ca ⟨_, o, ho, hd⟩)).trans ho, hd⟩, mono h4⟩

/-- a name is bound -/
theorem store_sound {x : String} {rv : Value} {v : V} {P : Unit → Shared → Prop} {E : Value → Shared → Prop} (S : St c d hd A fs env ρ μ s) (hk : env.kindOf (Str.ofString x) = some .local ∨ env.kindOf (Str.ofString x) = some .cell) (hv : RV c s.heap rv v)
    (h : ∀ s', StepS c fs env μ μ s s' → St c d hd A fs env (updL ρ x v) μ s' → P () s') : wpAny (model c.prog c.w) A (storeName env (Str.ofString x) rv) P E s := by
  obtain ⟨m, hns, hm⟩ := S.er.names
  obtain ⟨oL, esL, nL, hoL, hdL⟩ := Ns.dict hns
  rcases hk with hk | hk
  · exact store_local S hk hv fun s' st S' => h s' st.wide S'
  · obtain ⟨ca, hca⟩ := Option.isSome_iff_exists.mp (S.er.has _ hk)
    obtain ⟨⟨w₀, hw₀⟩, hmc, hbc⟩ := S.er.cells _ ca hca
    obtain ⟨oc, hoc, hdc⟩ := id hw₀
    refine wpAny_storeName_cell S.er.kind hk hca hw₀ fun h' hc' sb => ?_
    obtain ⟨oc', hoc', hdc'⟩ := id hc'
    obtain ⟨r', mono⟩ := Rel.private S.rel hmc hbc (fun o e => by rw [hoc] at e; cases e; rintro (⟨_, vs, n, q⟩ | ⟨_, vs, q⟩) <;> (rw [hdc] at q; cases q)) sb
    have nL : env.locals ≠ ca := fun q => by rw [q, hoc] at hoL; cases hoL; rw [hdc] at hdL; cases hdL
    refine h _ ⟨rfl, rfl, rfl, fun b o e hmb hp => ⟨hmb, o.slots, (sb.2 b fun q => hp (.inr ⟨_, q ▸ hca⟩)).trans e, fun _ => rfl⟩⟩ ⟨r', ⟨S.er.kind, S.er.glob, S.er.blt, S.er.priv, S.er.new, fun y ya e => ?_, S.er.inj, S.er.has, m, ?_, fun y w e => ?_⟩, S.aok.turn sb ⟨oc', hoc', fun vs q => by rw [hdc'] at q; cases q⟩ (fun z => by obtain ⟨o, es, n, ho, hd⟩ := S.aok.dicts _ z; rw [hoc] at ho; cases ho; rw [hdc] at hd; cases hd), S.room, S.units⟩
    · obtain ⟨⟨w, o, ho, hd⟩, h1, h2⟩ := S.er.cells y ya e
      by_cases q : ya = ca
      · subst q; exact ⟨⟨_, hc'⟩, h1, h2⟩
      · exact ⟨⟨w, o, (sb.2 ya q).trans ho, hd⟩, h1, h2⟩
    · exact hns.sameBut sb nL
    · unfold updL at e
      split at e
      · rename_i hy; subst hy; cases e
        exact .inr ⟨.inl hk, ca, rv, hca, hc', mono hv⟩
      · rename_i hy
        rcases hm y w e with ⟨h1, rw_, h2, h3⟩ | ⟨h1, ya, rw_, h2, ⟨o, ho, hd⟩, h4⟩
        · exact .inl ⟨h1, rw_, h2, mono h3⟩
        · refine .inr ⟨h1, ya, rw_, h2, ⟨o, (sb.2 ya fun q => ?_).trans ho, hd⟩, mono h4⟩
          subst q
          exact hy (ofString_inj (S.er.inj _ _ _ h2 hca))
end
end Mine

set_option autoImplicit false
namespace Mine
set_option linter.unusedVariables false
set_option linter.unusedSimpArgs false
open PySem PySem.W PySem.Calls PyProof.Rows

section
variable {c : Ctx} {sg : Sig} {d : Nat} {nr hd : Bool} {A : Around} {fs : List Env} {env : Env} {ρ : Loc} {μ : Mem} {s : Shared} {X : String → Loc → Mem → Prop}

theorem XPostS.no {μ₀ : Mem} {s₀ : Shared} {re : Value} {s' : Shared} {P : Prop} (x : XPostS c d hd A fs env nr μ₀ s₀ (fun _ _ _ => False) re s') : P := let ⟨_, _, _, _, _, _, _, _, _, _, f⟩ := x; f.elim
theorem XPost.no {μ₀ : Mem} {s₀ : Shared} {re : Value} {s' : Shared} {P : Prop} (x : XPost c fs μ₀ s₀ (fun _ _ => False) re s') : P := let ⟨_, _, _, _, _, f⟩ := x; f.elim

/-- an iterator -/
noncomputable def owners : List String := ["enumerate", "zip", "dict_itemiterator", "dict_reverseitemiterator", "odict_iterator", "itertools.zip_longest", "itertools.pairwise"]
structure Iter (c : Ctx) (A : Around) (it : Addr) (rv : Value) (v : V) (items : List V) (It : Nat → Heap → Prop) : Prop where
  obj : ∀ k h, It k h → ∃ o vs, h.get? it = some o ∧ o.data = .fields vs ∧ ¬ RK o
  keep : ∀ k h h', It k h → h'.get? it = h.get? it → It k h'
  own : ∀ k h o, It k h → h.get? it = some o → ∃ n, o.cls = .type n ∧ owners.contains n = false
  item : ∀ k w s μ (P : Option Value → Shared → Prop) (E : Value → Shared → Prop), items[k]? = some w → itemsOf μ v = some items → Rel c μ s.heap → RV c s.heap rv v → It k s.heap →
    (∀ rw_ h' n, Heap.ExtBut it s.heap h' → It (k + 1) h' → RV c s.heap rw_ w → P (some rw_) { s with heap := h', toks := n }) → wpAny (model c.prog c.w) A (pyNext (.ref it)) P E s
  self : ∀ k s (P : Value → Shared → Prop) (E : Value → Shared → Prop), It k s.heap → P (.ref it) s → wpAny (model c.prog c.w) A (pyIter (.ref it)) P E s
  fin : ∀ k s μ (P : Option Value → Shared → Prop) (E : Value → Shared → Prop), items[k]? = none → itemsOf μ v = some items → Rel c μ s.heap → RV c s.heap rv v → It k s.heap →
    (∀ h', Heap.ExtBut it s.heap h' → P none { s with heap := h' }) → wpAny (model c.prog c.w) A (pyNext (.ref it)) P E s

theorem monoV_ext {it : Addr} {h h' : Heap} (x : Heap.ExtBut it h h') (ho : ∃ o vs, h.get? it = some o ∧ o.data = .fields vs ∧ ¬ RK o) : ∀ b o, h.get? b = some o → RK o → ∃ sl, h'.get? b = some { o with slots := sl } ∧ ((∃ vs, o.data = .fields vs) → sl = o.slots) := fun b o e q => by
  refine ⟨o.slots, x b o (fun z => ?_) e, fun _ => rfl⟩
  obtain ⟨oi, vs, h1, h2, h3⟩ := ho
  subst z
  rw [h1] at e; cases e; exact h3 q

theorem St.ext {it : Addr} {h' : Heap} {n : Nat} (S : St c d hd A fs env ρ μ s) (x : Heap.ExtBut it s.heap h') (hb : c.base.get? it = none) (ho : ∃ o vs, s.heap.get? it = some o ∧ o.data = .fields vs ∧ ¬ RK o) : St c d hd A fs env ρ μ { s with heap := h', toks := n } := by
  have k := monoV_ext x ho
  obtain ⟨oi, vsi, hi1, hi2, hi3⟩ := ho
  have hm : μ it = none := S.rel.none_of_fields hi1 hi2
  obtain ⟨m, hns, hnm⟩ := S.er.names
  obtain ⟨oL, esL, nL, hoL, hdL⟩ := Ns.dict hns
  have nl : env.locals ≠ it := fun q => by rw [q, hi1] at hoL; cases hoL; rw [hi2] at hdL; cases hdL
  have nc : ∀ ca w, s.heap.IsCell ca w → ca ≠ it := fun ca w ⟨o, ho, hd⟩ q => by rw [q, hi1] at ho; cases ho; rw [hi2] at hd; cases hd
  have cellk : ∀ ca w, s.heap.IsCell ca w → h'.IsCell ca w := fun ca w hc => by obtain ⟨o, ho, hd⟩ := id hc; exact ⟨o, x _ _ (nc ca w hc) ho, hd⟩
  have fr : ∀ l : List Env, s.heap.FunFrames c.base l → h'.FunFrames c.base l := by
    intro l
    induction l with
    | nil => intro _; trivial
    | cons e l ih =>
      rintro ⟨hk, ⟨L, o, hf, hn, ho, hd⟩, hr⟩
      exact ⟨hk, ⟨L, o, hf, hn, x _ _ (fun q => by rw [q, hi1] at ho; cases ho; exact hd _ hi2) ho, hd⟩, ih hr⟩
  refine ⟨⟨fun a o e => x a o (fun z => by rw [z, hb] at e; cases e) (S.rel.base a o e), fun a o e => ?_⟩, ⟨S.er.kind, S.er.glob, S.er.blt, S.er.priv, S.er.new, fun y ca e => ?_, S.er.inj, S.er.has, m, ?_, fun y w e => ?_⟩, ⟨S.aok.frames, S.aok.room, S.aok.units, S.aok.handled, fr _ S.aok.fun_, S.aok.priv, fun L hL => (by obtain ⟨o, es, n, ho, hd⟩ := S.aok.dicts L hL; exact ⟨o, es, n, x _ _ (fun q => by rw [q, hi1] at ho; cases ho; rw [hi2] at hd; cases hd) ho, hd⟩)⟩, S.room, S.units⟩
  · obtain ⟨n', ob, e', ro⟩ := S.rel.mem a o e
    exact ⟨n', ob, x _ _ (fun z => by rw [z, hm] at e; cases e) e', ro.monoV k⟩
  · obtain ⟨⟨w, hw⟩, h1, h2⟩ := S.er.cells y ca e
    exact ⟨⟨w, cellk _ _ hw⟩, h1, h2⟩
  · obtain ⟨o, es, ep, ho, hd, r⟩ := hns
    exact ⟨o, es, ep, x _ _ nl ho, hd, r⟩
  · rcases hnm y w e with ⟨h1, rw_, h2, h3⟩ | ⟨h1, ca, rw_, h2, h3, h4⟩
    · exact .inl ⟨h1, rw_, h2, h3.monoV k⟩
    · exact .inr ⟨h1, ca, rw_, h2, cellk _ _ h3, h4.monoV k⟩

theorem StepS.it {it : Addr} {μ₀ : Mem} {s₀ : Shared} {h' : Heap} {n : Nat} (st : StepS c fs env μ₀ μ s₀ s) (x : Heap.ExtBut it s.heap h') (hn : s₀.heap.get? it = none) : StepS c fs env μ₀ μ s₀ { s with heap := h', toks := n } :=
  ⟨st.gens, st.drawn, st.os, fun b o e hm hp => by
    obtain ⟨m', sl, e', q⟩ := st.kept b o e hm hp
    exact ⟨m', sl, x b _ (fun z => by rw [z, hn] at e; cases e) e', q⟩⟩

theorem StepS.fields {μ' : Mem} {s' : Shared} {it : Addr} (S : St c d hd A fs env ρ μ s) (st : StepS c fs env μ μ' s s') (ho : ∃ o vs, s.heap.get? it = some o ∧ o.data = .fields vs ∧ ¬ RK o) : s'.heap.get? it = s.heap.get? it := by
  obtain ⟨o, vs, h1, h2, _⟩ := ho
  have np : ¬ pv env it := by
    rintro (q | ⟨y, q⟩)
    · obtain ⟨m, hns, _⟩ := S.er.names
      obtain ⟨oL, esL, nL, hoL, hdL⟩ := Ns.dict hns
      rw [← q, h1] at hoL; cases hoL; rw [h2] at hdL; cases hdL
    · obtain ⟨⟨w, o', ho', hd'⟩, _, _⟩ := S.er.cells y it q
      rw [h1] at ho'; cases ho'; rw [h2] at hd'; cases hd'
  obtain ⟨_, sl, e, q⟩ := st.kept it o h1 (S.rel.none_of_fields h1 h2) np
  rw [q (.inr ⟨vs, h2⟩)] at e
  rw [e, h1]
theorem StepS.rv {μ' : Mem} {s' : Shared} {rv : Value} {v : V} (S : St c d hd A fs env ρ μ s) (st : StepS c fs env μ μ' s s') (h : RV c s.heap rv v) : RV c s'.heap rv v := by
  refine h.monoV fun b o e q => ?_
  obtain ⟨m, hns, _⟩ := S.er.names
  obtain ⟨oL, esL, nL, hoL, hdL⟩ := Ns.dict hns
  have np : ¬ pv env b := by
    rintro (z | ⟨y, z⟩)
    · rw [← z, e] at hoL; cases hoL
      rcases q with ⟨_, _, _, q⟩ | ⟨_, _, q⟩ <;> (rw [hdL] at q; cases q)
    · obtain ⟨⟨w, o', ho', hd'⟩, _, _⟩ := S.er.cells y b z
      rw [e] at ho'; cases ho'
      rcases q with ⟨_, _, _, q⟩ | ⟨_, _, q⟩ <;> (rw [hd'] at q; cases q)
  have hm : μ b = none := by
    rcases q with ⟨q, _⟩ | ⟨_, vs, q⟩
    · exact S.rel.none_of_cls e q (by decide) (by decide)
    · exact S.rel.none_of_fields e q
  obtain ⟨_, sl, e', q'⟩ := st.kept b o e hm np
  exact ⟨sl, e', fun z => q' (.inr z)⟩

end
end Mine

set_option autoImplicit false
namespace Mine
set_option linter.unusedVariables false
set_option linter.unusedSimpArgs false
open PySem PySem.W PySem.Calls PyProof.Rows

section
variable {c : Ctx} {sg : Sig} {d : Nat} {nr hd : Bool} {A : Around} {fs : List Env} {env : Env} {ρ : Loc} {μ : Mem} {s : Shared} {X : String → Loc → Mem → Prop}

theorem notRK {o : Obj} {vs : Array Value} {T : String} (hc : o.cls = .type T) (h1 : T ≠ "tuple") (h2 : T ≠ "range") : ¬ RK o := by
  rintro (⟨q, _⟩ | ⟨q | ⟨C, q⟩, _⟩)
  · rw [hc] at q; injection q with q; exact h1 q
  · rw [hc] at q; injection q with q; exact h2 q
  · rw [hc] at q; cases q

theorem iter_list (hh : A.handled = none) {it l : Addr} {items : List V} : Iter c A it (.ref l) (.ref l) items (fun k h => h.IsListIter it l k) where
  obj := fun k h ⟨o, ho, hc, hd⟩ => ⟨o, _, ho, hd, notRK (vs := #[]) hc (by decide) (by decide)⟩
  keep := fun k h h' ⟨o, ho, r⟩ e => ⟨o, e.trans ho, r⟩
  own := fun k h o ⟨o', ho, hc, _⟩ e => by rw [ho] at e; cases e; exact ⟨_, hc, by decide⟩
  self := fun k s P E hit h => wpAny_pyIter_listiter hit h
  item := by
    intro k w s μ P E hk hi r hv hit h
    unfold itemsOf at hi
    dsimp only at hi
    split at hi
    · rename_i l' hl; cases hi
      obtain ⟨us, n, h1, h2, h3⟩ := r.lst hl
      obtain ⟨u, hu, hw⟩ := h2.get hk
      exact wpAny_pyNext_list_item hit ⟨_, h1, rfl, n, rfl⟩ (by rw [← Array.getElem?_toList]; exact hu) fun h' hit' sb => h u h' _ sb.extBut hit' hw
    · cases hi
  fin := by
    intro k s μ P E hk hi r hv hit h
    unfold itemsOf at hi
    dsimp only at hi
    split at hi
    · rename_i l' hl; cases hi
      obtain ⟨us, n, h1, h2, h3⟩ := r.lst hl
      refine wpAny_pyNext_list_end hh hit ⟨_, h1, rfl, n, rfl⟩ ?_ h
      rw [List.getElem?_eq_none_iff] at hk
      rw [Array.getElem?_eq_none_iff, ← Array.length_toList, h2.length]; exact hk
    · cases hi
noncomputable def rngLen (lo hi st : Int) : Nat := if st = 1 then (hi - lo).toNat else (lo - hi).toNat
theorem rngItems_get {lo hi st : Int} (hs : st = 1 ∨ st = -1) (k : Nat) : (rngItems lo hi st)[k]? = if k < rngLen lo hi st then some (.int (lo + k * st)) else none := by
  unfold rngItems rngLen
  rcases hs with rfl | rfl
  · rw [if_pos rfl, if_pos rfl, List.getElem?_map]
    split
    · rename_i h; rw [List.getElem?_range h]; simp
    · rename_i h; rw [List.getElem?_eq_none_iff.mpr (by simpa using Nat.le_of_not_lt h)]; rfl
  · simp only [show ¬ (-1 : Int) = 1 from by decide, if_false, if_true, List.getElem?_map]
    split
    · rename_i h; rw [List.getElem?_range h]; simp; omega
    · rename_i h; rw [List.getElem?_eq_none_iff.mpr (by simpa using Nat.le_of_not_lt h)]; rfl
theorem rng_size {lo hi st : Int} (hs : st = 1 ∨ st = -1) : Builtin.Range.rangeSize lo hi st = rngLen lo hi st := by
  unfold Builtin.Range.rangeSize rngLen
  rcases hs with rfl | rfl
  · rw [if_pos (by decide), if_pos rfl]; split <;> omega
  · simp only [show ¬ (-1 : Int) = 1 from by decide, show ¬ (-1 : Int) > 0 from by decide, if_false, Int.neg_neg, Int.ediv_one]
    split <;> omega
theorem rng_small' {lo hi st : Int} (ok : RngOk lo hi st) : Builtin.Range.small lo hi st = true := by
  obtain ⟨q2, q3, hs⟩ := ok
  unfold Builtin.Range.small
  rw [rng_size hs]
  unfold Builtin.Range.rangeFitsLong rngLen
  rcases hs with rfl | rfl
  · simp only [Bool.and_eq_true, Bool.or_eq_true, decide_eq_true_eq, beq_iff_eq, if_pos (show (1 : Int) > 0 from by decide), if_pos]
    omega
  · simp only [Bool.and_eq_true, Bool.or_eq_true, decide_eq_true_eq, beq_iff_eq, if_neg (show ¬ (-1 : Int) > 0 from by decide), if_neg (show ¬ (-1 : Int) = 1 from by decide)]
    omega

theorem iter_rng (hh : A.handled = none) {it r : Addr} {lo hi st : Int} (hs : st = 1 ∨ st = -1) : Iter c A it (.ref r) (.rng lo hi st) (rngItems lo hi st) (fun k h => IsRangeIter h it (lo + k * st) ((rngLen lo hi st : Int) - k) st) where
  obj := fun k h ho => ⟨_, _, ho, rfl, notRK (vs := #[]) (T := "range_iterator") rfl (by decide) (by decide)⟩
  keep := fun k h h' ho e => e.trans ho
  own := fun k h o ho e => by rw [ho] at e; cases e; exact ⟨_, rfl, by decide⟩
  self := fun k s P E hit h => wpAny_pyIter_rangeiter hit h
  item := by
    intro k w s μ P E hk hi' r' hv hit h
    rw [rngItems_get hs] at hk
    split at hk
    · rename_i hlt; cases hk
      refine wpAny_pyNext_range_item hit (by omega) fun h' hit' sb => h _ h' _ sb.extBut ?_ (.int _ _)
      have e1 : lo + ((k : Nat) : Int) * st + st = lo + ((k + 1 : Nat) : Int) * st := by rw [Int.natCast_add, Int.add_mul]; omega
      have e2 : (rngLen lo hi st : Int) - k - 1 = (rngLen lo hi st : Int) - ((k + 1 : Nat) : Int) := by omega
      rw [e1, e2] at hit'
      exact hit'
    · cases hk
  fin := by
    intro k s μ P E hk hi' r' hv hit h
    rw [rngItems_get hs] at hk
    split at hk
    · cases hk
    · rename_i hlt
      exact wpAny_pyNext_range_end hh hit (by omega) h

theorem iter_dct (hh : A.handled = none) {it x : Addr} {ep : Nat} {ks : List Int} {items : List V} : Iter c A it (.ref x) (.dk x ep ks) items (fun k h => h.IsKeyIter it x k ks.length ep) where
  obj := fun k h ⟨o, ho, hc, hd⟩ => ⟨o, _, ho, hd, notRK (vs := #[]) hc (by decide) (by decide)⟩
  keep := fun k h h' ⟨o, ho, r⟩ e => ⟨o, e.trans ho, r⟩
  own := fun k h o ⟨o', ho, hc, _⟩ e => by rw [ho] at e; cases e; exact ⟨_, hc, by decide⟩
  self := fun k s P E hit h => wpAny_pyIter_keyiter hit h
  item := by
    intro k w s μ P E hk hi r hv hit h
    unfold itemsOf at hi
    dsimp only at hi
    split at hi
    · rename_i ep' l hl
      split at hi
      · rename_i q
        obtain ⟨_, rfl, rfl⟩ := q
        cases hi
        obtain ⟨rs, h1, h2, h3, h4⟩ := r.dct hl
        rw [List.getElem?_map] at hk
        obtain ⟨i, hi1, rfl⟩ := Option.map_eq_some_iff.mp hk
        rw [← h2, List.getElem?_map] at hi1
        obtain ⟨⟨i', rv⟩, hi2, rfl⟩ := Option.map_eq_some_iff.mp hi1
        have hlen : (l.map (·.1)).length = rs.length := by rw [← h2, List.length_map]
        rw [hlen] at hit
        refine wpAny_pyNext_dict_item hit h1 hi2 fun key h' hkey hit' sb => ?_
        obtain ⟨t, rfl⟩ := Value.isInt_shape hkey
        rw [← hlen] at hit'
        exact h _ h' _ sb.extBut hit' (.int _ _)
      · cases hi
    · cases hi
  fin := by
    intro k s μ P E hk hi r hv hit h
    unfold itemsOf at hi
    dsimp only at hi
    split at hi
    · rename_i ep' l hl
      split at hi
      · rename_i q
        obtain ⟨_, rfl, rfl⟩ := q
        cases hi
        obtain ⟨rs, h1, h2, h3, h4⟩ := r.dct hl
        have hlen : (l.map (·.1)).length = rs.length := by rw [← h2, List.length_map]
        rw [hlen] at hit
        refine wpAny_pyNext_dict_end hh hit h1 ?_ h
        rw [List.getElem?_eq_none_iff, List.length_map, hlen] at hk
        exact List.getElem?_eq_none_iff.mpr hk
      · cases hi
    · cases hi
/-- the start of a walk through items -/
theorem iter_sound {rv : Value} {v : V} {items : List V} {P : Value → Shared → Prop} {E : Value → Shared → Prop} (hh : A.handled = none) (r : Rel c μ s.heap) (hv : RV c s.heap rv v) (hi : itemsOf μ v = some items)
    (h : ∀ it s' It, Iter c A it rv v items It → It 0 s'.heap → s.heap.get? it = none → Step c fs μ μ s s' → P (.ref it) s') : wpAny (model c.prog c.w) A (pyIter rv) P E s := by
  have n0 : s.heap.get? s.heap.objs.size = none := Heap.get?_none_of_le (Nat.le_refl _)
  cases hv with
  | ref a =>
    have hi' := hi
    unfold itemsOf at hi
    dsimp only at hi
    split at hi
    · rename_i l hl; cases hi
      obtain ⟨us, n, h1, h2, h3⟩ := r.lst hl
      exact wpAny_pyIter_list ⟨_, h1, rfl, n, rfl⟩ (h _ _ _ (iter_list hh) ⟨_, Heap.get?_push_size _ rfl, rfl, rfl⟩ n0 (Step.grows (n := s.toks) r fun b o e => Heap.get?_push_of_some _ e))
    · cases hi
  | rng e ok =>
    cases hi
    refine wpAny_pyIter_range e (rng_small' ok) (h _ _ _ (iter_rng hh ok.2.2) ?_ n0 (Step.grows (n := s.toks) r fun b o e => Heap.get?_push_of_some _ e))
    rw [rng_size ok.2.2]
    refine (Heap.get?_push_size s.heap rfl).trans ?_
    simp
  | dk x ep ks =>
    have hi' := hi
    unfold itemsOf at hi
    dsimp only at hi
    split at hi
    · rename_i ep' l hl
      split at hi
      · rename_i q
        obtain ⟨q1, rfl, rfl⟩ := q
        cases hi
        obtain ⟨rs, h1, h2, h3, h4⟩ := r.dct hl
        have hlen : (l.map (·.1)).length = rs.length := by rw [← h2, List.length_map]
        refine wpAny_pyIter_dict (show (x == sysModules) = false from beq_false_of_ne q1) h1 (h _ _ _ (iter_dct hh) ?_ n0 (Step.grows (n := s.toks) r fun b o e => Heap.get?_push_of_some _ e))
        rw [hlen]
        exact ⟨_, Heap.get?_push_size _ rfl, rfl, rfl⟩
      · cases hi
    · cases hi
  | none | bool | int | str | tup | exc | frz => cases hi

end
end Mine

set_option autoImplicit false
namespace Mine
set_option linter.unusedVariables false
set_option linter.unusedSimpArgs false
open PySem PySem.W PySem.Calls PyProof.Rows

/-- an expression is sound -/
noncomputable def SE (c : Ctx) (sg : Sig) (d : Nat) (e : E) : Prop := ∀ (hd : Bool) (A : Around) (fs : List Env) (env : Env) (ρ : Loc) (μ : Mem) (s : Shared) (Q : V → Mem → Prop) (X : String → Mem → Prop),
  okE sg env.scope.names e = true → wpE sg (SC c d) hd e ρ μ Q X → St c d hd A fs env ρ μ s → wpAny (model c.prog c.w) A (eval (toE e) env) (Post c fs μ s Q) (XPost c fs μ s X) s
noncomputable def ST (c : Ctx) (sg : Sig) (d : Nat) (e : E) : Prop := ∀ (hd : Bool) (A : Around) (fs : List Env) (env : Env) (ρ : Loc) (μ : Mem) (s : Shared) (Q₀ : V → Mem → Prop) (Q : Bool → Mem → Prop) (X : String → Mem → Prop),
  (∀ v μ₁, Q₀ v μ₁ → tr v fun b => Q b μ₁) → okE sg env.scope.names e = true → wpE sg (SC c d) hd e ρ μ Q₀ X → St c d hd A fs env ρ μ s → wpAny (model c.prog c.w) A (isTrue (toE e) env (eval (toE e) env)) (PostB c fs μ s Q) (XPost c fs μ s X) s

section
variable {c : Ctx} {sg : Sig} {d : Nat} {hd : Bool} {A : Around} {fs : List Env} {env : Env} {ρ : Loc} {μ : Mem} {s : Shared} {E : Value → Shared → Prop}

theorem ses {es : List Mine.E} : (∀ e ∈ es, SE c sg d e) → ∀ {μ : Mem} {s : Shared} {Q : List V → Mem → Prop} {X : String → Mem → Prop}, okEs sg env.scope.names es = true → wpEs sg (SC c d) hd es ρ μ Q X → St c d hd A fs env ρ μ s →
    wpAny (model c.prog c.w) A (spliced (es.map fun e => (false, eval (toE e) env))) (Posts c fs μ s fun vs μ' => vs.length = es.length ∧ Q vs μ') (XPost c fs μ s X) s := by
  induction es with
  | nil => intro _ μ s Q X _ h S; exact spliced_nil ⟨[], μ, Step.refl S.rel, .nil, rfl, h⟩
  | cons e es ih =>
    intro hs μ s Q X ok h S
    simp only [okEs, Bool.and_eq_true] at ok
    refine spliced_cons (wpAny_mono (hs e (.head _) hd A fs env ρ μ s _ X ok.1 h S) (fun rv s₁ ⟨v, μ₁, st, hv, q⟩ => ?_) fun _ _ x => x)
    refine wpAny_mono (ih (fun e' he => hs e' (.tail _ he)) ok.2 q (S.step st)) (fun rvs s₂ ⟨vs, μ₂, st₂, hvs, q₂⟩ => ?_) fun _ _ x => x.after st
    exact ⟨v :: vs, μ₂, st.trans st₂, .cons (hv.step st.rel st₂) hvs, by rw [List.length_cons, List.length_cons, q₂.1], q₂.2⟩

theorem tr_bool {v : V} {k : Bool → Prop} (h : tr v k) : ∃ b, v = .bool b ∧ k b := by
  unfold tr truth at h
  split at h
  · rename_i b e
    split at e
    · cases e; exact ⟨_, rfl, h⟩
    · cases e
  · exact h.elim
theorem truthy_sound {rv : Value} {v : V} {k : Bool → Prop} {P : Bool → Shared → Prop} {M : Model} {h : Heap} (hv : RV c h rv v) (t : tr v k) (q : ∀ b, k b → P b s) : wpAny M A (truthy rv) P E s := by
  obtain ⟨b, rfl, hb⟩ := tr_bool t
  cases hv
  exact wpAny_truthy_bool (q b hb)

/-- the arguments, then the call -/
theorem call_es {es : List Mine.E} {f : Value} {first : List Value} {pos : Pos} {Q : V → Mem → Prop} {Qs : List V → Mem → Prop} {X : String → Mem → Prop} (G : Good c sg) (hs : ∀ e ∈ es, SE c sg d e) (ok : okEs sg env.scope.names es = true) (h : wpEs sg (SC c d) hd es ρ μ Qs X) (S : St c d hd A fs env ρ μ s)
    (hk : keepIn c.K f = true ∨ (∃ id, f = .builtin id) ∨ ∃ T, f = .type T)
    (k : ∀ rvs vs μ₁ s₁, Step c fs μ μ₁ s s₁ → RVs c s₁.heap rvs vs → Qs vs μ₁ → wpAny (model c.prog c.w) A (call f (first ++ rvs)) (Post c fs μ₁ s₁ Q) (XPost c fs μ₁ s₁ X) s₁) :
    wpAny (model c.prog c.w) A (callWith pos f first (backTo pos (starEach (toEs es) env)) []) (Post c fs μ s Q) (XPost c fs μ s X) s := by
  have e1 : (es.map fun e => ((false, eval (toE e) env) : Bool × Sem Value)) = (es.map fun e => eval (toE e) env).map fun t => (false, t) := by rw [List.map_map]; rfl
  rw [backTo_toEs, e1]
  have hp : ((es.map fun e => eval (toE e) env).map fun t => ((false, t) : Bool × Sem Value)).any (·.1) = false := by
    rw [List.any_map]; simp
  have args := ses (fs := fs) (A := A) hs ok h S
  rw [e1] at args
  have fin : wpAny (model c.prog c.w) A (evalArgs f true ((es.map fun e => eval (toE e) env).map fun t => (false, t)) []) (fun a s₁ => c.K.In s₁.heap ∧ wpAny (model c.prog c.w) A (call f (first ++ a.pos) a.kw) (Post c fs μ s Q) (XPost c fs μ s X) s₁) (XPost c fs μ s X) s :=
    evalArgs_es (wpAny_mono args (fun rvs s₁ ⟨vs, μ₁, st, hvs, _, q⟩ => ⟨G.X.keeps st.rel.base, wp_after st (k rvs vs μ₁ s₁ st hvs q)⟩) fun _ _ x => x)
  rcases hk with hk | ⟨id, rfl⟩ | ⟨T, rfl⟩
  · exact callWith_of (by rw [hp]; rfl) (keeps_K hk) fin
  · exact PySem.Calls.callWith_builtin hp (wpAny_mono fin (fun _ _ x => x.2) fun _ _ x => x)
  · exact PySem.callWith_type hp (wpAny_mono fin (fun _ _ x => x.2) fun _ _ x => x)

theorem sc_call {hd : Bool} {f : String} {fa : Addr} {vs : List V} {rvs : List Value} {Q : V → Mem → Prop} {X : String → Mem → Prop} (h : SC c d hd f vs μ Q X) (hf : c.fn f = some fa) (aok : AOK c d hd A fs μ s.heap) (r : Rel c μ s.heap) (hr : RVs c s.heap rvs vs) :
    wpAny (model c.prog c.w) A (call (.ref fa) rvs) (Post c fs μ s Q) (XPost c fs μ s X) s := by
  obtain ⟨fa', h1, h2⟩ := h
  rw [hf] at h1; cases h1
  exact wpAny_call (h2 A fs s rvs aok r hr)

theorem new_sound {cl : String} {C fI : Addr} {vs : List V} {rvs : List Value} {Q : V → Mem → Prop} {X : String → Mem → Prop} (X' : c.K.In s.heap) (hm : makesIn c.K C = true) (hi : findIn c.K (.ref C) "__init__" = some (some (.ref fI))) (hty : typeIn c.K (.ref fI) = some (.type "function"))
    (hc : c.cls cl = some C) (hf : c.fn (cl ++ ".__init__") = some fI) (S : St c d hd A fs env ρ μ s) (hr : RVs c s.heap rvs vs)
    (h : ∀ a dd, μ a = none → μ dd = none → dd ≠ a → SC c d hd (cl ++ ".__init__") (.ref a :: vs) (updM (updM μ dd (.attrs [])) a (.inst cl dd)) (fun v μ₂ => (match v with | .none => True | _ => False) ∧ Q (.ref a) μ₂) X) :
    wpAny (model c.prog c.w) A (call (.ref C) rvs) (Post c fs μ s Q) (XPost c fs μ s X) s := by
  obtain ⟨hp, g, dr, t, os⟩ := s
  have n0 : hp.get? hp.objs.size = none := Heap.get?_none_of_le (Nat.le_refl _)
  have n1 : (hp.push emptyDict).get? (hp.objs.size + 1) = none := Heap.get?_none_of_le (by rw [Heap.size_push]; exact Nat.le_refl _)
  have k0 : ∀ b o, hp.get? b = some o → (hp.push emptyDict).get? b = some o := fun b o e => Heap.get?_push_of_some _ e
  have st0 : Step c fs μ (updM μ hp.objs.size (.attrs [])) ⟨hp, g, dr, t, os⟩ ⟨hp.push emptyDict, g, dr, t, os⟩ := Step.alloc S.rel k0 n0 (Heap.get?_push_size _ rfl) (.attrs (es := []) .nil)
  have g1 : ((hp.push emptyDict).push (instObj C hp.objs.size)).get? (hp.objs.size + 1) = some (instObj C hp.objs.size) := by
    have := Heap.get?_push_size (hp.push emptyDict) (o := instObj C hp.objs.size) rfl
    rwa [Heap.size_push] at this
  have st1 : Step c fs (updM μ hp.objs.size (.attrs [])) (updM (updM μ hp.objs.size (.attrs [])) (hp.objs.size + 1) (.inst cl hp.objs.size)) ⟨hp.push emptyDict, g, dr, t, os⟩ ⟨(hp.push emptyDict).push (instObj C hp.objs.size), g, dr, t, os⟩ :=
    Step.alloc st0.rel (fun b o e => Heap.get?_push_of_some _ e) n1 g1 (.inst hc)
  have st := st0.trans st1
  have m1 : μ (hp.objs.size + 1) = none := S.rel.free (Heap.get?_none_of_le (by exact Nat.le_succ _))
  obtain ⟨fa', h1, h2⟩ := h (hp.objs.size + 1) hp.objs.size m1 (S.rel.free n0) (Nat.ne_of_lt (Nat.lt_succ_self _))
  rw [hf] at h1; cases h1
  refine wpAny_call (make_core (makes_of X' hm) (looks_findIn X' hi) (fun self => bind_fn X' self hty) (.inl rfl) ?_)
  have aok := S.aok.step st
  have := S.room
  have hu := S.units
  have aok' : AOK c d hd (A.under (.builtin "type.__call__" ⟨.ref C :: rvs, []⟩)) fs (updM (updM μ hp.objs.size (.attrs [])) (hp.objs.size + 1) (.inst cl hp.objs.size)) ((hp.push emptyDict).push (instObj C hp.objs.size)) :=
    ⟨aok.frames, by rw [depth_under_make]; omega, by rw [units_under_make]; omega, aok.handled, aok.fun_, aok.priv, aok.dicts⟩
  refine codeAny_mono (h2 _ fs _ (.ref (hp.objs.size + 1) :: rvs) aok' st.rel (.cons (.ref _) (hr.step S.rel st))) fun r s' hrr => ?_
  rcases r with re | (_ | _ | _ | v)
  · exact hrr.after st
  · exact hrr.elim
  · exact hrr.elim
  · exact hrr.elim
  · obtain ⟨v', μ', st', hv, hn, hq⟩ := hrr
    cases hv <;> first | exact hn.elim | exact ⟨rfl, .ref (hp.objs.size + 1), μ', st.trans st', .ref _, hq⟩
end
end Mine

set_option autoImplicit false
namespace Mine
set_option linter.unusedVariables false
set_option linter.unusedSimpArgs false
open PySem PySem.W PySem.Calls PyProof.Rows

section
variable {c : Ctx} {sg : Sig} {d : Nat}

theorem wp_next {A : Around} {fs : List Env} {μ₀ μ : Mem} {s₀ s : Shared} {t : Sem Value} {Q₁ : V → Mem → Prop} {X : String → Mem → Prop} {P : Value → Shared → Prop} (st : Step c fs μ₀ μ s₀ s) (h : wpAny (model c.prog c.w) A t (Post c fs μ s Q₁) (XPost c fs μ s X) s)
    (k : ∀ rv v μ₁ s₁, Step c fs μ μ₁ s s₁ → Step c fs μ₀ μ₁ s₀ s₁ → RV c s₁.heap rv v → Q₁ v μ₁ → P rv s₁) : wpAny (model c.prog c.w) A t P (XPost c fs μ₀ s₀ X) s :=
  wpAny_mono h (fun rv s₁ ⟨v, μ₁, st₁, hv, q⟩ => k rv v μ₁ s₁ st₁ (st.trans st₁) hv q) fun _ _ x => x.after st
theorem wp_nextB {A : Around} {fs : List Env} {μ₀ μ : Mem} {s₀ s : Shared} {t : Sem Bool} {Q₁ : Bool → Mem → Prop} {X : String → Mem → Prop} {P : Bool → Shared → Prop} (st : Step c fs μ₀ μ s₀ s) (h : wpAny (model c.prog c.w) A t (PostB c fs μ s Q₁) (XPost c fs μ s X) s)
    (k : ∀ b μ₁ s₁, Step c fs μ μ₁ s s₁ → Step c fs μ₀ μ₁ s₀ s₁ → Q₁ b μ₁ → P b s₁) : wpAny (model c.prog c.w) A t P (XPost c fs μ₀ s₀ X) s :=
  wpAny_mono h (fun b s₁ ⟨μ₁, st₁, q⟩ => k b μ₁ s₁ st₁ (st.trans st₁) q) fun _ _ x => x.after st
theorem wp_last {A : Around} {fs : List Env} {μ₀ μ : Mem} {s₀ s : Shared} {t : Sem Value} {Q : V → Mem → Prop} {E : Value → Shared → Prop} (st : Step c fs μ₀ μ s₀ s) (h : wpAny (model c.prog c.w) A t (Post c fs μ s Q) E s) : wpAny (model c.prog c.w) A t (Post c fs μ₀ s₀ Q) E s :=
  wpAny_mono h (fun _ _ p => p.after st) fun _ _ x => x

theorem se_bin {op : Operator} {l r : E} {p : Pos} (hl : SE c sg d l) (hr : SE c sg d r) : SE c sg d (.bin op l r p) := by
  intro hd A fs env ρ μ s Q X ok h S
  simp only [okE_loc, okE_glob, okE_bin, okE_neg, okE_not, okE_and, okE_or, okE_cmp, okE_cmp2, okE_attr, okE_sub, okE_sliceL, okE_sliceU, okE_sliceLU, okE_tup, okE_list, okE_call, okE_new, okE_bltn, okE_isi, okE_meth, okE_comp, Bool.and_eq_true] at ok
  refine wpAny_BinOp (wp_next (Step.refl S.rel) (hl hd A fs env ρ μ s _ X ok.1 h S) fun ra a μ₁ s₁ st _ ha q => ?_)
  refine wp_next st (hr hd A fs env ρ μ₁ s₁ _ X ok.2 q (S.step st)) fun rb b μ₂ s₂ st₂ st' hb q₂ => ?_
  exact wp_last st' (bin_sound st₂.rel (ha.step st.rel st₂) hb q₂ ((S.step st).step st₂).aok)

theorem se_neg {e : E} {p : Pos} (he : SE c sg d e) : SE c sg d (.neg e p) := by
  intro hd A fs env ρ μ s Q X ok h S
  simp only [okE_loc, okE_glob, okE_bin, okE_neg, okE_not, okE_and, okE_or, okE_cmp, okE_cmp2, okE_attr, okE_sub, okE_sliceL, okE_sliceU, okE_sliceLU, okE_tup, okE_list, okE_call, okE_new, okE_bltn, okE_isi, okE_meth, okE_comp] at ok
  refine wpAny_UnaryOp (wp_next (Step.refl S.rel) (he hd A fs env ρ μ s _ X ok h S) fun ra a μ₁ s₁ st _ ha q => ?_)
  unfold asInt at q
  split at q
  · cases ha; exact PyProof.Rows.neg_int ⟨_, μ₁, st.trans (Step.toks st.rel), .int _ _, q⟩
  · exact q.elim

theorem se_not {e : E} {p : Pos} (he : SE c sg d e) : SE c sg d (.not e p) := by
  intro hd A fs env ρ μ s Q X ok h S
  simp only [okE_loc, okE_glob, okE_bin, okE_neg, okE_not, okE_and, okE_or, okE_cmp, okE_cmp2, okE_attr, okE_sub, okE_sliceL, okE_sliceU, okE_sliceLU, okE_tup, okE_list, okE_call, okE_new, okE_bltn, okE_isi, okE_meth, okE_comp] at ok
  refine wpAny_UnaryOp (wp_next (Step.refl S.rel) (he hd A fs env ρ μ s _ X ok h S) fun ra a μ₁ s₁ st _ ha q => ?_)
  exact not_of (truthy_sound ha q fun b hb => ⟨.bool (!b), μ₁, st, .bool _, hb⟩)

theorem behind_toE (op : CmpOp) (e : E) : behindInMarks op (toE e) = false := by cases e <;> first | rfl | (rename Un => kk; cases kk <;> rfl)
theorem se_cmp {op : CmpOp} {l r : E} {p : Pos} (hl : SE c sg d l) (hr : SE c sg d r) : SE c sg d (.cmp op l r p) := by
  intro hd A fs env ρ μ s Q X ok h S
  simp only [okE_loc, okE_glob, okE_bin, okE_neg, okE_not, okE_and, okE_or, okE_cmp, okE_cmp2, okE_attr, okE_sub, okE_sliceL, okE_sliceU, okE_sliceLU, okE_tup, okE_list, okE_call, okE_new, okE_bltn, okE_isi, okE_meth, okE_comp, Bool.and_eq_true] at ok
  refine wpAny_Compare1 (wp_next (Step.refl S.rel) (hl hd A fs env ρ μ s _ X ok.1 h S) fun ra a μ₁ s₁ st _ ha q => ?_) (behind_toE op r)
  refine wp_next st (hr hd A fs env ρ μ₁ s₁ _ X ok.2 q (S.step st)) fun rb b μ₂ s₂ st₂ st' hb q₂ => ?_
  exact wp_last st' (cmp_sound st₂.rel (ha.step st.rel st₂) hb q₂ ((S.step st).step st₂).aok)

theorem se_attr {o : E} {a : String} {p : Pos} (G : Good c sg) (ho : SE c sg d o) : SE c sg d (.attr o a p) := by
  intro hd A fs env ρ μ s Q X ok h S
  simp only [okE_loc, okE_glob, okE_bin, okE_neg, okE_not, okE_and, okE_or, okE_cmp, okE_cmp2, okE_attr, okE_sub, okE_sliceL, okE_sliceU, okE_sliceLU, okE_tup, okE_list, okE_call, okE_new, okE_bltn, okE_isi, okE_meth, okE_comp, Bool.and_eq_true] at ok
  have hb : ∃ x p, o = .loc x p := by
    have := ok.2
    split at this
    · exact ⟨_, _, rfl⟩
    · cases this
  have main := wp_next (P := fun ra s₁ => wpAny (model c.prog c.w) A (getAttr ra (Str.ofString a) true) (Post c fs μ s Q) (XPost c fs μ s X) s₁) (Step.refl S.rel) (ho hd A fs env ρ μ s _ X ok.1.1 h S) fun ra v μ₁ s₁ st _ ha q => by
    unfold optW at q
    split at q
    · rename_i w hw
      exact wp_last st (attr_sound (G.X.keeps st.rel.base) st.rel ha hw G.cls (fun x C hC => G.attr x C a hC (List.contains_iff_mem.mp ok.1.2)) q)
    · exact q.elim
  obtain ⟨x, p', rfl⟩ := hb
  exact Attribute_any_ main rfl

theorem se_sub {o i : E} {p : Pos} (ho : SE c sg d o) (hi : SE c sg d i) : SE c sg d (.sub o i p) := by
  intro hd A fs env ρ μ s Q X ok h S
  simp only [okE_loc, okE_glob, okE_bin, okE_neg, okE_not, okE_and, okE_or, okE_cmp, okE_cmp2, okE_attr, okE_sub, okE_sliceL, okE_sliceU, okE_sliceLU, okE_tup, okE_list, okE_call, okE_new, okE_bltn, okE_isi, okE_meth, okE_comp, Bool.and_eq_true] at ok
  refine Subscript_ (wp_next (Step.refl S.rel) (ho hd A fs env ρ μ s _ X ok.1 h S) fun ra a μ₁ s₁ st _ ha q => ?_)
  refine wp_next st (hi hd A fs env ρ μ₁ s₁ _ X ok.2 q (S.step st)) fun rb b μ₂ s₂ st₂ st' hb q₂ => ?_
  unfold optW at q₂
  split at q₂
  · rename_i w hw
    exact wp_last st' (sub_sound st₂.rel (ha.step st.rel st₂) hb hw q₂)
  · exact q₂.elim

theorem se_tup {es : List E} {k : Nat} {p : Pos} (hs : ∀ e ∈ es, SE c sg d e) : SE c sg d (.tup es k p) := by
  intro hd A fs env ρ μ s Q X ok h S
  simp only [okE_loc, okE_glob, okE_bin, okE_neg, okE_not, okE_and, okE_or, okE_cmp, okE_cmp2, okE_attr, okE_sub, okE_sliceL, okE_sliceU, okE_sliceLU, okE_tup, okE_list, okE_call, okE_new, okE_bltn, okE_isi, okE_meth, okE_comp, Bool.and_eq_true, decide_eq_true_eq] at ok
  refine Tuple_ ?_
  rw [backTo_toEs]
  refine wpAny_mono (ses hs ok.1 h S) (fun rvs s₁ ⟨vs, μ₁, st, hvs, hln, q⟩ => ?_) fun _ _ x => x
  have hl := hvs.length
  have hok := ok.2
  have k : ∀ b o, s₁.heap.get? b = some o → (s₁.heap.push { cls := .type "tuple", data := .seq rvs.toArray }).get? b = some o := fun b o e => Heap.get?_push_of_some _ e
  have st' : Step c fs μ₁ μ₁ s₁ { s₁ with heap := s₁.heap.push { cls := .type "tuple", data := .seq rvs.toArray } } := Step.grows (n := s₁.toks) st.rel k
  refine wpAny_newTuple ⟨.tup vs, μ₁, st.trans st', .tup (Heap.get?_push_size _ rfl) rfl rfl (by simpa using hvs.step st.rel st') (by rw [lim_val]; omega), q⟩ ?_
  rw [sizeLine_eq]; omega

theorem se_list {es : List E} {p : Pos} (hs : ∀ e ∈ es, SE c sg d e) : SE c sg d (.list es p) := by
  intro hd A fs env ρ μ s Q X ok h S
  simp only [okE_loc, okE_glob, okE_bin, okE_neg, okE_not, okE_and, okE_or, okE_cmp, okE_cmp2, okE_attr, okE_sub, okE_sliceL, okE_sliceU, okE_sliceLU, okE_tup, okE_list, okE_call, okE_new, okE_bltn, okE_isi, okE_meth, okE_comp, Bool.and_eq_true, decide_eq_true_eq] at ok
  refine List_ ?_
  rw [backTo_toEs]
  refine wpAny_mono (ses hs ok.1 h S) (fun rvs s₁ ⟨vs, μ₁, st, hvs, _, q⟩ => ?_) fun _ _ x => x
  refine wpAny_newList ((post_newL (n := s₁.toks) st.rel (by simpa using hvs) q).after st) ?_
  have := newL_size (vs := rvs.toArray) (by simpa using hvs) q.1
  simpa using this
end
end Mine

set_option autoImplicit false
namespace Mine
set_option linter.unusedVariables false
set_option linter.unusedSimpArgs false
open PySem PySem.W PySem.Calls PyProof.Rows

section
variable {c : Ctx} {sg : Sig} {d : Nat}

theorem eval_SliceL {M : Model} {A : Around} {E : Value → Shared → Prop} {s : Shared} {env : Env} {l : Expr} {ps : Pos} {P : Value → Shared → Prop}
    (h : wpAny M A (eval l env) (fun rl s₁ => P (.ref s₁.heap.objs.size) { s₁ with heap := s₁.heap.push { cls := .type "slice", data := .fields #[rl, .none, .none] } }) E s) : wpAny M A (eval (.Slice (some l) none none ps) env) P E s := by
  show wpAny M A (do
    let l ← eval l env
    let u ← holding [l] (pure .none)
    let s ← holding [l, u] (pure .none)
    newFields "slice" [l, u, s]) P E s
  refine wpAny_bind (wpAny_mono h (fun rl s₁ h₁ => ?_) fun _ _ x => x)
  refine wpAny_bind (wpAny_holding (wpAny_pure (wpAny_bind (wpAny_holding (wpAny_pure ?_)))))
  unfold newFields
  exact wpAny_newObj_type h₁ (by show sizeOk (.fields _); simp [sizeOk, sizeLine_eq])
theorem eval_SliceU {M : Model} {A : Around} {E : Value → Shared → Prop} {s : Shared} {env : Env} {l : Expr} {ps : Pos} {P : Value → Shared → Prop}
    (h : wpAny M A (eval l env) (fun rl s₁ => P (.ref s₁.heap.objs.size) { s₁ with heap := s₁.heap.push { cls := .type "slice", data := .fields #[.none, rl, .none] } }) E s) : wpAny M A (eval (.Slice none (some l) none ps) env) P E s := by
  show wpAny M A (do
    let l' ← pure .none
    let u ← holding [l'] (eval l env)
    let s ← holding [l', u] (pure .none)
    newFields "slice" [l', u, s]) P E s
  refine wpAny_bind (wpAny_pure (wpAny_bind (wpAny_holding (wpAny_mono h (fun rl s₁ h₁ => ?_) fun _ _ x => x))))
  refine wpAny_bind (wpAny_holding (wpAny_pure ?_))
  unfold newFields
  exact wpAny_newObj_type h₁ (by show sizeOk (.fields _); simp [sizeOk, sizeLine_eq])

theorem eval_SliceLU {M : Model} {A : Around} {E : Value → Shared → Prop} {s : Shared} {env : Env} {l u : Expr} {ps : Pos} {P : Value → Shared → Prop}
    (h : wpAny M A (eval l env) (fun rl s₁ => wpAny M A (eval u env) (fun ru s₂ => P (.ref s₂.heap.objs.size) { s₂ with heap := s₂.heap.push { cls := .type "slice", data := .fields #[rl, ru, .none] } }) E s₁) E s) : wpAny M A (eval (.Slice (some l) (some u) none ps) env) P E s := by
  show wpAny M A (do
    let l ← eval l env
    let u ← holding [l] (eval u env)
    let s ← holding [l, u] (pure .none)
    newFields "slice" [l, u, s]) P E s
  refine wpAny_bind (wpAny_mono h (fun rl s₁ h₁ => ?_) fun _ _ x => x)
  refine wpAny_bind (wpAny_holding (wpAny_mono h₁ (fun ru s₂ h₂ => ?_) fun _ _ x => x))
  refine wpAny_bind (wpAny_holding (wpAny_pure ?_))
  unfold newFields
  exact wpAny_newObj_type h₂ (by show sizeOk (.fields _); simp [sizeOk, sizeLine_eq])

theorem se_sliceLU {o l u : E} {ps p : Pos} (ho : SE c sg d o) (hl : SE c sg d l) (hu : SE c sg d u) : SE c sg d (.sliceLU o l u ps p) := by
  intro hd A fs env ρ μ s Q X ok h S
  simp only [okE_loc, okE_glob, okE_bin, okE_neg, okE_not, okE_and, okE_or, okE_cmp, okE_cmp2, okE_attr, okE_sub, okE_sliceL, okE_sliceU, okE_sliceLU, okE_tup, okE_list, okE_call, okE_new, okE_bltn, okE_isi, okE_meth, okE_comp, Bool.and_eq_true] at ok
  refine Subscript_ (wp_next (Step.refl S.rel) (ho hd A fs env ρ μ s _ X ok.1.1 h S) fun ra a μ₁ s₁ st _ ha q => ?_)
  refine eval_SliceLU (wp_next st (hl hd A fs env ρ μ₁ s₁ _ X ok.1.2 q (S.step st)) fun rb b μ₂ s₂ st₂ st' hb q₂ => ?_)
  refine wp_next st' (hu hd A fs env ρ μ₂ s₂ _ X ok.2 q₂ ((S.step st).step st₂)) fun rc b' μ₃ s₃ st₃ st'' hc q₃ => ?_
  obtain ⟨i, rfl, q₃⟩ := asInt_of (v := b) q₃
  obtain ⟨j, rfl, q₃⟩ := asInt_of (v := b') q₃
  obtain ⟨t1, rfl⟩ := hb.int_of
  obtain ⟨t2, rfl⟩ := hc.int_of
  exact wpAny_mono (slice_sound st₃.rel ((ha.step st.rel st₂).step st₂.rel st₃) (.int _ _) (.int _ _) q₃ fun _ _ => rfl) (fun _ _ p => p.after st'') fun _ _ x => x
theorem se_sliceL {o l : E} {ps p : Pos} (ho : SE c sg d o) (hl : SE c sg d l) : SE c sg d (.sliceL o l ps p) := by
  intro hd A fs env ρ μ s Q X ok h S
  simp only [okE_loc, okE_glob, okE_bin, okE_neg, okE_not, okE_and, okE_or, okE_cmp, okE_cmp2, okE_attr, okE_sub, okE_sliceL, okE_sliceU, okE_sliceLU, okE_tup, okE_list, okE_call, okE_new, okE_bltn, okE_isi, okE_meth, okE_comp, Bool.and_eq_true] at ok
  refine Subscript_ (wp_next (Step.refl S.rel) (ho hd A fs env ρ μ s _ X ok.1 h S) fun ra a μ₁ s₁ st _ ha q => ?_)
  refine eval_SliceL (wp_next st (hl hd A fs env ρ μ₁ s₁ _ X ok.2 q (S.step st)) fun rb b μ₂ s₂ st₂ st' hb q₂ => ?_)
  obtain ⟨i, rfl, q₂⟩ := asInt_of q₂
  cases hb
  exact wpAny_mono (slice_sound st₂.rel (ha.step st.rel st₂) (.int _ _) .none q₂ fun _ _ => rfl) (fun _ _ p => p.after st') fun _ _ x => x
theorem se_sliceU {o l : E} {ps p : Pos} (ho : SE c sg d o) (hl : SE c sg d l) : SE c sg d (.sliceU o l ps p) := by
  intro hd A fs env ρ μ s Q X ok h S
  simp only [okE_loc, okE_glob, okE_bin, okE_neg, okE_not, okE_and, okE_or, okE_cmp, okE_cmp2, okE_attr, okE_sub, okE_sliceL, okE_sliceU, okE_sliceLU, okE_tup, okE_list, okE_call, okE_new, okE_bltn, okE_isi, okE_meth, okE_comp, Bool.and_eq_true] at ok
  refine Subscript_ (wp_next (Step.refl S.rel) (ho hd A fs env ρ μ s _ X ok.1 h S) fun ra a μ₁ s₁ st _ ha q => ?_)
  refine eval_SliceU (wp_next st (hl hd A fs env ρ μ₁ s₁ _ X ok.2 q (S.step st)) fun rb b μ₂ s₂ st₂ st' hb q₂ => ?_)
  obtain ⟨i, rfl, q₂⟩ := asInt_of q₂
  cases hb
  exact wpAny_mono (slice_sound st₂.rel (ha.step st.rel st₂) .none (.int _ _) q₂ fun _ _ => rfl) (fun _ _ p => p.after st') fun _ _ x => x

theorem br_ite {b : Bool} {P Q : Prop} {P' Q' : Prop} (h : br b P Q) (h1 : P → P') (h2 : Q → Q') : if b = true then P' else Q' := by
  cases b with
  | true => rw [if_pos rfl]; exact h1 (h.1 rfl)
  | false => rw [if_neg (by decide)]; exact h2 (h.2 rfl)

theorem se_cmp2 {op₁ op₂ : CmpOp} {a b e : E} {p : Pos} (ha : SE c sg d a) (hb : SE c sg d b) (he : SE c sg d e) : SE c sg d (.cmp2 op₁ op₂ a b e p) := by
  intro hd A fs env ρ μ s Q X ok h S
  simp only [okE_loc, okE_glob, okE_bin, okE_neg, okE_not, okE_and, okE_or, okE_cmp, okE_cmp2, okE_attr, okE_sub, okE_sliceL, okE_sliceU, okE_sliceLU, okE_tup, okE_list, okE_call, okE_new, okE_bltn, okE_isi, okE_meth, okE_comp, Bool.and_eq_true] at ok
  refine Compare_chain (wp_next (Step.refl S.rel) (ha hd A fs env ρ μ s _ X ok.1.1 h S) fun ra va μ₁ s₁ st _ hva q => ?_) (by show lastMarks [op₁, op₂] [toE b, toE e] = false; exact behind_toE op₂ e)
  refine chain_link (wp_next st (hb hd A fs env ρ μ₁ s₁ _ X ok.1.2 q (S.step st)) fun rb vb μ₂ s₂ st₂ st' hvb q₂ => ?_)
  have S₂ := (S.step st).step st₂
  refine wpAny_mono (cmp_sound (E := XPost c fs μ s X) st₂.rel (hva.step st.rel st₂) hvb q₂ S₂.aok) (fun rt s₃ ⟨t, μ₃, st₃, ht, q₃⟩ => ?_) fun _ _ x => x
  refine truthy_sound ht q₃ fun y hy => ?_
  refine br_ite hy (fun h1 => ?_) fun h2 => ⟨t, μ₃, st'.trans st₃, ht, h2⟩
  refine chain_last (wp_next (st'.trans st₃) (he hd A fs env ρ μ₃ s₃ _ X ok.2 h1 (S₂.step st₃)) fun rc vc μ₄ s₄ st₄ st'' hvc q₄ => ?_)
  exact wp_last st'' (cmp_sound st₄.rel ((hvb.step st₂.rel st₃).step st₃.rel st₄) hvc q₄ ((S₂.step st₃).step st₄).aok)

theorem evalEach_toEs (env : Env) : ∀ es : List E, evalEach (toEs es) env = es.map fun e => eval (toE e) env
  | [] => rfl
  | e :: es => by rw [toEs, evalEach, evalEach_toEs env es, List.map_cons]

theorem sands {hd : Bool} {A : Around} {fs : List Env} {env : Env} {ρ : Loc} {X : String → Mem → Prop} {Q : V → Mem → Prop} {p : Pos} : ∀ {es : List E} {μ : Mem} {s : Shared}, (∀ e ∈ es, SE c sg d e) → okEs sg env.scope.names es = true → wpAnd sg (SC c d) hd es ρ μ Q X → St c d hd A fs env ρ μ s →
    wpAny (model c.prog c.w) A (boolOp p .And (es.map fun e => eval (toE e) env)) (Post c fs μ s Q) (XPost c fs μ s X) s
  | [], _, _, _, _, h, _ => h.elim
  | [e], μ, s, hs, ok, h, S => by
    simp only [okEs, Bool.and_eq_true] at ok
    exact hs e (.head _) hd A fs env ρ μ s Q X ok.1 h S
  | e :: e' :: es, μ, s, hs, ok, h, S => by
    rw [okEs, Bool.and_eq_true] at ok
    show wpAny _ A (eval (toE e) env >>= fun v => standAt p >>= fun _ => holding [v] (truthy v) >>= fun t => match BoolOp.And, t with | .And, false | .Or, true => pure v | _, _ => boolOp p .And ((e' :: es).map fun e => eval (toE e) env)) _ _ s
    refine wpAny_bind (wp_next (Step.refl S.rel) (hs e (.head _) hd A fs env ρ μ s _ X ok.1 h S) fun rv v μ₁ s₁ st _ hv q => ?_)
    refine wpAny_bind (wpAny_standAt (wpAny_bind (wpAny_holding (truthy_sound hv q fun b hb => ?_))))
    cases b with
    | true => exact wp_after st (sands (fun x hx => hs x (.tail _ hx)) ok.2 (hb.1 rfl) (S.step st))
    | false => exact wpAny_pure ⟨v, μ₁, st, hv, hb.2 rfl⟩
theorem sors {hd : Bool} {A : Around} {fs : List Env} {env : Env} {ρ : Loc} {X : String → Mem → Prop} {Q : V → Mem → Prop} {p : Pos} : ∀ {es : List E} {μ : Mem} {s : Shared}, (∀ e ∈ es, SE c sg d e) → okEs sg env.scope.names es = true → wpOr sg (SC c d) hd es ρ μ Q X → St c d hd A fs env ρ μ s →
    wpAny (model c.prog c.w) A (boolOp p .Or (es.map fun e => eval (toE e) env)) (Post c fs μ s Q) (XPost c fs μ s X) s
  | [], _, _, _, _, h, _ => h.elim
  | [e], μ, s, hs, ok, h, S => by
    simp only [okEs, Bool.and_eq_true] at ok
    exact hs e (.head _) hd A fs env ρ μ s Q X ok.1 h S
  | e :: e' :: es, μ, s, hs, ok, h, S => by
    rw [okEs, Bool.and_eq_true] at ok
    show wpAny _ A (eval (toE e) env >>= fun v => standAt p >>= fun _ => holding [v] (truthy v) >>= fun t => match BoolOp.Or, t with | .And, false | .Or, true => pure v | _, _ => boolOp p .Or ((e' :: es).map fun e => eval (toE e) env)) _ _ s
    refine wpAny_bind (wp_next (Step.refl S.rel) (hs e (.head _) hd A fs env ρ μ s _ X ok.1 h S) fun rv v μ₁ s₁ st _ hv q => ?_)
    refine wpAny_bind (wpAny_standAt (wpAny_bind (wpAny_holding (truthy_sound hv q fun b hb => ?_))))
    cases b with
    | true => exact wpAny_pure ⟨v, μ₁, st, hv, hb.1 rfl⟩
    | false => exact wp_after st (sors (fun x hx => hs x (.tail _ hx)) ok.2 (hb.2 rfl) (S.step st))

theorem se_and {es : List E} {p : Pos} (hs : ∀ e ∈ es, SE c sg d e) : SE c sg d (.and es p) := by
  intro hd A fs env ρ μ s Q X ok h S
  simp only [okE_loc, okE_glob, okE_bin, okE_neg, okE_not, okE_and, okE_or, okE_cmp, okE_cmp2, okE_attr, okE_sub, okE_sliceL, okE_sliceU, okE_sliceLU, okE_tup, okE_list, okE_call, okE_new, okE_bltn, okE_isi, okE_meth, okE_comp] at ok
  show wpAny _ A (boolOp p .And (evalEach (toEs es) env)) _ _ s
  rw [evalEach_toEs]
  exact sands hs ok h S
theorem se_or {es : List E} {p : Pos} (hs : ∀ e ∈ es, SE c sg d e) : SE c sg d (.or es p) := by
  intro hd A fs env ρ μ s Q X ok h S
  simp only [okE_loc, okE_glob, okE_bin, okE_neg, okE_not, okE_and, okE_or, okE_cmp, okE_cmp2, okE_attr, okE_sub, okE_sliceL, okE_sliceU, okE_sliceLU, okE_tup, okE_list, okE_call, okE_new, okE_bltn, okE_isi, okE_meth, okE_comp] at ok
  show wpAny _ A (boolOp p .Or (evalEach (toEs es) env)) _ _ s
  rw [evalEach_toEs]
  exact sors hs ok h S
end
end Mine

set_option autoImplicit false
namespace Mine
set_option linter.unusedVariables false
set_option linter.unusedSimpArgs false
open PySem PySem.W PySem.Calls PyProof.Rows

theorem boot_len : bootBuiltins (Str.ofString "len") = some (.builtin "len") := by decide +kernel
theorem boot_min : bootBuiltins (Str.ofString "min") = some (.builtin "min") := by decide +kernel
theorem boot_max : bootBuiltins (Str.ofString "max") = some (.builtin "max") := by decide +kernel
theorem boot_sum : bootBuiltins (Str.ofString "sum") = some (.builtin "sum") := by decide +kernel
theorem boot_all : bootBuiltins (Str.ofString "all") = some (.builtin "all") := by decide +kernel
theorem boot_int : bootBuiltins (Str.ofString "int") = some (.type "int") := by decide +kernel
theorem boot_range : bootBuiltins (Str.ofString "range") = some (.type "range") := by decide +kernel
theorem boot_list : bootBuiltins (Str.ofString "list") = some (.type "list") := by decide +kernel
theorem boot_bool : bootBuiltins (Str.ofString "bool") = some (.type "bool") := by decide +kernel
theorem boot_str : bootBuiltins (Str.ofString "str") = some (.type "str") := by decide +kernel
theorem boot_tuple : bootBuiltins (Str.ofString "tuple") = some (.type "tuple") := by decide +kernel
theorem boot_isi : bootBuiltins (Str.ofString "isinstance") = some (.builtin "isinstance") := by decide +kernel
theorem boot_blt : ∀ f ∈ bltNames, bootBuiltins (Str.ofString f) = some (bltnV f) := by
  intro f hf
  simp only [bltNames, List.mem_cons, List.not_mem_nil, or_false] at hf
  rcases hf with rfl | rfl | rfl | rfl | rfl | rfl | rfl | rfl
  · exact boot_len
  · exact boot_int
  · exact boot_min
  · exact boot_max
  · exact boot_range
  · exact boot_list
  · exact boot_sum
  · exact boot_all
end Mine

set_option autoImplicit false
namespace Mine
set_option linter.unusedVariables false
set_option linter.unusedSimpArgs false
open PySem PySem.W PySem.Calls PyProof.Rows

section
variable {c : Ctx} {sg : Sig} {d : Nat}

theorem se_loc {x : String} {p : Pos} : SE c sg d (.loc x p) := by
  intro hd A fs env ρ μ s Q X ok h S
  simp only [okE_loc, okE_glob, okE_bin, okE_neg, okE_not, okE_and, okE_or, okE_cmp, okE_cmp2, okE_attr, okE_sub, okE_sliceL, okE_sliceU, okE_sliceLU, okE_tup, okE_list, okE_call, okE_new, okE_bltn, okE_isi, okE_meth, okE_comp, Bool.and_eq_true, bne_iff_ne, ne_eq] at ok
  replace h : optW (ρ x) μ Q := h
  unfold optW at h
  split at h
  · rename_i v hv
    exact loc_sound S hv ok.1.2 ok.2 h
  · exact h.elim
theorem se_glob {x : String} {p : Pos} (G : Good c sg) : SE c sg d (.glob x p) := by
  intro hd A fs env ρ μ s Q X ok h S
  simp only [okE_loc, okE_glob, okE_bin, okE_neg, okE_not, okE_and, okE_or, okE_cmp, okE_cmp2, okE_attr, okE_sub, okE_sliceL, okE_sliceU, okE_sliceLU, okE_tup, okE_list, okE_call, okE_new, okE_bltn, okE_isi, okE_meth, okE_comp, Bool.and_eq_true, bne_iff_ne, ne_eq, beq_iff_eq] at ok
  replace h : optW (sg.consts.lookup x) μ Q := h
  unfold optW at h
  split at h
  · rename_i v hv
    obtain ⟨rv, h1, h2⟩ := G.const x v hv
    exact name_glob G S.er S.rel ok.1.1 ok.2 h1 ⟨v, μ, Step.refl S.rel, h2 _, h⟩
  · exact h.elim

theorem se_call {f : String} {es : List E} {pf p : Pos} (G : Good c sg) (hs : ∀ e ∈ es, SE c sg d e) : SE c sg d (.call f es pf p) := by
  intro hd A fs env ρ μ s Q X ok h S
  simp only [okE_loc, okE_glob, okE_bin, okE_neg, okE_not, okE_and, okE_or, okE_cmp, okE_cmp2, okE_attr, okE_sub, okE_sliceL, okE_sliceU, okE_sliceLU, okE_tup, okE_list, okE_call, okE_new, okE_bltn, okE_isi, okE_meth, okE_comp, Bool.and_eq_true, bne_iff_ne, ne_eq, beq_iff_eq] at ok
  obtain ⟨fa, h1, h2, h3⟩ := G.fn f (List.contains_iff_mem.mp ok.1.1.2)
  refine wpAny_Call_NameR (name_glob G S.er S.rel ok.1.1.1 ok.2 h2 ?_)
  refine call_es G hs ok.1.2 h S (.inl h3) fun rvs vs μ₁ s₁ st hr q => ?_
  exact sc_call q h1 (S.step st).aok st.rel hr

theorem se_new {f : String} {es : List E} {pf p : Pos} (G : Good c sg) (hs : ∀ e ∈ es, SE c sg d e) : SE c sg d (.new f es pf p) := by
  intro hd A fs env ρ μ s Q X ok h S
  simp only [okE_loc, okE_glob, okE_bin, okE_neg, okE_not, okE_and, okE_or, okE_cmp, okE_cmp2, okE_attr, okE_sub, okE_sliceL, okE_sliceU, okE_sliceLU, okE_tup, okE_list, okE_call, okE_new, okE_bltn, okE_isi, okE_meth, okE_comp, Bool.and_eq_true, bne_iff_ne, ne_eq, beq_iff_eq] at ok
  obtain ⟨C, fI, h1, h2, h3, h4, h5, h6, h7⟩ := G.new f (List.contains_iff_mem.mp ok.1.1.2)
  refine wpAny_Call_NameR (name_glob G S.er S.rel ok.1.1.1 ok.2 h2 ?_)
  refine call_es G hs ok.1.2 h S (.inl h4) fun rvs vs μ₁ s₁ st hr q => ?_
  exact new_sound (G.X.keeps st.rel.base) h3 h6 h7 h1 h5 (S.step st) hr q

theorem bltn_ne {f : String} (h : f ∈ bltNames) : f ≠ "__debug__" ∧ f ≠ "__name__" := by
  simp only [bltNames, List.mem_cons, List.not_mem_nil, or_false] at h
  rcases h with rfl | rfl | rfl | rfl | rfl | rfl | rfl | rfl <;> decide

theorem se_bltn {f : String} {es : List E} {pf p : Pos} (G : Good c sg) (hs : ∀ e ∈ es, SE c sg d e) : SE c sg d (.bltn f es pf p) := by
  intro hd A fs env ρ μ s Q X ok h S
  simp only [okE_loc, okE_glob, okE_bin, okE_neg, okE_not, okE_and, okE_or, okE_cmp, okE_cmp2, okE_attr, okE_sub, okE_sliceL, okE_sliceU, okE_sliceLU, okE_tup, okE_list, okE_call, okE_new, okE_bltn, okE_isi, okE_meth, okE_comp, Bool.and_eq_true, bne_iff_ne, ne_eq, beq_iff_eq] at ok
  have hm := List.contains_iff_mem.mp ok.1.2
  refine wpAny_Call_NameR (name_blt G S.er S.rel ok.1.1 (bltn_ne hm).1 (bltn_ne hm).2 (G.blt f (List.mem_cons_of_mem _ (List.mem_append_left _ hm))) (boot_blt f hm) ?_)
  refine call_es G hs ok.2 h S ?_ fun rvs vs μ₁ s₁ st hr q => ?_
  · unfold bltnV
    split
    · exact .inr (.inl ⟨_, rfl⟩)
    · exact .inr (.inr ⟨_, rfl⟩)
  · exact bltn_sound st.rel hr q (S.step st).aok

theorem boot_ty : ∀ n ∈ tyNames, bootBuiltins (Str.ofString n) = some (.type n) ∧ n ≠ "__debug__" ∧ n ≠ "__name__" := by
  intro f hf
  simp only [tyNames, List.mem_cons, List.not_mem_nil, or_false] at hf
  rcases hf with rfl | rfl | rfl | rfl | rfl | rfl | rfl | rfl
  · exact ⟨boot_int, by decide, by decide⟩
  · exact ⟨boot_bool, by decide, by decide⟩
  · exact ⟨boot_str, by decide, by decide⟩
  · exact ⟨boot_tuple, by decide, by decide⟩
  · exact ⟨boot_list, by decide, by decide⟩
  · exact ⟨by decide +kernel, by decide, by decide⟩
  · exact ⟨by decide +kernel, by decide, by decide⟩
  · exact ⟨by decide +kernel, by decide, by decide⟩

theorem isi_out {cl : Cl} {v : V} {μ : Mem} {Q : V → Mem → Prop} (q : match isiO μ v cl with | some b => Q (.bool b) μ | none => False) : ∃ b, isiO μ v cl = some b ∧ Q (.bool b) μ := by
  split at q
  · rename_i b e; exact ⟨b, e, q⟩
  · exact q.elim
theorem se_isi {e : E} {cl : Cl} {pf pc p : Pos} (G : Good c sg) (he : SE c sg d e) : SE c sg d (.isi e cl pf pc p) := by
  intro hd A fs env ρ μ s Q X ok h S
  simp only [okE_loc, okE_glob, okE_bin, okE_neg, okE_not, okE_and, okE_or, okE_cmp, okE_cmp2, okE_attr, okE_sub, okE_sliceL, okE_sliceU, okE_sliceLU, okE_tup, okE_list, okE_call, okE_new, okE_bltn, okE_isi, okE_meth, okE_comp, Bool.and_eq_true, bne_iff_ne, ne_eq, beq_iff_eq] at ok
  obtain ⟨⟨ok1, ok2⟩, ok3⟩ := ok
  cases cl with
  | ty n =>
    simp only [Bool.and_eq_true, bne_iff_ne, ne_eq, beq_iff_eq] at ok3
    obtain ⟨m1, m3⟩ := ok3
    have hm := List.contains_iff_mem.mp m1
    obtain ⟨b1, b2, b3⟩ := boot_ty n hm
    refine wpAny_Call_NameR (name_blt G S.er S.rel ok1 (by decide) (by decide) (G.blt _ (.head _)) boot_isi ?_)
    have e1 : backTo p (starEach [toE e, Expr.Name (Str.ofString n) pc] env) = [(false, eval (toE e) env), (false, eval (.Name (Str.ofString n) pc) env)] := by cases e <;> first | rfl | (rename Un => kk; cases kk <;> rfl)
    show wpAny _ A (callWith p (.builtin "isinstance") [] (backTo p (starEach [toE e, Expr.Name (Str.ofString n) pc] env)) []) _ _ s
    rw [e1]
    refine PySem.Calls.callWith_builtin rfl (evalArgs_plain (spliced_cons (wp_next (Step.refl S.rel) (he hd A fs env ρ μ s _ X ok2 h S) fun ra v μ₁ s₁ st _ ha q => ?_)))
    have S₁ := S.step st
    refine spliced_cons (name_blt G S₁.er S₁.rel m3 b2 b3 (G.blt n (List.mem_cons_of_mem _ (List.mem_append_right _ hm))) b1 (spliced_nil ?_))
    obtain ⟨b, hb, q⟩ := isi_out q
    by_cases m2 : n = "ValueError"
    · subst m2; exact absurd hb (by cases v <;> simp [isiO])
    · refine isi_ty_sound st.rel ha (fun x hx => ?_) hb fun tk => ⟨.bool b, μ₁, st.trans (Step.toks st.rel), .bool _, q⟩
      subst hx
      cases hb
  | own n =>
    refine wpAny_Call_NameR (name_blt G S.er S.rel ok1 (by decide) (by decide) (G.blt _ (.head _)) boot_isi ?_)
    have e1 : backTo p (starEach [toE e, Expr.Name (Str.ofString n) pc] env) = [(false, eval (toE e) env), (false, eval (.Name (Str.ofString n) pc) env)] := by cases e <;> first | rfl | (rename Un => kk; cases kk <;> rfl)
    show wpAny _ A (callWith p (.builtin "isinstance") [] (backTo p (starEach [toE e, Expr.Name (Str.ofString n) pc] env)) []) _ _ s
    rw [e1]
    exact PySem.Calls.callWith_builtin rfl (evalArgs_plain (spliced_cons (wp_next (Step.refl S.rel) (he hd A fs env ρ μ s _ X ok2 h S) fun ra v μ₁ s₁ st _ ha q => q.elim)))
  | owns l =>
    refine wpAny_Call_NameR (name_blt G S.er S.rel ok1 (by decide) (by decide) (G.blt _ (.head _)) boot_isi ?_)
    have e1 : backTo p (starEach [toE e, Expr.Tuple (l.map fun n => .Name (Str.ofString n.1) n.2) 0 pc] env) = [(false, eval (toE e) env), (false, eval (.Tuple (l.map fun n => .Name (Str.ofString n.1) n.2) 0 pc) env)] := by cases e <;> first | rfl | (rename Un => kk; cases kk <;> rfl)
    show wpAny _ A (callWith p (.builtin "isinstance") [] (backTo p (starEach [toE e, Expr.Tuple (l.map fun n => .Name (Str.ofString n.1) n.2) 0 pc] env)) []) _ _ s
    rw [e1]
    exact PySem.Calls.callWith_builtin rfl (evalArgs_plain (spliced_cons (wp_next (Step.refl S.rel) (he hd A fs env ρ μ s _ X ok2 h S) fun ra v μ₁ s₁ st _ ha q => q.elim)))

theorem base_toE (o : E) (m : Str) (env : Env) (w : Sem Value) (h : (match o with | .call _ es _ _ | .new _ es _ _ | .bltn _ es _ _ => !es.isEmpty | _ => true) = true) : attributeBase (toE o) m env w = w := by
  cases o <;> first | rfl | (rename Un => kk; cases kk <;> rfl) | (rename_i es _ _; cases es with | nil => cases h | cons _ _ => rfl)

theorem meth_eval {M : Model} {A : Around} {Ex : Value → Shared → Prop} {s : Shared} {env : Env} {o : E} {es : List E} {m : Str} {pa p : Pos} {P : Value → Shared → Prop} (hb : attributeBase (toE o) m env (eval (toE o) env) = eval (toE o) env) (hl : (pa.endLine == p.line) = true) (hn : es.length < 20)
    (h : wpAny M A (eval (toE o) env) (fun ov s₁ => wpAny M A (getMethod ov m (do return (← importBound (toE o) env).getD true)) (fun fx s₂ => wpAny M A (callWith p fx.1 fx.2 (backTo p (starEach (toEs es) env)) []) P Ex s₂) Ex s₁) Ex s) :
    wpAny M A (eval (.Call (.Attribute (toE o) m pa) (toEs es) [] p) env) P Ex s := by
  rw [arm_eval_Call, hb]
  refine wpAny_bind (wpAny_mono h (fun ov s₁ h₁ => wpAny_bind (wpAny_standAt ?_)) fun _ _ x => x)
  have hform : methodCallForm ((toEs es).length + ([] : List Keyword).length) (backTo p (starEach (toEs es) env)) (backToKw p (keywordEach [] env)) = true := by
    rw [backTo_toEs, toEs_length]
    unfold methodCallForm
    simp [backToKw, keywordEach]
    omega
  have hpos : methodCallPos true (toE o) env pa p = pure p := by unfold methodCallPos; simp [hl]
  unfold methodCall
  rw [hform]
  refine wpAny_bind (wpAny_holding ?_)
  show wpAny M A (getMethod ov m _) _ _ _
  exact wpAny_mono h₁ (fun fx s₂ h₂ => wpAny_bind (wpAny_of_eq hpos h₂)) fun _ _ x => x

theorem list_attr (m : String) (hm : m = "append" ∨ m = "extend" ∨ m = "count") : Slot "list" (Str.ofString m) ("list." ++ m) ∧ typeOf (.builtin ("list." ++ m)) = pure (.type "method_descriptor") := by
  rcases hm with rfl | rfl | rfl
  · exact ⟨F.slot_list_append, F.type_list_append⟩
  · exact ⟨F.slot_list_extend, F.type_list_extend⟩
  · exact ⟨F.slot_list_count, F.type_list_count⟩

theorem se_meth {o : E} {m : String} {es : List E} {pa p : Pos} (G : Good c sg) (ho : SE c sg d o) (hs : ∀ e ∈ es, SE c sg d e) : SE c sg d (.meth o m es pa p) := by
  intro hd A fs env ρ μ s Q X ok h S
  simp only [okE_loc, okE_glob, okE_bin, okE_neg, okE_not, okE_and, okE_or, okE_cmp, okE_cmp2, okE_attr, okE_sub, okE_sliceL, okE_sliceU, okE_sliceLU, okE_tup, okE_list, okE_call, okE_new, okE_bltn, okE_isi, okE_meth, okE_comp, Bool.and_eq_true, decide_eq_true_eq] at ok
  obtain ⟨⟨⟨⟨ok1, ok2⟩, ok3⟩, ok4⟩, ok5⟩ := ok
  refine meth_eval (base_toE o _ env _ ok5) ok3 ok4 (wp_next (Step.refl S.rel) (ho hd A fs env ρ μ s _ X ok1 h S) fun ra v μ₁ s₁ st _ ha q => ?_)
  have S₁ := S.step st
  split at q
  · rename_i f a hc
    unfold calO at hc
    split at hc
    · rename_i x
      split at hc
      · rename_i cl dd hx
        split at hc
        · rename_i fl hdd
          split at hc
          · rename_i hl
            cases hc
            cases ha
            rw [Bool.and_eq_true] at hl
            obtain ⟨C, h1, h2⟩ := st.rel.insts hx
            obtain ⟨ess, n, h3, h4⟩ := st.rel.attr hdd
            have I : InstAt s₁.heap a (instObj C dd) C (some (dictOf ess n)) := ⟨h2, rfl, rfl, h3⟩
            have K' := G.X.keeps st.rel.base
            have hmiss := h4.missL (Option.isNone_iff_eq_none.mp hl.1)
            obtain ⟨fa, hfa, g1, g2, g3⟩ := G.meth cl C m h1 (List.contains_iff_mem.mp hl.2)
            refine method_fn K' I (G.cls _ _ h1).ga (G.cls _ _ h1).gat g1 g2 (by show (lookIn (Str.ofString m) (dictOf ess n)).map _ = _; rw [lookIn_dict, hmiss]; rfl) ?_
            refine wp_after st (call_es G hs ok2 q S₁ (.inl g3) fun rvs vs μ₂ s₂ st₂ hr q₂ => ?_)
            exact sc_call q₂ hfa (S₁.step st₂).aok st₂.rel (.cons (.ref _) hr)
          · cases hc
        · cases hc
      · split at hc <;> cases hc
      · cases hc
    · cases hc
  · rename_i m' a hc
    unfold calO at hc
    split at hc
    · rename_i x
      split at hc
      · split at hc
        · split at hc <;> cases hc
        · cases hc
      · rename_i l hx
        split at hc
        · rename_i hm
          cases hc
          cases ha
          obtain ⟨vs, n, h1, h2, h3⟩ := st.rel.lst hx
          obtain ⟨g1, g2⟩ := list_attr m hm
          refine getMethod_builtin (T := "list") (id := "list." ++ m) ⟨_, h1, rfl⟩ F.plainAttrs_list g1 g2 (fun b hb => by cases hb; exact ⟨_, h1, rfl⟩) ?_
          refine wp_after st (call_es G hs ok2 q S₁ (.inr (.inl ⟨_, rfl⟩)) fun rvs vs μ₂ s₂ st₂ hr q₂ => ?_)
          exact lst_sound st₂.rel hr q₂ (S₁.step st₂).aok
        · cases hc
      · cases hc
    · cases hc
  · exact q.elim
end
end Mine

set_option autoImplicit false
namespace Mine
set_option linter.unusedVariables false
set_option linter.unusedSimpArgs false
open PySem PySem.W PySem.Calls PyProof.Rows

theorem ER.sub {c : Ctx} {env : Env} {ρ ρ' : Loc} {μ : Mem} {h : Heap} (x : ER c env ρ μ h) (k : ∀ y v, ρ' y = some v → ρ y = some v) : ER c env ρ' μ h := by
  obtain ⟨m, hns, hm⟩ := x.names
  exact ⟨x.kind, x.glob, x.blt, x.priv, x.new, x.cells, x.inj, x.has, m, hns, fun y v e => hm y v (k y v e)⟩

theorem lookup_mem {α β : Type} [BEq α] [LawfulBEq α] {x : α} {v : β} : ∀ {l : List (α × β)}, l.lookup x = some v → (x, v) ∈ l
  | [], h => by cases h
  | (y, w) :: r, h => by
    simp only [List.lookup_cons] at h
    split at h
    · rename_i e; cases h; rw [beq_iff_eq.mp e]; exact .head _
    · exact .tail _ (lookup_mem h)
theorem lookup_relN (ns : List (Str × NameKind)) (x : Str) : ∀ names : List (Str × NameKind), (relN ns names).lookup x = (names.lookup x).map fun k => if (k == .free && ns.lookup x == some .cell) then .cell else k
  | [] => rfl
  | (n, k) :: r => by
    have ih := lookup_relN ns x r
    show List.lookup x ((if (k == NameKind.free && ns.lookup n == some .cell) = true then (n, NameKind.cell) else (n, k)) :: relN ns r) = _
    by_cases hc : (k == NameKind.free && ns.lookup n == some .cell) = true
    · rw [if_pos hc, List.lookup_cons, List.lookup_cons]
      cases hx : x == n with
      | true =>
        have e : x = n := beq_iff_eq.mp hx
        subst e
        simp only [Option.map_some]
        rw [if_pos hc]
      | false => exact ih
    · rw [if_neg hc, List.lookup_cons, List.lookup_cons]
      cases hx : x == n with
      | true =>
        have e : x = n := beq_iff_eq.mp hx
        subst e
        simp only [Option.map_some]
        rw [if_neg hc]
      | false => exact ih

theorem clos_go {env : Env} (names : List (Str × NameKind)) (hn : ∀ y ∈ names, y.2 = .free → (env.cells.lookup y.1).isSome = true) :
    ∀ cs : List (Str × Addr), (∀ x ca, cs.lookup x = some ca → env.cells.lookup x = some ca) → ∃ cl, (forIn (m := Sem) names cs fun (x : Str × NameKind) r => if (x.2 == NameKind.free) = true then do let a ← cellOf env x.1; pure (ForInStep.yield ((x.1, a) :: r)) else pure (ForInStep.yield r)) = pure cl ∧
      (∀ x ca, cl.lookup x = some ca → env.cells.lookup x = some ca) ∧ (∀ x, (∃ ca, cs.lookup x = some ca) ∨ (x, NameKind.free) ∈ names → (cl.lookup x).isSome = true) := by
  induction names with
  | nil =>
    intro cs hcs
    exact ⟨cs, rfl, hcs, fun x hx => by rcases hx with ⟨ca, h⟩ | h; rw [h]; rfl; cases h⟩
  | cons y r ih =>
    intro cs hcs
    obtain ⟨name, kind⟩ := y
    by_cases q : (kind == NameKind.free) = true
    · have hk : kind = .free := beq_iff_eq.mp q
      obtain ⟨a, ha⟩ := Option.isSome_iff_exists.mp (hn (name, kind) (.head _) hk)
      obtain ⟨cl, e, h1, h2⟩ := ih (fun y hy => hn y (.tail _ hy)) ((name, a) :: cs) (fun x ca hx => by
        rw [List.lookup_cons] at hx
        split at hx
        · rename_i z; cases hx; rw [beq_iff_eq.mp z]; exact ha
        · exact hcs x ca hx)
      refine ⟨cl, ?_, h1, fun x hx => h2 x ?_⟩
      · rw [List.forIn_cons]
        simp only [q, if_true, cellOf, ha]
        exact e
      · rcases hx with ⟨ca, hx⟩ | hx
        · left
          rw [List.lookup_cons]
          split
          · exact ⟨a, rfl⟩
          · exact ⟨ca, hx⟩
        · cases hx with
          | head => exact .inl ⟨a, by rw [List.lookup_cons]; simp⟩
          | tail _ hx => exact .inr hx
    · obtain ⟨cl, e, h1, h2⟩ := ih (fun y hy => hn y (.tail _ hy)) cs hcs
      refine ⟨cl, ?_, h1, fun x hx => h2 x ?_⟩
      · rw [List.forIn_cons]
        simp only [q]
        exact e
      · rcases hx with hx | hx
        · exact .inl hx
        · cases hx with
          | head => exact absurd rfl q
          | tail _ hx => exact .inr hx
theorem clos {env : Env} {scope : Scope} (hn : ∀ y ∈ scope.names, y.2 = .free → (env.cells.lookup y.1).isSome = true) :
    ∃ cl, closureFor scope env = pure cl ∧ (∀ x ca, cl.lookup x = some ca → env.cells.lookup x = some ca) ∧ (∀ x, (x, NameKind.free) ∈ scope.names → (cl.lookup x).isSome = true) := by
  obtain ⟨cl, e, h1, h2⟩ := clos_go scope.names hn [] (fun x ca h => by cases h)
  refine ⟨cl, ?_, h1, fun x hx => h2 x (.inr hx)⟩
  simp only [closureFor]
  rw [e]
  rfl

section
variable {c : Ctx} {sg : Sig} {d : Nat}

theorem lst_app {n : Addr} {acc : List V} {v : V} {μ : Mem} {Q : V → Mem → Prop} (ha : μ n = some (.list acc)) (hl : acc.length < lim) (q : Q .none (updM μ n (.list (acc ++ [v])))) : lstW "append" n [v] μ Q := by
  unfold lstW asL
  simp only [ha]
  exact ⟨hl, q⟩

theorem st_cmp {op : CmpOp} {l r : E} {p : Pos} (hl : SE c sg d l) (hr : SE c sg d r) : ST c sg d (.cmp op l r p) := by
  intro hd A fs env ρ μ s Q₀ Q X hq ok hw S
  simp only [okE_loc, okE_glob, okE_bin, okE_neg, okE_not, okE_and, okE_or, okE_cmp, okE_cmp2, okE_attr, okE_sub, okE_sliceL, okE_sliceU, okE_sliceLU, okE_tup, okE_list, okE_call, okE_new, okE_bltn, okE_isi, okE_meth, okE_comp, Bool.and_eq_true] at ok
  refine wpAny_isTrue_Compare1 (wp_next (Step.refl S.rel) (hl hd A fs env ρ μ s _ X ok.1 hw S) fun ra a μ₁ s₁ st _ ha q => ?_) (behind_toE op r)
  refine wp_next st (hr hd A fs env ρ μ₁ s₁ _ X ok.2 q (S.step st)) fun rb b μ₂ s₂ st₂ st' hb q₂ => ?_
  refine wpAny_mono (cmp_sound (E := XPost c fs μ s X) st₂.rel (ha.step st.rel st₂) hb q₂ ((S.step st).step st₂).aok) (fun rv s₃ ⟨v, μ₃, st₃, hv, q₃⟩ => ?_) fun _ _ x => x
  exact truthy_sound hv (hq v μ₃ q₃) fun b hb => ⟨μ₃, st'.trans st₃, hb⟩

theorem isCmp_of {e : E} (h : isCmp e = true) : ∃ op l r p, e = .cmp op l r p := by
  cases e with
  | cmp op l r p => exact ⟨op, l, r, p, rfl⟩
  | _ => cases h
/-- the tests of a comprehension: none, or one comparison -/
theorem tests_sound {ifs : List E} (hc : ifs.all isCmp = true) (hl : ifs.length ≤ 1) (hs : ∀ op l r p, E.cmp op l r p ∈ ifs → SE c sg d l ∧ SE c sg d r) {hd : Bool} {A : Around} {fs : List Env} {env : Env} {ρ : Loc} {μ : Mem} {s : Shared} {k : Bool → Mem → Prop} {P : Bool → Shared → Prop} {Ex : Value → Shared → Prop}
    (ok : okEs sg env.scope.names ifs = true) (h : wpIf sg (SC c d) hd ifs ρ μ k) (S : St c d hd A fs env ρ μ s) (fin : ∀ b μ' s', Step c fs μ μ' s s' → k b μ' → P b s') :
    wpAny (model c.prog c.w) A (forIn (toEs ifs) true fun c r => if r = true then do let ok ← isTrue c env (eval c env); pure (ForInStep.yield ok) else pure (ForInStep.yield r)) P Ex s := by
  match ifs, hc, hl, hs, ok, h with
  | [], _, _, _, _, h => exact wpAny_tests_nil (fin true μ s (Step.refl S.rel) h)
  | [e], hc, _, hs, ok, h =>
    simp only [okEs, Bool.and_eq_true] at ok
    obtain ⟨op, l, r, p, rfl⟩ := isCmp_of (show isCmp e = true by simpa using hc)
    · obtain ⟨h1, h2⟩ := hs op l r p (.head _)
      refine wpAny_tests_one (wpAny_mono (st_cmp h1 h2 hd A fs env ρ μ s _ k _ (fun v μ₁ q => q) ok.1 h S) (fun b s' ⟨μ', st, q⟩ => fin b μ' s' st q) fun _ _ y => y.no)
  | _ :: _ :: _, _, hl, _, _, _ => exact absurd hl (by simp)

/-- the things of a comprehension are bound -/
noncomputable def Asg (c : Ctx) (d : Nat) (hd : Bool) (A : Around) (fs : List Env) (cenv : Env) (ρ : Loc) (tgt : Expr) (B : V → (Loc → Prop) → Prop) : Prop :=
  ∀ {w : V} {rw_ : Value} {s : Shared} {μ : Mem} {K : Loc → Prop} {P : Unit → Shared → Prop} {Ex : Value → Shared → Prop} {it : Value}, St c d hd A fs cenv ρ μ s → RV c s.heap rw_ w → B w K →
    (∀ a (P : Unit → Shared → Prop) (Ex : Value → Shared → Prop), P () s → ∀ {elts x1 tp}, wpAny (model c.prog c.w) A (letOwnedTupleGo (.Tuple elts x1 tp) it (.ref a)) P Ex s) →
    (∀ ρ' s', StepS c fs (bare cenv) μ μ s s' → St c d hd A fs cenv ρ' μ s' → K ρ' → (∀ {μ : Mem} {h : Heap}, ER c cenv ρ' μ h → ER c cenv ρ μ h) → P () s') →
    wpAny (model c.prog c.w) A (letOwnedTupleGo tgt it rw_) (fun _ s₁ => wpAny (model c.prog c.w) A (assign tgt cenv rw_) P Ex s₁) Ex s
theorem go_ok {M : Model} {A : Around} {s : Shared} {it a : Addr} {o : Obj} {vs : Array Value} {n : String} {P : Unit → Shared → Prop} {Ex : Value → Shared → Prop} (ho : s.heap.get? it = some o) (hd : o.data = .fields vs) (hc : o.cls = .type n) (hn : owners.contains n = false) (h : P () s) {elts : List Expr} {x1} {tp : Pos} :
    wpAny M A (letOwnedTupleGo (.Tuple elts x1 tp) (.ref it) (.ref a)) P Ex s := by
  unfold letOwnedTupleGo
  refine wpAny_bind (wpAny_load ho ?_)
  rw [hc, hd]
  show wpAny _ A (if (owners.contains n && vs[0]? == some (rawInt a)) = true then _ else _) _ _ _
  rw [hn, Bool.false_and, if_neg Bool.false_ne_true]
  exact wpAny_pure h
theorem loop_tests {prog : Program} {w : World} {A : Around} {R : Result → Shared → Prop} {s : Shared} {elt target iter : Expr} {ifs : List Expr} {scope : Scope} {pos : Pos} {it acc : Value} {env : Env} (I : Nat → Shared → Prop)
    (turn : ∀ n s, I n s → wpAny (model prog w) A (pyNext it) (fun r s₁ => match r with
      | none => R (.ok .next) s₁
      | some v => wpAny (model prog w) A (letOwnedTupleGo target it v) (fun _ s₁' => wpAny (model prog w) A (assign target env v) (fun _ s₂ =>
          wpAny (model prog w) A (forIn ifs true fun c r => if r = true then do let ok ← isTrue c env (eval c env); pure (ForInStep.yield ok) else pure (ForInStep.yield r)) (fun ok s₃ =>
            if ok = true then wpAny (model prog w) A (eval elt env) (fun x s₄ =>
              wpAny (model prog w) A (call (.builtin "list.append") [acc, x]) (fun _ s₅ => ∃ m, m < n ∧ I m s₅) (notedBy (model prog w) A env fun e s' => R (.error e) s') s₄) (notedBy (model prog w) A env fun e s' => R (.error e) s') s₃
            else ∃ m, m < n ∧ I m s₃) (notedBy (model prog w) A env fun e s' => R (.error e) s') s₂) (notedBy (model prog w) A env fun e s' => R (.error e) s') s₁') (notedBy (model prog w) A env fun e s' => R (.error e) s') s₁) (notedBy (model prog w) A env fun e s' => R (.error e) s') s)
    (n : Nat) (h : I n s) : codeAny (model prog w) A (.compLoop (.ListComp elt [⟨target, iter, ifs, 0⟩] scope pos) 0 it acc env) R s := by
  refine codeAny_loop rfl I (fun n s hI => ?_) n h
  show wpAny _ A ((compTurn (.ListComp elt [⟨target, iter, ifs, 0⟩] scope pos) 0 it acc env).onRaise (fun x => do noteFrame x env; theTreesLotGoes x)) _ _ s
  refine wpAny_noted ?_
  rw [compTurn_list]
  refine wpAny_bind (wpAny_standAt (wpAny_bind (wpAny_mono (turn n s hI) (fun r s₁ h₁ => ?_) fun _ _ h' => h')))
  cases r with
  | none => exact wpAny_pure h₁
  | some v =>
    refine wpAny_bind (wpAny_mono h₁ (fun _ s₁' h₁' => ?_) fun _ _ h' => h')
    refine wpAny_bind (wpAny_mono h₁' (fun _ s₂ h₂ => wpAny_bind (wpAny_mono h₂ (fun ok s₃ h₃ => ?_) fun _ _ h' => h')) fun _ _ h' => h')
    cases ok with
    | false => exact wpAny_pure ⟨rfl, h₃⟩
    | true => exact wpAny_bind (wpAny_bind (wpAny_mono h₃ (fun x s₄ h₄ => wpAny_bind (wpAny_mono h₄ (fun _ s₅ h₅ => wpAny_pure (wpAny_pure ⟨rfl, h₅⟩)) fun _ _ h' => h')) fun _ _ h' => h'))

theorem comp_loop {elt : E} {tgt : Expr} {B : V → (Loc → Prop) → Prop} {ifs : List E} {it : Expr} {sc : Scope} {p : Pos} {hd : Bool} {A : Around} {fs : List Env} {cenv : Env} {ρ : Loc} {μ μ₀ : Mem} {s s₀ : Shared} {ia n : Addr} {rv : Value} {v : V} {items : List V} {It : Nat → Heap → Prop} {Q : Mem → Prop} {R : Result → Shared → Prop}
    (he : SE c sg d elt) (I : Iter c A ia rv v items It) (asg : Asg c d hd A fs cenv ρ tgt B) (oke : okE sg cenv.scope.names elt = true) (okt : okEs sg cenv.scope.names ifs = true) (hc : ifs.all isCmp = true) (hl : ifs.length ≤ 1) (hs : ∀ op l r p, E.cmp op l r p ∈ ifs → SE c sg d l ∧ SE c sg d r)
    (hbase : c.base.get? ia = none) (hn : s₀.heap.get? ia = none)
    (st : StepS c fs (bare cenv) μ₀ μ s₀ s) (S : St c d hd A fs cenv ρ μ s) (hv : RV c s.heap rv v) (hit : It 0 s.heap)
    (h : compI n (fun μ' => itemsOf μ' v = some items) (fun w μ₂ k => B w fun ρ' => wpIf sg (SC c d) hd ifs ρ' μ₂ fun b μ₃ => br b (wpE sg (SC c d) hd elt ρ' μ₃ (fun r μ' => k (some r) μ') fun _ _ => False) (k none μ₃)) items μ Q)
    (fin : ∀ μ' s', StepS c fs (bare cenv) μ₀ μ' s₀ s' → St c d hd A fs cenv ρ μ' s' → Q μ' → R (.ok .next) s') :
    codeAny (model c.prog c.w) A (.compLoop (.ListComp (toE elt) [⟨tgt, it, toEs ifs, 0⟩] sc p) 0 (.ref ia) (.ref n) cenv) R s := by
  obtain ⟨J, j0, jst, jturn, jfin⟩ := h
  refine loop_tests (fun m s => ∃ k μ, m = items.length - k ∧ k ≤ items.length ∧ StepS c fs (bare cenv) μ₀ μ s₀ s ∧ St c d hd A fs cenv ρ μ s ∧ RV c s.heap rv v ∧ It k s.heap ∧ J k μ) (fun m s hs' => ?_) items.length ⟨0, μ, rfl, Nat.zero_le _, st, S, hv, hit, j0⟩
  obtain ⟨k, μ, hk, hkl, st, S, hv, hit, h⟩ := hs'
  have ei := jst _ _ h
  cases hk' : items[k]? with
  | none =>
    have : k = items.length := Nat.le_antisymm hkl (List.getElem?_eq_none_iff.mp hk')
    refine I.fin k s μ _ _ hk' ei S.rel hv hit fun h' x => ?_
    subst this
    exact fin μ _ (st.it (n := s.toks) x hn) (S.ext (n := s.toks) x hbase (I.obj _ _ hit)) (jfin _ h)
  | some w =>
    have hlt : k < items.length := (List.getElem?_eq_some_iff.mp hk').1
    refine I.item k w s μ _ _ hk' ei S.rel hv hit fun rw_ h' n' x' hit' hw => ?_
    have ho := I.obj k _ hit
    have S₁ := S.ext (n := n') x' hbase ho
    have st₁ := st.it (n := n') x' hn
    have hv₁ := hv.monoV (monoV_ext x' ho)
    refine asg S₁ (hw.monoV (monoV_ext x' ho)) (jturn k w μ hk' h) (fun rv' P Ex hP => by obtain ⟨oi, vsi, oi1, oi2, _⟩ := I.obj _ _ hit'; obtain ⟨ni, oi3, oi4⟩ := I.own _ _ oi hit' oi1; exact go_ok oi1 oi2 oi3 oi4 hP) fun ρ' s₂ st₂ S₂ hK back => ?_
    refine tests_sound hc hl hs okt hK S₂ fun b μ₃ s₃ st₃ q => ?_
    have S₃ := S₂.step st₃
    have st₁₃ := st₂.trans st₃.toS
    cases b with
    | false =>
      rw [if_neg Bool.false_ne_true]
      exact ⟨items.length - (k + 1), by omega, k + 1, μ₃, rfl, hlt, st₁.trans st₁₃, ⟨S₃.rel, back S₃.er, S₃.aok, S₃.room, S₃.units⟩, st₁₃.wide.rv S₁ hv₁, I.keep _ _ _ hit' (st₁₃.wide.fields S₁ (I.obj _ _ hit')), q.2 rfl⟩
    | true =>
      rw [if_pos rfl]
      refine wpAny_mono (he hd A fs cenv _ μ₃ s₃ _ _ oke (q.1 rfl) S₃) (fun rv' s₄ hp => ?_) fun _ _ y => y.no
      obtain ⟨v', μ₄, st₄, hv', acc, ha, hl, q⟩ := hp
      have S₄ := S₃.step st₄
      refine wpAny_mono (lst_sound (m := "append") (Q := fun _ μ' => J (k + 1) μ') st₄.rel (.cons hv' .nil) (lst_app ha hl q) S₄.aok) (fun _ s₅ hp => ?_) fun _ _ y => y
      obtain ⟨_, μ₅, st₅, _, q₅⟩ := hp
      have S₅ := S₄.step st₅
      have st₁₅ := st₁₃.trans (st₄.toS.trans st₅.toS)
      exact ⟨items.length - (k + 1), by omega, k + 1, μ₅, rfl, hlt, st₁.trans st₁₅, ⟨S₅.rel, back S₅.er, S₅.aok, S₅.room, S₅.units⟩, st₁₅.wide.rv S₁ hv₁, I.keep _ _ _ hit' (st₁₅.wide.fields S₁ (I.obj _ _ hit')), q₅⟩

noncomputable def okC (sg : Sig) (ns : List (Str × NameKind)) (elt : E) (x : String) (cs : List String) (it : E) (ifs : List E) (sc : Scope) (px p : Pos) : Prop := okE sg ns (.comp elt x cs it ifs sc px p) = true

theorem comp_gcore {elt it : E} {tgt : Expr} {B : V → (Loc → Prop) → Prop} {cs : List String} {sc : Scope} {ifs : List E} {p pos : Pos} (hi : SE c sg d it) (he : SE c sg d elt) (hs : ∀ op l r p, E.cmp op l r p ∈ ifs → SE c sg d l ∧ SE c sg d r)
    {hd : Bool} {A : Around} {fs : List Env} {env : Env} {ρ : Loc} {μ : Mem} {s : Shared} {Q : V → Mem → Prop} {X : String → Mem → Prop} {use : Option (Value → Sem Unit)} {Q' : Value → Shared → Prop} {Ex : Value → Shared → Prop}
    (ok1 : okE sg env.scope.names it = true) (ok2 : okE sg (relN env.scope.names sc.names) elt = true) (ok3 : okEs sg (relN env.scope.names sc.names) ifs = true) (ok4 : ∀ x ∈ ifs, isCmp x = true) (ok4' : ifs.length ≤ 1) (ok5 : sc.kind = .function)
    (ok6 : ∀ y ∈ sc.names, ((y.2 = .local ∧ sc.names.lookup y.1 = some .local) ∨ (y.2 = .free ∧ env.scope.names.lookup y.1 = some .cell)) ∨ y.2 = .globalImplicit) (ok8 : ∀ y ∈ cs, sc.names.lookup (Str.ofString y) = some .free)
    (asg : ∀ cenv : Env, (∀ n, cenv.kindOf n = (relN env.scope.names sc.names).lookup n) → Asg c d hd A fs cenv (capL cs ρ) tgt B)
    (h : hd = false ∧ wpE sg (SC c d) hd it ρ μ (fun v μ₁ => match itemsOf μ₁ v with
      | some items => ∀ n, μ₁ n = none → compI n (fun μ' => itemsOf μ' v = some items) (fun w μ₂ k => B w fun ρ' => wpIf sg (SC c d) hd ifs ρ' μ₂ fun b μ₃ =>
          br b (wpE sg (SC c d) hd elt ρ' μ₃ (fun r μ' => k (some r) μ') fun _ _ => False) (k none μ₃)) items (updM μ₁ n (.list [])) (Q (.ref n))
      | none => False) X) (S : St c d hd A fs env ρ μ s) (hE : ∀ e s', XPost c fs μ s X e s' → Ex e s')
    (fin : ∀ C n μ' s' m, (∀ b o, s.heap.get? b = some o → μ b = none → b ≠ C) → c.base.get? C = none → μ' C = none → Step c fs μ μ' s s' → s'.heap.Ns C m → Q (.ref n) μ' → compPost (model c.prog c.w) A Ex use Q' (.ref n) C (.ok .next) s') :
    wpAny (model c.prog c.w) A (comprehension (.ListComp (toE elt) [⟨tgt, toE it, toEs ifs, 0⟩] sc p) sc env pos (newList []) false (eval (toE it) env) use) Q' Ex s := by
  obtain ⟨h0, h⟩ := h
  have kf : ∀ n, env.kindOf n = env.scope.names.lookup n := fun _ => rfl
  have hfree : ∀ y ∈ sc.names, y.2 = .free → (env.cells.lookup y.1).isSome = true := fun y hy q => by
    rcases ok6 y hy with (⟨z, _⟩ | ⟨_, z⟩) | z
    · rw [q] at z; cases z
    · exact S.er.has y.1 z
    · rw [q] at z; cases z
  obtain ⟨cl, hcl, cl1, cl2⟩ := clos hfree
  have ncell : ∀ y ∈ sc.names, y.2 ≠ .cell := fun y hy q => by
    rcases ok6 y hy with (⟨z, _⟩ | ⟨z, _⟩) | z <;> (rw [q] at z; cases z)
  have hnames : ∀ y ∈ sc.names, y.2 = .local → sc.names.lookup y.1 = some .local := fun y hy q => by
    rcases ok6 y hy with (⟨_, z⟩ | ⟨z, _⟩) | z
    · exact z
    · rw [q] at z; cases z
    · rw [q] at z; cases z
  have hrel : (relabel sc env).names = relN env.scope.names sc.names := by
    unfold relabel relN
    simp only [S.er.kind, kf, beq_self_eq_true, Bool.and_true]
  refine wpAny_comprehension_free rfl (fun x => by cases it <;> first | rfl | (rename Un => kk; cases kk <;> rfl)) hcl ok5 hnames (wpAny_mono (hi hd A fs env ρ μ s _ X ok1 h S) (fun rv s₁ hp => ?_) fun e s' y => hE e s' y)
  obtain ⟨v, μ₁, st, hv, q⟩ := hp
  split at q
  rotate_left
  · exact q.elim
  rename_i items hitems
  refine iter_sound (fs := fs) (S.aok.handled h0) st.rel hv hitems fun ia s₂ It I hit0 hn stI => ?_
  have bI : c.base.get? ia = none := by
    cases z : c.base.get? ia with
    | none => rfl
    | some o => have := st.rel.base _ o z; rw [hn] at this; cases this
  obtain ⟨oI, vsI, hoI, _, _⟩ := I.obj 0 _ hit0
  refine wpAny_newObj_type (hd := by size_fits) (wpAny_newFunctionEnv ncell (by intro y hy; cases hy) (fun h₁ hns₁ hsb₁ => ?_) ok5)
  dsimp only at hns₁ hsb₁ ⊢
  generalize hH2 : s₂.heap.push { cls := .type "list", dict := none, data := .seq ([] : List Value).toArray } = H2 at hns₁ hsb₁ ⊢
  have k2 : ∀ b o, s₂.heap.get? b = some o → H2.get? b = some o := fun b o e => hH2 ▸ Heap.get?_push_of_some _ e
  have hn1 : s₂.heap.get? s₂.heap.objs.size = none := Heap.get?_none_of_le (Nat.le_refl _)
  have st₃ : Step c fs μ₁ (updM μ₁ s₂.heap.objs.size (.list [])) s₂ { s₂ with heap := H2 } := Step.alloc (n := s₂.toks) stI.rel k2 hn1 (hH2 ▸ Heap.get?_push_size _ rfl) (.list .nil (Nat.zero_le _))
  have hn2 : H2.get? H2.objs.size = none := Heap.get?_none_of_le (Nat.le_refl _)
  have ltC : ∀ {b o}, H2.get? b = some o → b ≠ H2.objs.size := fun e => Nat.ne_of_lt (Heap.lt_size e)
  have k3 : ∀ b o, H2.get? b = some o → h₁.get? b = some o := fun b o e => hsb₁.extBut b o (ltC e) (Heap.get?_push_of_some _ e)
  have st₄ : Step c fs (updM μ₁ s₂.heap.objs.size (.list [])) (updM μ₁ s₂.heap.objs.size (.list [])) { s₂ with heap := H2 } { s₂ with heap := h₁, toks := s₂.toks + ([] : List (Str × Value)).length } := Step.grows st₃.rel k3
  have st₁₄ := stI.trans (st₃.trans st₄)
  have S₄ := (S.step st).step st₁₄
  have pC : updM μ₁ s₂.heap.objs.size (.list []) H2.objs.size = none := st₃.rel.free hn2
  have bC : c.base.get? H2.objs.size = none := by
    cases z : c.base.get? H2.objs.size with
    | none => rfl
    | some o => have := st₃.rel.base _ o z; rw [hn2] at this; cases this
  have kx : ∀ n, (compEnvC sc cl H2.objs.size env).kindOf n = (relN env.scope.names sc.names).lookup n := fun n => by
    show (relabel sc env).names.lookup n = _
    rw [hrel]
  obtain ⟨mE, hnsE, hmE⟩ := S₄.er.names
  have er : ER c (compEnvC sc cl H2.objs.size env) (capL cs ρ) (updM μ₁ s₂.heap.objs.size (.list [])) h₁ := by
    refine ⟨?_, S.er.glob, S.er.blt, pC, bC, fun y ca e => S₄.er.cells y ca (cl1 y ca e), fun y z ca e e' => S.er.inj y z ca (cl1 y ca e) (cl1 z ca e'), fun y hy => ?_, _, hns₁, fun y w e => ?_⟩
    · show (relabel sc env).kind = _
      exact ok5
    · rw [kx, lookup_relN] at hy
      obtain ⟨k, hk, hk'⟩ := Option.map_eq_some_iff.mp hy
      have hm := lookup_mem hk
      split at hk'
      · rename_i z
        rw [Bool.and_eq_true, beq_iff_eq, beq_iff_eq] at z
        rw [z.1] at hm
        exact cl2 _ hm
      · exact absurd hk' (ncell _ hm)
    · unfold capL at e
      split at e
      · rename_i hc
        have hy := ok8 y (List.contains_iff_mem.mp hc)
        have hm := lookup_mem hy
        have hcell : env.scope.names.lookup (Str.ofString y) = some .cell := by
          rcases ok6 _ hm with (⟨z, _⟩ | ⟨_, z⟩) | z
          · cases z
          · exact z
          · cases z
        rcases hmE y w e with ⟨z, _⟩ | ⟨_, ca, rw_, z1, z2, z3⟩
        · have : some NameKind.cell = some .local := hcell.symm.trans z
          cases this
        · obtain ⟨ca', hca'⟩ := Option.isSome_iff_exists.mp (cl2 _ hm)
          have : ca' = ca := Option.some.inj ((cl1 _ _ hca').symm.trans z1)
          subst this
          refine .inr ⟨.inl ?_, ca', rw_, hca', z2, z3⟩
          rw [kx, lookup_relN, hy]
          simp [hcell]
      · cases e
  have hit : It 0 h₁ := I.keep _ _ _ hit0 (by rw [k3 _ _ (k2 _ _ hoI), hoI])
  have fn : s₂.heap.get? s₂.heap.objs.size = none := hn1
  have sC : ∀ b o, s.heap.get? b = some o → μ b = none → b ≠ H2.objs.size := fun b o e hm z => by
    obtain ⟨_, sl, e', _⟩ := (st.trans (stI.trans st₃)).kept _ o e hm
    have e' : H2.get? b = _ := e'
    rw [z, hn2] at e'; cases e'
  have loop := comp_loop (tgt := tgt) (B := B) (p := p) (it := toE it) (sc := sc) (n := s₂.heap.objs.size) (Q := Q (.ref s₂.heap.objs.size)) (R := compPost (model c.prog c.w) A Ex use Q' (.ref s₂.heap.objs.size) H2.objs.size)
    he I (cenv := compEnvC sc cl H2.objs.size env) (asg _ kx) (by show okE sg (relabel sc env).names elt = true; rw [hrel]; exact ok2) (by show okEs sg (relabel sc env).names ifs = true; rw [hrel]; exact ok3) (List.all_eq_true.mpr ok4) ok4' hs bI hn st₁₄.toS ⟨S₄.rel, er, S₄.aok, S₄.room, S₄.units⟩ (hv.step st.rel st₁₄) hit (q _ (stI.rel.free fn)) fun μ' s' stS S' hq => ?_
  · exact codeAny_compStart_list loop (I.self 0 _ _ _ hit loop)
  · obtain ⟨m', hns', _⟩ := S'.er.names
    refine fin H2.objs.size _ μ' s' m' sC bC S'.er.priv (st.trans ⟨stS.gens, stS.drawn, stS.os, S'.rel, fun b o e hm => ?_⟩) hns' hq
    have hb : b ≠ H2.objs.size := ltC (k2 _ _ ((stI.kept b o e hm).2.choose_spec.1))
    exact stS.kept b o e hm (by rintro (z | ⟨y, z⟩); exact hb z; cases z)

theorem asg_name {x : String} {px : Pos} {hd : Bool} {A : Around} {fs : List Env} {cenv : Env} {ρ : Loc} (okx : cenv.kindOf (Str.ofString x) = some .local) (hx : ∀ y w, ρ y = some w → y ≠ x) : Asg c d hd A fs cenv ρ (.Name (Str.ofString x) px) (fun w k => k (updL ρ x w)) :=
  fun S hv hK _ fin => wpAny_pure (wpAny_assign_Name (store_local S okx hv fun s' st S' => fin _ s' st S' hK fun e => e.sub fun y u hy => by unfold updL; rw [if_neg (hx y u hy)]; exact hy))
theorem asg_pair {x y : String} {k : Nat} {px py pt : Pos} {hd : Bool} {A : Around} {fs : List Env} {cenv : Env} {ρ : Loc} (hh : A.handled = none) (okx : cenv.kindOf (Str.ofString x) = some .local) (oky : cenv.kindOf (Str.ofString y) = some .local) (hx : ∀ z w, ρ z = some w → z ≠ x ∧ z ≠ y) :
    Asg c d hd A fs cenv ρ (.Tuple [.Name (Str.ofString x) px, .Name (Str.ofString y) py] k pt) (fun w k => pairW w fun a b => k (updL (updL ρ x a) y b)) := by
  intro w rw_ s μ K P Ex it S hv hK go fin
  unfold pairW at hK
  split at hK
  · rename_i a b
    cases hv with
    | @tup t o us n _ ho hc hdd hl hz =>
    refine go _ _ _ ?_
    obtain ⟨ua, ub, hu, ha, hb⟩ : ∃ ua ub, us.toList = [ua, ub] ∧ RV c s.heap ua a ∧ RV c s.heap ub b := by
      generalize us.toList = L at hl
      cases hl with
      | cons h1 h2 => cases h2 with
        | cons h2 h3 => cases h3; exact ⟨_, _, rfl, h1, h2⟩
    have hsz : us.size = 2 := by rw [← Array.length_toList, hu]; rfl
    refine assign_Tuple_tuple hh ⟨_, ho, hc, n, hdd⟩ hsz.symm rfl fun h' he => ?_
    have st₂ : Step c fs μ μ s { s with heap := h' } := Step.grows (n := s.toks) S.rel fun b o e => he b o (Nat.ne_of_lt (Heap.lt_size e)) e
    have S₂ := S.step st₂
    rw [hu]
    refine wpAny_bind (wpAny_holding (wpAny_assign_Name (store_local S₂ okx (ha.step S.rel st₂) fun s₃ st₃ S₃ => ?_)))
    refine wpAny_bind (wpAny_holding (wpAny_assign_Name (store_local S₃ oky (st₃.wide.rv S₂ (hb.step S.rel st₂)) fun s₄ st₄ S₄ => ?_)))
    refine wpAny_pure (fin _ s₄ (st₂.toS.trans (st₃.trans st₄)) S₄ hK fun e => e.sub fun z u hz => ?_)
    obtain ⟨q1, q2⟩ := hx z u hz
    unfold updL
    rw [if_neg q2, if_neg q1]
    exact hz
  · exact hK.elim
theorem comp_core {elt it : E} {x : String} {cs : List String} {sc : Scope} {ifs : List E} {px p pos : Pos} (hi : SE c sg d it) (he : SE c sg d elt) (hs : ∀ op l r p, E.cmp op l r p ∈ ifs → SE c sg d l ∧ SE c sg d r)
    {hd : Bool} {A : Around} {fs : List Env} {env : Env} {ρ : Loc} {μ : Mem} {s : Shared} {Q : V → Mem → Prop} {X : String → Mem → Prop} {use : Option (Value → Sem Unit)} {Q' : Value → Shared → Prop} {Ex : Value → Shared → Prop}
    (ok : okC sg env.scope.names elt x cs it ifs sc px p) (h : wpE sg (SC c d) hd (.comp elt x cs it ifs sc px p) ρ μ Q X) (S : St c d hd A fs env ρ μ s) (hE : ∀ e s', XPost c fs μ s X e s' → Ex e s')
    (fin : ∀ C n μ' s' m, (∀ b o, s.heap.get? b = some o → μ b = none → b ≠ C) → c.base.get? C = none → μ' C = none → Step c fs μ μ' s s' → s'.heap.Ns C m → Q (.ref n) μ' → compPost (model c.prog c.w) A Ex use Q' (.ref n) C (.ok .next) s') :
    wpAny (model c.prog c.w) A (comprehension (.ListComp (toE elt) [⟨.Name (Str.ofString x) px, toE it, toEs ifs, 0⟩] sc p) sc env pos (newList []) false (eval (toE it) env) use) Q' Ex s := by
  unfold okC at ok
  simp only [okE_comp, Bool.and_eq_true, beq_iff_eq, List.all_eq_true, decide_eq_true_eq, Bool.or_eq_true] at ok
  obtain ⟨⟨⟨⟨⟨⟨⟨ok1, ok2⟩, ok3⟩, ⟨ok4, ok4'⟩⟩, ok5⟩, ok6⟩, ok7⟩, ok8⟩ := ok
  refine comp_gcore hi he hs ok1 ok2 ok3 ok4 ok4' ok5 ok6 ok8 (fun cenv kx => asg_name (by rw [kx, lookup_relN, ok7]; rfl) fun y w e z => ?_) h S hE fin
  unfold capL at e
  split at e
  · rename_i hc
    have hy := ok8 y (List.contains_iff_mem.mp hc)
    rw [z, ok7] at hy; cases hy
  · cases e

theorem St.but {C : Addr} {h' : Heap} {hd : Bool} {A : Around} {fs : List Env} {env : Env} {ρ : Loc} {μ : Mem} {s : Shared} (S : St c d hd A fs env ρ μ s) (hm : μ C = none) (hb : c.base.get? C = none) (nk : ∀ o, s.heap.get? C = some o → ¬ RK o) (nl : env.locals ≠ C) (nc : ∀ x, env.cells.lookup x ≠ some C) (nf : C ∉ frs fs) (sb : Heap.SameBut C s.heap h') :
    St c d hd A fs env ρ μ { s with heap := h' } := by
  obtain ⟨r', mono⟩ := Rel.private S.rel hm hb nk sb
  obtain ⟨m, hns, hmm⟩ := S.er.names
  have fr : ∀ l : List Env, (∀ L ∈ frs l, L ∈ frs fs) → s.heap.FunFrames c.base l → h'.FunFrames c.base l := by
    intro l
    induction l with
    | nil => intro _ _; trivial
    | cons e l ih =>
      rintro hin ⟨hk, ⟨L, o, hf, hn, ho, hd⟩, hr⟩
      refine ⟨hk, ⟨L, o, hf, hn, (sb.2 L fun q => nf ?_).trans ho, hd⟩, ih (fun L hL => hin L ?_) hr⟩
      · rw [← q]; exact hin L (by simp [frs, hf])
      · unfold frs at hL ⊢
        rw [List.filterMap_cons]
        split
        · exact hL
        · exact .tail _ hL
  refine ⟨r', ⟨S.er.kind, S.er.glob, S.er.blt, S.er.priv, S.er.new, fun y ca e => ?_, S.er.inj, S.er.has, m, hns.sameBut sb nl, fun y w e => ?_⟩, ⟨S.aok.frames, S.aok.room, S.aok.units, S.aok.handled, fr fs (fun _ h => h) S.aok.fun_, S.aok.priv, fun L hL => ?_⟩, S.room, S.units⟩
  · obtain ⟨⟨w, o, ho, hd⟩, h1, h2⟩ := S.er.cells y ca e
    exact ⟨⟨w, o, (sb.2 ca fun q => nc y (q ▸ e)).trans ho, hd⟩, h1, h2⟩
  · rcases hmm y w e with ⟨h1, rw_, h2, h3⟩ | ⟨h1, ca, rw_, h2, ⟨o, ho, hd⟩, h4⟩
    · exact .inl ⟨h1, rw_, h2, mono h3⟩
    · exact .inr ⟨h1, ca, rw_, h2, ⟨o, (sb.2 ca fun q => nc y (q ▸ h2)).trans ho, hd⟩, mono h4⟩
  · obtain ⟨o, es, n, ho, hd⟩ := S.aok.dicts L hL
    exact ⟨o, es, n, (sb.2 L fun q => nf (q ▸ hL)).trans ho, hd⟩

theorem se_comp {elt it : E} {x : String} {cs : List String} {sc : Scope} {ifs : List E} {px p : Pos} (hi : SE c sg d it) (he : SE c sg d elt) (hs : ∀ op l r p, E.cmp op l r p ∈ ifs → SE c sg d l ∧ SE c sg d r) : SE c sg d (.comp elt x cs it ifs sc px p) := by
  intro hd A fs env ρ μ s Q X ok h S
  show wpAny _ A (eval (.ListComp (toE elt) [⟨.Name (Str.ofString x) px, toE it, toEs ifs, 0⟩] sc p) env) _ _ s
  rw [eval_ListComp]
  refine comp_core (use := none) hi he hs ok h S (fun _ _ y => y) fun C n μ' s' m sC bC pC st hns q => ?_
  refine ⟨m, hns, fun h' sb => ⟨.ref _, μ', ⟨st.gens, st.drawn, st.os, (Rel.private st.rel pC bC (fun o e => ?_) sb).1, fun b o e hm => ?_⟩, .ref _, q⟩⟩
  · obtain ⟨oL, esL, nL, hoL, hdL⟩ := Ns.dict hns
    rw [hoL] at e; cases e
    rintro (⟨_, vs, n, q⟩ | ⟨_, vs, q⟩) <;> (rw [hdL] at q; cases q)
  · obtain ⟨m₂, sl, e', q'⟩ := st.kept b o e hm
    exact ⟨m₂, sl, (sb.2 b (sC b o e hm)).trans e', q'⟩
theorem se_compP {elt it : E} {x y : String} {k : Nat} {cs : List String} {sc : Scope} {ifs : List E} {px py pt p : Pos} (hi : SE c sg d it) (he : SE c sg d elt) (hs : ∀ op l r p, E.cmp op l r p ∈ ifs → SE c sg d l ∧ SE c sg d r) : SE c sg d (.compP elt x y cs it ifs sc k px py pt p) := by
  intro hd A fs env ρ μ s Q X ok h S
  show wpAny _ A (eval (.ListComp (toE elt) [⟨.Tuple [.Name (Str.ofString x) px, .Name (Str.ofString y) py] k pt, toE it, toEs ifs, 0⟩] sc p) env) _ _ s
  rw [eval_ListComp]
  simp only [okE_compP, Bool.and_eq_true, beq_iff_eq, List.all_eq_true, decide_eq_true_eq, Bool.or_eq_true] at ok
  obtain ⟨⟨⟨⟨⟨⟨⟨ok1, ok2⟩, ok3⟩, ⟨ok4, ok4'⟩⟩, ok5⟩, ok6⟩, ⟨ok7, ok7'⟩⟩, ok8⟩ := ok
  refine comp_gcore (use := none) hi he hs ok1 ok2 ok3 ok4 ok4' ok5 ok6 ok8 (fun cenv kx => asg_pair (S.aok.handled h.1) (by rw [kx, lookup_relN, ok7]; rfl) (by rw [kx, lookup_relN, ok7']; rfl) fun z w e => by
    unfold capL at e
    split at e
    · rename_i hc
      have hy := ok8 z (List.contains_iff_mem.mp hc)
      exact ⟨fun q => (by rw [q, ok7] at hy; cases hy), fun q => (by rw [q, ok7'] at hy; cases hy)⟩
    · cases e) h S (fun _ _ y => y) fun C n μ' s' m sC bC pC st hns q => ?_
  refine ⟨m, hns, fun h' sb => ⟨.ref _, μ', ⟨st.gens, st.drawn, st.os, (Rel.private st.rel pC bC (fun o e => ?_) sb).1, fun b o e hm => ?_⟩, .ref _, q⟩⟩
  · obtain ⟨oL, esL, nL, hoL, hdL⟩ := Ns.dict hns
    rw [hoL] at e; cases e
    rintro (⟨_, vs, n, q⟩ | ⟨_, vs, q⟩) <;> (rw [hdL] at q; cases q)
  · obtain ⟨m₂, sl, e', q'⟩ := st.kept b o e hm
    exact ⟨m₂, sl, (sb.2 b (sC b o e hm)).trans e', q'⟩
end
end Mine

set_option autoImplicit false
namespace Mine
set_option linter.unusedVariables false
set_option linter.unusedSimpArgs false
open PySem PySem.W PySem.Calls PyProof.Rows

theorem asD_of {μ : Mem} {v : V} {k : Addr → Nat → List (Int × V) → Prop} (h : asD μ v k) : ∃ x ep l, v = .ref x ∧ μ x = some (.dict ep l) ∧ k x ep l := by
  unfold asD at h
  split at h
  · rename_i x
    split at h
    · rename_i ep l hl; exact ⟨x, ep, l, rfl, hl, h⟩
    · exact h.elim
  · exact h.elim
theorem value_at {rs : List (Int × Value)} {l : List (Int × V)} {c : Ctx} {h : Heap} (e : rs.map (·.1) = l.map (·.1)) (r : RVs c h (rs.map (·.2)) (l.map (·.2))) {k : Int} {v : V} (hv : l.lookup k = some v) : ∃ rv, valueAt rs k = some rv ∧ RV c h rv v := by
  induction l generalizing rs with
  | nil => cases hv
  | cons q l ih =>
    obtain ⟨a, b⟩ := q
    cases rs with
    | nil => cases e
    | cons p rs =>
      obtain ⟨a', b'⟩ := p
      simp only [List.map_cons, List.cons.injEq] at e r
      obtain ⟨rfl, e⟩ := e
      cases r with
      | cons r1 r2 =>
      rw [List.lookup_cons] at hv
      unfold valueAt
      rw [List.find?_cons]
      by_cases q : k = a'
      · subst q
        simp only [beq_self_eq_true] at hv
        cases hv
        exact ⟨b', by simp, r1⟩
      · rw [show (k == a') = false from beq_false_of_ne q] at hv
        simp only [decide_eq_false (show ¬ a' = k from fun z => q z.symm)]
        exact ih e r2 hv
theorem big_of {c : Ctx} {sg : Sig} (G : Good c sg) {μ : Mem} {h : Heap} (r : Rel c μ h) : 1 < h.objs.size := by
  have e := G.blt "isinstance" (.head _)
  unfold nsIn at e
  cases q : c.K.lookup mainGlobals with
  | none => rw [q] at e; cases e
  | some o => exact Nat.lt_trans (by decide) (Heap.lt_size (r.base _ _ (G.X _ _ q)))
theorem pairs_rvs {c : Ctx} {h : Heap} {rs : List (Int × Value)} {l : List (Int × V)} (e : rs.map (·.1) = l.map (·.1)) (r : RVs c h (rs.map (·.2)) (l.map (·.2))) :
    ∀ {as : List Addr}, as.length = rs.length → (∀ (j : Nat) (a : Addr), as[j]? = some a → ∃ key k x, rs[j]? = some (k, x) ∧ (intKind c.prog c.w).is k key = true ∧ h.get? a = some { cls := .type "tuple", data := .seq #[key, x] }) → RVs c h (as.map Value.ref) (pairs l) := by
  induction l generalizing rs with
  | nil =>
    intro as hl _
    cases rs with
    | cons _ _ => cases e
    | nil => cases as with
      | nil => exact .nil
      | cons _ _ => cases hl
  | cons q l ih =>
    intro as hl ha
    obtain ⟨a, b⟩ := q
    cases rs with
    | nil => cases e
    | cons p rs =>
      obtain ⟨a', b'⟩ := p
      simp only [List.map_cons, List.cons.injEq] at e r
      obtain ⟨rfl, e⟩ := e
      cases r with
      | cons r1 r2 =>
      cases as with
      | nil => cases hl
      | cons x as =>
        obtain ⟨key, k, y, e1, e2, e3⟩ := ha 0 x rfl
        cases e1
        obtain ⟨t, rfl⟩ := Value.isInt_shape e2
        refine .cons (.tup e3 rfl rfl (.cons (.int _ _) (.cons r1 .nil)) (show 2 ≤ 1048576 by decide)) (ih e r2 (by simpa using hl) fun j a hj => ?_)
        exact ha (j + 1) a (by simpa using hj)
theorem met_all {ns : List Int} (hn : ns.Nodup) : ∀ i, i ≤ ns.length → (firstMet (fun i => ns.getD i 0) i).length = i
  | 0, _ => by rw [firstMet_zero]; rfl
  | i + 1, hi => by
    have ih := met_all hn i (by omega)
    rw [firstMet_succ]
    have hany : (firstMet (fun i => ns.getD i 0) i).any (· == ns.getD i 0) = false := by
      rw [firstMet_any]
      rw [List.any_eq_false]
      intro x hx
      obtain ⟨j, hj, rfl⟩ := List.mem_map.mp hx
      have hj := List.mem_range.mp hj
      rw [beq_iff_eq]
      intro q
      have h1 : ns.getD j 0 = ns[j] := by rw [List.getD_eq_getElem?_getD, List.getElem?_eq_getElem (by omega)]; rfl
      have h2 : ns.getD i 0 = ns[i] := by rw [List.getD_eq_getElem?_getD, List.getElem?_eq_getElem (by omega)]; rfl
      rw [h1, h2] at q
      exact absurd ((List.getElem_inj hn).mp q) (by omega)
    unfold step_dedup
    simp only [hany, Bool.false_eq_true, if_false, List.length_append, List.length_cons, List.length_nil, ih]

section
variable {c : Ctx} {sg : Sig} {d : Nat}
theorem se_dnew {p : Pos} (G : Good c sg) : SE c sg d (.dnew p) := by
  intro hd A fs env ρ μ s Q X ok h S
  have n0 : s.heap.get? s.heap.objs.size = none := Heap.get?_none_of_le (Nat.le_refl _)
  have k : ∀ b o, s.heap.get? b = some o → (s.heap.push { cls := .type "dict", data := .dict #[] }).get? b = some o := fun b o e => Heap.get?_push_of_some _ e
  refine wpAny_Dict_empty ⟨.ref _, _, Step.alloc (n := s.toks) S.rel k n0 (Heap.get?_push_size _ rfl) (.dict (rs := []) (l := []) ⟨rfl, rfl, rfl⟩ rfl (fun e he => by simp at he) .nil List.nodup_nil rfl .nil (Nat.zero_le _)), .ref _, ?_⟩
  exact h _ _ (S.rel.free n0) (Nat.ne_of_gt (big_of G S.rel))
theorem se_dkeys {x : String} {p : Pos} : SE c sg d (.dkeys x p) := by
  intro hd A fs env ρ μ s Q X ok h S
  simp only [okE_dkeys, Bool.and_eq_true, bne_iff_ne, ne_eq] at ok
  replace h : optW (ρ x) μ fun v μ₁ => asD μ₁ v fun a ep l => Q (.dk a ep (l.map (·.1))) μ₁ := h
  unfold optW at h
  split at h
  · rename_i v hv
    refine wpAny_mono (loc_sound (Q := fun v μ₁ => asD μ₁ v fun a ep l => Q (.dk a ep (l.map (·.1))) μ₁) S hv ok.1.2 ok.2 h) (fun rv s' ⟨v', μ', st, hr, q⟩ => ?_) fun _ _ y => y
    obtain ⟨y, ep, l, rfl, hl, q⟩ := asD_of q
    cases hr
    exact ⟨_, μ', st, .dk _ _ _, q⟩
  · exact h.elim
theorem se_dsub {o i : E} {p : Pos} (ho : SE c sg d o) (hi : SE c sg d i) : SE c sg d (.dsub o i p) := by
  intro hd A fs env ρ μ s Q X ok h S
  simp only [okE_dsub, Bool.and_eq_true] at ok
  refine Subscript_ (wp_next (Step.refl S.rel) (ho hd A fs env ρ μ s _ X ok.1 h S) fun ra a μ₁ s₁ st _ ha q => ?_)
  refine wp_next st (hi hd A fs env ρ μ₁ s₁ _ X ok.2 q (S.step st)) fun rb b μ₂ s₂ st₂ st' hb q₂ => ?_
  obtain ⟨x, ep, l, rfl, hl, q₂⟩ := asD_of q₂
  unfold asInt at q₂
  split at q₂
  · rename_i k
    cases ha; cases hb
    unfold optW at q₂
    split at q₂
    · rename_i w hw
      obtain ⟨rs, h1, h2, h3, h4⟩ := st₂.rel.dct hl
      obtain ⟨rv, e1, e2⟩ := value_at h2 h3 hw
      refine wp_last (Q := Q) st' ?_
      refine tail_any h1.dictOf.typeIs slot_dict_getitem.lookup ?_ (subscripted_toE i _ _)
      exact wpAny_getItem_of (Q := Post c fs μ₂ s₂ Q) (intKind_is _ _ _ _) h1.dictOf.mapOf e1 ⟨w, μ₂, Step.toks st₂.rel, e2, q₂⟩
    · exact q₂.elim
  · exact q₂.elim

theorem plain_base {e : E} {m : Str} {env : Env} {w : Sem Value} (h : plainU e = true) : attributeBase (toE e) m env w = w := by
  cases e <;> first | rfl | cases h
/-- list(d.items()) -/
theorem un_items (G : Good c sg) {e : E} {p1 p2 p3 p : Pos} (he : SE c sg d e) : SE c sg d (.un .items e p1 p2 p3 p) := by
  intro hd A fs env ρ μ s Q X ok h S
  simp only [okE_un, okU, Bool.and_eq_true, beq_iff_eq] at ok
  obtain ⟨⟨ok1, ok2⟩, ok3, ok4⟩ := ok
  refine wpAny_Call_NameR (name_blt G S.er S.rel ok2 (by decide) (by decide) (G.blt "list" (by decide)) boot_list ?_)
  have e1 : backTo p (starEach [Expr.Call (.Attribute (toE e) (Str.ofString "items") p2) [] [] p3] env) = [(false, eval (.Call (.Attribute (toE e) (Str.ofString "items") p2) [] [] p3) env)] := rfl
  show wpAny _ A (callWith p (.type "list") [] (backTo p (starEach [Expr.Call (.Attribute (toE e) (Str.ofString "items") p2) [] [] p3] env)) []) _ _ s
  rw [e1]
  refine PySem.callWith_type rfl (evalArgs_plain (spliced_cons ?_))
  refine meth_eval (es := []) (plain_base ok4) (by simpa using ok3) (by decide) (wp_next (Step.refl S.rel) (he hd A fs env ρ μ s _ X ok1 h S) fun ra v μ₁ s₁ st _ ha q => ?_)
  obtain ⟨h0, q⟩ := q
  obtain ⟨x, ep, l, rfl, hl, hx, q⟩ := asD_of q
  cases ha
  obtain ⟨rs, h1, h2, h3, h4⟩ := st.rel.dct hl
  obtain ⟨od, es', hod, hex, _⟩ := id h1
  refine getMethod_builtin (T := "dict") (id := "dict.items") h1.dictOf.typeIs PySem.F.plainAttrs_dict PySem.F.slot_dict_items PySem.F.type_dict_items (fun b hb => by cases hb; exact ⟨od, hod, hex.2.1⟩) ?_
  refine PySem.Calls.callWith_builtin (args := []) rfl (PyProof.Rows.evalArgs_nil3 ?_)
  refine call_meetsIn PySem.F.slot_dict_items h1.dictOf.typeIs PySem.F.entry_dict_items (PySem.F.args_dict_items_1 _) (meets_dict_items (intKind c.prog c.w) x (beq_false_of_ne hx)) ⟨⟨rs, h1.dictOf⟩, ?_⟩
  refine spliced_nil ?_
  have k : ∀ b o, s₁.heap.get? b = some o → (s₁.heap.push { cls := .type "dict_items", data := .fields #[.ref x] }).get? b = some o := fun b o e => Heap.get?_push_of_some _ e
  have st₂ : Step c fs μ₁ μ₁ s₁ { s₁ with heap := s₁.heap.push { cls := .type "dict_items", data := .fields #[.ref x] } } := Step.grows (n := s₁.toks) st.rel k
  have hlen : rs.length = l.length := by have := congrArg List.length h2; simpa using this
  refine kdx_call (knd := intKind c.prog c.w) ((S.step st).aok.handled h0) ⟨_, Heap.get?_push_size _ rfl, rfl, rfl⟩ (h1.push _) (by rw [sizeLine_eq]; omega) fun h' tk acc c' as hk hD hal hG hacc => ?_
  have n1 : (s₁.heap.push { cls := .type "dict_items", data := .fields #[.ref x] }).get? (s₁.heap.push { cls := .type "dict_items", data := .fields #[.ref x] }).objs.size = none := Heap.get?_none_of_le (Nat.le_refl _)
  have rv : RVs c h' acc.toList (pairs l) := by
    rw [hacc]
    exact pairs_rvs h2 ((h3.step st.rel st₂).mono st₂.rel (.of_keeps fun b o e _ => hk b o e)) hal hG.pairs
  have st₃ := Step.alloc (fs := fs) (n := tk) st₂.rel hk n1 hD (.list rv q.1)
  exact ⟨.ref _, _, st.trans (st₂.trans st₃), .ref _, q.2 _ (st₂.rel.free n1)⟩

theorem ints_are {h : Heap} : ∀ {ns : List Int} {us : List Value}, RVs c h us (ns.map V.int) → IntsAre us ns
  | [], _, .nil => .nil
  | n :: ns, _, .cons hv hr => by
    cases hv with
    | int i t => exact .cons n t (ints_are hr)
theorem one_arg (e : E) (env : Env) (p : Pos) : backTo p (starEach [toE e] env) = [(false, eval (toE e) env)] := by
  cases e <;> first | rfl | (rename Un => kk; cases kk <;> rfl)
/-- len(set(l)), l of numbers that differ -/
theorem un_lenset (G : Good c sg) {e : E} {p1 p2 p3 p : Pos} (he : SE c sg d e) : SE c sg d (.un .lenset e p1 p2 p3 p) := by
  intro hd A fs env ρ μ s Q X ok h S
  simp only [okE_un, okU, Bool.and_eq_true, beq_iff_eq] at ok
  obtain ⟨⟨ok1, ok2, ok3⟩, _⟩ := ok
  refine wpAny_Call_NameR (name_blt G S.er S.rel ok2 (by decide) (by decide) (G.blt "len" (by decide)) boot_len ?_)
  have e1 : backTo p (starEach [Expr.Call (.Name (Str.ofString "set") p2) [toE e] [] p3] env) = [(false, eval (.Call (.Name (Str.ofString "set") p2) [toE e] [] p3) env)] := rfl
  show wpAny _ A (callWith p (.builtin "len") [] (backTo p (starEach [Expr.Call (.Name (Str.ofString "set") p2) [toE e] [] p3] env)) []) _ _ s
  rw [e1]
  refine PySem.Calls.callWith_builtin rfl (evalArgs_plain (spliced_cons ?_))
  refine wpAny_Call_NameR (name_blt G S.er S.rel ok3 (by decide) (by decide) (G.blt "set" (by decide)) (show bootBuiltins (Str.ofString "set") = some (.type "set") by decide +kernel) ?_)
  rw [one_arg]
  refine PySem.callWith_type rfl (evalArgs_plain (spliced_cons (wp_next (Step.refl S.rel) (he hd A fs env ρ μ s _ X ok1 h S) fun ra v μ₁ s₁ st _ ha q => spliced_nil ?_)))
  obtain ⟨h0, q⟩ := q
  unfold asL at q
  split at q
  · rename_i x
    split at q
    · rename_i l hl
      obtain ⟨ns, rfl, hn, hz, q⟩ := q
      cases ha
      obtain ⟨vs, n, g1, g2, g3⟩ := st.rel.lst hl
      have hi := ints_are g2
      have hs : vs.size = ns.length := by rw [← Array.length_toList, g2.length, List.length_map]
      refine PySem.call_set_list ((S.step st).aok.handled h0) ⟨_, g1, rfl, n, rfl⟩ hi (by rw [hs]; unfold scanBound; omega) fun h' tk hS hk => ?_
      rw [hs, met_all hn _ (Nat.le_refl _)] at hS
      obtain ⟨o, es, ep, t, k1, k2, k3, k4, k5, k6, k7, k8⟩ := hS
      have st₂ : Step c fs μ₁ μ₁ s₁ { s₁ with heap := h', toks := tk } := Step.grows st.rel fun b o e => hk b o (Heap.lt_size e) e
      refine spliced_nil (call_len_set k1 k2 k3 k7 (by omega) ?_)
      rw [k8]
      exact ⟨.int ns.length, μ₁, st.trans (st₂.trans (Step.toks st₂.rel)), .int _ _, q⟩
    · exact q.elim
  · exact q.elim
theorem un_isd (G : Good c sg) {e : E} {p1 p2 p3 p : Pos} (he : SE c sg d e) : SE c sg d (.un .isd e p1 p2 p3 p) := by
  intro hd A fs env ρ μ s Q X ok h S
  simp only [okE_un, okU, Bool.and_eq_true, beq_iff_eq] at ok
  obtain ⟨⟨ok1, ok2, ok3⟩, _⟩ := ok
  refine wpAny_Call_NameR (name_blt G S.er S.rel ok2 (by decide) (by decide) (G.blt _ (.head _)) boot_isi ?_)
  have e1 : backTo p (starEach [toE e, Expr.Name (Str.ofString "dict") p2] env) = [(false, eval (toE e) env), (false, eval (.Name (Str.ofString "dict") p2) env)] := by cases e <;> first | rfl | (rename Un => kk; cases kk <;> rfl)
  show wpAny _ A (callWith p (.builtin "isinstance") [] (backTo p (starEach [toE e, Expr.Name (Str.ofString "dict") p2] env)) []) _ _ s
  rw [e1]
  refine PySem.Calls.callWith_builtin rfl (evalArgs_plain (spliced_cons (wp_next (Step.refl S.rel) (he hd A fs env ρ μ s _ X ok1 h S) fun ra v μ₁ s₁ st _ ha q => ?_)))
  have S₁ := S.step st
  refine spliced_cons (name_blt G S₁.er S₁.rel ok3 (by decide) (by decide) (G.blt "dict" (by decide)) (show bootBuiltins (Str.ofString "dict") = some (.type "dict") by decide +kernel) (spliced_nil ?_))
  obtain ⟨x, ep, l, rfl, hl, q⟩ := asD_of q
  cases ha
  obtain ⟨rs, h1, _⟩ := st.rel.dct hl
  obtain ⟨od, es', hod, hex, _⟩ := id h1
  exact IsiPair.dict_dict hod hex.1 ⟨.bool true, μ₁, st, .bool _, q⟩
theorem se_un (G : Good c sg) {k : Un} {e : E} {p1 p2 p3 p : Pos} (he : SE c sg d e) : SE c sg d (.un k e p1 p2 p3 p) := by
  cases k
  · exact un_items G he
  · exact un_lenset G he
  · exact un_isd G he
end
end Mine

set_option autoImplicit false
namespace Mine
set_option linter.unusedVariables false
set_option linter.unusedSimpArgs false
open PySem PySem.W PySem.Calls PyProof.Rows

section
variable {c : Ctx} {sg : Sig} {d : Nat}

theorem soundE_lt (G : Good c sg) : ∀ (n : Nat) (e : E), sizeOf e < n → SE c sg d e := by
  intro n
  induction n with
  | zero => intro e h; exact absurd h (Nat.not_lt_zero _)
  | succ n ih =>
    intro e h
    have sub : ∀ es : List E, sizeOf es < n → ∀ e ∈ es, SE c sg d e := fun es hl e he => ih e (Nat.lt_trans (List.sizeOf_lt_of_mem he) hl)
    cases e with
    | none p => intro hd A fs env ρ μ s Q X ok h S; exact wpAny_Constant_none ⟨_, μ, Step.refl S.rel, .none, h⟩
    | bool b p => intro hd A fs env ρ μ s Q X ok h S; exact wpAny_Constant_bool ⟨_, μ, Step.refl S.rel, .bool b, h⟩
    | int i p => intro hd A fs env ρ μ s Q X ok h S; exact fun _ _ _ => ⟨_, μ, Step.toks S.rel, .int i _, h⟩
    | str x p => intro hd A fs env ρ μ s Q X ok h S; exact wpAny_Constant_str ⟨_, μ, Step.toks S.rel, .str _ _, h⟩
    | loc x p => exact se_loc
    | glob x p => exact se_glob G
    | bin op l r p => simp only [E.bin.sizeOf_spec] at h; exact se_bin (ih l (by omega)) (ih r (by omega))
    | neg e p => simp only [E.neg.sizeOf_spec] at h; exact se_neg (ih e (by omega))
    | not e p => simp only [E.not.sizeOf_spec] at h; exact se_not (ih e (by omega))
    | and es p => simp only [E.and.sizeOf_spec] at h; exact se_and (sub es (by omega))
    | or es p => simp only [E.or.sizeOf_spec] at h; exact se_or (sub es (by omega))
    | cmp op l r p => simp only [E.cmp.sizeOf_spec] at h; exact se_cmp (ih l (by omega)) (ih r (by omega))
    | cmp2 o1 o2 a b e p => simp only [E.cmp2.sizeOf_spec] at h; exact se_cmp2 (ih a (by omega)) (ih b (by omega)) (ih e (by omega))
    | attr o a p => simp only [E.attr.sizeOf_spec] at h; exact se_attr G (ih o (by omega))
    | sub o i p => simp only [E.sub.sizeOf_spec] at h; exact se_sub (ih o (by omega)) (ih i (by omega))
    | sliceL o l ps p => simp only [E.sliceL.sizeOf_spec] at h; exact se_sliceL (ih o (by omega)) (ih l (by omega))
    | sliceU o l ps p => simp only [E.sliceU.sizeOf_spec] at h; exact se_sliceU (ih o (by omega)) (ih l (by omega))
    | sliceLU o l u ps p => simp only [E.sliceLU.sizeOf_spec] at h; exact se_sliceLU (ih o (by omega)) (ih l (by omega)) (ih u (by omega))
    | tup es k p => simp only [E.tup.sizeOf_spec] at h; exact se_tup (sub es (by omega))
    | list es p => simp only [E.list.sizeOf_spec] at h; exact se_list (sub es (by omega))
    | call f es pf p => simp only [E.call.sizeOf_spec] at h; exact se_call G (sub es (by omega))
    | new f es pf p => simp only [E.new.sizeOf_spec] at h; exact se_new G (sub es (by omega))
    | bltn f es pf p => simp only [E.bltn.sizeOf_spec] at h; exact se_bltn G (sub es (by omega))
    | isi e cl pf pc p => simp only [E.isi.sizeOf_spec] at h; exact se_isi G (ih e (by omega))
    | meth o m es pa p => simp only [E.meth.sizeOf_spec] at h; exact se_meth G (ih o (by omega)) (sub es (by omega))
    | dnew p => exact se_dnew G
    | dkeys x p => exact se_dkeys
    | dsub o i p => simp only [E.dsub.sizeOf_spec] at h; exact se_dsub (ih o (by omega)) (ih i (by omega))
    | un k e p1 p2 p3 p => simp only [E.un.sizeOf_spec] at h; exact se_un G (ih e (by omega))
    | compP elt x y cs it ifs sc k px py pt p =>
      simp only [E.compP.sizeOf_spec] at h
      refine se_compP (ih it (by omega)) (ih elt (by omega)) fun op l r p hm => ?_
      have := List.sizeOf_lt_of_mem hm
      simp only [E.cmp.sizeOf_spec] at this
      exact ⟨ih l (by omega), ih r (by omega)⟩
    | comp elt x cs it ifs sc px p =>
      simp only [E.comp.sizeOf_spec] at h
      refine se_comp (ih it (by omega)) (ih elt (by omega)) fun op l r p hm => ?_
      have := List.sizeOf_lt_of_mem hm
      simp only [E.cmp.sizeOf_spec] at this
      exact ⟨ih l (by omega), ih r (by omega)⟩
theorem soundE (G : Good c sg) (e : E) : SE c sg d e := soundE_lt G (sizeOf e + 1) e (Nat.lt_succ_self _)

theorem tr_of {b : Bool} {k : Bool → Prop} (h : tr (.bool b) k) : k b := h

theorem stands {hd : Bool} {A : Around} {fs : List Env} {env : Env} {ρ : Loc} {X : String → Mem → Prop} {Q₀ : V → Mem → Prop} {Q : Bool → Mem → Prop} (hq : ∀ v μ₁, Q₀ v μ₁ → tr v fun b => Q b μ₁) : ∀ {es : List E} {μ : Mem} {s : Shared}, (∀ e ∈ es, ST c sg d e) → okEs sg env.scope.names es = true → wpAnd sg (SC c d) hd es ρ μ Q₀ X → St c d hd A fs env ρ μ s →
    wpAny (model c.prog c.w) A (allTrue .And (toEs es) env) (PostB c fs μ s Q) (XPost c fs μ s X) s
  | [], _, _, _, _, h, _ => h.elim
  | [e], μ, s, hs, ok, h, S => by
    simp only [okEs, Bool.and_eq_true] at ok
    refine wpAny_allTrue_And_cons (wp_nextB (Step.refl S.rel) (hs e (.head _) hd A fs env ρ μ s Q₀ Q X hq ok.1 h S) fun b μ₁ s₁ st _ q => ?_)
    cases b with
    | true => exact wpAny_allTrue_And_nil ⟨μ₁, st, q⟩
    | false => exact ⟨μ₁, st, q⟩
  | e :: e' :: es, μ, s, hs, ok, h, S => by
    rw [okEs, Bool.and_eq_true] at ok
    refine wpAny_allTrue_And_cons (wp_nextB (Q₁ := fun b μ₁ => br b (wpAnd sg (SC c d) hd (e' :: es) ρ μ₁ Q₀ X) (Q false μ₁)) (Step.refl S.rel) (hs e (.head _) hd A fs env ρ μ s _ _ X (fun v μ₁ h₁ => ?_) ok.1 h S) fun b μ₁ s₁ st _ q => ?_)
    · obtain ⟨b, rfl, hb⟩ := tr_bool h₁
      exact ⟨hb.1, fun hf => by subst hf; exact tr_of (hq _ _ (hb.2 rfl))⟩
    · cases b with
      | true => exact wpAny_mono (stands hq (fun x hx => hs x (.tail _ hx)) ok.2 (q.1 rfl) (S.step st)) (fun _ _ p => p.after st) fun _ _ x => x.after st
      | false => exact ⟨μ₁, st, q.2 rfl⟩
theorem stors {hd : Bool} {A : Around} {fs : List Env} {env : Env} {ρ : Loc} {X : String → Mem → Prop} {Q₀ : V → Mem → Prop} {Q : Bool → Mem → Prop} (hq : ∀ v μ₁, Q₀ v μ₁ → tr v fun b => Q b μ₁) : ∀ {es : List E} {μ : Mem} {s : Shared}, (∀ e ∈ es, ST c sg d e) → okEs sg env.scope.names es = true → wpOr sg (SC c d) hd es ρ μ Q₀ X → St c d hd A fs env ρ μ s →
    wpAny (model c.prog c.w) A (allTrue .Or (toEs es) env) (PostB c fs μ s Q) (XPost c fs μ s X) s
  | [], _, _, _, _, h, _ => h.elim
  | [e], μ, s, hs, ok, h, S => by
    simp only [okEs, Bool.and_eq_true] at ok
    refine wpAny_allTrue_Or_cons (wp_nextB (Step.refl S.rel) (hs e (.head _) hd A fs env ρ μ s Q₀ Q X hq ok.1 h S) fun b μ₁ s₁ st _ q => ?_)
    cases b with
    | true => exact ⟨μ₁, st, q⟩
    | false => exact wpAny_allTrue_Or_nil ⟨μ₁, st, q⟩
  | e :: e' :: es, μ, s, hs, ok, h, S => by
    rw [okEs, Bool.and_eq_true] at ok
    refine wpAny_allTrue_Or_cons (wp_nextB (Q₁ := fun b μ₁ => br b (Q true μ₁) (wpOr sg (SC c d) hd (e' :: es) ρ μ₁ Q₀ X)) (Step.refl S.rel) (hs e (.head _) hd A fs env ρ μ s _ _ X (fun v μ₁ h₁ => ?_) ok.1 h S) fun b μ₁ s₁ st _ q => ?_)
    · obtain ⟨b, rfl, hb⟩ := tr_bool h₁
      exact ⟨fun hf => by subst hf; exact tr_of (hq _ _ (hb.1 rfl)), hb.2⟩
    · cases b with
      | true => exact ⟨μ₁, st, q.1 rfl⟩
      | false => exact wpAny_mono (stors hq (fun x hx => hs x (.tail _ hx)) ok.2 (q.2 rfl) (S.step st)) (fun _ _ p => p.after st) fun _ _ x => x.after st

theorem st_plain (G : Good c sg) {e : E} (he : ∀ env : Env, isTrue (toE e) env (eval (toE e) env) = (do let v ← eval (toE e) env; standAt (toE e).pos; holding [v] (truthy v))) : ST c sg d e := by
  intro hd A fs env ρ μ s Q₀ Q X hq ok h S
  refine isTrue_plain (wp_next (Step.refl S.rel) (soundE G e hd A fs env ρ μ s Q₀ X ok h S) fun rv v μ₁ s₁ st _ hv q => ?_) (he env)
  exact truthy_sound hv (hq v μ₁ q) fun b hb => ⟨μ₁, st, hb⟩

theorem soundT_lt (G : Good c sg) : ∀ (n : Nat) (e : E), sizeOf e < n → ST c sg d e := by
  intro n
  induction n with
  | zero => intro e h; exact absurd h (Nat.not_lt_zero _)
  | succ n ih =>
    intro e h
    have sub : ∀ es : List E, sizeOf es < n → ∀ e ∈ es, ST c sg d e := fun es hl e he => ih e (Nat.lt_trans (List.sizeOf_lt_of_mem he) hl)
    cases e with
    | not e p =>
      simp only [E.not.sizeOf_spec] at h
      intro hd A fs env ρ μ s Q₀ Q X hq ok hw S
      simp only [okE_loc, okE_glob, okE_bin, okE_neg, okE_not, okE_and, okE_or, okE_cmp, okE_cmp2, okE_attr, okE_sub, okE_sliceL, okE_sliceU, okE_sliceLU, okE_tup, okE_list, okE_call, okE_new, okE_bltn, okE_isi, okE_meth, okE_comp] at ok
      refine isTrue_not (wpAny_mono (ih e (by omega) hd A fs env ρ μ s _ (fun b μ₁ => Q (!b) μ₁) X (fun v μ₁ h₁ => ?_) ok hw S) (fun b s₁ p => p) fun _ _ x => x)
      obtain ⟨b, rfl, hb⟩ := tr_bool h₁
      exact tr_of (hq _ _ hb)
    | and es p =>
      simp only [E.and.sizeOf_spec] at h
      intro hd A fs env ρ μ s Q₀ Q X hq ok hw S
      simp only [okE_loc, okE_glob, okE_bin, okE_neg, okE_not, okE_and, okE_or, okE_cmp, okE_cmp2, okE_attr, okE_sub, okE_sliceL, okE_sliceU, okE_sliceLU, okE_tup, okE_list, okE_call, okE_new, okE_bltn, okE_isi, okE_meth, okE_comp] at ok
      exact wpAny_isTrue_BoolOp (stands hq (sub es (by omega)) ok hw S)
    | or es p =>
      simp only [E.or.sizeOf_spec] at h
      intro hd A fs env ρ μ s Q₀ Q X hq ok hw S
      simp only [okE_loc, okE_glob, okE_bin, okE_neg, okE_not, okE_and, okE_or, okE_cmp, okE_cmp2, okE_attr, okE_sub, okE_sliceL, okE_sliceU, okE_sliceLU, okE_tup, okE_list, okE_call, okE_new, okE_bltn, okE_isi, okE_meth, okE_comp] at ok
      exact wpAny_isTrue_BoolOp (stors hq (sub es (by omega)) ok hw S)
    | cmp op l r p => exact st_cmp (soundE G l) (soundE G r)
    | cmp2 op₁ op₂ a b e p =>
      intro hd A fs env ρ μ s Q₀ Q X hq ok hw S
      simp only [okE_loc, okE_glob, okE_bin, okE_neg, okE_not, okE_and, okE_or, okE_cmp, okE_cmp2, okE_attr, okE_sub, okE_sliceL, okE_sliceU, okE_sliceLU, okE_tup, okE_list, okE_call, okE_new, okE_bltn, okE_isi, okE_meth, okE_comp, Bool.and_eq_true] at ok
      refine isTrue_chain (wp_next (Step.refl S.rel) (soundE G a hd A fs env ρ μ s _ X ok.1.1 hw S) fun ra va μ₁ s₁ st _ hva q => ?_) (by show lastMarks [op₁, op₂] [toE b, toE e] = false; exact behind_toE op₂ e)
      refine test_link (wp_next st (soundE G b hd A fs env ρ μ₁ s₁ _ X ok.1.2 q (S.step st)) fun rb vb μ₂ s₂ st₂ st' hvb q₂ => ?_)
      have S₂ := (S.step st).step st₂
      refine wpAny_mono (cmp_sound (E := XPost c fs μ s X) st₂.rel (hva.step st.rel st₂) hvb q₂ S₂.aok) (fun rt s₃ ⟨t, μ₃, st₃, ht, q₃⟩ => ?_) fun _ _ x => x
      obtain ⟨bt, rfl, hbt⟩ := tr_bool q₃
      cases ht
      refine wpAny_truthy_bool ?_
      cases bt with
      | true =>
        refine test_last (wp_next (st'.trans st₃) (soundE G e hd A fs env ρ μ₃ s₃ _ X ok.2 (hbt.1 rfl) (S₂.step st₃)) fun rc vc μ₄ s₄ st₄ st'' hvc q₄ => ?_)
        refine wpAny_mono (cmp_sound (E := XPost c fs μ s X) st₄.rel ((hvb.step st₂.rel st₃).step st₃.rel st₄) hvc q₄ ((S₂.step st₃).step st₄).aok) (fun rv s₅ ⟨v, μ₅, st₅, hv, q₅⟩ => ?_) fun _ _ x => x
        exact truthy_sound hv (hq v μ₅ q₅) fun b hb => ⟨μ₅, st''.trans st₅, hb⟩
      | false => exact ⟨μ₃, st'.trans st₃, tr_of (hq _ _ (hbt.2 rfl))⟩
    | un k e p1 p2 p3 p => exact st_plain G fun env => by cases k <;> rfl
    | _ => exact st_plain G fun env => rfl
theorem soundT (G : Good c sg) (e : E) : ST c sg d e := soundT_lt G (sizeOf e + 1) e (Nat.lt_succ_self _)
end
end Mine

set_option autoImplicit false
namespace Mine
set_option linter.unusedVariables false
set_option linter.unusedSimpArgs false
open PySem PySem.W PySem.Calls PyProof.Rows

noncomputable def isSto : Option NameKind → Bool
  | some .local | some .cell => true
  | _ => false

noncomputable def okMore (sg : Sig) (ns : List (Str × NameKind)) : List (String × Pos × E × Pos × Pos) → Bool
  | [] => true
  | (c, _, e, _, _) :: r => sg.excs.contains c && ns.lookup (Str.ofString c) == some .globalImplicit && c != "__debug__" && okE sg ns e && okMore sg ns r

noncomputable def noComp : E → Bool
  | .comp _ _ _ _ _ _ _ _ => false
  | .compP _ _ _ _ _ _ _ _ _ _ _ _ => false
  | _ => true
noncomputable def okV (sg : Sig) (ns : List (Str × NameKind)) (e : E) : Bool := okE sg ns e && noComp e
/-- what may be bound to a name: a comprehension, bound to a local name, on its own line -/
noncomputable def okA (sg : Sig) (ns : List (Str × NameKind)) (x : String) (e : E) (px : Pos) : Bool := match e with
  | .comp a b cs i f sc q pc => okE sg ns (.comp a b cs i f sc q pc) && (ns.lookup (Str.ofString x) == some .local && px.line == pc.line && !(sc.names.any fun (n, k) => n == Str.ofString x && (k == .local || k == .cell)))
  | e => okV sg ns e && isSto (ns.lookup (Str.ofString x))
mutual
noncomputable def okS (sg : Sig) (nr : Bool) (ns : List (Str × NameKind)) : S → Bool
  | .expr e _ => okV sg ns e
  | .assign x e px _ => okA sg ns x e px
  | .setattr o a e _ _ => okE sg ns o && okV sg ns e && sg.attrs.contains a
  | .setitem o i e _ _ => okE sg ns o && okE sg ns i && okV sg ns e
  | .dset o i e _ _ => okE sg ns o && okE sg ns i && okE sg ns e
  | .unpack xs e _ _ _ => okE sg ns e && (match e with | .loc _ _ => true | _ => false) && (xs.all fun x => isSto (ns.lookup (Str.ofString x.1)))
  | .ite c t f _ => okE sg ns c && okSs sg nr ns t && okSs sg nr ns f
  | .for_ x it body _ _ => okE sg ns it && isSto (ns.lookup (Str.ofString x)) && okSs sg nr ns body
  | .while_ c body _ => okE sg ns c && okSs sg nr ns body
  | .ret e _ => okE sg ns e
  | .raise c m _ _ _ _ => !nr && sg.excs.contains c && ns.lookup (Str.ofString c) == some .globalImplicit && c != "__debug__"
  | .try_ body c as h more _ _ _ => okSs sg true ns body && !h.isEmpty && okSs sg nr ns h && sg.excs.contains c && ns.lookup (Str.ofString c) == some .globalImplicit && c != "__debug__" &&
      (match as with | some n => ns.lookup (Str.ofString n) == some .local | none => true) && okMore sg ns more
  | .pass _ => true
noncomputable def okSs (sg : Sig) (nr : Bool) (ns : List (Str × NameKind)) : List S → Bool
  | [] => true
  | s :: r => okS sg nr ns s && okSs sg nr ns r
end

section
variable {sg : Sig} {nr : Bool} {ns : List (Str × NameKind)}
theorem okS_expr {e : E} {p : Pos} : okS sg nr ns (.expr e p) = okV sg ns e := rfl
theorem okS_assign {x : String} {e : E} {px p : Pos} : okS sg nr ns (.assign x e px p) = okA sg ns x e px := rfl
theorem okS_setattr {o e : E} {a : String} {q p : Pos} : okS sg nr ns (.setattr o a e q p) = (okE sg ns o && okV sg ns e && sg.attrs.contains a) := rfl
theorem okS_setitem {o i e : E} {q p : Pos} : okS sg nr ns (.setitem o i e q p) = (okE sg ns o && okE sg ns i && okV sg ns e) := rfl
theorem okS_dset {o i e : E} {q p : Pos} : okS sg nr ns (.dset o i e q p) = (okE sg ns o && okE sg ns i && okE sg ns e) := rfl
theorem okS_unpack {xs : List (String × Pos)} {e : E} {k : Nat} {q p : Pos} : okS sg nr ns (.unpack xs e k q p) = (okE sg ns e && (match e with | .loc _ _ => true | _ => false) && (xs.all fun x => isSto (ns.lookup (Str.ofString x.1)))) := rfl
theorem okS_ite {e : E} {t f : List S} {p : Pos} : okS sg nr ns (.ite e t f p) = (okE sg ns e && okSs sg nr ns t && okSs sg nr ns f) := rfl
theorem okS_for {x : String} {it : E} {body : List S} {q p : Pos} : okS sg nr ns (.for_ x it body q p) = (okE sg ns it && isSto (ns.lookup (Str.ofString x)) && okSs sg nr ns body) := rfl
theorem okS_while {e : E} {body : List S} {p : Pos} : okS sg nr ns (.while_ e body p) = (okE sg ns e && okSs sg nr ns body) := rfl
theorem okS_ret {e : E} {p : Pos} : okS sg nr ns (.ret e p) = okE sg ns e := rfl
theorem okS_raise {n m : String} {a b q p : Pos} : okS sg nr ns (.raise n m a b q p) = (!nr && sg.excs.contains n && ns.lookup (Str.ofString n) == some .globalImplicit && n != "__debug__") := rfl
theorem okS_try {body h : List S} {n : String} {as : Option String} {more : List (String × Pos × E × Pos × Pos)} {a b p : Pos} : okS sg nr ns (.try_ body n as h more a b p) = (okSs sg true ns body && !h.isEmpty && okSs sg nr ns h && sg.excs.contains n && ns.lookup (Str.ofString n) == some .globalImplicit && n != "__debug__" &&
      (match as with | some n => ns.lookup (Str.ofString n) == some .local | none => true) && okMore sg ns more) := rfl
end

noncomputable def Top (fs : List Env) (env : Env) : Prop := ∃ outer, fs = env :: outer ∧ env.frame = some env.locals

noncomputable def SS (c : Ctx) (sg : Sig) (d : Nat) (t : S) : Prop := ∀ (nr hd : Bool) (A : Around) (fs : List Env) (env : Env) (ρ : Loc) (μ : Mem) (s : Shared) (Q : Fl → Loc → Mem → Prop) (X : String → Loc → Mem → Prop),
  okS sg nr env.scope.names t = true → Top fs env → wpS sg (SC c d) hd t ρ μ Q X → St c d hd A fs env ρ μ s → wpAny (model c.prog c.w) A (exec (toS t) env) (PostS c d hd A fs env μ s Q) (XPostS c d hd A fs env nr μ s X) s
noncomputable def SSs (c : Ctx) (sg : Sig) (d : Nat) (t : List S) : Prop := ∀ (nr hd : Bool) (A : Around) (fs : List Env) (env : Env) (ρ : Loc) (μ : Mem) (s : Shared) (Q : Fl → Loc → Mem → Prop) (X : String → Loc → Mem → Prop),
  okSs sg nr env.scope.names t = true → Top fs env → wpSs sg (SC c d) hd t ρ μ Q X → St c d hd A fs env ρ μ s → wpAny (model c.prog c.w) A (execs (toSs t) env) (PostS c d hd A fs env μ s Q) (XPostS c d hd A fs env nr μ s X) s

section
variable {c : Ctx} {sg : Sig} {d : Nat} {nr hd : Bool} {A : Around} {fs : List Env} {env : Env} {ρ : Loc} {μ : Mem} {s : Shared} {X : String → Loc → Mem → Prop}

theorem ev (G : Good c sg) {e : E} {μ₀ : Mem} {s₀ : Shared} {Q₁ : V → Mem → Prop} {P : Value → Shared → Prop} (ok : okE sg env.scope.names e = true) (st : StepS c fs env μ₀ μ s₀ s) (h : wpE sg (SC c d) hd e ρ μ Q₁ (fun x μ₁ => X x ρ μ₁)) (S : St c d hd A fs env ρ μ s)
    (k : ∀ rv v μ₁ s₁, Step c fs μ μ₁ s s₁ → RV c s₁.heap rv v → Q₁ v μ₁ → P rv s₁) : wpAny (model c.prog c.w) A (eval (toE e) env) P (XPostS c d hd A fs env nr μ₀ s₀ X) s :=
  wpAny_mono (soundE G e hd A fs env ρ μ s Q₁ _ ok h S) (fun rv s₁ ⟨v, μ₁, st₁, hv, q⟩ => k rv v μ₁ s₁ st₁ hv q) fun _ _ x => (XPost.toS S x).after st

theorem okV_of {ns : List (Str × NameKind)} {e : E} (ok : okV sg ns e = true) : okE sg ns e = true ∧ noComp e = true := Bool.and_eq_true_iff.mp ok
theorem swaps_toE (e : E) (t : Option Expr) (n : Nat) (env : Env) (ok : noComp e = true) : swapsWith (toE e) t n env = pure false := by
  cases e <;> first | rfl | (rename Un => kk; cases kk <;> rfl) | cases ok

theorem sto {x : String} (h : isSto (env.scope.names.lookup (Str.ofString x)) = true) : env.kindOf (Str.ofString x) = some .local ∨ env.kindOf (Str.ofString x) = some .cell := by
  show env.scope.names.lookup _ = _ ∨ env.scope.names.lookup _ = _
  unfold isSto at h
  split at h
  · rename_i e; exact .inl e
  · rename_i e; exact .inr e
  · cases h

theorem ss_expr (G : Good c sg) {e : E} {p : Pos} : SS c sg d (.expr e p) := by
  intro nr hd A fs env ρ μ s Q X ok tp h S
  simp only [okS_expr, okS_assign, okS_setattr, okS_setitem, okS_unpack, okS_ite, okS_for, okS_while, okS_ret, okS_raise, okS_try] at ok
  refine wpAny_Expr_any (ev G (okV_of ok).1 .refl h S fun rv v μ₁ s₁ st hv q => ⟨.next, ρ, μ₁, st.toS, S.step st, .next, q⟩) (by unfold interactive; rw [S.er.kind]; rfl) (swaps_toE e _ _ _ (okV_of ok).2)

theorem assign_comp (G : Good c sg) {x : String} {elt it : E} {y : String} {cs : List String} {ifs : List E} {sc : Scope} {q pc px p : Pos} : SS c sg d (.assign x (.comp elt y cs it ifs sc q pc) px p) := by
  intro nr hd A fs env ρ μ s Q X ok tp h S
  simp only [okS_expr, okS_assign, okS_setattr, okS_setitem, okS_unpack, okS_ite, okS_for, okS_while, okS_ret, okS_raise, okS_try, okA, Bool.and_eq_true, beq_iff_eq] at ok
  obtain ⟨ok1, ⟨ok2, ok3⟩, ok4⟩ := ok
  have h : wpE sg (SC c d) hd (.comp elt y cs it ifs sc q pc) ρ μ (fun v μ₁ => Q .next (updL ρ x v) μ₁) (fun x μ₁ => X x ρ μ₁) := h
  have hsw : swapsWith (toE (.comp elt y cs it ifs sc q pc)) (some (.Name (Str.ofString x) px)) p.line env = pure true := by
    have e : swapsWith (toE (.comp elt y cs it ifs sc q pc)) (some (.Name (Str.ofString x) px)) p.line env = pure (env.blockKind == .function && env.kindOf (Str.ofString x) == some .local && px.line == pc.line && !(sc.names.any fun (n, k) => n == Str.ofString x && (k == .local || k == .cell))) := rfl
    have hk : env.kindOf (Str.ofString x) = some .local := ok2
    have hb : env.blockKind = .function := by unfold Env.blockKind; rw [S.er.kind]; rfl
    rw [e, hb, hk, ok4, ok3]
    simp
  have nl : ∀ {C}, (∀ b o, s.heap.get? b = some o → μ b = none → b ≠ C) → env.locals ≠ C := fun sC => by
    obtain ⟨m, hns, _⟩ := S.er.names
    obtain ⟨o, _, _, ho, _⟩ := Ns.dict hns
    exact sC _ o ho S.er.priv
  have nc : ∀ {C}, (∀ b o, s.heap.get? b = some o → μ b = none → b ≠ C) → ∀ z, env.cells.lookup z ≠ some C := fun sC z e => by
    obtain ⟨⟨w, o, ho, _⟩, hm, _⟩ := S.er.cells z _ e
    exact sC _ o ho hm rfl
  have nf : ∀ {C}, (∀ b o, s.heap.get? b = some o → μ b = none → b ≠ C) → C ∉ frs fs := fun sC hC => by
    obtain ⟨o, _, _, ho, _⟩ := S.aok.dicts _ hC
    exact sC _ o ho (S.aok.priv _ hC) rfl
  show wpAny _ A (exec (.Assign [.Name (Str.ofString x) px] (toE (.comp elt y cs it ifs sc q pc)) p) env) _ _ s
  rw [exec_Assign_Name_used _ _ _ _ hsw]
  refine wpAny_bind (wpAny_standAt (wpAny_bind ?_))
  show wpAny _ A (do let _ ← comprehension (.ListComp (toE elt) [⟨.Name (Str.ofString y) q, toE it, toEs ifs, 0⟩] sc pc) sc env _ (newList []) false (eval (toE it) env) (some (assign (.Name (Str.ofString x) px) env))) _ _ s
  refine wpAny_bind (wpAny_mono (comp_core (use := some (assign (.Name (Str.ofString x) px) env)) (Q' := fun _ s' => PostS c d hd A fs env μ s Q .next s') (Ex := XPostS c d hd A fs env nr μ s X) (soundE G it) (soundE G elt) (fun op l r p _ => ⟨soundE G l, soundE G r⟩) ok1 h S (fun _ _ y => XPost.toS S y) fun C n μ' s' m sC bC pC st hns hq => ?_) (fun _ s' hq => wpAny_pure (wpAny_pure hq)) fun _ _ e => e)
  have S' := S.step st
  refine wpAny_assign_Name (store_sound S' (.inl ok2) (.ref n) fun s'' stS S'' => ?_)
  obtain ⟨oC, esC, epC, hoC, hdC, rC⟩ := hns
  obtain ⟨_, sl, e'', _⟩ := stS.kept C oC hoC pC (by rintro (z | ⟨z, hz⟩); exact nl sC z.symm; exact nc sC z hz)
  refine ⟨m, ⟨_, esC, epC, e'', hdC, rC⟩, fun h' sb => ⟨.next, _, μ', ⟨stS.gens.trans st.gens, stS.drawn.trans st.drawn, stS.os.trans st.os, fun b o e hm hp => ?_⟩, S''.but pC bC (fun o e => ?_) (nl sC) (nc sC) (nf sC) sb, .next, hq⟩⟩
  · obtain ⟨m₂, sl₂, e₂, q₂⟩ := (st.toS.trans stS).kept b o e hm hp
    exact ⟨m₂, sl₂, (sb.2 b (sC b o e hm)).trans e₂, q₂⟩
  · rw [e''] at e; cases e
    rintro (⟨_, vs, n, z⟩ | ⟨_, vs, z⟩) <;> (rw [hdC] at z; cases z)

theorem assign_plain (G : Good c sg) {x : String} {e : E} {px p : Pos} (hn : noComp e = true) : SS c sg d (.assign x e px p) := by
  intro nr hd A fs env ρ μ s Q X ok tp h S
  have ok : (okV sg env.scope.names e && isSto (env.scope.names.lookup (Str.ofString x))) = true := by
    simp only [okS_expr, okS_assign, okS_setattr, okS_setitem, okS_unpack, okS_ite, okS_for, okS_while, okS_ret, okS_raise, okS_try] at ok
    unfold okA at ok
    split at ok
    · cases hn
    · exact ok
  rw [Bool.and_eq_true] at ok
  refine wpAny_Assign_Name (ev G (okV_of ok.1).1 .refl h S fun rv v μ₁ s₁ st hv q => ?_) (swaps_toE e _ _ _ (okV_of ok.1).2)
  exact store_sound (S.step st) (sto ok.2) hv fun s' st' S' => ⟨.next, _, μ₁, st.toS.trans st', S', .next, q⟩
theorem ss_assign (G : Good c sg) {x : String} {e : E} {px p : Pos} : SS c sg d (.assign x e px p) := by
  cases e
  case comp => exact assign_comp G
  case compP =>
    intro nr hd A fs env ρ μ s Q X ok tp h S
    simp only [okS_assign, okA, okV, noComp, Bool.and_false, Bool.false_and, Bool.false_eq_true] at ok
  all_goals exact assign_plain G rfl

theorem ss_setattr (G : Good c sg) {o e : E} {a : String} {pa p : Pos} : SS c sg d (.setattr o a e pa p) := by
  intro nr hd A fs env ρ μ s Q X ok tp h S
  simp only [okS_expr, okS_assign, okS_setattr, okS_setitem, okS_unpack, okS_ite, okS_for, okS_while, okS_ret, okS_raise, okS_try, Bool.and_eq_true] at ok
  refine plainObj_wpAny_Assign_Attribute (ev G (okV_of ok.1.2).1 .refl h S fun rv v μ₁ s₁ st hv q => ?_) (swaps_toE e _ _ _ (okV_of ok.1.2).2)
  refine ev G ok.1.1 st.toS q (S.step st) fun ro w μ₂ s₂ st₂ hw q₂ => ?_
  have S₂ := (S.step st).step st₂
  split at q₂
  · split at q₂
    · rename_i x _ _ dd hx
      split at q₂
      · rename_i fl hfl
        cases hw
        refine setattr_sound (fs := fs) (Kin G S₂.rel) S₂.rel (hv.step st.rel st₂) hx hfl G.cls (fun y C hy => G.attr y C a hy (by simpa using ok.2)) q₂.1 fun s' st₃ => ?_
        exact ⟨.next, ρ, _, (st.trans (st₂.trans st₃)).toS, S₂.step st₃, .next, q₂.2⟩
      · exact q₂.elim
    · exact q₂.elim
  · exact q₂.elim

theorem ss_setitem (G : Good c sg) {o i e : E} {ps p : Pos} : SS c sg d (.setitem o i e ps p) := by
  intro nr hd A fs env ρ μ s Q X ok tp h S
  simp only [okS_expr, okS_assign, okS_setattr, okS_setitem, okS_unpack, okS_ite, okS_for, okS_while, okS_ret, okS_raise, okS_try, Bool.and_eq_true] at ok
  refine wpAny_Assign_Subscript (ev G (okV_of ok.2).1 .refl h S fun rv v μ₁ s₁ st hv q => ?_) (swaps_toE e _ _ _ (okV_of ok.2).2)
  refine ev G ok.1.1 st.toS q (S.step st) fun ro w μ₂ s₂ st₂ hw q₂ => ?_
  refine ev G ok.1.2 (st.trans st₂).toS q₂ ((S.step st).step st₂) fun ri j μ₃ s₃ st₃ hj q₃ => ?_
  have S₃ := ((S.step st).step st₂).step st₃
  split at q₃
  · rename_i x k
    split at q₃
    · rename_i l hl
      obtain ⟨h0, hk, q₃⟩ := q₃
      cases hw; cases hj
      obtain ⟨vs, n, h1, h2, h3⟩ := S₃.rel.lst hl
      have hsz : vs.size = l.length := by rw [← Array.length_toList, h2.length]
      have hlim : l.length < 2 ^ 62 := Nat.lt_of_le_of_lt h3 (by decide)
      refine ki_setAt (n := n) h1 h0 (by omega) (by rw [hsz]; exact hk) ?_
      have st₄ : Step c fs μ₃ (updM μ₃ x (.list (l.set k.toNat v))) s₃ { s₃ with heap := s₃.heap.update x (Obj.mapSeq (·.setIfInBounds k.toNat rv)) } := step_list S₃.rel hl h1 rfl (by rw [Array.toList_setIfInBounds]; exact h2.set ((hv.step st.rel st₂).step st₂.rel st₃) _) (by rw [List.length_set]; exact h3)
      exact ⟨.next, ρ, _, (st.trans (st₂.trans (st₃.trans st₄))).toS, S₃.step st₄, .next, q₃⟩
    · exact q₃.elim
  · exact q₃.elim

theorem swaps_sub (e : E) (o i : Expr) (q : Pos) (n : Nat) (env : Env) : swapsWith (toE e) (some (.Subscript o i q)) n env = pure false := by
  cases e <;> first | rfl | (rename Un => kk; cases kk <;> rfl)
theorem stored_new {rs : List (Int × Value)} {k : Int} {v : Value} (h : k ∉ rs.map (·.1)) : stored rs k v = rs ++ [(k, v)] := by
  unfold stored
  rw [if_neg]
  intro q
  obtain ⟨p, hp, e⟩ := List.any_eq_true.mp q
  exact h (List.mem_map.mpr ⟨p, hp, of_decide_eq_true e⟩)
theorem ss_dset (G : Good c sg) {o i e : E} {ps p : Pos} : SS c sg d (.dset o i e ps p) := by
  intro nr hd A fs env ρ μ s Q X ok tp h S
  simp only [okS_dset, Bool.and_eq_true] at ok
  refine wpAny_Assign_Subscript (ev G ok.2 .refl h S fun rv v μ₁ s₁ st hv q => ?_) (swaps_sub e _ _ _ _ _)
  refine ev G ok.1.1 st.toS q (S.step st) fun ro w μ₂ s₂ st₂ hw q₂ => ?_
  refine ev G ok.1.2 (st.trans st₂).toS q₂ ((S.step st).step st₂) fun ri j μ₃ s₃ st₃ hj q₃ => ?_
  have S₃ := ((S.step st).step st₂).step st₃
  obtain ⟨x, ep, l, rfl, hl, q₄⟩ := asD_of q₃
  unfold asInt at q₄
  split at q₄
  · rename_i _ k
    replace q₃ := q₄
    obtain ⟨hk, hz, q₃⟩ := q₃
    cases hw
    cases hj
    obtain ⟨rs, h1, h2, h3, h4⟩ := S₃.rel.dct hl
    have hlen : rs.length = l.length := by have := congrArg List.length h2; simpa using this
    rw [← h2] at hk
    refine wpAny_setItem_pairs (intKind_is c.prog c.w _ _) h1.dictOf (fun h' hm sb => ?_) (by rw [sizeLine_eq]; omega)
    rw [stored_new hk] at hm
    obtain ⟨od, es, ep', g1, g2, g3, g4, g5, g6⟩ := hm
    have rv' : RVs c s₃.heap ((rs ++ [(k, rv)]).map (·.2)) ((l ++ [(k, v)]).map (·.2)) := by
      rw [List.map_append, List.map_append]
      exact h3.append (.cons ((hv.step st.rel st₂).step st₂.rel st₃) .nil)
    have st₄ : Step c fs μ₃ (updM μ₃ x (.dict ep' (l ++ [(k, v)]))) s₃ { s₃ with heap := h', toks := s₃.toks + 1 } := Step.store S₃.rel hl sb.2 g1 (.dict g2 g3 g4 g5 g6 (by rw [List.map_append, List.map_append, h2]; rfl) rv' (by rw [List.length_append]; exact hz))
    exact ⟨.next, ρ, _, (st.trans (st₂.trans (st₃.trans st₄))).toS, S₃.step st₄, .next, q₃ _⟩
  · exact q₄.elim

theorem StepS.rvs {μ' : Mem} {s' : Shared} (S : St c d hd A fs env ρ μ s) (st : StepS c fs env μ μ' s s') : ∀ {vs : List Value} {xs : List V}, RVs c s.heap vs xs → RVs c s'.heap vs xs
  | _, _, .nil => .nil
  | _, _, .cons hv hr => .cons (st.rv S hv) (StepS.rvs S st hr)
theorem each_len (env : Env) : ∀ xs : List (String × Pos), (assignEach (xs.map fun x => Expr.Name (Str.ofString x.1) x.2) env).length = xs.length ∧ (assignEach (xs.map fun x => Expr.Name (Str.ofString x.1) x.2) env).findIdx? (·.1) = none
  | [] => ⟨rfl, rfl⟩
  | x :: xs => by
    obtain ⟨h1, h2⟩ := each_len env xs
    have e : assignEach ((x :: xs).map fun x => Expr.Name (Str.ofString x.1) x.2) env = (false, assign (.Name (Str.ofString x.1) x.2) env) :: assignEach (xs.map fun x => Expr.Name (Str.ofString x.1) x.2) env := rfl
    rw [e]
    exact ⟨by rw [List.length_cons, h1, List.length_cons], by rw [List.findIdx?_cons, h2]; rfl⟩
theorem assign_names {P : Unit → Shared → Prop} {E : Value → Shared → Prop} : ∀ {xs : List (String × Pos)} {vs : List Value} {l : List V} {ρ ρ' : Loc} {s : Shared}, RVs c s.heap vs l → bindAll (xs.map (·.1)) l ρ = some ρ' → (∀ x ∈ xs, isSto (env.scope.names.lookup (Str.ofString x.1)) = true) → St c d hd A fs env ρ μ s →
    (∀ s', StepS c fs env μ μ s s' → St c d hd A fs env ρ' μ s' → P () s') → wpAny (model c.prog c.w) A (assignInOrder ((assignEach (xs.map fun x => Expr.Name (Str.ofString x.1) x.2) env).map (·.2)) vs) P E s
  | [], _, [], _, _, _, hr, hb, _, S, h => by
    cases hr; cases hb
    exact wpAny_pure (h _ .refl S)
  | [], _, _ :: _, _, _, _, _, hb, _, _, _ => by cases hb
  | _ :: _, _, [], _, _, _, _, hb, _, _, _ => by cases hb
  | x :: xs, _, v :: l, ρ, ρ', s, .cons hv hr, hb, ok, S, h => by
    refine wpAny_bind (wpAny_holding (wpAny_assign_Name (store_sound S (sto (ok x (.head _))) hv fun s₁ st₁ S₁ => ?_)))
    exact assign_names (st₁.rvs S hr) hb (fun y hy => ok y (.tail _ hy)) S₁ fun s' st' S' => h s' (st₁.trans st') S'
theorem asT_of {v : V} {k : List V → Prop} (h : asT v k) : ∃ l, v = .tup l ∧ k l := by
  unfold asT at h
  split at h
  · exact ⟨_, rfl, h⟩
  · exact h.elim
theorem ss_unpack (G : Good c sg) {xs : List (String × Pos)} {e : E} {k : Nat} {pt p : Pos} : SS c sg d (.unpack xs e k pt p) := by
  intro nr hd A fs env ρ μ s Q X ok tp h S
  simp only [okS_expr, okS_assign, okS_setattr, okS_setitem, okS_unpack, okS_ite, okS_for, okS_while, okS_ret, okS_raise, okS_try, Bool.and_eq_true, List.all_eq_true] at ok
  obtain ⟨h0, h⟩ := h
  obtain ⟨⟨ok1, ok2⟩, ok3⟩ := ok
  cases e with
  | loc x px =>
    refine Assign_Tuple (ev G ok1 .refl h S fun rv v μ₁ s₁ st hv q => ?_)
    replace q := asT_of q
    obtain ⟨l, rfl, q⟩ := q
    split at q
    · rename_i ρ' hb
      cases hv with
      | @tup t o us n _ ho hc hdd hl hz =>
      have hln : xs.length = us.size := by
        have : ∀ (ys : List String) (l : List V) (ρ ρ' : Loc), bindAll ys l ρ = some ρ' → ys.length = l.length := by
          intro ys
          induction ys with
          | nil => intro l ρ ρ' e; cases l with
            | nil => rfl
            | cons _ _ => cases e
          | cons y ys ih => intro l ρ ρ' e; cases l with
            | nil => cases e
            | cons v l => rw [List.length_cons, List.length_cons, ih l _ _ e]
        have e1 := this _ _ _ _ hb
        rw [List.length_map] at e1
        rw [e1, ← Array.length_toList, hl.length]
      refine assign_Tuple_tuple ((S.step st).aok.handled h0) ⟨_, ho, hc, n, hdd⟩ ((each_len env xs).1.trans hln) (each_len env xs).2 fun h' he => ?_
      have st₂ : Step c fs μ₁ μ₁ s₁ { s₁ with heap := h' } := Step.grows (n := s₁.toks) st.rel fun b o e => he b o (Nat.ne_of_lt (Heap.lt_size e)) e
      exact assign_names (hl.step st.rel st₂) hb ok3 ((S.step st).step st₂) fun s' st' S' => ⟨.next, ρ', μ₁, (st.trans st₂).toS.trans st', S', .next, q⟩
    · exact q.elim
  | _ => cases ok2
end
end Mine

set_option autoImplicit false
namespace Mine
set_option linter.unusedVariables false
set_option linter.unusedSimpArgs false
open PySem PySem.W PySem.Calls PyProof.Rows

section
variable {c : Ctx} {sg : Sig} {d : Nat} {nr hd : Bool} {A : Around} {fs : List Env} {env : Env} {ρ : Loc} {μ : Mem} {s : Shared} {X : String → Loc → Mem → Prop}

theorem ss_pass {p : Pos} : SS c sg d (.pass p) := by
  intro nr hd A fs env ρ μ s Q X ok tp h S
  exact wpAny_Pass ⟨.next, ρ, μ, .refl, S, .next, h⟩

theorem ss_ret (G : Good c sg) {e : E} {p : Pos} : SS c sg d (.ret e p) := by
  intro nr hd A fs env ρ μ s Q X ok tp h S
  simp only [okS_expr, okS_assign, okS_setattr, okS_setitem, okS_unpack, okS_ite, okS_for, okS_while, okS_ret, okS_raise, okS_try] at ok
  exact wpAny_Return_some (ev G ok .refl h S fun rv v μ₁ s₁ st hv q => ⟨.ret v, ρ, μ₁, st.toS, S.step st, .ret hv, q⟩)

theorem sss {t : List S} (ht : ∀ x ∈ t, SS c sg d x) : SSs c sg d t := by
  induction t with
  | nil =>
    intro nr hd A fs env ρ μ s Q X ok tp h S
    exact wpAny_execs_nil ⟨.next, ρ, μ, .refl, S, .next, h⟩
  | cons t r ih =>
    intro nr hd A fs env ρ μ s Q X ok tp h S
    simp only [okSs, Bool.and_eq_true] at ok
    refine wpAny_execs_cons (wpAny_mono (ht t (.head _) nr hd A fs env ρ μ s _ X ok.1 tp h S) (fun fl s₁ ⟨fl', ρ₁, μ₁, st, S₁, hfl, q⟩ => ?_) fun _ _ x => x)
    cases hfl with
    | next => exact wpAny_mono (ih (fun x hx => ht x (.tail _ hx)) nr hd A fs env ρ₁ μ₁ s₁ Q X ok.2 tp q S₁) (fun _ _ p => p.after st) fun _ _ p => p.after st
    | ret hv => exact ⟨_, ρ₁, μ₁, st, S₁, .ret hv, q⟩

theorem ss_ite (G : Good c sg) {e : E} {t f : List S} {p : Pos} (ht : SSs c sg d t) (hf : SSs c sg d f) : SS c sg d (.ite e t f p) := by
  intro nr hd A fs env ρ μ s Q X ok tp h S
  simp only [okS_expr, okS_assign, okS_setattr, okS_setitem, okS_unpack, okS_ite, okS_for, okS_while, okS_ret, okS_raise, okS_try, Bool.and_eq_true] at ok
  refine wpAny_If (wpAny_mono (soundT G e hd A fs env ρ μ s _ (fun b μ₁ => br b (wpSs sg (SC c d) hd t ρ μ₁ Q X) (wpSs sg (SC c d) hd f ρ μ₁ Q X)) _ (fun v μ₁ h₁ => h₁) ok.1.1 h S) (fun b s₁ ⟨μ₁, st, q⟩ => ?_) fun _ _ x => XPost.toS S x)
  cases b with
  | true =>
    rw [if_pos rfl]
    exact wpAny_mono (ht nr hd A fs env ρ μ₁ s₁ Q X ok.1.2 tp (q.1 rfl) (S.step st)) (fun _ _ p => p.after st.toS) fun _ _ p => p.after st.toS
  | false =>
    rw [if_neg Bool.false_ne_true]
    exact wpAny_mono (hf nr hd A fs env ρ μ₁ s₁ Q X ok.2 tp (q.2 rfl) (S.step st)) (fun _ _ p => p.after st.toS) fun _ _ p => p.after st.toS

theorem for_sound {it : Addr} {rv : Value} {v : V} {items : List V} {It : Nat → Heap → Prop} {x : String} {px : Pos} {body : List S} {Q : Fl → Loc → Mem → Prop} {E : Value → Shared → Prop} {μ₀ : Mem} {s₀ : Shared} (I : Iter c A it rv v items It) (hb : SSs c sg d body)
    (okx : isSto (env.scope.names.lookup (Str.ofString x)) = true) (okb : okSs sg nr env.scope.names body = true) (tp : Top fs env) (hn : s₀.heap.get? it = none) (hbase : c.base.get? it = none)
    (st : StepS c fs env μ₀ μ s₀ s) (S : St c d hd A fs env ρ μ s) (hv : RV c s.heap rv v) (hit : It 0 s.heap)
    (h : forI (fun μ' => itemsOf μ' v = some items) x (fun ρ' μ' k => wpSs sg (SC c d) hd body ρ' μ' k fun _ _ _ => False) items ρ μ Q) :
    codeAny (model c.prog c.w) A (.forLoop (.Name (Str.ofString x) px) (.ref it) (toSs body) [] env) (fun r s' => match r with | .ok f => PostS c d hd A fs env μ₀ s₀ Q f s' | .error e => E e s') s := by
  obtain ⟨J, j0, jst, jturn, jfin⟩ := h
  refine codeAny_forLoop (fun n s => ∃ k ρ μ, n = items.length - k ∧ k ≤ items.length ∧ StepS c fs env μ₀ μ s₀ s ∧ St c d hd A fs env ρ μ s ∧ RV c s.heap rv v ∧ It k s.heap ∧ J k ρ μ)
    (fun n s ⟨k, ρ, μ, hk, hkl, st, S, hv, hit, h⟩ => ?_) items.length ⟨0, ρ, μ, rfl, Nat.zero_le _, st, S, hv, hit, j0⟩
  cases hk' : items[k]? with
  | none =>
    have : k = items.length := Nat.le_antisymm hkl (List.getElem?_eq_none_iff.mp hk')
    refine I.fin k s μ _ _ hk' (jst _ _ _ h) S.rel hv hit fun h' x => ?_
    subst this
    exact wpAny_execs_nil ⟨.next, ρ, μ, st.it (n := s.toks) x hn, S.ext (n := s.toks) x hbase (I.obj _ _ hit), .next, jfin _ _ h⟩
  | some w =>
    have hlt : k < items.length := (List.getElem?_eq_some_iff.mp hk').1
    refine I.item k w s μ _ _ hk' (jst _ _ _ h) S.rel hv hit fun rw_ h' n' x hit' hw => ?_
    have ho := I.obj k _ hit
    have S₁ := S.ext (n := n') x hbase ho
    have st₁ := st.it (n := n') x hn
    refine wpAny_assign_Name (store_sound S₁ (sto okx) (hw.monoV (monoV_ext x ho)) fun s₂ st₂ S₂ => ?_)
    refine wpAny_mono (hb nr hd A fs env _ μ s₂ _ _ okb tp (jturn k w ρ μ hk' h) S₂) (fun fl s₃ ⟨fl', ρ₃, μ₃, st₃, S₃, hfl, q⟩ => ?_) fun _ _ y => y.no
    have st₁₃ := st₂.trans st₃
    cases hfl with
    | next => exact ⟨items.length - (k + 1), by omega, k + 1, ρ₃, μ₃, rfl, hlt, st₁.trans st₁₃, S₃, st₁₃.rv S₁ (hv.monoV (monoV_ext x ho)), I.keep _ _ _ hit' (st₁₃.fields S₁ (I.obj _ _ hit')), q⟩
    | ret hr => exact ⟨_, ρ₃, μ₃, st₁.trans st₁₃, S₃, .ret hr, q⟩

theorem ss_while (G : Good c sg) {e : E} {body : List S} {p : Pos} (hb : SSs c sg d body) : SS c sg d (.while_ e body p) := by
  intro nr hd A fs env ρ μ s Q X ok tp h S
  simp only [okS_expr, okS_assign, okS_setattr, okS_setitem, okS_unpack, okS_ite, okS_for, okS_while, okS_ret, okS_raise, okS_try, Bool.and_eq_true] at ok
  obtain ⟨J, ⟨n, j0⟩, jturn⟩ := h
  refine wpAny_While (codeAny_whileLoop (fun n s' => ∃ ρ' μ', StepS c fs env μ μ' s s' ∧ St c d hd A fs env ρ' μ' s' ∧ J n ρ' μ')
    (fun n s' ⟨ρ', μ', st, S', h'⟩ => ?_) n ⟨ρ, μ, .refl, S, j0⟩)
  refine wpAny_mono (soundT G e hd A fs env ρ' μ' s' _ _ _ (fun v μ₁ h₁ => h₁) ok.1 (jturn n ρ' μ' h') S') (fun b s₁ ⟨μ₁, st₁, q⟩ => ?_) fun _ _ y => y.no
  cases b with
  | true =>
    rw [if_pos rfl]
    refine wpAny_mono (hb nr hd A fs env ρ' μ₁ s₁ _ _ ok.2 tp (q.1 rfl) (S'.step st₁)) (fun fl s₃ ⟨fl', ρ₃, μ₃, st₃, S₃, hfl, q⟩ => ?_) fun _ _ y => y.no
    cases hfl with
    | next =>
      obtain ⟨m, hm, q⟩ := q
      exact ⟨m, hm, ρ₃, μ₃, st.trans (st₁.toS.trans st₃), S₃, q⟩
    | ret hr => exact ⟨_, ρ₃, μ₃, st.trans (st₁.toS.trans st₃), S₃, .ret hr, q⟩
  | false =>
    rw [if_neg Bool.false_ne_true]
    exact wpAny_execs_nil ⟨.next, ρ', μ₁, st.trans st₁.toS, S'.step st₁, .next, q.2 rfl⟩
end
end Mine

set_option autoImplicit false
namespace Mine
set_option linter.unusedVariables false
set_option linter.unusedSimpArgs false
open PySem PySem.W PySem.Calls PyProof.Rows

section
variable {c : Ctx} {sg : Sig} {d : Nat} {nr hd : Bool} {A : Around} {fs : List Env} {env : Env} {ρ : Loc} {μ : Mem} {s : Shared} {X : String → Loc → Mem → Prop}

theorem ss_for (G : Good c sg) {x : String} {e : E} {body : List S} {px p : Pos} (hb : SSs c sg d body) : SS c sg d (.for_ x e body px p) := by
  intro nr hd A fs env ρ μ s Q X ok tp h S
  simp only [okS_expr, okS_assign, okS_setattr, okS_setitem, okS_unpack, okS_ite, okS_for, okS_while, okS_ret, okS_raise, okS_try, Bool.and_eq_true] at ok
  obtain ⟨h0, h⟩ := h
  refine wpAny_For (ev G ok.1.1 .refl h S fun rv v μ₁ s₁ st hv q => ?_) (fun x => by cases e <;> first | rfl | (rename Un => kk; cases kk <;> rfl))
  split at q
  · rename_i items hi
    refine iter_sound (fs := fs) (S.aok.handled h0) st.rel hv hi fun it s₂ It I hit hn st₂ => ?_
    have hb' : c.base.get? it = none := by
      cases z : c.base.get? it with
      | none => rfl
      | some o => have := st.rel.base it o z; rw [hn] at this; cases this
    have hn' : s.heap.get? it = none ∨ True := .inr trivial
    refine codeAny_mono (for_sound (E := fun e s' => cameBackBy (model c.prog c.w) A env (XPostS c d hd A fs env nr μ s X) e s') (μ₀ := μ₁) (s₀ := s₁) I hb ok.1.2 ok.2 tp hn hb' st₂.toS ((S.step st).step st₂) (hv.step st.rel st₂) hit q) fun r s' hr => ?_
    cases r with
    | error e => exact hr
    | ok f => exact PostS.after st.toS hr
  · exact q.elim
end
end Mine

set_option autoImplicit false
namespace Mine
set_option linter.unusedVariables false
set_option linter.unusedSimpArgs false
open PySem PySem.W PySem.Calls PyProof.Rows

section
variable {c : Ctx} {sg : Sig} {d : Nat} {nr hd : Bool} {A : Around} {fs : List Env} {env : Env} {ρ : Loc} {μ : Mem} {s : Shared} {X : String → Loc → Mem → Prop}

theorem ss_raise (G : Good c sg) {n m : String} {pf pm pc p : Pos} : SS c sg d (.raise n m pf pm pc p) := by
  intro nr hd A fs env ρ μ s Q X ok tp h S
  simp only [okS_expr, okS_assign, okS_setattr, okS_setitem, okS_unpack, okS_ite, okS_for, okS_while, okS_ret, okS_raise, okS_try, Bool.and_eq_true, Bool.not_eq_true', beq_iff_eq, bne_iff_ne] at ok
  obtain ⟨⟨⟨hnr, hin⟩, hk⟩, hdb⟩ := ok
  obtain ⟨C, hC⟩ := G.excs n (by simpa using hin)
  obtain ⟨e1, e2⟩ := G.exc n C hC
  obtain ⟨pp, loose, mg, mb, T⟩ := G.top
  have O := own_of_in G.X T e1 e2
  obtain ⟨tl, N, nm, q, bs, hdct, sn, sub, ab, col, dd, k0, k1, k2, k3, k5, mN, oC, hN, hni, TL⟩ := O.obj
  refine wpAny_Raise_call_subT (C := C) (nm := nm) (q := q) (N := N) (bs := bs) (bm := tl) (hdct := hdct) (sn := sn) (sub := sub) (ab := ab) (col := col) (dd := dd) (k0 := k0) (k1 := k1) (k2 := k2) (k3 := k3) (k5 := k5)
    PySem.F.excBase_ValueError (mN := mN) (TL.hasType PySem.F.excBase_ValueError.hasBase) (S.aok.handled h.1) rfl hni (name_glob G S.er S.rel hk hdb e1 ⟨rfl, ?_⟩)
  refine Calls.evalArgs_plain (Calls.spliced_cons (wpAny_Constant_str (k := 0) (pos := pm) (Calls.spliced_nil ?_)))
  have st : Step c fs μ μ s { s with toks := s.toks + 1 } := Step.toks S.rel
  refine ⟨rfl, by show 1 ≤ sizeLine; decide, S.rel.base _ _ oC, hN.keeps S.rel.base, TL.keeps S.rel.base, fun h' e hm => ?_⟩
  exact ⟨e, n, ρ, μ, μ, _, rfl, st.toS, S.step st, .inr ⟨hnr, rfl, rfl, rfl, rfl, C, _, hC, hm⟩, h.2⟩

structure InAir (c : Ctx) (fs : List Env) (μ μ' : Mem) (s s' : Shared) (x : String) (B : Heap) (C : Addr) : Prop where
  gens : s'.gens = s.gens
  drawn : s'.drawn = s.drawn
  os : s'.os = s.os
  kept : Kept (frs fs) μ μ' s.heap s'.heap
  hx : c.exc x = some C
  hr : Rel c μ' B
  hB : ∀ b o, s.heap.get? b = some o → μ b = none → b ∉ frs fs → B.get? b = some o

section
variable {e : Addr} {x : String} {μ' : Mem} {s' : Shared} {B h : Heap} {C : Addr} {a0 : Value} {Q : Fl → Loc → Mem → Prop} {E : Value → Shared → Prop} {b : S} {bs : List S} {ph : Pos}

end

theorem ss_try (G : Good c sg) {body h : List S} {n : String} {as : Option String} {more : List (String × Pos × E × Pos × Pos)} {pc ph p : Pos} (hb : SSs c sg d body) (hh : SSs c sg d h) : SS c sg d (.try_ body n as h more pc ph p) := fun _ _ _ _ _ _ _ _ _ _ _ _ h _ => h.elim

theorem soundS_lt (G : Good c sg) : ∀ (n : Nat) (t : S), sizeOf t < n → SS c sg d t := by
  intro n
  induction n with
  | zero => intro e h; exact absurd h (Nat.not_lt_zero _)
  | succ n ih =>
    intro t h
    have sub : ∀ l : List S, sizeOf l < n → SSs c sg d l := fun l hl => sss fun t ht => ih t (Nat.lt_trans (List.sizeOf_lt_of_mem ht) hl)
    cases t with
    | expr e p => exact ss_expr G
    | assign x e px p => exact ss_assign G
    | setattr o a e pa p => exact ss_setattr G
    | setitem o i e ps p => exact ss_setitem G
    | dset o i e ps p => exact ss_dset G
    | unpack xs e k pt p => exact ss_unpack G
    | ite e t f p => simp only [S.ite.sizeOf_spec] at h; exact ss_ite G (sub t (by omega)) (sub f (by omega))
    | for_ x e b px p => simp only [S.for_.sizeOf_spec] at h; exact ss_for G (sub b (by omega))
    | while_ e b p => simp only [S.while_.sizeOf_spec] at h; exact ss_while G (sub b (by omega))
    | ret e p => exact ss_ret G
    | raise n m pf pm pc p => exact ss_raise G
    | try_ b n as h' more pc ph p => simp only [S.try_.sizeOf_spec] at h; exact ss_try G (sub b (by omega)) (sub h' (by omega))
    | pass p => exact ss_pass
theorem soundSs (G : Good c sg) (t : List S) : SSs c sg d t := sss fun t _ => soundS_lt G (sizeOf t + 1) t (Nat.lt_succ_self _)
end
end Mine

set_option autoImplicit false
namespace Mine
set_option linter.unusedVariables false
set_option linter.unusedSimpArgs false
open PySem PySem.W PySem.Calls PyProof.Rows

/-- a function of the text -/
structure Def (c : Ctx) (sg : Sig) (f : String) (ps : List String) (body : List S) : Prop where
  limit : c.base.NoLimit
  def_ : ∃ fa o fd, c.fn f = some fa ∧ c.base.get? fa = some o ∧ o.data = .func fd ∧ fd.body = .stmts (toSs body) ∧ fd.closure = [] ∧ fd.globals = mainGlobals ∧ fd.builtins = builtinsNs ∧ c.base.CodeRec fd.code fd.qualname ∧
    fd.scope.kind = .function ∧ fd.scope.isCoroutine = false ∧ fd.scope.isGenerator = false ∧ (∀ rvs : List Value, rvs.length = ps.length → bindArgs fd ⟨rvs, []⟩ = pure ((ps.map Str.ofString).zip rvs)) ∧
    (ps.all fun p => isSto (fd.scope.names.lookup (Str.ofString p))) = true ∧ okSs sg false fd.scope.names body = true

theorem cellsFrom_has {x : Str} : ∀ (l : List (Str × NameKind)) (n : Nat) (acc : List (Str × Addr)), l.lookup x = some .cell ∨ (acc.lookup x).isSome = true → ((cellsFrom n l acc).lookup x).isSome = true
  | [], n, acc, h => by
    rcases h with h | h
    · cases h
    · exact h
  | (y, k) :: r, n, acc, h => by
    unfold cellsFrom
    by_cases hk : (k == NameKind.cell) = true
    · rw [if_pos hk]
      refine cellsFrom_has r _ _ ?_
      by_cases e : (x == y) = true
      · refine .inr ?_
        simp only [List.lookup_cons, e]; rfl
      · have e' : (x == y) = false := by simpa using e
        simp only [List.lookup_cons, e'] at h ⊢
        exact h
    · rw [if_neg hk]
      refine cellsFrom_has r _ _ ?_
      by_cases e : (x == y) = true
      · simp only [List.lookup_cons, e] at h
        rcases h with h | h
        · cases h; exact absurd rfl hk
        · exact .inr h
      · have e' : (x == y) = false := by simpa using e
        simp only [List.lookup_cons, e'] at h
        exact h

theorem apart_inj {cs : List (Str × Addr)} (h : cs.Pairwise fun x y => x.2 ≠ y.2) {x y : Str} {ca : Addr} (hx : (x, ca) ∈ cs) (hy : (y, ca) ∈ cs) : x = y := by
  induction h with
  | nil => cases hx
  | cons hd _ ih =>
    cases hx with
    | head => cases hy with
      | head => rfl
      | tail _ hy => exact absurd rfl (hd (y, ca) hy)
    | tail _ hx => cases hy with
      | head => exact absurd rfl (hd (x, ca) hx)
      | tail _ hy => exact ih hx hy

section
variable {c : Ctx} {sg : Sig} {d : Nat} {hd : Bool}

noncomputable def Has (c : Ctx) (k : Str → Option NameKind) (h : Heap) (m cm : Str → Option Value) (x : String) (v : V) : Prop :=
  (k (Str.ofString x) = some .local ∧ ∃ rv, m (Str.ofString x) = some rv ∧ RV c h rv v) ∨ (k (Str.ofString x) = some .cell ∧ ∃ rv, cm (Str.ofString x) = some rv ∧ RV c h rv v)

theorem binds_has {k : Str → Option NameKind} {h : Heap} : ∀ {ps : List String} {vs : List V} {rvs : List Value} {ρ ρ' : Loc} {m cm : Str → Option Value}, RVs c h rvs vs → bindAll ps vs ρ = some ρ' → (∀ p ∈ ps, k (Str.ofString p) = some .local ∨ k (Str.ofString p) = some .cell) →
    (∀ x v, ρ x = some v → Has c k h m cm x v) → ∀ x v, ρ' x = some v → Has c k h (bindL k ((ps.map Str.ofString).zip rvs) m) (bindC k ((ps.map Str.ofString).zip rvs) cm) x v
  | [], [], _, ρ, ρ', m, cm, hr, hb, _, hρ => by
    cases hr; cases hb; exact hρ
  | p :: ps, v :: vs, _, ρ, ρ', m, cm, hr, hb, hk, hρ => by
    cases hr with
    | @cons rv rvs _ _ hv hr =>
    simp only [bindAll] at hb
    simp only [List.map_cons, List.zip_cons_cons, bindL, bindC]
    refine binds_has hr hb (fun q hq => hk q (.tail _ hq)) fun x w e => ?_
    unfold updL at e
    split at e
    · rename_i hx; subst hx; cases e
      rcases hk x (.head _) with hk | hk
      · exact .inl ⟨hk, rv, by rw [if_pos hk]; simp, hv⟩
      · exact .inr ⟨hk, rv, by rw [if_neg (by rw [hk]; nofun)]; simp, hv⟩
    · rename_i hx
      have hne : Str.ofString x ≠ Str.ofString p := fun q => hx (ofString_inj q)
      rcases hρ x w e with ⟨h1, rw_, h2, h3⟩ | ⟨h1, rw_, h2, h3⟩
      · refine .inl ⟨h1, rw_, ?_, h3⟩
        split
        · simp only [hne, if_false]; exact h2
        · exact h2
      · refine .inr ⟨h1, rw_, ?_, h3⟩
        split
        · exact h2
        · simp only [hne, if_false]; exact h2
  | [], _ :: _, _, _, _, _, _, _, hb, _, _ => by cases hb
  | _ :: _, [], _, _, _, _, _, _, hb, _, _ => by cases hb

theorem bindAll_length : ∀ {ps : List String} {vs : List V} {ρ ρ' : Loc}, bindAll ps vs ρ = some ρ' → ps.length = vs.length
  | [], [], _, _, _ => rfl
  | _ :: ps, _ :: vs, _, _, h => by simp only [bindAll] at h; simp [bindAll_length h]
  | [], _ :: _, _, _, h => by cases h
  | _ :: _, [], _, _, h => by cases h

theorem Rel.hide {μ : Mem} {h : Heap} {l : List Addr} (r : Rel c μ h) (hb : ∀ a ∈ l, c.base.get? a = none) (hm : ∀ a ∈ l, μ a = none) (hd : ∀ a ∈ l, ∃ o es n, h.get? a = some o ∧ o.data = .dict es n) : Rel c μ (hideAll h l) := by
  refine ⟨fun b o e => hideAll_get _ (r.base b o e) fun z => (by rw [hb b z] at e; cases e), fun a o e => ?_⟩
  obtain ⟨n, ob, e', ro⟩ := r.mem a o e
  refine ⟨n, ob, hideAll_get _ e' fun z => by (rw [hm a z] at e; cases e), ro.monoV fun b q eb rk => ⟨q.slots, hideAll_get _ eb fun z => ?_, fun _ => rfl⟩⟩
  obtain ⟨o', es, n', ho', hd'⟩ := hd b z
  rw [eb] at ho'; cases ho'
  rcases rk with ⟨_, _, _, q⟩ | ⟨_, _, q⟩ <;> (rw [hd'] at q; cases q)

/-- a call of a function of the text -/
theorem sc_intro (G : Good c sg) {f : String} {ps : List String} {body : List S} (D : Def c sg f ps body) {vs : List V} {ρ₀ : Loc} {μ : Mem} {Q : V → Mem → Prop} {X : String → Mem → Prop} (hb : bindAll ps vs (fun _ => none) = some ρ₀)
    (h : wpSs sg (SC c d) hd body ρ₀ μ (fun fl _ μ' => match fl with | .ret v => Q v μ' | .next => Q .none μ') (fun x _ μ' => X x μ')) : SC c (d + 1) hd f vs μ Q X := by
  obtain ⟨hlim, fa, o, fd, hfn, ho, hdata, hbody, hclo, hglob, hblt, hcd, hk, hco, hgen, hbind, hps, hok⟩ := D
  refine ⟨fa, hfn, fun A fs s rvs aok r hr => ?_⟩
  have hlen : rvs.length = ps.length := by rw [hr.length, bindAll_length hb]
  have room := aok.room
  have units := aok.units
  refine codeAny_call_function (by show A.depth < 1000; omega) (r.base _ _ ho) hdata hco hgen hbody (hcd.keeps r.base) ?_
  rw [hbind rvs hlen, hclo, hglob, hblt]
  refine wpAny_pure (wpAny_newFunctionEnv_cells hk (fun x hx => ?_) fun env he s₁ x => ?_)
  · obtain ⟨p, hp, e⟩ := List.mem_map.mp (List.of_mem_zip (a := x.1) (b := x.2) hx).1
    have := List.all_eq_true.mp hps p hp
    unfold isSto at this
    rw [← e]
    split at this
    · rename_i q; exact .inl q
    · rename_i q; exact .inr ⟨q, cellsFrom_has _ _ _ (.inl q)⟩
    · cases this
  subst he
  refine ⟨(hlim.keeps r.base).keeps x.toInCall.keep, codeAny_func ?_⟩
  obtain ⟨h₁, tk, rfl, _⟩ := x.done
  have keep := x.toInCall.keep
  have r₁ : Rel c μ h₁ := r.keeps keep
  have nL : s.heap.get? s.heap.objs.size = none := Heap.get?_none_of_le (Nat.le_refl _)
  have freeB : ∀ b, s.heap.get? b = none → c.base.get? b = none := fun b hb => by
    cases q : c.base.get? b with
    | none => rfl
    | some o => have := r.base b o q; rw [hb] at this; cases this
  have cellN : ∀ y ca, (cellsFrom (s.heap.objs.size + 1) fd.scope.names []).lookup y = some ca → s.heap.get? ca = none := fun y ca e =>
    Heap.get?_none_of_le (Nat.le_of_lt (x.above y ca (lookup_mem e)))
  obtain ⟨oL, esL, epL, hoL, hdL, rL⟩ := id x.toInCall.ns
  let env := newEnv fd.scope s.heap.objs.size mainGlobals (cellsFrom (s.heap.objs.size + 1) fd.scope.names []) (fd.qualname ++ ".<locals>.") (some fa) fd.code none builtinsNs
  have er : ER c env ρ₀ μ h₁ := by
    refine ⟨hk, rfl, rfl, r.free nL, freeB _ nL, fun y ca e => ?_, fun y z ca e1 e2 => apart_inj x.apart (lookup_mem e1) (lookup_mem e2), fun y hy => cellsFrom_has _ _ _ (.inl hy), _, x.toInCall.ns, fun y v e => ?_⟩
    · exact ⟨⟨_, x.cell y ca e⟩, r.free (cellN y ca e), freeB _ (cellN y ca e)⟩
    · have hr₁ : RVs c h₁ rvs vs := hr.mono r (.of_keeps fun b o e _ => keep b o e)
      have := binds_has (k := env.kindOf) (m := fun _ => none) (cm := fun _ => none) hr₁ hb (fun p hp => by
        have := List.all_eq_true.mp hps p hp
        exact sto this) (fun _ _ e => by cases e) y v e
      rcases this with ⟨h1, rv, h2, h3⟩ | ⟨h1, rv, h2, h3⟩
      · exact .inl ⟨h1, rv, h2, h3⟩
      · obtain ⟨ca, hca⟩ := Option.isSome_iff_exists.mp (cellsFrom_has (x := Str.ofString y) fd.scope.names (s.heap.objs.size + 1) [] (.inl h1))
        have hc := x.cell _ _ hca
        refine .inr ⟨.inl h1, ca, rv, hca, ?_, h3⟩
        rw [← h2]; exact hc
  have fnew : ∀ L ∈ frs fs, L ≠ s.heap.objs.size := fun L hL q => by
    obtain ⟨_, o, ho, _⟩ := aok.fun_.mem hL
    rw [q, nL] at ho; cases ho
  have frsE : frs (env :: fs) = s.heap.objs.size :: frs fs := rfl
  have aok' : AOK c d hd (A.deeper env) (env :: fs) μ h₁ := by
    refine ⟨?_, ?_, ?_, aok.handled, ?_, fun L hL => ?_, fun L hL => ?_⟩
    · show A.frames.map _ = _
      rw [aok.frames]; rfl
    · show A.depth + 1 + 3 * d < 900
      omega
    · show A.units + 3 + 100 * d + 200 < cLine
      omega
    · refine ⟨by show fd.scope.kind ≠ _; rw [hk]; nofun, ⟨s.heap.objs.size, oL, rfl, freeB _ nL, hoL, fun vs q => by rw [hdL] at q; cases q⟩, ?_⟩
      exact aok.fun_.of_keeps fun b o e _ => ⟨o, keep b o e, rfl⟩
    · rw [frsE] at hL
      rcases List.mem_cons.mp hL with rfl | hL
      · exact r.free nL
      · exact aok.priv L hL
    · rw [frsE] at hL
      rcases List.mem_cons.mp hL with rfl | hL
      · exact ⟨oL, _, _, hoL, hdL⟩
      · obtain ⟨o, es, n, ho, hd⟩ := aok.dicts L hL
        exact ⟨o, es, n, keep _ _ ho, hd⟩
  have S₁ : St c d hd (A.deeper env) (env :: fs) env ρ₀ μ { s with heap := h₁, toks := tk } := ⟨r₁, er, aok', by show A.depth + 1 + 3 * d + 2 < 900; omega, by show A.units + 3 + 100 * d + 250 < cLine; omega⟩
  have npv : ∀ b o, s.heap.get? b = some o → ¬ pv env b := by
    rintro b o e (q | ⟨y, q⟩)
    · rw [q] at e; rw [show s.heap.get? env.locals = none from nL] at e; cases e
    · rw [cellN y b q] at e; cases e
  have nfr : ∀ b o, s.heap.get? b = some o → b ∉ frs fs → b ∉ frs (env :: fs) := fun b o e hb hb' => by
    rw [frsE] at hb'
    rcases List.mem_cons.mp hb' with q | q
    · rw [q, nL] at e; cases e
    · exact hb q
  have kept₁ : ∀ {μ₂ : Mem} {s₂ : Shared}, StepS c (env :: fs) env μ μ₂ { s with heap := h₁, toks := tk } s₂ → ∀ b o, s.heap.get? b = some o → μ b = none → μ₂ b = none ∧ ∃ sl, s₂.heap.get? b = some { o with slots := sl } ∧ (b ∉ frs fs ∨ (∃ vs, o.data = .fields vs) → sl = o.slots) := fun st b o e hm => by
    obtain ⟨m', sl, e', q⟩ := st.kept b o (keep b o e) hm (npv b o e)
    exact ⟨m', sl, e', fun z => q (z.imp (fun z => nfr b o e z) id)⟩
  refine wpAny_mono (soundSs G body false hd _ (env :: fs) env ρ₀ μ _ _ _ hok ⟨fs, rfl, rfl⟩ h S₁) (fun fl s₂ ⟨fl', ρ₂, μ₂, st, S₂, hfl, q⟩ => ?_) fun re s' hx => ?_
  · have stp : Step c fs μ μ₂ s s₂ := ⟨st.gens, st.drawn, st.os, S₂.rel, kept₁ st⟩
    cases hfl with
    | next => exact ⟨.none, μ₂, stp, .none, q⟩
    | ret hv => exact ⟨_, μ₂, stp, hv, q⟩
  · obtain ⟨e, x', ρ₁, μ₁, μ', s₁, rfl, st, S', hfly, hq⟩ := hx
    have frE : (A.deeper env).frames = some (env :: fs) := aok'.frames
    rcases hfly with hfly | ⟨_, rfl, hg, hdr, hos, C, args, hC, hmade⟩
    · obtain ⟨B, C, a0, hC, hf, hrB, hB⟩ := hfly.there
      refine wpAny_leaves_onW frE rfl hf fun h' hf' up => ?_
      have hB' : ∀ b o, s.heap.get? b = some o → μ b = none → b ∉ frs fs → B.get? b = some o := fun b o e hm hb => by
        obtain ⟨m₁, sl, e₁, q⟩ := kept₁ st b o e hm
        rw [q (.inl hb)] at e₁
        exact hB b o e₁ m₁ (nfr b o e hb)
      refine ⟨e, x', μ', rfl, ⟨hfly.gens.trans st.gens, hfly.drawn.trans st.drawn, hfly.os.trans st.os, ⟨B, C, a0, hC, hf', hrB, hB'⟩, fun b o e hm => ?_⟩, hq⟩
      obtain ⟨m₁, sl, e₁, q₁⟩ := kept₁ st b o e hm
      obtain ⟨m₂, sl₂, e₂, q₂⟩ := hfly.kept b _ e₁ m₁
      refine ⟨m₂, ?_⟩
      by_cases hb : b ∈ frs fs
      · obtain ⟨_, o', ho', hd'⟩ := aok.fun_.mem hb
        rw [e] at ho'; cases ho'
        obtain ⟨sl₃, e₃⟩ := up b _ e₂ hd'
        exact ⟨sl₃, e₃, fun z => z.elim (fun z => (z hb).elim) fun ⟨vs, z⟩ => (hd' vs z).elim⟩
      · exact ⟨o.slots, hf'.1 _ _ (hB' b o e hm hb), fun _ => rfl⟩
    · have hrB : Rel c μ' (hideAll s₁.heap (frs (env :: fs))) := S'.rel.hide (fun a ha => (S'.aok.fun_.mem ha).1) S'.aok.priv S'.aok.dicts
      refine wpAny_leaves_madeW frE rfl (fun b o q => of_hideAll _ q) (funFrames_hide S'.aok.fun_ fun env' he b hb => List.mem_filterMap.mpr ⟨env', he, hb⟩) hmade fun h' t hf' _ _ up => ?_
      have hB' : ∀ b o, s.heap.get? b = some o → μ b = none → b ∉ frs fs → (hideAll s₁.heap (frs (env :: fs))).get? b = some o := fun b o e hm hb => by
        obtain ⟨m₁, sl, e₁, q⟩ := kept₁ st b o e hm
        rw [q (.inl hb)] at e₁
        exact hideAll_get _ e₁ (nfr b o e hb)
      refine ⟨e, x', μ', rfl, ⟨hg.trans st.gens, hdr.trans st.drawn, hos.trans st.os, ⟨_, C, _, hC, hf', hrB, hB'⟩, fun b o e hm => ?_⟩, hq⟩
      obtain ⟨m₁, sl, e₁, q₁⟩ := kept₁ st b o e hm
      refine ⟨m₁, ?_⟩
      by_cases hb : b ∈ frs fs
      · obtain ⟨_, o', ho', hd'⟩ := aok.fun_.mem hb
        rw [e] at ho'; cases ho'
        obtain ⟨sl₃, e₃⟩ := up b _ (hmade.keeps _ _ e₁) hd'
        exact ⟨sl₃, e₃, fun z => z.elim (fun z => (z hb).elim) fun ⟨vs, z⟩ => (hd' vs z).elim⟩
      · exact ⟨o.slots, hf'.1 _ _ (hB' b o e hm hb), fun _ => rfl⟩
end
end Mine

set_option autoImplicit false
namespace Mine
set_option linter.unusedVariables false
set_option linter.unusedSimpArgs false
open PySem PySem.W PySem.Calls PyProof.Rows

noncomputable def fdOf (K : Frag) (fa : Addr) : Option FuncData := match K.lookup fa with
  | some o => (match o.data with | .func fd => some fd | _ => none)
  | none => none

theorem def_of {c : Ctx} {sg : Sig} {f : String} {ps : List String} {body : List S} {fa : Addr} (hK : c.K.In c.base) (hl : c.base.NoLimit) (hf : c.fn f = some fa)
    (h1 : (fdOf c.K fa).map (fun fd => fd.body) = some (.stmts (toSs body)))
    (h2 : (fdOf c.K fa).map (fun fd => (fd.closure, fd.globals, fd.builtins, fd.scope.kind, fd.scope.isCoroutine, fd.scope.isGenerator)) = some ([], mainGlobals, builtinsNs, .function, false, false))
    (h3 : (fdOf c.K fa).map (fun fd => codeIn c.K fd.code fd.qualname && ((ps.all fun p => isSto (fd.scope.names.lookup (Str.ofString p))) && okSs sg false fd.scope.names body)) = some true)
    (h5 : ∀ rvs : List Value, rvs.length = ps.length → (fdOf c.K fa).map (fun fd => bindArgs fd ⟨rvs, []⟩) = some (pure ((ps.map Str.ofString).zip rvs))) : Def c sg f ps body := by
  cases e : fdOf c.K fa with
  | none => rw [e] at h1; cases h1
  | some fd =>
    rw [e] at h1 h2 h3 h5
    simp only [Option.map_some, Option.some.injEq, Prod.mk.injEq, Bool.and_eq_true] at h1 h2 h3 h5
    unfold fdOf at e
    split at e
    · rename_i o ho
      split at e
      · rename_i fd' hd
        cases e
        exact ⟨hl, fa, o, fd, hf, hK _ _ ho, hd, h1, h2.1, h2.2.1, h2.2.2.1, codeRec_of hK h3.1, h2.2.2.2.1, h2.2.2.2.2.1, h2.2.2.2.2.2, h5, h3.2.1, h3.2.2⟩
      · cases e
    · cases e

theorem len1 {P : List Value → Prop} (h : ∀ a, P [a]) : ∀ l : List Value, l.length = 1 → P l := fun l e => by
  obtain ⟨a, rfl⟩ := List.length_eq_one_iff.mp e; exact h a
theorem lenS {n : Nat} {P : List Value → Prop} (h : ∀ a, ∀ l : List Value, l.length = n → P (a :: l)) : ∀ l : List Value, l.length = n + 1 → P l := fun l e => by
  cases l with
  | nil => cases e
  | cons a l => exact h a l (Nat.succ.inj e)
theorem len2 {P : List Value → Prop} (h : ∀ a b, P [a, b]) : ∀ l : List Value, l.length = 2 → P l := lenS fun a => len1 (h a)
theorem len3 {P : List Value → Prop} (h : ∀ a b c, P [a, b, c]) : ∀ l : List Value, l.length = 3 → P l := lenS fun a => len2 (h a)
theorem len4 {P : List Value → Prop} (h : ∀ a b c d, P [a, b, c, d]) : ∀ l : List Value, l.length = 4 → P l := lenS fun a => len3 (h a)
theorem len5 {P : List Value → Prop} (h : ∀ a b c d e, P [a, b, c, d, e]) : ∀ l : List Value, l.length = 5 → P l := lenS fun a => len4 (h a)
theorem forall_lookup {α β : Type} [BEq α] [LawfulBEq α] {P : α → β → Prop} {tab : List (α × β)} (h : ∀ p ∈ tab, P p.1 p.2) : ∀ x v, tab.lookup x = some v → P x v := fun x v e => h (x, v) (lookup_mem e)

noncomputable def chkCls (K : Frag) (C : Addr) : Bool := findIn K (.ref C) "__getattribute__" == some (some (.builtin "object.__getattribute__")) && findIn K (.ref C) "__getattr__" == some none &&
  findIn K (.ref C) "__setattr__" == some (some (.builtin "object.__setattr__")) && hasDictIn K C && plainOver K C
noncomputable def chkMeth (K : Frag) (clsT fnT : List (String × Addr)) (p : String × String) : Bool := match clsT.lookup p.1, fnT.lookup (p.1 ++ "." ++ p.2) with
  | some C, some f => findIn K (.ref C) (Str.ofString p.2) == some (some (.ref f)) && typeIn K (.ref f) == some (.type "function") && keepIn K (.ref f)
  | _, _ => false
noncomputable def chkFn (K : Frag) (fnT : List (String × Addr)) (f : String) : Bool := match fnT.lookup f with
  | some fa => nsIn K mainGlobals (Str.ofString f) == some (some (.ref fa)) && keepIn K (.ref fa)
  | none => false
noncomputable def chkNew (K : Frag) (clsT fnT : List (String × Addr)) (x : String) : Bool := match clsT.lookup x, fnT.lookup (x ++ ".__init__") with
  | some C, some fI => nsIn K mainGlobals (Str.ofString x) == some (some (.ref C)) && makesIn K C && keepIn K (.ref C) && findIn K (.ref C) "__init__" == some (some (.ref fI)) && typeIn K (.ref fI) == some (.type "function")
  | _, _ => false
noncomputable def chkConst (K : Frag) (p : String × V) : Bool := match p.2, nsIn K mainGlobals (Str.ofString p.1) with
  | .int i, some (some (.int j _)) => i == j
  | _, _ => false
noncomputable def chkExc (K : Frag) (C : Addr) : Bool := (clsIn K C).isSome && findIn K (.ref C) "__getattribute__" == some (some (.builtin "BaseException.__getattribute__")) && findIn K (.ref C) "__getattr__" == some none &&
  findIn K (.ref C) "__class__" == some (some (.builtin "object.__class__")) && specialIn K (.builtin "object.__class__") "__get__" == some (some (.builtin "getset_descriptor.__get__")) && takesIn K (.builtin "object.__class__") == some true &&
  mroIn K C (.type "object") == some true && mroIn K C (.type "BaseException") == some true && kitOne K (.ref C) (.type "ValueError") == some true
noncomputable def chkGood (K : Frag) (sg : Sig) (clsT excT fnT : List (String × Addr)) : Bool :=
  (clsT.all fun p => chkCls K p.2) && (clsT.all fun p => sg.attrs.all fun a => findIn K (.ref p.2) (Str.ofString a) == some none) && (sg.meths.all (chkMeth K clsT fnT)) && (sg.fns.all (chkFn K fnT)) && (sg.clss.all (chkNew K clsT fnT)) &&
  (("isinstance" :: bltNames ++ tyNames).all fun f => nsIn K mainGlobals (Str.ofString f) == some none) && (excT.all fun p => nsIn K mainGlobals (Str.ofString p.1) == some (some (.ref p.2)) && excIn K p.2 vErr "ValueError.__new__") &&
  (sg.excs.all fun x => (excT.lookup x).isSome) && (excT.all fun p => excT.all fun q => exmOne K (.ref p.2) (.ref q.2) == some (isSub p.1 q.1)) && (excT.all fun p => chkExc K p.2) && (excT.all fun p => excT.all fun q => kitOne K (.ref p.2) (.ref q.2) == some (isSub p.1 q.1)) && (sg.consts.all (chkConst K))

noncomputable def ctxOf (prog : Program) (w : World) (K : Frag) (base : Heap) (clsT excT fnT : List (String × Addr)) : Ctx := ⟨prog, w, K, base, fun x => clsT.lookup x, fun x => excT.lookup x, fun x => fnT.lookup x⟩

theorem good_of {prog : Program} {w : World} {K : Frag} {base : Heap} {sg : Sig} {clsT excT fnT : List (String × Addr)} {p : Program} {loose : List Str} {mg mb : Str → Option Value} (X : K.In base) (T : TopRead p loose mg mb base) (h : chkGood K sg clsT excT fnT = true) :
    Good (ctxOf prog w K base clsT excT fnT) sg := by
  unfold chkGood at h
  simp only [Bool.and_eq_true, List.all_eq_true] at h
  obtain ⟨⟨⟨⟨⟨⟨⟨⟨⟨⟨⟨h1, h2⟩, h3⟩, h4⟩, h5⟩, h6⟩, h7⟩, h8⟩, h9⟩, h11⟩, h12⟩, h10⟩ := h
  refine ⟨X, ⟨p, loose, mg, mb, T⟩, forall_lookup fun q hq => ?_, fun x C a hx ha => ?_, fun x C m hx hm => ?_, fun f hf => ?_, fun x hx => ?_, fun f hf => ?_, forall_lookup fun q hq => ?_, fun x hx => ?_, fun x y C D hx hy => ?_, forall_lookup fun q hq => ?_, fun x y C D hx hy => ?_, fun x v hx => ?_⟩
  · have := h1 q hq
    simp only [chkCls, Bool.and_eq_true, beq_iff_eq] at this
    exact ⟨this.1.1.1.1, this.1.1.1.2, this.1.1.2, this.1.2, this.2⟩
  · exact beq_iff_eq.mp (h2 _ (lookup_mem hx) a ha)
  · have := h3 _ hm
    unfold chkMeth at this
    split at this
    · rename_i C' f e1 e2
      simp only [Bool.and_eq_true, beq_iff_eq] at this
      have hx' : clsT.lookup x = some C := hx
      rw [hx'] at e1; cases e1
      exact ⟨f, e2, this.1.1, this.1.2, this.2⟩
    · cases this
  · have := h4 f hf
    unfold chkFn at this
    split at this
    · rename_i fa e
      simp only [Bool.and_eq_true, beq_iff_eq] at this
      exact ⟨fa, e, this.1, this.2⟩
    · cases this
  · have := h5 x hx
    unfold chkNew at this
    split at this
    · rename_i C fI e1 e2
      simp only [Bool.and_eq_true, beq_iff_eq] at this
      exact ⟨C, fI, e1, this.1.1.1.1, this.1.1.1.2, this.1.1.2, e2, this.1.2, this.2⟩
    · cases this
  · exact beq_iff_eq.mp (h6 f hf)
  · have := h7 q hq
    simp only [Bool.and_eq_true, beq_iff_eq] at this
    exact this
  · exact Option.isSome_iff_exists.mp (h8 x hx)
  · exact beq_iff_eq.mp (h9 _ (lookup_mem hx) _ (lookup_mem hy))
  · have := h11 q hq
    simp only [chkExc, Bool.and_eq_true, beq_iff_eq] at this
    exact ⟨⟨this.1.1.1.1.1.1.1.1, this.1.1.1.1.1.1.1.2, this.1.1.1.1.1.1.2, this.1.1.1.1.1.2, this.1.1.1.1.2, this.1.1.1.2, this.1.1.2, this.1.2⟩, this.2⟩
  · exact beq_iff_eq.mp (h12 _ (lookup_mem hx) _ (lookup_mem hy))
  · have := h10 _ (lookup_mem hx)
    unfold chkConst at this
    split at this
    · rename_i i j t e1 e2
      have e1' : v = V.int i := e1
      subst e1'
      have := beq_iff_eq.mp this
      subst this
      exact ⟨_, e2, fun h => .int _ _⟩
    · cases this
end Mine

set_option autoImplicit false
namespace Mine
set_option linter.unusedVariables false
set_option linter.unusedSimpArgs false
open PySem PySem.W PySem.Calls PyProof.Rows

theorem top_sound {c : Ctx} {s₁ : Shared} {d : Nat} {fa l : Addr} {vs : List Value} {ns : List Int} {R : Result → Shared → Prop} (hb : c.base = s₁.heap) (hd : d ≤ 60) (hfn : c.fn "law" = some fa) (hL : s₁.heap.IsList l vs.toArray) (hI : IntsAre vs ns) (hn : ns.length ≤ lim)
    (h : SC c d false "law" [.frz ns] (fun _ => none) (fun v _ => v = .bool true) (fun _ _ => False))
    (hR : ∀ s', (∀ b o, s₁.heap.get? b = some o → s'.heap.get? b = some o) → s'.os = s₁.os → s'.gens = s₁.gens → R (.ok (.ret (.bool true))) s') :
    codeAny (model c.prog c.w) callerA (.call (.ref fa) ⟨[.ref l], []⟩) R s₁ := by
  obtain ⟨fa', hfn', h⟩ := h
  rw [hfn] at hfn'; cases hfn'
  obtain ⟨o, ho, hc, n, hdt⟩ := hL
  have aok : AOK c d false callerA [] (fun _ => none) s₁.heap := ⟨rfl, by show 1 + 300 + 3 * d < 900; omega, by show 4 + 100 * d + 200 < 9900; omega, fun _ => rfl, trivial, nofun, nofun⟩
  refine codeAny_mono (h callerA [] s₁ [.ref l] aok ⟨fun b o e => by rw [← hb]; exact e, nofun⟩ (.cons (.frz (by rw [hb]; exact ho) hc hdt (by simpa using hI) hn) .nil)) fun r s' hr => ?_
  rcases r with re | (_ | _ | _ | v)
  · obtain ⟨_, _, _, _, _, f⟩ := hr; exact f.elim
  · exact hr.elim
  · exact hr.elim
  · exact hr.elim
  · obtain ⟨v', μ', st, hv, rfl⟩ := hr
    cases hv
    refine hR s' (fun b o e => ?_) st.os st.gens
    exact st.kept.exact e rfl (by simp [frs])
end Mine

set_option autoImplicit false
namespace Mine
set_option linter.unusedVariables false
set_option linter.unusedSimpArgs false
open PySem

theorem sc_up {c : Ctx} {d d' : Nat} {hd : Bool} {f : String} {vs : List V} {μ : Mem} {Q : V → Mem → Prop} {X : String → Mem → Prop} (h : SC c d hd f vs μ Q X) (hdd : d ≤ d') : SC c d' hd f vs μ Q X := by
  obtain ⟨fa, hf, h⟩ := h
  refine ⟨fa, hf, fun A fs s rvs aok => h A fs s rvs ⟨aok.frames, ?_, ?_, aok.handled, aok.fun_, aok.priv, aok.dicts⟩⟩
  · have := aok.room; omega
  · have := aok.units; omega

noncomputable def fq (Q : V → Mem → Prop) : Fl → Loc → Mem → Prop := fun fl _ μ' => match fl with | .ret v => Q v μ' | .next => Q .none μ'
theorem fq_next {Q : V → Mem → Prop} {ρ : Loc} {μ : Mem} (h : Q .none μ) : fq Q .next ρ μ := h
theorem sq_next {R : Loc → Mem → Prop} {Q : Fl → Loc → Mem → Prop} {ρ : Loc} {μ : Mem} (h : R ρ μ) : sq R Q .next ρ μ := h
/-! What follows a step is a word of its own (no binder), so that the proofs' terms are shared. -/
noncomputable def xW (X : String → Loc → Mem → Prop) (ρ : Loc) : String → Mem → Prop := fun x μ => X x ρ μ
noncomputable def fx (X : String → Mem → Prop) : String → Loc → Mem → Prop := fun x _ μ => X x μ
theorem call_in {c : Ctx} {sg : Sig} {d : Nat} {hd : Bool} (G : Good c sg) {f : String} {ps : List String} {body : List S} (D : Def c sg f ps body) {vs : List V} {ρ₀ : Loc} {μ : Mem} {Q : V → Mem → Prop} {X : String → Mem → Prop} (hb : bindAll ps vs (fun _ => none) = some ρ₀)
    (h : wpSs sg (SC c d) hd body ρ₀ μ (fq Q) (fx X)) : SC c (d + 1) hd f vs μ Q X := sc_intro G D hb h

noncomputable def setA (k : Mem → Prop) (a : String) (v w : V) (μ : Mem) : Prop := match w with
  | .ref x => (match μ x with
    | some (.inst _ d) => (match μ d with
      | some (.attrs fs) => fs.length < 900 ∧ k (updM μ d (.attrs (putA a v fs)))
      | _ => False)
    | _ => False)
  | _ => False
theorem setA_in {k : Mem → Prop} {μ : Mem} {x d : Addr} {cl : String} {fs : List (String × V)} {a : String} {v : V} (hx : μ x = some (.inst cl d)) (hd : μ d = some (.attrs fs)) (hz : fs.length < 900) (h : k (updM μ d (.attrs (putA a v fs)))) : setA k a v (.ref x) μ := by
  unfold setA; simp only [hx, hd]; exact ⟨hz, h⟩
noncomputable def setI (k : Mem → Prop) (v w j : V) (μ : Mem) : Prop := match w, j with
  | .ref x, .int i => (match μ x with
    | some (.list l) => 0 ≤ i ∧ i < l.length ∧ k (updM μ x (.list (l.set i.toNat v)))
    | _ => False)
  | _, _ => False
theorem setI_in {k : Mem → Prop} {μ : Mem} {x : Addr} {i : Int} {l : List V} {v : V} (hx : μ x = some (.list l)) (h0 : 0 ≤ i) (h1 : i < l.length) (h : k (updM μ x (.list (l.set i.toNat v)))) : setI k v (.ref x) (.int i) μ := by
  unfold setI; simp only [hx]; exact ⟨h0, h1, h⟩
noncomputable def lstK (Q : V → Mem → Prop) (m : String) (a : Addr) (vs : List V) (μ : Mem) : Prop := lstW m a vs μ Q
noncomputable def ownK (sc : Bool → Sc) (hd : Bool) (X : String → Mem → Prop) (Q : V → Mem → Prop) (f : String) (x : Addr) (vs : List V) (μ : Mem) : Prop := sc hd f (.ref x :: vs) μ Q X
noncomputable def methW (sg : Sig) (sc : Bool → Sc) (hd : Bool) (X : String → Mem → Prop) (ρ : Loc) (Q : V → Mem → Prop) (es : List E) (m : String) (v : V) (μ : Mem) : Prop := match calO sg μ v m with
  | some (.own f a) => wpEs sg sc hd es ρ μ (fun vs μ₂ => sc hd f (.ref a :: vs) μ₂ Q X) X
  | some (.lst m a) => wpEs sg sc hd es ρ μ (fun vs μ₂ => lstW m a vs μ₂ Q) X
  | none => False
theorem meth_own {sg : Sig} {sc : Bool → Sc} {hd : Bool} {X : String → Mem → Prop} {ρ : Loc} {μ : Mem} {Q : V → Mem → Prop} {es : List E} {x d : Addr} {cl m : String} (f : String) {fs : List (String × V)} (hx : μ x = some (.inst cl d)) (hd' : μ d = some (.attrs fs)) (hn : fs.lookup m = none) (hm : sg.meths.contains (cl, m) = true) (hf : cl ++ "." ++ m = f)
    (h : wpEs sg sc hd es ρ μ (ownK sc hd X Q f x) X) : methW sg sc hd X ρ Q es m (.ref x) μ := by
  subst hf; unfold methW calO; simp only [hx, hd', hn, hm, Option.isNone_none, Bool.and_self, if_true]; exact h
theorem meth_lst {sg : Sig} {sc : Bool → Sc} {hd : Bool} {X : String → Mem → Prop} {ρ : Loc} {μ : Mem} {Q : V → Mem → Prop} {es : List E} {x : Addr} {m : String} {l : List V} (hx : μ x = some (.list l)) (hm : m = "append" ∨ m = "extend" ∨ m = "count")
    (h : wpEs sg sc hd es ρ μ (lstK Q m x) X) : methW sg sc hd X ρ Q es m (.ref x) μ := by
  unfold methW calO; simp only [hx, hm, if_true]; exact h
theorem k_own {sc : Bool → Sc} {hd : Bool} {X : String → Mem → Prop} {Q : V → Mem → Prop} {f : String} {x : Addr} {vs : List V} {μ : Mem} (h : sc hd f (.ref x :: vs) μ Q X) : ownK sc hd X Q f x vs μ := h
noncomputable def isiW (Q : V → Mem → Prop) (c : Cl) (v : V) (μ : Mem) : Prop := match isiO μ v c with | some b => Q (.bool b) μ | none => False
theorem isi_in {μ : Mem} {Q : V → Mem → Prop} {cl : Cl} {v : V} {b : Bool} (e : isiO μ v cl = some b) (h : Q (.bool b) μ) : isiW Q cl v μ := by unfold isiW; rw [e]; exact h
theorem isi_t {μ : Mem} {Q : V → Mem → Prop} {cl : Cl} {v : V} (e : isiO μ v cl = some true) (h : Q (.bool true) μ) : isiW Q cl v μ := isi_in e h
theorem isi_f {μ : Mem} {Q : V → Mem → Prop} {cl : Cl} {v : V} (e : isiO μ v cl = some false) (h : Q (.bool false) μ) : isiW Q cl v μ := isi_in e h

section
variable (sg : Sig) (sc : Bool → Sc) (hd : Bool) (X : String → Mem → Prop) (ρ : Loc) (Q : V → Mem → Prop)
noncomputable def binK (op : Operator) (a b : V) (μ : Mem) : Prop := binW op a b μ Q
noncomputable def bin1 (op : Operator) (r : E) (a : V) (μ : Mem) : Prop := wpE sg sc hd r ρ μ (binK Q op a) X
noncomputable def negK (v : V) (μ : Mem) : Prop := asInt v fun i => Q (.int (-i)) μ
noncomputable def notK (v : V) (μ : Mem) : Prop := tr v fun b => Q (.bool (!b)) μ
noncomputable def andK (es : List E) (v : V) (μ : Mem) : Prop := tr v fun b => br b (wpAnd sg sc hd es ρ μ Q X) (Q v μ)
noncomputable def orK (es : List E) (v : V) (μ : Mem) : Prop := tr v fun b => br b (Q v μ) (wpOr sg sc hd es ρ μ Q X)
noncomputable def cmpK (op : CmpOp) (a b : V) (μ : Mem) : Prop := cmpW op μ a b Q
noncomputable def cmp1 (op : CmpOp) (r : E) (a : V) (μ : Mem) : Prop := wpE sg sc hd r ρ μ (cmpK Q op a) X
noncomputable def c2c (op : CmpOp) (e : E) (b t : V) (μ : Mem) : Prop := tr t fun y => br y (wpE sg sc hd e ρ μ (cmpK Q op b) X) (Q t μ)
noncomputable def c2b (o₁ o₂ : CmpOp) (e : E) (a b : V) (μ : Mem) : Prop := cmpK (c2c sg sc hd X ρ Q o₂ e b) o₁ a b μ
noncomputable def c2a (o₁ o₂ : CmpOp) (b e : E) (a : V) (μ : Mem) : Prop := wpE sg sc hd b ρ μ (c2b sg sc hd X ρ Q o₁ o₂ e a) X
noncomputable def attrK (a : String) (v : V) (μ : Mem) : Prop := optW (getA μ v a) μ Q
noncomputable def subK (v j : V) (μ : Mem) : Prop := optW (subO μ v j) μ Q
noncomputable def sub1 (i : E) (v : V) (μ : Mem) : Prop := wpE sg sc hd i ρ μ (subK Q v) X
noncomputable def slL (v i : V) (μ : Mem) : Prop := asInt i fun i => sliceW μ v (some i) none Q
noncomputable def slL1 (l : E) (v : V) (μ : Mem) : Prop := wpE sg sc hd l ρ μ (slL Q v) X
noncomputable def slU (v i : V) (μ : Mem) : Prop := asInt i fun i => sliceW μ v none (some i) Q
noncomputable def slU1 (l : E) (v : V) (μ : Mem) : Prop := wpE sg sc hd l ρ μ (slU Q v) X
noncomputable def tupK (vs : List V) (μ : Mem) : Prop := Q (.tup vs) μ
noncomputable def listK (vs : List V) (μ : Mem) : Prop := newL μ vs Q
noncomputable def callK (f : String) (vs : List V) (μ : Mem) : Prop := sc hd f vs μ Q X
noncomputable def bltnK (f : String) (vs : List V) (μ : Mem) : Prop := bltnW hd f vs μ Q
noncomputable def newW (c : String) (vs : List V) (μ : Mem) : Prop := ∀ a d, μ a = none → μ d = none → d ≠ a →
      sc hd (c ++ ".__init__") (.ref a :: vs) (updM (updM μ d (.attrs [])) a (.inst c d)) (fun v μ₂ => (match v with | .none => True | _ => False) ∧ Q (.ref a) μ₂) X
noncomputable def dsubK (v j : V) (μ : Mem) : Prop := asD μ v fun _ _ l => asInt j fun k => optW (l.lookup k) μ Q
noncomputable def dsub1 (i : E) (v : V) (μ : Mem) : Prop := wpE sg sc hd i ρ μ (dsubK Q v) X
noncomputable def unK (k : Un) (v : V) (μ : Mem) : Prop := unW hd k v μ Q
noncomputable def consK (Q : List V → Mem → Prop) (v : V) (vs : List V) (μ : Mem) : Prop := Q (v :: vs) μ
noncomputable def es1 (Q : List V → Mem → Prop) (es : List E) (v : V) (μ : Mem) : Prop := wpEs sg sc hd es ρ μ (consK Q v) X
end

section
variable {sg : Sig} {sc : Bool → Sc} {hd : Bool} {X : String → Mem → Prop} {ρ : Loc} {μ : Mem} {Q : V → Mem → Prop}
theorem e_none {p : Pos} (h : Q .none μ) : wpE sg sc hd (.none p) ρ μ Q X := h
theorem e_bool {b : Bool} {p : Pos} (h : Q (.bool b) μ) : wpE sg sc hd (.bool b p) ρ μ Q X := h
theorem e_int {i : Int} {p : Pos} (h : Q (.int i) μ) : wpE sg sc hd (.int i p) ρ μ Q X := h
theorem e_str {x : String} {p : Pos} (h : Q (.str (Str.ofString x)) μ) : wpE sg sc hd (.str x p) ρ μ Q X := h
theorem e_loc {x : String} {v : V} {p : Pos} (e : ρ x = some v) (h : Q v μ) : wpE sg sc hd (.loc x p) ρ μ Q X := by show optW (ρ x) μ Q; rw [e]; exact h
theorem e_here {x : String} {v : V} {p : Pos} (h : Q v μ) : wpE sg sc hd (.loc x p) (updL ρ x v) μ Q X := e_loc (by simp [updL]) h
theorem e_glob {x : String} {v : V} {p : Pos} (e : sg.consts.lookup x = some v) (h : Q v μ) : wpE sg sc hd (.glob x p) ρ μ Q X := by show optW (sg.consts.lookup x) μ Q; rw [e]; exact h
theorem e_bin {op : Operator} {l r : E} {p : Pos} (h : wpE sg sc hd l ρ μ (bin1 sg sc hd X ρ Q op r) X) : wpE sg sc hd (.bin op l r p) ρ μ Q X := h
theorem k_bin {op : Operator} {r : E} {a : V} (h : wpE sg sc hd r ρ μ (binK Q op a) X) : bin1 sg sc hd X ρ Q op r a μ := h
theorem e_neg {e : E} {p : Pos} (h : wpE sg sc hd e ρ μ (negK Q) X) : wpE sg sc hd (.neg e p) ρ μ Q X := h
theorem k_neg {i : Int} (h : Q (.int (-i)) μ) : negK Q (.int i) μ := h
theorem e_not {e : E} {p : Pos} (h : wpE sg sc hd e ρ μ (notK Q) X) : wpE sg sc hd (.not e p) ρ μ Q X := h
theorem k_not {b : Bool} (h : Q (.bool (!b)) μ) : notK Q (.bool b) μ := h
theorem e_and {es : List E} {p : Pos} (h : wpAnd sg sc hd es ρ μ Q X) : wpE sg sc hd (.and es p) ρ μ Q X := h
theorem e_or {es : List E} {p : Pos} (h : wpOr sg sc hd es ρ μ Q X) : wpE sg sc hd (.or es p) ρ μ Q X := h
theorem a_one {e : E} (h : wpE sg sc hd e ρ μ Q X) : wpAnd sg sc hd [e] ρ μ Q X := h
theorem a_cons {e e' : E} {es : List E} (h : wpE sg sc hd e ρ μ (andK sg sc hd X ρ Q (e' :: es)) X) : wpAnd sg sc hd (e :: e' :: es) ρ μ Q X := h
theorem k_and {es : List E} {b : Bool} (h : br b (wpAnd sg sc hd es ρ μ Q X) (Q (.bool b) μ)) : andK sg sc hd X ρ Q es (.bool b) μ := h
theorem o_one {e : E} (h : wpE sg sc hd e ρ μ Q X) : wpOr sg sc hd [e] ρ μ Q X := h
theorem o_cons {e e' : E} {es : List E} (h : wpE sg sc hd e ρ μ (orK sg sc hd X ρ Q (e' :: es)) X) : wpOr sg sc hd (e :: e' :: es) ρ μ Q X := h
theorem k_or {es : List E} {b : Bool} (h : br b (Q (.bool b) μ) (wpOr sg sc hd es ρ μ Q X)) : orK sg sc hd X ρ Q es (.bool b) μ := h
theorem e_cmp {op : CmpOp} {l r : E} {p : Pos} (h : wpE sg sc hd l ρ μ (cmp1 sg sc hd X ρ Q op r) X) : wpE sg sc hd (.cmp op l r p) ρ μ Q X := h
theorem k_cmp {op : CmpOp} {r : E} {a : V} (h : wpE sg sc hd r ρ μ (cmpK Q op a) X) : cmp1 sg sc hd X ρ Q op r a μ := h
theorem e_cmp2 {o₁ o₂ : CmpOp} {a b e : E} {p : Pos} (h : wpE sg sc hd a ρ μ (c2a sg sc hd X ρ Q o₁ o₂ b e) X) : wpE sg sc hd (.cmp2 o₁ o₂ a b e p) ρ μ Q X := h
theorem k_c2a {o₁ o₂ : CmpOp} {b e : E} {a : V} (h : wpE sg sc hd b ρ μ (c2b sg sc hd X ρ Q o₁ o₂ e a) X) : c2a sg sc hd X ρ Q o₁ o₂ b e a μ := h
theorem k_c2b {o₁ o₂ : CmpOp} {e : E} {a b : V} (h : cmpK (c2c sg sc hd X ρ Q o₂ e b) o₁ a b μ) : c2b sg sc hd X ρ Q o₁ o₂ e a b μ := h
theorem k_c2c {op : CmpOp} {e : E} {b : V} {y : Bool} (h : br y (wpE sg sc hd e ρ μ (cmpK Q op b) X) (Q (.bool y) μ)) : c2c sg sc hd X ρ Q op e b (.bool y) μ := h
theorem e_attr {o : E} {a : String} {p : Pos} (h : wpE sg sc hd o ρ μ (attrK Q a) X) : wpE sg sc hd (.attr o a p) ρ μ Q X := h
theorem e_sub {o i : E} {p : Pos} (h : wpE sg sc hd o ρ μ (sub1 sg sc hd X ρ Q i) X) : wpE sg sc hd (.sub o i p) ρ μ Q X := h
theorem k_sub {i : E} {v : V} (h : wpE sg sc hd i ρ μ (subK Q v) X) : sub1 sg sc hd X ρ Q i v μ := h
theorem e_sliceL {o l : E} {ps p : Pos} (h : wpE sg sc hd o ρ μ (slL1 sg sc hd X ρ Q l) X) : wpE sg sc hd (.sliceL o l ps p) ρ μ Q X := h
theorem k_slL1 {l : E} {v : V} (h : wpE sg sc hd l ρ μ (slL Q v) X) : slL1 sg sc hd X ρ Q l v μ := h
theorem k_slL {v : V} {i : Int} (h : sliceW μ v (some i) none Q) : slL Q v (.int i) μ := h
theorem e_sliceU {o l : E} {ps p : Pos} (h : wpE sg sc hd o ρ μ (slU1 sg sc hd X ρ Q l) X) : wpE sg sc hd (.sliceU o l ps p) ρ μ Q X := h
theorem k_slU1 {l : E} {v : V} (h : wpE sg sc hd l ρ μ (slU Q v) X) : slU1 sg sc hd X ρ Q l v μ := h
theorem k_slU {v : V} {i : Int} (h : sliceW μ v none (some i) Q) : slU Q v (.int i) μ := h
theorem e_tup {es : List E} {k : Nat} {p : Pos} (h : wpEs sg sc hd es ρ μ (tupK Q) X) : wpE sg sc hd (.tup es k p) ρ μ Q X := h
theorem k_tup {vs : List V} (h : Q (.tup vs) μ) : tupK Q vs μ := h
theorem e_list {es : List E} {p : Pos} (h : wpEs sg sc hd es ρ μ (listK Q) X) : wpE sg sc hd (.list es p) ρ μ Q X := h
theorem k_list {vs : List V} (h : newL μ vs Q) : listK Q vs μ := h
theorem e_call {f : String} {es : List E} {pf p : Pos} (h : wpEs sg sc hd es ρ μ (callK sc hd X Q f) X) : wpE sg sc hd (.call f es pf p) ρ μ Q X := h
theorem k_call {f : String} {vs : List V} (h : sc hd f vs μ Q X) : callK sc hd X Q f vs μ := h
theorem e_new {f : String} {es : List E} {pf p : Pos} (h : wpEs sg sc hd es ρ μ (newW sc hd X Q f) X) : wpE sg sc hd (.new f es pf p) ρ μ Q X := h
theorem e_bltn {f : String} {es : List E} {pf p : Pos} (h : wpEs sg sc hd es ρ μ (bltnK hd Q f) X) : wpE sg sc hd (.bltn f es pf p) ρ μ Q X := h
theorem k_bltn {f : String} {vs : List V} (h : bltnW hd f vs μ Q) : bltnK hd Q f vs μ := h
theorem e_isi {e : E} {cl : Cl} {pf pc p : Pos} (h : wpE sg sc hd e ρ μ (isiW Q cl) X) : wpE sg sc hd (.isi e cl pf pc p) ρ μ Q X := h
theorem e_meth {o : E} {m : String} {es : List E} {pa p : Pos} (h : wpE sg sc hd o ρ μ (methW sg sc hd X ρ Q es m) X) : wpE sg sc hd (.meth o m es pa p) ρ μ Q X := h
theorem e_dnew {p : Pos} (h : ∀ n ep, μ n = none → n ≠ 1 → Q (.ref n) (updM μ n (.dict ep []))) : wpE sg sc hd (.dnew p) ρ μ Q X := h
theorem e_dkeys {x : String} {p : Pos} {a : Addr} {ep : Nat} {l : List (Int × V)} (e : ρ x = some (.ref a)) (hx : μ a = some (.dict ep l)) (h : Q (.dk a ep (l.map (·.1))) μ) : wpE sg sc hd (.dkeys x p) ρ μ Q X := by
  show optW (ρ x) μ fun v μ₁ => asD μ₁ v fun a ep l => Q (.dk a ep (l.map (·.1))) μ₁
  rw [e]
  show asD μ (.ref a) fun a ep l => Q (.dk a ep (l.map (·.1))) μ
  unfold asD
  simp only [hx]
  exact h
theorem e_dsub {o i : E} {p : Pos} (h : wpE sg sc hd o ρ μ (dsub1 sg sc hd X ρ Q i) X) : wpE sg sc hd (.dsub o i p) ρ μ Q X := h
theorem k_dsub {i : E} {v : V} (h : wpE sg sc hd i ρ μ (dsubK Q v) X) : dsub1 sg sc hd X ρ Q i v μ := h
theorem dsub_in {x : Addr} {ep : Nat} {l : List (Int × V)} {k : Int} {v : V} (hx : μ x = some (.dict ep l)) (hv : l.lookup k = some v) (h : Q v μ) : dsubK Q (.ref x) (.int k) μ := by
  unfold dsubK asD
  simp only [hx]
  show optW (l.lookup k) μ Q
  rw [hv]; exact h
theorem e_un {k : Un} {e : E} {p1 p2 p3 p : Pos} (h : wpE sg sc hd e ρ μ (unK hd Q k) X) : wpE sg sc hd (.un k e p1 p2 p3 p) ρ μ Q X := h
theorem items_in {x : Addr} {ep : Nat} {l : List (Int × V)} (h0 : hd = false) (hx : μ x = some (.dict ep l)) (h1 : x ≠ 1) (h : newL μ (pairs l) Q) : unK hd Q .items (.ref x) μ := by
  refine ⟨h0, ?_⟩
  unfold asD
  simp only [hx]
  exact ⟨h1, h⟩
theorem lenset_in {x : Addr} {ns : List Int} (h0 : hd = false) (hx : μ x = some (.list (ns.map V.int))) (hn : ns.Nodup) (hz : ns.length < 1000) (h : Q (.int ns.length) μ) : unK hd Q .lenset (.ref x) μ := by
  refine ⟨h0, ?_⟩
  unfold asL
  simp only [hx]
  exact ⟨ns, rfl, hn, hz, h⟩
theorem isd_in {x : Addr} {ep : Nat} {l : List (Int × V)} (hx : μ x = some (.dict ep l)) (h : Q (.bool true) μ) : unK hd Q .isd (.ref x) μ := by
  show asD μ (.ref x) fun _ _ _ => Q (.bool true) μ
  unfold asD
  simp only [hx]
  exact h
theorem es_nil {Q : List V → Mem → Prop} (h : Q [] μ) : wpEs sg sc hd [] ρ μ Q X := h
theorem es_cons {e : E} {es : List E} {Q : List V → Mem → Prop} (h : wpE sg sc hd e ρ μ (es1 sg sc hd X ρ Q es) X) : wpEs sg sc hd (e :: es) ρ μ Q X := h
theorem k_es1 {Q : List V → Mem → Prop} {v : V} (h : Q [v] μ) : es1 sg sc hd X ρ Q [] v μ := h
theorem k_es {Q : List V → Mem → Prop} {es : List E} {v : V} (h : wpEs sg sc hd es ρ μ (consK Q v) X) : es1 sg sc hd X ρ Q es v μ := h
theorem k_cons {Q : List V → Mem → Prop} {v : V} {vs : List V} (h : Q (v :: vs) μ) : consK Q v vs μ := h

theorem asL_in {x : Addr} {l : List V} {k : Addr → List V → Prop} (hx : μ x = some (.list l)) (h : k x l) : asL μ (.ref x) k := by
  unfold asL; simp only [hx]; exact h
theorem tr_in {b : Bool} {k : Bool → Prop} (h : k b) : tr (.bool b) k := h
theorem br_t {A B : Prop} (h : A) : br true A B := ⟨fun _ => h, nofun⟩
theorem br_f {A B : Prop} (h : B) : br false A B := ⟨nofun, fun _ => h⟩
theorem br_nt {A B : Prop} (h : B) : br (!true) A B := ⟨nofun, fun _ => h⟩
theorem br_nf {A B : Prop} (h : A) : br (!false) A B := ⟨fun _ => h, nofun⟩
theorem br_d {p : Prop} [Decidable p] {A B : Prop} (h1 : p → A) (h2 : ¬ p → B) : br (decide p) A B := ⟨fun h => h1 (of_decide_eq_true h), fun h => h2 (of_decide_eq_false h)⟩
theorem br_nd {p : Prop} [Decidable p] {A B : Prop} (h1 : p → B) (h2 : ¬ p → A) : br (!decide p) A B := ⟨fun h => h2 (by simpa using h), fun h => h1 (by simpa using h)⟩
theorem br_dt {p : Prop} [Decidable p] {A B : Prop} (hp : p) (h : A) : br (decide p) A B := ⟨fun _ => h, fun q => absurd hp (of_decide_eq_false q)⟩
theorem br_df {p : Prop} [Decidable p] {A B : Prop} (hp : ¬ p) (h : B) : br (decide p) A B := ⟨fun q => absurd (of_decide_eq_true q) hp, fun _ => h⟩
theorem br_ndt {p : Prop} [Decidable p] {A B : Prop} (hp : p) (h : B) : br (!decide p) A B := br_nd (fun _ => h) fun q => absurd hp q
theorem br_ndf {p : Prop} [Decidable p] {A B : Prop} (hp : ¬ p) (h : A) : br (!decide p) A B := br_nd (fun q => absurd q hp) fun _ => h
theorem getA_in {x d : Addr} {cl a : String} {fs : List (String × V)} {v : V} (hx : μ x = some (.inst cl d)) (hd : μ d = some (.attrs fs)) (hv : fs.lookup a = some v) (h : Q v μ) : attrK Q a (.ref x) μ := by unfold attrK getA; simp only [hx, hd, hv]; exact h
theorem sub_l {x : Addr} {i : Int} {l : List V} {v : V} (hx : μ x = some (.list l)) (hi : idx l i = some v) (h : Q v μ) : subK Q (.ref x) (.int i) μ := by unfold subK subO; simp only [hx, hi]; exact h
theorem sub_t {i : Int} {l : List V} {v : V} (hi : idx l i = some v) (h : Q v μ) : subK Q (.tup l) (.int i) μ := by unfold subK subO; simp only [hi]; exact h
theorem add_i {i j : Int} (h : Q (.int (i + j)) μ) : binK Q .Add (.int i) (.int j) μ := h
theorem sub_i {i j : Int} (h : Q (.int (i - j)) μ) : binK Q .Sub (.int i) (.int j) μ := h
theorem mul_i {i j : Int} (hb : i.natAbs < 2 ^ 63 ∨ j.natAbs < 2 ^ 63) (h : Q (.int (i * j)) μ) : binK Q .Mult (.int i) (.int j) μ := ⟨hb, h⟩
theorem div_i {i j : Int} (h0 : 0 < j) (h1 : j < 1000000000) (h : Q (.int (i / j)) μ) : binK Q .FloorDiv (.int i) (.int j) μ := ⟨h0, h1, h⟩
theorem mod_i {i j : Int} (h0 : 0 < j) (h : Q (.int (i % j)) μ) : binK Q .Mod (.int i) (.int j) μ := ⟨h0, h⟩
theorem cat_l {x y : Addr} {l k : List V} (hx : μ x = some (.list l)) (hy : μ y = some (.list k)) (h : newL μ (l ++ k) Q) : binK Q .Add (.ref x) (.ref y) μ := asL_in (k := fun _ l => asL μ (.ref y) fun _ k => newL μ (l ++ k) Q) hx (asL_in hy h)
theorem rep_l {x : Addr} {n : Int} {l : List V} (hx : μ x = some (.list l)) (h0 : 0 ≤ n) (h1 : n ≤ 1000000) (h2 : n.toNat * l.length ≤ lim) (h : newL μ (List.replicate n.toNat l).flatten Q) : binK Q .Mult (.ref x) (.int n) μ := asL_in (k := fun _ l => asInt (.int n) fun n => 0 ≤ n ∧ n ≤ 1000000 ∧ n.toNat * l.length ≤ lim ∧ newL μ (List.replicate n.toNat l).flatten Q) hx ⟨h0, h1, h2, h⟩
theorem newL_in {l : List V} (hz : l.length ≤ lim) (h : ∀ n, μ n = none → Q (.ref n) (updM μ n (.list l))) : newL μ l Q := ⟨hz, h⟩
theorem eq_i {i j : Int} (h : Q (.bool (decide (i = j))) μ) : cmpK Q .Eq (.int i) (.int j) μ := h
theorem ne_i {i j : Int} (h : Q (.bool (!decide (i = j))) μ) : cmpK Q .NotEq (.int i) (.int j) μ := h
theorem lt_i {i j : Int} (h : Q (.bool (decide (i < j))) μ) : cmpK Q .Lt (.int i) (.int j) μ := h
theorem le_i {i j : Int} (h : Q (.bool (decide (i ≤ j))) μ) : cmpK Q .LtE (.int i) (.int j) μ := h
theorem gt_i {i j : Int} (h : Q (.bool (decide (j < i))) μ) : cmpK Q .Gt (.int i) (.int j) μ := h
theorem cmp_in {op : CmpOp} {a b : V} {r : Bool} (e : cmpO op μ a b = some r) (h : Q (.bool r) μ) : cmpK Q op a b μ := by unfold cmpK cmpW; rw [e]; exact h
theorem len_l {x : Addr} {l : List V} (hx : μ x = some (.list l)) (h : Q (.int l.length) μ) : bltnW hd "len" [.ref x] μ Q := asL_in (k := fun _ l => Q (.int l.length) μ) hx h
theorem len_t {l : List V} (h : Q (.int l.length) μ) : bltnW hd "len" [.tup l] μ Q := h
theorem len_f {ns : List Int} (h : Q (.int ns.length) μ) : bltnW hd "len" [.frz ns] μ Q := h
theorem list_l {x : Addr} {l : List V} (hx : μ x = some (.list l)) (h : newL μ l Q) : bltnW hd "list" [.ref x] μ Q := asL_in (k := fun _ l => newL μ l Q) hx h
theorem rng1 {b : Int} (h1 : b ≤ lim) (h2 : -2 ^ 62 < b) (h : Q (.rng 0 b 1) μ) : bltnW hd "range" [.int b] μ Q := ⟨h1, h2, h⟩
theorem rng2 {a b : Int} (h0 : b - a ≤ lim) (h1 : -2 ^ 62 < b ∧ b < 2 ^ 62) (h2 : -2 ^ 62 < a ∧ a < 2 ^ 62) (h : Q (.rng a b 1) μ) : bltnW hd "range" [.int a, .int b] μ Q := ⟨h0, h1, h2, h⟩
theorem app_l {x : Addr} {l : List V} {v : V} (hx : μ x = some (.list l)) (hz : l.length < lim) (h : Q .none (updM μ x (.list (l ++ [v])))) : lstK Q "append" x [v] μ := by unfold lstK lstW; exact asL_in hx ⟨hz, h⟩
theorem ext_l {x y : Addr} {l k : List V} (hx : μ x = some (.list l)) (hy : μ y = some (.list k)) (hn : y ≠ x) (hz : l.length + k.length ≤ lim) (h : Q .none (updM μ x (.list (l ++ k)))) : lstK Q "extend" x [.ref y] μ := by
  unfold lstK lstW
  exact asL_in hx (asL_in (k := fun b k => b ≠ x ∧ l.length + k.length ≤ lim ∧ Q .none (updM μ x (.list (l ++ k)))) hy ⟨hn, hz, h⟩)
theorem all_l {x : Addr} {l : List V} {b : Bool} (h0 : hd = false) (hx : μ x = some (.list l)) (e : allO l = some b) (h : Q (.bool b) μ) : bltnW hd "all" [.ref x] μ Q := by
  refine ⟨h0, asL_in (k := fun _ l => allW l fun b => Q (.bool b) μ) hx ?_⟩
  unfold allW; rw [e]; exact h
theorem slice_in {x : Addr} {l : List V} {lo hi : Option Int} (hx : μ x = some (.list l)) (h1 : nn lo) (h2 : nn hi) (h : newL μ (cut lo hi l) Q) : sliceW μ (.ref x) lo hi Q := by
  unfold sliceW; simp only [hx]; exact ⟨h1, h2, h⟩
noncomputable def compW (sg : Sig) (sc : Bool → Sc) (hd : Bool) (ρ : Loc) (Q : V → Mem → Prop) (elt : E) (x : String) (cs : List String) (ifs : List E) (v : V) (μ : Mem) : Prop := match itemsOf μ v with
  | some items => ∀ n, μ n = none → compI n (fun μ' => itemsOf μ' v = some items) (fun w μ₂ k => wpIf sg sc hd ifs (updL (capL cs ρ) x w) μ₂ fun b μ₃ =>
          br b (wpE sg sc hd elt (updL (capL cs ρ) x w) μ₃ (fun r μ' => k (some r) μ') fun _ _ => False) (k none μ₃)) items (updM μ n (.list [])) (Q (.ref n))
  | none => False
theorem e_comp {elt it : E} {x : String} {cs : List String} {ifs : List E} {s : Scope} {px p : Pos} (h0 : hd = false) (h : wpE sg sc hd it ρ μ (compW sg sc hd ρ Q elt x cs ifs) X) : wpE sg sc hd (.comp elt x cs it ifs s px p) ρ μ Q X := ⟨h0, h⟩
theorem comp_in {elt : E} {x : String} {cs : List String} {ifs : List E} {v : V} {items : List V} (e : itemsOf μ v = some items) (h : ∀ n, μ n = none → ∃ I : Nat → Mem → Prop, I 0 (updM μ n (.list [])) ∧ (∀ k μ, I k μ → itemsOf μ v = some items) ∧
    (∀ k w μ, items[k]? = some w → I k μ → wpIf sg sc hd ifs (updL (capL cs ρ) x w) μ fun b μ₃ => br b (wpE sg sc hd elt (updL (capL cs ρ) x w) μ₃ (fun r μ' => compT n (I (k + 1)) (some r) μ') fun _ _ => False) (compT n (I (k + 1)) none μ₃)) ∧ ∀ μ, I items.length μ → Q (.ref n) μ) : compW sg sc hd ρ Q elt x cs ifs v μ := by
  unfold compW
  rw [e]
  exact h
noncomputable def if1 (k : Bool → Mem → Prop) (v : V) (μ : Mem) : Prop := tr v fun b => k b μ
theorem k_if1 {k : Bool → Mem → Prop} {b : Bool} (h : k b μ) : if1 k (.bool b) μ := h
noncomputable def compPW (sg : Sig) (sc : Bool → Sc) (hd : Bool) (ρ : Loc) (Q : V → Mem → Prop) (elt : E) (x y : String) (cs : List String) (ifs : List E) (v : V) (μ : Mem) : Prop := match itemsOf μ v with
  | some items => ∀ n, μ n = none → compI n (fun μ' => itemsOf μ' v = some items) (fun w μ₂ k => pairW w fun a b => wpIf sg sc hd ifs (updL (updL (capL cs ρ) x a) y b) μ₂ fun t μ₃ =>
          br t (wpE sg sc hd elt (updL (updL (capL cs ρ) x a) y b) μ₃ (fun r μ' => k (some r) μ') fun _ _ => False) (k none μ₃)) items (updM μ n (.list [])) (Q (.ref n))
  | none => False
theorem e_compP {elt it : E} {x y : String} {cs : List String} {ifs : List E} {s : Scope} {k : Nat} {px py pt p : Pos} (h0 : hd = false) (h : wpE sg sc hd it ρ μ (compPW sg sc hd ρ Q elt x y cs ifs) X) : wpE sg sc hd (.compP elt x y cs it ifs s k px py pt p) ρ μ Q X := ⟨h0, h⟩
theorem if_nil {k : Bool → Mem → Prop} (h : k true μ) : wpIf sg sc hd [] ρ μ k := h
theorem if_one {e : E} {k : Bool → Mem → Prop} (h : wpE sg sc hd e ρ μ (if1 k) fun _ _ => False) : wpIf sg sc hd [e] ρ μ k := h
theorem itemsOf_new {n : Addr} {o : O} {v : V} {items : List V} (hn : μ n = none) (e : itemsOf μ v = some items) : itemsOf (updM μ n o) v = some items := by
  have same : ∀ {x : Addr}, μ x ≠ none → (updM μ n o) x = μ x := fun {x} h => by
    unfold updM
    split
    · rename_i q; subst q; exact absurd hn h
    · rfl
  unfold itemsOf at e ⊢
  split at e
  · exact e
  · rename_i x
    rw [same fun q => by rw [q] at e; cases e]; exact e
  · rename_i x ep ks
    rw [same fun q => by rw [q] at e; cases e]; exact e
  · cases e
theorem take_filter {α β : Type} (F : α → Option β) : ∀ (l : List α) (k : Nat) (w : α), l[k]? = some w → (l.take (k + 1)).filterMap F = (l.take k).filterMap F ++ (match F w with | some r => [r] | none => [])
  | [], k, w, h => by simp at h
  | a :: l, 0, w, h => by
    have : a = w := by simpa using h
    subst this
    simp only [List.take_succ_cons, List.take_zero, List.filterMap_nil, List.nil_append, List.filterMap_cons]
    cases F a <;> rfl
  | a :: l, k + 1, w, h => by
    have ih := take_filter F l k w (by simpa using h)
    rw [List.take_succ_cons, List.filterMap_cons, ih, List.take_succ_cons, List.filterMap_cons]
    cases F a <;> rfl
/-- a comprehension whose turns leave the memory as it is -/
theorem comp_map {elt : E} {x : String} {cs : List String} {ifs : List E} {v : V} {items : List V} (F : V → Option V) (e : itemsOf μ v = some items) (hz : items.length ≤ lim)
    (turn : ∀ (k : Nat) (w : V) (μ' : Mem) (K : Option V → Mem → Prop), items[k]? = some w → (∀ b o, μ b = some o → μ' b = some o) → K (F w) μ' → wpIf sg sc hd ifs (updL (capL cs ρ) x w) μ' fun b μ₃ => br b (wpE sg sc hd elt (updL (capL cs ρ) x w) μ₃ (fun r μ'' => K (some r) μ'') fun _ _ => False) (K none μ₃))
    (fin : ∀ n, μ n = none → Q (.ref n) (updM μ n (.list (items.filterMap F)))) : compW sg sc hd ρ Q elt x cs ifs v μ := by
  refine comp_in e fun n hn => ⟨fun k μ' => k ≤ items.length ∧ μ' = updM μ n (.list ((items.take k).filterMap F)), ⟨Nat.zero_le _, rfl⟩, fun k μ' h => by rw [h.2]; exact itemsOf_new hn e, fun k w μ' hk h => ?_, fun μ' h => ?_⟩
  · obtain ⟨hk', rfl⟩ := h
    have hlt : k < items.length := (List.getElem?_eq_some_iff.mp hk).1
    have ht := take_filter F items k w hk
    refine turn k w _ (compT n fun μ' => k + 1 ≤ items.length ∧ μ' = updM μ n (.list ((items.take (k + 1)).filterMap F))) hk (fun b o hb => by
      unfold updM
      split
      · rename_i q; rw [q, hn] at hb; cases hb
      · exact hb) ?_
    rw [ht]
    cases hF : F w with
    | none => exact ⟨hlt, by rw [List.append_nil]⟩
    | some r =>
      refine ⟨(items.take k).filterMap F, by simp [updM], ?_, hlt, ?_⟩
      · have h1 := List.length_filterMap_le F (items.take k)
        rw [List.length_take] at h1
        omega
      · funext b
        simp only [updM]
        split <;> rfl
  · obtain ⟨_, rfl⟩ := h
    rw [List.take_length]
    exact fin n hn
end

section
variable (sg : Sig) (sc : Bool → Sc) (hd : Bool) (X : String → Loc → Mem → Prop) (Q : Fl → Loc → Mem → Prop) (ρ : Loc) (r : List S)
noncomputable def rW (ρ : Loc) (μ : Mem) : Prop := wpSs sg sc hd r ρ μ Q X
noncomputable def nextK (μ : Mem) : Prop := wpSs sg sc hd r ρ μ Q X
noncomputable def exprK (_ : V) (μ : Mem) : Prop := wpSs sg sc hd r ρ μ Q X
noncomputable def asgK (x : String) (v : V) (μ : Mem) : Prop := wpSs sg sc hd r (updL ρ x v) μ Q X
noncomputable def sa1 (o : E) (a : String) (v : V) (μ : Mem) : Prop := wpE sg sc hd o ρ μ (setA (nextK sg sc hd X Q ρ r) a v) (xW X ρ)
noncomputable def si2 (i : E) (v w : V) (μ : Mem) : Prop := wpE sg sc hd i ρ μ (setI (nextK sg sc hd X Q ρ r) v w) (xW X ρ)
noncomputable def si1 (o i : E) (v : V) (μ : Mem) : Prop := wpE sg sc hd o ρ μ (si2 sg sc hd X Q ρ r i v) (xW X ρ)
noncomputable def unpW (xs : List (String × Pos)) (v : V) (μ : Mem) : Prop := asT v fun l => match bindAll (xs.map (·.1)) l ρ with
        | some ρ' => wpSs sg sc hd r ρ' μ Q X
        | none => False
noncomputable def dsetK (k : Mem → Prop) (v w j : V) (μ : Mem) : Prop := asD μ w fun x _ l => asInt j fun i => i ∉ l.map (·.1) ∧ l.length < 1000 ∧ ∀ ep, k (updM μ x (.dict ep (l ++ [(i, v)])))
noncomputable def ds2 (i : E) (v w : V) (μ : Mem) : Prop := wpE sg sc hd i ρ μ (dsetK (nextK sg sc hd X Q ρ r) v w) (xW X ρ)
noncomputable def ds1 (o i : E) (v : V) (μ : Mem) : Prop := wpE sg sc hd o ρ μ (ds2 sg sc hd X Q ρ r i v) (xW X ρ)
noncomputable def retK (v : V) (μ : Mem) : Prop := Q (.ret v) ρ μ
noncomputable def iteK (t f : List S) (v : V) (μ : Mem) : Prop := tr v fun b => br b (wpSs sg sc hd t ρ μ (sq (rW sg sc hd X Q r) Q) X) (wpSs sg sc hd f ρ μ (sq (rW sg sc hd X Q r) Q) X)
noncomputable def ifK (t : List S) (v : V) (μ : Mem) : Prop := tr v fun b => br b (wpSs sg sc hd t ρ μ (sq (rW sg sc hd X Q r) Q) X) (wpSs sg sc hd r ρ μ Q X)
end
section
variable {sg : Sig} {sc : Bool → Sc} {hd : Bool} {X : String → Loc → Mem → Prop} {Q : Fl → Loc → Mem → Prop} {ρ : Loc} {μ : Mem} {r : List S}
theorem s_nil (h : Q .next ρ μ) : wpSs sg sc hd [] ρ μ Q X := h
theorem s_expr {e : E} {p : Pos} (h : wpE sg sc hd e ρ μ (exprK sg sc hd X Q ρ r) (xW X ρ)) : wpSs sg sc hd (.expr e p :: r) ρ μ Q X := h
theorem k_expr {v : V} (h : wpSs sg sc hd r ρ μ Q X) : exprK sg sc hd X Q ρ r v μ := h
theorem s_assign {x : String} {e : E} {px p : Pos} (h : wpE sg sc hd e ρ μ (asgK sg sc hd X Q ρ r x) (xW X ρ)) : wpSs sg sc hd (.assign x e px p :: r) ρ μ Q X := h
theorem k_asg {x : String} {v : V} (h : wpSs sg sc hd r (updL ρ x v) μ Q X) : asgK sg sc hd X Q ρ r x v μ := h
theorem k_next (h : wpSs sg sc hd r ρ μ Q X) : nextK sg sc hd X Q ρ r μ := h
theorem s_setattr {o e : E} {a : String} {pa p : Pos} (h : wpE sg sc hd e ρ μ (sa1 sg sc hd X Q ρ r o a) (xW X ρ)) : wpSs sg sc hd (.setattr o a e pa p :: r) ρ μ Q X := h
theorem k_sa {o : E} {a : String} {v : V} (h : wpE sg sc hd o ρ μ (setA (nextK sg sc hd X Q ρ r) a v) (xW X ρ)) : sa1 sg sc hd X Q ρ r o a v μ := h
theorem s_setitem {o i e : E} {pa p : Pos} (h : wpE sg sc hd e ρ μ (si1 sg sc hd X Q ρ r o i) (xW X ρ)) : wpSs sg sc hd (.setitem o i e pa p :: r) ρ μ Q X := h
theorem k_si1 {o i : E} {v : V} (h : wpE sg sc hd o ρ μ (si2 sg sc hd X Q ρ r i v) (xW X ρ)) : si1 sg sc hd X Q ρ r o i v μ := h
theorem k_si2 {i : E} {v w : V} (h : wpE sg sc hd i ρ μ (setI (nextK sg sc hd X Q ρ r) v w) (xW X ρ)) : si2 sg sc hd X Q ρ r i v w μ := h
theorem s_dset {o i e : E} {pa p : Pos} (h : wpE sg sc hd e ρ μ (ds1 sg sc hd X Q ρ r o i) (xW X ρ)) : wpSs sg sc hd (.dset o i e pa p :: r) ρ μ Q X := h
theorem k_ds1 {o i : E} {v : V} (h : wpE sg sc hd o ρ μ (ds2 sg sc hd X Q ρ r i v) (xW X ρ)) : ds1 sg sc hd X Q ρ r o i v μ := h
theorem k_ds2 {i : E} {v w : V} (h : wpE sg sc hd i ρ μ (dsetK (nextK sg sc hd X Q ρ r) v w) (xW X ρ)) : ds2 sg sc hd X Q ρ r i v w μ := h
theorem dset_in {k : Mem → Prop} {x : Addr} {ep : Nat} {l : List (Int × V)} {i : Int} {v : V} (hx : μ x = some (.dict ep l)) (hi : i ∉ l.map (·.1)) (hz : l.length < 1000) (h : ∀ ep, k (updM μ x (.dict ep (l ++ [(i, v)])))) : dsetK k v (.ref x) (.int i) μ := by
  unfold dsetK asD
  simp only [hx]
  exact ⟨hi, hz, h⟩
theorem unp_in {xs : List (String × Pos)} {ρ' : Loc} {l : List V} (e : bindAll (xs.map (·.1)) l ρ = some ρ') (h : wpSs sg sc hd r ρ' μ Q X) : unpW sg sc hd X Q ρ r xs (.tup l) μ := by
  show (match bindAll (xs.map (·.1)) l ρ with | some ρ' => wpSs sg sc hd r ρ' μ Q X | none => False)
  rw [e]; exact h
theorem s_unpack {xs : List (String × Pos)} {e : E} {k : Nat} {pt p : Pos} (h0 : hd = false) (h : wpE sg sc hd e ρ μ (unpW sg sc hd X Q ρ r xs) (xW X ρ)) : wpSs sg sc hd (.unpack xs e k pt p :: r) ρ μ Q X := ⟨h0, h⟩
theorem s_ret {e : E} {p : Pos} (h : wpE sg sc hd e ρ μ (retK Q ρ) (xW X ρ)) : wpSs sg sc hd (.ret e p :: r) ρ μ Q X := h
theorem k_retf {Q : V → Mem → Prop} {v : V} (h : Q v μ) : retK (fq Q) ρ v μ := h
theorem k_rets {R : Loc → Mem → Prop} {v : V} (h : retK Q ρ v μ) : retK (sq R Q) ρ v μ := h
theorem k_sqr {Q' : Fl → Loc → Mem → Prop} (h : wpSs sg sc hd r ρ μ Q X) : sq (rW sg sc hd X Q r) Q' .next ρ μ := h
theorem s_raise {n m : String} {pf pm pc p : Pos} (h0 : hd = false) (h : X n ρ μ) : wpSs sg sc hd (.raise n m pf pm pc p :: r) ρ μ Q X := ⟨h0, h⟩

theorem s_if {e : E} {t : List S} {p : Pos} (h : wpE sg sc hd e ρ μ (ifK sg sc hd X Q ρ r t) (xW X ρ)) : wpSs sg sc hd (.ite e t [] p :: r) ρ μ Q X := h
theorem k_if {t : List S} {b : Bool} (h : br b (wpSs sg sc hd t ρ μ (sq (rW sg sc hd X Q r) Q) X) (wpSs sg sc hd r ρ μ Q X)) : ifK sg sc hd X Q ρ r t (.bool b) μ := h

noncomputable def forW (sg : Sig) (sc : Bool → Sc) (hd : Bool) (x : String) (body r : List S) (ρ : Loc) (Q : Fl → Loc → Mem → Prop) (X : String → Loc → Mem → Prop) (v : V) (μ : Mem) : Prop := match itemsOf μ v with
  | some items => forI (fun μ' => itemsOf μ' v = some items) x (fun ρ' μ' k => wpSs sg sc hd body ρ' μ' k fun _ _ _ => False) items ρ μ (sq (rW sg sc hd X Q r) Q)
  | none => False
theorem s_for {x : String} {it : E} {body : List S} {px p : Pos} (h0 : hd = false) (h : wpE sg sc hd it ρ μ (forW sg sc hd x body r ρ Q X) (xW X ρ)) : wpSs sg sc hd (.for_ x it body px p :: r) ρ μ Q X := ⟨h0, h⟩
theorem for_in {x : String} {body : List S} {v : V} {items : List V} (e : itemsOf μ v = some items) (I : Nat → Loc → Mem → Prop) (i0 : I 0 ρ μ) (st : ∀ k ρ μ, I k ρ μ → itemsOf μ v = some items)
    (turn : ∀ k w ρ μ, items[k]? = some w → I k ρ μ → wpSs sg sc hd body (updL ρ x w) μ (sq (I (k + 1)) (sq (rW sg sc hd X Q r) Q)) fun _ _ _ => False) (fin : ∀ ρ μ, I items.length ρ μ → wpSs sg sc hd r ρ μ Q X) : forW sg sc hd x body r ρ Q X v μ := by
  unfold forW
  rw [e]
  exact ⟨I, i0, st, turn, fin⟩
/-- a loop over numbers -/
theorem for_rng {x : String} {body : List S} {a b : Int} (I : Int → Loc → Mem → Prop) (i0 : I a ρ μ) 
    (turn : ∀ i ρ μ, a ≤ i → i < b → I i ρ μ → wpSs sg sc hd body (updL ρ x (.int i)) μ (sq (I (i + 1)) (sq (rW sg sc hd X Q r) Q)) fun _ _ _ => False) (fin : ∀ ρ μ, I (max a b) ρ μ → wpSs sg sc hd r ρ μ Q X) : forW sg sc hd x body r ρ Q X (.rng a b 1) μ := by
  refine for_in (items := rngItems a b 1) rfl (fun k ρ μ => I (a + k) ρ μ) (by simpa using i0) (fun _ _ _ _ => rfl) (fun k w ρ μ hk hi => ?_) (fun ρ μ hi => ?_)
  · rw [rngItems_get (.inl rfl)] at hk
    split at hk
    · rename_i hlt
      unfold rngLen at hlt
      rw [if_pos rfl] at hlt
      cases hk
      have := turn (a + k) ρ μ (by omega) (by omega) hi
      simp only [Int.mul_one]
      have e : a + ((k + 1 : Nat) : Int) = a + k + 1 := by omega
      rw [e]
      exact this
    · cases hk
  · have : (rngItems a b 1).length = (b - a).toNat := by unfold rngItems; simp
    rw [this] at hi
    refine fin ρ μ ?_
    have e : max a b = a + ((b - a).toNat : Int) := by omega
    rw [e]; exact hi

theorem loc_here {ρ : Loc} {x : String} {v : V} : updL ρ x v x = some v := by simp [updL]
theorem loc_skip {ρ : Loc} {x y : String} {v w : V} (h : x ≠ y) (e : ρ x = some w) : updL ρ y v x = some w := by simp [updL, h, e]
theorem mem_here {μ : Mem} {a : Addr} {o : O} : updM μ a o a = some o := by simp [updM]
theorem mem_skip {μ : Mem} {a b : Addr} {o o' : O} (h : b ≠ a) (e : μ b = some o') : updM μ a o b = some o' := by simp [updM, h, e]
end
end Mine

set_option autoImplicit false
namespace Mine
open PySem PySem.W PySem.Calls PyProof.Rows

/-! A head of one's own: the states are written in twin form. -/

noncomputable def nthS : List Stmt → Nat → Stmt
  | [], _ => .Pass ⟨0, 0, 0, 0⟩
  | s :: _, 0 => s
  | _ :: r, n + 1 => nthS r n
noncomputable def cBody : Stmt → List Stmt
  | .ClassDef _ _ _ b _ _ _ _ _ _ _ => b
  | _ => []
noncomputable def fArgs : Stmt → Arguments
  | .FunctionDef _ a _ _ _ _ _ _ _ _ => a
  | _ => ⟨[], [], none, [], [], none, []⟩
noncomputable def fBody : Stmt → List Stmt
  | .FunctionDef _ _ b _ _ _ _ _ _ _ => b
  | _ => []
noncomputable def fScope : Stmt → Scope
  | .FunctionDef _ _ _ _ _ _ sc _ _ _ => sc
  | _ => { kind := .function, names := [], isGenerator := false, isCoroutine := false }

section
variable {p : Program} {w : World} {n₀ N b : Nat} {ann : Option Value}
theorem segT_q {s : SharedT} {t : Thread} {r : Option (Flow × SharedT × Code × Pos)} (h : Fast.tw10110043849684766642 Fast.tw14364793385576792824 p w n₀ ann b N s t = r) : segRunT treeTable p w n₀ ann b N s t = r := by
  rw [Fast.te10110043849684766642, Fast.te14364793385576792824]; exact h
theorem seg_q {s : Shared} {t : Thread} {r : Option (Flow × Shared × Code × Pos)} (h : Fast.tw14374325043358763698 Fast.tw14364793385576792824 p w n₀ ann b N s t = r) : segRun treeTable p w n₀ ann b N s t = r := by
  rw [Fast.te14374325043358763698, Fast.te14364793385576792824]; exact h
theorem top_q {s : Shared} {t : Thread} {r : Option Shared} (h : Fast.tw14082659384304107361 Fast.tw14364793385576792824 p w n₀ ann N s t = r) : topRun treeTable p w n₀ ann N s t = r := by
  rw [Fast.te14082659384304107361, Fast.te14364793385576792824]; exact h
theorem go_q {s s' : Shared} {t : Thread} {c c' : Code} {q : Pos} {B : List Frame} (h : Fast.tw15667345088766844465 Fast.tw14364793385576792824 p w n₀ ann N s t = some (s', ⟨Fast.tw11892475500146522536 Fast.tw14364793385576792824 c, c', q, B⟩)) : topGo treeTable p w n₀ ann N s t = some (s', ⟨denote treeTable c, c', q, B⟩) := by
  rw [Fast.te15667345088766844465, Fast.te11892475500146522536, Fast.te14364793385576792824]; exact h
end
section
variable {p : Program} {w : World} {n₀ : Nat} {ann : Option Value} {env : Env} {q : Pos}
theorem piece_cut {n N k : Nat} {s s' r : Shared} {l : List Stmt} {c : Code} {pos p' : Pos} (h : segRun treeTable p w n₀ ann 1 n s (piecesOf (l.take k) env c pos [topFrame q]) = some (.next, s', c, p'))
    (z : topRun treeTable p w n₀ ann N s' (restOf (l.drop k) env c p' [topFrame q]) = some r) : topRun treeTable p w n₀ ann (n + N) s (restOf l env c pos [topFrame q]) = some r := by
  have := piece_app h z
  rwa [List.take_append_drop] at this
theorem piece_last {n N : Nat} {s s' r : Shared} {l : List Stmt} {c : Code} {pos p' : Pos} (h : segRun treeTable p w n₀ ann 1 n s (piecesOf l env c pos [topFrame q]) = some (.next, s', c, p'))
    (z : topRun treeTable p w n₀ ann N s' ⟨doneF .next, c, p', [topFrame q]⟩ = some r) : topRun treeTable p w n₀ ann (n + N) s (restOf l env c pos [topFrame q]) = some r := by
  have := piece_app (rest := []) h z
  rwa [List.append_nil] at this
end
end Mine

set_option autoImplicit false
set_option maxRecDepth 100000
set_option maxHeartbeats 8000000
set_option linter.unusedVariables false
namespace Mine
open PySem PySem.W PySem.Calls PyProof.Rows
noncomputable abbrev pq : Program := Challenge.pw_uf040019_08
theorem pq_eq : Challenge.pw_uf040019_08 = pq := rfl
noncomputable def bq : List Stmt := behindTheImports pq
noncomputable def sA (i : Nat) : Stmt := nthS bq i
noncomputable def mA (i j : Nat) : Stmt := nthS (cBody (sA i)) j
noncomputable def envq : Env := { scope := pq.main.scope, locals := mainNs, globals := mainNs, cells := [], code := .ref 13, frame := some 14 }
noncomputable def cdq : Code := .body (behindTheImports pq) envq
noncomputable def p0q : Pos := ⟨0, 0, 0, 0⟩
noncomputable def q0 : Str := ⟨⟨[60, 109, 111, 100, 117, 108, 101, 62]⟩⟩
noncomputable def q1 : Str := ⟨⟨[47, 99, 108, 97, 105, 109, 47, 99, 117, 116, 46, 112, 121]⟩⟩
noncomputable def q2 : Str := ⟨⟨[95, 95, 109, 97, 105, 110, 95, 95]⟩⟩
noncomputable def q3 : Str := ⟨⟨[95, 95, 110, 97, 109, 101, 95, 95]⟩⟩
noncomputable def q4 : Str := ⟨⟨[100, 101, 98, 116, 116, 114, 101, 101, 46, 101, 114, 114, 111, 114, 115]⟩⟩
noncomputable def q5 : Str := ⟨⟨[95, 95, 100, 111, 99, 95, 95]⟩⟩
noncomputable def q6 : Str := ⟨⟨[95, 95, 112, 97, 99, 107, 97, 103, 101, 95, 95]⟩⟩
noncomputable def q7 : Str := ⟨⟨[95, 95, 108, 111, 97, 100, 101, 114, 95, 95]⟩⟩
noncomputable def q8 : Str := ⟨⟨[95, 95, 115, 112, 101, 99, 95, 95]⟩⟩
noncomputable def q9 : Str := ⟨⟨[95, 95, 97, 110, 110, 111, 116, 97, 116, 105, 111, 110, 115, 95, 95]⟩⟩
noncomputable def q10 : Str := ⟨⟨[95, 95, 98, 117, 105, 108, 116, 105, 110, 115, 95, 95]⟩⟩
noncomputable def q11 : Str := ⟨⟨[95, 95, 102, 105, 108, 101, 95, 95]⟩⟩
noncomputable def q12 : Str := ⟨⟨[95, 95, 99, 97, 99, 104, 101, 100, 95, 95]⟩⟩
noncomputable def q13 : Str := ⟨⟨[100, 101, 98, 116, 115]⟩⟩
noncomputable def q14 : Str := ⟨⟨[105, 110, 95, 116, 114, 101, 101]⟩⟩
noncomputable def q15 : Str := ⟨⟨[119, 97, 121]⟩⟩
noncomputable def q16 : Str := ⟨⟨[119, 111, 107, 101, 110, 95, 98, 121]⟩⟩
noncomputable def q17 : Str := ⟨⟨[68, 101, 98, 116, 69, 114, 114, 111, 114]⟩⟩
noncomputable def q18 : Str := ⟨⟨[95, 95, 109, 111, 100, 117, 108, 101, 95, 95]⟩⟩
noncomputable def q19 : Str := ⟨⟨[95, 95, 102, 105, 114, 115, 116, 108, 105, 110, 101, 110, 111, 95, 95]⟩⟩
noncomputable def q20 : Str := ⟨⟨[95, 95, 115, 116, 97, 116, 105, 99, 95, 97, 116, 116, 114, 105, 98, 117, 116, 101, 115, 95, 95]⟩⟩
noncomputable def q21 : Str := ⟨⟨[95, 95, 119, 101, 97, 107, 114, 101, 102, 95, 95]⟩⟩
noncomputable def q22 : Str := ⟨⟨[100, 101, 98, 116, 116, 114, 101, 101, 46, 116, 114, 101, 101]⟩⟩
noncomputable def q23 : Str := ⟨⟨[95, 95, 113, 117, 97, 108, 110, 97, 109, 101, 95, 95]⟩⟩
noncomputable def q24 : Str := ⟨⟨[99, 111, 109, 112, 97, 110, 121]⟩⟩
noncomputable def q25 : Str := ⟨⟨[110, 117, 109, 98, 101, 114]⟩⟩
noncomputable def q26 : Str := ⟨⟨[102, 111, 117, 110, 100]⟩⟩
noncomputable def q27 : Str := ⟨⟨[78, 111, 67, 111, 109, 112, 97, 110, 121]⟩⟩
noncomputable def q28 : Str := ⟨⟨[78, 111, 72, 97, 110, 100]⟩⟩
noncomputable def q29 : Str := ⟨⟨[78, 111, 87, 111, 114, 107]⟩⟩
noncomputable def q30 : Str := ⟨⟨[78, 111, 80, 108, 97, 99, 101]⟩⟩
noncomputable def q31 : Str := ⟨⟨[100, 101, 98, 116, 116, 114, 101, 101, 46, 112, 111, 115, 116]⟩⟩
noncomputable def q32 : Str := ⟨⟨[66, 101, 103, 117, 110]⟩⟩
noncomputable def q33 : Str := ⟨⟨[105, 115, 95, 102, 114, 111, 109]⟩⟩
noncomputable def q34 : Str := ⟨⟨[116, 104, 105, 110, 103]⟩⟩
noncomputable def q35 : Str := ⟨⟨[108, 101, 97, 115, 116]⟩⟩
noncomputable def q36 : Str := ⟨⟨[109, 111, 115, 116]⟩⟩
noncomputable def q37 : Str := ⟨⟨[100, 101, 98, 116, 116, 114, 101, 101, 46, 119, 104, 111, 108, 101, 115]⟩⟩
noncomputable def q38 : Str := ⟨⟨[100, 101, 98, 116, 116, 114, 101, 101, 46, 99, 111, 109, 112, 97, 110, 121]⟩⟩
noncomputable def q39 : Str := ⟨⟨[80, 111, 115, 116]⟩⟩
noncomputable def q40 : Str := ⟨⟨[77, 79, 83, 84, 95, 72, 65, 78, 68, 83]⟩⟩
noncomputable def q41 : Str := ⟨⟨[77, 79, 83, 84, 95, 80, 73, 69, 67, 69, 83]⟩⟩
noncomputable def q42 : Str := ⟨⟨[115, 101, 108, 102]⟩⟩
noncomputable def q43 : Str := ⟨⟨[114, 111, 119]⟩⟩
noncomputable def q44 : Str := ⟨⟨[117, 110, 100, 101, 114]⟩⟩
noncomputable def q45 : Str := ⟨⟨[80, 111, 115, 116, 46, 117, 110, 100, 101, 114]⟩⟩
noncomputable def q46 : Str := ⟨⟨[95, 95, 105, 110, 105, 116, 95, 95]⟩⟩
noncomputable def q47 : Str := ⟨⟨[80, 111, 115, 116, 46, 95, 95, 105, 110, 105, 116, 95, 95]⟩⟩
noncomputable def q48 : Str := ⟨⟨[112, 117, 116]⟩⟩
noncomputable def q49 : Str := ⟨⟨[80, 111, 115, 116, 46, 112, 117, 116]⟩⟩
noncomputable def q50 : Str := ⟨⟨[116, 97, 107, 101]⟩⟩
noncomputable def q51 : Str := ⟨⟨[95, 95, 100, 105, 99, 116, 95, 95]⟩⟩
noncomputable def q52 : Str := ⟨⟨[80, 111, 115, 116, 46, 116, 97, 107, 101]⟩⟩
noncomputable def q53 : Str := ⟨⟨[114, 111, 119, 115]⟩⟩
noncomputable def q54 : Str := ⟨⟨[112, 108, 97, 99, 101]⟩⟩
noncomputable def q55 : Str := ⟨⟨[67, 111, 109, 112, 97, 110, 121]⟩⟩
noncomputable def q56 : Str := ⟨⟨[100, 111]⟩⟩
noncomputable def q57 : Str := ⟨⟨[67, 111, 109, 112, 97, 110, 121, 46, 100, 111]⟩⟩
noncomputable def q58 : Str := ⟨⟨[108, 111, 103]⟩⟩
noncomputable def q59 : Str := ⟨⟨[67, 111, 109, 112, 97, 110, 121, 46, 108, 111, 103]⟩⟩
noncomputable def q60 : Str := ⟨⟨[115, 101, 116, 116, 108, 101, 100]⟩⟩
noncomputable def q61 : Str := ⟨⟨[67, 111, 109, 112, 97, 110, 121, 46, 115, 101, 116, 116, 108, 101, 100]⟩⟩
noncomputable def q62 : Str := ⟨⟨[114, 117, 110, 115]⟩⟩
noncomputable def q63 : Str := ⟨⟨[67, 111, 109, 112, 97, 110, 121, 46, 114, 117, 110, 115]⟩⟩
noncomputable def q64 : Str := ⟨⟨[98, 101, 103, 105, 110]⟩⟩
noncomputable def q65 : Str := ⟨⟨[67, 111, 109, 112, 97, 110, 121, 46, 98, 101, 103, 105, 110]⟩⟩
noncomputable def q66 : Str := ⟨⟨[105, 115, 95, 105, 110]⟩⟩
noncomputable def q67 : Str := ⟨⟨[67, 111, 109, 112, 97, 110, 121, 46, 105, 115, 95, 105, 110]⟩⟩
noncomputable def q68 : Str := ⟨⟨[115, 105, 122, 101]⟩⟩
noncomputable def q69 : Str := ⟨⟨[110, 101, 101, 100, 95, 104, 97, 110, 100]⟩⟩
noncomputable def q70 : Str := ⟨⟨[110, 111, 116, 101, 100]⟩⟩
noncomputable def q71 : Str := ⟨⟨[104, 97, 110, 100, 95, 111, 110]⟩⟩
noncomputable def q72 : Str := ⟨⟨[108, 101, 116, 116, 101, 114, 95, 99, 97, 109, 101]⟩⟩
noncomputable def q73 : Str := ⟨⟨[99, 97, 114, 114, 121]⟩⟩
noncomputable def q74 : Str := ⟨⟨[104, 97, 110, 100]⟩⟩
noncomputable def q75 : Str := ⟨⟨[67, 111, 109, 112, 97, 110, 121, 46, 115, 105, 122, 101]⟩⟩
noncomputable def q76 : Str := ⟨⟨[67, 111, 109, 112, 97, 110, 121, 46, 99, 97, 114, 114, 121]⟩⟩
noncomputable def q77 : Str := ⟨⟨[67, 111, 109, 112, 97, 110, 121, 46, 108, 101, 116, 116, 101, 114, 95, 99, 97, 109, 101]⟩⟩
noncomputable def q78 : Str := ⟨⟨[67, 111, 109, 112, 97, 110, 121, 46, 110, 101, 101, 100, 95, 104, 97, 110, 100]⟩⟩
noncomputable def q79 : Str := ⟨⟨[67, 111, 109, 112, 97, 110, 121, 46, 104, 97, 110, 100]⟩⟩
noncomputable def q80 : Str := ⟨⟨[67, 111, 109, 112, 97, 110, 121, 46, 117, 110, 100, 101, 114]⟩⟩
noncomputable def q81 : Str := ⟨⟨[103, 111, 105, 110, 103]⟩⟩
noncomputable def q82 : Str := ⟨⟨[107, 110, 111, 119, 110]⟩⟩
noncomputable def q83 : Str := ⟨⟨[112, 105, 101, 99, 101, 115]⟩⟩
noncomputable def q84 : Str := ⟨⟨[112, 111, 115, 116]⟩⟩
noncomputable def q85 : Str := ⟨⟨[116, 97, 108, 108, 105, 101, 115]⟩⟩
noncomputable def q86 : Str := ⟨⟨[119, 97, 105, 116, 115]⟩⟩
noncomputable def q87 : Str := ⟨⟨[119, 97, 107, 101, 114, 115]⟩⟩
noncomputable def q88 : Str := ⟨⟨[67, 111, 109, 112, 97, 110, 121, 46, 110, 111, 116, 101, 100]⟩⟩
noncomputable def q89 : Str := ⟨⟨[119, 111, 114, 100]⟩⟩
noncomputable def q90 : Str := ⟨⟨[115, 101, 110, 100, 101, 114]⟩⟩
noncomputable def q91 : Str := ⟨⟨[67, 111, 109, 112, 97, 110, 121, 46, 104, 97, 110, 100, 95, 111, 110]⟩⟩
noncomputable def q92 : Str := ⟨⟨[116, 97, 108, 108, 121]⟩⟩
noncomputable def q93 : Str := ⟨⟨[67, 111, 109, 112, 97, 110, 121, 46, 95, 95, 105, 110, 105, 116, 95, 95]⟩⟩
noncomputable def q94 : Str := ⟨⟨[111, 116, 104, 101, 114]⟩⟩
noncomputable def q95 : Str := ⟨⟨[109, 97, 110, 121]⟩⟩
noncomputable def q96 : Str := ⟨⟨[108, 97, 119, 95, 117, 102, 48, 52, 48, 48, 49, 57, 95, 48, 56]⟩⟩
noncomputable def q97 : Str := ⟨⟨[95, 108, 97, 119, 95, 99, 101, 108, 108, 95, 97, 116]⟩⟩
noncomputable def q98 : Str := ⟨⟨[95, 108, 97, 119, 95, 109, 105, 120, 101, 100]⟩⟩
noncomputable def q99 : Str := ⟨⟨[95, 108, 97, 119, 95, 119, 104, 111, 108, 101]⟩⟩
noncomputable def q100 : Str := ⟨⟨[95, 108, 97, 119, 95, 97, 108, 105, 107, 101]⟩⟩
noncomputable def q101 : Str := ⟨⟨[95, 108, 97, 119, 95, 109, 97, 110, 121, 95, 98, 121]⟩⟩
noncomputable def q102 : Str := ⟨⟨[95, 108, 97, 119, 95, 112, 105, 101, 99, 101, 115, 95, 98, 121]⟩⟩
noncomputable def q103 : Str := ⟨⟨[95, 108, 97, 119, 95, 110, 101, 120, 116]⟩⟩
noncomputable def q104 : Str := ⟨⟨[95, 108, 97, 119, 95, 100, 111, 110, 101]⟩⟩
noncomputable def q105 : Str := ⟨⟨[95, 108, 97, 119, 95, 119, 97, 121, 95, 103, 111, 111, 100]⟩⟩
noncomputable def q106 : Str := ⟨⟨[95, 108, 97, 119, 95, 119, 111, 107, 101, 110, 95, 100, 117, 101]⟩⟩
noncomputable def q107 : Str := ⟨⟨[95, 108, 97, 119, 95, 119, 111, 107, 101, 110, 95, 103, 111, 111, 100]⟩⟩
noncomputable def q108 : Str := ⟨⟨[95, 108, 97, 119, 95, 100, 101, 98, 116, 115, 95, 103, 111, 111, 100]⟩⟩
noncomputable def q109 : Str := ⟨⟨[95, 108, 97, 119, 95, 103, 111, 111, 100]⟩⟩
noncomputable def q110 : Str := ⟨⟨[108, 97, 119]⟩⟩
noncomputable def q111 : Str := ⟨⟨[95, 108, 97, 119, 95, 102, 111, 117, 110, 100]⟩⟩
noncomputable def q112 : Str := ⟨⟨[95, 108, 97, 119, 95, 100, 117, 101]⟩⟩
noncomputable def q113 : Str := ⟨⟨[95, 108, 97, 119, 95, 107]⟩⟩
noncomputable def q114 : Str := ⟨⟨[95, 108, 97, 119, 95, 115, 99, 114, 105, 112, 116]⟩⟩
noncomputable def q115 : Str := ⟨⟨[95, 108, 97, 119, 95, 99, 101, 108, 108]⟩⟩
noncomputable def q116 : Str := ⟨⟨[95, 108, 97, 119, 95, 110, 101, 97, 114]⟩⟩
noncomputable def q117 : Str := ⟨⟨[95, 108, 97, 119, 95, 99, 111, 109, 112, 97, 110, 121]⟩⟩
noncomputable def q118 : Str := ⟨⟨[95, 108, 97, 119, 95, 100, 101, 101, 100]⟩⟩
noncomputable def q119 : Str := ⟨⟨[95, 108, 97, 119, 95, 109, 97, 110, 121]⟩⟩
noncomputable def q120 : Str := ⟨⟨[95, 108, 97, 119, 95, 119, 97, 107, 101, 114, 115]⟩⟩
noncomputable def q121 : Str := ⟨⟨[95, 108, 97, 119, 95, 110, 117, 109, 98, 101, 114]⟩⟩
noncomputable def ob43 (P : Params) : Obj := { cls := Value.type "tuple", data := Data.seq #[] }
noncomputable def ob45 (P : Params) : Obj := { cls := Value.type "code", data := Data.fields #[Value.str (q0) 182, Value.str (q0) 183, Value.str (q1) 184, Value.int 1 0, Value.int 0 0, Value.int 0 0, Value.int 0 0, Value.int 0 0, Value.ref 11, Value.bool Bool.false, Value.int 181 0, Value.ref 12, Value.none, Value.none, Value.none, Value.none, Value.int 185 0, Value.int 1 0, Value.str (q1) 186] }
noncomputable def ob44 (P : Params) : Obj := { cls := Value.none, data := Data.fields #[] }
noncomputable def ob46 (P : Params) : Obj := { cls := Value.type "frame", slots := #[Option.some (Value.ref 13), Option.some (Value.ref 3), Option.some (Value.ref 3), Option.none, Option.some (Value.str (q2) 164), Option.none, Option.some (Value.ref 0)] }
noncomputable def ob49 (P : Params) : Obj := { cls := Value.type "dict", data := Data.dict #[{ hash := PyData.keyHash P (q3), key := Value.str (q3) 165, val := Value.str (q4) 218 }, { hash := PyData.keyHash P (q5), key := Value.str (q5) 166, val := Value.none }, { hash := PyData.keyHash P (q6), key := Value.str (q6) 167, val := Value.none }, { hash := PyData.keyHash P (q7), key := Value.str (q7) 168, val := Value.builtin "__main__.__loader__#opaque" }, { hash := PyData.keyHash P (q8), key := Value.str (q8) 169, val := Value.none }, { hash := PyData.keyHash P (q9), key := Value.str (q9) 170, val := Value.ref 6 }, { hash := PyData.keyHash P (q10), key := Value.str (q10) 171, val := Value.ref 4 }, { hash := PyData.keyHash P (q11), key := Value.str (q11) 173, val := Value.str (q1) 172 }, { hash := PyData.keyHash P (q12), key := Value.str (q12) 174, val := Value.none }, { hash := PyData.keyHash P (q13), key := Value.str (q13) 194, val := Value.ref 19 }, { hash := PyData.keyHash P (q14), key := Value.str (q14) 202, val := Value.ref 26 }, { hash := PyData.keyHash P (q15), key := Value.str (q15) 211, val := Value.ref 33 }, { hash := PyData.keyHash P (q16), key := Value.str (q16) 217, val := Value.ref 38 }, { hash := PyData.keyHash P (q17), key := Value.str (q17) 237, val := Value.ref 48 }] 14 }
noncomputable def ob51 (P : Params) : Obj := { cls := Value.type "tuple", data := Data.seq #[] }
noncomputable def ob67 (P : Params) : Obj := { cls := Value.none, data := Data.func { name := q15, qualname := q15, params := fArgs (sA 3), body := FuncBody.stmts (fBody (sA 3)), scope := fScope (sA 3), globals := 0, closure := [], defaults := Value.none, kwdefaults := Value.none } }
noncomputable def ob83 (P : Params) : Obj := { cls := Value.type "dict", data := Data.dict #[{ hash := PyData.keyHash P (q18), key := Value.str (q18) 227, val := Value.str (q4) 218 }, { hash := PyData.keyHash P (q19), key := Value.str (q19) 231, val := Value.int 23 230 }, { hash := PyData.keyHash P (q20), key := Value.str (q20) 232, val := Value.ref 46 }, { hash := PyData.keyHash P (q21), key := Value.str (q21) 234, val := Value.ref 49 }, { hash := PyData.keyHash P (q5), key := Value.str (q5) 235, val := Value.none }] 3 }
noncomputable def ob59 (P : Params) : Obj := { cls := Value.type "tuple", data := Data.seq #[] }
noncomputable def ob75 (P : Params) : Obj := { cls := Value.type "tuple", data := Data.seq #[Value.type "ValueError"] }
noncomputable def ob55 (P : Params) : Obj := { cls := Value.type "function", data := Data.func { name := q13, qualname := q13, params := fArgs (sA 1), body := FuncBody.stmts (fBody (sA 1)), scope := fScope (sA 1), globals := 3, closure := [], defaults := Value.none, kwdefaults := Value.none, pyModule := Value.str (q22) 187, code := Value.ref 18 } }
noncomputable def ob71 (P : Params) : Obj := { cls := Value.none, data := Data.fields #[] }
noncomputable def ob87 (P : Params) : Obj := { cls := Value.type "builtin_function_or_method", data := Data.fields #[Value.builtin "object.__init_subclass__", Value.ref 48] }
noncomputable def ob63 (P : Params) : Obj := { cls := Value.type "tuple", data := Data.seq #[] }
noncomputable def ob79 (P : Params) : Obj := { cls := Value.none, data := Data.fields #[] }
noncomputable def ob53 (P : Params) : Obj := { cls := Value.none, data := Data.func { name := q13, qualname := q13, params := fArgs (sA 1), body := FuncBody.stmts (fBody (sA 1)), scope := fScope (sA 1), globals := 0, closure := [], defaults := Value.none, kwdefaults := Value.none } }
noncomputable def ob69 (P : Params) : Obj := { cls := Value.type "function", data := Data.func { name := q15, qualname := q15, params := fArgs (sA 3), body := FuncBody.stmts (fBody (sA 3)), scope := fScope (sA 3), globals := 3, closure := [], defaults := Value.none, kwdefaults := Value.none, pyModule := Value.str (q22) 187, code := Value.ref 32 } }
noncomputable def ob85 (P : Params) : Obj := { cls := Value.type "getset_descriptor", data := Data.fields #[Value.str (q21) 233, Value.ref 48, Value.builtin "ExceptionGroup.__weakref__", Value.none] }
noncomputable def ob61 (P : Params) : Obj := { cls := Value.type "code", data := Data.fields #[Value.str (q14) 195, Value.str (q14) 196, Value.str (q1) 197, Value.int 5 0, Value.int 2 0, Value.int 0 0, Value.int 0 0, Value.int 3 0, Value.ref 20, Value.bool Bool.true, Value.int 181 0, Value.ref 21, Value.none, Value.ref 22, Value.ref 23, Value.ref 24, Value.int 200 0, Value.int 5 0, Value.str (q1) 201] }
noncomputable def ob77 (P : Params) : Obj := { cls := Value.type "dict", data := Data.dict #[{ hash := PyData.keyHash P (q18), key := Value.str (q18) 227, val := Value.str (q4) 218 }, { hash := PyData.keyHash P (q23), key := Value.str (q23) 229, val := Value.str (q17) 228 }, { hash := PyData.keyHash P (q19), key := Value.str (q19) 231, val := Value.int 23 230 }, { hash := PyData.keyHash P (q20), key := Value.str (q20) 232, val := Value.ref 46 }] 4 }
noncomputable def ob57 (P : Params) : Obj := { cls := Value.none, data := Data.fields #[] }
noncomputable def ob73 (P : Params) : Obj := { cls := Value.type "code", data := Data.fields #[Value.str (q16) 212, Value.str (q16) 213, Value.str (q1) 214, Value.int 16 0, Value.int 1 0, Value.int 0 0, Value.int 0 0, Value.int 3 0, Value.ref 34, Value.bool Bool.true, Value.int 181 0, Value.ref 35, Value.none, Value.none, Value.none, Value.ref 36, Value.int 215 0, Value.int 16 0, Value.str (q1) 216] }
noncomputable def ob65 (P : Params) : Obj := { cls := Value.type "tuple", data := Data.seq #[Value.str (q24) 206, Value.str (q25) 207, Value.str (q26) 208] }
noncomputable def ob81 (P : Params) : Obj := { cls := Value.type "frame", slots := #[Option.some (Value.ref 44), Option.some (Value.ref 3), Option.some (Value.ref 41), Option.none, Option.some (Value.str (q4) 218), Option.none, Option.some (Value.ref 0)] }
noncomputable def ob52 (P : Params) : Obj := { cls := Value.none, data := Data.fields #[] }
noncomputable def ob68 (P : Params) : Obj := { cls := Value.type "code", data := Data.fields #[Value.str (q15) 203, Value.str (q15) 204, Value.str (q1) 205, Value.int 9 0, Value.int 2 0, Value.int 0 0, Value.int 0 0, Value.int 3 0, Value.ref 27, Value.bool Bool.true, Value.int 181 0, Value.ref 28, Value.none, Value.ref 29, Value.ref 30, Value.ref 31, Value.int 209 0, Value.int 9 0, Value.str (q1) 210] }
noncomputable def ob84 (P : Params) : Obj := { cls := Value.type "type", data := Data.cls { name := q17, bases := [Value.type "ValueError"], mro := [Value.ref 48, Value.type "ValueError", Value.type "Exception", Value.type "BaseException", Value.type "object"], ns := 47, qualname := q17 }, slots := #[Option.some (Value.ref 39), Option.none, Option.some (Value.str (q17) 220), Option.some (Value.str (q17) 228), Option.some (Value.builtin "ValueError.__new__"), Option.some (Value.bool Bool.true)] }
noncomputable def ob60 (P : Params) : Obj := { cls := Value.none, data := Data.func { name := q14, qualname := q14, params := fArgs (sA 2), body := FuncBody.stmts (fBody (sA 2)), scope := fScope (sA 2), globals := 0, closure := [], defaults := Value.none, kwdefaults := Value.none } }
noncomputable def ob76 (P : Params) : Obj := { cls := Value.type "builtin_function_or_method", data := Data.fields #[Value.builtin "type.__prepare__", Value.type "type"] }
noncomputable def ob50 (P : Params) : Obj := { cls := Value.none, data := Data.fields #[Value.int 2 0, Value.int 0 0, Value.ref 18, Value.int 5 0, Value.int 0 0, Value.ref 25, Value.int 9 0, Value.int 0 0, Value.ref 32, Value.int 16 0, Value.int 0 0, Value.ref 37, Value.int 23 0, Value.int 0 0, Value.ref 44] }
noncomputable def ob56 (P : Params) : Obj := { cls := Value.type "tuple", data := Data.seq #[] }
noncomputable def ob72 (P : Params) : Obj := { cls := Value.none, data := Data.func { name := q16, qualname := q16, params := fArgs (sA 4), body := FuncBody.stmts (fBody (sA 4)), scope := fScope (sA 4), globals := 0, closure := [], defaults := Value.none, kwdefaults := Value.none } }
noncomputable def ob64 (P : Params) : Obj := { cls := Value.none, data := Data.fields #[] }
noncomputable def ob80 (P : Params) : Obj := { cls := Value.type "code", data := Data.fields #[Value.str (q17) 222, Value.str (q17) 223, Value.str (q1) 224, Value.int 23 0, Value.int 0 0, Value.int 0 0, Value.int 0 0, Value.int 0 0, Value.ref 42, Value.bool Bool.false, Value.int 181 0, Value.ref 43, Value.none, Value.none, Value.none, Value.none, Value.int 225 0, Value.int 23 0, Value.str (q1) 226] }
noncomputable def ob54 (P : Params) : Obj := { cls := Value.type "code", data := Data.fields #[Value.str (q13) 189, Value.str (q13) 190, Value.str (q1) 191, Value.int 2 0, Value.int 1 0, Value.int 0 0, Value.int 0 0, Value.int 3 0, Value.ref 15, Value.bool Bool.true, Value.int 181 0, Value.ref 16, Value.none, Value.none, Value.none, Value.ref 17, Value.int 192 0, Value.int 2 0, Value.str (q1) 193] }
noncomputable def ob70 (P : Params) : Obj := { cls := Value.type "tuple", data := Data.seq #[] }
noncomputable def ob86 (P : Params) : Obj := { cls := Value.type "super", data := Data.fields #[Value.ref 48, Value.ref 48, Value.ref 48] }
noncomputable def ob62 (P : Params) : Obj := { cls := Value.type "function", data := Data.func { name := q14, qualname := q14, params := fArgs (sA 2), body := FuncBody.stmts (fBody (sA 2)), scope := fScope (sA 2), globals := 3, closure := [], defaults := Value.none, kwdefaults := Value.none, pyModule := Value.str (q22) 187, code := Value.ref 25 } }
noncomputable def ob78 (P : Params) : Obj := { cls := Value.type "tuple", data := Data.seq #[] }
noncomputable def ob58 (P : Params) : Obj := { cls := Value.type "tuple", data := Data.seq #[Value.str (q24) 198, Value.str (q25) 199] }
noncomputable def ob74 (P : Params) : Obj := { cls := Value.type "function", data := Data.func { name := q16, qualname := q16, params := fArgs (sA 4), body := FuncBody.stmts (fBody (sA 4)), scope := fScope (sA 4), globals := 3, closure := [], defaults := Value.none, kwdefaults := Value.none, pyModule := Value.str (q22) 187, code := Value.ref 37 } }
noncomputable def ob66 (P : Params) : Obj := { cls := Value.type "tuple", data := Data.seq #[] }
noncomputable def ob82 (P : Params) : Obj := { cls := Value.type "tuple", data := Data.seq #[] }
noncomputable def ob103 (P : Params) : Obj := { cls := Value.type "dict", data := Data.dict #[{ hash := PyData.keyHash P (q3), key := Value.str (q3) 165, val := Value.str (q4) 218 }, { hash := PyData.keyHash P (q5), key := Value.str (q5) 166, val := Value.none }, { hash := PyData.keyHash P (q6), key := Value.str (q6) 167, val := Value.none }, { hash := PyData.keyHash P (q7), key := Value.str (q7) 168, val := Value.builtin "__main__.__loader__#opaque" }, { hash := PyData.keyHash P (q8), key := Value.str (q8) 169, val := Value.none }, { hash := PyData.keyHash P (q9), key := Value.str (q9) 170, val := Value.ref 6 }, { hash := PyData.keyHash P (q10), key := Value.str (q10) 171, val := Value.ref 4 }, { hash := PyData.keyHash P (q11), key := Value.str (q11) 173, val := Value.str (q1) 172 }, { hash := PyData.keyHash P (q12), key := Value.str (q12) 174, val := Value.none }, { hash := PyData.keyHash P (q13), key := Value.str (q13) 194, val := Value.ref 19 }, { hash := PyData.keyHash P (q14), key := Value.str (q14) 202, val := Value.ref 26 }, { hash := PyData.keyHash P (q15), key := Value.str (q15) 211, val := Value.ref 33 }, { hash := PyData.keyHash P (q16), key := Value.str (q16) 217, val := Value.ref 38 }, { hash := PyData.keyHash P (q17), key := Value.str (q17) 237, val := Value.ref 48 }, { hash := PyData.keyHash P (q27), key := Value.str (q27) 253, val := Value.ref 61 }, { hash := PyData.keyHash P (q28), key := Value.str (q28) 269, val := Value.ref 73 }] 16 }
noncomputable def ob102 (P : Params) : Obj := { cls := Value.type "builtin_function_or_method", data := Data.fields #[Value.builtin "object.__init_subclass__", Value.ref 61] }
noncomputable def ob113 (P : Params) : Obj := { cls := Value.type "tuple", data := Data.seq #[] }
noncomputable def ob94 (P : Params) : Obj := { cls := Value.type "tuple", data := Data.seq #[] }
noncomputable def ob109 (P : Params) : Obj := { cls := Value.type "tuple", data := Data.seq #[] }
noncomputable def ob117 (P : Params) : Obj := { cls := Value.type "builtin_function_or_method", data := Data.fields #[Value.builtin "object.__init_subclass__", Value.ref 73] }
noncomputable def ob98 (P : Params) : Obj := { cls := Value.type "tuple", data := Data.seq #[] }
noncomputable def ob107 (P : Params) : Obj := { cls := Value.type "builtin_function_or_method", data := Data.fields #[Value.builtin "type.__prepare__", Value.type "type"] }
noncomputable def ob115 (P : Params) : Obj := { cls := Value.type "type", data := Data.cls { name := q28, bases := [Value.ref 48], mro := [Value.ref 73, Value.ref 48, Value.type "ValueError", Value.type "Exception", Value.type "BaseException", Value.type "object"], ns := 72, qualname := q28 }, slots := #[Option.some (Value.ref 64), Option.none, Option.some (Value.str (q28) 254), Option.some (Value.str (q28) 262), Option.some (Value.builtin "ValueError.__new__"), Option.some (Value.bool Bool.true)] }
noncomputable def ob96 (P : Params) : Obj := { cls := Value.type "code", data := Data.fields #[Value.str (q27) 240, Value.str (q27) 241, Value.str (q1) 242, Value.int 25 0, Value.int 0 0, Value.int 0 0, Value.int 0 0, Value.int 0 0, Value.ref 55, Value.bool Bool.false, Value.int 181 0, Value.ref 56, Value.none, Value.none, Value.none, Value.none, Value.int 243 0, Value.int 25 0, Value.str (q1) 244] }
noncomputable def ob111 (P : Params) : Obj := { cls := Value.type "code", data := Data.fields #[Value.str (q28) 256, Value.str (q28) 257, Value.str (q1) 258, Value.int 27 0, Value.int 0 0, Value.int 0 0, Value.int 0 0, Value.int 0 0, Value.ref 67, Value.bool Bool.false, Value.int 181 0, Value.ref 68, Value.none, Value.none, Value.none, Value.none, Value.int 259 0, Value.int 27 0, Value.str (q1) 260] }
noncomputable def ob92 (P : Params) : Obj := { cls := Value.type "builtin_function_or_method", data := Data.fields #[Value.builtin "type.__prepare__", Value.type "type"] }
noncomputable def ob100 (P : Params) : Obj := { cls := Value.type "type", data := Data.cls { name := q27, bases := [Value.ref 48], mro := [Value.ref 61, Value.ref 48, Value.type "ValueError", Value.type "Exception", Value.type "BaseException", Value.type "object"], ns := 60, qualname := q27 }, slots := #[Option.some (Value.ref 52), Option.none, Option.some (Value.str (q27) 238), Option.some (Value.str (q27) 246), Option.some (Value.builtin "ValueError.__new__"), Option.some (Value.bool Bool.true)] }
noncomputable def ob106 (P : Params) : Obj := { cls := Value.type "tuple", data := Data.seq #[Value.ref 48] }
noncomputable def ob105 (P : Params) : Obj := { cls := Value.type "type", data := Data.cls { name := q17, bases := [Value.type "ValueError"], mro := [Value.ref 48, Value.type "ValueError", Value.type "Exception", Value.type "BaseException", Value.type "object"], ns := 47, qualname := q17, subclasses := [Value.ref 61, Value.ref 73] }, slots := #[Option.some (Value.ref 39), Option.none, Option.some (Value.str (q17) 220), Option.some (Value.str (q17) 228), Option.some (Value.builtin "ValueError.__new__"), Option.some (Value.bool Bool.true)] }
noncomputable def ob114 (P : Params) : Obj := { cls := Value.type "dict", data := Data.dict #[{ hash := PyData.keyHash P (q18), key := Value.str (q18) 261, val := Value.str (q4) 218 }, { hash := PyData.keyHash P (q19), key := Value.str (q19) 265, val := Value.int 27 264 }, { hash := PyData.keyHash P (q20), key := Value.str (q20) 266, val := Value.ref 71 }, { hash := PyData.keyHash P (q5), key := Value.str (q5) 267, val := Value.none }] 2 }
noncomputable def ob95 (P : Params) : Obj := { cls := Value.none, data := Data.fields #[] }
noncomputable def ob104 (P : Params) : Obj := { cls := Value.none, data := Data.fields #[Value.int 2 0, Value.int 0 0, Value.ref 18, Value.int 5 0, Value.int 0 0, Value.ref 25, Value.int 9 0, Value.int 0 0, Value.ref 32, Value.int 16 0, Value.int 0 0, Value.ref 37, Value.int 23 0, Value.int 0 0, Value.ref 44, Value.int 25 0, Value.int 0 0, Value.ref 57, Value.int 27 0, Value.int 0 0, Value.ref 69] }
noncomputable def ob110 (P : Params) : Obj := { cls := Value.none, data := Data.fields #[] }
noncomputable def ob91 (P : Params) : Obj := { cls := Value.type "tuple", data := Data.seq #[Value.ref 48] }
noncomputable def ob99 (P : Params) : Obj := { cls := Value.type "dict", data := Data.dict #[{ hash := PyData.keyHash P (q18), key := Value.str (q18) 245, val := Value.str (q4) 218 }, { hash := PyData.keyHash P (q19), key := Value.str (q19) 249, val := Value.int 25 248 }, { hash := PyData.keyHash P (q20), key := Value.str (q20) 250, val := Value.ref 59 }, { hash := PyData.keyHash P (q5), key := Value.str (q5) 251, val := Value.none }] 2 }
noncomputable def ob108 (P : Params) : Obj := { cls := Value.type "dict", data := Data.dict #[{ hash := PyData.keyHash P (q18), key := Value.str (q18) 261, val := Value.str (q4) 218 }, { hash := PyData.keyHash P (q23), key := Value.str (q23) 263, val := Value.str (q28) 262 }, { hash := PyData.keyHash P (q19), key := Value.str (q19) 265, val := Value.int 27 264 }, { hash := PyData.keyHash P (q20), key := Value.str (q20) 266, val := Value.ref 71 }] 4 }
noncomputable def ob116 (P : Params) : Obj := { cls := Value.type "super", data := Data.fields #[Value.ref 73, Value.ref 73, Value.ref 73] }
noncomputable def ob97 (P : Params) : Obj := { cls := Value.type "frame", slots := #[Option.some (Value.ref 57), Option.some (Value.ref 3), Option.some (Value.ref 54), Option.none, Option.some (Value.str (q4) 218), Option.none, Option.some (Value.ref 0)] }
noncomputable def ob112 (P : Params) : Obj := { cls := Value.type "frame", slots := #[Option.some (Value.ref 69), Option.some (Value.ref 3), Option.some (Value.ref 66), Option.none, Option.some (Value.str (q4) 218), Option.none, Option.some (Value.ref 0)] }
noncomputable def ob93 (P : Params) : Obj := { cls := Value.type "dict", data := Data.dict #[{ hash := PyData.keyHash P (q18), key := Value.str (q18) 245, val := Value.str (q4) 218 }, { hash := PyData.keyHash P (q23), key := Value.str (q23) 247, val := Value.str (q27) 246 }, { hash := PyData.keyHash P (q19), key := Value.str (q19) 249, val := Value.int 25 248 }, { hash := PyData.keyHash P (q20), key := Value.str (q20) 250, val := Value.ref 59 }] 4 }
noncomputable def ob101 (P : Params) : Obj := { cls := Value.type "super", data := Data.fields #[Value.ref 61, Value.ref 61, Value.ref 61] }
noncomputable def ob133 (P : Params) : Obj := { cls := Value.type "dict", data := Data.dict #[{ hash := PyData.keyHash P (q3), key := Value.str (q3) 165, val := Value.str (q4) 218 }, { hash := PyData.keyHash P (q5), key := Value.str (q5) 166, val := Value.none }, { hash := PyData.keyHash P (q6), key := Value.str (q6) 167, val := Value.none }, { hash := PyData.keyHash P (q7), key := Value.str (q7) 168, val := Value.builtin "__main__.__loader__#opaque" }, { hash := PyData.keyHash P (q8), key := Value.str (q8) 169, val := Value.none }, { hash := PyData.keyHash P (q9), key := Value.str (q9) 170, val := Value.ref 6 }, { hash := PyData.keyHash P (q10), key := Value.str (q10) 171, val := Value.ref 4 }, { hash := PyData.keyHash P (q11), key := Value.str (q11) 173, val := Value.str (q1) 172 }, { hash := PyData.keyHash P (q12), key := Value.str (q12) 174, val := Value.none }, { hash := PyData.keyHash P (q13), key := Value.str (q13) 194, val := Value.ref 19 }, { hash := PyData.keyHash P (q14), key := Value.str (q14) 202, val := Value.ref 26 }, { hash := PyData.keyHash P (q15), key := Value.str (q15) 211, val := Value.ref 33 }, { hash := PyData.keyHash P (q16), key := Value.str (q16) 217, val := Value.ref 38 }, { hash := PyData.keyHash P (q17), key := Value.str (q17) 237, val := Value.ref 48 }, { hash := PyData.keyHash P (q27), key := Value.str (q27) 253, val := Value.ref 61 }, { hash := PyData.keyHash P (q28), key := Value.str (q28) 269, val := Value.ref 73 }, { hash := PyData.keyHash P (q29), key := Value.str (q29) 285, val := Value.ref 85 }, { hash := PyData.keyHash P (q30), key := Value.str (q30) 301, val := Value.ref 97 }] 18 }
noncomputable def ob143 (P : Params) : Obj := { cls := Value.type "tuple", data := Data.seq #[] }
noncomputable def ob124 (P : Params) : Obj := { cls := Value.type "tuple", data := Data.seq #[] }
noncomputable def ob132 (P : Params) : Obj := { cls := Value.type "builtin_function_or_method", data := Data.fields #[Value.builtin "object.__init_subclass__", Value.ref 85] }
noncomputable def ob147 (P : Params) : Obj := { cls := Value.type "builtin_function_or_method", data := Data.fields #[Value.builtin "object.__init_subclass__", Value.ref 97] }
noncomputable def ob128 (P : Params) : Obj := { cls := Value.type "tuple", data := Data.seq #[] }
noncomputable def ob139 (P : Params) : Obj := { cls := Value.type "tuple", data := Data.seq #[] }
noncomputable def ob145 (P : Params) : Obj := { cls := Value.type "type", data := Data.cls { name := q30, bases := [Value.ref 48], mro := [Value.ref 97, Value.ref 48, Value.type "ValueError", Value.type "Exception", Value.type "BaseException", Value.type "object"], ns := 96, qualname := q30 }, slots := #[Option.some (Value.ref 88), Option.none, Option.some (Value.str (q30) 286), Option.some (Value.str (q30) 294), Option.some (Value.builtin "ValueError.__new__"), Option.some (Value.bool Bool.true)] }
noncomputable def ob126 (P : Params) : Obj := { cls := Value.type "code", data := Data.fields #[Value.str (q29) 272, Value.str (q29) 273, Value.str (q1) 274, Value.int 29 0, Value.int 0 0, Value.int 0 0, Value.int 0 0, Value.int 0 0, Value.ref 79, Value.bool Bool.false, Value.int 181 0, Value.ref 80, Value.none, Value.none, Value.none, Value.none, Value.int 275 0, Value.int 29 0, Value.str (q1) 276] }
noncomputable def ob137 (P : Params) : Obj := { cls := Value.type "builtin_function_or_method", data := Data.fields #[Value.builtin "type.__prepare__", Value.type "type"] }
noncomputable def ob130 (P : Params) : Obj := { cls := Value.type "type", data := Data.cls { name := q29, bases := [Value.ref 48], mro := [Value.ref 85, Value.ref 48, Value.type "ValueError", Value.type "Exception", Value.type "BaseException", Value.type "object"], ns := 84, qualname := q29 }, slots := #[Option.some (Value.ref 76), Option.none, Option.some (Value.str (q29) 270), Option.some (Value.str (q29) 278), Option.some (Value.builtin "ValueError.__new__"), Option.some (Value.bool Bool.true)] }
noncomputable def ob122 (P : Params) : Obj := { cls := Value.type "builtin_function_or_method", data := Data.fields #[Value.builtin "type.__prepare__", Value.type "type"] }
noncomputable def ob141 (P : Params) : Obj := { cls := Value.type "code", data := Data.fields #[Value.str (q30) 288, Value.str (q30) 289, Value.str (q1) 290, Value.int 31 0, Value.int 0 0, Value.int 0 0, Value.int 0 0, Value.int 0 0, Value.ref 91, Value.bool Bool.false, Value.int 181 0, Value.ref 92, Value.none, Value.none, Value.none, Value.none, Value.int 291 0, Value.int 31 0, Value.str (q1) 292] }
noncomputable def ob144 (P : Params) : Obj := { cls := Value.type "dict", data := Data.dict #[{ hash := PyData.keyHash P (q18), key := Value.str (q18) 293, val := Value.str (q4) 218 }, { hash := PyData.keyHash P (q19), key := Value.str (q19) 297, val := Value.int 31 296 }, { hash := PyData.keyHash P (q20), key := Value.str (q20) 298, val := Value.ref 95 }, { hash := PyData.keyHash P (q5), key := Value.str (q5) 299, val := Value.none }] 2 }
noncomputable def ob135 (P : Params) : Obj := { cls := Value.type "type", data := Data.cls { name := q17, bases := [Value.type "ValueError"], mro := [Value.ref 48, Value.type "ValueError", Value.type "Exception", Value.type "BaseException", Value.type "object"], ns := 47, qualname := q17, subclasses := [Value.ref 61, Value.ref 73, Value.ref 85, Value.ref 97] }, slots := #[Option.some (Value.ref 39), Option.none, Option.some (Value.str (q17) 220), Option.some (Value.str (q17) 228), Option.some (Value.builtin "ValueError.__new__"), Option.some (Value.bool Bool.true)] }
noncomputable def ob125 (P : Params) : Obj := { cls := Value.none, data := Data.fields #[] }
noncomputable def ob136 (P : Params) : Obj := { cls := Value.type "tuple", data := Data.seq #[Value.ref 48] }
noncomputable def ob134 (P : Params) : Obj := { cls := Value.none, data := Data.fields #[Value.int 2 0, Value.int 0 0, Value.ref 18, Value.int 5 0, Value.int 0 0, Value.ref 25, Value.int 9 0, Value.int 0 0, Value.ref 32, Value.int 16 0, Value.int 0 0, Value.ref 37, Value.int 23 0, Value.int 0 0, Value.ref 44, Value.int 25 0, Value.int 0 0, Value.ref 57, Value.int 27 0, Value.int 0 0, Value.ref 69, Value.int 29 0, Value.int 0 0, Value.ref 81, Value.int 31 0, Value.int 0 0, Value.ref 93] }
noncomputable def ob129 (P : Params) : Obj := { cls := Value.type "dict", data := Data.dict #[{ hash := PyData.keyHash P (q18), key := Value.str (q18) 277, val := Value.str (q4) 218 }, { hash := PyData.keyHash P (q19), key := Value.str (q19) 281, val := Value.int 29 280 }, { hash := PyData.keyHash P (q20), key := Value.str (q20) 282, val := Value.ref 83 }, { hash := PyData.keyHash P (q5), key := Value.str (q5) 283, val := Value.none }] 2 }
noncomputable def ob121 (P : Params) : Obj := { cls := Value.type "tuple", data := Data.seq #[Value.ref 48] }
noncomputable def ob140 (P : Params) : Obj := { cls := Value.none, data := Data.fields #[] }
noncomputable def ob146 (P : Params) : Obj := { cls := Value.type "super", data := Data.fields #[Value.ref 97, Value.ref 97, Value.ref 97] }
noncomputable def ob127 (P : Params) : Obj := { cls := Value.type "frame", slots := #[Option.some (Value.ref 81), Option.some (Value.ref 3), Option.some (Value.ref 78), Option.none, Option.some (Value.str (q4) 218), Option.none, Option.some (Value.ref 0)] }
noncomputable def ob138 (P : Params) : Obj := { cls := Value.type "dict", data := Data.dict #[{ hash := PyData.keyHash P (q18), key := Value.str (q18) 293, val := Value.str (q4) 218 }, { hash := PyData.keyHash P (q23), key := Value.str (q23) 295, val := Value.str (q30) 294 }, { hash := PyData.keyHash P (q19), key := Value.str (q19) 297, val := Value.int 31 296 }, { hash := PyData.keyHash P (q20), key := Value.str (q20) 298, val := Value.ref 95 }] 4 }
noncomputable def ob131 (P : Params) : Obj := { cls := Value.type "super", data := Data.fields #[Value.ref 85, Value.ref 85, Value.ref 85] }
noncomputable def ob123 (P : Params) : Obj := { cls := Value.type "dict", data := Data.dict #[{ hash := PyData.keyHash P (q18), key := Value.str (q18) 277, val := Value.str (q4) 218 }, { hash := PyData.keyHash P (q23), key := Value.str (q23) 279, val := Value.str (q29) 278 }, { hash := PyData.keyHash P (q19), key := Value.str (q19) 281, val := Value.int 29 280 }, { hash := PyData.keyHash P (q20), key := Value.str (q20) 282, val := Value.ref 83 }] 4 }
noncomputable def ob142 (P : Params) : Obj := { cls := Value.type "frame", slots := #[Option.some (Value.ref 93), Option.some (Value.ref 3), Option.some (Value.ref 90), Option.none, Option.some (Value.str (q4) 218), Option.none, Option.some (Value.ref 0)] }
noncomputable def ob148 (P : Params) : Obj := { cls := Value.type "dict", data := Data.dict #[{ hash := PyData.keyHash P (q3), key := Value.str (q3) 165, val := Value.str (q31) 329 }, { hash := PyData.keyHash P (q5), key := Value.str (q5) 166, val := Value.none }, { hash := PyData.keyHash P (q6), key := Value.str (q6) 167, val := Value.none }, { hash := PyData.keyHash P (q7), key := Value.str (q7) 168, val := Value.builtin "__main__.__loader__#opaque" }, { hash := PyData.keyHash P (q8), key := Value.str (q8) 169, val := Value.none }, { hash := PyData.keyHash P (q9), key := Value.str (q9) 170, val := Value.ref 6 }, { hash := PyData.keyHash P (q10), key := Value.str (q10) 171, val := Value.ref 4 }, { hash := PyData.keyHash P (q11), key := Value.str (q11) 173, val := Value.str (q1) 172 }, { hash := PyData.keyHash P (q12), key := Value.str (q12) 174, val := Value.none }, { hash := PyData.keyHash P (q13), key := Value.str (q13) 194, val := Value.ref 19 }, { hash := PyData.keyHash P (q14), key := Value.str (q14) 202, val := Value.ref 26 }, { hash := PyData.keyHash P (q15), key := Value.str (q15) 211, val := Value.ref 33 }, { hash := PyData.keyHash P (q16), key := Value.str (q16) 217, val := Value.ref 38 }, { hash := PyData.keyHash P (q17), key := Value.str (q17) 237, val := Value.ref 48 }, { hash := PyData.keyHash P (q27), key := Value.str (q27) 253, val := Value.ref 61 }, { hash := PyData.keyHash P (q28), key := Value.str (q28) 269, val := Value.ref 73 }, { hash := PyData.keyHash P (q29), key := Value.str (q29) 285, val := Value.ref 85 }, { hash := PyData.keyHash P (q30), key := Value.str (q30) 301, val := Value.ref 97 }, { hash := PyData.keyHash P (q32), key := Value.str (q32) 317, val := Value.ref 109 }, { hash := PyData.keyHash P (q33), key := Value.str (q33) 328, val := Value.ref 118 }] 20 }
noncomputable def ob162 (P : Params) : Obj := { cls := Value.type "builtin_function_or_method", data := Data.fields #[Value.builtin "object.__init_subclass__", Value.ref 109] }
noncomputable def ob154 (P : Params) : Obj := { cls := Value.type "tuple", data := Data.seq #[] }
noncomputable def ob166 (P : Params) : Obj := { cls := Value.type "tuple", data := Data.seq #[] }
noncomputable def ob158 (P : Params) : Obj := { cls := Value.type "tuple", data := Data.seq #[] }
noncomputable def ob164 (P : Params) : Obj := { cls := Value.none, data := Data.fields #[] }
noncomputable def ob156 (P : Params) : Obj := { cls := Value.type "code", data := Data.fields #[Value.str (q32) 304, Value.str (q32) 305, Value.str (q1) 306, Value.int 33 0, Value.int 0 0, Value.int 0 0, Value.int 0 0, Value.int 0 0, Value.ref 103, Value.bool Bool.false, Value.int 181 0, Value.ref 104, Value.none, Value.none, Value.none, Value.none, Value.int 307 0, Value.int 33 0, Value.str (q1) 308] }
noncomputable def ob152 (P : Params) : Obj := { cls := Value.type "builtin_function_or_method", data := Data.fields #[Value.builtin "type.__prepare__", Value.type "type"] }
noncomputable def ob168 (P : Params) : Obj := { cls := Value.type "code", data := Data.fields #[Value.str (q33) 320, Value.str (q33) 321, Value.str (q1) 322, Value.int 36 0, Value.int 3 0, Value.int 0 0, Value.int 0 0, Value.int 3 0, Value.ref 112, Value.bool Bool.true, Value.int 181 0, Value.ref 113, Value.none, Value.ref 114, Value.ref 115, Value.ref 116, Value.int 326 0, Value.int 36 0, Value.str (q1) 327] }
noncomputable def ob160 (P : Params) : Obj := { cls := Value.type "type", data := Data.cls { name := q32, bases := [Value.ref 48], mro := [Value.ref 109, Value.ref 48, Value.type "ValueError", Value.type "Exception", Value.type "BaseException", Value.type "object"], ns := 108, qualname := q32 }, slots := #[Option.some (Value.ref 100), Option.none, Option.some (Value.str (q32) 302), Option.some (Value.str (q32) 310), Option.some (Value.builtin "ValueError.__new__"), Option.some (Value.bool Bool.true)] }
noncomputable def ob150 (P : Params) : Obj := { cls := Value.type "type", data := Data.cls { name := q17, bases := [Value.type "ValueError"], mro := [Value.ref 48, Value.type "ValueError", Value.type "Exception", Value.type "BaseException", Value.type "object"], ns := 47, qualname := q17, subclasses := [Value.ref 61, Value.ref 73, Value.ref 85, Value.ref 97, Value.ref 109] }, slots := #[Option.some (Value.ref 39), Option.none, Option.some (Value.str (q17) 220), Option.some (Value.str (q17) 228), Option.some (Value.builtin "ValueError.__new__"), Option.some (Value.bool Bool.true)] }
noncomputable def ob163 (P : Params) : Obj := { cls := Value.type "tuple", data := Data.seq #[] }
noncomputable def ob155 (P : Params) : Obj := { cls := Value.none, data := Data.fields #[] }
noncomputable def ob149 (P : Params) : Obj := { cls := Value.none, data := Data.fields #[Value.int 2 0, Value.int 0 0, Value.ref 18, Value.int 5 0, Value.int 0 0, Value.ref 25, Value.int 9 0, Value.int 0 0, Value.ref 32, Value.int 16 0, Value.int 0 0, Value.ref 37, Value.int 23 0, Value.int 0 0, Value.ref 44, Value.int 25 0, Value.int 0 0, Value.ref 57, Value.int 27 0, Value.int 0 0, Value.ref 69, Value.int 29 0, Value.int 0 0, Value.ref 81, Value.int 31 0, Value.int 0 0, Value.ref 93, Value.int 33 0, Value.int 0 0, Value.ref 105, Value.int 36 0, Value.int 0 0, Value.ref 117] }
noncomputable def ob151 (P : Params) : Obj := { cls := Value.type "tuple", data := Data.seq #[Value.ref 48] }
noncomputable def ob167 (P : Params) : Obj := { cls := Value.none, data := Data.func { name := q33, qualname := q33, params := fArgs (sA 13), body := FuncBody.stmts (fBody (sA 13)), scope := fScope (sA 13), globals := 0, closure := [], defaults := Value.none, kwdefaults := Value.none } }
noncomputable def ob159 (P : Params) : Obj := { cls := Value.type "dict", data := Data.dict #[{ hash := PyData.keyHash P (q18), key := Value.str (q18) 309, val := Value.str (q4) 218 }, { hash := PyData.keyHash P (q19), key := Value.str (q19) 313, val := Value.int 33 312 }, { hash := PyData.keyHash P (q20), key := Value.str (q20) 314, val := Value.ref 107 }, { hash := PyData.keyHash P (q5), key := Value.str (q5) 315, val := Value.none }] 2 }
noncomputable def ob165 (P : Params) : Obj := { cls := Value.type "tuple", data := Data.seq #[Value.str (q34) 323, Value.str (q35) 324, Value.str (q36) 325] }
noncomputable def ob157 (P : Params) : Obj := { cls := Value.type "frame", slots := #[Option.some (Value.ref 105), Option.some (Value.ref 3), Option.some (Value.ref 102), Option.none, Option.some (Value.str (q4) 218), Option.none, Option.some (Value.ref 0)] }
noncomputable def ob153 (P : Params) : Obj := { cls := Value.type "dict", data := Data.dict #[{ hash := PyData.keyHash P (q18), key := Value.str (q18) 309, val := Value.str (q4) 218 }, { hash := PyData.keyHash P (q23), key := Value.str (q23) 311, val := Value.str (q32) 310 }, { hash := PyData.keyHash P (q19), key := Value.str (q19) 313, val := Value.int 33 312 }, { hash := PyData.keyHash P (q20), key := Value.str (q20) 314, val := Value.ref 107 }] 4 }
noncomputable def ob169 (P : Params) : Obj := { cls := Value.type "function", data := Data.func { name := q33, qualname := q33, params := fArgs (sA 13), body := FuncBody.stmts (fBody (sA 13)), scope := fScope (sA 13), globals := 3, closure := [], defaults := Value.none, kwdefaults := Value.none, pyModule := Value.str (q37) 318, code := Value.ref 117 } }
noncomputable def ob161 (P : Params) : Obj := { cls := Value.type "super", data := Data.fields #[Value.ref 109, Value.ref 109, Value.ref 109] }
noncomputable def ob170 (P : Params) : Obj := { cls := Value.type "dict", data := Data.dict #[{ hash := PyData.keyHash P (q3), key := Value.str (q3) 165, val := Value.str (q38) 383 }, { hash := PyData.keyHash P (q5), key := Value.str (q5) 166, val := Value.none }, { hash := PyData.keyHash P (q6), key := Value.str (q6) 167, val := Value.none }, { hash := PyData.keyHash P (q7), key := Value.str (q7) 168, val := Value.builtin "__main__.__loader__#opaque" }, { hash := PyData.keyHash P (q8), key := Value.str (q8) 169, val := Value.none }, { hash := PyData.keyHash P (q9), key := Value.str (q9) 170, val := Value.ref 6 }, { hash := PyData.keyHash P (q10), key := Value.str (q10) 171, val := Value.ref 4 }, { hash := PyData.keyHash P (q11), key := Value.str (q11) 173, val := Value.str (q1) 172 }, { hash := PyData.keyHash P (q12), key := Value.str (q12) 174, val := Value.none }, { hash := PyData.keyHash P (q13), key := Value.str (q13) 194, val := Value.ref 19 }, { hash := PyData.keyHash P (q14), key := Value.str (q14) 202, val := Value.ref 26 }, { hash := PyData.keyHash P (q15), key := Value.str (q15) 211, val := Value.ref 33 }, { hash := PyData.keyHash P (q16), key := Value.str (q16) 217, val := Value.ref 38 }, { hash := PyData.keyHash P (q17), key := Value.str (q17) 237, val := Value.ref 48 }, { hash := PyData.keyHash P (q27), key := Value.str (q27) 253, val := Value.ref 61 }, { hash := PyData.keyHash P (q28), key := Value.str (q28) 269, val := Value.ref 73 }, { hash := PyData.keyHash P (q29), key := Value.str (q29) 285, val := Value.ref 85 }, { hash := PyData.keyHash P (q30), key := Value.str (q30) 301, val := Value.ref 97 }, { hash := PyData.keyHash P (q32), key := Value.str (q32) 317, val := Value.ref 109 }, { hash := PyData.keyHash P (q33), key := Value.str (q33) 328, val := Value.ref 118 }, { hash := PyData.keyHash P (q39), key := Value.str (q39) 382, val := Value.ref 156 }, { hash := PyData.keyHash P (q40), key := Value.str (q40) 386, val := Value.int 60 385 }, { hash := PyData.keyHash P (q41), key := Value.str (q41) 388, val := Value.int 999999 387 }] 23 }
noncomputable def ob180 (P : Params) : Obj := { cls := Value.none, data := Data.fields #[] }
noncomputable def ob212 (P : Params) : Obj := { cls := Value.type "super", data := Data.fields #[Value.ref 156, Value.ref 156, Value.ref 156] }
noncomputable def ob196 (P : Params) : Obj := { cls := Value.type "tuple", data := Data.seq #[] }
noncomputable def ob188 (P : Params) : Obj := { cls := Value.type "tuple", data := Data.seq #[Value.str (q42) 353, Value.str (q43) 354] }
noncomputable def ob204 (P : Params) : Obj := { cls := Value.none, data := Data.func { name := q44, qualname := q45, params := fArgs (mA 15 3), body := FuncBody.stmts (fBody (mA 15 3)), scope := fScope (mA 15 3), globals := 0, closure := [], defaults := Value.none, kwdefaults := Value.none } }
noncomputable def ob172 (P : Params) : Obj := { cls := Value.type "tuple", data := Data.seq #[] }
noncomputable def ob184 (P : Params) : Obj := { cls := Value.type "code", data := Data.fields #[Value.str (q46) 343, Value.str (q47) 344, Value.str (q1) 345, Value.int 41 0, Value.int 1 0, Value.int 0 0, Value.int 0 0, Value.int 3 0, Value.ref 126, Value.bool Bool.true, Value.int 181 0, Value.ref 127, Value.none, Value.ref 128, Value.ref 129, Value.ref 130, Value.int 347 0, Value.int 41 0, Value.str (q1) 348] }
noncomputable def ob200 (P : Params) : Obj := { cls := Value.type "tuple", data := Data.seq #[] }
noncomputable def ob192 (P : Params) : Obj := { cls := Value.type "function", data := Data.func { name := q48, qualname := q49, params := fArgs (mA 15 1), body := FuncBody.stmts (fBody (mA 15 1)), scope := fScope (mA 15 1), globals := 3, closure := [], defaults := Value.none, kwdefaults := Value.none, pyModule := Value.str (q31) 329, code := Value.ref 138 } }
noncomputable def ob208 (P : Params) : Obj := { cls := Value.type "dict", data := Data.dict #[{ hash := PyData.keyHash P (q18), key := Value.str (q18) 338, val := Value.str (q31) 329 }, { hash := PyData.keyHash P (q19), key := Value.str (q19) 342, val := Value.int 39 341 }, { hash := PyData.keyHash P (q46), key := Value.str (q46) 349, val := Value.ref 132 }, { hash := PyData.keyHash P (q48), key := Value.str (q48) 357, val := Value.ref 139 }, { hash := PyData.keyHash P (q50), key := Value.str (q50) 366, val := Value.ref 146 }, { hash := PyData.keyHash P (q44), key := Value.str (q44) 373, val := Value.ref 153 }, { hash := PyData.keyHash P (q20), key := Value.str (q20) 375, val := Value.ref 154 }, { hash := PyData.keyHash P (q51), key := Value.str (q51) 377, val := Value.ref 157 }, { hash := PyData.keyHash P (q21), key := Value.str (q21) 379, val := Value.ref 158 }, { hash := PyData.keyHash P (q5), key := Value.str (q5) 380, val := Value.none }] 4 }
noncomputable def ob176 (P : Params) : Obj := { cls := Value.none, data := Data.fields #[Value.int 41 0, Value.int 4 0, Value.ref 131, Value.int 44 0, Value.int 4 0, Value.ref 138, Value.int 47 0, Value.int 4 0, Value.ref 145, Value.int 54 0, Value.int 4 0, Value.ref 152] }
noncomputable def ob182 (P : Params) : Obj := { cls := Value.type "tuple", data := Data.seq #[] }
noncomputable def ob198 (P : Params) : Obj := { cls := Value.type "code", data := Data.fields #[Value.str (q50) 358, Value.str (q52) 359, Value.str (q1) 360, Value.int 47 0, Value.int 2 0, Value.int 0 0, Value.int 0 0, Value.int 3 0, Value.ref 140, Value.bool Bool.true, Value.int 181 0, Value.ref 141, Value.none, Value.ref 142, Value.ref 143, Value.ref 144, Value.int 364 0, Value.int 47 0, Value.str (q1) 365] }
noncomputable def ob190 (P : Params) : Obj := { cls := Value.none, data := Data.func { name := q48, qualname := q49, params := fArgs (mA 15 1), body := FuncBody.stmts (fBody (mA 15 1)), scope := fScope (mA 15 1), globals := 0, closure := [], defaults := Value.none, kwdefaults := Value.none } }
noncomputable def ob206 (P : Params) : Obj := { cls := Value.type "function", data := Data.func { name := q44, qualname := q45, params := fArgs (mA 15 3), body := FuncBody.stmts (fBody (mA 15 3)), scope := fScope (mA 15 3), globals := 3, closure := [], defaults := Value.none, kwdefaults := Value.none, pyModule := Value.str (q31) 329, code := Value.ref 152 } }
noncomputable def ob174 (P : Params) : Obj := { cls := Value.type "dict", data := Data.dict #[{ hash := PyData.keyHash P (q18), key := Value.str (q18) 338, val := Value.str (q31) 329 }, { hash := PyData.keyHash P (q23), key := Value.str (q23) 340, val := Value.str (q39) 339 }, { hash := PyData.keyHash P (q19), key := Value.str (q19) 342, val := Value.int 39 341 }, { hash := PyData.keyHash P (q46), key := Value.str (q46) 349, val := Value.ref 132 }, { hash := PyData.keyHash P (q48), key := Value.str (q48) 357, val := Value.ref 139 }, { hash := PyData.keyHash P (q50), key := Value.str (q50) 366, val := Value.ref 146 }, { hash := PyData.keyHash P (q44), key := Value.str (q44) 373, val := Value.ref 153 }, { hash := PyData.keyHash P (q20), key := Value.str (q20) 375, val := Value.ref 154 }] 8 }
noncomputable def ob186 (P : Params) : Obj := { cls := Value.type "tuple", data := Data.seq #[] }
noncomputable def ob202 (P : Params) : Obj := { cls := Value.type "tuple", data := Data.seq #[Value.str (q42) 370] }
noncomputable def ob194 (P : Params) : Obj := { cls := Value.none, data := Data.fields #[] }
noncomputable def ob210 (P : Params) : Obj := { cls := Value.type "getset_descriptor", data := Data.fields #[Value.str (q51) 376, Value.ref 156, Value.builtin "function.__dict__", Value.builtin "function.__dict__#set"] }
noncomputable def ob178 (P : Params) : Obj := { cls := Value.type "frame", slots := #[Option.some (Value.ref 124), Option.some (Value.ref 3), Option.some (Value.ref 121), Option.none, Option.some (Value.str (q31) 329), Option.none, Option.some (Value.ref 0)] }
noncomputable def ob181 (P : Params) : Obj := { cls := Value.type "tuple", data := Data.seq #[Value.str (q42) 346] }
noncomputable def ob213 (P : Params) : Obj := { cls := Value.type "builtin_function_or_method", data := Data.fields #[Value.builtin "object.__init_subclass__", Value.ref 156] }
noncomputable def ob197 (P : Params) : Obj := { cls := Value.none, data := Data.func { name := q50, qualname := q52, params := fArgs (mA 15 2), body := FuncBody.stmts (fBody (mA 15 2)), scope := fScope (mA 15 2), globals := 0, closure := [], defaults := Value.none, kwdefaults := Value.none } }
noncomputable def ob189 (P : Params) : Obj := { cls := Value.type "tuple", data := Data.seq #[] }
noncomputable def ob205 (P : Params) : Obj := { cls := Value.type "code", data := Data.fields #[Value.str (q44) 367, Value.str (q45) 368, Value.str (q1) 369, Value.int 54 0, Value.int 1 0, Value.int 0 0, Value.int 0 0, Value.int 3 0, Value.ref 147, Value.bool Bool.true, Value.int 181 0, Value.ref 148, Value.none, Value.ref 149, Value.ref 150, Value.ref 151, Value.int 371 0, Value.int 54 0, Value.str (q1) 372] }
noncomputable def ob173 (P : Params) : Obj := { cls := Value.type "builtin_function_or_method", data := Data.fields #[Value.builtin "type.__prepare__", Value.type "type"] }
noncomputable def ob171 (P : Params) : Obj := { cls := Value.none, data := Data.fields #[Value.int 2 0, Value.int 0 0, Value.ref 18, Value.int 5 0, Value.int 0 0, Value.ref 25, Value.int 9 0, Value.int 0 0, Value.ref 32, Value.int 16 0, Value.int 0 0, Value.ref 37, Value.int 23 0, Value.int 0 0, Value.ref 44, Value.int 25 0, Value.int 0 0, Value.ref 57, Value.int 27 0, Value.int 0 0, Value.ref 69, Value.int 29 0, Value.int 0 0, Value.ref 81, Value.int 31 0, Value.int 0 0, Value.ref 93, Value.int 33 0, Value.int 0 0, Value.ref 105, Value.int 36 0, Value.int 0 0, Value.ref 117, Value.int 39 0, Value.int 0 0, Value.ref 124] }
noncomputable def ob185 (P : Params) : Obj := { cls := Value.type "function", data := Data.func { name := q46, qualname := q47, params := fArgs (mA 15 0), body := FuncBody.stmts (fBody (mA 15 0)), scope := fScope (mA 15 0), globals := 3, closure := [], defaults := Value.none, kwdefaults := Value.none, pyModule := Value.str (q31) 329, code := Value.ref 131 } }
noncomputable def ob201 (P : Params) : Obj := { cls := Value.none, data := Data.fields #[] }
noncomputable def ob193 (P : Params) : Obj := { cls := Value.type "tuple", data := Data.seq #[] }
noncomputable def ob209 (P : Params) : Obj := { cls := Value.type "type", data := Data.cls { name := q39, bases := [Value.type "object"], mro := [Value.ref 156, Value.type "object"], ns := 155, qualname := q39 }, slots := #[Option.none, Option.none, Option.some (Value.str (q39) 331), Option.some (Value.str (q39) 339), Option.some (Value.builtin "object.__new__"), Option.some (Value.bool Bool.true)] }
noncomputable def ob177 (P : Params) : Obj := { cls := Value.type "code", data := Data.fields #[Value.str (q39) 333, Value.str (q39) 334, Value.str (q1) 335, Value.int 39 0, Value.int 0 0, Value.int 0 0, Value.int 0 0, Value.int 0 0, Value.ref 122, Value.bool Bool.false, Value.int 181 0, Value.ref 123, Value.none, Value.none, Value.none, Value.none, Value.int 336 0, Value.int 39 0, Value.str (q1) 337] }
noncomputable def ob183 (P : Params) : Obj := { cls := Value.none, data := Data.func { name := q46, qualname := q47, params := fArgs (mA 15 0), body := FuncBody.stmts (fBody (mA 15 0)), scope := fScope (mA 15 0), globals := 0, closure := [], defaults := Value.none, kwdefaults := Value.none } }
noncomputable def ob199 (P : Params) : Obj := { cls := Value.type "function", data := Data.func { name := q50, qualname := q52, params := fArgs (mA 15 2), body := FuncBody.stmts (fBody (mA 15 2)), scope := fScope (mA 15 2), globals := 3, closure := [], defaults := Value.none, kwdefaults := Value.none, pyModule := Value.str (q31) 329, code := Value.ref 145 } }
noncomputable def ob191 (P : Params) : Obj := { cls := Value.type "code", data := Data.fields #[Value.str (q48) 350, Value.str (q49) 351, Value.str (q1) 352, Value.int 44 0, Value.int 2 0, Value.int 0 0, Value.int 0 0, Value.int 3 0, Value.ref 133, Value.bool Bool.true, Value.int 181 0, Value.ref 134, Value.none, Value.ref 135, Value.ref 136, Value.ref 137, Value.int 355 0, Value.int 44 0, Value.str (q1) 356] }
noncomputable def ob207 (P : Params) : Obj := { cls := Value.type "tuple", data := Data.seq #[Value.str (q53) 374] }
noncomputable def ob175 (P : Params) : Obj := { cls := Value.type "tuple", data := Data.seq #[] }
noncomputable def ob187 (P : Params) : Obj := { cls := Value.none, data := Data.fields #[] }
noncomputable def ob203 (P : Params) : Obj := { cls := Value.type "tuple", data := Data.seq #[] }
noncomputable def ob195 (P : Params) : Obj := { cls := Value.type "tuple", data := Data.seq #[Value.str (q42) 361, Value.str (q54) 362, Value.str (q43) 363] }
noncomputable def ob211 (P : Params) : Obj := { cls := Value.type "getset_descriptor", data := Data.fields #[Value.str (q21) 378, Value.ref 156, Value.builtin "ExceptionGroup.__weakref__", Value.none] }
noncomputable def ob179 (P : Params) : Obj := { cls := Value.type "tuple", data := Data.seq #[] }
noncomputable def ob214 (P : Params) : Obj := { cls := Value.type "dict", data := Data.dict #[{ hash := PyData.keyHash P (q3), key := Value.str (q3) 165, val := Value.str (q38) 383 }, { hash := PyData.keyHash P (q5), key := Value.str (q5) 166, val := Value.none }, { hash := PyData.keyHash P (q6), key := Value.str (q6) 167, val := Value.none }, { hash := PyData.keyHash P (q7), key := Value.str (q7) 168, val := Value.builtin "__main__.__loader__#opaque" }, { hash := PyData.keyHash P (q8), key := Value.str (q8) 169, val := Value.none }, { hash := PyData.keyHash P (q9), key := Value.str (q9) 170, val := Value.ref 6 }, { hash := PyData.keyHash P (q10), key := Value.str (q10) 171, val := Value.ref 4 }, { hash := PyData.keyHash P (q11), key := Value.str (q11) 173, val := Value.str (q1) 172 }, { hash := PyData.keyHash P (q12), key := Value.str (q12) 174, val := Value.none }, { hash := PyData.keyHash P (q13), key := Value.str (q13) 194, val := Value.ref 19 }, { hash := PyData.keyHash P (q14), key := Value.str (q14) 202, val := Value.ref 26 }, { hash := PyData.keyHash P (q15), key := Value.str (q15) 211, val := Value.ref 33 }, { hash := PyData.keyHash P (q16), key := Value.str (q16) 217, val := Value.ref 38 }, { hash := PyData.keyHash P (q17), key := Value.str (q17) 237, val := Value.ref 48 }, { hash := PyData.keyHash P (q27), key := Value.str (q27) 253, val := Value.ref 61 }, { hash := PyData.keyHash P (q28), key := Value.str (q28) 269, val := Value.ref 73 }, { hash := PyData.keyHash P (q29), key := Value.str (q29) 285, val := Value.ref 85 }, { hash := PyData.keyHash P (q30), key := Value.str (q30) 301, val := Value.ref 97 }, { hash := PyData.keyHash P (q32), key := Value.str (q32) 317, val := Value.ref 109 }, { hash := PyData.keyHash P (q33), key := Value.str (q33) 328, val := Value.ref 118 }, { hash := PyData.keyHash P (q39), key := Value.str (q39) 382, val := Value.ref 156 }, { hash := PyData.keyHash P (q40), key := Value.str (q40) 386, val := Value.int 60 385 }, { hash := PyData.keyHash P (q41), key := Value.str (q41) 388, val := Value.int 999999 387 }, { hash := PyData.keyHash P (q55), key := Value.str (q55) 542, val := Value.ref 275 }] 24 }
noncomputable def ob310 (P : Params) : Obj := { cls := Value.type "tuple", data := Data.seq #[] }
noncomputable def ob246 (P : Params) : Obj := { cls := Value.type "tuple", data := Data.seq #[Value.str (q42) 427, Value.str (q25) 428] }
noncomputable def ob278 (P : Params) : Obj := { cls := Value.type "function", data := Data.func { name := q56, qualname := q57, params := fArgs (mA 19 7), body := FuncBody.stmts (fBody (mA 19 7)), scope := fScope (mA 19 7), globals := 3, closure := [], defaults := Value.none, kwdefaults := Value.none, pyModule := Value.str (q38) 383, code := Value.ref 222 } }
noncomputable def ob326 (P : Params) : Obj := { cls := Value.type "code", data := Data.fields #[Value.str (q58) 521, Value.str (q59) 522, Value.str (q1) 523, Value.int 158 0, Value.int 1 0, Value.int 0 0, Value.int 0 0, Value.int 3 0, Value.ref 266, Value.bool Bool.true, Value.int 181 0, Value.ref 267, Value.none, Value.ref 268, Value.ref 269, Value.ref 270, Value.int 525 0, Value.int 158 0, Value.str (q1) 526] }
noncomputable def ob262 (P : Params) : Obj := { cls := Value.none, data := Data.func { name := q60, qualname := q61, params := fArgs (mA 19 5), body := FuncBody.stmts (fBody (mA 19 5)), scope := fScope (mA 19 5), globals := 0, closure := [], defaults := Value.none, kwdefaults := Value.none } }
noncomputable def ob230 (P : Params) : Obj := { cls := Value.type "tuple", data := Data.seq #[] }
noncomputable def ob294 (P : Params) : Obj := { cls := Value.none, data := Data.fields #[] }
noncomputable def ob318 (P : Params) : Obj := { cls := Value.none, data := Data.func { name := q62, qualname := q63, params := fArgs (mA 19 13), body := FuncBody.stmts (fBody (mA 19 13)), scope := fScope (mA 19 13), globals := 0, closure := [], defaults := Value.none, kwdefaults := Value.none } }
noncomputable def ob254 (P : Params) : Obj := { cls := Value.type "tuple", data := Data.seq #[] }
noncomputable def ob222 (P : Params) : Obj := { cls := Value.type "frame", slots := #[Option.some (Value.ref 166), Option.some (Value.ref 3), Option.some (Value.ref 163), Option.none, Option.some (Value.str (q38) 383), Option.none, Option.some (Value.ref 0)] }
noncomputable def ob286 (P : Params) : Obj := { cls := Value.type "tuple", data := Data.seq #[] }
noncomputable def ob334 (P : Params) : Obj := { cls := Value.type "builtin_function_or_method", data := Data.fields #[Value.builtin "object.__init_subclass__", Value.ref 275] }
noncomputable def ob270 (P : Params) : Obj := { cls := Value.type "code", data := Data.fields #[Value.str (q64) 450, Value.str (q65) 451, Value.str (q1) 452, Value.int 101 0, Value.int 2 0, Value.int 0 0, Value.int 0 0, Value.int 3 0, Value.ref 210, Value.bool Bool.true, Value.int 181 0, Value.ref 211, Value.none, Value.ref 212, Value.ref 213, Value.ref 214, Value.int 455 0, Value.int 101 0, Value.str (q1) 456] }
noncomputable def ob238 (P : Params) : Obj := { cls := Value.none, data := Data.fields #[] }
noncomputable def ob302 (P : Params) : Obj := { cls := Value.type "tuple", data := Data.seq #[Value.str (q42) 502, Value.str (q25) 503] }
noncomputable def ob314 (P : Params) : Obj := { cls := Value.type "tuple", data := Data.seq #[] }
noncomputable def ob250 (P : Params) : Obj := { cls := Value.type "function", data := Data.func { name := q66, qualname := q67, params := fArgs (mA 19 3), body := FuncBody.stmts (fBody (mA 19 3)), scope := fScope (mA 19 3), globals := 3, closure := [], defaults := Value.none, kwdefaults := Value.none, pyModule := Value.str (q38) 383, code := Value.ref 194 } }
noncomputable def ob218 (P : Params) : Obj := { cls := Value.type "dict", data := Data.dict #[{ hash := PyData.keyHash P (q18), key := Value.str (q18) 396, val := Value.str (q38) 383 }, { hash := PyData.keyHash P (q23), key := Value.str (q23) 398, val := Value.str (q55) 397 }, { hash := PyData.keyHash P (q19), key := Value.str (q19) 400, val := Value.int 59 399 }, { hash := PyData.keyHash P (q46), key := Value.str (q46) 408, val := Value.ref 174 }, { hash := PyData.keyHash P (q68), key := Value.str (q68) 415, val := Value.ref 181 }, { hash := PyData.keyHash P (q69), key := Value.str (q69) 423, val := Value.ref 188 }, { hash := PyData.keyHash P (q66), key := Value.str (q66) 431, val := Value.ref 195 }, { hash := PyData.keyHash P (q70), key := Value.str (q70) 439, val := Value.ref 202 }, { hash := PyData.keyHash P (q60), key := Value.str (q60) 449, val := Value.ref 209 }, { hash := PyData.keyHash P (q64), key := Value.str (q64) 457, val := Value.ref 216 }, { hash := PyData.keyHash P (q56), key := Value.str (q56) 465, val := Value.ref 223 }, { hash := PyData.keyHash P (q71), key := Value.str (q71) 476, val := Value.ref 230 }, { hash := PyData.keyHash P (q72), key := Value.str (q72) 488, val := Value.ref 237 }, { hash := PyData.keyHash P (q73), key := Value.str (q73) 498, val := Value.ref 244 }, { hash := PyData.keyHash P (q74), key := Value.str (q74) 506, val := Value.ref 251 }, { hash := PyData.keyHash P (q44), key := Value.str (q44) 513, val := Value.ref 258 }, { hash := PyData.keyHash P (q62), key := Value.str (q62) 520, val := Value.ref 265 }, { hash := PyData.keyHash P (q58), key := Value.str (q58) 527, val := Value.ref 272 }, { hash := PyData.keyHash P (q20), key := Value.str (q20) 535, val := Value.ref 273 }] 19 }
noncomputable def ob282 (P : Params) : Obj := { cls := Value.type "tuple", data := Data.seq #[] }
noncomputable def ob330 (P : Params) : Obj := { cls := Value.type "type", data := Data.cls { name := q55, bases := [Value.type "object"], mro := [Value.ref 275, Value.type "object"], ns := 274, qualname := q55 }, slots := #[Option.none, Option.none, Option.some (Value.str (q55) 389), Option.some (Value.str (q55) 397), Option.some (Value.builtin "object.__new__"), Option.some (Value.bool Bool.true)] }
noncomputable def ob266 (P : Params) : Obj := { cls := Value.none, data := Data.fields #[] }
noncomputable def ob234 (P : Params) : Obj := { cls := Value.none, data := Data.func { name := q68, qualname := q75, params := fArgs (mA 19 1), body := FuncBody.stmts (fBody (mA 19 1)), scope := fScope (mA 19 1), globals := 0, closure := [], defaults := Value.none, kwdefaults := Value.none } }
noncomputable def ob298 (P : Params) : Obj := { cls := Value.type "code", data := Data.fields #[Value.str (q73) 489, Value.str (q76) 490, Value.str (q1) 491, Value.int 139 0, Value.int 2 0, Value.int 0 0, Value.int 0 0, Value.int 3 0, Value.ref 238, Value.bool Bool.true, Value.int 181 0, Value.ref 239, Value.none, Value.ref 240, Value.ref 241, Value.ref 242, Value.int 496 0, Value.int 139 0, Value.str (q1) 497] }
noncomputable def ob322 (P : Params) : Obj := { cls := Value.none, data := Data.fields #[] }
noncomputable def ob258 (P : Params) : Obj := { cls := Value.type "tuple", data := Data.seq #[] }
noncomputable def ob226 (P : Params) : Obj := { cls := Value.type "tuple", data := Data.seq #[] }
noncomputable def ob290 (P : Params) : Obj := { cls := Value.none, data := Data.func { name := q72, qualname := q77, params := fArgs (mA 19 9), body := FuncBody.stmts (fBody (mA 19 9)), scope := fScope (mA 19 9), globals := 0, closure := [], defaults := Value.none, kwdefaults := Value.none } }
noncomputable def ob274 (P : Params) : Obj := { cls := Value.type "tuple", data := Data.seq #[Value.str (q42) 461, Value.str (q74) 462] }
noncomputable def ob242 (P : Params) : Obj := { cls := Value.type "code", data := Data.fields #[Value.str (q69) 416, Value.str (q78) 417, Value.str (q1) 418, Value.int 75 0, Value.int 2 0, Value.int 0 0, Value.int 0 0, Value.int 3 0, Value.ref 182, Value.bool Bool.true, Value.int 181 0, Value.ref 183, Value.none, Value.ref 184, Value.ref 185, Value.ref 186, Value.int 421 0, Value.int 75 0, Value.str (q1) 422] }
noncomputable def ob306 (P : Params) : Obj := { cls := Value.type "function", data := Data.func { name := q74, qualname := q79, params := fArgs (mA 19 11), body := FuncBody.stmts (fBody (mA 19 11)), scope := fScope (mA 19 11), globals := 3, closure := [], defaults := Value.none, kwdefaults := Value.none, pyModule := Value.str (q38) 383, code := Value.ref 250 } }
noncomputable def ob312 (P : Params) : Obj := { cls := Value.type "code", data := Data.fields #[Value.str (q44) 507, Value.str (q80) 508, Value.str (q1) 509, Value.int 152 0, Value.int 1 0, Value.int 0 0, Value.int 0 0, Value.int 3 0, Value.ref 252, Value.bool Bool.true, Value.int 181 0, Value.ref 253, Value.none, Value.ref 254, Value.ref 255, Value.ref 256, Value.int 511 0, Value.int 152 0, Value.str (q1) 512] }
noncomputable def ob248 (P : Params) : Obj := { cls := Value.none, data := Data.func { name := q66, qualname := q67, params := fArgs (mA 19 3), body := FuncBody.stmts (fBody (mA 19 3)), scope := fScope (mA 19 3), globals := 0, closure := [], defaults := Value.none, kwdefaults := Value.none } }
noncomputable def ob216 (P : Params) : Obj := { cls := Value.type "tuple", data := Data.seq #[] }
noncomputable def ob280 (P : Params) : Obj := { cls := Value.none, data := Data.fields #[] }
noncomputable def ob328 (P : Params) : Obj := { cls := Value.type "tuple", data := Data.seq #[Value.str (q81) 528, Value.str (q82) 529, Value.str (q83) 530, Value.str (q84) 531, Value.str (q85) 532, Value.str (q86) 533, Value.str (q87) 534] }
noncomputable def ob264 (P : Params) : Obj := { cls := Value.type "function", data := Data.func { name := q60, qualname := q61, params := fArgs (mA 19 5), body := FuncBody.stmts (fBody (mA 19 5)), scope := fScope (mA 19 5), globals := 3, closure := [], defaults := Value.none, kwdefaults := Value.none, pyModule := Value.str (q38) 383, code := Value.ref 208 } }
noncomputable def ob232 (P : Params) : Obj := { cls := Value.type "tuple", data := Data.seq #[Value.str (q42) 412] }
noncomputable def ob296 (P : Params) : Obj := { cls := Value.type "tuple", data := Data.seq #[] }
noncomputable def ob320 (P : Params) : Obj := { cls := Value.type "function", data := Data.func { name := q62, qualname := q63, params := fArgs (mA 19 13), body := FuncBody.stmts (fBody (mA 19 13)), scope := fScope (mA 19 13), globals := 3, closure := [], defaults := Value.none, kwdefaults := Value.none, pyModule := Value.str (q38) 383, code := Value.ref 264 } }
noncomputable def ob256 (P : Params) : Obj := { cls := Value.type "code", data := Data.fields #[Value.str (q70) 432, Value.str (q88) 433, Value.str (q1) 434, Value.int 84 0, Value.int 2 0, Value.int 0 0, Value.int 0 0, Value.int 3 0, Value.ref 196, Value.bool Bool.true, Value.int 181 0, Value.ref 197, Value.none, Value.ref 198, Value.ref 199, Value.ref 200, Value.int 437 0, Value.int 84 0, Value.str (q1) 438] }
noncomputable def ob224 (P : Params) : Obj := { cls := Value.none, data := Data.fields #[] }
noncomputable def ob288 (P : Params) : Obj := { cls := Value.type "tuple", data := Data.seq #[Value.str (q42) 480, Value.str (q43) 481, Value.str (q89) 482, Value.str (q90) 483, Value.str (q25) 484, Value.str (q83) 485] }
noncomputable def ob272 (P : Params) : Obj := { cls := Value.type "tuple", data := Data.seq #[] }
noncomputable def ob240 (P : Params) : Obj := { cls := Value.type "tuple", data := Data.seq #[] }
noncomputable def ob304 (P : Params) : Obj := { cls := Value.none, data := Data.func { name := q74, qualname := q79, params := fArgs (mA 19 11), body := FuncBody.stmts (fBody (mA 19 11)), scope := fScope (mA 19 11), globals := 0, closure := [], defaults := Value.none, kwdefaults := Value.none } }
noncomputable def ob316 (P : Params) : Obj := { cls := Value.type "tuple", data := Data.seq #[Value.str (q42) 517] }
noncomputable def ob252 (P : Params) : Obj := { cls := Value.none, data := Data.fields #[] }
noncomputable def ob220 (P : Params) : Obj := { cls := Value.none, data := Data.fields #[Value.int 61 0, Value.int 4 0, Value.ref 173, Value.int 72 0, Value.int 4 0, Value.ref 180, Value.int 75 0, Value.int 4 0, Value.ref 187, Value.int 79 0, Value.int 4 0, Value.ref 194, Value.int 84 0, Value.int 4 0, Value.ref 201, Value.int 88 0, Value.int 4 0, Value.ref 208, Value.int 101 0, Value.int 4 0, Value.ref 215, Value.int 110 0, Value.int 4 0, Value.ref 222, Value.int 118 0, Value.int 4 0, Value.ref 229, Value.int 129 0, Value.int 4 0, Value.ref 236, Value.int 139 0, Value.int 4 0, Value.ref 243, Value.int 148 0, Value.int 4 0, Value.ref 250, Value.int 152 0, Value.int 4 0, Value.ref 257, Value.int 155 0, Value.int 4 0, Value.ref 264, Value.int 158 0, Value.int 4 0, Value.ref 271] }
noncomputable def ob284 (P : Params) : Obj := { cls := Value.type "code", data := Data.fields #[Value.str (q71) 466, Value.str (q91) 467, Value.str (q1) 468, Value.int 118 0, Value.int 4 0, Value.int 0 0, Value.int 0 0, Value.int 3 0, Value.ref 224, Value.bool Bool.true, Value.int 181 0, Value.ref 225, Value.none, Value.ref 226, Value.ref 227, Value.ref 228, Value.int 474 0, Value.int 118 0, Value.str (q1) 475] }
noncomputable def ob332 (P : Params) : Obj := { cls := Value.type "getset_descriptor", data := Data.fields #[Value.str (q21) 538, Value.ref 275, Value.builtin "ExceptionGroup.__weakref__", Value.none] }
noncomputable def ob268 (P : Params) : Obj := { cls := Value.type "tuple", data := Data.seq #[] }
noncomputable def ob236 (P : Params) : Obj := { cls := Value.type "function", data := Data.func { name := q68, qualname := q75, params := fArgs (mA 19 1), body := FuncBody.stmts (fBody (mA 19 1)), scope := fScope (mA 19 1), globals := 3, closure := [], defaults := Value.none, kwdefaults := Value.none, pyModule := Value.str (q38) 383, code := Value.ref 180 } }
noncomputable def ob300 (P : Params) : Obj := { cls := Value.type "tuple", data := Data.seq #[] }
noncomputable def ob324 (P : Params) : Obj := { cls := Value.type "tuple", data := Data.seq #[] }
noncomputable def ob260 (P : Params) : Obj := { cls := Value.type "tuple", data := Data.seq #[Value.str (q42) 443, Value.str (q25) 444, Value.str (q92) 445, Value.str (q43) 446] }
noncomputable def ob228 (P : Params) : Obj := { cls := Value.type "code", data := Data.fields #[Value.str (q46) 401, Value.str (q93) 402, Value.str (q1) 403, Value.int 61 0, Value.int 2 0, Value.int 0 0, Value.int 0 0, Value.int 3 0, Value.ref 168, Value.bool Bool.true, Value.int 181 0, Value.ref 169, Value.none, Value.ref 170, Value.ref 171, Value.ref 172, Value.int 406 0, Value.int 61 0, Value.str (q1) 407] }
noncomputable def ob292 (P : Params) : Obj := { cls := Value.type "function", data := Data.func { name := q72, qualname := q77, params := fArgs (mA 19 9), body := FuncBody.stmts (fBody (mA 19 9)), scope := fScope (mA 19 9), globals := 3, closure := [], defaults := Value.none, kwdefaults := Value.none, pyModule := Value.str (q38) 383, code := Value.ref 236 } }
noncomputable def ob276 (P : Params) : Obj := { cls := Value.none, data := Data.func { name := q56, qualname := q57, params := fArgs (mA 19 7), body := FuncBody.stmts (fBody (mA 19 7)), scope := fScope (mA 19 7), globals := 0, closure := [], defaults := Value.none, kwdefaults := Value.none } }
noncomputable def ob244 (P : Params) : Obj := { cls := Value.type "tuple", data := Data.seq #[] }
noncomputable def ob308 (P : Params) : Obj := { cls := Value.none, data := Data.fields #[] }
noncomputable def ob311 (P : Params) : Obj := { cls := Value.none, data := Data.func { name := q44, qualname := q80, params := fArgs (mA 19 12), body := FuncBody.stmts (fBody (mA 19 12)), scope := fScope (mA 19 12), globals := 0, closure := [], defaults := Value.none, kwdefaults := Value.none } }
noncomputable def ob247 (P : Params) : Obj := { cls := Value.type "tuple", data := Data.seq #[] }
noncomputable def ob279 (P : Params) : Obj := { cls := Value.type "tuple", data := Data.seq #[] }
noncomputable def ob327 (P : Params) : Obj := { cls := Value.type "function", data := Data.func { name := q58, qualname := q59, params := fArgs (mA 19 14), body := FuncBody.stmts (fBody (mA 19 14)), scope := fScope (mA 19 14), globals := 3, closure := [], defaults := Value.none, kwdefaults := Value.none, pyModule := Value.str (q38) 383, code := Value.ref 271 } }
noncomputable def ob263 (P : Params) : Obj := { cls := Value.type "code", data := Data.fields #[Value.str (q60) 440, Value.str (q61) 441, Value.str (q1) 442, Value.int 88 0, Value.int 2 0, Value.int 0 0, Value.int 0 0, Value.int 3 0, Value.ref 203, Value.bool Bool.true, Value.int 181 0, Value.ref 204, Value.none, Value.ref 205, Value.ref 206, Value.ref 207, Value.int 447 0, Value.int 88 0, Value.str (q1) 448] }
noncomputable def ob231 (P : Params) : Obj := { cls := Value.none, data := Data.fields #[] }
noncomputable def ob295 (P : Params) : Obj := { cls := Value.type "tuple", data := Data.seq #[Value.str (q42) 492, Value.str (q54) 493, Value.str (q43) 494, Value.str (q25) 495] }
noncomputable def ob319 (P : Params) : Obj := { cls := Value.type "code", data := Data.fields #[Value.str (q62) 514, Value.str (q63) 515, Value.str (q1) 516, Value.int 155 0, Value.int 1 0, Value.int 0 0, Value.int 0 0, Value.int 3 0, Value.ref 259, Value.bool Bool.true, Value.int 181 0, Value.ref 260, Value.none, Value.ref 261, Value.ref 262, Value.ref 263, Value.int 518 0, Value.int 155 0, Value.str (q1) 519] }
noncomputable def ob255 (P : Params) : Obj := { cls := Value.none, data := Data.func { name := q70, qualname := q88, params := fArgs (mA 19 4), body := FuncBody.stmts (fBody (mA 19 4)), scope := fScope (mA 19 4), globals := 0, closure := [], defaults := Value.none, kwdefaults := Value.none } }
noncomputable def ob223 (P : Params) : Obj := { cls := Value.type "tuple", data := Data.seq #[] }
noncomputable def ob287 (P : Params) : Obj := { cls := Value.none, data := Data.fields #[] }
noncomputable def ob271 (P : Params) : Obj := { cls := Value.type "function", data := Data.func { name := q64, qualname := q65, params := fArgs (mA 19 6), body := FuncBody.stmts (fBody (mA 19 6)), scope := fScope (mA 19 6), globals := 3, closure := [], defaults := Value.none, kwdefaults := Value.none, pyModule := Value.str (q38) 383, code := Value.ref 215 } }
noncomputable def ob239 (P : Params) : Obj := { cls := Value.type "tuple", data := Data.seq #[Value.str (q42) 419, Value.str (q25) 420] }
noncomputable def ob303 (P : Params) : Obj := { cls := Value.type "tuple", data := Data.seq #[] }
noncomputable def ob215 (P : Params) : Obj := { cls := Value.none, data := Data.fields #[Value.int 2 0, Value.int 0 0, Value.ref 18, Value.int 5 0, Value.int 0 0, Value.ref 25, Value.int 9 0, Value.int 0 0, Value.ref 32, Value.int 16 0, Value.int 0 0, Value.ref 37, Value.int 23 0, Value.int 0 0, Value.ref 44, Value.int 25 0, Value.int 0 0, Value.ref 57, Value.int 27 0, Value.int 0 0, Value.ref 69, Value.int 29 0, Value.int 0 0, Value.ref 81, Value.int 31 0, Value.int 0 0, Value.ref 93, Value.int 33 0, Value.int 0 0, Value.ref 105, Value.int 36 0, Value.int 0 0, Value.ref 117, Value.int 39 0, Value.int 0 0, Value.ref 124, Value.int 59 0, Value.int 0 0, Value.ref 166] }
noncomputable def ob315 (P : Params) : Obj := { cls := Value.none, data := Data.fields #[] }
noncomputable def ob251 (P : Params) : Obj := { cls := Value.type "tuple", data := Data.seq #[] }
noncomputable def ob219 (P : Params) : Obj := { cls := Value.type "tuple", data := Data.seq #[] }
noncomputable def ob283 (P : Params) : Obj := { cls := Value.none, data := Data.func { name := q71, qualname := q91, params := fArgs (mA 19 8), body := FuncBody.stmts (fBody (mA 19 8)), scope := fScope (mA 19 8), globals := 0, closure := [], defaults := Value.none, kwdefaults := Value.none } }
noncomputable def ob331 (P : Params) : Obj := { cls := Value.type "getset_descriptor", data := Data.fields #[Value.str (q51) 536, Value.ref 275, Value.builtin "function.__dict__", Value.builtin "function.__dict__#set"] }
noncomputable def ob267 (P : Params) : Obj := { cls := Value.type "tuple", data := Data.seq #[Value.str (q42) 453, Value.str (q83) 454] }
noncomputable def ob235 (P : Params) : Obj := { cls := Value.type "code", data := Data.fields #[Value.str (q68) 409, Value.str (q75) 410, Value.str (q1) 411, Value.int 72 0, Value.int 1 0, Value.int 0 0, Value.int 0 0, Value.int 3 0, Value.ref 175, Value.bool Bool.true, Value.int 181 0, Value.ref 176, Value.none, Value.ref 177, Value.ref 178, Value.ref 179, Value.int 413 0, Value.int 72 0, Value.str (q1) 414] }
noncomputable def ob299 (P : Params) : Obj := { cls := Value.type "function", data := Data.func { name := q73, qualname := q76, params := fArgs (mA 19 10), body := FuncBody.stmts (fBody (mA 19 10)), scope := fScope (mA 19 10), globals := 3, closure := [], defaults := Value.none, kwdefaults := Value.none, pyModule := Value.str (q38) 383, code := Value.ref 243 } }
noncomputable def ob323 (P : Params) : Obj := { cls := Value.type "tuple", data := Data.seq #[Value.str (q42) 524] }
noncomputable def ob259 (P : Params) : Obj := { cls := Value.none, data := Data.fields #[] }
noncomputable def ob227 (P : Params) : Obj := { cls := Value.none, data := Data.func { name := q46, qualname := q93, params := fArgs (mA 19 0), body := FuncBody.stmts (fBody (mA 19 0)), scope := fScope (mA 19 0), globals := 0, closure := [], defaults := Value.none, kwdefaults := Value.none } }
noncomputable def ob291 (P : Params) : Obj := { cls := Value.type "code", data := Data.fields #[Value.str (q72) 477, Value.str (q77) 478, Value.str (q1) 479, Value.int 129 0, Value.int 2 0, Value.int 0 0, Value.int 0 0, Value.int 3 0, Value.ref 231, Value.bool Bool.true, Value.int 181 0, Value.ref 232, Value.none, Value.ref 233, Value.ref 234, Value.ref 235, Value.int 486 0, Value.int 129 0, Value.str (q1) 487] }
noncomputable def ob275 (P : Params) : Obj := { cls := Value.type "tuple", data := Data.seq #[] }
noncomputable def ob243 (P : Params) : Obj := { cls := Value.type "function", data := Data.func { name := q69, qualname := q78, params := fArgs (mA 19 2), body := FuncBody.stmts (fBody (mA 19 2)), scope := fScope (mA 19 2), globals := 3, closure := [], defaults := Value.none, kwdefaults := Value.none, pyModule := Value.str (q38) 383, code := Value.ref 187 } }
noncomputable def ob307 (P : Params) : Obj := { cls := Value.type "tuple", data := Data.seq #[] }
noncomputable def ob313 (P : Params) : Obj := { cls := Value.type "function", data := Data.func { name := q44, qualname := q80, params := fArgs (mA 19 12), body := FuncBody.stmts (fBody (mA 19 12)), scope := fScope (mA 19 12), globals := 3, closure := [], defaults := Value.none, kwdefaults := Value.none, pyModule := Value.str (q38) 383, code := Value.ref 257 } }
noncomputable def ob249 (P : Params) : Obj := { cls := Value.type "code", data := Data.fields #[Value.str (q66) 424, Value.str (q67) 425, Value.str (q1) 426, Value.int 79 0, Value.int 2 0, Value.int 0 0, Value.int 0 0, Value.int 3 0, Value.ref 189, Value.bool Bool.true, Value.int 181 0, Value.ref 190, Value.none, Value.ref 191, Value.ref 192, Value.ref 193, Value.int 429 0, Value.int 79 0, Value.str (q1) 430] }
noncomputable def ob217 (P : Params) : Obj := { cls := Value.type "builtin_function_or_method", data := Data.fields #[Value.builtin "type.__prepare__", Value.type "type"] }
noncomputable def ob281 (P : Params) : Obj := { cls := Value.type "tuple", data := Data.seq #[Value.str (q42) 469, Value.str (q74) 470, Value.str (q94) 471, Value.str (q83) 472, Value.str (q43) 473] }
noncomputable def ob329 (P : Params) : Obj := { cls := Value.type "dict", data := Data.dict #[{ hash := PyData.keyHash P (q18), key := Value.str (q18) 396, val := Value.str (q38) 383 }, { hash := PyData.keyHash P (q19), key := Value.str (q19) 400, val := Value.int 59 399 }, { hash := PyData.keyHash P (q46), key := Value.str (q46) 408, val := Value.ref 174 }, { hash := PyData.keyHash P (q68), key := Value.str (q68) 415, val := Value.ref 181 }, { hash := PyData.keyHash P (q69), key := Value.str (q69) 423, val := Value.ref 188 }, { hash := PyData.keyHash P (q66), key := Value.str (q66) 431, val := Value.ref 195 }, { hash := PyData.keyHash P (q70), key := Value.str (q70) 439, val := Value.ref 202 }, { hash := PyData.keyHash P (q60), key := Value.str (q60) 449, val := Value.ref 209 }, { hash := PyData.keyHash P (q64), key := Value.str (q64) 457, val := Value.ref 216 }, { hash := PyData.keyHash P (q56), key := Value.str (q56) 465, val := Value.ref 223 }, { hash := PyData.keyHash P (q71), key := Value.str (q71) 476, val := Value.ref 230 }, { hash := PyData.keyHash P (q72), key := Value.str (q72) 488, val := Value.ref 237 }, { hash := PyData.keyHash P (q73), key := Value.str (q73) 498, val := Value.ref 244 }, { hash := PyData.keyHash P (q74), key := Value.str (q74) 506, val := Value.ref 251 }, { hash := PyData.keyHash P (q44), key := Value.str (q44) 513, val := Value.ref 258 }, { hash := PyData.keyHash P (q62), key := Value.str (q62) 520, val := Value.ref 265 }, { hash := PyData.keyHash P (q58), key := Value.str (q58) 527, val := Value.ref 272 }, { hash := PyData.keyHash P (q20), key := Value.str (q20) 535, val := Value.ref 273 }, { hash := PyData.keyHash P (q51), key := Value.str (q51) 537, val := Value.ref 276 }, { hash := PyData.keyHash P (q21), key := Value.str (q21) 539, val := Value.ref 277 }, { hash := PyData.keyHash P (q5), key := Value.str (q5) 540, val := Value.none }] 4 }
noncomputable def ob265 (P : Params) : Obj := { cls := Value.type "tuple", data := Data.seq #[] }
noncomputable def ob233 (P : Params) : Obj := { cls := Value.type "tuple", data := Data.seq #[] }
noncomputable def ob297 (P : Params) : Obj := { cls := Value.none, data := Data.func { name := q73, qualname := q76, params := fArgs (mA 19 10), body := FuncBody.stmts (fBody (mA 19 10)), scope := fScope (mA 19 10), globals := 0, closure := [], defaults := Value.none, kwdefaults := Value.none } }
noncomputable def ob321 (P : Params) : Obj := { cls := Value.type "tuple", data := Data.seq #[] }
noncomputable def ob257 (P : Params) : Obj := { cls := Value.type "function", data := Data.func { name := q70, qualname := q88, params := fArgs (mA 19 4), body := FuncBody.stmts (fBody (mA 19 4)), scope := fScope (mA 19 4), globals := 3, closure := [], defaults := Value.none, kwdefaults := Value.none, pyModule := Value.str (q38) 383, code := Value.ref 201 } }
noncomputable def ob225 (P : Params) : Obj := { cls := Value.type "tuple", data := Data.seq #[Value.str (q42) 404, Value.str (q95) 405] }
noncomputable def ob289 (P : Params) : Obj := { cls := Value.type "tuple", data := Data.seq #[] }
noncomputable def ob273 (P : Params) : Obj := { cls := Value.none, data := Data.fields #[] }
noncomputable def ob241 (P : Params) : Obj := { cls := Value.none, data := Data.func { name := q69, qualname := q78, params := fArgs (mA 19 2), body := FuncBody.stmts (fBody (mA 19 2)), scope := fScope (mA 19 2), globals := 0, closure := [], defaults := Value.none, kwdefaults := Value.none } }
noncomputable def ob305 (P : Params) : Obj := { cls := Value.type "code", data := Data.fields #[Value.str (q74) 499, Value.str (q79) 500, Value.str (q1) 501, Value.int 148 0, Value.int 2 0, Value.int 0 0, Value.int 0 0, Value.int 3 0, Value.ref 245, Value.bool Bool.true, Value.int 181 0, Value.ref 246, Value.none, Value.ref 247, Value.ref 248, Value.ref 249, Value.int 504 0, Value.int 148 0, Value.str (q1) 505] }
noncomputable def ob317 (P : Params) : Obj := { cls := Value.type "tuple", data := Data.seq #[] }
noncomputable def ob253 (P : Params) : Obj := { cls := Value.type "tuple", data := Data.seq #[Value.str (q42) 435, Value.str (q53) 436] }
noncomputable def ob221 (P : Params) : Obj := { cls := Value.type "code", data := Data.fields #[Value.str (q55) 391, Value.str (q55) 392, Value.str (q1) 393, Value.int 59 0, Value.int 0 0, Value.int 0 0, Value.int 0 0, Value.int 0 0, Value.ref 164, Value.bool Bool.false, Value.int 181 0, Value.ref 165, Value.none, Value.none, Value.none, Value.none, Value.int 394 0, Value.int 59 0, Value.str (q1) 395] }
noncomputable def ob285 (P : Params) : Obj := { cls := Value.type "function", data := Data.func { name := q71, qualname := q91, params := fArgs (mA 19 8), body := FuncBody.stmts (fBody (mA 19 8)), scope := fScope (mA 19 8), globals := 3, closure := [], defaults := Value.none, kwdefaults := Value.none, pyModule := Value.str (q38) 383, code := Value.ref 229 } }
noncomputable def ob333 (P : Params) : Obj := { cls := Value.type "super", data := Data.fields #[Value.ref 275, Value.ref 275, Value.ref 275] }
noncomputable def ob269 (P : Params) : Obj := { cls := Value.none, data := Data.func { name := q64, qualname := q65, params := fArgs (mA 19 6), body := FuncBody.stmts (fBody (mA 19 6)), scope := fScope (mA 19 6), globals := 0, closure := [], defaults := Value.none, kwdefaults := Value.none } }
noncomputable def ob237 (P : Params) : Obj := { cls := Value.type "tuple", data := Data.seq #[] }
noncomputable def ob301 (P : Params) : Obj := { cls := Value.none, data := Data.fields #[] }
noncomputable def ob325 (P : Params) : Obj := { cls := Value.none, data := Data.func { name := q58, qualname := q59, params := fArgs (mA 19 14), body := FuncBody.stmts (fBody (mA 19 14)), scope := fScope (mA 19 14), globals := 0, closure := [], defaults := Value.none, kwdefaults := Value.none } }
noncomputable def ob261 (P : Params) : Obj := { cls := Value.type "tuple", data := Data.seq #[] }
noncomputable def ob229 (P : Params) : Obj := { cls := Value.type "function", data := Data.func { name := q46, qualname := q93, params := fArgs (mA 19 0), body := FuncBody.stmts (fBody (mA 19 0)), scope := fScope (mA 19 0), globals := 3, closure := [], defaults := Value.none, kwdefaults := Value.none, pyModule := Value.str (q38) 383, code := Value.ref 173 } }
noncomputable def ob293 (P : Params) : Obj := { cls := Value.type "tuple", data := Data.seq #[] }
noncomputable def ob277 (P : Params) : Obj := { cls := Value.type "code", data := Data.fields #[Value.str (q56) 458, Value.str (q57) 459, Value.str (q1) 460, Value.int 110 0, Value.int 2 0, Value.int 0 0, Value.int 0 0, Value.int 3 0, Value.ref 217, Value.bool Bool.true, Value.int 181 0, Value.ref 218, Value.none, Value.ref 219, Value.ref 220, Value.ref 221, Value.int 463 0, Value.int 110 0, Value.str (q1) 464] }
noncomputable def ob245 (P : Params) : Obj := { cls := Value.none, data := Data.fields #[] }
noncomputable def ob309 (P : Params) : Obj := { cls := Value.type "tuple", data := Data.seq #[Value.str (q42) 510] }
noncomputable def ob505 (P : Params) : Obj := { cls := Value.type "dict", data := Data.dict #[{ hash := PyData.keyHash P (q3), key := Value.str (q3) 165, val := Value.str (q96) 543 }, { hash := PyData.keyHash P (q5), key := Value.str (q5) 166, val := Value.none }, { hash := PyData.keyHash P (q6), key := Value.str (q6) 167, val := Value.none }, { hash := PyData.keyHash P (q7), key := Value.str (q7) 168, val := Value.builtin "__main__.__loader__#opaque" }, { hash := PyData.keyHash P (q8), key := Value.str (q8) 169, val := Value.none }, { hash := PyData.keyHash P (q9), key := Value.str (q9) 170, val := Value.ref 6 }, { hash := PyData.keyHash P (q10), key := Value.str (q10) 171, val := Value.ref 4 }, { hash := PyData.keyHash P (q11), key := Value.str (q11) 173, val := Value.str (q1) 172 }, { hash := PyData.keyHash P (q12), key := Value.str (q12) 174, val := Value.none }, { hash := PyData.keyHash P (q13), key := Value.str (q13) 194, val := Value.ref 19 }, { hash := PyData.keyHash P (q14), key := Value.str (q14) 202, val := Value.ref 26 }, { hash := PyData.keyHash P (q15), key := Value.str (q15) 211, val := Value.ref 33 }, { hash := PyData.keyHash P (q16), key := Value.str (q16) 217, val := Value.ref 38 }, { hash := PyData.keyHash P (q17), key := Value.str (q17) 237, val := Value.ref 48 }, { hash := PyData.keyHash P (q27), key := Value.str (q27) 253, val := Value.ref 61 }, { hash := PyData.keyHash P (q28), key := Value.str (q28) 269, val := Value.ref 73 }, { hash := PyData.keyHash P (q29), key := Value.str (q29) 285, val := Value.ref 85 }, { hash := PyData.keyHash P (q30), key := Value.str (q30) 301, val := Value.ref 97 }, { hash := PyData.keyHash P (q32), key := Value.str (q32) 317, val := Value.ref 109 }, { hash := PyData.keyHash P (q33), key := Value.str (q33) 328, val := Value.ref 118 }, { hash := PyData.keyHash P (q39), key := Value.str (q39) 382, val := Value.ref 156 }, { hash := PyData.keyHash P (q40), key := Value.str (q40) 386, val := Value.int 60 385 }, { hash := PyData.keyHash P (q41), key := Value.str (q41) 388, val := Value.int 999999 387 }, { hash := PyData.keyHash P (q55), key := Value.str (q55) 542, val := Value.ref 275 }, { hash := PyData.keyHash P (q97), key := Value.str (q97) 552, val := Value.ref 286 }, { hash := PyData.keyHash P (q98), key := Value.str (q98) 562, val := Value.ref 293 }, { hash := PyData.keyHash P (q99), key := Value.str (q99) 569, val := Value.ref 300 }, { hash := PyData.keyHash P (q100), key := Value.str (q100) 578, val := Value.ref 307 }, { hash := PyData.keyHash P (q101), key := Value.str (q101) 585, val := Value.ref 314 }, { hash := PyData.keyHash P (q102), key := Value.str (q102) 592, val := Value.ref 321 }, { hash := PyData.keyHash P (q103), key := Value.str (q103) 598, val := Value.ref 326 }, { hash := PyData.keyHash P (q104), key := Value.str (q104) 606, val := Value.ref 333 }, { hash := PyData.keyHash P (q105), key := Value.str (q105) 618, val := Value.ref 340 }, { hash := PyData.keyHash P (q106), key := Value.str (q106) 624, val := Value.ref 345 }, { hash := PyData.keyHash P (q107), key := Value.str (q107) 630, val := Value.ref 350 }, { hash := PyData.keyHash P (q108), key := Value.str (q108) 636, val := Value.ref 355 }, { hash := PyData.keyHash P (q109), key := Value.str (q109) 642, val := Value.ref 360 }, { hash := PyData.keyHash P (q110), key := Value.str (q110) 648, val := Value.ref 365 }] 38 }
noncomputable def ob463 (P : Params) : Obj := { cls := Value.none, data := Data.func { name := q102, qualname := q102, params := fArgs (sA 26), body := FuncBody.stmts (fBody (sA 26)), scope := fScope (sA 26), globals := 0, closure := [], defaults := Value.none, kwdefaults := Value.none } }
noncomputable def ob431 (P : Params) : Obj := { cls := Value.type "tuple", data := Data.seq #[] }
noncomputable def ob495 (P : Params) : Obj := { cls := Value.type "tuple", data := Data.seq #[] }
noncomputable def ob479 (P : Params) : Obj := { cls := Value.none, data := Data.fields #[] }
noncomputable def ob447 (P : Params) : Obj := { cls := Value.type "tuple", data := Data.seq #[Value.str (q111) 573, Value.str (q112) 574, Value.str (q113) 575] }
noncomputable def ob471 (P : Params) : Obj := { cls := Value.type "tuple", data := Data.seq #[] }
noncomputable def ob439 (P : Params) : Obj := { cls := Value.none, data := Data.fields #[] }
noncomputable def ob503 (P : Params) : Obj := { cls := Value.type "code", data := Data.fields #[Value.str (q109) 637, Value.str (q109) 638, Value.str (q1) 639, Value.int 254 0, Value.int 5 0, Value.int 0 0, Value.int 0 0, Value.int 3 0, Value.ref 356, Value.bool Bool.true, Value.int 181 0, Value.ref 357, Value.none, Value.none, Value.none, Value.ref 358, Value.int 640 0, Value.int 254 0, Value.str (q1) 641] }
noncomputable def ob487 (P : Params) : Obj := { cls := Value.none, data := Data.func { name := q106, qualname := q106, params := fArgs (sA 30), body := FuncBody.stmts (fBody (sA 30)), scope := fScope (sA 30), globals := 0, closure := [], defaults := Value.none, kwdefaults := Value.none } }
noncomputable def ob455 (P : Params) : Obj := { cls := Value.type "tuple", data := Data.seq #[] }
noncomputable def ob467 (P : Params) : Obj := { cls := Value.none, data := Data.fields #[] }
noncomputable def ob435 (P : Params) : Obj := { cls := Value.none, data := Data.func { name := q98, qualname := q98, params := fArgs (sA 22), body := FuncBody.stmts (fBody (sA 22)), scope := fScope (sA 22), globals := 0, closure := [], defaults := Value.none, kwdefaults := Value.none } }
noncomputable def ob499 (P : Params) : Obj := { cls := Value.type "function", data := Data.func { name := q108, qualname := q108, params := fArgs (sA 32), body := FuncBody.stmts (fBody (sA 32)), scope := fScope (sA 32), globals := 3, closure := [], defaults := Value.none, kwdefaults := Value.none, pyModule := Value.str (q96) 543, code := Value.ref 354 } }
noncomputable def ob483 (P : Params) : Obj := { cls := Value.type "code", data := Data.fields #[Value.str (q105) 607, Value.str (q105) 608, Value.str (q1) 609, Value.int 219 0, Value.int 4 0, Value.int 0 0, Value.int 0 0, Value.int 3 0, Value.ref 334, Value.bool Bool.true, Value.int 181 0, Value.ref 335, Value.none, Value.ref 336, Value.ref 337, Value.ref 338, Value.int 616 0, Value.int 219 0, Value.str (q1) 617] }
noncomputable def ob451 (P : Params) : Obj := { cls := Value.type "function", data := Data.func { name := q100, qualname := q100, params := fArgs (sA 24), body := FuncBody.stmts (fBody (sA 24)), scope := fScope (sA 24), globals := 3, closure := [], defaults := Value.none, kwdefaults := Value.none, pyModule := Value.str (q96) 543, code := Value.ref 306 } }
noncomputable def ob475 (P : Params) : Obj := { cls := Value.none, data := Data.func { name := q104, qualname := q104, params := fArgs (sA 28), body := FuncBody.stmts (fBody (sA 28)), scope := fScope (sA 28), globals := 0, closure := [], defaults := Value.none, kwdefaults := Value.none } }
noncomputable def ob443 (P : Params) : Obj := { cls := Value.type "code", data := Data.fields #[Value.str (q99) 563, Value.str (q99) 564, Value.str (q1) 565, Value.int 171 0, Value.int 1 0, Value.int 0 0, Value.int 0 0, Value.int 3 0, Value.ref 294, Value.bool Bool.true, Value.int 181 0, Value.ref 295, Value.none, Value.ref 296, Value.ref 297, Value.ref 298, Value.int 567 0, Value.int 171 0, Value.str (q1) 568] }
noncomputable def ob509 (P : Params) : Obj := { cls := Value.none, data := Data.func { name := q110, qualname := q110, params := fArgs (sA 34), body := FuncBody.stmts (fBody (sA 34)), scope := fScope (sA 34), globals := 0, closure := [], defaults := Value.none, kwdefaults := Value.none } }
noncomputable def ob427 (P : Params) : Obj := { cls := Value.type "tuple", data := Data.seq #[] }
noncomputable def ob491 (P : Params) : Obj := { cls := Value.none, data := Data.fields #[] }
noncomputable def ob459 (P : Params) : Obj := { cls := Value.type "tuple", data := Data.seq #[] }
noncomputable def ob465 (P : Params) : Obj := { cls := Value.type "function", data := Data.func { name := q102, qualname := q102, params := fArgs (sA 26), body := FuncBody.stmts (fBody (sA 26)), scope := fScope (sA 26), globals := 3, closure := [], defaults := Value.none, kwdefaults := Value.none, pyModule := Value.str (q96) 543, code := Value.ref 320 } }
noncomputable def ob433 (P : Params) : Obj := { cls := Value.type "tuple", data := Data.seq #[Value.str (q114) 556, Value.str (q113) 557, Value.str (q115) 558, Value.str (q116) 559] }
noncomputable def ob497 (P : Params) : Obj := { cls := Value.none, data := Data.func { name := q108, qualname := q108, params := fArgs (sA 32), body := FuncBody.stmts (fBody (sA 32)), scope := fScope (sA 32), globals := 0, closure := [], defaults := Value.none, kwdefaults := Value.none } }
noncomputable def ob481 (P : Params) : Obj := { cls := Value.type "tuple", data := Data.seq #[] }
noncomputable def ob449 (P : Params) : Obj := { cls := Value.none, data := Data.func { name := q100, qualname := q100, params := fArgs (sA 24), body := FuncBody.stmts (fBody (sA 24)), scope := fScope (sA 24), globals := 0, closure := [], defaults := Value.none, kwdefaults := Value.none } }
noncomputable def ob473 (P : Params) : Obj := { cls := Value.type "tuple", data := Data.seq #[Value.str (q117) 602, Value.str (q118) 603] }
noncomputable def ob441 (P : Params) : Obj := { cls := Value.type "tuple", data := Data.seq #[] }
noncomputable def ob507 (P : Params) : Obj := { cls := Value.type "tuple", data := Data.seq #[] }
noncomputable def ob425 (P : Params) : Obj := { cls := Value.none, data := Data.fields #[] }
noncomputable def ob489 (P : Params) : Obj := { cls := Value.type "function", data := Data.func { name := q106, qualname := q106, params := fArgs (sA 30), body := FuncBody.stmts (fBody (sA 30)), scope := fScope (sA 30), globals := 3, closure := [], defaults := Value.none, kwdefaults := Value.none, pyModule := Value.str (q96) 543, code := Value.ref 344 } }
noncomputable def ob457 (P : Params) : Obj := { cls := Value.type "code", data := Data.fields #[Value.str (q101) 579, Value.str (q101) 580, Value.str (q1) 581, Value.int 192 0, Value.int 1 0, Value.int 0 0, Value.int 0 0, Value.int 3 0, Value.ref 308, Value.bool Bool.true, Value.int 181 0, Value.ref 309, Value.none, Value.ref 310, Value.ref 311, Value.ref 312, Value.int 583 0, Value.int 192 0, Value.str (q1) 584] }
noncomputable def ob469 (P : Params) : Obj := { cls := Value.type "code", data := Data.fields #[Value.str (q103) 593, Value.str (q103) 594, Value.str (q1) 595, Value.int 202 0, Value.int 3 0, Value.int 0 0, Value.int 0 0, Value.int 3 0, Value.ref 322, Value.bool Bool.true, Value.int 181 0, Value.ref 323, Value.none, Value.none, Value.none, Value.ref 324, Value.int 596 0, Value.int 202 0, Value.str (q1) 597] }
noncomputable def ob437 (P : Params) : Obj := { cls := Value.type "function", data := Data.func { name := q98, qualname := q98, params := fArgs (sA 22), body := FuncBody.stmts (fBody (sA 22)), scope := fScope (sA 22), globals := 3, closure := [], defaults := Value.none, kwdefaults := Value.none, pyModule := Value.str (q96) 543, code := Value.ref 292 } }
noncomputable def ob501 (P : Params) : Obj := { cls := Value.none, data := Data.fields #[] }
noncomputable def ob485 (P : Params) : Obj := { cls := Value.type "tuple", data := Data.seq #[] }
noncomputable def ob453 (P : Params) : Obj := { cls := Value.none, data := Data.fields #[] }
noncomputable def ob477 (P : Params) : Obj := { cls := Value.type "function", data := Data.func { name := q104, qualname := q104, params := fArgs (sA 28), body := FuncBody.stmts (fBody (sA 28)), scope := fScope (sA 28), globals := 3, closure := [], defaults := Value.none, kwdefaults := Value.none, pyModule := Value.str (q96) 543, code := Value.ref 332 } }
noncomputable def ob445 (P : Params) : Obj := { cls := Value.type "tuple", data := Data.seq #[] }
noncomputable def ob511 (P : Params) : Obj := { cls := Value.type "function", data := Data.func { name := q110, qualname := q110, params := fArgs (sA 34), body := FuncBody.stmts (fBody (sA 34)), scope := fScope (sA 34), globals := 3, closure := [], defaults := Value.none, kwdefaults := Value.none, pyModule := Value.str (q96) 543, code := Value.ref 364 } }
noncomputable def ob429 (P : Params) : Obj := { cls := Value.type "code", data := Data.fields #[Value.str (q97) 545, Value.str (q97) 546, Value.str (q1) 547, Value.int 161 0, Value.int 2 0, Value.int 0 0, Value.int 0 0, Value.int 3 0, Value.ref 280, Value.bool Bool.true, Value.int 181 0, Value.ref 281, Value.none, Value.ref 282, Value.ref 283, Value.ref 284, Value.int 550 0, Value.int 161 0, Value.str (q1) 551] }
noncomputable def ob493 (P : Params) : Obj := { cls := Value.type "code", data := Data.fields #[Value.str (q107) 625, Value.str (q107) 626, Value.str (q1) 627, Value.int 237 0, Value.int 4 0, Value.int 0 0, Value.int 0 0, Value.int 3 0, Value.ref 346, Value.bool Bool.true, Value.int 181 0, Value.ref 347, Value.none, Value.none, Value.none, Value.ref 348, Value.int 628 0, Value.int 237 0, Value.str (q1) 629] }
noncomputable def ob461 (P : Params) : Obj := { cls := Value.type "tuple", data := Data.seq #[Value.str (q115) 589] }
noncomputable def ob464 (P : Params) : Obj := { cls := Value.type "code", data := Data.fields #[Value.str (q102) 586, Value.str (q102) 587, Value.str (q1) 588, Value.int 196 0, Value.int 1 0, Value.int 0 0, Value.int 0 0, Value.int 3 0, Value.ref 315, Value.bool Bool.true, Value.int 181 0, Value.ref 316, Value.none, Value.ref 317, Value.ref 318, Value.ref 319, Value.int 590 0, Value.int 196 0, Value.str (q1) 591] }
noncomputable def ob432 (P : Params) : Obj := { cls := Value.none, data := Data.fields #[] }
noncomputable def ob496 (P : Params) : Obj := { cls := Value.none, data := Data.fields #[] }
noncomputable def ob480 (P : Params) : Obj := { cls := Value.type "tuple", data := Data.seq #[Value.str (q117) 610, Value.str (q119) 611, Value.str (q120) 612, Value.str (q121) 613, Value.str (q111) 614, Value.str (q113) 615] }
noncomputable def ob448 (P : Params) : Obj := { cls := Value.type "tuple", data := Data.seq #[] }
noncomputable def ob472 (P : Params) : Obj := { cls := Value.none, data := Data.fields #[] }
noncomputable def ob440 (P : Params) : Obj := { cls := Value.type "tuple", data := Data.seq #[Value.str (q111) 566] }
noncomputable def ob504 (P : Params) : Obj := { cls := Value.type "function", data := Data.func { name := q109, qualname := q109, params := fArgs (sA 33), body := FuncBody.stmts (fBody (sA 33)), scope := fScope (sA 33), globals := 3, closure := [], defaults := Value.none, kwdefaults := Value.none, pyModule := Value.str (q96) 543, code := Value.ref 359 } }
noncomputable def ob424 (P : Params) : Obj := { cls := Value.type "tuple", data := Data.seq #[] }
noncomputable def ob488 (P : Params) : Obj := { cls := Value.type "code", data := Data.fields #[Value.str (q106) 619, Value.str (q106) 620, Value.str (q1) 621, Value.int 231 0, Value.int 3 0, Value.int 0 0, Value.int 0 0, Value.int 3 0, Value.ref 341, Value.bool Bool.true, Value.int 181 0, Value.ref 342, Value.none, Value.none, Value.none, Value.ref 343, Value.int 622 0, Value.int 231 0, Value.str (q1) 623] }
noncomputable def ob456 (P : Params) : Obj := { cls := Value.none, data := Data.func { name := q101, qualname := q101, params := fArgs (sA 25), body := FuncBody.stmts (fBody (sA 25)), scope := fScope (sA 25), globals := 0, closure := [], defaults := Value.none, kwdefaults := Value.none } }
noncomputable def ob506 (P : Params) : Obj := { cls := Value.none, data := Data.fields #[Value.int 2 0, Value.int 0 0, Value.ref 18, Value.int 5 0, Value.int 0 0, Value.ref 25, Value.int 9 0, Value.int 0 0, Value.ref 32, Value.int 16 0, Value.int 0 0, Value.ref 37, Value.int 23 0, Value.int 0 0, Value.ref 44, Value.int 25 0, Value.int 0 0, Value.ref 57, Value.int 27 0, Value.int 0 0, Value.ref 69, Value.int 29 0, Value.int 0 0, Value.ref 81, Value.int 31 0, Value.int 0 0, Value.ref 93, Value.int 33 0, Value.int 0 0, Value.ref 105, Value.int 36 0, Value.int 0 0, Value.ref 117, Value.int 39 0, Value.int 0 0, Value.ref 124, Value.int 59 0, Value.int 0 0, Value.ref 166, Value.int 161 0, Value.int 0 0, Value.ref 285, Value.int 165 0, Value.int 0 0, Value.ref 292, Value.int 171 0, Value.int 0 0, Value.ref 299, Value.int 173 0, Value.int 0 0, Value.ref 306, Value.int 192 0, Value.int 0 0, Value.ref 313, Value.int 196 0, Value.int 0 0, Value.ref 320, Value.int 202 0, Value.int 0 0, Value.ref 325, Value.int 213 0, Value.int 0 0, Value.ref 332, Value.int 219 0, Value.int 0 0, Value.ref 339, Value.int 231 0, Value.int 0 0, Value.ref 344, Value.int 237 0, Value.int 0 0, Value.ref 349, Value.int 246 0, Value.int 0 0, Value.ref 354, Value.int 254 0, Value.int 0 0, Value.ref 359, Value.int 273 0, Value.int 0 0, Value.ref 364] }
noncomputable def ob468 (P : Params) : Obj := { cls := Value.none, data := Data.func { name := q103, qualname := q103, params := fArgs (sA 27), body := FuncBody.stmts (fBody (sA 27)), scope := fScope (sA 27), globals := 0, closure := [], defaults := Value.none, kwdefaults := Value.none } }
noncomputable def ob436 (P : Params) : Obj := { cls := Value.type "code", data := Data.fields #[Value.str (q98) 553, Value.str (q98) 554, Value.str (q1) 555, Value.int 165 0, Value.int 2 0, Value.int 0 0, Value.int 0 0, Value.int 3 0, Value.ref 287, Value.bool Bool.true, Value.int 181 0, Value.ref 288, Value.none, Value.ref 289, Value.ref 290, Value.ref 291, Value.int 560 0, Value.int 165 0, Value.str (q1) 561] }
noncomputable def ob500 (P : Params) : Obj := { cls := Value.type "tuple", data := Data.seq #[] }
noncomputable def ob484 (P : Params) : Obj := { cls := Value.type "function", data := Data.func { name := q105, qualname := q105, params := fArgs (sA 29), body := FuncBody.stmts (fBody (sA 29)), scope := fScope (sA 29), globals := 3, closure := [], defaults := Value.none, kwdefaults := Value.none, pyModule := Value.str (q96) 543, code := Value.ref 339 } }
noncomputable def ob452 (P : Params) : Obj := { cls := Value.type "tuple", data := Data.seq #[] }
noncomputable def ob476 (P : Params) : Obj := { cls := Value.type "code", data := Data.fields #[Value.str (q104) 599, Value.str (q104) 600, Value.str (q1) 601, Value.int 213 0, Value.int 2 0, Value.int 0 0, Value.int 0 0, Value.int 3 0, Value.ref 327, Value.bool Bool.true, Value.int 181 0, Value.ref 328, Value.none, Value.ref 329, Value.ref 330, Value.ref 331, Value.int 604 0, Value.int 213 0, Value.str (q1) 605] }
noncomputable def ob444 (P : Params) : Obj := { cls := Value.type "function", data := Data.func { name := q99, qualname := q99, params := fArgs (sA 23), body := FuncBody.stmts (fBody (sA 23)), scope := fScope (sA 23), globals := 3, closure := [], defaults := Value.none, kwdefaults := Value.none, pyModule := Value.str (q96) 543, code := Value.ref 299 } }
noncomputable def ob510 (P : Params) : Obj := { cls := Value.type "code", data := Data.fields #[Value.str (q110) 643, Value.str (q110) 644, Value.str (q1) 645, Value.int 273 0, Value.int 1 0, Value.int 0 0, Value.int 0 0, Value.int 3 0, Value.ref 361, Value.bool Bool.true, Value.int 181 0, Value.ref 362, Value.none, Value.none, Value.none, Value.ref 363, Value.int 646 0, Value.int 273 0, Value.str (q1) 647] }
noncomputable def ob428 (P : Params) : Obj := { cls := Value.none, data := Data.func { name := q97, qualname := q97, params := fArgs (sA 21), body := FuncBody.stmts (fBody (sA 21)), scope := fScope (sA 21), globals := 0, closure := [], defaults := Value.none, kwdefaults := Value.none } }
noncomputable def ob492 (P : Params) : Obj := { cls := Value.none, data := Data.func { name := q107, qualname := q107, params := fArgs (sA 31), body := FuncBody.stmts (fBody (sA 31)), scope := fScope (sA 31), globals := 0, closure := [], defaults := Value.none, kwdefaults := Value.none } }
noncomputable def ob460 (P : Params) : Obj := { cls := Value.none, data := Data.fields #[] }
noncomputable def ob466 (P : Params) : Obj := { cls := Value.type "tuple", data := Data.seq #[] }
noncomputable def ob434 (P : Params) : Obj := { cls := Value.type "tuple", data := Data.seq #[] }
noncomputable def ob498 (P : Params) : Obj := { cls := Value.type "code", data := Data.fields #[Value.str (q108) 631, Value.str (q108) 632, Value.str (q1) 633, Value.int 246 0, Value.int 4 0, Value.int 0 0, Value.int 0 0, Value.int 3 0, Value.ref 351, Value.bool Bool.true, Value.int 181 0, Value.ref 352, Value.none, Value.none, Value.none, Value.ref 353, Value.int 634 0, Value.int 246 0, Value.str (q1) 635] }
noncomputable def ob482 (P : Params) : Obj := { cls := Value.none, data := Data.func { name := q105, qualname := q105, params := fArgs (sA 29), body := FuncBody.stmts (fBody (sA 29)), scope := fScope (sA 29), globals := 0, closure := [], defaults := Value.none, kwdefaults := Value.none } }
noncomputable def ob450 (P : Params) : Obj := { cls := Value.type "code", data := Data.fields #[Value.str (q100) 570, Value.str (q100) 571, Value.str (q1) 572, Value.int 173 0, Value.int 2 0, Value.int 0 0, Value.int 0 0, Value.int 3 0, Value.ref 301, Value.bool Bool.true, Value.int 181 0, Value.ref 302, Value.none, Value.ref 303, Value.ref 304, Value.ref 305, Value.int 576 0, Value.int 173 0, Value.str (q1) 577] }
noncomputable def ob474 (P : Params) : Obj := { cls := Value.type "tuple", data := Data.seq #[] }
noncomputable def ob442 (P : Params) : Obj := { cls := Value.none, data := Data.func { name := q99, qualname := q99, params := fArgs (sA 23), body := FuncBody.stmts (fBody (sA 23)), scope := fScope (sA 23), globals := 0, closure := [], defaults := Value.none, kwdefaults := Value.none } }
noncomputable def ob508 (P : Params) : Obj := { cls := Value.none, data := Data.fields #[] }
noncomputable def ob426 (P : Params) : Obj := { cls := Value.type "tuple", data := Data.seq #[Value.str (q114) 548, Value.str (q113) 549] }
noncomputable def ob490 (P : Params) : Obj := { cls := Value.type "tuple", data := Data.seq #[] }
noncomputable def ob458 (P : Params) : Obj := { cls := Value.type "function", data := Data.func { name := q101, qualname := q101, params := fArgs (sA 25), body := FuncBody.stmts (fBody (sA 25)), scope := fScope (sA 25), globals := 3, closure := [], defaults := Value.none, kwdefaults := Value.none, pyModule := Value.str (q96) 543, code := Value.ref 313 } }
noncomputable def ob470 (P : Params) : Obj := { cls := Value.type "function", data := Data.func { name := q103, qualname := q103, params := fArgs (sA 27), body := FuncBody.stmts (fBody (sA 27)), scope := fScope (sA 27), globals := 3, closure := [], defaults := Value.none, kwdefaults := Value.none, pyModule := Value.str (q96) 543, code := Value.ref 325 } }
noncomputable def ob438 (P : Params) : Obj := { cls := Value.type "tuple", data := Data.seq #[] }
noncomputable def ob502 (P : Params) : Obj := { cls := Value.none, data := Data.func { name := q109, qualname := q109, params := fArgs (sA 33), body := FuncBody.stmts (fBody (sA 33)), scope := fScope (sA 33), globals := 0, closure := [], defaults := Value.none, kwdefaults := Value.none } }
noncomputable def ob486 (P : Params) : Obj := { cls := Value.none, data := Data.fields #[] }
noncomputable def ob454 (P : Params) : Obj := { cls := Value.type "tuple", data := Data.seq #[Value.str (q115) 582] }
noncomputable def ob478 (P : Params) : Obj := { cls := Value.type "tuple", data := Data.seq #[] }
noncomputable def ob446 (P : Params) : Obj := { cls := Value.none, data := Data.fields #[] }
noncomputable def ob430 (P : Params) : Obj := { cls := Value.type "function", data := Data.func { name := q97, qualname := q97, params := fArgs (sA 21), body := FuncBody.stmts (fBody (sA 21)), scope := fScope (sA 21), globals := 3, closure := [], defaults := Value.none, kwdefaults := Value.none, pyModule := Value.str (q96) 543, code := Value.ref 285 } }
noncomputable def ob494 (P : Params) : Obj := { cls := Value.type "function", data := Data.func { name := q107, qualname := q107, params := fArgs (sA 31), body := FuncBody.stmts (fBody (sA 31)), scope := fScope (sA 31), globals := 3, closure := [], defaults := Value.none, kwdefaults := Value.none, pyModule := Value.str (q96) 543, code := Value.ref 349 } }
noncomputable def ob462 (P : Params) : Obj := { cls := Value.type "tuple", data := Data.seq #[] }
noncomputable def heapA (P : Params) : Heap := ⟨⟨[boot_o_0 P, boot_o_1 P, boot_o_2 P, boot_o_3 P, boot_o_4 P, boot_o_5 P, boot_o_6 P, boot_o_7 P, boot_o_8 P, boot_o_9 P, boot_o_10 P, ob43 P, ob44 P, ob45 P, ob46 P]⟩, {}⟩
noncomputable def tr47 (P : Params) : BT := .node (boot_o_0 P) (.node (boot_o_1 P) (.node (boot_o_3 P) (.node (boot_o_7 P) .nil .nil) (.node (ob43 P) .nil .nil)) (.node (boot_o_5 P) (.node (boot_o_9 P) .nil .nil) (.node (ob45 P) .nil .nil))) (.node (boot_o_2 P) (.node (boot_o_4 P) (.node (boot_o_8 P) .nil .nil) (.node (ob44 P) .nil .nil)) (.node (boot_o_6 P) (.node (boot_o_10 P) .nil .nil) (.node (ob46 P) .nil .nil)))
noncomputable def tr87 (P : Params) : BT := .node (boot_o_0 P) (.node (boot_o_1 P) (.node (ob49 P) (.node (boot_o_7 P) (.node (ob51 P) (.node (ob67 P) .nil .nil) (.node (ob83 P) .nil .nil)) (.node (ob59 P) (.node (ob75 P) .nil .nil) .nil)) (.node (ob43 P) (.node (ob55 P) (.node (ob71 P) .nil .nil) (.node (ob87 P) .nil .nil)) (.node (ob63 P) (.node (ob79 P) .nil .nil) .nil))) (.node (boot_o_5 P) (.node (boot_o_9 P) (.node (ob53 P) (.node (ob69 P) .nil .nil) (.node (ob85 P) .nil .nil)) (.node (ob61 P) (.node (ob77 P) .nil .nil) .nil)) (.node (ob45 P) (.node (ob57 P) (.node (ob73 P) .nil .nil) .nil) (.node (ob65 P) (.node (ob81 P) .nil .nil) .nil)))) (.node (boot_o_2 P) (.node (boot_o_4 P) (.node (boot_o_8 P) (.node (ob52 P) (.node (ob68 P) .nil .nil) (.node (ob84 P) .nil .nil)) (.node (ob60 P) (.node (ob76 P) .nil .nil) .nil)) (.node (ob50 P) (.node (ob56 P) (.node (ob72 P) .nil .nil) .nil) (.node (ob64 P) (.node (ob80 P) .nil .nil) .nil))) (.node (boot_o_6 P) (.node (boot_o_10 P) (.node (ob54 P) (.node (ob70 P) .nil .nil) (.node (ob86 P) .nil .nil)) (.node (ob62 P) (.node (ob78 P) .nil .nil) .nil)) (.node (ob46 P) (.node (ob58 P) (.node (ob74 P) .nil .nil) .nil) (.node (ob66 P) (.node (ob82 P) .nil .nil) .nil))))
noncomputable def tr117 (P : Params) : BT := .node (boot_o_0 P) (.node (boot_o_1 P) (.node (ob103 P) (.node (boot_o_7 P) (.node (ob51 P) (.node (ob67 P) (.node (ob102 P) .nil .nil) .nil) (.node (ob83 P) .nil .nil)) (.node (ob59 P) (.node (ob75 P) (.node (ob113 P) .nil .nil) .nil) (.node (ob94 P) .nil .nil))) (.node (ob43 P) (.node (ob55 P) (.node (ob71 P) (.node (ob109 P) .nil .nil) .nil) (.node (ob87 P) .nil .nil)) (.node (ob63 P) (.node (ob79 P) (.node (ob117 P) .nil .nil) .nil) (.node (ob98 P) .nil .nil)))) (.node (boot_o_5 P) (.node (boot_o_9 P) (.node (ob53 P) (.node (ob69 P) (.node (ob107 P) .nil .nil) .nil) (.node (ob85 P) .nil .nil)) (.node (ob61 P) (.node (ob77 P) (.node (ob115 P) .nil .nil) .nil) (.node (ob96 P) .nil .nil))) (.node (ob45 P) (.node (ob57 P) (.node (ob73 P) (.node (ob111 P) .nil .nil) .nil) (.node (ob92 P) .nil .nil)) (.node (ob65 P) (.node (ob81 P) .nil .nil) (.node (ob100 P) .nil .nil))))) (.node (boot_o_2 P) (.node (boot_o_4 P) (.node (boot_o_8 P) (.node (ob52 P) (.node (ob68 P) (.node (ob106 P) .nil .nil) .nil) (.node (ob105 P) .nil .nil)) (.node (ob60 P) (.node (ob76 P) (.node (ob114 P) .nil .nil) .nil) (.node (ob95 P) .nil .nil))) (.node (ob104 P) (.node (ob56 P) (.node (ob72 P) (.node (ob110 P) .nil .nil) .nil) (.node (ob91 P) .nil .nil)) (.node (ob64 P) (.node (ob80 P) .nil .nil) (.node (ob99 P) .nil .nil)))) (.node (boot_o_6 P) (.node (boot_o_10 P) (.node (ob54 P) (.node (ob70 P) (.node (ob108 P) .nil .nil) .nil) (.node (ob86 P) .nil .nil)) (.node (ob62 P) (.node (ob78 P) (.node (ob116 P) .nil .nil) .nil) (.node (ob97 P) .nil .nil))) (.node (ob46 P) (.node (ob58 P) (.node (ob74 P) (.node (ob112 P) .nil .nil) .nil) (.node (ob93 P) .nil .nil)) (.node (ob66 P) (.node (ob82 P) .nil .nil) (.node (ob101 P) .nil .nil)))))
noncomputable def tr147 (P : Params) : BT := .node (boot_o_0 P) (.node (boot_o_1 P) (.node (ob133 P) (.node (boot_o_7 P) (.node (ob51 P) (.node (ob67 P) (.node (ob102 P) .nil .nil) (.node (ob143 P) .nil .nil)) (.node (ob83 P) (.node (ob124 P) .nil .nil) .nil)) (.node (ob59 P) (.node (ob75 P) (.node (ob113 P) .nil .nil) .nil) (.node (ob94 P) (.node (ob132 P) .nil .nil) .nil))) (.node (ob43 P) (.node (ob55 P) (.node (ob71 P) (.node (ob109 P) .nil .nil) (.node (ob147 P) .nil .nil)) (.node (ob87 P) (.node (ob128 P) .nil .nil) .nil)) (.node (ob63 P) (.node (ob79 P) (.node (ob117 P) .nil .nil) .nil) (.node (ob98 P) (.node (ob139 P) .nil .nil) .nil)))) (.node (boot_o_5 P) (.node (boot_o_9 P) (.node (ob53 P) (.node (ob69 P) (.node (ob107 P) .nil .nil) (.node (ob145 P) .nil .nil)) (.node (ob85 P) (.node (ob126 P) .nil .nil) .nil)) (.node (ob61 P) (.node (ob77 P) (.node (ob115 P) .nil .nil) .nil) (.node (ob96 P) (.node (ob137 P) .nil .nil) .nil))) (.node (ob45 P) (.node (ob57 P) (.node (ob73 P) (.node (ob111 P) .nil .nil) .nil) (.node (ob92 P) (.node (ob130 P) .nil .nil) .nil)) (.node (ob65 P) (.node (ob81 P) (.node (ob122 P) .nil .nil) .nil) (.node (ob100 P) (.node (ob141 P) .nil .nil) .nil))))) (.node (boot_o_2 P) (.node (boot_o_4 P) (.node (boot_o_8 P) (.node (ob52 P) (.node (ob68 P) (.node (ob106 P) .nil .nil) (.node (ob144 P) .nil .nil)) (.node (ob135 P) (.node (ob125 P) .nil .nil) .nil)) (.node (ob60 P) (.node (ob76 P) (.node (ob114 P) .nil .nil) .nil) (.node (ob95 P) (.node (ob136 P) .nil .nil) .nil))) (.node (ob134 P) (.node (ob56 P) (.node (ob72 P) (.node (ob110 P) .nil .nil) .nil) (.node (ob91 P) (.node (ob129 P) .nil .nil) .nil)) (.node (ob64 P) (.node (ob80 P) (.node (ob121 P) .nil .nil) .nil) (.node (ob99 P) (.node (ob140 P) .nil .nil) .nil)))) (.node (boot_o_6 P) (.node (boot_o_10 P) (.node (ob54 P) (.node (ob70 P) (.node (ob108 P) .nil .nil) (.node (ob146 P) .nil .nil)) (.node (ob86 P) (.node (ob127 P) .nil .nil) .nil)) (.node (ob62 P) (.node (ob78 P) (.node (ob116 P) .nil .nil) .nil) (.node (ob97 P) (.node (ob138 P) .nil .nil) .nil))) (.node (ob46 P) (.node (ob58 P) (.node (ob74 P) (.node (ob112 P) .nil .nil) .nil) (.node (ob93 P) (.node (ob131 P) .nil .nil) .nil)) (.node (ob66 P) (.node (ob82 P) (.node (ob123 P) .nil .nil) .nil) (.node (ob101 P) (.node (ob142 P) .nil .nil) .nil)))))
noncomputable def tr169 (P : Params) : BT := .node (boot_o_0 P) (.node (boot_o_1 P) (.node (ob148 P) (.node (boot_o_7 P) (.node (ob51 P) (.node (ob67 P) (.node (ob102 P) .nil .nil) (.node (ob143 P) .nil .nil)) (.node (ob83 P) (.node (ob124 P) .nil .nil) (.node (ob162 P) .nil .nil))) (.node (ob59 P) (.node (ob75 P) (.node (ob113 P) .nil .nil) (.node (ob154 P) .nil .nil)) (.node (ob94 P) (.node (ob132 P) .nil .nil) .nil))) (.node (ob43 P) (.node (ob55 P) (.node (ob71 P) (.node (ob109 P) .nil .nil) (.node (ob147 P) .nil .nil)) (.node (ob87 P) (.node (ob128 P) .nil .nil) (.node (ob166 P) .nil .nil))) (.node (ob63 P) (.node (ob79 P) (.node (ob117 P) .nil .nil) (.node (ob158 P) .nil .nil)) (.node (ob98 P) (.node (ob139 P) .nil .nil) .nil)))) (.node (boot_o_5 P) (.node (boot_o_9 P) (.node (ob53 P) (.node (ob69 P) (.node (ob107 P) .nil .nil) (.node (ob145 P) .nil .nil)) (.node (ob85 P) (.node (ob126 P) .nil .nil) (.node (ob164 P) .nil .nil))) (.node (ob61 P) (.node (ob77 P) (.node (ob115 P) .nil .nil) (.node (ob156 P) .nil .nil)) (.node (ob96 P) (.node (ob137 P) .nil .nil) .nil))) (.node (ob45 P) (.node (ob57 P) (.node (ob73 P) (.node (ob111 P) .nil .nil) (.node (ob152 P) .nil .nil)) (.node (ob92 P) (.node (ob130 P) .nil .nil) (.node (ob168 P) .nil .nil))) (.node (ob65 P) (.node (ob81 P) (.node (ob122 P) .nil .nil) (.node (ob160 P) .nil .nil)) (.node (ob100 P) (.node (ob141 P) .nil .nil) .nil))))) (.node (boot_o_2 P) (.node (boot_o_4 P) (.node (boot_o_8 P) (.node (ob52 P) (.node (ob68 P) (.node (ob106 P) .nil .nil) (.node (ob144 P) .nil .nil)) (.node (ob150 P) (.node (ob125 P) .nil .nil) (.node (ob163 P) .nil .nil))) (.node (ob60 P) (.node (ob76 P) (.node (ob114 P) .nil .nil) (.node (ob155 P) .nil .nil)) (.node (ob95 P) (.node (ob136 P) .nil .nil) .nil))) (.node (ob149 P) (.node (ob56 P) (.node (ob72 P) (.node (ob110 P) .nil .nil) (.node (ob151 P) .nil .nil)) (.node (ob91 P) (.node (ob129 P) .nil .nil) (.node (ob167 P) .nil .nil))) (.node (ob64 P) (.node (ob80 P) (.node (ob121 P) .nil .nil) (.node (ob159 P) .nil .nil)) (.node (ob99 P) (.node (ob140 P) .nil .nil) .nil)))) (.node (boot_o_6 P) (.node (boot_o_10 P) (.node (ob54 P) (.node (ob70 P) (.node (ob108 P) .nil .nil) (.node (ob146 P) .nil .nil)) (.node (ob86 P) (.node (ob127 P) .nil .nil) (.node (ob165 P) .nil .nil))) (.node (ob62 P) (.node (ob78 P) (.node (ob116 P) .nil .nil) (.node (ob157 P) .nil .nil)) (.node (ob97 P) (.node (ob138 P) .nil .nil) .nil))) (.node (ob46 P) (.node (ob58 P) (.node (ob74 P) (.node (ob112 P) .nil .nil) (.node (ob153 P) .nil .nil)) (.node (ob93 P) (.node (ob131 P) .nil .nil) (.node (ob169 P) .nil .nil))) (.node (ob66 P) (.node (ob82 P) (.node (ob123 P) .nil .nil) (.node (ob161 P) .nil .nil)) (.node (ob101 P) (.node (ob142 P) .nil .nil) .nil)))))
noncomputable def tr213 (P : Params) : BT := .node (boot_o_0 P) (.node (boot_o_1 P) (.node (ob170 P) (.node (boot_o_7 P) (.node (ob51 P) (.node (ob67 P) (.node (ob102 P) (.node (ob180 P) .nil .nil) .nil) (.node (ob143 P) (.node (ob212 P) .nil .nil) .nil)) (.node (ob83 P) (.node (ob124 P) (.node (ob196 P) .nil .nil) .nil) (.node (ob162 P) .nil .nil))) (.node (ob59 P) (.node (ob75 P) (.node (ob113 P) (.node (ob188 P) .nil .nil) .nil) (.node (ob154 P) .nil .nil)) (.node (ob94 P) (.node (ob132 P) (.node (ob204 P) .nil .nil) .nil) (.node (ob172 P) .nil .nil)))) (.node (ob43 P) (.node (ob55 P) (.node (ob71 P) (.node (ob109 P) (.node (ob184 P) .nil .nil) .nil) (.node (ob147 P) .nil .nil)) (.node (ob87 P) (.node (ob128 P) (.node (ob200 P) .nil .nil) .nil) (.node (ob166 P) .nil .nil))) (.node (ob63 P) (.node (ob79 P) (.node (ob117 P) (.node (ob192 P) .nil .nil) .nil) (.node (ob158 P) .nil .nil)) (.node (ob98 P) (.node (ob139 P) (.node (ob208 P) .nil .nil) .nil) (.node (ob176 P) .nil .nil))))) (.node (boot_o_5 P) (.node (boot_o_9 P) (.node (ob53 P) (.node (ob69 P) (.node (ob107 P) (.node (ob182 P) .nil .nil) .nil) (.node (ob145 P) .nil .nil)) (.node (ob85 P) (.node (ob126 P) (.node (ob198 P) .nil .nil) .nil) (.node (ob164 P) .nil .nil))) (.node (ob61 P) (.node (ob77 P) (.node (ob115 P) (.node (ob190 P) .nil .nil) .nil) (.node (ob156 P) .nil .nil)) (.node (ob96 P) (.node (ob137 P) (.node (ob206 P) .nil .nil) .nil) (.node (ob174 P) .nil .nil)))) (.node (ob45 P) (.node (ob57 P) (.node (ob73 P) (.node (ob111 P) (.node (ob186 P) .nil .nil) .nil) (.node (ob152 P) .nil .nil)) (.node (ob92 P) (.node (ob130 P) (.node (ob202 P) .nil .nil) .nil) (.node (ob168 P) .nil .nil))) (.node (ob65 P) (.node (ob81 P) (.node (ob122 P) (.node (ob194 P) .nil .nil) .nil) (.node (ob160 P) .nil .nil)) (.node (ob100 P) (.node (ob141 P) (.node (ob210 P) .nil .nil) .nil) (.node (ob178 P) .nil .nil)))))) (.node (boot_o_2 P) (.node (boot_o_4 P) (.node (boot_o_8 P) (.node (ob52 P) (.node (ob68 P) (.node (ob106 P) (.node (ob181 P) .nil .nil) .nil) (.node (ob144 P) (.node (ob213 P) .nil .nil) .nil)) (.node (ob150 P) (.node (ob125 P) (.node (ob197 P) .nil .nil) .nil) (.node (ob163 P) .nil .nil))) (.node (ob60 P) (.node (ob76 P) (.node (ob114 P) (.node (ob189 P) .nil .nil) .nil) (.node (ob155 P) .nil .nil)) (.node (ob95 P) (.node (ob136 P) (.node (ob205 P) .nil .nil) .nil) (.node (ob173 P) .nil .nil)))) (.node (ob171 P) (.node (ob56 P) (.node (ob72 P) (.node (ob110 P) (.node (ob185 P) .nil .nil) .nil) (.node (ob151 P) .nil .nil)) (.node (ob91 P) (.node (ob129 P) (.node (ob201 P) .nil .nil) .nil) (.node (ob167 P) .nil .nil))) (.node (ob64 P) (.node (ob80 P) (.node (ob121 P) (.node (ob193 P) .nil .nil) .nil) (.node (ob159 P) .nil .nil)) (.node (ob99 P) (.node (ob140 P) (.node (ob209 P) .nil .nil) .nil) (.node (ob177 P) .nil .nil))))) (.node (boot_o_6 P) (.node (boot_o_10 P) (.node (ob54 P) (.node (ob70 P) (.node (ob108 P) (.node (ob183 P) .nil .nil) .nil) (.node (ob146 P) .nil .nil)) (.node (ob86 P) (.node (ob127 P) (.node (ob199 P) .nil .nil) .nil) (.node (ob165 P) .nil .nil))) (.node (ob62 P) (.node (ob78 P) (.node (ob116 P) (.node (ob191 P) .nil .nil) .nil) (.node (ob157 P) .nil .nil)) (.node (ob97 P) (.node (ob138 P) (.node (ob207 P) .nil .nil) .nil) (.node (ob175 P) .nil .nil)))) (.node (ob46 P) (.node (ob58 P) (.node (ob74 P) (.node (ob112 P) (.node (ob187 P) .nil .nil) .nil) (.node (ob153 P) .nil .nil)) (.node (ob93 P) (.node (ob131 P) (.node (ob203 P) .nil .nil) .nil) (.node (ob169 P) .nil .nil))) (.node (ob66 P) (.node (ob82 P) (.node (ob123 P) (.node (ob195 P) .nil .nil) .nil) (.node (ob161 P) .nil .nil)) (.node (ob101 P) (.node (ob142 P) (.node (ob211 P) .nil .nil) .nil) (.node (ob179 P) .nil .nil))))))
noncomputable def tr334 (P : Params) : BT := .node (boot_o_0 P) (.node (boot_o_1 P) (.node (ob214 P) (.node (boot_o_7 P) (.node (ob51 P) (.node (ob67 P) (.node (ob102 P) (.node (ob180 P) (.node (ob310 P) .nil .nil) .nil) (.node (ob246 P) .nil .nil)) (.node (ob143 P) (.node (ob212 P) .nil .nil) (.node (ob278 P) .nil .nil))) (.node (ob83 P) (.node (ob124 P) (.node (ob196 P) (.node (ob326 P) .nil .nil) .nil) (.node (ob262 P) .nil .nil)) (.node (ob162 P) (.node (ob230 P) .nil .nil) (.node (ob294 P) .nil .nil)))) (.node (ob59 P) (.node (ob75 P) (.node (ob113 P) (.node (ob188 P) (.node (ob318 P) .nil .nil) .nil) (.node (ob254 P) .nil .nil)) (.node (ob154 P) (.node (ob222 P) .nil .nil) (.node (ob286 P) .nil .nil))) (.node (ob94 P) (.node (ob132 P) (.node (ob204 P) (.node (ob334 P) .nil .nil) .nil) (.node (ob270 P) .nil .nil)) (.node (ob172 P) (.node (ob238 P) .nil .nil) (.node (ob302 P) .nil .nil))))) (.node (ob43 P) (.node (ob55 P) (.node (ob71 P) (.node (ob109 P) (.node (ob184 P) (.node (ob314 P) .nil .nil) .nil) (.node (ob250 P) .nil .nil)) (.node (ob147 P) (.node (ob218 P) .nil .nil) (.node (ob282 P) .nil .nil))) (.node (ob87 P) (.node (ob128 P) (.node (ob200 P) (.node (ob330 P) .nil .nil) .nil) (.node (ob266 P) .nil .nil)) (.node (ob166 P) (.node (ob234 P) .nil .nil) (.node (ob298 P) .nil .nil)))) (.node (ob63 P) (.node (ob79 P) (.node (ob117 P) (.node (ob192 P) (.node (ob322 P) .nil .nil) .nil) (.node (ob258 P) .nil .nil)) (.node (ob158 P) (.node (ob226 P) .nil .nil) (.node (ob290 P) .nil .nil))) (.node (ob98 P) (.node (ob139 P) (.node (ob208 P) .nil .nil) (.node (ob274 P) .nil .nil)) (.node (ob176 P) (.node (ob242 P) .nil .nil) (.node (ob306 P) .nil .nil)))))) (.node (boot_o_5 P) (.node (boot_o_9 P) (.node (ob53 P) (.node (ob69 P) (.node (ob107 P) (.node (ob182 P) (.node (ob312 P) .nil .nil) .nil) (.node (ob248 P) .nil .nil)) (.node (ob145 P) (.node (ob216 P) .nil .nil) (.node (ob280 P) .nil .nil))) (.node (ob85 P) (.node (ob126 P) (.node (ob198 P) (.node (ob328 P) .nil .nil) .nil) (.node (ob264 P) .nil .nil)) (.node (ob164 P) (.node (ob232 P) .nil .nil) (.node (ob296 P) .nil .nil)))) (.node (ob61 P) (.node (ob77 P) (.node (ob115 P) (.node (ob190 P) (.node (ob320 P) .nil .nil) .nil) (.node (ob256 P) .nil .nil)) (.node (ob156 P) (.node (ob224 P) .nil .nil) (.node (ob288 P) .nil .nil))) (.node (ob96 P) (.node (ob137 P) (.node (ob206 P) .nil .nil) (.node (ob272 P) .nil .nil)) (.node (ob174 P) (.node (ob240 P) .nil .nil) (.node (ob304 P) .nil .nil))))) (.node (ob45 P) (.node (ob57 P) (.node (ob73 P) (.node (ob111 P) (.node (ob186 P) (.node (ob316 P) .nil .nil) .nil) (.node (ob252 P) .nil .nil)) (.node (ob152 P) (.node (ob220 P) .nil .nil) (.node (ob284 P) .nil .nil))) (.node (ob92 P) (.node (ob130 P) (.node (ob202 P) (.node (ob332 P) .nil .nil) .nil) (.node (ob268 P) .nil .nil)) (.node (ob168 P) (.node (ob236 P) .nil .nil) (.node (ob300 P) .nil .nil)))) (.node (ob65 P) (.node (ob81 P) (.node (ob122 P) (.node (ob194 P) (.node (ob324 P) .nil .nil) .nil) (.node (ob260 P) .nil .nil)) (.node (ob160 P) (.node (ob228 P) .nil .nil) (.node (ob292 P) .nil .nil))) (.node (ob100 P) (.node (ob141 P) (.node (ob210 P) .nil .nil) (.node (ob276 P) .nil .nil)) (.node (ob178 P) (.node (ob244 P) .nil .nil) (.node (ob308 P) .nil .nil))))))) (.node (boot_o_2 P) (.node (boot_o_4 P) (.node (boot_o_8 P) (.node (ob52 P) (.node (ob68 P) (.node (ob106 P) (.node (ob181 P) (.node (ob311 P) .nil .nil) .nil) (.node (ob247 P) .nil .nil)) (.node (ob144 P) (.node (ob213 P) .nil .nil) (.node (ob279 P) .nil .nil))) (.node (ob150 P) (.node (ob125 P) (.node (ob197 P) (.node (ob327 P) .nil .nil) .nil) (.node (ob263 P) .nil .nil)) (.node (ob163 P) (.node (ob231 P) .nil .nil) (.node (ob295 P) .nil .nil)))) (.node (ob60 P) (.node (ob76 P) (.node (ob114 P) (.node (ob189 P) (.node (ob319 P) .nil .nil) .nil) (.node (ob255 P) .nil .nil)) (.node (ob155 P) (.node (ob223 P) .nil .nil) (.node (ob287 P) .nil .nil))) (.node (ob95 P) (.node (ob136 P) (.node (ob205 P) .nil .nil) (.node (ob271 P) .nil .nil)) (.node (ob173 P) (.node (ob239 P) .nil .nil) (.node (ob303 P) .nil .nil))))) (.node (ob215 P) (.node (ob56 P) (.node (ob72 P) (.node (ob110 P) (.node (ob185 P) (.node (ob315 P) .nil .nil) .nil) (.node (ob251 P) .nil .nil)) (.node (ob151 P) (.node (ob219 P) .nil .nil) (.node (ob283 P) .nil .nil))) (.node (ob91 P) (.node (ob129 P) (.node (ob201 P) (.node (ob331 P) .nil .nil) .nil) (.node (ob267 P) .nil .nil)) (.node (ob167 P) (.node (ob235 P) .nil .nil) (.node (ob299 P) .nil .nil)))) (.node (ob64 P) (.node (ob80 P) (.node (ob121 P) (.node (ob193 P) (.node (ob323 P) .nil .nil) .nil) (.node (ob259 P) .nil .nil)) (.node (ob159 P) (.node (ob227 P) .nil .nil) (.node (ob291 P) .nil .nil))) (.node (ob99 P) (.node (ob140 P) (.node (ob209 P) .nil .nil) (.node (ob275 P) .nil .nil)) (.node (ob177 P) (.node (ob243 P) .nil .nil) (.node (ob307 P) .nil .nil)))))) (.node (boot_o_6 P) (.node (boot_o_10 P) (.node (ob54 P) (.node (ob70 P) (.node (ob108 P) (.node (ob183 P) (.node (ob313 P) .nil .nil) .nil) (.node (ob249 P) .nil .nil)) (.node (ob146 P) (.node (ob217 P) .nil .nil) (.node (ob281 P) .nil .nil))) (.node (ob86 P) (.node (ob127 P) (.node (ob199 P) (.node (ob329 P) .nil .nil) .nil) (.node (ob265 P) .nil .nil)) (.node (ob165 P) (.node (ob233 P) .nil .nil) (.node (ob297 P) .nil .nil)))) (.node (ob62 P) (.node (ob78 P) (.node (ob116 P) (.node (ob191 P) (.node (ob321 P) .nil .nil) .nil) (.node (ob257 P) .nil .nil)) (.node (ob157 P) (.node (ob225 P) .nil .nil) (.node (ob289 P) .nil .nil))) (.node (ob97 P) (.node (ob138 P) (.node (ob207 P) .nil .nil) (.node (ob273 P) .nil .nil)) (.node (ob175 P) (.node (ob241 P) .nil .nil) (.node (ob305 P) .nil .nil))))) (.node (ob46 P) (.node (ob58 P) (.node (ob74 P) (.node (ob112 P) (.node (ob187 P) (.node (ob317 P) .nil .nil) .nil) (.node (ob253 P) .nil .nil)) (.node (ob153 P) (.node (ob221 P) .nil .nil) (.node (ob285 P) .nil .nil))) (.node (ob93 P) (.node (ob131 P) (.node (ob203 P) (.node (ob333 P) .nil .nil) .nil) (.node (ob269 P) .nil .nil)) (.node (ob169 P) (.node (ob237 P) .nil .nil) (.node (ob301 P) .nil .nil)))) (.node (ob66 P) (.node (ob82 P) (.node (ob123 P) (.node (ob195 P) (.node (ob325 P) .nil .nil) .nil) (.node (ob261 P) .nil .nil)) (.node (ob161 P) (.node (ob229 P) .nil .nil) (.node (ob293 P) .nil .nil))) (.node (ob101 P) (.node (ob142 P) (.node (ob211 P) .nil .nil) (.node (ob277 P) .nil .nil)) (.node (ob179 P) (.node (ob245 P) .nil .nil) (.node (ob309 P) .nil .nil)))))))
noncomputable def tr511 (P : Params) : BT := .node (boot_o_0 P) (.node (boot_o_1 P) (.node (ob505 P) (.node (boot_o_7 P) (.node (ob51 P) (.node (ob67 P) (.node (ob102 P) (.node (ob180 P) (.node (ob310 P) .nil .nil) .nil) (.node (ob246 P) (.node (ob463 P) .nil .nil) .nil)) (.node (ob143 P) (.node (ob212 P) (.node (ob431 P) .nil .nil) .nil) (.node (ob278 P) (.node (ob495 P) .nil .nil) .nil))) (.node (ob83 P) (.node (ob124 P) (.node (ob196 P) (.node (ob326 P) .nil .nil) .nil) (.node (ob262 P) (.node (ob479 P) .nil .nil) .nil)) (.node (ob162 P) (.node (ob230 P) (.node (ob447 P) .nil .nil) .nil) (.node (ob294 P) .nil .nil)))) (.node (ob59 P) (.node (ob75 P) (.node (ob113 P) (.node (ob188 P) (.node (ob318 P) .nil .nil) .nil) (.node (ob254 P) (.node (ob471 P) .nil .nil) .nil)) (.node (ob154 P) (.node (ob222 P) (.node (ob439 P) .nil .nil) .nil) (.node (ob286 P) (.node (ob503 P) .nil .nil) .nil))) (.node (ob94 P) (.node (ob132 P) (.node (ob204 P) (.node (ob334 P) .nil .nil) .nil) (.node (ob270 P) (.node (ob487 P) .nil .nil) .nil)) (.node (ob172 P) (.node (ob238 P) (.node (ob455 P) .nil .nil) .nil) (.node (ob302 P) .nil .nil))))) (.node (ob43 P) (.node (ob55 P) (.node (ob71 P) (.node (ob109 P) (.node (ob184 P) (.node (ob314 P) .nil .nil) .nil) (.node (ob250 P) (.node (ob467 P) .nil .nil) .nil)) (.node (ob147 P) (.node (ob218 P) (.node (ob435 P) .nil .nil) .nil) (.node (ob282 P) (.node (ob499 P) .nil .nil) .nil))) (.node (ob87 P) (.node (ob128 P) (.node (ob200 P) (.node (ob330 P) .nil .nil) .nil) (.node (ob266 P) (.node (ob483 P) .nil .nil) .nil)) (.node (ob166 P) (.node (ob234 P) (.node (ob451 P) .nil .nil) .nil) (.node (ob298 P) .nil .nil)))) (.node (ob63 P) (.node (ob79 P) (.node (ob117 P) (.node (ob192 P) (.node (ob322 P) .nil .nil) .nil) (.node (ob258 P) (.node (ob475 P) .nil .nil) .nil)) (.node (ob158 P) (.node (ob226 P) (.node (ob443 P) .nil .nil) .nil) (.node (ob290 P) (.node (ob509 P) .nil .nil) .nil))) (.node (ob98 P) (.node (ob139 P) (.node (ob208 P) (.node (ob427 P) .nil .nil) .nil) (.node (ob274 P) (.node (ob491 P) .nil .nil) .nil)) (.node (ob176 P) (.node (ob242 P) (.node (ob459 P) .nil .nil) .nil) (.node (ob306 P) .nil .nil)))))) (.node (boot_o_5 P) (.node (boot_o_9 P) (.node (ob53 P) (.node (ob69 P) (.node (ob107 P) (.node (ob182 P) (.node (ob312 P) .nil .nil) .nil) (.node (ob248 P) (.node (ob465 P) .nil .nil) .nil)) (.node (ob145 P) (.node (ob216 P) (.node (ob433 P) .nil .nil) .nil) (.node (ob280 P) (.node (ob497 P) .nil .nil) .nil))) (.node (ob85 P) (.node (ob126 P) (.node (ob198 P) (.node (ob328 P) .nil .nil) .nil) (.node (ob264 P) (.node (ob481 P) .nil .nil) .nil)) (.node (ob164 P) (.node (ob232 P) (.node (ob449 P) .nil .nil) .nil) (.node (ob296 P) .nil .nil)))) (.node (ob61 P) (.node (ob77 P) (.node (ob115 P) (.node (ob190 P) (.node (ob320 P) .nil .nil) .nil) (.node (ob256 P) (.node (ob473 P) .nil .nil) .nil)) (.node (ob156 P) (.node (ob224 P) (.node (ob441 P) .nil .nil) .nil) (.node (ob288 P) (.node (ob507 P) .nil .nil) .nil))) (.node (ob96 P) (.node (ob137 P) (.node (ob206 P) (.node (ob425 P) .nil .nil) .nil) (.node (ob272 P) (.node (ob489 P) .nil .nil) .nil)) (.node (ob174 P) (.node (ob240 P) (.node (ob457 P) .nil .nil) .nil) (.node (ob304 P) .nil .nil))))) (.node (ob45 P) (.node (ob57 P) (.node (ob73 P) (.node (ob111 P) (.node (ob186 P) (.node (ob316 P) .nil .nil) .nil) (.node (ob252 P) (.node (ob469 P) .nil .nil) .nil)) (.node (ob152 P) (.node (ob220 P) (.node (ob437 P) .nil .nil) .nil) (.node (ob284 P) (.node (ob501 P) .nil .nil) .nil))) (.node (ob92 P) (.node (ob130 P) (.node (ob202 P) (.node (ob332 P) .nil .nil) .nil) (.node (ob268 P) (.node (ob485 P) .nil .nil) .nil)) (.node (ob168 P) (.node (ob236 P) (.node (ob453 P) .nil .nil) .nil) (.node (ob300 P) .nil .nil)))) (.node (ob65 P) (.node (ob81 P) (.node (ob122 P) (.node (ob194 P) (.node (ob324 P) .nil .nil) .nil) (.node (ob260 P) (.node (ob477 P) .nil .nil) .nil)) (.node (ob160 P) (.node (ob228 P) (.node (ob445 P) .nil .nil) .nil) (.node (ob292 P) (.node (ob511 P) .nil .nil) .nil))) (.node (ob100 P) (.node (ob141 P) (.node (ob210 P) (.node (ob429 P) .nil .nil) .nil) (.node (ob276 P) (.node (ob493 P) .nil .nil) .nil)) (.node (ob178 P) (.node (ob244 P) (.node (ob461 P) .nil .nil) .nil) (.node (ob308 P) .nil .nil))))))) (.node (boot_o_2 P) (.node (boot_o_4 P) (.node (boot_o_8 P) (.node (ob52 P) (.node (ob68 P) (.node (ob106 P) (.node (ob181 P) (.node (ob311 P) .nil .nil) .nil) (.node (ob247 P) (.node (ob464 P) .nil .nil) .nil)) (.node (ob144 P) (.node (ob213 P) (.node (ob432 P) .nil .nil) .nil) (.node (ob279 P) (.node (ob496 P) .nil .nil) .nil))) (.node (ob150 P) (.node (ob125 P) (.node (ob197 P) (.node (ob327 P) .nil .nil) .nil) (.node (ob263 P) (.node (ob480 P) .nil .nil) .nil)) (.node (ob163 P) (.node (ob231 P) (.node (ob448 P) .nil .nil) .nil) (.node (ob295 P) .nil .nil)))) (.node (ob60 P) (.node (ob76 P) (.node (ob114 P) (.node (ob189 P) (.node (ob319 P) .nil .nil) .nil) (.node (ob255 P) (.node (ob472 P) .nil .nil) .nil)) (.node (ob155 P) (.node (ob223 P) (.node (ob440 P) .nil .nil) .nil) (.node (ob287 P) (.node (ob504 P) .nil .nil) .nil))) (.node (ob95 P) (.node (ob136 P) (.node (ob205 P) (.node (ob424 P) .nil .nil) .nil) (.node (ob271 P) (.node (ob488 P) .nil .nil) .nil)) (.node (ob173 P) (.node (ob239 P) (.node (ob456 P) .nil .nil) .nil) (.node (ob303 P) .nil .nil))))) (.node (ob506 P) (.node (ob56 P) (.node (ob72 P) (.node (ob110 P) (.node (ob185 P) (.node (ob315 P) .nil .nil) .nil) (.node (ob251 P) (.node (ob468 P) .nil .nil) .nil)) (.node (ob151 P) (.node (ob219 P) (.node (ob436 P) .nil .nil) .nil) (.node (ob283 P) (.node (ob500 P) .nil .nil) .nil))) (.node (ob91 P) (.node (ob129 P) (.node (ob201 P) (.node (ob331 P) .nil .nil) .nil) (.node (ob267 P) (.node (ob484 P) .nil .nil) .nil)) (.node (ob167 P) (.node (ob235 P) (.node (ob452 P) .nil .nil) .nil) (.node (ob299 P) .nil .nil)))) (.node (ob64 P) (.node (ob80 P) (.node (ob121 P) (.node (ob193 P) (.node (ob323 P) .nil .nil) .nil) (.node (ob259 P) (.node (ob476 P) .nil .nil) .nil)) (.node (ob159 P) (.node (ob227 P) (.node (ob444 P) .nil .nil) .nil) (.node (ob291 P) (.node (ob510 P) .nil .nil) .nil))) (.node (ob99 P) (.node (ob140 P) (.node (ob209 P) (.node (ob428 P) .nil .nil) .nil) (.node (ob275 P) (.node (ob492 P) .nil .nil) .nil)) (.node (ob177 P) (.node (ob243 P) (.node (ob460 P) .nil .nil) .nil) (.node (ob307 P) .nil .nil)))))) (.node (boot_o_6 P) (.node (boot_o_10 P) (.node (ob54 P) (.node (ob70 P) (.node (ob108 P) (.node (ob183 P) (.node (ob313 P) .nil .nil) .nil) (.node (ob249 P) (.node (ob466 P) .nil .nil) .nil)) (.node (ob146 P) (.node (ob217 P) (.node (ob434 P) .nil .nil) .nil) (.node (ob281 P) (.node (ob498 P) .nil .nil) .nil))) (.node (ob86 P) (.node (ob127 P) (.node (ob199 P) (.node (ob329 P) .nil .nil) .nil) (.node (ob265 P) (.node (ob482 P) .nil .nil) .nil)) (.node (ob165 P) (.node (ob233 P) (.node (ob450 P) .nil .nil) .nil) (.node (ob297 P) .nil .nil)))) (.node (ob62 P) (.node (ob78 P) (.node (ob116 P) (.node (ob191 P) (.node (ob321 P) .nil .nil) .nil) (.node (ob257 P) (.node (ob474 P) .nil .nil) .nil)) (.node (ob157 P) (.node (ob225 P) (.node (ob442 P) .nil .nil) .nil) (.node (ob289 P) (.node (ob508 P) .nil .nil) .nil))) (.node (ob97 P) (.node (ob138 P) (.node (ob207 P) (.node (ob426 P) .nil .nil) .nil) (.node (ob273 P) (.node (ob490 P) .nil .nil) .nil)) (.node (ob175 P) (.node (ob241 P) (.node (ob458 P) .nil .nil) .nil) (.node (ob305 P) .nil .nil))))) (.node (ob46 P) (.node (ob58 P) (.node (ob74 P) (.node (ob112 P) (.node (ob187 P) (.node (ob317 P) .nil .nil) .nil) (.node (ob253 P) (.node (ob470 P) .nil .nil) .nil)) (.node (ob153 P) (.node (ob221 P) (.node (ob438 P) .nil .nil) .nil) (.node (ob285 P) (.node (ob502 P) .nil .nil) .nil))) (.node (ob93 P) (.node (ob131 P) (.node (ob203 P) (.node (ob333 P) .nil .nil) .nil) (.node (ob269 P) (.node (ob486 P) .nil .nil) .nil)) (.node (ob169 P) (.node (ob237 P) (.node (ob454 P) .nil .nil) .nil) (.node (ob301 P) .nil .nil)))) (.node (ob66 P) (.node (ob82 P) (.node (ob123 P) (.node (ob195 P) (.node (ob325 P) .nil .nil) .nil) (.node (ob261 P) (.node (ob478 P) .nil .nil) .nil)) (.node (ob161 P) (.node (ob229 P) (.node (ob446 P) .nil .nil) .nil) (.node (ob293 P) .nil .nil))) (.node (ob101 P) (.node (ob142 P) (.node (ob211 P) (.node (ob430 P) .nil .nil) .nil) (.node (ob277 P) (.node (ob494 P) .nil .nil) .nil)) (.node (ob179 P) (.node (ob245 P) (.node (ob462 P) .nil .nil) .nil) (.node (ob309 P) .nil .nil)))))))
noncomputable def Kq (P : Params) : Frag := [(2, boot_o_2 P), (3, ob505 P), (15, ob51 P), (18, ob54 P), (19, ob55 P), (20, ob56 P), (22, ob58 P), (23, ob59 P), (25, ob61 P), (26, ob62 P), (27, ob63 P), (29, ob65 P), (30, ob66 P), (32, ob68 P), (33, ob69 P), (34, ob70 P), (37, ob73 P), (38, ob74 P), (39, ob75 P), (46, ob82 P), (47, ob83 P), (48, ob150 P), (49, ob85 P), (52, ob91 P), (59, ob98 P), (60, ob99 P), (61, ob100 P), (64, ob106 P), (71, ob113 P), (72, ob114 P), (73, ob115 P), (76, ob121 P), (83, ob128 P), (84, ob129 P), (85, ob130 P), (88, ob136 P), (95, ob143 P), (96, ob144 P), (97, ob145 P), (100, ob151 P), (107, ob158 P), (108, ob159 P), (109, ob160 P), (112, ob163 P), (114, ob165 P), (115, ob166 P), (117, ob168 P), (118, ob169 P), (126, ob179 P), (128, ob181 P), (129, ob182 P), (131, ob184 P), (132, ob185 P), (133, ob186 P), (135, ob188 P), (136, ob189 P), (138, ob191 P), (139, ob192 P), (140, ob193 P), (142, ob195 P), (143, ob196 P), (145, ob198 P), (146, ob199 P), (147, ob200 P), (149, ob202 P), (150, ob203 P), (152, ob205 P), (153, ob206 P), (154, ob207 P), (155, ob208 P), (156, ob209 P), (157, ob210 P), (158, ob211 P), (168, ob223 P), (170, ob225 P), (171, ob226 P), (173, ob228 P), (174, ob229 P), (175, ob230 P), (177, ob232 P), (178, ob233 P), (180, ob235 P), (181, ob236 P), (182, ob237 P), (184, ob239 P), (185, ob240 P), (187, ob242 P), (188, ob243 P), (189, ob244 P), (191, ob246 P), (192, ob247 P), (194, ob249 P), (195, ob250 P), (196, ob251 P), (198, ob253 P), (199, ob254 P), (201, ob256 P), (202, ob257 P), (203, ob258 P), (205, ob260 P), (206, ob261 P), (208, ob263 P), (209, ob264 P), (210, ob265 P), (212, ob267 P), (213, ob268 P), (215, ob270 P), (216, ob271 P), (217, ob272 P), (219, ob274 P), (220, ob275 P), (222, ob277 P), (223, ob278 P), (224, ob279 P), (226, ob281 P), (227, ob282 P), (229, ob284 P), (230, ob285 P), (231, ob286 P), (233, ob288 P), (234, ob289 P), (236, ob291 P), (237, ob292 P), (238, ob293 P), (240, ob295 P), (241, ob296 P), (243, ob298 P), (244, ob299 P), (245, ob300 P), (247, ob302 P), (248, ob303 P), (250, ob305 P), (251, ob306 P), (252, ob307 P), (254, ob309 P), (255, ob310 P), (257, ob312 P), (258, ob313 P), (259, ob314 P), (261, ob316 P), (262, ob317 P), (264, ob319 P), (265, ob320 P), (266, ob321 P), (268, ob323 P), (269, ob324 P), (271, ob326 P), (272, ob327 P), (273, ob328 P), (274, ob329 P), (275, ob330 P), (276, ob331 P), (277, ob332 P), (280, ob424 P), (282, ob426 P), (283, ob427 P), (285, ob429 P), (286, ob430 P), (287, ob431 P), (289, ob433 P), (290, ob434 P), (292, ob436 P), (293, ob437 P), (294, ob438 P), (296, ob440 P), (297, ob441 P), (299, ob443 P), (300, ob444 P), (301, ob445 P), (303, ob447 P), (304, ob448 P), (306, ob450 P), (307, ob451 P), (308, ob452 P), (310, ob454 P), (311, ob455 P), (313, ob457 P), (314, ob458 P), (315, ob459 P), (317, ob461 P), (318, ob462 P), (320, ob464 P), (321, ob465 P), (322, ob466 P), (325, ob469 P), (326, ob470 P), (327, ob471 P), (329, ob473 P), (330, ob474 P), (332, ob476 P), (333, ob477 P), (334, ob478 P), (336, ob480 P), (337, ob481 P), (339, ob483 P), (340, ob484 P), (341, ob485 P), (344, ob488 P), (345, ob489 P), (346, ob490 P), (349, ob493 P), (350, ob494 P), (351, ob495 P), (354, ob498 P), (355, ob499 P), (356, ob500 P), (359, ob503 P), (360, ob504 P), (361, ob507 P), (364, ob510 P), (365, ob511 P)]
noncomputable def asq : List Addr := [2, 3, 15, 18, 19, 20, 22, 23, 25, 26, 27, 29, 30, 32, 33, 34, 37, 38, 39, 46, 47, 48, 49, 52, 59, 60, 61, 64, 71, 72, 73, 76, 83, 84, 85, 88, 95, 96, 97, 100, 107, 108, 109, 112, 114, 115, 117, 118, 126, 128, 129, 131, 132, 133, 135, 136, 138, 139, 140, 142, 143, 145, 146, 147, 149, 150, 152, 153, 154, 155, 156, 157, 158, 168, 170, 171, 173, 174, 175, 177, 178, 180, 181, 182, 184, 185, 187, 188, 189, 191, 192, 194, 195, 196, 198, 199, 201, 202, 203, 205, 206, 208, 209, 210, 212, 213, 215, 216, 217, 219, 220, 222, 223, 224, 226, 227, 229, 230, 231, 233, 234, 236, 237, 238, 240, 241, 243, 244, 245, 247, 248, 250, 251, 252, 254, 255, 257, 258, 259, 261, 262, 264, 265, 266, 268, 269, 271, 272, 273, 274, 275, 276, 277, 280, 282, 283, 285, 286, 287, 289, 290, 292, 293, 294, 296, 297, 299, 300, 301, 303, 304, 306, 307, 308, 310, 311, 313, 314, 315, 317, 318, 320, 321, 322, 325, 326, 327, 329, 330, 332, 333, 334, 336, 337, 339, 340, 341, 344, 345, 346, 349, 350, 351, 354, 355, 356, 359, 360, 361, 364, 365]
noncomputable def heapE (P : Params) : Heap := absHeap (tr511 P) 366 {}
section
variable (w : World) (os : OsState)
theorem pre_q : topGo treeTable pq w 11 (some (.ref 6)) 12 ⟨boot_heap w.params, ⟨[]⟩, boot_drawn, boot_toks, os⟩ (topStub pq) = some (⟨heapA w.params, ⟨[]⟩, {}, 187, os⟩, ⟨denote treeTable cdq, cdq, p0q, [topFrame p0q]⟩) := go_q (by kernel_rfl)
theorem blk_q : segRun treeTable pq w 11 (some (.ref 6)) 1 1 ⟨heapA w.params, ⟨[]⟩, {}, 187, os⟩ (blockOf bq envq cdq p0q [topFrame p0q]) = some (.next, SharedT.abs ⟨tr47 w.params, 15, {}, ⟨[]⟩, {}, 187, os⟩, cdq, p0q) := seg_q (by kernel_rfl)
theorem pc0_q : segRunT treeTable pq w 11 (some (.ref 6)) 1 318 ⟨tr47 w.params, 15, {}, ⟨[]⟩, {}, 187, os⟩ (piecesOf (bq.take 7) envq cdq p0q [topFrame p0q]) = some (.next, ⟨tr87 w.params, 52, {}, ⟨[]⟩, {}, 238, os⟩, cdq, ⟨23, 0, 24, 8⟩) := segT_q (by kernel_rfl)
theorem pc1_q : segRunT treeTable pq w 11 (some (.ref 6)) 1 427 ⟨tr87 w.params, 52, {}, ⟨[]⟩, {}, 238, os⟩ (piecesOf ((bq.drop 7).take 2) envq cdq ⟨23, 0, 24, 8⟩ [topFrame p0q]) = some (.next, ⟨tr117 w.params, 76, {}, ⟨[]⟩, {}, 270, os⟩, cdq, ⟨27, 0, 28, 8⟩) := segT_q (by kernel_rfl)
theorem pc2_q : segRunT treeTable pq w 11 (some (.ref 6)) 1 427 ⟨tr117 w.params, 76, {}, ⟨[]⟩, {}, 270, os⟩ (piecesOf (((bq.drop 7).drop 2).take 2) envq cdq ⟨27, 0, 28, 8⟩ [topFrame p0q]) = some (.next, ⟨tr147 w.params, 100, {}, ⟨[]⟩, {}, 302, os⟩, cdq, ⟨31, 0, 32, 8⟩) := segT_q (by kernel_rfl)
theorem pc3_q : segRunT treeTable pq w 11 (some (.ref 6)) 1 263 ⟨tr147 w.params, 100, {}, ⟨[]⟩, {}, 302, os⟩ (piecesOf ((((bq.drop 7).drop 2).drop 2).take 4) envq cdq ⟨31, 0, 32, 8⟩ [topFrame p0q]) = some (.next, ⟨tr169 w.params, 119, {}, ⟨[]⟩, {}, 331, os⟩, cdq, ⟨38, 0, 38, 8⟩) := segT_q (by kernel_rfl)
theorem pc4_q : segRunT treeTable pq w 11 (some (.ref 6)) 1 345 ⟨tr169 w.params, 119, {}, ⟨[]⟩, {}, 331, os⟩ (piecesOf (((((bq.drop 7).drop 2).drop 2).drop 4).take 4) envq cdq ⟨38, 0, 38, 8⟩ [topFrame p0q]) = some (.next, ⟨tr213 w.params, 161, {}, ⟨[]⟩, {}, 389, os⟩, cdq, ⟨58, 0, 58, 11⟩) := segT_q (by kernel_rfl)
theorem pc5_q : segRunT treeTable pq w 11 (some (.ref 6)) 1 684 ⟨tr213 w.params, 161, {}, ⟨[]⟩, {}, 389, os⟩ (piecesOf ((((((bq.drop 7).drop 2).drop 2).drop 4).drop 4).take 1) envq cdq ⟨58, 0, 58, 11⟩ [topFrame p0q]) = some (.next, ⟨tr334 w.params, 280, {}, ⟨[]⟩, {}, 543, os⟩, cdq, ⟨59, 0, 159, 31⟩) := segT_q (by kernel_rfl)
theorem pc6_q : segRunT treeTable pq w 11 (some (.ref 6)) 1 410 ⟨tr334 w.params, 280, {}, ⟨[]⟩, {}, 543, os⟩ (piecesOf ((((((bq.drop 7).drop 2).drop 2).drop 4).drop 4).drop 1) envq cdq ⟨59, 0, 159, 31⟩ [topFrame p0q]) = some (.next, ⟨tr511 w.params, 366, {}, ⟨[]⟩, {}, 649, os⟩, cdq, ⟨273, 0, 290, 150⟩) := segT_q (by kernel_rfl)
theorem fin_q : topRun treeTable pq w 11 (some (.ref 6)) 2 (SharedT.abs ⟨tr511 w.params, 366, {}, ⟨[]⟩, {}, 649, os⟩) ⟨doneF .next, cdq, ⟨273, 0, 290, 150⟩, [topFrame p0q]⟩ = some ⟨heapE w.params, ⟨[]⟩, {}, 649, os⟩ := top_q (by kernel_rfl)
theorem rest_q : topRun treeTable pq w 11 (some (.ref 6)) (318 + (427 + (427 + (263 + (345 + (684 + (410 + (2)))))))) (SharedT.abs ⟨tr47 w.params, 15, {}, ⟨[]⟩, {}, 187, os⟩) (restOf bq envq cdq p0q [topFrame p0q]) = some ⟨heapE w.params, ⟨[]⟩, {}, 649, os⟩ := piece_cut (segRun_of (pc0_q w os)) (piece_cut (segRun_of (pc1_q w os)) (piece_cut (segRun_of (pc2_q w os)) (piece_cut (segRun_of (pc3_q w os)) (piece_cut (segRun_of (pc4_q w os)) (piece_cut (segRun_of (pc5_q w os)) (piece_last (segRun_of (pc6_q w os)) (fin_q w os)))))))
theorem run_q : topRun treeTable pq w 11 (some (.ref 6)) (12 + (1 + (318 + (427 + (427 + (263 + (345 + (684 + (410 + (2)))))))))) ⟨boot_heap w.params, ⟨[]⟩, boot_drawn, boot_toks, os⟩ (topStub pq) = some ⟨heapE w.params, ⟨[]⟩, {}, 649, os⟩ :=
  go_top (pre_q w os) (piece_block (blk_q w os) (rest_q w os))
end
theorem opn_q : ∀ w : World, (fencedOpening treeTable pq w 5860).map (fun s => (s.heap, s.gens, s.drawn, s.toks)) = some (boot_heap w.params, ⟨[]⟩, boot_drawn, boot_toks) :=
  boot_open (by kernel_rfl) (by decide) (fun s => by kernel_rfl)
theorem size_q : ∀ w : World, ((boot_heap w.params).isNs mainGlobals && (⟨[]⟩ : Array GenState).size == 0, (boot_heap w.params).objs.size, (boot_heap w.params).nsMap mainGlobals "__annotations__") = (true, 11, (some (.ref 6))) := fun w => by kernel_rfl
noncomputable def vq : Program := { pq with main := { pq.main with body := [sA 1, sA 2, sA 3, sA 4, sA 6, sA 7, sA 8, sA 9, sA 10, sA 11, sA 13, sA 15, sA 17, sA 18, sA 19, sA 21, sA 22, sA 23, sA 24, sA 25, sA 26, sA 27, sA 28, sA 29, sA 30, sA 31, sA 32, sA 33, sA 34] } }
section
variable (w : World) (os : OsState)
noncomputable abbrev sE : Shared := ⟨heapE w.params, ⟨[]⟩, {}, 649, os⟩
theorem l1 : staticsOk (importedModules pq.main.body) (boot_heap w.params) (heapE w.params) = true := by kernel_rfl
theorem l2 : namesBound pq (heapE w.params) = true := by kernel_rfl
theorem l3 : gensDone (sE w os) = true := by kernel_rfl
theorem l4 : laidKept (boot_heap w.params) (heapE w.params) = true := by kernel_rfl
theorem l5 : seen ((recsOf vq).map (·.name)) (ownsOf vq) [] { sE w os with gens := #[] } = expectedOf vq := by kernel_rfl
theorem l6 : (sE w os).heap.bltView = bltViewBooted := by kernel_rfl
noncomputable def xq (s : Shared) : Bool := xlAt vq [] s && recOk (RowW.records (OpenRow.toRowW (OpenLaw.row Challenge.rw_uf040019_08))) s
theorem l7 : ((sE w os).heap.keysOk (looseW vq []) ((recsOf vq).map (·.name)) ((litsOf vq).map (·.1)) ((clssOf vq (looseW vq [])).map (·.name)) && (sE w os).heap.accountedOkI (importedModules pq.main.body) && (sE w os).heap.isNs mainGlobals && (sE w os).heap.isNs builtinsNs && tablesOk vq (sE w os).heap && xq (sE w os) && (if true then (sE w os).gens.size == 0 else !leftWithCleanup (sE w os).gens)) = true := by kernel_rfl
theorem l8 : tabsOk vq (sE w os) = true := by kernel_rfl
theorem l9 : pinSeenD vq (drecsOf vq) (sE w os) = pinGoodD (drecsOf vq) := by kernel_rfl
theorem l10 : plainSeenE vq (looseW vq []) (sE w os) = plainGoodE vq (looseW vq []) := by kernel_rfl
theorem l11 : plainSeenD vq [] (sE w os) = plainGoodD vq [] := by kernel_rfl
theorem l12 : wideSeen vq (sE w os) = wideGood vq := by kernel_rfl
theorem l13 : clsSeenW vq [] (sE w os) = clsGoodW vq [] := by kernel_rfl
theorem l14 : asq.map (sE w os).heap.get? = (Kq w.params).map fun p => some p.2 := by kernel_rfl
theorem as_q (P : Params) : asq = (Kq P).map (·.1) := by kernel_rfl
end
noncomputable def Hq : Hook := kHook Kq asq as_q
theorem looks_q : ∀ w : World, (fun os => ((staticsOk (importedModules pq.main.body) (boot_heap w.params) (heapE w.params) && namesBound pq (heapE w.params) && gensDone ⟨heapE w.params, ⟨[]⟩, {}, 649, os⟩ && laidKept (boot_heap w.params) (heapE w.params)),
        openSeen vq [] (importedModules pq.main.body) xq true ⟨heapE w.params, ⟨[]⟩, {}, 649, os⟩, Hook.obs Hq ⟨heapE w.params, ⟨[]⟩, {}, 649, os⟩)) = fun _ => (true, openGood vq [], Hook.val Hq w) := fun w => funext fun os =>
  looks_pair (by rw [l1, l2, l3 w os, l4]; rfl) (looks_pair (looks_pair (l5 w os) (looks_pair (l6 w os) (looks_pair (l7 w os) (looks_pair (l8 w os) (looks_pair (l9 w os) (looks_pair (l10 w os) (looks_pair (l11 w os) (looks_pair (l12 w os) (l13 w os))))))))) (l14 w os))
theorem prog_q : (OpenLaw.row Challenge.rw_uf040019_08).prog = pq := pq_eq
theorem left_q : LeftO (OpenLaw.row Challenge.rw_uf040019_08).prog vq [] xq (Hook.obs Hq) (Hook.val Hq) 5860 := by
  rw [prog_q]
  exact LeftO.of_pieces opn_q size_q run_q (by decide) looks_q
noncomputable def dq : DefRec := ⟨Str.ofString "law", fArgs (sA 34), fBody (sA 34), fScope (sA 34), (sA 34).pos⟩
theorem dof_q : defOf vq (OpenLaw.row Challenge.rw_uf040019_08).name = some (dq, []) := by kernel_rfl
theorem dthe_q : (OpenLaw.row Challenge.rw_uf040019_08).prog.theDef (OpenLaw.row Challenge.rw_uf040019_08).name = some (dq.params, dq.body, dq.scope) := by kernel_rfl
theorem dkw_q : kwWritten? dq.params.kwonlyargs dq.params.kw_defaults = some [] := by kernel_rfl
theorem xl_q (s : Shared) (e : xq s = true) : XL vq [] (s.heap.nsMap mainGlobals) s.heap := xl_of s (Bool.and_eq_true_iff.mp e).1
theorem rec_q (s : Shared) (e : xq s = true) : RecFacts (OpenLaw.row Challenge.rw_uf040019_08).records s.heap := recFacts_of (Bool.and_eq_true_iff.mp e).2
theorem wr_q : (!(OpenLaw.row Challenge.rw_uf040019_08).writes || List.isEmpty (OpenLaw.row Challenge.rw_uf040019_08).records) = true := by kernel_rfl
theorem ch_q : (chainsOk vq && opensWell (OpenLaw.row Challenge.rw_uf040019_08).prog && (frees (OpenLaw.row Challenge.rw_uf040019_08).toRowW && (OpenLaw.row Challenge.rw_uf040019_08).within.isEmpty)) = true := by kernel_rfl
theorem bare_q : (OpenLaw.row Challenge.rw_uf040019_08).prog.bare := ⟨rfl, rfl, rfl, rfl, rfl, by decide +kernel⟩
theorem own_head (said : (OpenLaw.row Challenge.rw_uf040019_08).wellSaid = true) (hw : (OpenLaw.row Challenge.rw_uf040019_08).promised) (hc : WalkO vq [] (XL vq []) (Hook.says Hq) (OpenLaw.row Challenge.rw_uf040019_08).toRowW dq [] fun f vs => call f vs) : (OpenLaw.row Challenge.rw_uf040019_08).Holds :=
  PySem.W.holds_open left_q (Hook.of Hq) (Hook.keeps Hq) xl_q XL.keeps dof_q dthe_q dkw_q rec_q wr_q said ch_q bare_q hw hc
theorem law_ns (P : Params) : nsIn (Kq P) mainGlobals (Str.ofString "law") = some (some (.ref 365)) := by kernel_rfl
theorem law_at {w : World} {base : Heap} {p : Program} {loose : List Str} {mg mb : Str → Option Value} (X : (Kq w.params).In base) (T : TopRead p loose mg mb base) : mg (Str.ofString "law") = some (.ref 365) := mg_of X T.g (law_ns w.params)
theorem kq_of {w : World} {h : Heap} (Y : Hook.says Hq w h) : (Kq w.params).In h := Y
end Mine

set_option autoImplicit false
namespace Mine
set_option linter.unusedVariables false
set_option maxRecDepth 100000
set_option maxHeartbeats 4000000
open PySem PySem.W PySem.Calls PyProof.Rows

noncomputable def b_Post___init__ : List S := [
  .setattr (.loc "self" ⟨42, 8, 42, 12⟩) "rows" (.list [] ⟨42, 20, 42, 22⟩) ⟨42, 8, 42, 17⟩ ⟨42, 8, 42, 22⟩]
noncomputable def p_Post___init__ : List String := ["self"]
noncomputable def b_Post_put : List S := [
  .expr (.meth (.attr (.loc "self" ⟨45, 8, 45, 12⟩) "rows" ⟨45, 8, 45, 17⟩) "append" [.loc "row" ⟨45, 25, 45, 28⟩] ⟨45, 8, 45, 24⟩ ⟨45, 8, 45, 29⟩) ⟨45, 8, 45, 29⟩]
noncomputable def p_Post_put : List String := ["self", "row"]
noncomputable def b_Post_take : List S := [
  .ite (.not (.call "is_from" [.loc "place" ⟨48, 23, 48, 28⟩, .int 0 ⟨48, 30, 48, 31⟩, .bin .Sub (.bltn "len" [.attr (.loc "self" ⟨48, 37, 48, 41⟩) "rows" ⟨48, 37, 48, 46⟩] ⟨48, 33, 48, 36⟩ ⟨48, 33, 48, 47⟩) (.int 1 ⟨48, 50, 48, 51⟩) ⟨48, 33, 48, 51⟩] ⟨48, 15, 48, 22⟩ ⟨48, 15, 48, 52⟩) ⟨48, 11, 48, 52⟩) [
    .raise "NoPlace" "no such place" ⟨49, 18, 49, 25⟩ ⟨49, 26, 49, 41⟩ ⟨49, 18, 49, 42⟩ ⟨49, 12, 49, 42⟩] [] ⟨48, 8, 49, 42⟩,
  .assign "row" (.sub (.attr (.loc "self" ⟨50, 14, 50, 18⟩) "rows" ⟨50, 14, 50, 23⟩) (.loc "place" ⟨50, 24, 50, 29⟩) ⟨50, 14, 50, 30⟩) ⟨50, 8, 50, 11⟩ ⟨50, 8, 50, 30⟩,
  .setattr (.loc "self" ⟨51, 8, 51, 12⟩) "rows" (.bin .Add (.sliceU (.attr (.loc "self" ⟨51, 20, 51, 24⟩) "rows" ⟨51, 20, 51, 29⟩) (.loc "place" ⟨51, 31, 51, 36⟩) ⟨51, 30, 51, 36⟩ ⟨51, 20, 51, 37⟩) (.sliceL (.attr (.loc "self" ⟨51, 40, 51, 44⟩) "rows" ⟨51, 40, 51, 49⟩) (.bin .Add (.loc "place" ⟨51, 50, 51, 55⟩) (.int 1 ⟨51, 58, 51, 59⟩) ⟨51, 50, 51, 59⟩) ⟨51, 50, 51, 60⟩ ⟨51, 40, 51, 61⟩) ⟨51, 20, 51, 61⟩) ⟨51, 8, 51, 17⟩ ⟨51, 8, 51, 61⟩,
  .ret (.loc "row" ⟨52, 15, 52, 18⟩) ⟨52, 8, 52, 18⟩]
noncomputable def p_Post_take : List String := ["self", "place"]
noncomputable def b_Post_under : List S := [
  .ret (.bltn "list" [.attr (.loc "self" ⟨55, 20, 55, 24⟩) "rows" ⟨55, 20, 55, 29⟩] ⟨55, 15, 55, 19⟩ ⟨55, 15, 55, 30⟩) ⟨55, 8, 55, 30⟩]
noncomputable def p_Post_under : List String := ["self"]
noncomputable def b_Company___init__ : List S := [
  .ite (.not (.call "is_from" [.loc "many" ⟨62, 23, 62, 27⟩, .int 1 ⟨62, 29, 62, 30⟩, .glob "MOST_HANDS" ⟨62, 32, 62, 42⟩] ⟨62, 15, 62, 22⟩ ⟨62, 15, 62, 43⟩) ⟨62, 11, 62, 43⟩) [
    .raise "NoCompany" "no company of so many hands" ⟨63, 18, 63, 27⟩ ⟨63, 28, 63, 57⟩ ⟨63, 18, 63, 58⟩ ⟨63, 12, 63, 58⟩] [] ⟨62, 8, 63, 58⟩,
  .setattr (.loc "self" ⟨64, 8, 64, 12⟩) "pieces" (.bin .Mult (.list [.int 0 ⟨64, 23, 64, 24⟩] ⟨64, 22, 64, 25⟩) (.loc "many" ⟨64, 28, 64, 32⟩) ⟨64, 22, 64, 32⟩) ⟨64, 8, 64, 19⟩ ⟨64, 8, 64, 32⟩,
  .setattr (.loc "self" ⟨65, 8, 65, 12⟩) "waits" (.bin .Mult (.list [.int 0 ⟨65, 22, 65, 23⟩] ⟨65, 21, 65, 24⟩) (.loc "many" ⟨65, 27, 65, 31⟩) ⟨65, 21, 65, 31⟩) ⟨65, 8, 65, 18⟩ ⟨65, 8, 65, 31⟩,
  .setattr (.loc "self" ⟨66, 8, 66, 12⟩) "wakers" (.bin .Mult (.list [.none ⟨66, 23, 66, 27⟩] ⟨66, 22, 66, 28⟩) (.loc "many" ⟨66, 31, 66, 35⟩) ⟨66, 22, 66, 35⟩) ⟨66, 8, 66, 19⟩ ⟨66, 8, 66, 35⟩,
  .setattr (.loc "self" ⟨67, 8, 67, 12⟩) "tallies" (.bin .Mult (.list [.int 0 ⟨67, 24, 67, 25⟩] ⟨67, 23, 67, 26⟩) (.loc "many" ⟨67, 29, 67, 33⟩) ⟨67, 23, 67, 33⟩) ⟨67, 8, 67, 20⟩ ⟨67, 8, 67, 33⟩,
  .setattr (.loc "self" ⟨68, 8, 68, 12⟩) "post" (.new "Post" [] ⟨68, 20, 68, 24⟩ ⟨68, 20, 68, 26⟩) ⟨68, 8, 68, 17⟩ ⟨68, 8, 68, 26⟩,
  .setattr (.loc "self" ⟨69, 8, 69, 12⟩) "going" (.bool false ⟨69, 21, 69, 26⟩) ⟨69, 8, 69, 18⟩ ⟨69, 8, 69, 26⟩,
  .setattr (.loc "self" ⟨70, 8, 70, 12⟩) "known" (.list [] ⟨70, 21, 70, 23⟩) ⟨70, 8, 70, 18⟩ ⟨70, 8, 70, 23⟩]
noncomputable def p_Company___init__ : List String := ["self", "many"]
noncomputable def b_Company_size : List S := [
  .ret (.bltn "len" [.attr (.loc "self" ⟨73, 19, 73, 23⟩) "pieces" ⟨73, 19, 73, 30⟩] ⟨73, 15, 73, 18⟩ ⟨73, 15, 73, 31⟩) ⟨73, 8, 73, 31⟩]
noncomputable def p_Company_size : List String := ["self"]
noncomputable def b_Company_need_hand : List S := [
  .ite (.not (.call "is_from" [.loc "number" ⟨76, 23, 76, 29⟩, .int 0 ⟨76, 31, 76, 32⟩, .bin .Sub (.bltn "len" [.attr (.loc "self" ⟨76, 38, 76, 42⟩) "pieces" ⟨76, 38, 76, 49⟩] ⟨76, 34, 76, 37⟩ ⟨76, 34, 76, 50⟩) (.int 1 ⟨76, 53, 76, 54⟩) ⟨76, 34, 76, 54⟩] ⟨76, 15, 76, 22⟩ ⟨76, 15, 76, 55⟩) ⟨76, 11, 76, 55⟩) [
    .raise "NoHand" "no such hand" ⟨77, 18, 77, 24⟩ ⟨77, 25, 77, 39⟩ ⟨77, 18, 77, 40⟩ ⟨77, 12, 77, 40⟩] [] ⟨76, 8, 77, 40⟩]
noncomputable def p_Company_need_hand : List String := ["self", "number"]
noncomputable def b_Company_is_in : List S := [
  .ite (.cmp .Eq (.loc "number" ⟨80, 11, 80, 17⟩) (.int 0 ⟨80, 21, 80, 22⟩) ⟨80, 11, 80, 22⟩) [
    .ret (.attr (.loc "self" ⟨81, 19, 81, 23⟩) "going" ⟨81, 19, 81, 29⟩) ⟨81, 12, 81, 29⟩] [] ⟨80, 8, 81, 29⟩,
  .ret (.cmp .IsNot (.sub (.attr (.loc "self" ⟨82, 15, 82, 19⟩) "wakers" ⟨82, 15, 82, 26⟩) (.loc "number" ⟨82, 27, 82, 33⟩) ⟨82, 15, 82, 34⟩) (.none ⟨82, 42, 82, 46⟩) ⟨82, 15, 82, 46⟩) ⟨82, 8, 82, 46⟩]
noncomputable def p_Company_is_in : List String := ["self", "number"]
noncomputable def b_Company_noted : List S := [
  .expr (.meth (.attr (.loc "self" ⟨85, 8, 85, 12⟩) "known" ⟨85, 8, 85, 18⟩) "extend" [.loc "rows" ⟨85, 26, 85, 30⟩] ⟨85, 8, 85, 25⟩ ⟨85, 8, 85, 31⟩) ⟨85, 8, 85, 31⟩,
  .ret (.loc "rows" ⟨86, 15, 86, 19⟩) ⟨86, 8, 86, 19⟩]
noncomputable def p_Company_noted : List String := ["self", "rows"]
noncomputable def b_Company_settled : List S := [
  .ite (.or [.cmp .Gt (.sub (.attr (.loc "self" ⟨89, 11, 89, 15⟩) "pieces" ⟨89, 11, 89, 22⟩) (.loc "number" ⟨89, 23, 89, 29⟩) ⟨89, 11, 89, 30⟩) (.int 0 ⟨89, 33, 89, 34⟩) ⟨89, 11, 89, 34⟩, .cmp .Gt (.sub (.attr (.loc "self" ⟨89, 38, 89, 42⟩) "waits" ⟨89, 38, 89, 48⟩) (.loc "number" ⟨89, 49, 89, 55⟩) ⟨89, 38, 89, 56⟩) (.int 0 ⟨89, 59, 89, 60⟩) ⟨89, 38, 89, 60⟩, .not (.meth (.loc "self" ⟨89, 69, 89, 73⟩) "is_in" [.loc "number" ⟨89, 80, 89, 86⟩] ⟨89, 69, 89, 79⟩ ⟨89, 69, 89, 87⟩) ⟨89, 65, 89, 87⟩] ⟨89, 11, 89, 88⟩) [
    .ret (.list [] ⟨90, 19, 90, 21⟩) ⟨90, 12, 90, 21⟩] [] ⟨89, 8, 90, 21⟩,
  .assign "tally" (.sub (.attr (.loc "self" ⟨91, 16, 91, 20⟩) "tallies" ⟨91, 16, 91, 28⟩) (.loc "number" ⟨91, 29, 91, 35⟩) ⟨91, 16, 91, 36⟩) ⟨91, 8, 91, 13⟩ ⟨91, 8, 91, 36⟩,
  .setitem (.attr (.loc "self" ⟨92, 8, 92, 12⟩) "tallies" ⟨92, 8, 92, 20⟩) (.loc "number" ⟨92, 21, 92, 27⟩) (.int 0 ⟨92, 31, 92, 32⟩) ⟨92, 8, 92, 28⟩ ⟨92, 8, 92, 32⟩,
  .ite (.cmp .Eq (.loc "number" ⟨93, 11, 93, 17⟩) (.int 0 ⟨93, 21, 93, 22⟩) ⟨93, 11, 93, 22⟩) [
    .setattr (.loc "self" ⟨94, 12, 94, 16⟩) "going" (.bool false ⟨94, 25, 94, 30⟩) ⟨94, 12, 94, 22⟩ ⟨94, 12, 94, 30⟩,
    .ret (.list [.tup [.str "end" ⟨95, 21, 95, 26⟩, .loc "tally" ⟨95, 28, 95, 33⟩] 0 ⟨95, 20, 95, 34⟩] ⟨95, 19, 95, 35⟩) ⟨95, 12, 95, 35⟩] [] ⟨93, 8, 95, 35⟩,
  .assign "row" (.tup [.str "answer" ⟨96, 15, 96, 23⟩, .loc "number" ⟨96, 25, 96, 31⟩, .sub (.attr (.loc "self" ⟨96, 33, 96, 37⟩) "wakers" ⟨96, 33, 96, 44⟩) (.loc "number" ⟨96, 45, 96, 51⟩) ⟨96, 33, 96, 52⟩, .loc "tally" ⟨96, 54, 96, 59⟩] 0 ⟨96, 14, 96, 60⟩) ⟨96, 8, 96, 11⟩ ⟨96, 8, 96, 60⟩,
  .setitem (.attr (.loc "self" ⟨97, 8, 97, 12⟩) "wakers" ⟨97, 8, 97, 19⟩) (.loc "number" ⟨97, 20, 97, 26⟩) (.none ⟨97, 30, 97, 34⟩) ⟨97, 8, 97, 27⟩ ⟨97, 8, 97, 34⟩,
  .expr (.meth (.attr (.loc "self" ⟨98, 8, 98, 12⟩) "post" ⟨98, 8, 98, 17⟩) "put" [.loc "row" ⟨98, 22, 98, 25⟩] ⟨98, 8, 98, 21⟩ ⟨98, 8, 98, 26⟩) ⟨98, 8, 98, 26⟩,
  .ret (.list [.loc "row" ⟨99, 16, 99, 19⟩] ⟨99, 15, 99, 20⟩) ⟨99, 8, 99, 20⟩]
noncomputable def p_Company_settled : List String := ["self", "number"]
noncomputable def b_Company_begin : List S := [
  .ite (.attr (.loc "self" ⟨102, 11, 102, 15⟩) "going" ⟨102, 11, 102, 21⟩) [
    .raise "Begun" "a round runs" ⟨103, 18, 103, 23⟩ ⟨103, 24, 103, 38⟩ ⟨103, 18, 103, 39⟩ ⟨103, 12, 103, 39⟩] [] ⟨102, 8, 103, 39⟩,
  .ite (.not (.call "is_from" [.loc "pieces" ⟨104, 23, 104, 29⟩, .int 1 ⟨104, 31, 104, 32⟩, .glob "MOST_PIECES" ⟨104, 34, 104, 45⟩] ⟨104, 15, 104, 22⟩ ⟨104, 15, 104, 46⟩) ⟨104, 11, 104, 46⟩) [
    .raise "NoWork" "no such number of pieces" ⟨105, 18, 105, 24⟩ ⟨105, 25, 105, 51⟩ ⟨105, 18, 105, 52⟩ ⟨105, 12, 105, 52⟩] [] ⟨104, 8, 105, 52⟩,
  .setattr (.loc "self" ⟨106, 8, 106, 12⟩) "going" (.bool true ⟨106, 21, 106, 25⟩) ⟨106, 8, 106, 18⟩ ⟨106, 8, 106, 25⟩,
  .setitem (.attr (.loc "self" ⟨107, 8, 107, 12⟩) "pieces" ⟨107, 8, 107, 19⟩) (.int 0 ⟨107, 20, 107, 21⟩) (.loc "pieces" ⟨107, 25, 107, 31⟩) ⟨107, 8, 107, 22⟩ ⟨107, 8, 107, 31⟩,
  .ret (.meth (.loc "self" ⟨108, 15, 108, 19⟩) "noted" [.list [.tup [.str "begun" ⟨108, 28, 108, 35⟩, .loc "pieces" ⟨108, 37, 108, 43⟩] 0 ⟨108, 27, 108, 44⟩] ⟨108, 26, 108, 45⟩] ⟨108, 15, 108, 25⟩ ⟨108, 15, 108, 46⟩) ⟨108, 8, 108, 46⟩]
noncomputable def p_Company_begin : List String := ["self", "pieces"]
noncomputable def b_Company_do : List S := [
  .expr (.meth (.loc "self" ⟨111, 8, 111, 12⟩) "need_hand" [.loc "hand" ⟨111, 23, 111, 27⟩] ⟨111, 8, 111, 22⟩ ⟨111, 8, 111, 28⟩) ⟨111, 8, 111, 28⟩,
  .ite (.cmp .Eq (.sub (.attr (.loc "self" ⟨112, 11, 112, 15⟩) "pieces" ⟨112, 11, 112, 22⟩) (.loc "hand" ⟨112, 23, 112, 27⟩) ⟨112, 11, 112, 28⟩) (.int 0 ⟨112, 32, 112, 33⟩) ⟨112, 11, 112, 33⟩) [
    .raise "NoWork" "no piece" ⟨113, 18, 113, 24⟩ ⟨113, 25, 113, 35⟩ ⟨113, 18, 113, 36⟩ ⟨113, 12, 113, 36⟩] [] ⟨112, 8, 113, 36⟩,
  .setitem (.attr (.loc "self" ⟨114, 8, 114, 12⟩) "pieces" ⟨114, 8, 114, 19⟩) (.loc "hand" ⟨114, 20, 114, 24⟩) (.bin .Sub (.sub (.attr (.loc "self" ⟨114, 28, 114, 32⟩) "pieces" ⟨114, 28, 114, 39⟩) (.loc "hand" ⟨114, 40, 114, 44⟩) ⟨114, 28, 114, 45⟩) (.int 1 ⟨114, 48, 114, 49⟩) ⟨114, 28, 114, 49⟩) ⟨114, 8, 114, 25⟩ ⟨114, 8, 114, 49⟩,
  .setitem (.attr (.loc "self" ⟨115, 8, 115, 12⟩) "tallies" ⟨115, 8, 115, 20⟩) (.loc "hand" ⟨115, 21, 115, 25⟩) (.bin .Add (.sub (.attr (.loc "self" ⟨115, 29, 115, 33⟩) "tallies" ⟨115, 29, 115, 41⟩) (.loc "hand" ⟨115, 42, 115, 46⟩) ⟨115, 29, 115, 47⟩) (.int 1 ⟨115, 50, 115, 51⟩) ⟨115, 29, 115, 51⟩) ⟨115, 8, 115, 26⟩ ⟨115, 8, 115, 51⟩,
  .ret (.meth (.loc "self" ⟨116, 15, 116, 19⟩) "noted" [.meth (.loc "self" ⟨116, 26, 116, 30⟩) "settled" [.loc "hand" ⟨116, 39, 116, 43⟩] ⟨116, 26, 116, 38⟩ ⟨116, 26, 116, 44⟩] ⟨116, 15, 116, 25⟩ ⟨116, 15, 116, 45⟩) ⟨116, 8, 116, 45⟩]
noncomputable def p_Company_do : List String := ["self", "hand"]
noncomputable def b_Company_hand_on : List S := [
  .expr (.meth (.loc "self" ⟨119, 8, 119, 12⟩) "need_hand" [.loc "hand" ⟨119, 23, 119, 27⟩] ⟨119, 8, 119, 22⟩ ⟨119, 8, 119, 28⟩) ⟨119, 8, 119, 28⟩,
  .expr (.meth (.loc "self" ⟨120, 8, 120, 12⟩) "need_hand" [.loc "other" ⟨120, 23, 120, 28⟩] ⟨120, 8, 120, 22⟩ ⟨120, 8, 120, 29⟩) ⟨120, 8, 120, 29⟩,
  .ite (.not (.call "is_from" [.loc "pieces" ⟨121, 23, 121, 29⟩, .int 1 ⟨121, 31, 121, 32⟩, .sub (.attr (.loc "self" ⟨121, 34, 121, 38⟩) "pieces" ⟨121, 34, 121, 45⟩) (.loc "hand" ⟨121, 46, 121, 50⟩) ⟨121, 34, 121, 51⟩] ⟨121, 15, 121, 22⟩ ⟨121, 15, 121, 52⟩) ⟨121, 11, 121, 52⟩) [
    .raise "NoWork" "no such number of pieces" ⟨122, 18, 122, 24⟩ ⟨122, 25, 122, 51⟩ ⟨122, 18, 122, 52⟩ ⟨122, 12, 122, 52⟩] [] ⟨121, 8, 122, 52⟩,
  .setitem (.attr (.loc "self" ⟨123, 8, 123, 12⟩) "pieces" ⟨123, 8, 123, 19⟩) (.loc "hand" ⟨123, 20, 123, 24⟩) (.bin .Sub (.sub (.attr (.loc "self" ⟨123, 28, 123, 32⟩) "pieces" ⟨123, 28, 123, 39⟩) (.loc "hand" ⟨123, 40, 123, 44⟩) ⟨123, 28, 123, 45⟩) (.loc "pieces" ⟨123, 48, 123, 54⟩) ⟨123, 28, 123, 54⟩) ⟨123, 8, 123, 25⟩ ⟨123, 8, 123, 54⟩,
  .setitem (.attr (.loc "self" ⟨124, 8, 124, 12⟩) "waits" ⟨124, 8, 124, 18⟩) (.loc "hand" ⟨124, 19, 124, 23⟩) (.bin .Add (.sub (.attr (.loc "self" ⟨124, 27, 124, 31⟩) "waits" ⟨124, 27, 124, 37⟩) (.loc "hand" ⟨124, 38, 124, 42⟩) ⟨124, 27, 124, 43⟩) (.int 1 ⟨124, 46, 124, 47⟩) ⟨124, 27, 124, 47⟩) ⟨124, 8, 124, 24⟩ ⟨124, 8, 124, 47⟩,
  .assign "row" (.tup [.str "letter" ⟨125, 15, 125, 23⟩, .loc "hand" ⟨125, 25, 125, 29⟩, .loc "other" ⟨125, 31, 125, 36⟩, .loc "pieces" ⟨125, 38, 125, 44⟩] 0 ⟨125, 14, 125, 45⟩) ⟨125, 8, 125, 11⟩ ⟨125, 8, 125, 45⟩,
  .expr (.meth (.attr (.loc "self" ⟨126, 8, 126, 12⟩) "post" ⟨126, 8, 126, 17⟩) "put" [.loc "row" ⟨126, 22, 126, 25⟩] ⟨126, 8, 126, 21⟩ ⟨126, 8, 126, 26⟩) ⟨126, 8, 126, 26⟩,
  .ret (.meth (.loc "self" ⟨127, 15, 127, 19⟩) "noted" [.list [.loc "row" ⟨127, 27, 127, 30⟩] ⟨127, 26, 127, 31⟩] ⟨127, 15, 127, 25⟩ ⟨127, 15, 127, 32⟩) ⟨127, 8, 127, 32⟩]
noncomputable def p_Company_hand_on : List String := ["self", "hand", "other", "pieces"]
noncomputable def b_Company_letter_came : List S := [
  .unpack [("word", ⟨130, 8, 130, 12⟩), ("sender", ⟨130, 14, 130, 20⟩), ("number", ⟨130, 22, 130, 28⟩), ("pieces", ⟨130, 30, 130, 36⟩)] (.loc "row" ⟨130, 39, 130, 42⟩) 0 ⟨130, 8, 130, 36⟩ ⟨130, 8, 130, 42⟩,
  .setitem (.attr (.loc "self" ⟨131, 8, 131, 12⟩) "pieces" ⟨131, 8, 131, 19⟩) (.loc "number" ⟨131, 20, 131, 26⟩) (.bin .Add (.sub (.attr (.loc "self" ⟨131, 30, 131, 34⟩) "pieces" ⟨131, 30, 131, 41⟩) (.loc "number" ⟨131, 42, 131, 48⟩) ⟨131, 30, 131, 49⟩) (.loc "pieces" ⟨131, 52, 131, 58⟩) ⟨131, 30, 131, 58⟩) ⟨131, 8, 131, 27⟩ ⟨131, 8, 131, 58⟩,
  .ite (.meth (.loc "self" ⟨132, 11, 132, 15⟩) "is_in" [.loc "number" ⟨132, 22, 132, 28⟩] ⟨132, 11, 132, 21⟩ ⟨132, 11, 132, 29⟩) [
    .assign "row" (.tup [.str "answer" ⟨133, 19, 133, 27⟩, .loc "number" ⟨133, 29, 133, 35⟩, .loc "sender" ⟨133, 37, 133, 43⟩, .int 0 ⟨133, 45, 133, 46⟩] 0 ⟨133, 18, 133, 47⟩) ⟨133, 12, 133, 15⟩ ⟨133, 12, 133, 47⟩,
    .expr (.meth (.attr (.loc "self" ⟨134, 12, 134, 16⟩) "post" ⟨134, 12, 134, 21⟩) "put" [.loc "row" ⟨134, 26, 134, 29⟩] ⟨134, 12, 134, 25⟩ ⟨134, 12, 134, 30⟩) ⟨134, 12, 134, 30⟩,
    .ret (.list [.loc "row" ⟨135, 20, 135, 23⟩] ⟨135, 19, 135, 24⟩) ⟨135, 12, 135, 24⟩] [] ⟨132, 8, 135, 24⟩,
  .setitem (.attr (.loc "self" ⟨136, 8, 136, 12⟩) "wakers" ⟨136, 8, 136, 19⟩) (.loc "number" ⟨136, 20, 136, 26⟩) (.loc "sender" ⟨136, 30, 136, 36⟩) ⟨136, 8, 136, 27⟩ ⟨136, 8, 136, 36⟩,
  .ret (.list [.tup [.str "woken" ⟨137, 17, 137, 24⟩, .loc "number" ⟨137, 26, 137, 32⟩, .loc "sender" ⟨137, 34, 137, 40⟩] 0 ⟨137, 16, 137, 41⟩] ⟨137, 15, 137, 42⟩) ⟨137, 8, 137, 42⟩]
noncomputable def p_Company_letter_came : List String := ["self", "row"]
noncomputable def b_Company_carry : List S := [
  .assign "row" (.meth (.attr (.loc "self" ⟨140, 14, 140, 18⟩) "post" ⟨140, 14, 140, 23⟩) "take" [.loc "place" ⟨140, 29, 140, 34⟩] ⟨140, 14, 140, 28⟩ ⟨140, 14, 140, 35⟩) ⟨140, 8, 140, 11⟩ ⟨140, 8, 140, 35⟩,
  .ite (.cmp .Eq (.sub (.loc "row" ⟨141, 11, 141, 14⟩) (.int 0 ⟨141, 15, 141, 16⟩) ⟨141, 11, 141, 17⟩) (.str "letter" ⟨141, 21, 141, 29⟩) ⟨141, 11, 141, 29⟩) [
    .ret (.meth (.loc "self" ⟨142, 19, 142, 23⟩) "noted" [.meth (.loc "self" ⟨142, 30, 142, 34⟩) "letter_came" [.loc "row" ⟨142, 47, 142, 50⟩] ⟨142, 30, 142, 46⟩ ⟨142, 30, 142, 51⟩] ⟨142, 19, 142, 29⟩ ⟨142, 19, 142, 52⟩) ⟨142, 12, 142, 52⟩] [] ⟨141, 8, 142, 52⟩,
  .assign "number" (.sub (.loc "row" ⟨143, 17, 143, 20⟩) (.int 2 ⟨143, 21, 143, 22⟩) ⟨143, 17, 143, 23⟩) ⟨143, 8, 143, 14⟩ ⟨143, 8, 143, 23⟩,
  .setitem (.attr (.loc "self" ⟨144, 8, 144, 12⟩) "waits" ⟨144, 8, 144, 18⟩) (.loc "number" ⟨144, 19, 144, 25⟩) (.bin .Sub (.sub (.attr (.loc "self" ⟨144, 29, 144, 33⟩) "waits" ⟨144, 29, 144, 39⟩) (.loc "number" ⟨144, 40, 144, 46⟩) ⟨144, 29, 144, 47⟩) (.int 1 ⟨144, 50, 144, 51⟩) ⟨144, 29, 144, 51⟩) ⟨144, 8, 144, 26⟩ ⟨144, 8, 144, 51⟩,
  .setitem (.attr (.loc "self" ⟨145, 8, 145, 12⟩) "tallies" ⟨145, 8, 145, 20⟩) (.loc "number" ⟨145, 21, 145, 27⟩) (.bin .Add (.sub (.attr (.loc "self" ⟨145, 31, 145, 35⟩) "tallies" ⟨145, 31, 145, 43⟩) (.loc "number" ⟨145, 44, 145, 50⟩) ⟨145, 31, 145, 51⟩) (.sub (.loc "row" ⟨145, 54, 145, 57⟩) (.int 3 ⟨145, 58, 145, 59⟩) ⟨145, 54, 145, 60⟩) ⟨145, 31, 145, 60⟩) ⟨145, 8, 145, 28⟩ ⟨145, 8, 145, 60⟩,
  .ret (.meth (.loc "self" ⟨146, 15, 146, 19⟩) "noted" [.meth (.loc "self" ⟨146, 26, 146, 30⟩) "settled" [.loc "number" ⟨146, 39, 146, 45⟩] ⟨146, 26, 146, 38⟩ ⟨146, 26, 146, 46⟩] ⟨146, 15, 146, 25⟩ ⟨146, 15, 146, 47⟩) ⟨146, 8, 146, 47⟩]
noncomputable def p_Company_carry : List String := ["self", "place"]
noncomputable def b_Company_hand : List S := [
  .expr (.meth (.loc "self" ⟨149, 8, 149, 12⟩) "need_hand" [.loc "number" ⟨149, 23, 149, 29⟩] ⟨149, 8, 149, 22⟩ ⟨149, 8, 149, 30⟩) ⟨149, 8, 149, 30⟩,
  .ret (.tup [.sub (.attr (.loc "self" ⟨150, 16, 150, 20⟩) "pieces" ⟨150, 16, 150, 27⟩) (.loc "number" ⟨150, 28, 150, 34⟩) ⟨150, 16, 150, 35⟩, .sub (.attr (.loc "self" ⟨150, 37, 150, 41⟩) "waits" ⟨150, 37, 150, 47⟩) (.loc "number" ⟨150, 48, 150, 54⟩) ⟨150, 37, 150, 55⟩, .sub (.attr (.loc "self" ⟨150, 57, 150, 61⟩) "wakers" ⟨150, 57, 150, 68⟩) (.loc "number" ⟨150, 69, 150, 75⟩) ⟨150, 57, 150, 76⟩, .sub (.attr (.loc "self" ⟨150, 78, 150, 82⟩) "tallies" ⟨150, 78, 150, 90⟩) (.loc "number" ⟨150, 91, 150, 97⟩) ⟨150, 78, 150, 98⟩] 0 ⟨150, 15, 150, 99⟩) ⟨150, 8, 150, 99⟩]
noncomputable def p_Company_hand : List String := ["self", "number"]
noncomputable def b_Company_under : List S := [
  .ret (.meth (.attr (.loc "self" ⟨153, 15, 153, 19⟩) "post" ⟨153, 15, 153, 24⟩) "under" [] ⟨153, 15, 153, 30⟩ ⟨153, 15, 153, 32⟩) ⟨153, 8, 153, 32⟩]
noncomputable def p_Company_under : List String := ["self"]
noncomputable def b_Company_runs : List S := [
  .ret (.attr (.loc "self" ⟨156, 15, 156, 19⟩) "going" ⟨156, 15, 156, 25⟩) ⟨156, 8, 156, 25⟩]
noncomputable def p_Company_runs : List String := ["self"]
noncomputable def b_Company_log : List S := [
  .ret (.bltn "list" [.attr (.loc "self" ⟨159, 20, 159, 24⟩) "known" ⟨159, 20, 159, 30⟩] ⟨159, 15, 159, 19⟩ ⟨159, 15, 159, 31⟩) ⟨159, 8, 159, 31⟩]
noncomputable def p_Company_log : List String := ["self"]
noncomputable def b_debts : List S := [
  .assign "pairs" (.comp (.tup [.loc "number" ⟨3, 14, 3, 20⟩, .sub (.meth (.loc "company" ⟨3, 22, 3, 29⟩) "hand" [.loc "number" ⟨3, 35, 3, 41⟩] ⟨3, 22, 3, 34⟩ ⟨3, 22, 3, 42⟩) (.int 2 ⟨3, 43, 3, 44⟩) ⟨3, 22, 3, 45⟩] 0 ⟨3, 13, 3, 46⟩) "number" ["company"] (.bltn "range" [.meth (.loc "company" ⟨3, 67, 3, 74⟩) "size" [] ⟨3, 67, 3, 79⟩ ⟨3, 67, 3, 81⟩] ⟨3, 61, 3, 66⟩ ⟨3, 61, 3, 82⟩) [] ({ kind := .function, names := [(Str.ofString ".0", .local), (Str.ofString "number", .local), (Str.ofString "company", .free)], isGenerator := false, isCoroutine := false, more := [] }) ⟨3, 51, 3, 57⟩ ⟨3, 12, 3, 83⟩) ⟨3, 4, 3, 9⟩ ⟨3, 4, 3, 83⟩,
  .ret (.comp (.loc "pair" ⟨4, 12, 4, 16⟩) "pair" [] (.loc "pairs" ⟨4, 29, 4, 34⟩) [.cmp .IsNot (.sub (.loc "pair" ⟨4, 38, 4, 42⟩) (.int 1 ⟨4, 43, 4, 44⟩) ⟨4, 38, 4, 45⟩) (.none ⟨4, 53, 4, 57⟩) ⟨4, 38, 4, 57⟩] ({ kind := .function, names := [(Str.ofString ".0", .local), (Str.ofString "pair", .local)], isGenerator := false, isCoroutine := false, more := [] }) ⟨4, 21, 4, 25⟩ ⟨4, 11, 4, 58⟩) ⟨4, 4, 4, 58⟩]
noncomputable def p_debts : List String := ["company"]
noncomputable def b_in_tree : List S := [
  .ite (.cmp .IsNot (.sub (.meth (.loc "company" ⟨6, 7, 6, 14⟩) "hand" [.loc "number" ⟨6, 20, 6, 26⟩] ⟨6, 7, 6, 19⟩ ⟨6, 7, 6, 27⟩) (.int 2 ⟨6, 28, 6, 29⟩) ⟨6, 7, 6, 30⟩) (.none ⟨6, 38, 6, 42⟩) ⟨6, 7, 6, 42⟩) [
    .ret (.bool true ⟨7, 15, 7, 19⟩) ⟨7, 8, 7, 19⟩] [] ⟨6, 4, 7, 19⟩,
  .ret (.and [.cmp .Eq (.loc "number" ⟨8, 11, 8, 17⟩) (.int 0 ⟨8, 21, 8, 22⟩) ⟨8, 11, 8, 22⟩, .meth (.loc "company" ⟨8, 27, 8, 34⟩) "runs" [] ⟨8, 27, 8, 39⟩ ⟨8, 27, 8, 41⟩] ⟨8, 11, 8, 41⟩) ⟨8, 4, 8, 41⟩]
noncomputable def p_in_tree : List String := ["company", "number"]
noncomputable def b_way : List S := [
  .ite (.not (.call "in_tree" [.loc "company" ⟨10, 19, 10, 26⟩, .loc "number" ⟨10, 28, 10, 34⟩] ⟨10, 11, 10, 18⟩ ⟨10, 11, 10, 35⟩) ⟨10, 7, 10, 35⟩) [
    .ret (.list [] ⟨11, 15, 11, 17⟩) ⟨11, 8, 11, 17⟩] [] ⟨10, 4, 11, 17⟩,
  .assign "found" (.list [.loc "number" ⟨12, 13, 12, 19⟩] ⟨12, 12, 12, 20⟩) ⟨12, 4, 12, 9⟩ ⟨12, 4, 12, 20⟩,
  .while_ (.cmp .NotEq (.sub (.loc "found" ⟨13, 10, 13, 15⟩) (.neg (.int 1 ⟨13, 17, 13, 18⟩) ⟨13, 16, 13, 18⟩) ⟨13, 10, 13, 19⟩) (.int 0 ⟨13, 23, 13, 24⟩) ⟨13, 10, 13, 24⟩) [
    .expr (.meth (.loc "found" ⟨14, 8, 14, 13⟩) "append" [.sub (.meth (.loc "company" ⟨14, 21, 14, 28⟩) "hand" [.sub (.loc "found" ⟨14, 34, 14, 39⟩) (.neg (.int 1 ⟨14, 41, 14, 42⟩) ⟨14, 40, 14, 42⟩) ⟨14, 34, 14, 43⟩] ⟨14, 21, 14, 33⟩ ⟨14, 21, 14, 44⟩) (.int 2 ⟨14, 45, 14, 46⟩) ⟨14, 21, 14, 47⟩] ⟨14, 8, 14, 20⟩ ⟨14, 8, 14, 48⟩) ⟨14, 8, 14, 48⟩] ⟨13, 4, 14, 48⟩,
  .ret (.loc "found" ⟨15, 11, 15, 16⟩) ⟨15, 4, 15, 16⟩]
noncomputable def p_way : List String := ["company", "number"]
noncomputable def b_woken_by : List S := [
  .assign "found" (.dnew ⟨17, 12, 17, 14⟩) ⟨17, 4, 17, 9⟩ ⟨17, 4, 17, 14⟩,
  .for_ "number" (.bltn "range" [.meth (.loc "company" ⟨18, 24, 18, 31⟩) "size" [] ⟨18, 24, 18, 36⟩ ⟨18, 24, 18, 38⟩] ⟨18, 18, 18, 23⟩ ⟨18, 18, 18, 39⟩) [
    .ite (.call "in_tree" [.loc "company" ⟨19, 19, 19, 26⟩, .loc "number" ⟨19, 28, 19, 34⟩] ⟨19, 11, 19, 18⟩ ⟨19, 11, 19, 35⟩) [
      .dset (.loc "found" ⟨20, 12, 20, 17⟩) (.loc "number" ⟨20, 18, 20, 24⟩) (.compP (.loc "hand" ⟨20, 29, 20, 33⟩) "hand" "waker" ["number"] (.call "debts" [.loc "company" ⟨20, 59, 20, 66⟩] ⟨20, 53, 20, 58⟩ ⟨20, 53, 20, 67⟩) [.cmp .Eq (.loc "waker" ⟨20, 71, 20, 76⟩) (.loc "number" ⟨20, 80, 20, 86⟩) ⟨20, 71, 20, 86⟩] ({ kind := .function, names := [(Str.ofString ".0", .local), (Str.ofString "hand", .local), (Str.ofString "waker", .local), (Str.ofString "number", .free)], isGenerator := false, isCoroutine := false, more := [] }) 0 ⟨20, 38, 20, 42⟩ ⟨20, 44, 20, 49⟩ ⟨20, 38, 20, 49⟩ ⟨20, 28, 20, 87⟩) ⟨20, 12, 20, 25⟩ ⟨20, 12, 20, 87⟩] [] ⟨19, 8, 20, 87⟩] ⟨18, 8, 18, 14⟩ ⟨18, 4, 20, 87⟩,
  .ret (.loc "found" ⟨21, 11, 21, 16⟩) ⟨21, 4, 21, 16⟩]
noncomputable def p_woken_by : List String := ["company"]
noncomputable def b_is_from : List S := [
  .ret (.and [.isi (.loc "thing" ⟨37, 22, 37, 27⟩) (.ty "int") ⟨37, 11, 37, 21⟩ ⟨37, 29, 37, 32⟩ ⟨37, 11, 37, 33⟩, .not (.isi (.loc "thing" ⟨37, 54, 37, 59⟩) (.ty "bool") ⟨37, 43, 37, 53⟩ ⟨37, 61, 37, 65⟩ ⟨37, 43, 37, 66⟩) ⟨37, 39, 37, 66⟩, .cmp2 .LtE .LtE (.loc "least" ⟨37, 73, 37, 78⟩) (.loc "thing" ⟨37, 82, 37, 87⟩) (.loc "most" ⟨37, 91, 37, 95⟩) ⟨37, 73, 37, 95⟩] ⟨37, 11, 37, 96⟩) ⟨37, 4, 37, 96⟩]
noncomputable def p_is_from : List String := ["thing", "least", "most"]
noncomputable def b__law_cell_at : List S := [
  .ite (.cmp .Lt (.loc "_law_k" ⟨162, 7, 162, 13⟩) (.bltn "len" [.loc "_law_script" ⟨162, 20, 162, 31⟩] ⟨162, 16, 162, 19⟩ ⟨162, 16, 162, 32⟩) ⟨162, 7, 162, 32⟩) [
    .ret (.sub (.loc "_law_script" ⟨163, 15, 163, 26⟩) (.loc "_law_k" ⟨163, 27, 163, 33⟩) ⟨163, 15, 163, 34⟩) ⟨163, 8, 163, 34⟩] [] ⟨162, 4, 163, 34⟩,
  .ret (.int 0 ⟨164, 11, 164, 12⟩) ⟨164, 4, 164, 12⟩]
noncomputable def p__law_cell_at : List String := ["_law_script", "_law_k"]
noncomputable def b__law_mixed : List S := [
  .assign "_law_cell" (.int 0 ⟨166, 16, 166, 17⟩) ⟨166, 4, 166, 13⟩ ⟨166, 4, 166, 17⟩,
  .ite (.cmp .Gt (.bltn "len" [.loc "_law_script" ⟨167, 11, 167, 22⟩] ⟨167, 7, 167, 10⟩ ⟨167, 7, 167, 23⟩) (.int 0 ⟨167, 26, 167, 27⟩) ⟨167, 7, 167, 27⟩) [
    .assign "_law_cell" (.sub (.loc "_law_script" ⟨168, 20, 168, 31⟩) (.bin .Mod (.loc "_law_k" ⟨168, 32, 168, 38⟩) (.bltn "len" [.loc "_law_script" ⟨168, 45, 168, 56⟩] ⟨168, 41, 168, 44⟩ ⟨168, 41, 168, 57⟩) ⟨168, 32, 168, 57⟩) ⟨168, 20, 168, 58⟩) ⟨168, 8, 168, 17⟩ ⟨168, 8, 168, 58⟩] [] ⟨167, 4, 168, 58⟩,
  .assign "_law_near" (.bin .Mod (.bin .Mult (.bin .Add (.loc "_law_cell" ⟨169, 17, 169, 26⟩) (.bin .Mult (.int 7919 ⟨169, 29, 169, 33⟩) (.loc "_law_k" ⟨169, 36, 169, 42⟩) ⟨169, 29, 169, 42⟩) ⟨169, 17, 169, 42⟩) (.int 48271 ⟨169, 46, 169, 51⟩) ⟨169, 16, 169, 51⟩) (.int 2147483647 ⟨169, 54, 169, 64⟩) ⟨169, 16, 169, 64⟩) ⟨169, 4, 169, 13⟩ ⟨169, 4, 169, 64⟩,
  .ret (.bin .Mod (.bin .Add (.bin .Mult (.loc "_law_near" ⟨170, 12, 170, 21⟩) (.loc "_law_near" ⟨170, 24, 170, 33⟩) ⟨170, 12, 170, 33⟩) (.bin .Mult (.int 69621 ⟨170, 36, 170, 41⟩) (.loc "_law_k" ⟨170, 44, 170, 50⟩) ⟨170, 36, 170, 50⟩) ⟨170, 12, 170, 50⟩) (.int 2147483647 ⟨170, 54, 170, 64⟩) ⟨170, 11, 170, 64⟩) ⟨170, 4, 170, 64⟩]
noncomputable def p__law_mixed : List String := ["_law_script", "_law_k"]
noncomputable def b__law_whole : List S := [
  .ret (.and [.isi (.loc "_law_found" ⟨172, 22, 172, 32⟩) (.ty "int") ⟨172, 11, 172, 21⟩ ⟨172, 34, 172, 37⟩ ⟨172, 11, 172, 38⟩, .not (.isi (.loc "_law_found" ⟨172, 59, 172, 69⟩) (.ty "bool") ⟨172, 48, 172, 58⟩ ⟨172, 71, 172, 75⟩ ⟨172, 48, 172, 76⟩) ⟨172, 44, 172, 76⟩] ⟨172, 11, 172, 77⟩) ⟨172, 4, 172, 77⟩]
noncomputable def p__law_whole : List String := ["_law_found"]
noncomputable def b__law_alike : List S := [
  .ite (.cmp .Is (.loc "_law_due" ⟨174, 7, 174, 15⟩) (.none ⟨174, 19, 174, 23⟩) ⟨174, 7, 174, 23⟩) [
    .ret (.cmp .Is (.loc "_law_found" ⟨175, 15, 175, 25⟩) (.none ⟨175, 29, 175, 33⟩) ⟨175, 15, 175, 33⟩) ⟨175, 8, 175, 33⟩] [] ⟨174, 4, 175, 33⟩,
  .ite (.isi (.loc "_law_due" ⟨176, 18, 176, 26⟩) (.ty "str") ⟨176, 7, 176, 17⟩ ⟨176, 28, 176, 31⟩ ⟨176, 7, 176, 32⟩) [
    .ret (.and [.isi (.loc "_law_found" ⟨177, 26, 177, 36⟩) (.ty "str") ⟨177, 15, 177, 25⟩ ⟨177, 38, 177, 41⟩ ⟨177, 15, 177, 42⟩, .cmp .Eq (.loc "_law_found" ⟨177, 47, 177, 57⟩) (.loc "_law_due" ⟨177, 61, 177, 69⟩) ⟨177, 47, 177, 69⟩] ⟨177, 15, 177, 69⟩) ⟨177, 8, 177, 69⟩] [] ⟨176, 4, 177, 69⟩,
  .ite (.isi (.loc "_law_due" ⟨178, 18, 178, 26⟩) (.ty "bool") ⟨178, 7, 178, 17⟩ ⟨178, 28, 178, 32⟩ ⟨178, 7, 178, 33⟩) [
    .ret (.and [.isi (.loc "_law_found" ⟨179, 26, 179, 36⟩) (.ty "bool") ⟨179, 15, 179, 25⟩ ⟨179, 38, 179, 42⟩ ⟨179, 15, 179, 43⟩, .cmp .Eq (.loc "_law_found" ⟨179, 48, 179, 58⟩) (.loc "_law_due" ⟨179, 62, 179, 70⟩) ⟨179, 48, 179, 70⟩] ⟨179, 15, 179, 70⟩) ⟨179, 8, 179, 70⟩] [] ⟨178, 4, 179, 70⟩,
  .ite (.isi (.loc "_law_due" ⟨180, 18, 180, 26⟩) (.ty "int") ⟨180, 7, 180, 17⟩ ⟨180, 28, 180, 31⟩ ⟨180, 7, 180, 32⟩) [
    .ret (.and [.call "_law_whole" [.loc "_law_found" ⟨181, 26, 181, 36⟩] ⟨181, 15, 181, 25⟩ ⟨181, 15, 181, 37⟩, .cmp .Eq (.loc "_law_found" ⟨181, 42, 181, 52⟩) (.loc "_law_due" ⟨181, 56, 181, 64⟩) ⟨181, 42, 181, 64⟩] ⟨181, 15, 181, 64⟩) ⟨181, 8, 181, 64⟩] [] ⟨180, 4, 181, 64⟩,
  .ite (.and [.isi (.loc "_law_due" ⟨182, 18, 182, 26⟩) (.ty "tuple") ⟨182, 7, 182, 17⟩ ⟨182, 28, 182, 33⟩ ⟨182, 7, 182, 34⟩, .not (.isi (.loc "_law_found" ⟨182, 55, 182, 65⟩) (.ty "tuple") ⟨182, 44, 182, 54⟩ ⟨182, 67, 182, 72⟩ ⟨182, 44, 182, 73⟩) ⟨182, 40, 182, 73⟩] ⟨182, 7, 182, 74⟩) [
    .ret (.bool false ⟨183, 15, 183, 20⟩) ⟨183, 8, 183, 20⟩] [] ⟨182, 4, 183, 20⟩,
  .ite (.and [.isi (.loc "_law_due" ⟨184, 18, 184, 26⟩) (.ty "list") ⟨184, 7, 184, 17⟩ ⟨184, 28, 184, 32⟩ ⟨184, 7, 184, 33⟩, .not (.isi (.loc "_law_found" ⟨184, 54, 184, 64⟩) (.ty "list") ⟨184, 43, 184, 53⟩ ⟨184, 66, 184, 70⟩ ⟨184, 43, 184, 71⟩) ⟨184, 39, 184, 71⟩] ⟨184, 7, 184, 72⟩) [
    .ret (.bool false ⟨185, 15, 185, 20⟩) ⟨185, 8, 185, 20⟩] [] ⟨184, 4, 185, 20⟩,
  .ite (.cmp .NotEq (.bltn "len" [.loc "_law_found" ⟨186, 11, 186, 21⟩] ⟨186, 7, 186, 10⟩ ⟨186, 7, 186, 22⟩) (.bltn "len" [.loc "_law_due" ⟨186, 30, 186, 38⟩] ⟨186, 26, 186, 29⟩ ⟨186, 26, 186, 39⟩) ⟨186, 7, 186, 39⟩) [
    .ret (.bool false ⟨187, 15, 187, 20⟩) ⟨187, 8, 187, 20⟩] [] ⟨186, 4, 187, 20⟩,
  .for_ "_law_k" (.bltn "range" [.bltn "len" [.loc "_law_due" ⟨188, 28, 188, 36⟩] ⟨188, 24, 188, 27⟩ ⟨188, 24, 188, 37⟩] ⟨188, 18, 188, 23⟩ ⟨188, 18, 188, 38⟩) [
    .ite (.not (.call "_law_alike" [.sub (.loc "_law_found" ⟨189, 26, 189, 36⟩) (.loc "_law_k" ⟨189, 37, 189, 43⟩) ⟨189, 26, 189, 44⟩, .sub (.loc "_law_due" ⟨189, 46, 189, 54⟩) (.loc "_law_k" ⟨189, 55, 189, 61⟩) ⟨189, 46, 189, 62⟩] ⟨189, 15, 189, 25⟩ ⟨189, 15, 189, 63⟩) ⟨189, 11, 189, 63⟩) [
      .ret (.bool false ⟨190, 19, 190, 24⟩) ⟨190, 12, 190, 24⟩] [] ⟨189, 8, 190, 24⟩] ⟨188, 8, 188, 14⟩ ⟨188, 4, 190, 24⟩,
  .ret (.bool true ⟨191, 11, 191, 15⟩) ⟨191, 4, 191, 15⟩]
noncomputable def p__law_alike : List String := ["_law_found", "_law_due"]
noncomputable def b__law_many_by : List S := [
  .ite (.cmp .Eq (.bin .Mod (.loc "_law_cell" ⟨193, 7, 193, 16⟩) (.int 8 ⟨193, 19, 193, 20⟩) ⟨193, 7, 193, 20⟩) (.int 5 ⟨193, 24, 193, 25⟩) ⟨193, 7, 193, 25⟩) [
    .ret (.bin .Add (.int 1 ⟨194, 15, 194, 16⟩) (.bin .Mod (.bin .FloorDiv (.loc "_law_cell" ⟨194, 19, 194, 28⟩) (.int 8 ⟨194, 32, 194, 33⟩) ⟨194, 19, 194, 33⟩) (.int 60 ⟨194, 36, 194, 38⟩) ⟨194, 19, 194, 38⟩) ⟨194, 15, 194, 38⟩) ⟨194, 8, 194, 38⟩] [] ⟨193, 4, 194, 38⟩,
  .ret (.bin .Add (.int 1 ⟨195, 11, 195, 12⟩) (.bin .Mod (.bin .FloorDiv (.loc "_law_cell" ⟨195, 15, 195, 24⟩) (.int 8 ⟨195, 28, 195, 29⟩) ⟨195, 15, 195, 29⟩) (.int 6 ⟨195, 32, 195, 33⟩) ⟨195, 15, 195, 33⟩) ⟨195, 11, 195, 33⟩) ⟨195, 4, 195, 33⟩]
noncomputable def p__law_many_by : List String := ["_law_cell"]
noncomputable def b__law_pieces_by : List S := [
  .ite (.cmp .Eq (.bin .Mod (.loc "_law_cell" ⟨197, 7, 197, 16⟩) (.int 8 ⟨197, 19, 197, 20⟩) ⟨197, 7, 197, 20⟩) (.int 3 ⟨197, 24, 197, 25⟩) ⟨197, 7, 197, 25⟩) [
    .ret (.bin .Add (.int 1 ⟨198, 15, 198, 16⟩) (.bin .Mod (.bin .FloorDiv (.loc "_law_cell" ⟨198, 19, 198, 28⟩) (.int 8 ⟨198, 32, 198, 33⟩) ⟨198, 19, 198, 33⟩) (.int 999999 ⟨198, 36, 198, 42⟩) ⟨198, 19, 198, 42⟩) ⟨198, 15, 198, 42⟩) ⟨198, 8, 198, 42⟩] [] ⟨197, 4, 198, 42⟩,
  .ite (.cmp .Eq (.bin .Mod (.loc "_law_cell" ⟨199, 7, 199, 16⟩) (.int 8 ⟨199, 19, 199, 20⟩) ⟨199, 7, 199, 20⟩) (.int 5 ⟨199, 24, 199, 25⟩) ⟨199, 7, 199, 25⟩) [
    .ret (.bin .Add (.int 1 ⟨200, 15, 200, 16⟩) (.bin .Mod (.bin .FloorDiv (.loc "_law_cell" ⟨200, 19, 200, 28⟩) (.int 8 ⟨200, 32, 200, 33⟩) ⟨200, 19, 200, 33⟩) (.int 60 ⟨200, 36, 200, 38⟩) ⟨200, 19, 200, 38⟩) ⟨200, 15, 200, 38⟩) ⟨200, 8, 200, 38⟩] [] ⟨199, 4, 200, 38⟩,
  .ret (.bin .Add (.int 1 ⟨201, 11, 201, 12⟩) (.bin .Mod (.bin .FloorDiv (.loc "_law_cell" ⟨201, 15, 201, 24⟩) (.int 8 ⟨201, 28, 201, 29⟩) ⟨201, 15, 201, 29⟩) (.int 5 ⟨201, 32, 201, 33⟩) ⟨201, 15, 201, 33⟩) ⟨201, 11, 201, 33⟩) ⟨201, 4, 201, 33⟩]
noncomputable def p__law_pieces_by : List String := ["_law_cell"]
noncomputable def b__law_next : List S := [
  .assign "_law_workers" (.comp (.loc "_law_k" ⟨203, 20, 203, 26⟩) "_law_k" ["_law_company"] (.bltn "range" [.loc "_law_many" ⟨203, 47, 203, 56⟩] ⟨203, 41, 203, 46⟩ ⟨203, 41, 203, 57⟩) [.cmp .Gt (.sub (.meth (.loc "_law_company" ⟨203, 61, 203, 73⟩) "hand" [.loc "_law_k" ⟨203, 79, 203, 85⟩] ⟨203, 61, 203, 78⟩ ⟨203, 61, 203, 86⟩) (.int 0 ⟨203, 87, 203, 88⟩) ⟨203, 61, 203, 89⟩) (.int 0 ⟨203, 92, 203, 93⟩) ⟨203, 61, 203, 93⟩] ({ kind := .function, names := [(Str.ofString ".0", .local), (Str.ofString "_law_k", .local), (Str.ofString "_law_company", .free)], isGenerator := false, isCoroutine := false, more := [] }) ⟨203, 31, 203, 37⟩ ⟨203, 19, 203, 94⟩) ⟨203, 4, 203, 16⟩ ⟨203, 4, 203, 94⟩,
  .assign "_law_under" (.meth (.loc "_law_company" ⟨204, 17, 204, 29⟩) "under" [] ⟨204, 17, 204, 35⟩ ⟨204, 17, 204, 37⟩) ⟨204, 4, 204, 14⟩ ⟨204, 4, 204, 37⟩,
  .ite (.and [.cmp .Gt (.bltn "len" [.loc "_law_workers" ⟨205, 11, 205, 23⟩] ⟨205, 7, 205, 10⟩ ⟨205, 7, 205, 24⟩) (.int 0 ⟨205, 27, 205, 28⟩) ⟨205, 7, 205, 28⟩, .or [.cmp .Lt (.bin .Mod (.loc "_law_number" ⟨205, 34, 205, 45⟩) (.int 8 ⟨205, 48, 205, 49⟩) ⟨205, 34, 205, 49⟩) (.int 5 ⟨205, 52, 205, 53⟩) ⟨205, 34, 205, 53⟩, .cmp .Eq (.bltn "len" [.loc "_law_under" ⟨205, 61, 205, 71⟩] ⟨205, 57, 205, 60⟩ ⟨205, 57, 205, 72⟩) (.int 0 ⟨205, 76, 205, 77⟩) ⟨205, 57, 205, 77⟩] ⟨205, 34, 205, 77⟩] ⟨205, 7, 205, 78⟩) [
    .assign "_law_hand" (.sub (.loc "_law_workers" ⟨206, 20, 206, 32⟩) (.bin .Mod (.bin .FloorDiv (.loc "_law_number" ⟨206, 33, 206, 44⟩) (.int 8 ⟨206, 48, 206, 49⟩) ⟨206, 33, 206, 49⟩) (.bltn "len" [.loc "_law_workers" ⟨206, 56, 206, 68⟩] ⟨206, 52, 206, 55⟩ ⟨206, 52, 206, 69⟩) ⟨206, 33, 206, 69⟩) ⟨206, 20, 206, 70⟩) ⟨206, 8, 206, 17⟩ ⟨206, 8, 206, 70⟩,
    .ite (.cmp .Lt (.bin .Mod (.loc "_law_number" ⟨207, 11, 207, 22⟩) (.int 8 ⟨207, 25, 207, 26⟩) ⟨207, 11, 207, 26⟩) (.int 2 ⟨207, 29, 207, 30⟩) ⟨207, 11, 207, 30⟩) [
      .ret (.tup [.str "hand" ⟨208, 20, 208, 26⟩, .loc "_law_hand" ⟨208, 28, 208, 37⟩, .bin .Mod (.bin .FloorDiv (.loc "_law_number" ⟨208, 39, 208, 50⟩) (.int 97 ⟨208, 54, 208, 56⟩) ⟨208, 39, 208, 56⟩) (.loc "_law_many" ⟨208, 59, 208, 68⟩) ⟨208, 39, 208, 68⟩, .bin .Add (.int 1 ⟨208, 70, 208, 71⟩) (.bin .Mod (.bin .FloorDiv (.loc "_law_number" ⟨208, 74, 208, 85⟩) (.int 5 ⟨208, 89, 208, 90⟩) ⟨208, 74, 208, 90⟩) (.sub (.meth (.loc "_law_company" ⟨208, 93, 208, 105⟩) "hand" [.loc "_law_hand" ⟨208, 111, 208, 120⟩] ⟨208, 93, 208, 110⟩ ⟨208, 93, 208, 121⟩) (.int 0 ⟨208, 122, 208, 123⟩) ⟨208, 93, 208, 124⟩) ⟨208, 74, 208, 124⟩) ⟨208, 70, 208, 124⟩] 0 ⟨208, 19, 208, 125⟩) ⟨208, 12, 208, 125⟩] [] ⟨207, 8, 208, 125⟩,
    .ret (.tup [.str "do" ⟨209, 16, 209, 20⟩, .loc "_law_hand" ⟨209, 22, 209, 31⟩] 0 ⟨209, 15, 209, 32⟩) ⟨209, 8, 209, 32⟩] [] ⟨205, 4, 209, 32⟩,
  .ite (.cmp .Eq (.bltn "len" [.loc "_law_under" ⟨210, 11, 210, 21⟩] ⟨210, 7, 210, 10⟩ ⟨210, 7, 210, 22⟩) (.int 0 ⟨210, 26, 210, 27⟩) ⟨210, 7, 210, 27⟩) [
    .ret (.none ⟨211, 15, 211, 19⟩) ⟨211, 8, 211, 19⟩] [] ⟨210, 4, 211, 19⟩,
  .ret (.tup [.str "carry" ⟨212, 12, 212, 19⟩, .bin .Mod (.bin .FloorDiv (.loc "_law_number" ⟨212, 21, 212, 32⟩) (.int 8 ⟨212, 36, 212, 37⟩) ⟨212, 21, 212, 37⟩) (.bltn "len" [.loc "_law_under" ⟨212, 44, 212, 54⟩] ⟨212, 40, 212, 43⟩ ⟨212, 40, 212, 55⟩) ⟨212, 21, 212, 55⟩] 0 ⟨212, 11, 212, 56⟩) ⟨212, 4, 212, 56⟩]
noncomputable def p__law_next : List String := ["_law_company", "_law_many", "_law_number"]
noncomputable def b__law_done : List S := [
  .ite (.cmp .Eq (.sub (.loc "_law_deed" ⟨214, 7, 214, 16⟩) (.int 0 ⟨214, 17, 214, 18⟩) ⟨214, 7, 214, 19⟩) (.str "hand" ⟨214, 23, 214, 29⟩) ⟨214, 7, 214, 29⟩) [
    .ret (.meth (.loc "_law_company" ⟨215, 15, 215, 27⟩) "hand_on" [.sub (.loc "_law_deed" ⟨215, 36, 215, 45⟩) (.int 1 ⟨215, 46, 215, 47⟩) ⟨215, 36, 215, 48⟩, .sub (.loc "_law_deed" ⟨215, 50, 215, 59⟩) (.int 2 ⟨215, 60, 215, 61⟩) ⟨215, 50, 215, 62⟩, .sub (.loc "_law_deed" ⟨215, 64, 215, 73⟩) (.int 3 ⟨215, 74, 215, 75⟩) ⟨215, 64, 215, 76⟩] ⟨215, 15, 215, 35⟩ ⟨215, 15, 215, 77⟩) ⟨215, 8, 215, 77⟩] [] ⟨214, 4, 215, 77⟩,
  .ite (.cmp .Eq (.sub (.loc "_law_deed" ⟨216, 7, 216, 16⟩) (.int 0 ⟨216, 17, 216, 18⟩) ⟨216, 7, 216, 19⟩) (.str "do" ⟨216, 23, 216, 27⟩) ⟨216, 7, 216, 27⟩) [
    .ret (.meth (.loc "_law_company" ⟨217, 15, 217, 27⟩) "do" [.sub (.loc "_law_deed" ⟨217, 31, 217, 40⟩) (.int 1 ⟨217, 41, 217, 42⟩) ⟨217, 31, 217, 43⟩] ⟨217, 15, 217, 30⟩ ⟨217, 15, 217, 44⟩) ⟨217, 8, 217, 44⟩] [] ⟨216, 4, 217, 44⟩,
  .ret (.meth (.loc "_law_company" ⟨218, 11, 218, 23⟩) "carry" [.sub (.loc "_law_deed" ⟨218, 30, 218, 39⟩) (.int 1 ⟨218, 40, 218, 41⟩) ⟨218, 30, 218, 42⟩] ⟨218, 11, 218, 29⟩ ⟨218, 11, 218, 43⟩) ⟨218, 4, 218, 43⟩]
noncomputable def p__law_done : List String := ["_law_company", "_law_deed"]
noncomputable def b__law_way_good : List S := [
  .assign "_law_found" (.call "way" [.loc "_law_company" ⟨220, 21, 220, 33⟩, .loc "_law_number" ⟨220, 35, 220, 46⟩] ⟨220, 17, 220, 20⟩ ⟨220, 17, 220, 47⟩) ⟨220, 4, 220, 14⟩ ⟨220, 4, 220, 47⟩,
  .ite (.and [.cmp .Is (.sub (.loc "_law_wakers" ⟨221, 7, 221, 18⟩) (.loc "_law_number" ⟨221, 19, 221, 30⟩) ⟨221, 7, 221, 31⟩) (.none ⟨221, 35, 221, 39⟩) ⟨221, 7, 221, 39⟩, .or [.cmp .Gt (.loc "_law_number" ⟨221, 45, 221, 56⟩) (.int 0 ⟨221, 59, 221, 60⟩) ⟨221, 45, 221, 60⟩, .not (.meth (.loc "_law_company" ⟨221, 68, 221, 80⟩) "runs" [] ⟨221, 68, 221, 85⟩ ⟨221, 68, 221, 87⟩) ⟨221, 64, 221, 87⟩] ⟨221, 45, 221, 87⟩] ⟨221, 7, 221, 88⟩) [
    .ret (.call "_law_alike" [.loc "_law_found" ⟨222, 26, 222, 36⟩, .list [] ⟨222, 38, 222, 40⟩] ⟨222, 15, 222, 25⟩ ⟨222, 15, 222, 41⟩) ⟨222, 8, 222, 41⟩] [] ⟨221, 4, 222, 41⟩,
  .ite (.or [.not (.isi (.loc "_law_found" ⟨223, 22, 223, 32⟩) (.ty "list") ⟨223, 11, 223, 21⟩ ⟨223, 34, 223, 38⟩ ⟨223, 11, 223, 39⟩) ⟨223, 7, 223, 39⟩, .cmp .Lt (.bltn "len" [.loc "_law_found" ⟨223, 47, 223, 57⟩] ⟨223, 43, 223, 46⟩ ⟨223, 43, 223, 58⟩) (.int 1 ⟨223, 61, 223, 62⟩) ⟨223, 43, 223, 62⟩, .cmp .Gt (.bltn "len" [.loc "_law_found" ⟨223, 70, 223, 80⟩] ⟨223, 66, 223, 69⟩ ⟨223, 66, 223, 81⟩) (.loc "_law_many" ⟨223, 84, 223, 93⟩) ⟨223, 66, 223, 93⟩, .cmp .NotEq (.un .lenset (.loc "_law_found" ⟨223, 106, 223, 116⟩) ⟨223, 98, 223, 101⟩ ⟨223, 102, 223, 105⟩ ⟨223, 102, 223, 117⟩ ⟨223, 98, 223, 118⟩) (.bltn "len" [.loc "_law_found" ⟨223, 126, 223, 136⟩] ⟨223, 122, 223, 125⟩ ⟨223, 122, 223, 137⟩) ⟨223, 98, 223, 137⟩] ⟨223, 7, 223, 138⟩) [
    .ret (.bool false ⟨224, 15, 224, 20⟩) ⟨224, 8, 224, 20⟩] [] ⟨223, 4, 224, 20⟩,
  .ite (.or [.not (.call "_law_whole" [.sub (.loc "_law_found" ⟨225, 22, 225, 32⟩) (.int 0 ⟨225, 33, 225, 34⟩) ⟨225, 22, 225, 35⟩] ⟨225, 11, 225, 21⟩ ⟨225, 11, 225, 36⟩) ⟨225, 7, 225, 36⟩, .cmp .NotEq (.sub (.loc "_law_found" ⟨225, 40, 225, 50⟩) (.int 0 ⟨225, 51, 225, 52⟩) ⟨225, 40, 225, 53⟩) (.loc "_law_number" ⟨225, 57, 225, 68⟩) ⟨225, 40, 225, 68⟩, .cmp .NotEq (.sub (.loc "_law_found" ⟨225, 72, 225, 82⟩) (.neg (.int 1 ⟨225, 84, 225, 85⟩) ⟨225, 83, 225, 85⟩) ⟨225, 72, 225, 86⟩) (.int 0 ⟨225, 90, 225, 91⟩) ⟨225, 72, 225, 91⟩] ⟨225, 7, 225, 91⟩) [
    .ret (.bool false ⟨226, 15, 226, 20⟩) ⟨226, 8, 226, 20⟩] [] ⟨225, 4, 226, 20⟩,
  .for_ "_law_k" (.bltn "range" [.int 1 ⟨227, 24, 227, 25⟩, .bltn "len" [.loc "_law_found" ⟨227, 31, 227, 41⟩] ⟨227, 27, 227, 30⟩ ⟨227, 27, 227, 42⟩] ⟨227, 18, 227, 23⟩ ⟨227, 18, 227, 43⟩) [
    .ite (.or [.not (.call "_law_whole" [.sub (.loc "_law_found" ⟨228, 26, 228, 36⟩) (.loc "_law_k" ⟨228, 37, 228, 43⟩) ⟨228, 26, 228, 44⟩] ⟨228, 15, 228, 25⟩ ⟨228, 15, 228, 45⟩) ⟨228, 11, 228, 45⟩, .cmp .NotEq (.sub (.loc "_law_wakers" ⟨228, 49, 228, 60⟩) (.sub (.loc "_law_found" ⟨228, 61, 228, 71⟩) (.bin .Sub (.loc "_law_k" ⟨228, 72, 228, 78⟩) (.int 1 ⟨228, 81, 228, 82⟩) ⟨228, 72, 228, 82⟩) ⟨228, 61, 228, 83⟩) ⟨228, 49, 228, 84⟩) (.sub (.loc "_law_found" ⟨228, 88, 228, 98⟩) (.loc "_law_k" ⟨228, 99, 228, 105⟩) ⟨228, 88, 228, 106⟩) ⟨228, 49, 228, 106⟩] ⟨228, 11, 228, 106⟩) [
      .ret (.bool false ⟨229, 19, 229, 24⟩) ⟨229, 12, 229, 24⟩] [] ⟨228, 8, 229, 24⟩] ⟨227, 8, 227, 14⟩ ⟨227, 4, 229, 24⟩,
  .ret (.cmp .Is (.sub (.loc "_law_wakers" ⟨230, 11, 230, 22⟩) (.int 0 ⟨230, 23, 230, 24⟩) ⟨230, 11, 230, 25⟩) (.none ⟨230, 29, 230, 33⟩) ⟨230, 11, 230, 33⟩) ⟨230, 4, 230, 33⟩]
noncomputable def p__law_way_good : List String := ["_law_company", "_law_many", "_law_wakers", "_law_number"]
noncomputable def b__law_woken_due : List S := [
  .assign "_law_pairs" (.list [] ⟨232, 17, 232, 19⟩) ⟨232, 4, 232, 14⟩ ⟨232, 4, 232, 19⟩,
  .for_ "_law_k" (.bltn "range" [.loc "_law_many" ⟨233, 24, 233, 33⟩] ⟨233, 18, 233, 23⟩ ⟨233, 18, 233, 34⟩) [
    .ite (.or [.cmp .IsNot (.sub (.loc "_law_wakers" ⟨234, 11, 234, 22⟩) (.loc "_law_k" ⟨234, 23, 234, 29⟩) ⟨234, 11, 234, 30⟩) (.none ⟨234, 38, 234, 42⟩) ⟨234, 11, 234, 42⟩, .and [.cmp .Eq (.loc "_law_k" ⟨234, 47, 234, 53⟩) (.int 0 ⟨234, 57, 234, 58⟩) ⟨234, 47, 234, 58⟩, .meth (.loc "_law_company" ⟨234, 63, 234, 75⟩) "runs" [] ⟨234, 63, 234, 80⟩ ⟨234, 63, 234, 82⟩] ⟨234, 47, 234, 82⟩] ⟨234, 11, 234, 83⟩) [
      .expr (.meth (.loc "_law_pairs" ⟨235, 12, 235, 22⟩) "append" [.tup [.loc "_law_k" ⟨235, 31, 235, 37⟩, .comp (.loc "_law_j" ⟨235, 40, 235, 46⟩) "_law_j" ["_law_k", "_law_wakers"] (.bltn "range" [.loc "_law_many" ⟨235, 67, 235, 76⟩] ⟨235, 61, 235, 66⟩ ⟨235, 61, 235, 77⟩) [.cmp .Eq (.sub (.loc "_law_wakers" ⟨235, 81, 235, 92⟩) (.loc "_law_j" ⟨235, 93, 235, 99⟩) ⟨235, 81, 235, 100⟩) (.loc "_law_k" ⟨235, 104, 235, 110⟩) ⟨235, 81, 235, 110⟩] ({ kind := .function, names := [(Str.ofString ".0", .local), (Str.ofString "_law_j", .local), (Str.ofString "_law_k", .free), (Str.ofString "_law_wakers", .free)], isGenerator := false, isCoroutine := false, more := [] }) ⟨235, 51, 235, 57⟩ ⟨235, 39, 235, 111⟩] 0 ⟨235, 30, 235, 112⟩] ⟨235, 12, 235, 29⟩ ⟨235, 12, 235, 113⟩) ⟨235, 12, 235, 113⟩] [] ⟨234, 8, 235, 113⟩] ⟨233, 8, 233, 14⟩ ⟨233, 4, 235, 113⟩,
  .ret (.loc "_law_pairs" ⟨236, 11, 236, 21⟩) ⟨236, 4, 236, 21⟩]
noncomputable def p__law_woken_due : List String := ["_law_company", "_law_many", "_law_wakers"]
noncomputable def b__law_woken_good : List S := [
  .assign "_law_found" (.call "woken_by" [.loc "_law_company" ⟨238, 26, 238, 38⟩] ⟨238, 17, 238, 25⟩ ⟨238, 17, 238, 39⟩) ⟨238, 4, 238, 14⟩ ⟨238, 4, 238, 39⟩,
  .ite (.or [.not (.un .isd (.loc "_law_found" ⟨239, 22, 239, 32⟩) ⟨239, 11, 239, 21⟩ ⟨239, 34, 239, 38⟩ ⟨239, 11, 239, 39⟩ ⟨239, 11, 239, 39⟩) ⟨239, 7, 239, 39⟩, .not (.call "_law_alike" [.un .items (.loc "_law_found" ⟨239, 63, 239, 73⟩) ⟨239, 58, 239, 62⟩ ⟨239, 63, 239, 79⟩ ⟨239, 63, 239, 81⟩ ⟨239, 58, 239, 82⟩, .call "_law_woken_due" [.loc "_law_company" ⟨239, 99, 239, 111⟩, .loc "_law_many" ⟨239, 113, 239, 122⟩, .loc "_law_wakers" ⟨239, 124, 239, 135⟩] ⟨239, 84, 239, 98⟩ ⟨239, 84, 239, 136⟩] ⟨239, 47, 239, 57⟩ ⟨239, 47, 239, 137⟩) ⟨239, 43, 239, 137⟩] ⟨239, 7, 239, 137⟩) [
    .ret (.bool false ⟨240, 15, 240, 20⟩) ⟨240, 8, 240, 20⟩] [] ⟨239, 4, 240, 20⟩,
  .expr (.meth (.loc "_law_held" ⟨241, 4, 241, 13⟩) "append" [.list [.comp (.tup [.loc "_law_k" ⟨241, 24, 241, 30⟩, .bltn "list" [.dsub (.loc "_law_found" ⟨241, 37, 241, 47⟩) (.loc "_law_k" ⟨241, 48, 241, 54⟩) ⟨241, 37, 241, 55⟩] ⟨241, 32, 241, 36⟩ ⟨241, 32, 241, 56⟩] 0 ⟨241, 23, 241, 57⟩) "_law_k" ["_law_found"] (.dkeys "_law_found" ⟨241, 72, 241, 82⟩) [] ({ kind := .function, names := [(Str.ofString ".0", .local), (Str.ofString "_law_k", .local), (Str.ofString "list", .globalImplicit), (Str.ofString "_law_found", .free)], isGenerator := false, isCoroutine := false, more := [] }) ⟨241, 62, 241, 68⟩ ⟨241, 22, 241, 83⟩, .loc "_law_found" ⟨241, 85, 241, 95⟩] ⟨241, 21, 241, 96⟩] ⟨241, 4, 241, 20⟩ ⟨241, 4, 241, 97⟩) ⟨241, 4, 241, 97⟩,
  .assign "_law_again" (.call "woken_by" [.loc "_law_company" ⟨242, 26, 242, 38⟩] ⟨242, 17, 242, 25⟩ ⟨242, 17, 242, 39⟩) ⟨242, 4, 242, 14⟩ ⟨242, 4, 242, 39⟩,
  .for_ "_law_k" (.dkeys "_law_again" ⟨243, 18, 243, 28⟩) [
    .expr (.meth (.dsub (.loc "_law_again" ⟨244, 8, 244, 18⟩) (.loc "_law_k" ⟨244, 19, 244, 25⟩) ⟨244, 8, 244, 26⟩) "append" [.loc "_law_k" ⟨244, 34, 244, 40⟩] ⟨244, 8, 244, 33⟩ ⟨244, 8, 244, 41⟩) ⟨244, 8, 244, 41⟩] ⟨243, 8, 243, 14⟩ ⟨243, 4, 244, 41⟩,
  .ret (.bool true ⟨245, 11, 245, 15⟩) ⟨245, 4, 245, 15⟩]
noncomputable def p__law_woken_good : List String := ["_law_company", "_law_many", "_law_wakers", "_law_held"]
noncomputable def b__law_debts_good : List S := [
  .assign "_law_due" (.comp (.tup [.loc "_law_k" ⟨247, 17, 247, 23⟩, .sub (.loc "_law_wakers" ⟨247, 25, 247, 36⟩) (.loc "_law_k" ⟨247, 37, 247, 43⟩) ⟨247, 25, 247, 44⟩] 0 ⟨247, 16, 247, 45⟩) "_law_k" ["_law_wakers"] (.bltn "range" [.loc "_law_many" ⟨247, 66, 247, 75⟩] ⟨247, 60, 247, 65⟩ ⟨247, 60, 247, 76⟩) [.cmp .IsNot (.sub (.loc "_law_wakers" ⟨247, 80, 247, 91⟩) (.loc "_law_k" ⟨247, 92, 247, 98⟩) ⟨247, 80, 247, 99⟩) (.none ⟨247, 107, 247, 111⟩) ⟨247, 80, 247, 111⟩] ({ kind := .function, names := [(Str.ofString ".0", .local), (Str.ofString "_law_k", .local), (Str.ofString "_law_wakers", .free)], isGenerator := false, isCoroutine := false, more := [] }) ⟨247, 50, 247, 56⟩ ⟨247, 15, 247, 112⟩) ⟨247, 4, 247, 12⟩ ⟨247, 4, 247, 112⟩,
  .assign "_law_found" (.call "debts" [.loc "_law_company" ⟨248, 23, 248, 35⟩] ⟨248, 17, 248, 22⟩ ⟨248, 17, 248, 36⟩) ⟨248, 4, 248, 14⟩ ⟨248, 4, 248, 36⟩,
  .ite (.not (.call "_law_alike" [.loc "_law_found" ⟨249, 22, 249, 32⟩, .loc "_law_due" ⟨249, 34, 249, 42⟩] ⟨249, 11, 249, 21⟩ ⟨249, 11, 249, 43⟩) ⟨249, 7, 249, 43⟩) [
    .ret (.bool false ⟨250, 15, 250, 20⟩) ⟨250, 8, 250, 20⟩] [] ⟨249, 4, 250, 20⟩,
  .expr (.meth (.loc "_law_held" ⟨251, 4, 251, 13⟩) "append" [.list [.loc "_law_due" ⟨251, 22, 251, 30⟩, .loc "_law_found" ⟨251, 32, 251, 42⟩] ⟨251, 21, 251, 43⟩] ⟨251, 4, 251, 20⟩ ⟨251, 4, 251, 44⟩) ⟨251, 4, 251, 44⟩,
  .expr (.meth (.call "debts" [.loc "_law_company" ⟨252, 10, 252, 22⟩] ⟨252, 4, 252, 9⟩ ⟨252, 4, 252, 23⟩) "append" [.tup [.int 0 ⟨252, 32, 252, 33⟩, .int 0 ⟨252, 35, 252, 36⟩] 0 ⟨252, 31, 252, 37⟩] ⟨252, 4, 252, 30⟩ ⟨252, 4, 252, 38⟩) ⟨252, 4, 252, 38⟩,
  .ret (.bool true ⟨253, 11, 253, 15⟩) ⟨253, 4, 253, 15⟩]
noncomputable def p__law_debts_good : List String := ["_law_company", "_law_many", "_law_wakers", "_law_held"]
noncomputable def b__law_good : List S := [
  .assign "_law_first" (.list [] ⟨255, 17, 255, 19⟩) ⟨255, 4, 255, 14⟩ ⟨255, 4, 255, 19⟩,
  .ite (.cmp .Eq (.bin .Mod (.bin .FloorDiv (.loc "_law_number" ⟨256, 7, 256, 18⟩) (.int 2 ⟨256, 22, 256, 23⟩) ⟨256, 7, 256, 23⟩) (.int 2 ⟨256, 26, 256, 27⟩) ⟨256, 7, 256, 27⟩) (.int 0 ⟨256, 31, 256, 32⟩) ⟨256, 7, 256, 32⟩) [
    .assign "_law_first" (.call "way" [.loc "_law_company" ⟨257, 25, 257, 37⟩, .bin .Mod (.bin .FloorDiv (.loc "_law_number" ⟨257, 39, 257, 50⟩) (.int 4 ⟨257, 54, 257, 55⟩) ⟨257, 39, 257, 55⟩) (.loc "_law_many" ⟨257, 58, 257, 67⟩) ⟨257, 39, 257, 67⟩] ⟨257, 21, 257, 24⟩ ⟨257, 21, 257, 68⟩) ⟨257, 8, 257, 18⟩ ⟨257, 8, 257, 68⟩,
    .assign "_law_first" (.list [.loc "_law_first" ⟨258, 22, 258, 32⟩, .bltn "list" [.loc "_law_first" ⟨258, 39, 258, 49⟩] ⟨258, 34, 258, 38⟩ ⟨258, 34, 258, 50⟩, .bin .Mod (.bin .FloorDiv (.loc "_law_number" ⟨258, 52, 258, 63⟩) (.int 4 ⟨258, 67, 258, 68⟩) ⟨258, 52, 258, 68⟩) (.loc "_law_many" ⟨258, 71, 258, 80⟩) ⟨258, 52, 258, 80⟩] ⟨258, 21, 258, 81⟩) ⟨258, 8, 258, 18⟩ ⟨258, 8, 258, 81⟩] [] ⟨256, 4, 258, 81⟩,
  .assign "_law_wakers" (.comp (.sub (.meth (.loc "_law_company" ⟨259, 19, 259, 31⟩) "hand" [.loc "_law_k" ⟨259, 37, 259, 43⟩] ⟨259, 19, 259, 36⟩ ⟨259, 19, 259, 44⟩) (.int 2 ⟨259, 45, 259, 46⟩) ⟨259, 19, 259, 47⟩) "_law_k" ["_law_company"] (.bltn "range" [.loc "_law_many" ⟨259, 68, 259, 77⟩] ⟨259, 62, 259, 67⟩ ⟨259, 62, 259, 78⟩) [] ({ kind := .function, names := [(Str.ofString ".0", .local), (Str.ofString "_law_k", .local), (Str.ofString "_law_company", .free)], isGenerator := false, isCoroutine := false, more := [] }) ⟨259, 52, 259, 58⟩ ⟨259, 18, 259, 79⟩) ⟨259, 4, 259, 15⟩ ⟨259, 4, 259, 79⟩,
  .ite (.and [.cmp .NotEq (.loc "_law_first" ⟨260, 7, 260, 17⟩) (.list [] ⟨260, 21, 260, 23⟩) ⟨260, 7, 260, 23⟩, .or [.cmp .NotEq (.sub (.loc "_law_first" ⟨260, 29, 260, 39⟩) (.int 0 ⟨260, 40, 260, 41⟩) ⟨260, 29, 260, 42⟩) (.call "way" [.loc "_law_company" ⟨260, 50, 260, 62⟩, .sub (.loc "_law_first" ⟨260, 64, 260, 74⟩) (.int 2 ⟨260, 75, 260, 76⟩) ⟨260, 64, 260, 77⟩] ⟨260, 46, 260, 49⟩ ⟨260, 46, 260, 78⟩) ⟨260, 29, 260, 78⟩, .cmp .NotEq (.sub (.loc "_law_first" ⟨260, 82, 260, 92⟩) (.int 0 ⟨260, 93, 260, 94⟩) ⟨260, 82, 260, 95⟩) (.sub (.loc "_law_first" ⟨260, 99, 260, 109⟩) (.int 1 ⟨260, 110, 260, 111⟩) ⟨260, 99, 260, 112⟩) ⟨260, 82, 260, 112⟩] ⟨260, 29, 260, 112⟩] ⟨260, 7, 260, 113⟩) [
    .ret (.bool false ⟨261, 15, 261, 20⟩) ⟨261, 8, 261, 20⟩] [] ⟨260, 4, 261, 20⟩,
  .ite (.and [.cmp .Eq (.bin .Mod (.loc "_law_number" ⟨262, 7, 262, 18⟩) (.int 2 ⟨262, 21, 262, 22⟩) ⟨262, 7, 262, 22⟩) (.int 0 ⟨262, 26, 262, 27⟩) ⟨262, 7, 262, 27⟩, .not (.call "_law_woken_good" [.loc "_law_company" ⟨262, 53, 262, 65⟩, .loc "_law_many" ⟨262, 67, 262, 76⟩, .loc "_law_wakers" ⟨262, 78, 262, 89⟩, .loc "_law_pairs" ⟨262, 91, 262, 101⟩] ⟨262, 37, 262, 52⟩ ⟨262, 37, 262, 102⟩) ⟨262, 33, 262, 102⟩] ⟨262, 7, 262, 103⟩) [
    .ret (.bool false ⟨263, 15, 263, 20⟩) ⟨263, 8, 263, 20⟩] [] ⟨262, 4, 263, 20⟩,
  .ite (.not (.call "_law_debts_good" [.loc "_law_company" ⟨264, 27, 264, 39⟩, .loc "_law_many" ⟨264, 41, 264, 50⟩, .loc "_law_wakers" ⟨264, 52, 264, 63⟩, .loc "_law_held" ⟨264, 65, 264, 74⟩] ⟨264, 11, 264, 26⟩ ⟨264, 11, 264, 75⟩) ⟨264, 7, 264, 75⟩) [
    .ret (.bool false ⟨265, 15, 265, 20⟩) ⟨265, 8, 265, 20⟩] [] ⟨264, 4, 265, 20⟩,
  .for_ "_law_k" (.bltn "range" [.loc "_law_many" ⟨266, 24, 266, 33⟩] ⟨266, 18, 266, 23⟩ ⟨266, 18, 266, 34⟩) [
    .assign "_law_told" (.meth (.loc "_law_company" ⟨267, 20, 267, 32⟩) "hand" [.loc "_law_k" ⟨267, 38, 267, 44⟩] ⟨267, 20, 267, 37⟩ ⟨267, 20, 267, 45⟩) ⟨267, 8, 267, 17⟩ ⟨267, 8, 267, 45⟩,
    .ite (.and [.cmp .Is (.sub (.loc "_law_wakers" ⟨268, 11, 268, 22⟩) (.loc "_law_k" ⟨268, 23, 268, 29⟩) ⟨268, 11, 268, 30⟩) (.none ⟨268, 34, 268, 38⟩) ⟨268, 11, 268, 38⟩, .cmp .NotEq (.loc "_law_told" ⟨268, 43, 268, 52⟩) (.tup [.int 0 ⟨268, 57, 268, 58⟩, .int 0 ⟨268, 60, 268, 61⟩, .none ⟨268, 63, 268, 67⟩, .int 0 ⟨268, 69, 268, 70⟩] 0 ⟨268, 56, 268, 71⟩) ⟨268, 43, 268, 71⟩, .or [.cmp .Gt (.loc "_law_k" ⟨268, 77, 268, 83⟩) (.int 0 ⟨268, 86, 268, 87⟩) ⟨268, 77, 268, 87⟩, .not (.meth (.loc "_law_company" ⟨268, 95, 268, 107⟩) "runs" [] ⟨268, 95, 268, 112⟩ ⟨268, 95, 268, 114⟩) ⟨268, 91, 268, 114⟩] ⟨268, 77, 268, 114⟩] ⟨268, 11, 268, 115⟩) [
      .ret (.bool false ⟨269, 19, 269, 24⟩) ⟨269, 12, 269, 24⟩] [] ⟨268, 8, 269, 24⟩,
    .ite (.and [.or [.cmp .Lt (.loc "_law_many" ⟨270, 12, 270, 21⟩) (.int 9 ⟨270, 24, 270, 25⟩) ⟨270, 12, 270, 25⟩, .cmp .Eq (.bin .Mod (.loc "_law_k" ⟨270, 29, 270, 35⟩) (.int 7 ⟨270, 38, 270, 39⟩) ⟨270, 29, 270, 39⟩) (.bin .Mod (.loc "_law_number" ⟨270, 43, 270, 54⟩) (.int 7 ⟨270, 57, 270, 58⟩) ⟨270, 43, 270, 58⟩) ⟨270, 29, 270, 58⟩] ⟨270, 12, 270, 58⟩, .not (.call "_law_way_good" [.loc "_law_company" ⟨270, 83, 270, 95⟩, .loc "_law_many" ⟨270, 97, 270, 106⟩, .loc "_law_wakers" ⟨270, 108, 270, 119⟩, .loc "_law_k" ⟨270, 121, 270, 127⟩] ⟨270, 69, 270, 82⟩ ⟨270, 69, 270, 128⟩) ⟨270, 65, 270, 128⟩] ⟨270, 11, 270, 129⟩) [
      .ret (.bool false ⟨271, 19, 271, 24⟩) ⟨271, 12, 271, 24⟩] [] ⟨270, 8, 271, 24⟩] ⟨266, 8, 266, 14⟩ ⟨266, 4, 271, 24⟩,
  .ret (.or [.cmp .Eq (.bin .Mod (.loc "_law_number" ⟨272, 11, 272, 22⟩) (.int 2 ⟨272, 25, 272, 26⟩) ⟨272, 11, 272, 26⟩) (.int 0 ⟨272, 30, 272, 31⟩) ⟨272, 11, 272, 31⟩, .call "_law_woken_good" [.loc "_law_company" ⟨272, 51, 272, 63⟩, .loc "_law_many" ⟨272, 65, 272, 74⟩, .loc "_law_wakers" ⟨272, 76, 272, 87⟩, .loc "_law_pairs" ⟨272, 89, 272, 99⟩] ⟨272, 35, 272, 50⟩ ⟨272, 35, 272, 100⟩] ⟨272, 11, 272, 100⟩) ⟨272, 4, 272, 100⟩]
noncomputable def p__law_good : List String := ["_law_company", "_law_many", "_law_number", "_law_held", "_law_pairs"]
noncomputable def b_law : List S := [
  .assign "_law_many" (.call "_law_many_by" [.call "_law_cell_at" [.loc "_law_script" ⟨274, 42, 274, 53⟩, .int 0 ⟨274, 55, 274, 56⟩] ⟨274, 29, 274, 41⟩ ⟨274, 29, 274, 57⟩] ⟨274, 16, 274, 28⟩ ⟨274, 16, 274, 58⟩) ⟨274, 4, 274, 13⟩ ⟨274, 4, 274, 58⟩,
  .assign "_law_company" (.new "Company" [.loc "_law_many" ⟨275, 27, 275, 36⟩] ⟨275, 19, 275, 26⟩ ⟨275, 19, 275, 37⟩) ⟨275, 4, 275, 16⟩ ⟨275, 4, 275, 37⟩,
  .ite (.cmp .NotEq (.bin .Mod (.call "_law_cell_at" [.loc "_law_script" ⟨276, 20, 276, 31⟩, .int 1 ⟨276, 33, 276, 34⟩] ⟨276, 7, 276, 19⟩ ⟨276, 7, 276, 35⟩) (.int 8 ⟨276, 38, 276, 39⟩) ⟨276, 7, 276, 39⟩) (.int 0 ⟨276, 43, 276, 44⟩) ⟨276, 7, 276, 44⟩) [
    .expr (.meth (.loc "_law_company" ⟨277, 8, 277, 20⟩) "begin" [.call "_law_pieces_by" [.bin .FloorDiv (.call "_law_cell_at" [.loc "_law_script" ⟨277, 55, 277, 66⟩, .int 1 ⟨277, 68, 277, 69⟩] ⟨277, 42, 277, 54⟩ ⟨277, 42, 277, 70⟩) (.int 8 ⟨277, 74, 277, 75⟩) ⟨277, 42, 277, 75⟩] ⟨277, 27, 277, 41⟩ ⟨277, 27, 277, 76⟩] ⟨277, 8, 277, 26⟩ ⟨277, 8, 277, 77⟩) ⟨277, 8, 277, 77⟩] [] ⟨276, 4, 277, 77⟩,
  .assign "_law_held" (.list [] ⟨278, 16, 278, 18⟩) ⟨278, 4, 278, 13⟩ ⟨278, 4, 278, 18⟩,
  .assign "_law_pairs" (.list [] ⟨279, 17, 279, 19⟩) ⟨279, 4, 279, 14⟩ ⟨279, 4, 279, 19⟩,
  .for_ "_law_k" (.bltn "range" [.bin .Mod (.call "_law_cell_at" [.loc "_law_script" ⟨280, 37, 280, 48⟩, .int 2 ⟨280, 50, 280, 51⟩] ⟨280, 24, 280, 36⟩ ⟨280, 24, 280, 52⟩) (.int 91 ⟨280, 55, 280, 57⟩) ⟨280, 24, 280, 57⟩] ⟨280, 18, 280, 23⟩ ⟨280, 18, 280, 58⟩) [
    .assign "_law_number" (.call "_law_mixed" [.loc "_law_script" ⟨281, 33, 281, 44⟩, .bin .Add (.int 3 ⟨281, 46, 281, 47⟩) (.loc "_law_k" ⟨281, 50, 281, 56⟩) ⟨281, 46, 281, 56⟩] ⟨281, 22, 281, 32⟩ ⟨281, 22, 281, 57⟩) ⟨281, 8, 281, 19⟩ ⟨281, 8, 281, 57⟩,
    .assign "_law_deed" (.call "_law_next" [.loc "_law_company" ⟨282, 30, 282, 42⟩, .loc "_law_many" ⟨282, 44, 282, 53⟩, .loc "_law_number" ⟨282, 55, 282, 66⟩] ⟨282, 20, 282, 29⟩ ⟨282, 20, 282, 67⟩) ⟨282, 8, 282, 17⟩ ⟨282, 8, 282, 67⟩,
    .ite (.cmp .IsNot (.loc "_law_deed" ⟨283, 11, 283, 20⟩) (.none ⟨283, 28, 283, 32⟩) ⟨283, 11, 283, 32⟩) [
      .expr (.call "_law_done" [.loc "_law_company" ⟨284, 22, 284, 34⟩, .loc "_law_deed" ⟨284, 36, 284, 45⟩] ⟨284, 12, 284, 21⟩ ⟨284, 12, 284, 46⟩) ⟨284, 12, 284, 46⟩] [] ⟨283, 8, 284, 46⟩,
    .ite (.and [.cmp .Eq (.bin .Mod (.bin .FloorDiv (.loc "_law_number" ⟨285, 11, 285, 22⟩) (.int 11 ⟨285, 26, 285, 28⟩) ⟨285, 11, 285, 28⟩) (.bin .Add (.int 3 ⟨285, 32, 285, 33⟩) (.bin .FloorDiv (.loc "_law_many" ⟨285, 36, 285, 45⟩) (.int 2 ⟨285, 49, 285, 50⟩) ⟨285, 36, 285, 50⟩) ⟨285, 32, 285, 50⟩) ⟨285, 11, 285, 51⟩) (.int 0 ⟨285, 55, 285, 56⟩) ⟨285, 11, 285, 56⟩, .not (.call "_law_good" [.loc "_law_company" ⟨285, 76, 285, 88⟩, .loc "_law_many" ⟨285, 90, 285, 99⟩, .bin .FloorDiv (.loc "_law_number" ⟨285, 101, 285, 112⟩) (.int 13 ⟨285, 116, 285, 118⟩) ⟨285, 101, 285, 118⟩, .loc "_law_held" ⟨285, 120, 285, 129⟩, .loc "_law_pairs" ⟨285, 131, 285, 141⟩] ⟨285, 66, 285, 75⟩ ⟨285, 66, 285, 142⟩) ⟨285, 62, 285, 142⟩] ⟨285, 11, 285, 143⟩) [
      .ret (.bool false ⟨286, 19, 286, 24⟩) ⟨286, 12, 286, 24⟩] [] ⟨285, 8, 286, 24⟩] ⟨280, 8, 280, 14⟩ ⟨280, 4, 286, 24⟩,
  .for_ "_law_one" (.loc "_law_pairs" ⟨287, 20, 287, 30⟩) [
    .ite (.cmp .NotEq (.sub (.loc "_law_one" ⟨288, 11, 288, 19⟩) (.int 0 ⟨288, 20, 288, 21⟩) ⟨288, 11, 288, 22⟩) (.un .items (.sub (.loc "_law_one" ⟨288, 31, 288, 39⟩) (.int 1 ⟨288, 40, 288, 41⟩) ⟨288, 31, 288, 42⟩) ⟨288, 26, 288, 30⟩ ⟨288, 31, 288, 48⟩ ⟨288, 31, 288, 50⟩ ⟨288, 26, 288, 51⟩) ⟨288, 11, 288, 51⟩) [
      .ret (.bool false ⟨289, 19, 289, 24⟩) ⟨289, 12, 289, 24⟩] [] ⟨288, 8, 289, 24⟩] ⟨287, 8, 287, 16⟩ ⟨287, 4, 289, 24⟩,
  .ret (.and [.call "_law_good" [.loc "_law_company" ⟨290, 21, 290, 33⟩, .loc "_law_many" ⟨290, 35, 290, 44⟩, .bltn "len" [.loc "_law_script" ⟨290, 50, 290, 61⟩] ⟨290, 46, 290, 49⟩ ⟨290, 46, 290, 62⟩, .loc "_law_held" ⟨290, 64, 290, 73⟩, .loc "_law_pairs" ⟨290, 75, 290, 85⟩] ⟨290, 11, 290, 20⟩ ⟨290, 11, 290, 86⟩, .bltn "all" [.comp (.cmp .Eq (.sub (.loc "_law_one" ⟨290, 96, 290, 104⟩) (.int 0 ⟨290, 105, 290, 106⟩) ⟨290, 96, 290, 107⟩) (.sub (.loc "_law_one" ⟨290, 111, 290, 119⟩) (.int 1 ⟨290, 120, 290, 121⟩) ⟨290, 111, 290, 122⟩) ⟨290, 96, 290, 122⟩) "_law_one" [] (.loc "_law_held" ⟨290, 139, 290, 148⟩) [] ({ kind := .function, names := [(Str.ofString ".0", .local), (Str.ofString "_law_one", .local)], isGenerator := false, isCoroutine := false, more := [] }) ⟨290, 127, 290, 135⟩ ⟨290, 95, 290, 149⟩] ⟨290, 91, 290, 94⟩ ⟨290, 91, 290, 150⟩] ⟨290, 11, 290, 150⟩) ⟨290, 4, 290, 150⟩]
noncomputable def p_law : List String := ["_law_script"]
noncomputable def sg : Sig := { fns := ["_law_alike", "_law_cell_at", "_law_debts_good", "_law_done", "_law_good", "_law_many_by", "_law_mixed", "_law_next", "_law_pieces_by", "_law_way_good", "_law_whole", "_law_woken_due", "_law_woken_good", "debts", "in_tree", "is_from", "way", "woken_by"], clss := ["Company", "Post"], attrs := ["going", "known", "pieces", "post", "rows", "tallies", "waits", "wakers"], meths := [("Post", "put"), ("Post", "take"), ("Post", "under"), ("Company", "size"), ("Company", "need_hand"), ("Company", "is_in"), ("Company", "noted"), ("Company", "settled"), ("Company", "begin"), ("Company", "do"), ("Company", "hand_on"), ("Company", "letter_came"), ("Company", "carry"), ("Company", "hand"), ("Company", "under"), ("Company", "runs"), ("Company", "log")], excs := ["Begun", "DebtError", "NoCompany", "NoHand", "NoPlace", "NoWork"], consts := [("MOST_HANDS", .int 60), ("MOST_PIECES", .int 999999)] }
noncomputable def clsT : List (String × Addr) := [("Company", 275), ("Post", 156)]
noncomputable def excT : List (String × Addr) := [("Begun", 109), ("DebtError", 48), ("NoCompany", 61), ("NoHand", 73), ("NoPlace", 97), ("NoWork", 85)]
noncomputable def fnT : List (String × Addr) := [("Post.__init__", 132), ("Post.put", 139), ("Post.take", 146), ("Post.under", 153), ("Company.__init__", 174), ("Company.size", 181), ("Company.need_hand", 188), ("Company.is_in", 195), ("Company.noted", 202), ("Company.settled", 209), ("Company.begin", 216), ("Company.do", 223), ("Company.hand_on", 230), ("Company.letter_came", 237), ("Company.carry", 244), ("Company.hand", 251), ("Company.under", 258), ("Company.runs", 265), ("Company.log", 272), ("debts", 19), ("in_tree", 26), ("way", 33), ("woken_by", 38), ("is_from", 118), ("_law_cell_at", 286), ("_law_mixed", 293), ("_law_whole", 300), ("_law_alike", 307), ("_law_many_by", 314), ("_law_pieces_by", 321), ("_law_next", 326), ("_law_done", 333), ("_law_way_good", 340), ("_law_woken_due", 345), ("_law_woken_good", 350), ("_law_debts_good", 355), ("_law_good", 360), ("law", 365)]
noncomputable abbrev ctx (w : World) (base : Heap) : Ctx := ctxOf Challenge.rw_uf040019_08.row.prog w (Kq w.params) base clsT excT fnT
theorem chk (P : Params) : chkGood (Kq P) sg clsT excT fnT = true := by kernel_rfl
section
variable {w : World} {base : Heap} {p : Program} {loose : List Str} {mg mb : Str → Option Value}
theorem good (X : (Kq w.params).In base) (T : TopRead p loose mg mb base) : Good (ctx w base) sg := good_of X T (chk w.params)
theorem d_Post___init__ (X : (Kq w.params).In base) (T : TopRead p loose mg mb base) : Def (ctx w base) sg "Post.__init__" p_Post___init__ b_Post___init__ := def_of (fa := 132) X T.nolimit rfl (by kernel_rfl) (by kernel_rfl) (by kernel_rfl) (len1 fun a0 => by kernel_rfl)
theorem d_Post_put (X : (Kq w.params).In base) (T : TopRead p loose mg mb base) : Def (ctx w base) sg "Post.put" p_Post_put b_Post_put := def_of (fa := 139) X T.nolimit rfl (by kernel_rfl) (by kernel_rfl) (by kernel_rfl) (len2 fun a0 a1 => by kernel_rfl)
theorem d_Post_take (X : (Kq w.params).In base) (T : TopRead p loose mg mb base) : Def (ctx w base) sg "Post.take" p_Post_take b_Post_take := def_of (fa := 146) X T.nolimit rfl (by kernel_rfl) (by kernel_rfl) (by kernel_rfl) (len2 fun a0 a1 => by kernel_rfl)
theorem d_Post_under (X : (Kq w.params).In base) (T : TopRead p loose mg mb base) : Def (ctx w base) sg "Post.under" p_Post_under b_Post_under := def_of (fa := 153) X T.nolimit rfl (by kernel_rfl) (by kernel_rfl) (by kernel_rfl) (len1 fun a0 => by kernel_rfl)
theorem d_Company___init__ (X : (Kq w.params).In base) (T : TopRead p loose mg mb base) : Def (ctx w base) sg "Company.__init__" p_Company___init__ b_Company___init__ := def_of (fa := 174) X T.nolimit rfl (by kernel_rfl) (by kernel_rfl) (by kernel_rfl) (len2 fun a0 a1 => by kernel_rfl)
theorem d_Company_size (X : (Kq w.params).In base) (T : TopRead p loose mg mb base) : Def (ctx w base) sg "Company.size" p_Company_size b_Company_size := def_of (fa := 181) X T.nolimit rfl (by kernel_rfl) (by kernel_rfl) (by kernel_rfl) (len1 fun a0 => by kernel_rfl)
theorem d_Company_need_hand (X : (Kq w.params).In base) (T : TopRead p loose mg mb base) : Def (ctx w base) sg "Company.need_hand" p_Company_need_hand b_Company_need_hand := def_of (fa := 188) X T.nolimit rfl (by kernel_rfl) (by kernel_rfl) (by kernel_rfl) (len2 fun a0 a1 => by kernel_rfl)
theorem d_Company_is_in (X : (Kq w.params).In base) (T : TopRead p loose mg mb base) : Def (ctx w base) sg "Company.is_in" p_Company_is_in b_Company_is_in := def_of (fa := 195) X T.nolimit rfl (by kernel_rfl) (by kernel_rfl) (by kernel_rfl) (len2 fun a0 a1 => by kernel_rfl)
theorem d_Company_noted (X : (Kq w.params).In base) (T : TopRead p loose mg mb base) : Def (ctx w base) sg "Company.noted" p_Company_noted b_Company_noted := def_of (fa := 202) X T.nolimit rfl (by kernel_rfl) (by kernel_rfl) (by kernel_rfl) (len2 fun a0 a1 => by kernel_rfl)
theorem d_Company_settled (X : (Kq w.params).In base) (T : TopRead p loose mg mb base) : Def (ctx w base) sg "Company.settled" p_Company_settled b_Company_settled := def_of (fa := 209) X T.nolimit rfl (by kernel_rfl) (by kernel_rfl) (by kernel_rfl) (len2 fun a0 a1 => by kernel_rfl)
theorem d_Company_begin (X : (Kq w.params).In base) (T : TopRead p loose mg mb base) : Def (ctx w base) sg "Company.begin" p_Company_begin b_Company_begin := def_of (fa := 216) X T.nolimit rfl (by kernel_rfl) (by kernel_rfl) (by kernel_rfl) (len2 fun a0 a1 => by kernel_rfl)
theorem d_Company_do (X : (Kq w.params).In base) (T : TopRead p loose mg mb base) : Def (ctx w base) sg "Company.do" p_Company_do b_Company_do := def_of (fa := 223) X T.nolimit rfl (by kernel_rfl) (by kernel_rfl) (by kernel_rfl) (len2 fun a0 a1 => by kernel_rfl)
theorem d_Company_hand_on (X : (Kq w.params).In base) (T : TopRead p loose mg mb base) : Def (ctx w base) sg "Company.hand_on" p_Company_hand_on b_Company_hand_on := def_of (fa := 230) X T.nolimit rfl (by kernel_rfl) (by kernel_rfl) (by kernel_rfl) (len4 fun a0 a1 a2 a3 => by kernel_rfl)
theorem d_Company_letter_came (X : (Kq w.params).In base) (T : TopRead p loose mg mb base) : Def (ctx w base) sg "Company.letter_came" p_Company_letter_came b_Company_letter_came := def_of (fa := 237) X T.nolimit rfl (by kernel_rfl) (by kernel_rfl) (by kernel_rfl) (len2 fun a0 a1 => by kernel_rfl)
theorem d_Company_carry (X : (Kq w.params).In base) (T : TopRead p loose mg mb base) : Def (ctx w base) sg "Company.carry" p_Company_carry b_Company_carry := def_of (fa := 244) X T.nolimit rfl (by kernel_rfl) (by kernel_rfl) (by kernel_rfl) (len2 fun a0 a1 => by kernel_rfl)
theorem d_Company_hand (X : (Kq w.params).In base) (T : TopRead p loose mg mb base) : Def (ctx w base) sg "Company.hand" p_Company_hand b_Company_hand := def_of (fa := 251) X T.nolimit rfl (by kernel_rfl) (by kernel_rfl) (by kernel_rfl) (len2 fun a0 a1 => by kernel_rfl)
theorem d_Company_under (X : (Kq w.params).In base) (T : TopRead p loose mg mb base) : Def (ctx w base) sg "Company.under" p_Company_under b_Company_under := def_of (fa := 258) X T.nolimit rfl (by kernel_rfl) (by kernel_rfl) (by kernel_rfl) (len1 fun a0 => by kernel_rfl)
theorem d_Company_runs (X : (Kq w.params).In base) (T : TopRead p loose mg mb base) : Def (ctx w base) sg "Company.runs" p_Company_runs b_Company_runs := def_of (fa := 265) X T.nolimit rfl (by kernel_rfl) (by kernel_rfl) (by kernel_rfl) (len1 fun a0 => by kernel_rfl)
theorem d_Company_log (X : (Kq w.params).In base) (T : TopRead p loose mg mb base) : Def (ctx w base) sg "Company.log" p_Company_log b_Company_log := def_of (fa := 272) X T.nolimit rfl (by kernel_rfl) (by kernel_rfl) (by kernel_rfl) (len1 fun a0 => by kernel_rfl)
theorem d_debts (X : (Kq w.params).In base) (T : TopRead p loose mg mb base) : Def (ctx w base) sg "debts" p_debts b_debts := def_of (fa := 19) X T.nolimit rfl (by kernel_rfl) (by kernel_rfl) (by kernel_rfl) (len1 fun a0 => by kernel_rfl)
theorem d_in_tree (X : (Kq w.params).In base) (T : TopRead p loose mg mb base) : Def (ctx w base) sg "in_tree" p_in_tree b_in_tree := def_of (fa := 26) X T.nolimit rfl (by kernel_rfl) (by kernel_rfl) (by kernel_rfl) (len2 fun a0 a1 => by kernel_rfl)
theorem d_way (X : (Kq w.params).In base) (T : TopRead p loose mg mb base) : Def (ctx w base) sg "way" p_way b_way := def_of (fa := 33) X T.nolimit rfl (by kernel_rfl) (by kernel_rfl) (by kernel_rfl) (len2 fun a0 a1 => by kernel_rfl)
theorem d_woken_by (X : (Kq w.params).In base) (T : TopRead p loose mg mb base) : Def (ctx w base) sg "woken_by" p_woken_by b_woken_by := def_of (fa := 38) X T.nolimit rfl (by kernel_rfl) (by kernel_rfl) (by kernel_rfl) (len1 fun a0 => by kernel_rfl)
theorem d_is_from (X : (Kq w.params).In base) (T : TopRead p loose mg mb base) : Def (ctx w base) sg "is_from" p_is_from b_is_from := def_of (fa := 118) X T.nolimit rfl (by kernel_rfl) (by kernel_rfl) (by kernel_rfl) (len3 fun a0 a1 a2 => by kernel_rfl)
theorem d__law_cell_at (X : (Kq w.params).In base) (T : TopRead p loose mg mb base) : Def (ctx w base) sg "_law_cell_at" p__law_cell_at b__law_cell_at := def_of (fa := 286) X T.nolimit rfl (by kernel_rfl) (by kernel_rfl) (by kernel_rfl) (len2 fun a0 a1 => by kernel_rfl)
theorem d__law_mixed (X : (Kq w.params).In base) (T : TopRead p loose mg mb base) : Def (ctx w base) sg "_law_mixed" p__law_mixed b__law_mixed := def_of (fa := 293) X T.nolimit rfl (by kernel_rfl) (by kernel_rfl) (by kernel_rfl) (len2 fun a0 a1 => by kernel_rfl)
theorem d__law_whole (X : (Kq w.params).In base) (T : TopRead p loose mg mb base) : Def (ctx w base) sg "_law_whole" p__law_whole b__law_whole := def_of (fa := 300) X T.nolimit rfl (by kernel_rfl) (by kernel_rfl) (by kernel_rfl) (len1 fun a0 => by kernel_rfl)
theorem d__law_alike (X : (Kq w.params).In base) (T : TopRead p loose mg mb base) : Def (ctx w base) sg "_law_alike" p__law_alike b__law_alike := def_of (fa := 307) X T.nolimit rfl (by kernel_rfl) (by kernel_rfl) (by kernel_rfl) (len2 fun a0 a1 => by kernel_rfl)
theorem d__law_many_by (X : (Kq w.params).In base) (T : TopRead p loose mg mb base) : Def (ctx w base) sg "_law_many_by" p__law_many_by b__law_many_by := def_of (fa := 314) X T.nolimit rfl (by kernel_rfl) (by kernel_rfl) (by kernel_rfl) (len1 fun a0 => by kernel_rfl)
theorem d__law_pieces_by (X : (Kq w.params).In base) (T : TopRead p loose mg mb base) : Def (ctx w base) sg "_law_pieces_by" p__law_pieces_by b__law_pieces_by := def_of (fa := 321) X T.nolimit rfl (by kernel_rfl) (by kernel_rfl) (by kernel_rfl) (len1 fun a0 => by kernel_rfl)
theorem d__law_next (X : (Kq w.params).In base) (T : TopRead p loose mg mb base) : Def (ctx w base) sg "_law_next" p__law_next b__law_next := def_of (fa := 326) X T.nolimit rfl (by kernel_rfl) (by kernel_rfl) (by kernel_rfl) (len3 fun a0 a1 a2 => by kernel_rfl)
theorem d__law_done (X : (Kq w.params).In base) (T : TopRead p loose mg mb base) : Def (ctx w base) sg "_law_done" p__law_done b__law_done := def_of (fa := 333) X T.nolimit rfl (by kernel_rfl) (by kernel_rfl) (by kernel_rfl) (len2 fun a0 a1 => by kernel_rfl)
theorem d__law_way_good (X : (Kq w.params).In base) (T : TopRead p loose mg mb base) : Def (ctx w base) sg "_law_way_good" p__law_way_good b__law_way_good := def_of (fa := 340) X T.nolimit rfl (by kernel_rfl) (by kernel_rfl) (by kernel_rfl) (len4 fun a0 a1 a2 a3 => by kernel_rfl)
theorem d__law_woken_due (X : (Kq w.params).In base) (T : TopRead p loose mg mb base) : Def (ctx w base) sg "_law_woken_due" p__law_woken_due b__law_woken_due := def_of (fa := 345) X T.nolimit rfl (by kernel_rfl) (by kernel_rfl) (by kernel_rfl) (len3 fun a0 a1 a2 => by kernel_rfl)
theorem d__law_woken_good (X : (Kq w.params).In base) (T : TopRead p loose mg mb base) : Def (ctx w base) sg "_law_woken_good" p__law_woken_good b__law_woken_good := def_of (fa := 350) X T.nolimit rfl (by kernel_rfl) (by kernel_rfl) (by kernel_rfl) (len4 fun a0 a1 a2 a3 => by kernel_rfl)
theorem d__law_debts_good (X : (Kq w.params).In base) (T : TopRead p loose mg mb base) : Def (ctx w base) sg "_law_debts_good" p__law_debts_good b__law_debts_good := def_of (fa := 355) X T.nolimit rfl (by kernel_rfl) (by kernel_rfl) (by kernel_rfl) (len4 fun a0 a1 a2 a3 => by kernel_rfl)
theorem d__law_good (X : (Kq w.params).In base) (T : TopRead p loose mg mb base) : Def (ctx w base) sg "_law_good" p__law_good b__law_good := def_of (fa := 360) X T.nolimit rfl (by kernel_rfl) (by kernel_rfl) (by kernel_rfl) (len5 fun a0 a1 a2 a3 a4 => by kernel_rfl)
theorem d_law (X : (Kq w.params).In base) (T : TopRead p loose mg mb base) : Def (ctx w base) sg "law" p_law b_law := def_of (fa := 365) X T.nolimit rfl (by kernel_rfl) (by kernel_rfl) (by kernel_rfl) (len1 fun a0 => by kernel_rfl)
end
end Mine

namespace Mine
open PySem
set_option hygiene false
local macro_rules | `(tactic| walk_at "w") => do
  let f := fun (s : String) (k : Lean.Ident → Lean.TSyntax `tactic) => (s.splitOn " ").toArray.map fun s => k (Lean.mkIdent s.toName)
  let g := fun (l : Array Lean.Term) (s : Lean.Ident) => (⟨Lean.mkNode `Lean.Parser.Tactic.refine #[Lean.mkAtom "refine", (Lean.Syntax.mkApp s l).raw]⟩ : Lean.TSyntax `tactic)
  let h ← `(?_)
  `(tactic| first | (with_reducible first $[| $(f "e_here k_dsub k_ds1 k_ds2 e_dsub e_un s_dset k_es1 k_es k_cons k_sub k_cmp k_bin k_asg k_if k_call k_own k_tup k_list k_bltn k_next k_expr k_not k_and k_or k_neg k_retf k_rets k_sqr k_rW k_ite k_si1 k_si2 k_sa k_if1 k_c2a k_c2b k_c2c k_slL1 k_slL k_slU1 k_slU e_int e_bool e_none e_str e_bin e_neg e_not e_and e_or a_one a_cons o_one o_cons e_cmp e_cmp2 e_attr e_sub e_sliceL e_sliceU e_tup e_list e_call e_new e_bltn e_isi e_meth es_nil es_cons tr_in br_t br_f br_nt br_nf int_in add_i sub_i eq_i ne_i lt_i le_i gt_i ge_i len_t len_f s_nil s_expr s_assign s_setattr s_setitem s_if s_ite s_ret fq_ret fq_next sq_next sq_ret" (g #[h]) ++ f "e_loc br_dt br_df br_ndt br_ndf" (g #[(← `(by assumption)), h])):tactic]*) | ((with_reducible apply e_loc); · exact rfl) | ((with_reducible apply e_loc); · assumption) | ((with_reducible apply e_glob); · exact rfl) | ((with_reducible apply len_l); · assumption) | ((with_reducible apply list_l); · assumption) | ((with_reducible refine e_skip ?_ ?_); · decide) | ((with_reducible refine e_cap ?_ ?_); · decide) | ((with_reducible apply isi_t); · exact rfl) | ((with_reducible apply isi_f); · exact rfl) | ((with_reducible apply getA_in); (· assumption); (· assumption); · exact rfl))
local macro_rules | `(tactic| walk_at "ww") => `(tactic| repeat walk_at "w")
local macro_rules | `(tactic| walk_at "ro") => `(tactic| first | exact loc_here | assumption | (refine loc_skip (by decide) ?_; walk_at "ro"))
local macro_rules | `(tactic| walk_at "x") => `(tactic| first | walk_at "w" | ((with_reducible refine mod_i ?_ ?_); · decide) | ((with_reducible refine div_i ?_ ?_ ?_); (· decide); · decide) | ((with_reducible apply sub_t); · exact rfl) | ((with_reducible apply sub_l); (· assumption); · exact rfl) | ((with_reducible apply meth_lst); (· assumption); · simp))
local macro_rules | `(tactic| walk_at "xx") => `(tactic| repeat walk_at "x")
set_option hygiene true
set_option autoImplicit false

set_option linter.unusedVariables false
set_option linter.unusedSimpArgs false
open PySem

structure Ad where
  c : Addr
  cd : Addr
  p : Addr
  w : Addr
  k : Addr
  t : Addr
  ps : Addr
  pd : Addr
  rl : Addr
  kn : Addr
noncomputable def Ad.list (a : Ad) : List Addr := [a.c, a.cd, a.p, a.w, a.k, a.t, a.ps, a.pd, a.rl, a.kn]
structure Co where
  P : List Int
  W : List Int
  K : List (Option Int)
  T : List Int
  go : Bool
  kn : List V
  rl : List V
noncomputable def iL (l : List Int) : List V := l.map .int
noncomputable def oV : Option Int → V
  | none => .none
  | some i => .int i
noncomputable def oL (l : List (Option Int)) : List V := l.map oV
noncomputable def atts (a : Ad) (go : Bool) : List (String × V) := [("pieces", .ref a.p), ("waits", .ref a.w), ("wakers", .ref a.k), ("tallies", .ref a.t), ("post", .ref a.ps), ("going", .bool go), ("known", .ref a.kn)]
structure Comp (μ : Mem) (a : Ad) (C : Co) : Prop where
  nd : a.list.Nodup
  c : μ a.c = some (.inst "Company" a.cd)
  cd : μ a.cd = some (.attrs (atts a C.go))
  p : μ a.p = some (.list (iL C.P))
  w : μ a.w = some (.list (iL C.W))
  k : μ a.k = some (.list (oL C.K))
  t : μ a.t = some (.list (iL C.T))
  ps : μ a.ps = some (.inst "Post" a.pd)
  pd : μ a.pd = some (.attrs [("rows", .ref a.rl)])
  rl : μ a.rl = some (.list C.rl)
  kn : μ a.kn = some (.list C.kn)
noncomputable def Off (l : List Addr) (μ μ' : Mem) : Prop := ∀ b o, μ b = some o → b ∉ l → μ' b = some o
theorem Off.trans {l : List Addr} {μ₁ μ₂ μ₃ : Mem} (x : Off l μ₁ μ₂) (y : Off l μ₂ μ₃) : Off l μ₁ μ₃ := fun b o h n => y b o (x b o h n) n
theorem Off.upd {l : List Addr} {μ : Mem} {a : Addr} (h : a ∈ l) (o : O) : Off l μ (updM μ a o) := fun b o' hb n => by
  rw [updM_ne (fun q : b = a => n (q ▸ h))]; exact hb
theorem Off.new {l : List Addr} {μ : Mem} {n : Addr} (h : μ n = none) (o : O) : Off l μ (updM μ n o) := fun b o' hb _ => by
  rw [updM_ne fun q => by rw [q, h] at hb; cases hb]; exact hb
theorem Off.none {l : List Addr} {μ : Mem} {n : Addr} (h : μ n = none) (o : O) {b : Addr} {o' : O} (hb : μ b = some o') : updM μ n o b = some o' := by
  rw [updM_ne fun q => by rw [q, h] at hb; cases hb]; exact hb
theorem Comp.mono {μ μ' : Mem} {a : Ad} {C : Co} (h : Comp μ a C) (k : ∀ b o, μ b = some o → b ∈ a.list → μ' b = some o) : Comp μ' a C :=
  ⟨h.nd, k _ _ h.c (by simp [Ad.list]), k _ _ h.cd (by simp [Ad.list]), k _ _ h.p (by simp [Ad.list]), k _ _ h.w (by simp [Ad.list]), k _ _ h.k (by simp [Ad.list]), k _ _ h.t (by simp [Ad.list]), k _ _ h.ps (by simp [Ad.list]), k _ _ h.pd (by simp [Ad.list]), k _ _ h.rl (by simp [Ad.list]), k _ _ h.kn (by simp [Ad.list])⟩
theorem Comp.new {μ : Mem} {a : Ad} {C : Co} (h : Comp μ a C) {n : Addr} (hn : μ n = none) (o : O) : Comp (updM μ n o) a C := h.mono fun b o' hb _ => Off.none (l := []) hn o hb
theorem Comp.notin {μ : Mem} {a : Ad} {C : Co} (h : Comp μ a C) {n : Addr} (hn : μ n = none) : n ∉ a.list := fun q => by
  simp only [Ad.list, List.mem_cons, List.not_mem_nil, or_false] at q
  rcases q with rfl | rfl | rfl | rfl | rfl | rfl | rfl | rfl | rfl | rfl
  · have := h.c; rw [hn] at this; cases this
  · have := h.cd; rw [hn] at this; cases this
  · have := h.p; rw [hn] at this; cases this
  · have := h.w; rw [hn] at this; cases this
  · have := h.k; rw [hn] at this; cases this
  · have := h.t; rw [hn] at this; cases this
  · have := h.ps; rw [hn] at this; cases this
  · have := h.pd; rw [hn] at this; cases this
  · have := h.rl; rw [hn] at this; cases this
  · have := h.kn; rw [hn] at this; cases this

theorem nd_ne {l : List Addr} (h : l.Nodup) {i j : Nat} {x y : Addr} (hi : l[i]? = some x) (hj : l[j]? = some y) (n : (i == j) = false) : x ≠ y := fun q => by
  obtain ⟨h1, e1⟩ := List.getElem?_eq_some_iff.mp hi
  obtain ⟨h2, e2⟩ := List.getElem?_eq_some_iff.mp hj
  have : i = j := (List.getElem_inj h).mp (by rw [e1, e2, q])
  subst this
  simp at n
theorem nd_set : ∀ (l : List Addr) (i : Nat) (n : Addr), l.Nodup → n ∉ l → (l.set i n).Nodup
  | [], _, _, h, _ => h
  | a :: l, 0, n, h, hn => by
    rw [List.set_cons_zero, List.nodup_cons]
    exact ⟨fun q => hn (.tail _ q), (List.nodup_cons.mp h).2⟩
  | a :: l, i + 1, n, h, hn => by
    have h := List.nodup_cons.mp h
    rw [List.set_cons_succ, List.nodup_cons]
    refine ⟨fun q => ?_, nd_set l i n h.2 fun q => hn (.tail _ q)⟩
    rcases List.mem_or_eq_of_mem_set q with q | q
    · exact h.1 q
    · exact hn (q ▸ .head _)
section
variable {μ : Mem} {a : Ad} {C : Co}
theorem Comp.setP (h : Comp μ a C) (l : List Int) : Comp (updM μ a.p (.list (iL l))) a { C with P := l } := ⟨h.nd, mem_skip (nd_ne h.nd (i := 0) (j := 2) rfl rfl rfl) h.c, mem_skip (nd_ne h.nd (i := 1) (j := 2) rfl rfl rfl) h.cd, mem_here, mem_skip (nd_ne h.nd (i := 3) (j := 2) rfl rfl rfl) h.w, mem_skip (nd_ne h.nd (i := 4) (j := 2) rfl rfl rfl) h.k, mem_skip (nd_ne h.nd (i := 5) (j := 2) rfl rfl rfl) h.t, mem_skip (nd_ne h.nd (i := 6) (j := 2) rfl rfl rfl) h.ps, mem_skip (nd_ne h.nd (i := 7) (j := 2) rfl rfl rfl) h.pd, mem_skip (nd_ne h.nd (i := 8) (j := 2) rfl rfl rfl) h.rl, mem_skip (nd_ne h.nd (i := 9) (j := 2) rfl rfl rfl) h.kn⟩
theorem Comp.setW (h : Comp μ a C) (l : List Int) : Comp (updM μ a.w (.list (iL l))) a { C with W := l } := ⟨h.nd, mem_skip (nd_ne h.nd (i := 0) (j := 3) rfl rfl rfl) h.c, mem_skip (nd_ne h.nd (i := 1) (j := 3) rfl rfl rfl) h.cd, mem_skip (nd_ne h.nd (i := 2) (j := 3) rfl rfl rfl) h.p, mem_here, mem_skip (nd_ne h.nd (i := 4) (j := 3) rfl rfl rfl) h.k, mem_skip (nd_ne h.nd (i := 5) (j := 3) rfl rfl rfl) h.t, mem_skip (nd_ne h.nd (i := 6) (j := 3) rfl rfl rfl) h.ps, mem_skip (nd_ne h.nd (i := 7) (j := 3) rfl rfl rfl) h.pd, mem_skip (nd_ne h.nd (i := 8) (j := 3) rfl rfl rfl) h.rl, mem_skip (nd_ne h.nd (i := 9) (j := 3) rfl rfl rfl) h.kn⟩
theorem Comp.setK (h : Comp μ a C) (l : List (Option Int)) : Comp (updM μ a.k (.list (oL l))) a { C with K := l } := ⟨h.nd, mem_skip (nd_ne h.nd (i := 0) (j := 4) rfl rfl rfl) h.c, mem_skip (nd_ne h.nd (i := 1) (j := 4) rfl rfl rfl) h.cd, mem_skip (nd_ne h.nd (i := 2) (j := 4) rfl rfl rfl) h.p, mem_skip (nd_ne h.nd (i := 3) (j := 4) rfl rfl rfl) h.w, mem_here, mem_skip (nd_ne h.nd (i := 5) (j := 4) rfl rfl rfl) h.t, mem_skip (nd_ne h.nd (i := 6) (j := 4) rfl rfl rfl) h.ps, mem_skip (nd_ne h.nd (i := 7) (j := 4) rfl rfl rfl) h.pd, mem_skip (nd_ne h.nd (i := 8) (j := 4) rfl rfl rfl) h.rl, mem_skip (nd_ne h.nd (i := 9) (j := 4) rfl rfl rfl) h.kn⟩
theorem Comp.setT (h : Comp μ a C) (l : List Int) : Comp (updM μ a.t (.list (iL l))) a { C with T := l } := ⟨h.nd, mem_skip (nd_ne h.nd (i := 0) (j := 5) rfl rfl rfl) h.c, mem_skip (nd_ne h.nd (i := 1) (j := 5) rfl rfl rfl) h.cd, mem_skip (nd_ne h.nd (i := 2) (j := 5) rfl rfl rfl) h.p, mem_skip (nd_ne h.nd (i := 3) (j := 5) rfl rfl rfl) h.w, mem_skip (nd_ne h.nd (i := 4) (j := 5) rfl rfl rfl) h.k, mem_here, mem_skip (nd_ne h.nd (i := 6) (j := 5) rfl rfl rfl) h.ps, mem_skip (nd_ne h.nd (i := 7) (j := 5) rfl rfl rfl) h.pd, mem_skip (nd_ne h.nd (i := 8) (j := 5) rfl rfl rfl) h.rl, mem_skip (nd_ne h.nd (i := 9) (j := 5) rfl rfl rfl) h.kn⟩
theorem Comp.setRl (h : Comp μ a C) (l : List V) : Comp (updM μ a.rl (.list l)) a { C with rl := l } := ⟨h.nd, mem_skip (nd_ne h.nd (i := 0) (j := 8) rfl rfl rfl) h.c, mem_skip (nd_ne h.nd (i := 1) (j := 8) rfl rfl rfl) h.cd, mem_skip (nd_ne h.nd (i := 2) (j := 8) rfl rfl rfl) h.p, mem_skip (nd_ne h.nd (i := 3) (j := 8) rfl rfl rfl) h.w, mem_skip (nd_ne h.nd (i := 4) (j := 8) rfl rfl rfl) h.k, mem_skip (nd_ne h.nd (i := 5) (j := 8) rfl rfl rfl) h.t, mem_skip (nd_ne h.nd (i := 6) (j := 8) rfl rfl rfl) h.ps, mem_skip (nd_ne h.nd (i := 7) (j := 8) rfl rfl rfl) h.pd, mem_here, mem_skip (nd_ne h.nd (i := 9) (j := 8) rfl rfl rfl) h.kn⟩
theorem Comp.setKn (h : Comp μ a C) (l : List V) : Comp (updM μ a.kn (.list l)) a { C with kn := l } := ⟨h.nd, mem_skip (nd_ne h.nd (i := 0) (j := 9) rfl rfl rfl) h.c, mem_skip (nd_ne h.nd (i := 1) (j := 9) rfl rfl rfl) h.cd, mem_skip (nd_ne h.nd (i := 2) (j := 9) rfl rfl rfl) h.p, mem_skip (nd_ne h.nd (i := 3) (j := 9) rfl rfl rfl) h.w, mem_skip (nd_ne h.nd (i := 4) (j := 9) rfl rfl rfl) h.k, mem_skip (nd_ne h.nd (i := 5) (j := 9) rfl rfl rfl) h.t, mem_skip (nd_ne h.nd (i := 6) (j := 9) rfl rfl rfl) h.ps, mem_skip (nd_ne h.nd (i := 7) (j := 9) rfl rfl rfl) h.pd, mem_skip (nd_ne h.nd (i := 8) (j := 9) rfl rfl rfl) h.rl, mem_here⟩
theorem Comp.setGo (h : Comp μ a C) (b : Bool) : Comp (updM μ a.cd (.attrs (atts a b))) a { C with go := b } := ⟨h.nd, mem_skip (nd_ne h.nd (i := 0) (j := 1) rfl rfl rfl) h.c, mem_here, mem_skip (nd_ne h.nd (i := 2) (j := 1) rfl rfl rfl) h.p, mem_skip (nd_ne h.nd (i := 3) (j := 1) rfl rfl rfl) h.w, mem_skip (nd_ne h.nd (i := 4) (j := 1) rfl rfl rfl) h.k, mem_skip (nd_ne h.nd (i := 5) (j := 1) rfl rfl rfl) h.t, mem_skip (nd_ne h.nd (i := 6) (j := 1) rfl rfl rfl) h.ps, mem_skip (nd_ne h.nd (i := 7) (j := 1) rfl rfl rfl) h.pd, mem_skip (nd_ne h.nd (i := 8) (j := 1) rfl rfl rfl) h.rl, mem_skip (nd_ne h.nd (i := 9) (j := 1) rfl rfl rfl) h.kn⟩
end
theorem iL_length (l : List Int) : (iL l).length = l.length := List.length_map ..
theorem oL_length (l : List (Option Int)) : (oL l).length = l.length := List.length_map ..
theorem idx_iL {l : List Int} {i : Int} (h0 : 0 ≤ i) (h1 : i < l.length) : idx (iL l) i = some (.int (l.getD i.toNat 0)) := by
  unfold idx iL
  rw [if_pos h0, List.getElem?_map, List.getD_eq_getElem?_getD, List.getElem?_eq_getElem (by omega)]; rfl
theorem idx_oL {l : List (Option Int)} {i : Int} (h0 : 0 ≤ i) (h1 : i < l.length) : idx (oL l) i = some (oV (l.getD i.toNat none)) := by
  unfold idx oL
  rw [if_pos h0, List.getElem?_map, List.getD_eq_getElem?_getD, List.getElem?_eq_getElem (by omega)]; rfl
theorem iL_set (l : List Int) (n : Nat) (v : Int) : (iL l).set n (.int v) = iL (l.set n v) := by unfold iL; rw [List.map_set]
theorem oL_set (l : List (Option Int)) (n : Nat) (v : Option Int) : (oL l).set n (oV v) = oL (l.set n v) := by unfold oL; rw [List.map_set]
theorem iL_rep (n : Nat) (i : Int) : (List.replicate n [V.int i]).flatten = iL (List.replicate n i) := by
  induction n with
  | zero => rfl
  | succ n ih => rw [List.replicate_succ, List.flatten_cons, ih]; rfl
theorem oL_rep (n : Nat) : (List.replicate n [V.none]).flatten = oL (List.replicate n none) := by
  induction n with
  | zero => rfl
  | succ n ih => rw [List.replicate_succ, List.flatten_cons, ih]; rfl

noncomputable def Co.inB (C : Co) (i : Int) : Bool := if i = 0 then C.go else (C.K.getD i.toNat none).isSome
structure Co.Ok (C : Co) : Prop where
  w : C.W.length = C.P.length
  k : C.K.length = C.P.length
  t : C.T.length = C.P.length
  lo : 1 ≤ C.P.length
  hi : C.P.length ≤ 60
noncomputable def sV (s : String) : V := .str (Str.ofString s)
noncomputable def Co.settle (C : Co) (i : Int) : Co × List V :=
  if 0 < C.P.getD i.toNat 0 ∨ 0 < C.W.getD i.toNat 0 ∨ C.inB i = false then (C, [])
  else
    let t := C.T.getD i.toNat 0
    if i = 0 then ({ C with T := C.T.set i.toNat 0, go := false }, [.tup [sV "end", .int t]])
    else
      let row := V.tup [sV "answer", .int i, oV (C.K.getD i.toNat none), .int t]
      ({ C with T := C.T.set i.toNat 0, K := C.K.set i.toNat none, rl := C.rl ++ [row] }, [row])

set_option autoImplicit false

set_option linter.unusedVariables false
set_option linter.unusedSimpArgs false
open PySem

section
variable {c : Ctx} (G : Good c sg)
include G
variable {hd : Bool} {μ : Mem} {Q : V → Mem → Prop} {X : String → Mem → Prop} {a : Ad} {C : Co}

theorem is_from_spec (D : Def c sg "is_from" p_is_from b_is_from) {i a b : Int} (h : Q (.bool (decide (a ≤ i ∧ i ≤ b))) μ) : SC c 1 hd "is_from" [.int i, .int a, .int b] μ Q X := by
  refine call_in G D rfl ?_
  unfold b_is_from
  walk_at "ww"
  refine br_d (fun h1 => ?_) (fun h1 => ?_)
  · walk_at "ww"
    simpa [h1] using h
  · walk_at "ww"
    simpa [h1] using h

theorem need_spec (D1 : Def c sg "is_from" p_is_from b_is_from) (D : Def c sg "Company.need_hand" p_Company_need_hand b_Company_need_hand) (hC : Comp μ a C) {i : Int} (hy : 0 ≤ i ∧ i < C.P.length → Q .none μ) (hn : ¬ (0 ≤ i ∧ i < C.P.length) → hd = false ∧ X "NoHand" μ) :
    SC c 2 hd "Company.need_hand" [.ref a.c, .int i] μ Q X := by
  refine call_in G D rfl ?_
  unfold b_Company_need_hand
  have h1 := hC.c
  have h2 := hC.cd
  have h3 := hC.p
  walk_at "ww"
  refine is_from_spec G D1 ?_
  rw [iL_length]
  walk_at "ww"
  refine br_nd (fun h => ?_) (fun h => ?_)
  · walk_at "ww"
    exact hy (by omega)
  · obtain ⟨q1, q2⟩ := hn (by omega)
    exact s_raise q1 q2

theorem noted_spec (D : Def c sg "Company.noted" p_Company_noted b_Company_noted) (hC : Comp μ a C) {r : Addr} {rows : List V} (hr : μ r = some (.list rows)) (hn : r ∉ a.list) (hz : C.kn.length + rows.length ≤ lim)
    (h : ∀ μ', Comp μ' a { C with kn := C.kn ++ rows } → Off a.list μ μ' → Q (.ref r) μ') : SC c 1 hd "Company.noted" [.ref a.c, .ref r] μ Q X := by
  refine call_in G D rfl ?_
  unfold b_Company_noted
  have h1 := hC.c
  have h2 := hC.cd
  have h3 := hC.kn
  walk_at "ww"
  refine meth_lst h3 (by simp) ?_
  walk_at "ww"
  refine ext_l h3 hr (fun q => hn (by rw [q]; simp [Ad.list])) hz ?_
  walk_at "ww"
  exact h _ (hC.setKn _) (Off.upd (by simp [Ad.list]) _)

theorem is_in_spec (D : Def c sg "Company.is_in" p_Company_is_in b_Company_is_in) (hC : Comp μ a C) {i : Int} (h0 : 0 ≤ i) (h1 : i < C.K.length) (h : Q (.bool (C.inB i)) μ) : SC c 1 hd "Company.is_in" [.ref a.c, .int i] μ Q X := by
  refine call_in G D rfl ?_
  unfold b_Company_is_in
  have h2 := hC.c
  have h3 := hC.cd
  have h4 := hC.k
  walk_at "ww"
  refine br_d (fun hi => ?_) (fun hi => ?_)
  · walk_at "ww"
    simpa [Co.inB, hi] using h
  · walk_at "ww"
    refine sub_l h4 (idx_oL h0 h1) ?_
    walk_at "ww"
    refine cmp_in (r := (C.K.getD i.toNat none).isSome) ?_ ?_
    · cases C.K.getD i.toNat none <;> rfl
    · walk_at "ww"
      simpa [Co.inB, hi] using h

theorem put_spec (D : Def c sg "Post.put" p_Post_put b_Post_put) (hC : Comp μ a C) {row : V} (hz : C.rl.length < lim) (h : ∀ μ', Comp μ' a { C with rl := C.rl ++ [row] } → Off a.list μ μ' → Q .none μ') : SC c 1 hd "Post.put" [.ref a.ps, row] μ Q X := by
  refine call_in G D rfl ?_
  unfold b_Post_put
  have h1 := hC.ps
  have h2 := hC.pd
  have h3 := hC.rl
  walk_at "ww"
  refine meth_lst h3 (by simp) ?_
  walk_at "ww"
  refine app_l h3 hz ?_
  walk_at "ww"
  exact h _ (hC.setRl _) (Off.upd (by simp [Ad.list]) _)

theorem post_under_spec (D : Def c sg "Post.under" p_Post_under b_Post_under) (hC : Comp μ a C) (hz : C.rl.length ≤ lim) (h : ∀ n, μ n = none → Q (.ref n) (updM μ n (.list C.rl))) : SC c 1 hd "Post.under" [.ref a.ps] μ Q X := by
  refine call_in G D rfl ?_
  unfold b_Post_under
  have h1 := hC.ps
  have h2 := hC.pd
  have h3 := hC.rl
  walk_at "ww"
  exact newL_in hz h

theorem under_spec (D1 : Def c sg "Post.under" p_Post_under b_Post_under) (D : Def c sg "Company.under" p_Company_under b_Company_under) (hC : Comp μ a C) (hz : C.rl.length ≤ lim) (h : ∀ n, μ n = none → Q (.ref n) (updM μ n (.list C.rl))) : SC c 2 hd "Company.under" [.ref a.c] μ Q X := by
  refine call_in G D rfl ?_
  unfold b_Company_under
  have h1 := hC.c
  have h2 := hC.cd
  have h3 := hC.ps
  have h4 := hC.pd
  walk_at "ww"
  refine meth_own "Post.under" h3 h4 (by rfl) (by rfl) (by rfl) ?_
  walk_at "ww"
  exact post_under_spec G D1 hC hz h

theorem runs_spec (D : Def c sg "Company.runs" p_Company_runs b_Company_runs) (hC : Comp μ a C) (h : Q (.bool C.go) μ) : SC c 1 hd "Company.runs" [.ref a.c] μ Q X := by
  refine call_in G D rfl ?_
  unfold b_Company_runs
  have h1 := hC.c
  have h2 := hC.cd
  walk_at "ww"
  exact h

theorem hand_spec (D1 : Def c sg "is_from" p_is_from b_is_from) (D2 : Def c sg "Company.need_hand" p_Company_need_hand b_Company_need_hand) (D : Def c sg "Company.hand" p_Company_hand b_Company_hand) (hC : Comp μ a C) (ok : C.Ok) {i : Int}
    (hy : 0 ≤ i ∧ i < C.P.length → Q (.tup [.int (C.P.getD i.toNat 0), .int (C.W.getD i.toNat 0), oV (C.K.getD i.toNat none), .int (C.T.getD i.toNat 0)]) μ) (hn : ¬ (0 ≤ i ∧ i < C.P.length) → hd = false ∧ X "NoHand" μ) : SC c 3 hd "Company.hand" [.ref a.c, .int i] μ Q X := by
  refine call_in G D rfl ?_
  unfold b_Company_hand
  have h1 := hC.c
  have h2 := hC.cd
  have h3 := hC.p
  have h4 := hC.w
  have h5 := hC.k
  have h6 := hC.t
  walk_at "ww"
  refine meth_own "Company.need_hand" h1 h2 (by rfl) (by rfl) (by rfl) ?_
  walk_at "ww"
  refine need_spec G D1 D2 hC (fun hi => ?_) hn
  walk_at "ww"
  refine sub_l h3 (idx_iL hi.1 hi.2) ?_
  walk_at "ww"
  refine sub_l h4 (idx_iL hi.1 (by rw [ok.w]; exact hi.2)) ?_
  walk_at "ww"
  refine sub_l h5 (idx_oL hi.1 (by rw [ok.k]; exact hi.2)) ?_
  walk_at "ww"
  refine sub_l h6 (idx_iL hi.1 (by rw [ok.t]; exact hi.2)) ?_
  walk_at "ww"
  exact hy hi
end

set_option autoImplicit false

set_option linter.unusedVariables false
set_option linter.unusedSimpArgs false
open PySem

section
variable {c : Ctx} (G : Good c sg)
include G
variable {hd : Bool} {μ : Mem} {Q : V → Mem → Prop} {X : String → Mem → Prop} {a : Ad} {C : Co}

theorem settled_spec (D1 : Def c sg "Company.is_in" p_Company_is_in b_Company_is_in) (D2 : Def c sg "Post.put" p_Post_put b_Post_put) (D : Def c sg "Company.settled" p_Company_settled b_Company_settled) (hC : Comp μ a C) (ok : C.Ok) (hz : C.rl.length < lim) {i : Int} (h0 : 0 ≤ i) (h1 : i < C.P.length)
    (h : ∀ μ' r, Comp μ' a (C.settle i).1 → Off a.list μ μ' → μ' r = some (.list (C.settle i).2) → r ∉ a.list → μ r = none → Q (.ref r) μ') : SC c 2 hd "Company.settled" [.ref a.c, .int i] μ Q X := by
  refine call_in G D rfl ?_
  unfold b_Company_settled
  have h2 := hC.c
  have h3 := hC.cd
  have h4 := hC.p
  have h5 := hC.w
  have h6 := hC.k
  have h7 := hC.t
  have w0 := ok.w
  have k0 := ok.k
  have t0 := ok.t
  have early : 0 < C.P.getD i.toNat 0 ∨ 0 < C.W.getD i.toNat 0 ∨ C.inB i = false → ∀ n, μ n = none → Q (.ref n) (updM μ n (.list [])) := fun hc n hn => by
    have e : C.settle i = (C, []) := by unfold Co.settle; rw [if_pos hc]
    rw [e] at h
    exact h _ n (hC.new hn _) (Off.new hn _) mem_here (hC.notin hn) hn
  walk_at "ww"
  refine sub_l h4 (idx_iL h0 h1) ?_
  walk_at "ww"
  refine br_d (fun q1 => ?_) (fun q1 => ?_)
  · walk_at "ww"
    exact newL_in (by decide) fun n hn => early (.inl q1) n hn
  walk_at "ww"
  refine sub_l h5 (idx_iL h0 (by omega)) ?_
  walk_at "ww"
  refine br_d (fun q2 => ?_) (fun q2 => ?_)
  · walk_at "ww"
    exact newL_in (by decide) fun n hn => early (.inr (.inl q2)) n hn
  walk_at "ww"
  refine meth_own "Company.is_in" h2 h3 (by rfl) (by rfl) (by rfl) ?_
  walk_at "ww"
  refine is_in_spec G D1 hC h0 (by omega) ?_
  cases q3 : C.inB i with
  | false =>
    walk_at "ww"
    exact newL_in (by decide) fun n hn => early (.inr (.inr q3)) n hn
  | true =>
  have hc : ¬ (0 < C.P.getD i.toNat 0 ∨ 0 < C.W.getD i.toNat 0 ∨ C.inB i = false) := by rw [q3]; exact fun z => z.elim q1 fun z => z.elim q2 fun z => Bool.noConfusion z
  walk_at "ww"
  refine sub_l h7 (idx_iL h0 (by omega)) ?_
  walk_at "ww"
  refine setI_in h7 h0 (by rw [iL_length]; omega) ?_
  rw [iL_set]
  have hC1 := hC.setT (C.T.set i.toNat 0)
  have o1 : Off a.list μ (updM μ a.t (.list (iL (C.T.set i.toNat 0)))) := Off.upd (by simp [Ad.list]) _
  have n1 : ∀ b, updM μ a.t (.list (iL (C.T.set i.toNat 0))) b = none → μ b = none := fun b hb => by
    unfold updM at hb; split at hb
    · cases hb
    · exact hb
  generalize updM μ a.t (.list (iL (C.T.set i.toNat 0))) = μ₁ at *
  have g1 := hC1.c
  have g2 := hC1.cd
  have g3 := hC1.k
  have g4 := hC1.ps
  have g5 := hC1.pd
  clear h2 h3 h4 h5 h6 h7
  walk_at "ww"
  refine br_d (fun q4 => ?_) (fun q4 => ?_)
  · have e : C.settle i = ({ C with T := C.T.set i.toNat 0, go := false }, [.tup [sV "end", .int (C.T.getD i.toNat 0)]]) := by unfold Co.settle; rw [if_neg hc]; simp only [q4, if_true]
    rw [e] at h
    walk_at "ww"
    refine setA_in g1 g2 (by show 7 < 900; decide) ?_
    show wpSs _ _ _ _ _ (updM μ₁ a.cd (.attrs (atts a false))) _ _
    have hC2 := hC1.setGo false
    have o2 := o1.trans (Off.upd (μ := μ₁) (a := a.cd) (l := a.list) (by simp [Ad.list]) (.attrs (atts a false)))
    have n2 : ∀ b, updM μ₁ a.cd (.attrs (atts a false)) b = none → μ b = none := fun b hb => by
      unfold updM at hb; split at hb
      · cases hb
      · exact n1 b hb
    generalize updM μ₁ a.cd (.attrs (atts a false)) = μ₂ at *
    walk_at "ww"
    exact newL_in (by show 1 ≤ 1048576; decide) fun n hn => h _ n (hC2.new hn _) (o2.trans (Off.new hn _)) mem_here (hC2.notin hn) (n2 n hn)
  · have e : C.settle i = ({ C with T := C.T.set i.toNat 0, K := C.K.set i.toNat none, rl := C.rl ++ [V.tup [sV "answer", .int i, oV (C.K.getD i.toNat none), .int (C.T.getD i.toNat 0)]] }, [V.tup [sV "answer", .int i, oV (C.K.getD i.toNat none), .int (C.T.getD i.toNat 0)]]) := by
      unfold Co.settle; rw [if_neg hc]; simp only [q4, if_false]
    rw [e] at h
    walk_at "ww"
    refine sub_l g3 (idx_oL h0 (by show i < (C.K.length : Int); omega)) ?_
    walk_at "ww"
    refine setI_in g3 h0 (by rw [oL_length]; show i < (C.K.length : Int); omega) ?_
    have es : (oL C.K).set i.toNat V.none = oL (C.K.set i.toNat none) := oL_set C.K i.toNat none
    show wpSs _ _ _ _ _ (updM μ₁ a.k (.list ((oL C.K).set i.toNat V.none))) _ _
    rw [es]
    have hC2 := hC1.setK (C.K.set i.toNat none)
    have o2 := o1.trans (Off.upd (μ := μ₁) (a := a.k) (l := a.list) (by simp [Ad.list]) (.list (oL (C.K.set i.toNat none))))
    have n2 : ∀ b, updM μ₁ a.k (.list (oL (C.K.set i.toNat none))) b = none → μ b = none := fun b hb => by
      unfold updM at hb; split at hb
      · cases hb
      · exact n1 b hb
    generalize updM μ₁ a.k (.list (oL (C.K.set i.toNat none))) = μ₂ at *
    have f1 := hC2.c
    have f2 := hC2.cd
    have f3 := hC2.ps
    have f4 := hC2.pd
    clear g1 g2 g3 g4 g5
    walk_at "ww"
    refine meth_own "Post.put" f3 f4 (by rfl) (by rfl) (by rfl) ?_
    walk_at "ww"
    refine put_spec G D2 hC2 hz fun μ₃ hC3 o3 => ?_
    walk_at "ww"
    refine newL_in (by show 1 ≤ 1048576; decide) fun n hn => h _ n (hC3.new hn _) (o2.trans (o3.trans (Off.new hn _))) mem_here (hC3.notin hn) ?_
    cases q : μ n with
    | none => rfl
    | some o =>
      have := hC3.notin hn
      have := (o2.trans o3) n o q this
      rw [hn] at this; cases this

theorem begin_spec (D1 : Def c sg "is_from" p_is_from b_is_from) (D2 : Def c sg "Company.noted" p_Company_noted b_Company_noted) (D : Def c sg "Company.begin" p_Company_begin b_Company_begin) (hC : Comp μ a C) (ok : C.Ok) (hz : C.kn.length < lim) {i : Int}
    (hg : C.go = true → hd = false ∧ X "Begun" μ) (hb : C.go = false → ¬ (1 ≤ i ∧ i ≤ 999999) → hd = false ∧ X "NoWork" μ)
    (h : C.go = false → 1 ≤ i ∧ i ≤ 999999 → ∀ μ' r, Comp μ' a { C with go := true, P := C.P.set 0 i, kn := C.kn ++ [.tup [sV "begun", .int i]] } → Off a.list μ μ' → μ' r = some (.list [.tup [sV "begun", .int i]]) → r ∉ a.list → μ r = none → Q (.ref r) μ') : SC c 2 hd "Company.begin" [.ref a.c, .int i] μ Q X := by
  refine call_in G D rfl ?_
  unfold b_Company_begin
  have h2 := hC.c
  have h3 := hC.cd
  have lo := ok.lo
  walk_at "ww"
  cases q : C.go with
  | true =>
    walk_at "ww"
    exact s_raise (hg q).1 (hg q).2
  | false =>
  walk_at "ww"
  refine is_from_spec G D1 ?_
  walk_at "ww"
  refine br_nd (fun q1 => ?_) (fun q1 => s_raise (hb q q1).1 (hb q q1).2)
  walk_at "ww"
  refine setA_in h2 h3 (by show 7 < 900; decide) ?_
  show wpSs _ _ _ _ _ (updM μ a.cd (.attrs (atts a true))) _ _
  have hC1 := hC.setGo true
  have o1 : Off a.list μ (updM μ a.cd (.attrs (atts a true))) := Off.upd (by simp [Ad.list]) _
  generalize updM μ a.cd (.attrs (atts a true)) = μ₁ at *
  clear h2 h3
  have h2 := hC1.c
  have h3 := hC1.cd
  have h4 := hC1.p
  walk_at "ww"
  refine setI_in h4 (by decide) (by rw [iL_length]; show 0 < (C.P.length : Int); omega) ?_
  rw [iL_set]
  have hC2 := hC1.setP (C.P.set 0 i)
  have o2 := o1.trans (Off.upd (μ := μ₁) (a := a.p) (l := a.list) (by simp [Ad.list]) (.list (iL (C.P.set 0 i))))
  show wpSs _ _ _ _ _ (updM μ₁ a.p (.list (iL (C.P.set 0 i)))) _ _
  generalize updM μ₁ a.p (.list (iL (C.P.set 0 i))) = μ₂ at *
  clear h2 h3 h4
  have h2 := hC2.c
  have h3 := hC2.cd
  walk_at "ww"
  refine meth_own "Company.noted" h2 h3 (by rfl) (by rfl) (by rfl) ?_
  walk_at "ww"
  refine newL_in (by show 1 ≤ 1048576; decide) fun n hn => ?_
  walk_at "ww"
  refine noted_spec G D2 (hC2.new hn _) mem_here (hC2.notin hn) (by show C.kn.length + 1 ≤ lim; omega) fun μ' hC' o' => ?_
  refine h q q1 μ' n hC' (o2.trans ((Off.new hn _).trans o')) (o' n _ mem_here (hC2.notin hn)) (hC2.notin hn) ?_
  cases z : μ n with
  | none => rfl
  | some o => have := o2 n o z (hC2.notin hn); rw [hn] at this; cases this

/-- one piece done -/
noncomputable def Co.one (C : Co) (i : Int) : Co := { C with P := C.P.set i.toNat (C.P.getD i.toNat 0 - 1), T := C.T.set i.toNat (C.T.getD i.toNat 0 + 1) }
omit G in
theorem Co.Ok.one (ok : C.Ok) (i : Int) : (C.one i).Ok := ⟨by simp [Co.one, ok.w], by simp [Co.one, ok.k], by simp [Co.one, ok.t], by simp [Co.one, ok.lo], by simp [Co.one, ok.hi]⟩
noncomputable def Co.doit (C : Co) (i : Int) : Co := let s := (C.one i).settle i; { s.1 with kn := s.1.kn ++ s.2 }
omit G in
theorem Co.settle_kn (C : Co) (i : Int) : (C.settle i).1.kn = C.kn := by
  unfold Co.settle; split
  · rfl
  · dsimp only; split <;> rfl
omit G in
theorem Co.settle_len (C : Co) (i : Int) : (C.settle i).2.length ≤ 1 := by
  unfold Co.settle; split
  · exact Nat.zero_le _
  · dsimp only; split <;> exact Nat.le_refl _
theorem do_spec (D1 : Def c sg "is_from" p_is_from b_is_from) (D2 : Def c sg "Company.need_hand" p_Company_need_hand b_Company_need_hand) (D3 : Def c sg "Company.is_in" p_Company_is_in b_Company_is_in) (D4 : Def c sg "Post.put" p_Post_put b_Post_put)
    (D5 : Def c sg "Company.settled" p_Company_settled b_Company_settled) (D6 : Def c sg "Company.noted" p_Company_noted b_Company_noted) (D : Def c sg "Company.do" p_Company_do b_Company_do) (hC : Comp μ a C) (ok : C.Ok) (hz : C.rl.length < lim) (hz' : C.kn.length < lim) {i : Int}
    (hn : ¬ (0 ≤ i ∧ i < C.P.length) → hd = false ∧ X "NoHand" μ) (hw : 0 ≤ i ∧ i < C.P.length → C.P.getD i.toNat 0 = 0 → hd = false ∧ X "NoWork" μ)
    (h : 0 ≤ i ∧ i < C.P.length → C.P.getD i.toNat 0 ≠ 0 → ∀ μ' r, Comp μ' a (C.doit i) → Off a.list μ μ' → μ' r = some (.list ((C.one i).settle i).2) → r ∉ a.list → μ r = none → Q (.ref r) μ') : SC c 3 hd "Company.do" [.ref a.c, .int i] μ Q X := by
  refine call_in G D rfl ?_
  unfold b_Company_do
  have h2 := hC.c
  have h3 := hC.cd
  have h4 := hC.p
  have h5 := hC.t
  have t0 := ok.t
  walk_at "ww"
  refine meth_own "Company.need_hand" h2 h3 (by rfl) (by rfl) (by rfl) ?_
  walk_at "ww"
  refine need_spec G D1 D2 hC (fun hi => ?_) hn
  obtain ⟨h0, h1⟩ := id hi
  walk_at "ww"
  refine sub_l h4 (idx_iL h0 h1) ?_
  walk_at "ww"
  refine br_d (fun q => s_raise (hw hi q).1 (hw hi q).2) (fun q => ?_)
  walk_at "ww"
  refine sub_l h4 (idx_iL h0 h1) ?_
  walk_at "ww"
  refine setI_in h4 h0 (by rw [iL_length]; exact h1) ?_
  rw [iL_set]
  have hC1 := hC.setP (C.P.set i.toNat (C.P.getD i.toNat 0 - 1))
  have o1 : Off a.list μ (updM μ a.p (.list (iL (C.P.set i.toNat (C.P.getD i.toNat 0 - 1))))) := Off.upd (by simp [Ad.list]) _
  generalize updM μ a.p (.list (iL (C.P.set i.toNat (C.P.getD i.toNat 0 - 1)))) = μ₁ at *
  clear h2 h3 h4 h5
  have h2 := hC1.c
  have h3 := hC1.cd
  have h5 := hC1.t
  have q6 : i < (C.T.length : Int) := by omega
  walk_at "ww"
  refine sub_l h5 (idx_iL h0 q6) ?_
  walk_at "ww"
  refine setI_in h5 h0 (by rw [iL_length]; exact q6) ?_
  rw [iL_set]
  have hC2 : Comp (updM μ₁ a.t (.list (iL (C.T.set i.toNat (C.T.getD i.toNat 0 + 1))))) a (C.one i) := hC1.setT (C.T.set i.toNat (C.T.getD i.toNat 0 + 1))
  have o2 := o1.trans (Off.upd (μ := μ₁) (a := a.t) (l := a.list) (by simp [Ad.list]) (.list (iL (C.T.set i.toNat (C.T.getD i.toNat 0 + 1)))))
  show wpSs _ _ _ _ _ (updM μ₁ a.t (.list (iL (C.T.set i.toNat (C.T.getD i.toNat 0 + 1))))) _ _
  generalize updM μ₁ a.t (.list (iL (C.T.set i.toNat (C.T.getD i.toNat 0 + 1)))) = μ₂ at *
  clear h2 h3 h5
  have h2 := hC2.c
  have h3 := hC2.cd
  walk_at "ww"
  refine meth_own "Company.noted" h2 h3 (by rfl) (by rfl) (by rfl) ?_
  walk_at "ww"
  refine meth_own "Company.settled" h2 h3 (by rfl) (by rfl) (by rfl) ?_
  walk_at "ww"
  refine settled_spec G D3 D4 D5 hC2 (ok.one i) hz h0 (by simpa [Co.one] using h1) fun μ₃ r hC3 o3 hr hnr hr0 => ?_
  walk_at "ww"
  have hl := Co.settle_len (C.one i) i
  have hk : ((C.one i).settle i).1.kn.length = C.kn.length := by rw [Co.settle_kn]; rfl
  refine sc_up (noted_spec G D6 hC3 hr hnr (by omega) fun μ₄ hC4 o4 => ?_) (by decide)
  refine h hi q μ₄ r hC4 (o2.trans (o3.trans o4)) (o4 r _ hr hnr) hnr ?_
  cases z : μ r with
  | none => rfl
  | some o => have := o2 r o z hnr; rw [hr0] at this; cases this

theorem post_init_spec (D : Def c sg "Post.__init__" p_Post___init__ b_Post___init__) {x d : Addr} (hx : μ x = some (.inst "Post" d)) (hd' : μ d = some (.attrs []))
    (h : ∀ n, μ n = none → Q .none (updM (updM μ n (.list [])) d (.attrs [("rows", .ref n)]))) : SC c 1 hd "Post.__init__" [.ref x] μ Q X := by
  refine call_in G D rfl ?_
  unfold b_Post___init__
  walk_at "ww"
  refine newL_in (by decide) fun n hn => ?_
  walk_at "ww"
  refine setA_in (Off.none (l := []) hn _ hx) (Off.none (l := []) hn _ hd') (by decide) ?_
  walk_at "ww"
  exact h n hn
end

set_option autoImplicit false

set_option linter.unusedVariables false
set_option linter.unusedSimpArgs false
open PySem

theorem init_step {μ : Mem} {c cd x n : Addr} {cl : String} {fs fs' : List (String × V)} {l l0 : List V} (hc : μ c = some (.inst cl cd)) (hcd : μ cd = some (.attrs fs)) (hx : μ x = none) (hn : updM μ x (.list l0) n = none) :
    ∃ μ', updM (updM (updM μ x (.list l0)) n (.list l)) cd (.attrs fs') = μ' ∧ μ' c = some (.inst cl cd) ∧ μ' cd = some (.attrs fs') ∧ μ' n = some (.list l) ∧ (∀ b o, μ b = some o → b ≠ cd → μ' b = some o) ∧ μ n = none ∧ n ≠ cd := by
  have ncd : n ≠ cd := fun q => by rw [q, Off.none (l := []) hx _ hcd] at hn; cases hn
  have ccd : c ≠ cd := fun q => by rw [q, hcd] at hc; cases hc
  have k : ∀ b o, μ b = some o → b ≠ cd → updM (updM (updM μ x (.list l0)) n (.list l)) cd (.attrs fs') b = some o := fun b o hb hne => by
    rw [updM_ne hne]; exact Off.none (l := []) hn _ (Off.none (l := []) hx _ hb)
  refine ⟨_, rfl, k c _ hc ccd, mem_here, by rw [updM_ne ncd]; exact mem_here, k, ?_, ncd⟩
  unfold updM at hn; split at hn
  · cases hn
  · exact hn

theorem init_one {sc : Bool → Sc} {hd : Bool} {X : String → Loc → Mem → Prop} {Q : Fl → Loc → Mem → Prop} {ρ : Loc} {μ : Mem} {r : List S} {e : E} {v : V} {nm : String} {p1 p2 p3 p4 p5 p6 : Pos} {x d : Addr} {fs : List (String × V)} {m : Int} {l : List V}
    (he : ∀ {μ : Mem} {Q : V → Mem → Prop}, Q v μ → wpE sg sc hd e ρ μ Q (xW X ρ)) (hs : ρ "self" = some (.ref x)) (hm : ρ "many" = some (.int m)) (m1 : 1 ≤ m ∧ m ≤ 60) (hl : (List.replicate m.toNat [v]).flatten = l) (hll : l.length ≤ m.toNat)
    (c0 : μ x = some (.inst "Company" d)) (d0 : μ d = some (.attrs fs)) (hz : fs.length < 900)
    (h : ∀ n μ', μ' x = some (.inst "Company" d) → μ' d = some (.attrs (putA nm (.ref n) fs)) → μ' n = some (.list l) → (∀ b o, μ b = some o → b ≠ d → μ' b = some o) → μ n = none → n ≠ d → wpSs sg sc hd r ρ μ' Q X) :
    wpSs sg sc hd (.setattr (.loc "self" p1) nm (.bin .Mult (.list [e] p2) (.loc "many" p3) p4) p5 p6 :: r) ρ μ Q X := by
  walk_at "ww"
  refine he ?_
  walk_at "ww"
  refine newL_in (by show 1 ≤ 1048576; decide) fun x1 hx1 => ?_
  walk_at "ww"
  refine rep_l mem_here (by omega) (by omega) (by show _ * 1 ≤ 1048576; omega) ?_
  rw [hl]
  refine newL_in (by show _ ≤ 1048576; omega) fun n1 hn1 => ?_
  walk_at "ww"
  refine setA_in (Off.none (l := []) hn1 _ (Off.none (l := []) hx1 _ c0)) (Off.none (l := []) hn1 _ (Off.none (l := []) hx1 _ d0)) hz ?_
  obtain ⟨μ1, e1, c1, d1, v1, k1, f1, z1⟩ := init_step (fs' := putA nm (.ref n1) _) c0 d0 hx1 hn1
  rw [e1]
  exact h n1 μ1 c1 d1 v1 k1 f1 z1
noncomputable def newCo (m : Int) : Co := ⟨List.replicate m.toNat 0, List.replicate m.toNat 0, List.replicate m.toNat none, List.replicate m.toNat 0, false, [], []⟩

section
variable {c : Ctx} (G : Good c sg)
include G
variable {hd : Bool} {μ : Mem} {Q : V → Mem → Prop} {X : String → Mem → Prop}

theorem init_spec (D1 : Def c sg "is_from" p_is_from b_is_from) (D2 : Def c sg "Post.__init__" p_Post___init__ b_Post___init__) (D : Def c sg "Company.__init__" p_Company___init__ b_Company___init__) {x d : Addr} (c0 : μ x = some (.inst "Company" d)) (d0 : μ d = some (.attrs [])) {m : Int}
    (hn : ¬ (1 ≤ m ∧ m ≤ 60) → hd = false ∧ X "NoCompany" μ)
    (h : 1 ≤ m ∧ m ≤ 60 → ∀ μ' a, a.c = x → a.cd = d → Comp μ' a (newCo m) → (∀ b o, μ b = some o → b ≠ d → μ' b = some o ∧ (b ≠ x → b ∉ a.list)) → Q .none μ') : SC c 2 hd "Company.__init__" [.ref x, .int m] μ Q X := by
  refine call_in G D rfl ?_
  unfold b_Company___init__
  walk_at "ww"
  refine is_from_spec G D1 ?_
  walk_at "ww"
  refine br_nd (fun hm => ?_) (fun q1 => s_raise (hn q1).1 (hn q1).2)
  replace h := h hm
  clear hn
  refine init_one (fun h => e_int h) rfl rfl hm (iL_rep _ _) (by rw [iL_length, List.length_replicate]; exact Nat.le_refl _) c0 d0 (by show 0 < 900; decide) fun n1 μ1 c1 d1 v1 k1 f1 z1 => ?_
  refine init_one (fun h => e_int h) rfl rfl hm (iL_rep _ _) (by rw [iL_length, List.length_replicate]; exact Nat.le_refl _) c1 d1 (by show 1 < 900; decide) fun n2 μ2 c2 d2 v2 k2 f2 z2 => ?_
  refine init_one (fun h => e_none h) rfl rfl hm (oL_rep _) (by rw [oL_length, List.length_replicate]; exact Nat.le_refl _) c2 d2 (by show 2 < 900; decide) fun n3 μ3 c3 d3 v3 k3 f3 z3 => ?_
  refine init_one (fun h => e_int h) rfl rfl hm (iL_rep _ _) (by rw [iL_length, List.length_replicate]; exact Nat.le_refl _) c3 d3 (by show 3 < 900; decide) fun n4 μ4 c4 d4 v4 k4 f4 z4 => ?_
  walk_at "ww"
  intro ps pd hps hpd hne
  have e5 : μ4 d = some (.attrs (putA "tallies" (.ref n4) (putA "wakers" (.ref n3) (putA "waits" (.ref n2) (putA "pieces" (.ref n1) []))))) := d4
  show SC c 1 hd "Post.__init__" [.ref ps] (updM (updM μ4 pd (.attrs [])) ps (.inst "Post" pd)) _ _
  refine post_init_spec G D2 (d := pd) mem_here (by rw [updM_ne hne]; exact mem_here) fun n5 hn5 => ⟨trivial, ?_⟩
  obtain ⟨μ5, e5', p5, pd5, v5, k5, f5⟩ : ∃ μ5, updM (updM (updM (updM μ4 pd (.attrs [])) ps (.inst "Post" pd)) n5 (.list [])) pd (.attrs [("rows", .ref n5)]) = μ5 ∧ μ5 ps = some (.inst "Post" pd) ∧ μ5 pd = some (.attrs [("rows", .ref n5)]) ∧ μ5 n5 = some (.list []) ∧ (∀ b o, μ4 b = some o → μ5 b = some o) ∧ (μ4 n5 = none ∧ n5 ≠ ps ∧ n5 ≠ pd) := by
    have q1 : n5 ≠ ps := fun q => by rw [q, mem_here] at hn5; cases hn5
    have q2 : n5 ≠ pd := fun q => by rw [q, updM_ne hne, mem_here] at hn5; cases hn5
    have q3 : μ4 n5 = none := by rw [updM_ne q1, updM_ne q2] at hn5; exact hn5
    refine ⟨_, rfl, ?_, mem_here, ?_, fun b o hb => ?_, q3, q1, q2⟩
    · rw [updM_ne (Ne.symm hne), updM_ne (Ne.symm q1)]; exact mem_here
    · rw [updM_ne q2]; exact mem_here
    · have b1 : b ≠ pd := fun q => by rw [q, hpd] at hb; cases hb
      have b2 : b ≠ ps := fun q => by rw [q, hps] at hb; cases hb
      have b3 : b ≠ n5 := fun q => by rw [q, q3] at hb; cases hb
      rw [updM_ne b1, updM_ne b3, updM_ne b2, updM_ne b1]; exact hb
  rw [e5']
  have c5 := k5 _ _ c4
  have d5 := k5 _ _ d4
  walk_at "ww"
  refine setA_in c5 d5 (by show 4 < 900; decide) ?_
  obtain ⟨μ6, e6, c6, d6, k6⟩ : ∃ μ6, updM μ5 d (.attrs (putA "post" (.ref ps) (putA "tallies" (.ref n4) (putA "wakers" (.ref n3) (putA "waits" (.ref n2) (putA "pieces" (.ref n1) [])))))) = μ6 ∧ μ6 x = some (.inst "Company" d) ∧ μ6 d = some (.attrs (putA "post" (.ref ps) (putA "tallies" (.ref n4) (putA "wakers" (.ref n3) (putA "waits" (.ref n2) (putA "pieces" (.ref n1) [])))))) ∧ (∀ b o, μ5 b = some o → b ≠ d → μ6 b = some o) := by
    have q : x ≠ d := fun q => by rw [q, d5] at c5; cases c5
    exact ⟨_, rfl, by rw [updM_ne q]; exact c5, mem_here, fun b o hb hq => by rw [updM_ne hq]; exact hb⟩
  rw [e6]
  walk_at "ww"
  refine setA_in c6 d6 (by show 5 < 900; decide) ?_
  obtain ⟨μ7, e7, c7, d7, k7⟩ : ∃ μ7, updM μ6 d (.attrs (putA "going" (.bool false) (putA "post" (.ref ps) (putA "tallies" (.ref n4) (putA "wakers" (.ref n3) (putA "waits" (.ref n2) (putA "pieces" (.ref n1) []))))))) = μ7 ∧ μ7 x = some (.inst "Company" d) ∧ μ7 d = some (.attrs (putA "going" (.bool false) (putA "post" (.ref ps) (putA "tallies" (.ref n4) (putA "wakers" (.ref n3) (putA "waits" (.ref n2) (putA "pieces" (.ref n1) []))))))) ∧ (∀ b o, μ6 b = some o → b ≠ d → μ7 b = some o) := by
    have q : x ≠ d := fun q => by rw [q, d6] at c6; cases c6
    exact ⟨_, rfl, by rw [updM_ne q]; exact c6, mem_here, fun b o hb hq => by rw [updM_ne hq]; exact hb⟩
  rw [e7]
  walk_at "ww"
  refine newL_in (by decide) fun n8 hn8 => ?_
  walk_at "ww"
  refine setA_in (Off.none (l := []) hn8 _ c7) (Off.none (l := []) hn8 _ d7) (by show 6 < 900; decide) ?_
  obtain ⟨μ8, e8, c8, d8, v8, k8⟩ : ∃ μ8, updM (updM μ7 n8 (.list [])) d (.attrs (putA "known" (.ref n8) (putA "going" (.bool false) (putA "post" (.ref ps) (putA "tallies" (.ref n4) (putA "wakers" (.ref n3) (putA "waits" (.ref n2) (putA "pieces" (.ref n1) [])))))))) = μ8 ∧ μ8 x = some (.inst "Company" d) ∧ μ8 d = some (.attrs (putA "known" (.ref n8) (putA "going" (.bool false) (putA "post" (.ref ps) (putA "tallies" (.ref n4) (putA "wakers" (.ref n3) (putA "waits" (.ref n2) (putA "pieces" (.ref n1) [])))))))) ∧ μ8 n8 = some (.list []) ∧ (∀ b o, μ7 b = some o → b ≠ d → μ8 b = some o) := by
    have q : x ≠ d := fun q => by rw [q, d7] at c7; cases c7
    have q8 : n8 ≠ d := fun q => by rw [q, d7] at hn8; cases hn8
    exact ⟨_, rfl, by rw [updM_ne q]; exact Off.none (l := []) hn8 _ c7, mem_here, by rw [updM_ne q8]; exact mem_here, fun b o hb hq => by rw [updM_ne hq]; exact Off.none (l := []) hn8 _ hb⟩
  rw [e8]
  walk_at "ww"
  -- where each address stands
  have up1 : ∀ b o, μ b = some o → b ≠ d → μ8 b = some o := fun b o hb hq => k8 _ _ (k7 _ _ (k6 _ _ (k5 _ _ (k4 _ _ (k3 _ _ (k2 _ _ (k1 _ _ hb hq) hq) hq) hq)) hq) hq) hq
  have up2 : ∀ b o, μ1 b = some o → b ≠ d → μ8 b = some o := fun b o hb hq => k8 _ _ (k7 _ _ (k6 _ _ (k5 _ _ (k4 _ _ (k3 _ _ (k2 _ _ hb hq) hq) hq)) hq) hq) hq
  have up3 : ∀ b o, μ2 b = some o → b ≠ d → μ8 b = some o := fun b o hb hq => k8 _ _ (k7 _ _ (k6 _ _ (k5 _ _ (k4 _ _ (k3 _ _ hb hq) hq)) hq) hq) hq
  have up4 : ∀ b o, μ3 b = some o → b ≠ d → μ8 b = some o := fun b o hb hq => k8 _ _ (k7 _ _ (k6 _ _ (k5 _ _ (k4 _ _ hb hq)) hq) hq) hq
  have up5 : ∀ b o, μ4 b = some o → b ≠ d → μ8 b = some o := fun b o hb hq => k8 _ _ (k7 _ _ (k6 _ _ (k5 _ _ hb) hq) hq) hq
  have up6 : ∀ b o, μ5 b = some o → b ≠ d → μ8 b = some o := fun b o hb hq => k8 _ _ (k7 _ _ (k6 _ _ hb hq) hq) hq
  have zp : ps ≠ d := fun q => by rw [q, d4] at hps; cases hps
  have zpd : pd ≠ d := fun q => by rw [q, d4] at hpd; cases hpd
  have z5 : n5 ≠ d := fun q => by rw [q, d4] at f5; cases f5.1
  have zx : x ≠ d := fun q => by rw [q, d0] at c0; cases c0
  have ne : ∀ {m : Mem} {u v : Addr} {o : O}, m u = some o → m v = none → u ≠ v := fun h1 h2 q => by rw [q, h2] at h1; cases h1
  have t8 : ∀ b o, μ5 b = some o → b ≠ d → b ≠ n8 := fun b o hb hq => ne (k7 _ _ (k6 _ _ hb hq) hq) hn8
  have t4 : ∀ b o, μ4 b = some o → b ≠ d → b ≠ ps ∧ b ≠ pd ∧ b ≠ n5 ∧ b ≠ n8 := fun b o hb hq => ⟨ne hb hps, ne hb hpd, ne hb f5.1, t8 b o (k5 _ _ hb) hq⟩
  have t3 : ∀ b o, μ3 b = some o → b ≠ d → b ≠ n4 ∧ b ≠ ps ∧ b ≠ pd ∧ b ≠ n5 ∧ b ≠ n8 := fun b o hb hq => ⟨ne hb f4, t4 b o (k4 _ _ hb hq) hq⟩
  have t2 : ∀ b o, μ2 b = some o → b ≠ d → b ≠ n3 ∧ b ≠ n4 ∧ b ≠ ps ∧ b ≠ pd ∧ b ≠ n5 ∧ b ≠ n8 := fun b o hb hq => ⟨ne hb f3, t3 b o (k3 _ _ hb hq) hq⟩
  have t1 : ∀ b o, μ1 b = some o → b ≠ d → b ≠ n2 ∧ b ≠ n3 ∧ b ≠ n4 ∧ b ≠ ps ∧ b ≠ pd ∧ b ≠ n5 ∧ b ≠ n8 := fun b o hb hq => ⟨ne hb f2, t2 b o (k2 _ _ hb hq) hq⟩
  have t0 : ∀ b o, μ b = some o → b ≠ d → b ≠ n1 ∧ b ≠ n2 ∧ b ≠ n3 ∧ b ≠ n4 ∧ b ≠ ps ∧ b ≠ pd ∧ b ≠ n5 ∧ b ≠ n8 := fun b o hb hq => ⟨ne hb f1, t1 b o (k1 _ _ hb hq) hq⟩
  have z8 : n8 ≠ d := fun q => by rw [q, d7] at hn8; cases hn8
  refine h μ8 ⟨x, d, n1, n2, n3, n4, ps, pd, n5, n8⟩ rfl rfl ⟨?_, c8, d8, up2 _ _ v1 z1, up3 _ _ v2 z2, up4 _ _ v3 z3, up5 _ _ v4 z4, up6 _ _ p5 zp, up6 _ _ pd5 zpd, up6 _ _ v5 z5, v8⟩ (fun b o hb hq => ⟨up1 b o hb hq, fun hx => ?_⟩)
  · have r0 := t0 x _ c0 zx
    have r1 := t1 n1 _ v1 z1
    have r2 := t2 n2 _ v2 z2
    have r3 := t3 n3 _ v3 z3
    have r4 := t4 n4 _ v4 z4
    have r5 := t8 ps _ p5 zp
    have r6 := t8 pd _ pd5 zpd
    have r7 := t8 n5 _ v5 z5
    simp only [Ad.list, List.nodup_cons, List.mem_cons, List.not_mem_nil, or_false, not_or, List.nodup_nil, not_false_eq_true, and_true]
    exact ⟨⟨zx, r0⟩, ⟨Ne.symm z1, Ne.symm z2, Ne.symm z3, Ne.symm z4, Ne.symm zp, Ne.symm zpd, Ne.symm z5, Ne.symm z8⟩, r1, r2, r3, r4, ⟨Ne.symm hne, Ne.symm f5.2.1, r5⟩, ⟨Ne.symm f5.2.2, r6⟩, r7⟩
  · have r := t0 b o hb hq
    simp only [Ad.list, List.mem_cons, List.not_mem_nil, or_false, not_or]
    exact ⟨hx, hq, r⟩
end

set_option autoImplicit false

set_option linter.unusedVariables false
set_option linter.unusedSimpArgs false
open PySem

/-- plain data, of some depth -/
noncomputable def plain : Nat → V → Bool
  | _, .none => true
  | _, .bool _ => true
  | _, .int _ => true
  | _, .str s => PyData.strOk s
  | n + 1, .tup l => l.all (plain n) && decide (l.length ≤ lim)
  | _, _ => false

theorem sub_f {ns : List Int} {i : Int} {μ : Mem} {Q : V → Mem → Prop} (h0 : 0 ≤ i) (h1 : i < ns.length) (h : Q (.int (ns.getD i.toNat 0)) μ) : subK Q (.frz ns) (.int i) μ := by
  unfold subK subO
  simp only [h0, if_true]
  rw [List.getElem?_eq_getElem (by omega)]
  rw [List.getD_eq_getElem?_getD, List.getElem?_eq_getElem (by omega)] at h
  exact h
theorem eqv_int (i j : Int) : PyData.eqv (.int i) (.int j) = decide (i = j) := rfl
theorem eqv_str (i j : Str) : PyData.eqv (.str i) (.str j) = decide (i = j) := rfl
theorem eqv_list (i j : List PyData) : PyData.eqv (.list i) (.list j) = PyData.eqvAll i j := rfl
theorem eqv_tup (i j : List PyData) : PyData.eqv (.tuple i) (.tuple j) = PyData.eqvAll i j := rfl
theorem eqvAll_cons (x y : PyData) (i j : List PyData) : PyData.eqvAll (x :: i) (y :: j) = (PyData.eqv x y && PyData.eqvAll i j) := rfl
theorem deq_str {s : Str} {μ : Mem} (h : PyData.strOk s = true) : deq μ (.str s) (.str s) = some true := by
  simp only [deq, rd, h, if_true, eqv_str, decide_true]
theorem deq_bool {b : Bool} {μ : Mem} : deq μ (.bool b) (.bool b) = some true := by
  cases b <;> rfl
theorem isi_list {x : Addr} {l : List V} {μ : Mem} {n : String} {b : Bool} {Q : V → Mem → Prop} (hx : μ x = some (.list l)) (hn : n = "int" ∨ n = "bool" ∨ n = "str" ∨ n = "tuple" ∨ n = "list") (e : (("list" == n) || (("list" == "bool") && n == "int")) = b) (h : Q (.bool b) μ) : isiW Q (.ty n) (.ref x) μ := by
  refine isi_in (b := b) ?_ h
  unfold isiO tyO
  simp only [hx, hn, if_true, Option.map_some, e]

section
variable {c : Ctx} (G : Good c sg)
include G
variable {hd : Bool} {μ : Mem} {Q : V → Mem → Prop} {X : String → Mem → Prop}

theorem cell_at_spec (D : Def c sg "_law_cell_at" p__law_cell_at b__law_cell_at) {ns : List Int} {k : Int} (h0 : 0 ≤ k) (h : Q (.int (ns.getD k.toNat 0)) μ) : SC c 1 hd "_law_cell_at" [.frz ns, .int k] μ Q X := by
  refine call_in G D rfl ?_
  unfold b__law_cell_at
  walk_at "ww"
  refine br_d (fun hk => ?_) (fun hk => ?_)
  · walk_at "ww"
    refine sub_f h0 hk ?_
    walk_at "ww"
    exact h
  · walk_at "ww"
    rw [List.getD_eq_getElem?_getD, List.getElem?_eq_none_iff.mpr (by omega)] at h
    exact h

theorem mixed_spec (D : Def c sg "_law_mixed" p__law_mixed b__law_mixed) {ns : List Int} {k : Int} (h : ∀ n, 0 ≤ n → n < 2147483647 → Q (.int n) μ) : SC c 1 hd "_law_mixed" [.frz ns, .int k] μ Q X := by
  refine call_in G D rfl ?_
  unfold b__law_mixed
  have tail : ∀ x ρ, ρ "_law_cell" = some (V.int x) → ρ "_law_k" = some (V.int k) → wpSs sg (SC c 0) hd (b__law_mixed.drop 2) ρ μ (fq Q) (fx X) := by
    intro x ρ r1 r2
    unfold b__law_mixed
    simp only [List.drop_succ_cons, List.drop_zero]
    walk_at "ww"
    refine mul_i (.inl (by decide)) ?_
    walk_at "ww"
    refine mul_i (.inr (by decide)) ?_
    walk_at "ww"
    refine mod_i (by decide) ?_
    walk_at "ww"
    have q1 := Int.emod_nonneg ((x + 7919 * k) * 48271) (show (2147483647 : Int) ≠ 0 by decide)
    have q2 := Int.emod_lt_of_pos ((x + 7919 * k) * 48271) (show (0 : Int) < 2147483647 by decide)
    refine mul_i (.inl (by omega)) ?_
    walk_at "ww"
    refine mul_i (.inl (by decide)) ?_
    walk_at "ww"
    refine mod_i (by decide) ?_
    walk_at "ww"
    exact h _ (Int.emod_nonneg _ (by decide)) (Int.emod_lt_of_pos _ (by decide))
  walk_at "ww"
  refine br_d (fun hk => ?_) (fun hk => ?_)
  · walk_at "ww"
    refine mod_i hk ?_
    walk_at "ww"
    refine sub_f (Int.emod_nonneg _ (by omega)) (Int.emod_lt_of_pos _ hk) ?_
    walk_at "w"
    walk_at "w"
    walk_at "w"
    refine tail _ _ loc_here ?_
    rfl
  · exact tail 0 _ loc_here rfl

theorem whole_spec (D : Def c sg "_law_whole" p__law_whole b__law_whole) {i : Int} (h : Q (.bool true) μ) : SC c 1 hd "_law_whole" [.int i] μ Q X := by
  refine call_in G D rfl ?_
  unfold b__law_whole
  walk_at "ww"
  exact h

theorem many_by_spec (D : Def c sg "_law_many_by" p__law_many_by b__law_many_by) {i : Int} (h : ∀ m, 1 ≤ m → m ≤ 60 → Q (.int m) μ) : SC c 1 hd "_law_many_by" [.int i] μ Q X := by
  refine call_in G D rfl ?_
  unfold b__law_many_by
  walk_at "ww"
  refine mod_i (by decide) ?_
  walk_at "ww"
  refine br_d (fun hk => ?_) (fun hk => ?_)
  all_goals
    walk_at "ww"
    refine div_i (by decide) (by decide) ?_
    walk_at "ww"
    refine mod_i (by decide) ?_
    walk_at "ww"
    exact h _ (by omega) (by omega)
end

set_option autoImplicit false

set_option linter.unusedVariables false
set_option linter.unusedSimpArgs false
open PySem

theorem idx_some {l : List V} {i : Int} (h0 : 0 ≤ i) (h1 : i < l.length) : ∃ v, idx l i = some v ∧ v ∈ l := by
  unfold idx
  rw [if_pos h0, List.getElem?_eq_getElem (by omega)]
  exact ⟨_, rfl, List.getElem_mem _⟩

section
variable {c : Ctx} (G : Good c sg)
include G
variable {μ : Mem} {Q : V → Mem → Prop} {X : String → Mem → Prop}

theorem alike_leaf (D1 : Def c sg "_law_whole" p__law_whole b__law_whole) (D : Def c sg "_law_alike" p__law_alike b__law_alike) {v : V} (hv : plain 0 v = true) (h : Q (.bool true) μ) : SC c 2 false "_law_alike" [v, v] μ Q X := by
  refine call_in G D rfl ?_
  unfold b__law_alike
  cases v with
  | none =>
    walk_at "ww"
    refine cmp_in (r := true) (by rfl) ?_
    walk_at "ww"
    refine cmp_in (r := true) (by rfl) ?_
    walk_at "ww"
    exact h
  | bool b =>
    walk_at "ww"
    refine cmp_in (r := false) (by rfl) ?_
    walk_at "ww"
    refine cmp_in (r := true) (deq_bool (μ := μ)) ?_
    walk_at "ww"
    exact h
  | int i =>
    walk_at "ww"
    refine cmp_in (r := false) (by rfl) ?_
    walk_at "ww"
    refine whole_spec G D1 ?_
    walk_at "ww"
    simpa using h
  | str s =>
    walk_at "ww"
    refine cmp_in (r := false) (by rfl) ?_
    walk_at "ww"
    refine cmp_in (r := true) (deq_str (by simpa [plain] using hv)) ?_
    walk_at "ww"
    exact h
  | tup l => cases hv
  | ref a => cases hv
  | rng a b s => cases hv
  | exc x => cases hv
  | frz ns => cases hv
  | dk _ _ _ => cases hv

theorem alike_tup (D1 : Def c sg "_law_whole" p__law_whole b__law_whole) (D : Def c sg "_law_alike" p__law_alike b__law_alike) {d : Nat} {l : List V} (hz : l.length ≤ lim) (ih : ∀ v ∈ l, ∀ {Q : V → Mem → Prop} {X : String → Mem → Prop}, Q (.bool true) μ → SC c d false "_law_alike" [v, v] μ Q X) (h : Q (.bool true) μ) : SC c (d + 1) false "_law_alike" [.tup l, .tup l] μ Q X := by
  refine call_in G D rfl ?_
  unfold b__law_alike
  walk_at "ww"
  refine cmp_in (r := false) (by rfl) ?_
  walk_at "ww"
  refine br_ndt rfl ?_
  refine s_for rfl ?_
  walk_at "ww"
  have hz' : (l.length : Int) ≤ 1048576 := Int.ofNat_le.mpr hz
  refine rng1 hz' (by omega) ?_
  refine for_rng (fun i ρ μ' => ρ "_law_found" = some (.tup l) ∧ ρ "_law_due" = some (.tup l) ∧ μ' = μ) ⟨by rfl, by rfl, rfl⟩ (fun i ρ μ' h0 h1 hi => ?_) (fun ρ μ' hi => ?_)
  · obtain ⟨r1, r2, rfl⟩ := hi
    obtain ⟨v, hv, hm⟩ := idx_some h0 h1
    walk_at "ww"
    refine sub_t hv ?_
    walk_at "ww"
    refine sub_t hv ?_
    walk_at "ww"
    refine ih v hm ?_
    walk_at "ww"
    exact ⟨by rw [updL_at, if_neg (by decide)]; exact r1, by rw [updL_at, if_neg (by decide)]; exact r2, rfl⟩
  · obtain ⟨r1, r2, rfl⟩ := hi
    walk_at "ww"
    exact h

theorem alike_plain (D1 : Def c sg "_law_whole" p__law_whole b__law_whole) (D : Def c sg "_law_alike" p__law_alike b__law_alike) : ∀ (n : Nat) {v : V} {Q : V → Mem → Prop} {X : String → Mem → Prop}, plain n v = true → Q (.bool true) μ → SC c (n + 2) false "_law_alike" [v, v] μ Q X
  | 0, v, Q, X, hv, h => alike_leaf G D1 D hv h
  | n + 1, v, Q, X, hv, h => by
    by_cases hl : plain 0 v = true
    · exact sc_up (alike_leaf G D1 D hl h) (by omega)
    · cases v with
      | tup l =>
        simp only [plain, Bool.and_eq_true, List.all_eq_true, decide_eq_true_eq] at hv
        exact alike_tup G D1 D hv.2 (fun v hm => alike_plain D1 D n (hv.1 v hm)) h
      | _ => first | exact (hl rfl).elim | exact (hl hv).elim | cases hv

theorem alike_list (D1 : Def c sg "_law_whole" p__law_whole b__law_whole) (D : Def c sg "_law_alike" p__law_alike b__law_alike) {n : Nat} {l : List V} {x y : Addr} (hx : μ x = some (.list l)) (hy : μ y = some (.list l)) (hz : l.length ≤ lim) (hp : ∀ v ∈ l, plain n v = true) (h : Q (.bool true) μ) : SC c (n + 3) false "_law_alike" [.ref x, .ref y] μ Q X := by
  refine call_in G D rfl ?_
  unfold b__law_alike
  walk_at "ww"
  refine cmp_in (r := false) (by rfl) ?_
  walk_at "ww"
  refine isi_list hy (by simp) (b := false) (by rfl) ?_
  walk_at "ww"
  refine isi_list hy (by simp) (b := false) (by rfl) ?_
  walk_at "ww"
  refine isi_list hy (by simp) (b := false) (by rfl) ?_
  walk_at "ww"
  refine isi_list hy (by simp) (b := false) (by rfl) ?_
  walk_at "ww"
  refine isi_list hy (by simp) (b := true) (by rfl) ?_
  walk_at "ww"
  refine isi_list hx (by simp) (b := true) (by rfl) ?_
  walk_at "ww"
  refine br_ndt rfl ?_
  refine s_for rfl ?_
  walk_at "ww"
  have hz' : (l.length : Int) ≤ 1048576 := Int.ofNat_le.mpr hz
  refine rng1 hz' (by omega) ?_
  refine for_rng (fun i ρ μ' => ρ "_law_found" = some (.ref x) ∧ ρ "_law_due" = some (.ref y) ∧ μ' = μ) ⟨by rfl, by rfl, rfl⟩ (fun i ρ μ' h0 h1 hi => ?_) (fun ρ μ' hi => ?_)
  · obtain ⟨r1, r2, rfl⟩ := hi
    obtain ⟨v, hv, hm⟩ := idx_some h0 h1
    walk_at "ww"
    refine sub_l hx hv ?_
    walk_at "ww"
    refine sub_l hy hv ?_
    walk_at "ww"
    refine alike_plain G D1 D n (hp v hm) ?_
    walk_at "ww"
    exact ⟨by rw [updL_at, if_neg (by decide)]; exact r1, by rw [updL_at, if_neg (by decide)]; exact r2, rfl⟩
  · obtain ⟨r1, r2, rfl⟩ := hi
    walk_at "ww"
    exact h
end

set_option autoImplicit false

set_option linter.unusedVariables false
set_option linter.unusedSimpArgs false
open PySem

noncomputable def letter (h o p : Int) : V := .tup [sV "letter", .int h, .int o, .int p]
noncomputable def Co.sent (C : Co) (h o p : Int) : Co := { C with P := C.P.set h.toNat (C.P.getD h.toNat 0 - p), W := C.W.set h.toNat (C.W.getD h.toNat 0 + 1), rl := C.rl ++ [letter h o p], kn := C.kn ++ [letter h o p] }

section
variable {c : Ctx} (G : Good c sg)
include G
variable {hd : Bool} {μ : Mem} {Q : V → Mem → Prop} {X : String → Mem → Prop} {a : Ad} {C : Co}

theorem hand_on_spec (D1 : Def c sg "is_from" p_is_from b_is_from) (D2 : Def c sg "Company.need_hand" p_Company_need_hand b_Company_need_hand) (D3 : Def c sg "Post.put" p_Post_put b_Post_put) (D4 : Def c sg "Company.noted" p_Company_noted b_Company_noted) (D : Def c sg "Company.hand_on" p_Company_hand_on b_Company_hand_on)
    (hC : Comp μ a C) (ok : C.Ok) (hz : C.kn.length < lim) (hy : C.rl.length < lim) {h o p : Int}
    (hh : ¬ ((0 ≤ h ∧ h < C.P.length) ∧ (0 ≤ o ∧ o < C.P.length)) → hd = false ∧ X "NoHand" μ)
    (hw : (0 ≤ h ∧ h < C.P.length) → (0 ≤ o ∧ o < C.P.length) → ¬ (1 ≤ p ∧ p ≤ C.P.getD h.toNat 0) → hd = false ∧ X "NoWork" μ)
    (hs : (0 ≤ h ∧ h < C.P.length) → (0 ≤ o ∧ o < C.P.length) → 1 ≤ p ∧ p ≤ C.P.getD h.toNat 0 → ∀ μ' r, Comp μ' a (C.sent h o p) → Off a.list μ μ' → μ' r = some (.list [letter h o p]) → r ∉ a.list → μ r = none → Q (.ref r) μ') :
    SC c 3 hd "Company.hand_on" [.ref a.c, .int h, .int o, .int p] μ Q X := by
  refine call_in G D rfl ?_
  unfold b_Company_hand_on
  have h2 := hC.c
  have h3 := hC.cd
  have h4 := hC.p
  walk_at "ww"
  refine meth_own "Company.need_hand" h2 h3 (by rfl) (by rfl) (by rfl) ?_
  walk_at "ww"
  refine need_spec G D1 D2 hC (fun i1 => ?_) (fun q => hh fun z => q z.1)
  walk_at "ww"
  refine meth_own "Company.need_hand" h2 h3 (by rfl) (by rfl) (by rfl) ?_
  walk_at "ww"
  refine need_spec G D1 D2 hC (fun i2 => ?_) (fun q => hh fun z => q z.2)
  walk_at "ww"
  refine sub_l h4 (idx_iL i1.1 i1.2) ?_
  walk_at "ww"
  refine sc_up (is_from_spec G D1 ?_) (by decide)
  walk_at "ww"
  refine br_nd (fun q1 => ?_) (fun q1 => s_raise (hw i1 i2 q1).1 (hw i1 i2 q1).2)
  walk_at "ww"
  refine sub_l h4 (idx_iL i1.1 i1.2) ?_
  walk_at "ww"
  refine setI_in h4 i1.1 (by rw [iL_length]; exact i1.2) ?_
  rw [iL_set]
  have hC1 := hC.setP (C.P.set h.toNat (C.P.getD h.toNat 0 - p))
  have o1 : Off a.list μ (updM μ a.p (.list (iL (C.P.set h.toNat (C.P.getD h.toNat 0 - p))))) := Off.upd (by simp [Ad.list]) _
  generalize updM μ a.p (.list (iL (C.P.set h.toNat (C.P.getD h.toNat 0 - p)))) = μ₁ at hC1 o1 ⊢
  clear h2 h3 h4
  have h2 := hC1.c
  have h3 := hC1.cd
  have h4 := hC1.w
  walk_at "ww"
  refine sub_l h4 (idx_iL i1.1 (by show h < (C.W.length : Int); rw [ok.w]; exact i1.2)) ?_
  walk_at "ww"
  refine setI_in h4 i1.1 (by rw [iL_length]; show h < (C.W.length : Int); rw [ok.w]; exact i1.2) ?_
  rw [iL_set]
  have hC2 := hC1.setW (C.W.set h.toNat (C.W.getD h.toNat 0 + 1))
  have o2 := o1.trans (Off.upd (μ := μ₁) (a := a.w) (l := a.list) (by simp [Ad.list]) (.list (iL (C.W.set h.toNat (C.W.getD h.toNat 0 + 1)))))
  show wpSs _ _ _ _ _ (updM μ₁ a.w (.list (iL (C.W.set h.toNat (C.W.getD h.toNat 0 + 1))))) _ _
  generalize updM μ₁ a.w (.list (iL (C.W.set h.toNat (C.W.getD h.toNat 0 + 1)))) = μ₂ at hC2 o2 ⊢
  clear h2 h3 h4 hC1 o1
  have h2 := hC2.c
  have h3 := hC2.cd
  have h5 := hC2.ps
  have h6 := hC2.pd
  walk_at "ww"
  refine meth_own "Post.put" h5 h6 (by rfl) (by rfl) (by rfl) ?_
  walk_at "ww"
  refine sc_up (put_spec G D3 hC2 hy fun μ₃ hC3 o3 => ?_) (by decide)
  clear h2 h3 h5 h6
  have h2 := hC3.c
  have h3 := hC3.cd
  walk_at "ww"
  refine meth_own "Company.noted" h2 h3 (by rfl) (by rfl) (by rfl) ?_
  walk_at "ww"
  refine newL_in (by show 1 ≤ 1048576; decide) fun n hn => ?_
  walk_at "ww"
  refine sc_up (noted_spec G D4 (hC3.new hn _) mem_here (hC3.notin hn) (by show C.kn.length + 1 ≤ lim; omega) fun μ' hC' o' => ?_) (by decide)
  refine hs i1 i2 q1 μ' n hC' (o2.trans (o3.trans ((Off.new hn _).trans o'))) (o' n _ mem_here (hC3.notin hn)) (hC3.notin hn) ?_
  cases z : μ n with
  | none => rfl
  | some o => have := (o2.trans o3) n o z (hC3.notin hn); rw [hn] at this; cases this
end

set_option autoImplicit false

set_option linter.unusedVariables false
set_option linter.unusedSimpArgs false
open PySem

noncomputable def Ext (μ μ' : Mem) : Prop := ∀ b o, μ b = some o → μ' b = some o
theorem Ext.refl (μ : Mem) : Ext μ μ := fun _ _ h => h
theorem Ext.trans {μ₁ μ₂ μ₃ : Mem} (x : Ext μ₁ μ₂) (y : Ext μ₂ μ₃) : Ext μ₁ μ₃ := fun b o h => y b o (x b o h)
theorem Ext.new {μ : Mem} {n : Addr} (h : μ n = none) (o : O) : Ext μ (updM μ n o) := fun b o' hb => by
  rw [updM_ne fun q => by rw [q, h] at hb; cases hb]; exact hb
theorem Comp.ext {μ μ' : Mem} {a : Ad} {C : Co} (h : Comp μ a C) (k : Ext μ μ') : Comp μ' a C := h.mono fun b o hb _ => k b o hb
theorem ne_some {μ : Mem} {b n : Addr} {o : O} (h : μ n = none) (hb : μ b = some o) : b ≠ n := fun q => by rw [q, h] at hb; cases hb
/-- what is not the company's stays, and stays outside -/
noncomputable def Keep (a a' : Ad) (μ μ' : Mem) : Prop := ∀ b o, μ b = some o → b ∉ a.list → μ' b = some o ∧ b ∉ a'.list
theorem Keep.of_off {a : Ad} {μ μ' : Mem} (h : Off a.list μ μ') : Keep a a μ μ' := fun b o hb hn => ⟨h b o hb hn, hn⟩
theorem Keep.trans {a a' a'' : Ad} {μ μ' μ'' : Mem} (x : Keep a a' μ μ') (y : Keep a' a'' μ' μ'') : Keep a a'' μ μ'' := fun b o hb hn => y b o (x b o hb hn).1 (x b o hb hn).2

noncomputable def Co.came (C : Co) (s n p : Int) : Co × List V :=
  if C.inB n then ({ C with P := C.P.set n.toNat (C.P.getD n.toNat 0 + p), rl := C.rl ++ [.tup [sV "answer", .int n, .int s, .int 0]] }, [.tup [sV "answer", .int n, .int s, .int 0]])
  else ({ C with P := C.P.set n.toNat (C.P.getD n.toNat 0 + p), K := C.K.set n.toNat (some s) }, [.tup [sV "woken", .int n, .int s]])
noncomputable def Co.back (C : Co) (t y : Int) : Co := { C with W := C.W.set t.toNat (C.W.getD t.toNat 0 - 1), T := C.T.set t.toNat (C.T.getD t.toNat 0 + y) }
noncomputable def Co.note (x : Co × List V) : Co := { x.1 with kn := x.1.kn ++ x.2 }

section
variable {c : Ctx} (G : Good c sg)
include G
variable {hd : Bool} {μ : Mem} {Q : V → Mem → Prop} {X : String → Mem → Prop} {a : Ad} {C : Co}

theorem take_spec (D1 : Def c sg "is_from" p_is_from b_is_from) (D : Def c sg "Post.take" p_Post_take b_Post_take) (hC : Comp μ a C) (hz : C.rl.length ≤ lim) {i : Int}
    (hy : ∀ v, 0 ≤ i → i < C.rl.length → C.rl[i.toNat]? = some v → ∀ μ' n, Comp μ' { a with rl := n } { C with rl := C.rl.eraseIdx i.toNat } → Keep a { a with rl := n } μ μ' → μ n = none → (∀ b o, μ b = some o → b ≠ a.pd → μ' b = some o) → Q v μ')
    (hn : ¬ (0 ≤ i ∧ i < C.rl.length) → hd = false ∧ X "NoPlace" μ) : SC c 2 hd "Post.take" [.ref a.ps, .int i] μ Q X := by
  refine call_in G D rfl ?_
  unfold b_Post_take
  have hp := hC.ps
  have hpd := hC.pd
  have hrl := hC.rl
  walk_at "ww"
  refine is_from_spec G D1 ?_
  walk_at "ww"
  refine br_nd (fun h => ?_) (fun h => ?_)
  · have h0 : 0 ≤ i := by omega
    have h1 : i < C.rl.length := by omega
    have hv : C.rl[i.toNat]? = some (C.rl[i.toNat]'(by omega)) := List.getElem?_eq_getElem _
    walk_at "ww"
    refine sub_l hrl (v := C.rl[i.toNat]'(by omega)) (by unfold idx; rw [if_pos h0]; exact hv) ?_
    walk_at "ww"
    refine slice_in hrl trivial h0 (newL_in (by simp only [cut, List.length_take]; omega) fun n1 hn1 => ?_)
    have e1 := Ext.new hn1 (.list (cut none (some i) C.rl))
    have hp1 := e1 _ _ hp
    have hpd1 := e1 _ _ hpd
    have hrl1 := e1 _ _ hrl
    walk_at "ww"
    refine slice_in hrl1 (show 0 ≤ i + 1 by omega) trivial (newL_in (by simp only [cut, List.length_drop]; omega) fun n2 hn2 => ?_)
    have e2 := Ext.new hn2 (.list (cut (some (i + 1)) none C.rl))
    refine cat_l (e2 _ _ mem_here) mem_here (newL_in ?_ fun n3 hn3 => ?_)
    · simp only [cut, List.length_append, List.length_take, List.length_drop]; omega
    have e3 := Ext.new hn3 (.list (cut none (some i) C.rl ++ cut (some (i + 1)) none C.rl))
    have e := e1.trans (e2.trans e3)
    walk_at "ww"
    refine setA_in (e _ _ hp) (e _ _ hpd) (show 1 < 900 by decide) ?_
    walk_at "ww"
    have fresh : μ n3 = none := by
      cases q : μ n3 with
      | none => rfl
      | some o => have := (e1.trans e2) _ _ q; rw [hn3] at this; cases this
    have cutE : cut none (some i) C.rl ++ cut (some (i + 1)) none C.rl = C.rl.eraseIdx i.toNat := by
      simp only [cut]
      rw [List.eraseIdx_eq_take_drop_succ, show (i + 1).toNat = i.toNat + 1 by omega]
    have hnpd : n3 ≠ a.pd := fun q => by rw [q, hpd] at fresh; cases fresh
    have but : ∀ b o, μ b = some o → b ≠ a.pd → updM (updM (updM (updM μ n1 (.list (cut none (some i) C.rl))) n2 (.list (cut (some (i + 1)) none C.rl))) n3 (.list (cut none (some i) C.rl ++ cut (some (i + 1)) none C.rl))) a.pd (.attrs [("rows", .ref n3)]) b = some o := fun b o hb nb => by
      rw [updM_ne nb]; exact e _ _ hb
    refine hy _ h0 h1 hv _ n3 ?_ (fun b o hb hnb => ⟨but b o hb fun q => hnb (by rw [q]; simp [Ad.list]), ?_⟩) fresh but
    · have nin : n3 ∉ a.list := hC.notin fresh
      exact ⟨nd_set a.list 8 n3 hC.nd nin, but _ _ hC.c (nd_ne hC.nd (i := 0) (j := 7) rfl rfl rfl), but _ _ hC.cd (nd_ne hC.nd (i := 1) (j := 7) rfl rfl rfl), but _ _ hC.p (nd_ne hC.nd (i := 2) (j := 7) rfl rfl rfl), but _ _ hC.w (nd_ne hC.nd (i := 3) (j := 7) rfl rfl rfl), but _ _ hC.k (nd_ne hC.nd (i := 4) (j := 7) rfl rfl rfl), but _ _ hC.t (nd_ne hC.nd (i := 5) (j := 7) rfl rfl rfl), but _ _ hC.ps (nd_ne hC.nd (i := 6) (j := 7) rfl rfl rfl), mem_here, by show updM _ a.pd _ n3 = _; rw [updM_ne hnpd, updM_self, cutE], but _ _ hC.kn (nd_ne hC.nd (i := 9) (j := 7) rfl rfl rfl)⟩
    · exact fun q => (List.mem_or_eq_of_mem_set (l := a.list) (i := 8) q).elim hnb (ne_some fresh hb)
  · obtain ⟨q1, q2⟩ := hn (by omega)
    exact s_raise q1 q2

theorem came_spec (D1 : Def c sg "Company.is_in" p_Company_is_in b_Company_is_in) (D2 : Def c sg "Post.put" p_Post_put b_Post_put) (D : Def c sg "Company.letter_came" p_Company_letter_came b_Company_letter_came) (hC : Comp μ a C) (ok : C.Ok) (hz : C.rl.length < lim) {s n p : Int} {w : V} (h0 : 0 ≤ n) (h1 : n < C.P.length)
    (h : ∀ μ' r, Comp μ' a (C.came s n p).1 → Off a.list μ μ' → μ' r = some (.list (C.came s n p).2) → r ∉ a.list → μ r = none → Q (.ref r) μ') : SC c 2 false "Company.letter_came" [.ref a.c, .tup [w, .int s, .int n, .int p]] μ Q X := by
  refine call_in G D rfl ?_
  unfold b_Company_letter_came
  have h2 := hC.c
  have h3 := hC.cd
  have h4 := hC.p
  refine s_unpack rfl ?_
  walk_at "ww"
  refine unp_in rfl ?_
  walk_at "ww"
  refine sub_l h4 (idx_iL h0 h1) ?_
  walk_at "ww"
  refine setI_in h4 h0 (by rw [iL_length]; exact h1) ?_
  rw [iL_set]
  have hC1 := hC.setP (C.P.set n.toNat (C.P.getD n.toNat 0 + p))
  have o1 : Off a.list μ (updM μ a.p (.list (iL (C.P.set n.toNat (C.P.getD n.toNat 0 + p))))) := Off.upd (by simp [Ad.list]) _
  generalize updM μ a.p (.list (iL (C.P.set n.toNat (C.P.getD n.toNat 0 + p)))) = μ₁ at hC1 o1 ⊢
  clear h2 h3 h4
  have h2 := hC1.c
  have h3 := hC1.cd
  have lK : n < (C.K.length : Int) := by rw [ok.k]; exact h1
  walk_at "ww"
  refine meth_own "Company.is_in" h2 h3 (by rfl) (by rfl) (by rfl) ?_
  walk_at "ww"
  refine is_in_spec G D1 hC1 h0 lK ?_
  have eB : ({ C with P := C.P.set n.toNat (C.P.getD n.toNat 0 + p) } : Co).inB n = C.inB n := rfl
  rw [eB]
  unfold Co.came at h
  cases q : C.inB n with
  | true =>
    rw [if_pos q] at h
    have h5 := hC1.ps
    have h6 := hC1.pd
    walk_at "ww"
    refine meth_own "Post.put" h5 h6 (by rfl) (by rfl) (by rfl) ?_
    walk_at "ww"
    refine put_spec G D2 hC1 hz fun μ₂ hC2 o2 => ?_
    walk_at "ww"
    refine newL_in (show 1 ≤ 1048576 by decide) fun r hr => ?_
    walk_at "ww"
    refine h _ r (hC2.new hr _) (o1.trans (o2.trans (Off.new hr _))) mem_here (hC2.notin hr) ?_
    cases z : μ r with
    | none => rfl
    | some o => have := (o1.trans o2) r o z (hC2.notin hr); rw [hr] at this; cases this
  | false =>
    rw [if_neg (by rw [q]; exact Bool.false_ne_true)] at h
    have h5 := hC1.k
    walk_at "ww"
    refine setI_in h5 h0 (by rw [oL_length]; exact lK) ?_
    rw [show V.int s = oV (some s) from rfl, oL_set]
    have hC2 := hC1.setK (C.K.set n.toNat (some s))
    have o2 := o1.trans (Off.upd (μ := μ₁) (a := a.k) (l := a.list) (by simp [Ad.list]) (.list (oL (C.K.set n.toNat (some s)))))
    show wpSs _ _ _ _ _ (updM μ₁ a.k (.list (oL (C.K.set n.toNat (some s))))) _ _
    generalize updM μ₁ a.k (.list (oL (C.K.set n.toNat (some s)))) = μ₂ at hC2 o2 ⊢
    walk_at "ww"
    refine newL_in (show 1 ≤ 1048576 by decide) fun r hr => ?_
    walk_at "ww"
    refine h _ r (hC2.new hr _) (o2.trans (Off.new hr _)) mem_here (hC2.notin hr) ?_
    cases z : μ r with
    | none => rfl
    | some o => have := o2 r o z (hC2.notin hr); rw [hr] at this; cases this

end

set_option autoImplicit false

set_option linter.unusedVariables false
set_option linter.unusedSimpArgs false
open PySem

noncomputable def ans (f t y : Int) : V := .tup [sV "answer", .int f, .int t, .int y]
theorem deq_ne {s t : Str} {μ : Mem} (h : PyData.strOk s = true) (h' : PyData.strOk t = true) (hn : s ≠ t) : deq μ (.str s) (.str t) = some false := by
  simp only [deq, rd, h, h', if_true]
  rw [eqv_str, decide_eq_false hn]
theorem Co.Ok.back {C : Co} (ok : C.Ok) (t y : Int) : (C.back t y).Ok := ⟨by simp [Co.back, ok.w], by simp [Co.back, ok.k], by simp [Co.back, ok.t], by simp [Co.back, ok.lo], by simp [Co.back, ok.hi]⟩
theorem came_len (C : Co) (s n p : Int) : (C.came s n p).2.length = 1 ∧ (C.came s n p).1.kn = C.kn := by
  unfold Co.came
  split <;> exact ⟨rfl, rfl⟩
theorem settle_len (C : Co) (i : Int) : (C.settle i).2.length ≤ 1 := by
  unfold Co.settle
  split
  · exact Nat.zero_le _
  · dsimp only
    split <;> exact Nat.le_refl _

section
variable {c : Ctx} (G : Good c sg)
include G
variable {hd : Bool} {μ : Mem} {Q : V → Mem → Prop} {X : String → Mem → Prop} {a : Ad} {C : Co}

theorem carry_spec (D1 : Def c sg "is_from" p_is_from b_is_from) (D2 : Def c sg "Post.take" p_Post_take b_Post_take) (D3 : Def c sg "Company.is_in" p_Company_is_in b_Company_is_in) (D4 : Def c sg "Post.put" p_Post_put b_Post_put) (D5 : Def c sg "Company.letter_came" p_Company_letter_came b_Company_letter_came)
    (D6 : Def c sg "Company.settled" p_Company_settled b_Company_settled) (D7 : Def c sg "Company.noted" p_Company_noted b_Company_noted) (D : Def c sg "Company.carry" p_Company_carry b_Company_carry) (hC : Comp μ a C) (ok : C.Ok) (hz : C.rl.length < lim) (hz' : C.kn.length < lim) {i : Int}
    (hn : ¬ (0 ≤ i ∧ i < C.rl.length) → false = false ∧ X "NoPlace" μ)
    (hrow : ∀ v, C.rl[i.toNat]? = some v → (∃ s n p, v = letter s n p ∧ 0 ≤ n ∧ n < C.P.length) ∨ (∃ f t y, v = ans f t y ∧ 0 ≤ t ∧ t < C.P.length))
    (hL : ∀ s n p, C.rl[i.toNat]? = some (letter s n p) → ∀ μ' a' r, a'.c = a.c → Comp μ' a' (Co.note (({ C with rl := C.rl.eraseIdx i.toNat } : Co).came s n p)) → Keep a a' μ μ' → μ' r = some (.list (({ C with rl := C.rl.eraseIdx i.toNat } : Co).came s n p).2) → r ∉ a'.list → μ r = none → Q (.ref r) μ')
    (hA : ∀ f t y, C.rl[i.toNat]? = some (ans f t y) → ∀ μ' a' r, a'.c = a.c → Comp μ' a' (Co.note ((({ C with rl := C.rl.eraseIdx i.toNat } : Co).back t y).settle t)) → Keep a a' μ μ' → μ' r = some (.list ((({ C with rl := C.rl.eraseIdx i.toNat } : Co).back t y).settle t).2) → r ∉ a'.list → μ r = none → Q (.ref r) μ') :
    SC c 3 false "Company.carry" [.ref a.c, .int i] μ Q X := by
  refine call_in G D rfl ?_
  unfold b_Company_carry
  have h2 := hC.c
  have h3 := hC.cd
  have h5 := hC.ps
  have h6 := hC.pd
  walk_at "ww"
  refine meth_own "Post.take" h5 h6 (by rfl) (by rfl) (by rfl) ?_
  walk_at "ww"
  refine take_spec G D1 D2 hC (Nat.le_of_lt hz) (fun v h0 h1 hv μ₁ n1 hC1 kp1 fr1 but => ?_) hn
  clear h2 h3 h5 h6
  have ok1 : ({ C with rl := C.rl.eraseIdx i.toNat } : Co).Ok := ⟨ok.w, ok.k, ok.t, ok.lo, ok.hi⟩
  have hz1 : ({ C with rl := C.rl.eraseIdx i.toNat } : Co).rl.length < lim := by have := List.length_eraseIdx_le C.rl i.toNat; show (C.rl.eraseIdx i.toNat).length < lim; omega
  have h2 := hC1.c
  have h3 := hC1.cd
  have fresh : ∀ {μ' : Mem} {r : Addr}, Off ({ a with rl := n1 } : Ad).list μ₁ μ' → r ∉ ({ a with rl := n1 } : Ad).list → μ₁ r = none → μ r = none := fun {μ' r} o1 nr hr => by
    cases z : μ r with
    | none => rfl
    | some o =>
      by_cases q : r ∈ a.list
      · exfalso
        have e : r = a.rl := by
          obtain ⟨i, hi, ei⟩ := List.getElem_of_mem q
          by_cases w : i = 8
          · subst w; exact ei.symm
          · exact absurd (List.mem_iff_getElem.mpr ⟨i, by rw [List.length_set]; exact hi, by rw [List.getElem_set, if_neg (Ne.symm w)]; exact ei⟩ : r ∈ a.list.set 8 n1) nr
        have := but r o z (e ▸ nd_ne hC.nd (i := 8) (j := 7) rfl rfl rfl)
        rw [hr] at this; cases this
      · have := (kp1 r o z q).1; rw [hr] at this; cases this
  rcases hrow v hv with ⟨s, n, p, rfl, n0, n1'⟩ | ⟨f, t, y, rfl, t0, t1⟩
  · unfold letter
    walk_at "ww"
    refine sub_t (v := sV "letter") rfl ?_
    walk_at "ww"
    refine cmp_in (r := true) (deq_str (by decide +kernel)) ?_
    walk_at "ww"
    refine meth_own "Company.noted" h2 h3 (by rfl) (by rfl) (by rfl) ?_
    walk_at "ww"
    refine meth_own "Company.letter_came" h2 h3 (by rfl) (by rfl) (by rfl) ?_
    walk_at "ww"
    refine came_spec G D3 D4 D5 (a := { a with rl := n1 }) hC1 ok1 hz1 n0 n1' fun μ₂ r hC2 o2 hr nr r0 => ?_
    walk_at "ww"
    refine sc_up (noted_spec G D7 hC2 hr nr (by rw [(came_len _ _ _ _).1, (came_len _ _ _ _).2]; exact hz') fun μ₃ hC3 o3 => ?_) (by decide)
    exact hL s n p hv μ₃ { a with rl := n1 } r rfl hC3 (kp1.trans (Keep.of_off (o2.trans o3))) (o3 _ _ hr nr) nr (fresh o2 nr r0)
  · unfold ans
    walk_at "ww"
    refine sub_t (v := sV "answer") rfl ?_
    walk_at "ww"
    refine cmp_in (r := false) (deq_ne (by decide +kernel) (by decide +kernel) (by decide +kernel)) ?_
    walk_at "ww"
    refine sub_t (v := .int t) rfl ?_
    have h4 := hC1.w
    have tW : t < (C.W.length : Int) := by rw [ok.w]; exact t1
    have tT : t < (C.T.length : Int) := by rw [ok.t]; exact t1
    walk_at "ww"
    refine sub_l h4 (idx_iL t0 tW) ?_
    walk_at "ww"
    refine setI_in h4 t0 (by rw [iL_length]; exact tW) ?_
    rw [iL_set]
    have hC2 := hC1.setW (C.W.set t.toNat (C.W.getD t.toNat 0 - 1))
    have o2 : Off ({ a with rl := n1 } : Ad).list μ₁ (updM μ₁ a.w (.list (iL (C.W.set t.toNat (C.W.getD t.toNat 0 - 1))))) := Off.upd (by simp [Ad.list]) _
    show wpSs _ _ _ _ _ (updM μ₁ a.w (.list (iL (C.W.set t.toNat (C.W.getD t.toNat 0 - 1))))) _ _
    change Comp (updM μ₁ a.w (.list (iL (C.W.set t.toNat (C.W.getD t.toNat 0 - 1))))) _ _ at hC2
    generalize updM μ₁ a.w (.list (iL (C.W.set t.toNat (C.W.getD t.toNat 0 - 1)))) = μ₂ at hC2 o2 ⊢
    clear h2 h3 h4
    have h2 := hC2.c
    have h3 := hC2.cd
    have h4 := hC2.t
    walk_at "ww"
    refine sub_l h4 (idx_iL t0 tT) ?_
    walk_at "ww"
    refine sub_t (v := .int y) rfl ?_
    walk_at "ww"
    refine setI_in h4 t0 (by rw [iL_length]; exact tT) ?_
    rw [iL_set]
    have hC3 := hC2.setT (C.T.set t.toNat (C.T.getD t.toNat 0 + y))
    have o3 : Off ({ a with rl := n1 } : Ad).list μ₁ (updM μ₂ a.t (.list (iL (C.T.set t.toNat (C.T.getD t.toNat 0 + y))))) := o2.trans (Off.upd (by simp [Ad.list]) _)
    show wpSs _ _ _ _ _ (updM μ₂ a.t (.list (iL (C.T.set t.toNat (C.T.getD t.toNat 0 + y))))) _ _
    change Comp (updM μ₂ a.t (.list (iL (C.T.set t.toNat (C.T.getD t.toNat 0 + y))))) _ _ at hC3
    generalize updM μ₂ a.t (.list (iL (C.T.set t.toNat (C.T.getD t.toNat 0 + y)))) = μ₃ at hC3 o3 ⊢
    clear h2 h3 h4
    have h2 := hC3.c
    have h3 := hC3.cd
    walk_at "ww"
    refine meth_own "Company.noted" h2 h3 (by rfl) (by rfl) (by rfl) ?_
    walk_at "ww"
    refine meth_own "Company.settled" h2 h3 (by rfl) (by rfl) (by rfl) ?_
    walk_at "ww"
    refine settled_spec G D3 D4 D6 (C := ({ C with rl := C.rl.eraseIdx i.toNat } : Co).back t y) hC3 (ok1.back t y) hz1 t0 t1 fun μ₄ r hC4 o4 hr nr r0 => ?_
    walk_at "ww"
    refine sc_up (noted_spec G D7 hC4 hr nr (by rw [Co.settle_kn]; have := settle_len (({ C with rl := C.rl.eraseIdx i.toNat } : Co).back t y) t; show C.kn.length + _ ≤ lim; omega) fun μ₅ hC5 o5 => ?_) (by decide)
    refine hA f t y hv μ₅ { a with rl := n1 } r rfl hC5 (kp1.trans (Keep.of_off (o3.trans (o4.trans o5)))) (o5 _ _ hr nr) nr ?_
    refine fresh (o3.trans o4) nr ?_
    cases z : μ₁ r with
    | none => rfl
    | some o => have := o3 r o z nr; rw [r0] at this; cases this
end

set_option autoImplicit false

set_option linter.unusedVariables false
set_option linter.unusedSimpArgs false
open PySem

structure Hd where
  p : Int
  w : Int
  k : Option Int
  t : Int
noncomputable def z4 : Hd := ⟨0, 0, none, 0⟩
noncomputable def up (f : Nat → Hd) (i : Nat) (x : Hd) : Nat → Hd := fun j => if j = i then x else f j
theorem up_same (f : Nat → Hd) (i : Nat) (x : Hd) : up f i x i = x := by simp [up]
theorem up_ne {f : Nat → Hd} {i j : Nat} {x : Hd} (h : j ≠ i) : up f i x j = f j := by simp [up, h]
noncomputable def mp {α : Type} (m : Nat) (g : Nat → α) : List α := (List.range m).map g
theorem mp_len {α : Type} (m : Nat) (g : Nat → α) : (mp m g).length = m := by simp [mp]
theorem mp_get {α : Type} {m i : Nat} (g : Nat → α) (d : α) (h : i < m) : (mp m g).getD i d = g i := by
  simp [mp, List.getD_eq_getElem?_getD, h]
theorem mp_set {α : Type} (m : Nat) (g g' : Nat → α) (i : Nat) (v : α) (h : g' i = v) (h' : ∀ j, j ≠ i → g' j = g j) : (mp m g).set i v = mp m g' := by
  apply List.ext_getElem
  · simp [mp]
  · intro n a b
    simp only [mp, List.getElem_set, List.getElem_map, List.getElem_range]
    split
    · rename_i q; rw [← q, h]
    · rename_i q; rw [h' n (Ne.symm q)]
noncomputable def cf (m : Nat) (f : Nat → Hd) (go : Bool) (rl kn : List V) : Co := ⟨mp m fun i => (f i).p, mp m fun i => (f i).w, mp m fun i => (f i).k, mp m fun i => (f i).t, go, kn, rl⟩
theorem cf_ok {m : Nat} {f : Nat → Hd} {go : Bool} {rl kn : List V} (h1 : 1 ≤ m) (h2 : m ≤ 60) : (cf m f go rl kn).Ok := ⟨by simp [cf, mp], by simp [cf, mp], by simp [cf, mp], by simpa [cf, mp] using h1, by simpa [cf, mp] using h2⟩
theorem cf_len {m : Nat} {f : Nat → Hd} {go : Bool} {rl kn : List V} : (cf m f go rl kn).P.length = m := mp_len ..
section
variable {m : Nat} {f : Nat → Hd} {go : Bool} {rl kn : List V}
theorem cf_P {i : Nat} (h : i < m) : (cf m f go rl kn).P.getD i 0 = (f i).p := mp_get _ _ h
theorem cf_W {i : Nat} (h : i < m) : (cf m f go rl kn).W.getD i 0 = (f i).w := mp_get _ _ h
theorem cf_K {i : Nat} (h : i < m) : (cf m f go rl kn).K.getD i none = (f i).k := mp_get _ _ h
theorem cf_T {i : Nat} (h : i < m) : (cf m f go rl kn).T.getD i 0 = (f i).t := mp_get _ _ h
theorem cf_setAll (i : Nat) (x : Hd) : (⟨(cf m f go rl kn).P.set i x.p, (cf m f go rl kn).W.set i x.w, (cf m f go rl kn).K.set i x.k, (cf m f go rl kn).T.set i x.t, go, kn, rl⟩ : Co) = cf m (up f i x) go rl kn := by
  simp only [cf]
  congr 1 <;> exact mp_set m _ _ i _ (by rw [up_same]) (fun j h => by rw [up_ne h])
theorem set_own {α : Type} (m : Nat) (g : Nat → α) (i : Nat) (v : α) (h : g i = v) : (mp m g).set i v = mp m g := mp_set m g g i v h fun _ _ => rfl

theorem cf_sent {h o p : Int} (hh : h.toNat < m) : (cf m f go rl kn).sent h o p = cf m (up f h.toNat { f h.toNat with p := (f h.toNat).p - p, w := (f h.toNat).w + 1 }) go (rl ++ [letter h o p]) (kn ++ [letter h o p]) := by
  rw [← cf_setAll]
  unfold Co.sent
  rw [cf_P hh, cf_W hh]
  simp only [cf]
  congr 1
  · exact (set_own m _ _ _ rfl).symm
  · exact (set_own m _ _ _ rfl).symm
theorem cf_one {i : Int} (hh : i.toNat < m) : (cf m f go rl kn).one i = cf m (up f i.toNat { f i.toNat with p := (f i.toNat).p - 1, t := (f i.toNat).t + 1 }) go rl kn := by
  rw [← cf_setAll]
  unfold Co.one
  rw [cf_P hh, cf_T hh]
  simp only [cf]
  congr 1
  · exact (set_own m _ _ _ rfl).symm
  · exact (set_own m _ _ _ rfl).symm
theorem cf_back {t y : Int} (hh : t.toNat < m) : (cf m f go rl kn).back t y = cf m (up f t.toNat { f t.toNat with w := (f t.toNat).w - 1, t := (f t.toNat).t + y }) go rl kn := by
  rw [← cf_setAll]
  unfold Co.back
  rw [cf_W hh, cf_T hh]
  simp only [cf]
  congr 1
  · exact (set_own m _ _ _ rfl).symm
  · exact (set_own m _ _ _ rfl).symm
theorem cf_in {i : Int} (hh : i.toNat < m) : (cf m f go rl kn).inB i = if i = 0 then go else (f i.toNat).k.isSome := by
  unfold Co.inB
  rw [cf_K hh]; rfl
theorem cf_came_in {s n p : Int} (hh : n.toNat < m) (hi : (if n = 0 then go else (f n.toNat).k.isSome) = true) : (cf m f go rl kn).came s n p = (cf m (up f n.toNat { f n.toNat with p := (f n.toNat).p + p }) go (rl ++ [ans n s 0]) kn, [ans n s 0]) := by
  unfold Co.came
  rw [if_pos (by rw [cf_in hh]; exact hi)]
  congr 1
  rw [← cf_setAll, cf_P hh]
  simp only [cf]
  congr 1
  · exact (set_own m _ _ _ rfl).symm
  · exact (set_own m _ _ _ rfl).symm
  · exact (set_own m _ _ _ rfl).symm
theorem cf_came_out {s n p : Int} (hh : n.toNat < m) (hi : (if n = 0 then go else (f n.toNat).k.isSome) = false) : (cf m f go rl kn).came s n p = (cf m (up f n.toNat { f n.toNat with p := (f n.toNat).p + p, k := some s }) go rl kn, [.tup [sV "woken", .int n, .int s]]) := by
  unfold Co.came
  rw [if_neg (by rw [cf_in hh, hi]; exact Bool.false_ne_true)]
  congr 1
  rw [← cf_setAll, cf_P hh]
  simp only [cf]
  congr 1
  · exact (set_own m _ _ _ rfl).symm
  · exact (set_own m _ _ _ rfl).symm
theorem cf_settle_no {i : Int} (hh : i.toNat < m) (h : 0 < (f i.toNat).p ∨ 0 < (f i.toNat).w ∨ (if i = 0 then go else (f i.toNat).k.isSome) = false) : (cf m f go rl kn).settle i = (cf m f go rl kn, []) := by
  unfold Co.settle
  rw [cf_P hh, cf_W hh, cf_in hh, if_pos h]
theorem cf_settle_0 (hh : 0 < m) (h1 : ¬ 0 < (f 0).p) (h2 : ¬ 0 < (f 0).w) (h3 : go = true) : (cf m f go rl kn).settle 0 = (cf m (up f 0 { f 0 with t := 0 }) false rl kn, [.tup [sV "end", .int (f 0).t]]) := by
  unfold Co.settle
  rw [cf_P (i := (0 : Int).toNat) hh, cf_W (i := (0 : Int).toNat) hh, cf_in (i := 0) hh, if_neg (by simp [h1, h2, h3])]
  simp only [if_true]
  rw [cf_T (i := (0 : Int).toNat) hh]
  refine Prod.ext ?_ rfl
  show _ = cf m (up f 0 { f 0 with t := 0 }) false rl kn
  rw [← cf_setAll (go := false)]
  simp only [cf]
  congr 1
  · exact (set_own m _ _ _ rfl).symm
  · exact (set_own m _ _ _ rfl).symm
  · exact (set_own m _ _ _ rfl).symm
theorem cf_settle_n {i s : Int} (hh : i.toNat < m) (h0 : i ≠ 0) (h1 : ¬ 0 < (f i.toNat).p) (h2 : ¬ 0 < (f i.toNat).w) (h3 : (f i.toNat).k = some s) : (cf m f go rl kn).settle i = (cf m (up f i.toNat { f i.toNat with k := none, t := 0 }) go (rl ++ [ans i s (f i.toNat).t]) kn, [ans i s (f i.toNat).t]) := by
  unfold Co.settle
  rw [cf_P hh, cf_W hh, cf_in hh, if_neg (by simp [h0, h1, h2, h3])]
  simp only [h0, if_false]
  rw [cf_T hh, cf_K hh, h3]
  refine Prod.ext ?_ rfl
  show _ = cf m (up f i.toNat { f i.toNat with k := none, t := 0 }) go (rl ++ [ans i s (f i.toNat).t]) kn
  rw [← cf_setAll]
  simp only [cf]
  congr 1
  · exact (set_own m _ _ _ rfl).symm
  · exact (set_own m _ _ _ rfl).symm
end

set_option autoImplicit false

set_option maxHeartbeats 2000000
set_option linter.unusedVariables false
set_option linter.unusedSimpArgs false
open PySem

mutual
noncomputable def pd : V → PyData
  | .none => .none
  | .bool b => .bool b
  | .int i => .int i
  | .str s => .str s
  | .tup l => .tuple (pds l)
  | _ => .none
noncomputable def pds : List V → List PyData
  | [] => []
  | v :: r => pd v :: pds r
end
mutual
theorem pd_self : ∀ v : V, PyData.eqv (pd v) (pd v) = true
  | .none => rfl
  | .bool b => decide_eq_true (p := b = b) rfl
  | .int i => decide_eq_true (p := i = i) rfl
  | .str s => decide_eq_true (p := s = s) rfl
  | .tup l => pds_self l
  | .ref _ => rfl
  | .rng _ _ _ => rfl
  | .exc _ => rfl
  | .frz _ => rfl
  | .dk _ _ _ => rfl
theorem pds_self : ∀ l : List V, PyData.eqvAll (pds l) (pds l) = true
  | [] => rfl
  | v :: r => by rw [pds, eqvAll_cons, pd_self v, pds_self r]; rfl
end
theorem rdAll_of {f : V → Option PyData} : ∀ (l : List V), (∀ v ∈ l, f v = some (pd v)) → rdAll f l = some (pds l)
  | [], _ => rfl
  | v :: r, h => by
    simp only [rdAll, h v (.head _), rdAll_of r fun w hw => h w (.tail _ hw), pds]
theorem rd_plain {μ : Mem} : ∀ (n k : Nat) (v : V), plain n v = true → n + 1 ≤ k → rd μ k v = some (pd v)
  | _, 0, _, _, h => absurd h (by omega)
  | n, k + 1, v, hv, hk => by
    cases v with
    | none => rfl
    | bool b => rfl
    | int i => rfl
    | str s =>
      have : PyData.strOk s = true := by cases n <;> exact hv
      simp only [rd, this, if_true, pd]
    | tup l =>
      cases n with
      | zero => cases hv
      | succ n =>
        simp only [plain, Bool.and_eq_true, List.all_eq_true] at hv
        simp only [rd, rdAll_of l fun w hw => rd_plain n k w (hv.1 w hw) (by omega), Option.map_some, pd]
    | ref a => cases n <;> cases hv
    | rng a b s => cases n <;> cases hv
    | exc x => cases n <;> cases hv
    | frz ns => cases n <;> cases hv
    | dk _ _ _ => cases n <;> cases hv
theorem rd_list {μ : Mem} {x : Addr} {l : List V} {n k : Nat} (hx : μ x = some (.list l)) (h : ∀ v ∈ l, plain n v = true) (hk : n + 1 ≤ k) : rd μ (k + 1) (.ref x) = some (.list (pds l)) := by
  simp only [rd, hx, rdAll_of l fun w hw => rd_plain n k w (h w hw) hk, Option.map_some]
theorem deq_rd {μ : Mem} {a b : V} {x y : PyData} (ha : rd μ 8 a = some x) (hb : rd μ 8 b = some y) : deq μ a b = some (PyData.eqv x y) := by
  unfold deq
  split
  · rename_i i j
    cases ha; cases hb
    rfl
  · rw [ha, hb]
theorem deq_plain {μ : Mem} {n : Nat} {v : V} (h : plain n v = true) (hn : n ≤ 7) : deq μ v v = some true := by
  have := rd_plain (μ := μ) n 8 v h (by omega)
  rw [deq_rd this this, pd_self]
theorem deq_lists {μ : Mem} {x y : Addr} {l : List V} {n : Nat} (hx : μ x = some (.list l)) (hy : μ y = some (.list l)) (h : ∀ v ∈ l, plain n v = true) (hn : n ≤ 6) : deq μ (.ref x) (.ref y) = some true := by
  rw [deq_rd (rd_list hx h (by omega)) (rd_list hy h (by omega))]
  rw [eqv_list, pds_self]
theorem cmp_ne {μ : Mem} {a b : V} {r : Bool} (h : deq μ a b = some r) : cmpO .NotEq μ a b = some (!r) := by
  simp only [cmpO, h, Option.map_some]
/-- the numbers of a range that a test keeps -/
noncomputable def pick (m : Nat) (t : Nat → Bool) : List V := ((List.range m).filter t).map fun (i : Nat) => V.int i
theorem pick_eq (m : Nat) (t : Nat → Bool) (F : V → Option V) (h : ∀ i : Nat, i < m → F (.int i) = if t i then some (.int i) else none) : (rngItems 0 m 1).filterMap F = pick m t := by
  unfold rngItems pick
  rw [if_pos rfl, List.filterMap_map]
  have e : ((m : Int) - 0).toNat = m := by omega
  rw [e]
  have : ∀ l : List Nat, (∀ i ∈ l, i < m) → l.filterMap (F ∘ fun (i : Nat) => V.int (0 + i)) = (l.filter t).map fun (i : Nat) => V.int i := by
    intro l
    induction l with
    | nil => intro _; rfl
    | cons a l ih =>
      intro hl
      have ea : (F ∘ fun (i : Nat) => V.int (0 + i)) a = if t a then some (.int a) else none := by
        simp only [Function.comp, Int.zero_add]
        exact h a (hl a (.head _))
      rw [List.filterMap_cons, ea, ih fun i hi => hl i (.tail _ hi), List.filter_cons]
      cases t a <;> rfl
  exact this _ fun i hi => List.mem_range.mp hi
theorem pick_get {m : Nat} {t : Nat → Bool} {j : Int} (h0 : 0 ≤ j) (h1 : j < (pick m t).length) : ∃ i : Nat, idx (pick m t) j = some (.int i) ∧ i < m ∧ t i = true := by
  obtain ⟨v, hv, hm⟩ := idx_some h0 h1
  unfold pick at hm
  obtain ⟨i, hi, rfl⟩ := List.mem_map.mp hm
  have := List.mem_filter.mp hi
  exact ⟨i, hv, List.mem_range.mp this.1, this.2⟩
theorem pick_len (m : Nat) (t : Nat → Bool) : (pick m t).length ≤ m := by
  unfold pick
  rw [List.length_map]
  exact Nat.le_trans (List.length_filter_le _ _) (by rw [List.length_range]; exact Nat.le_refl _)
theorem pick_nil {m : Nat} {t : Nat → Bool} (h : ¬ 0 < ((pick m t).length : Int)) : ∀ i < m, t i = false := fun i hi => by
  cases q : t i with
  | false => rfl
  | true =>
    exfalso
    apply h
    have : V.int i ∈ pick m t := by
      unfold pick
      exact List.mem_map.mpr ⟨i, List.mem_filter.mpr ⟨List.mem_range.mpr hi, q⟩, rfl⟩
    have := List.length_pos_of_mem this
    omega
theorem rng_get {m : Nat} {k : Nat} {w : V} (h : (rngItems 0 m 1)[k]? = some w) : w = .int k ∧ k < m := by
  rw [rngItems_get (.inl rfl)] at h
  split at h
  · rename_i q
    unfold rngLen at q
    rw [if_pos rfl] at q
    cases h
    exact ⟨by simp, by omega⟩
  · cases h
theorem rng_len (m : Nat) : (rngItems 0 m 1).length = m := by unfold rngItems; simp
/-- [x for x in range(m) if test] -/
theorem comp_pick {sg : Sig} {sc : Bool → Sc} {hd : Bool} {ρ : Loc} {μ : Mem} {Q : V → Mem → Prop} {x : String} {cs : List String} {e : E} {p : Pos} {m : Nat} (t : Nat → Bool) (hm : m ≤ 1000)
    (turn : ∀ (i : Nat) (μ' : Mem) (K : Bool → Mem → Prop), i < m → Ext μ μ' → K (t i) μ' → wpE sg sc hd e (updL (capL cs ρ) x (.int i)) μ' (fun v μ₁ => tr v fun b => K b μ₁) fun _ _ => False)
    (fin : ∀ n, μ n = none → Q (.ref n) (updM μ n (.list (pick m t)))) : compW sg sc hd ρ Q (.loc x p) x cs [e] (.rng 0 m 1) μ := by
  have eF : ∀ i : Nat, i < m → (fun w => match w with | V.int i => if t i.toNat then some (V.int i) else none | _ => none) (V.int i) = if t i then some (.int i) else none := fun i _ => by
    simp only [Int.toNat_natCast]
  refine comp_map (items := rngItems 0 m 1) (fun w => match w with | V.int i => if t i.toNat then some (V.int i) else none | _ => none) rfl (by rw [rng_len]; unfold lim; omega) (fun k w μ' K hk hx hK => ?_) (fun n hn => ?_)
  · obtain ⟨rfl, hlt⟩ := rng_get hk
    refine if_one (turn k μ' _ hlt hx ?_)
    simp only [Int.toNat_natCast] at hK
    cases q : t k with
    | true =>
      rw [if_pos q] at hK
      exact br_t (e_here hK)
    | false =>
      rw [if_neg (by rw [q]; decide)] at hK
      exact br_f hK
  · rw [pick_eq m t _ eF]
    exact fin n hn
theorem mod_bd {a b : Int} (h : 0 < b) : 0 ≤ a % b ∧ a % b < b := ⟨Int.emod_nonneg a (by omega), Int.emod_lt_of_pos a h⟩
theorem rep_mp {α : Type} (m : Nat) (v : α) : List.replicate m v = mp m fun _ => v := by
  apply List.ext_getElem
  · simp [mp]
  · intro n a b; simp [mp]
theorem newCo_cf (m : Nat) : newCo (m : Int) = cf m (fun _ => z4) false [] [] := by
  simp only [newCo, cf, z4, Int.toNat_natCast, rep_mp]
theorem begin_cf {m : Nat} {f : Nat → Hd} {go : Bool} {rl kn : List V} {i : Int} {r : V} (h : 0 < m) : ({ cf m f go rl kn with go := true, P := (cf m f go rl kn).P.set 0 i, kn := (cf m f go rl kn).kn ++ [r] } : Co) = cf m (up f 0 { f 0 with p := i }) true rl (kn ++ [r]) := by
  rw [← cf_setAll]
  simp only [cf]
  congr 1
  · exact (set_own m _ _ _ rfl).symm
  · exact (set_own m _ _ _ rfl).symm
  · exact (set_own m _ _ _ rfl).symm
/-- a comprehension over given things, whose turns leave the memory as it is -/
theorem comp_gen {α : Type} {sg : Sig} {sc : Bool → Sc} {hd : Bool} {ρ : Loc} {μ : Mem} {Q : V → Mem → Prop} {x : String} {cs : List String} {elt : E} {ifs : List E} {v : V} {L : List α} {g : α → V} (F : α → Option V) (e : itemsOf μ v = some (L.map g)) (hz : L.length ≤ lim)
    (turn : ∀ a ∈ L, ∀ (μ' : Mem) (K : Option V → Mem → Prop), Ext μ μ' → K (F a) μ' → wpIf sg sc hd ifs (updL (capL cs ρ) x (g a)) μ' fun b μ₃ => br b (wpE sg sc hd elt (updL (capL cs ρ) x (g a)) μ₃ (fun r μ'' => K (some r) μ'') fun _ _ => False) (K none μ₃))
    (fin : ∀ n, μ n = none → Q (.ref n) (updM μ n (.list (L.filterMap F)))) : compW sg sc hd ρ Q elt x cs ifs v μ := by
  refine comp_in e fun n hn => ⟨fun k μ' => μ' = updM μ n (.list ((L.take k).filterMap F)), rfl, fun k μ' h => by rw [h]; exact itemsOf_new hn e, fun k w μ' hk h => ?_, fun μ' h => ?_⟩
  · subst h
    rw [List.getElem?_map] at hk
    obtain ⟨a, ha, rfl⟩ := Option.map_eq_some_iff.mp hk
    have hlt : k < L.length := (List.getElem?_eq_some_iff.mp ha).1
    have ht := take_filter F L k a ha
    refine turn a (List.mem_of_getElem? ha) _ (compT n fun μ' => μ' = updM μ n (.list ((L.take (k + 1)).filterMap F))) (Ext.new hn _) ?_
    rw [ht]
    cases hF : F a with
    | none =>
      show _ = _
      simp only [List.append_nil]
    | some r =>
      refine ⟨(L.take k).filterMap F, by simp [updM], ?_, ?_⟩
      · have h1 := List.length_filterMap_le F (L.take k)
        rw [List.length_take] at h1
        omega
      · funext b
        simp only [updM]
        split <;> rfl
  · subst h
    rw [List.length_map, List.take_length]
    exact fin n hn
theorem rng_items (m : Nat) : rngItems 0 m 1 = (List.range m).map fun (i : Nat) => V.int i := by
  unfold rngItems; simp
/-- a loop over numbers from nought -/
theorem for_nat {sg : Sig} {sc : Bool → Sc} {hd : Bool} {r : List S} {ρ : Loc} {μ : Mem} {Q : Fl → Loc → Mem → Prop} {X : String → Loc → Mem → Prop} {x : String} {body : List S} {m : Nat} (I : Nat → Loc → Mem → Prop) (i0 : I 0 ρ μ)
    (turn : ∀ i ρ μ, i < m → I i ρ μ → wpSs sg sc hd body (updL ρ x (.int i)) μ (sq (I (i + 1)) (sq (rW sg sc hd X Q r) Q)) fun _ _ _ => False) (fin : ∀ ρ μ, I m ρ μ → wpSs sg sc hd r ρ μ Q X) : forW sg sc hd x body r ρ Q X (.rng 0 m 1) μ := by
  refine for_in (items := rngItems 0 m 1) rfl I i0 (fun _ _ _ _ => rfl) (fun k w ρ μ hk hi => ?_) (fun ρ μ hi => ?_)
  · obtain ⟨rfl, hlt⟩ := rng_get hk
    exact turn k ρ μ hlt hi
  · rw [rng_len] at hi
    exact fin ρ μ hi
/-- a loop over given things in a list -/
theorem for_list {α : Type} {sg : Sig} {sc : Bool → Sc} {hd : Bool} {r : List S} {ρ : Loc} {μ : Mem} {Q : Fl → Loc → Mem → Prop} {X : String → Loc → Mem → Prop} {x : String} {body : List S} {y : Addr} {L : List α} {g : α → V} (hy : μ y = some (.list (L.map g))) (I : Nat → Loc → Mem → Prop) (i0 : I 0 ρ μ)
    (st : ∀ k ρ μ, I k ρ μ → μ y = some (.list (L.map g)))
    (turn : ∀ i a ρ μ, L[i]? = some a → I i ρ μ → wpSs sg sc hd body (updL ρ x (g a)) μ (sq (I (i + 1)) (sq (rW sg sc hd X Q r) Q)) fun _ _ _ => False) (fin : ∀ ρ μ, I L.length ρ μ → wpSs sg sc hd r ρ μ Q X) : forW sg sc hd x body r ρ Q X (.ref y) μ := by
  refine for_in (items := L.map g) (by simp only [itemsOf, hy]) I i0 (fun k ρ μ h => by simp only [itemsOf, st k ρ μ h]) (fun k w ρ μ hk hi => ?_) (fun ρ μ hi => ?_)
  · rw [List.getElem?_map] at hk
    obtain ⟨a, ha, rfl⟩ := Option.map_eq_some_iff.mp hk
    exact turn k a ρ μ ha hi
  · rw [List.length_map] at hi
    exact fin ρ μ hi
set_option autoImplicit false

set_option maxHeartbeats 2000000
set_option linter.unusedVariables false
set_option linter.unusedSimpArgs false
open PySem

/-! The company's state as numbers: rows by hand numbers, sums, and what stands through every deed of a round. -/
inductive Rw where
  | lt (s n : Nat) (p : Int)
  | an (g t : Nat) (y : Int)
noncomputable def Rw.v : Rw → V
  | .lt s n p => letter s n p
  | .an g t y => ans g t y
noncomputable def rV (l : List Rw) : List V := l.map Rw.v
noncomputable def sumN : Nat → (Nat → Int) → Int
  | 0, _ => 0
  | n + 1, g => sumN n g + g n
noncomputable def sumR (g : Rw → Int) : List Rw → Int
  | [] => 0
  | r :: l => g r + sumR g l
theorem sumN_congr {g g' : Nat → Int} : ∀ (m : Nat), (∀ i < m, g i = g' i) → sumN m g = sumN m g'
  | 0, _ => rfl
  | m + 1, h => by
    simp only [sumN]
    rw [sumN_congr m fun i hi => h i (by omega), h m (by omega)]
theorem sumN_up {f : Nat → Hd} {G : Hd → Int} {h : Nat} {x : Hd} : ∀ (m : Nat), h < m → sumN m (fun i => G (up f h x i)) = sumN m (fun i => G (f i)) - G (f h) + G x
  | 0, hm => absurd hm (by omega)
  | m + 1, hm => by
    simp only [sumN]
    by_cases q : h = m
    · subst q
      rw [up_same, sumN_congr h (g := fun i => G (up f h x i)) (g' := fun i => G (f i)) fun i hi => by rw [up_ne (by omega)]]
      omega
    · rw [up_ne (fun z => q z.symm), sumN_up m (by omega)]
      omega
theorem sumN_ge0 {g : Nat → Int} : ∀ (m : Nat), (∀ i < m, 0 ≤ g i) → 0 ≤ sumN m g
  | 0, _ => Int.le_refl _
  | m + 1, h => by
    have := sumN_ge0 m fun i hi => h i (by omega)
    have := h m (by omega)
    simp only [sumN]; omega
theorem sumN_le {g : Nat → Int} : ∀ (m : Nat), (∀ i < m, 0 ≤ g i) → ∀ i < m, g i ≤ sumN m g
  | 0, _, i, hi => absurd hi (by omega)
  | m + 1, h, i, hi => by
    have h0 := sumN_ge0 m fun i hi => h i (by omega)
    have h1 := h m (by omega)
    simp only [sumN]
    by_cases q : i = m
    · subst q; omega
    · have := sumN_le m (fun i hi => h i (by omega)) i (by omega)
      omega
theorem sumR_append {g : Rw → Int} : ∀ (l k : List Rw), sumR g (l ++ k) = sumR g l + sumR g k
  | [], k => by simp [sumR]
  | r :: l, k => by
    simp only [List.cons_append, sumR]
    rw [sumR_append l k]; omega
theorem sumR_snoc {g : Rw → Int} (l : List Rw) (r : Rw) : sumR g (l ++ [r]) = sumR g l + g r := by
  rw [sumR_append]; simp [sumR]
theorem sumR_erase {g : Rw → Int} : ∀ (l : List Rw) (k : Nat) (r : Rw), l[k]? = some r → sumR g (l.eraseIdx k) = sumR g l - g r
  | [], k, r, h => by simp at h
  | a :: l, 0, r, h => by
    have : a = r := by simpa using h
    subst this
    simp only [List.eraseIdx_cons_zero, sumR]; omega
  | a :: l, k + 1, r, h => by
    simp only [List.eraseIdx_cons_succ, sumR]
    rw [sumR_erase l k r (by simpa using h)]; omega
theorem sumR_ge0 {g : Rw → Int} : ∀ (l : List Rw), (∀ r ∈ l, 0 ≤ g r) → 0 ≤ sumR g l
  | [], _ => Int.le_refl _
  | r :: l, h => by
    have := h r (.head _)
    have := sumR_ge0 l fun r hr => h r (.tail _ hr)
    simp only [sumR]; omega
theorem sumR_le {g : Rw → Int} : ∀ (l : List Rw), (∀ r ∈ l, 0 ≤ g r) → ∀ r ∈ l, g r ≤ sumR g l
  | [], _, r, h => by cases h
  | a :: l, h, r, hr => by
    have h1 := h a (.head _)
    have h2 := sumR_ge0 l fun r hr => h r (.tail _ hr)
    simp only [sumR]
    cases hr with
    | head => omega
    | tail _ hr =>
      have := sumR_le l (fun r hr => h r (.tail _ hr)) r hr
      omega
theorem rV_erase : ∀ (l : List Rw) (k : Nat), (rV l).eraseIdx k = rV (l.eraseIdx k)
  | [], _ => rfl
  | a :: l, 0 => rfl
  | a :: l, k + 1 => congrArg (Rw.v a :: ·) (rV_erase l k)
theorem rV_snoc (l : List Rw) (r : Rw) : rV l ++ [r.v] = rV (l ++ [r]) := by simp [rV]
theorem rV_len (l : List Rw) : (rV l).length = l.length := List.length_map ..

/-- whom a row binds: the sender of a letter, the receiver of an answer -/
noncomputable def owes (i : Nat) : Rw → Int
  | .lt s _ _ => if s = i then 1 else 0
  | .an _ t _ => if t = i then 1 else 0
noncomputable def amt : Rw → Int
  | .lt _ _ p => p
  | .an _ _ y => y
noncomputable def kid (i : Nat) (x : Hd) : Int := if x.k = some (i : Int) then 1 else 0
theorem owes_ge0 (i : Nat) (r : Rw) : 0 ≤ owes i r := by cases r <;> (simp only [owes]; split <;> decide)
theorem kid_ge0 (i : Nat) (x : Hd) : 0 ≤ kid i x := by unfold kid; split <;> decide
noncomputable def isIn (f : Nat → Hd) (i : Nat) : Prop := i = 0 ∨ (f i).k.isSome = true
noncomputable def rowIn (m : Nat) : Rw → Prop
  | .lt s n p => s < m ∧ n < m ∧ 1 ≤ p
  | .an g t y => g < m ∧ t < m ∧ 0 ≤ y
/-- what stands while a round runs; the hand e may have nothing left to do -/
structure TT (e : Option Nat) (m : Nat) (f : Nat → Hd) (l : List Rw) (tot : Int) : Prop where
  lo : 1 ≤ m
  far : ∀ i, m ≤ i → f i = z4
  k0 : (f 0).k = none
  p : ∀ i, 0 ≤ (f i).p
  t : ∀ i, 0 ≤ (f i).t
  kr : ∀ i s, (f i).k = some s → ∃ s' : Nat, s = s' ∧ s' < m ∧ isIn f s'
  rows : ∀ r ∈ l, rowIn m r
  bal : ∀ i < m, (f i).w = sumR (owes i) l + sumN m (fun j => kid i (f j))
  out : ∀ i, ¬ isIn f i → f i = z4
  busy : ∀ i < m, isIn f i → some i ≠ e → 0 < (f i).p ∨ 0 < (f i).w
  tree : ∃ r : Nat → Nat, ∀ (i s : Nat), (f i).k = some (s : Int) → r s < r i
  tot : sumN m (fun i => (f i).p + (f i).t) + sumR amt l = tot
section
variable {e : Option Nat} {m : Nat} {f : Nat → Hd} {l : List Rw} {tot : Int}
theorem TT.w (T : TT e m f l tot) (i : Nat) : 0 ≤ (f i).w := by
  by_cases q : i < m
  · rw [T.bal i q]
    have := sumR_ge0 (g := owes i) l fun r _ => owes_ge0 i r
    have := sumN_ge0 (g := fun j => kid i (f j)) m fun j _ => kid_ge0 i _
    omega
  · rw [T.far i (by omega)]; decide
theorem TT.inw (T : TT e m f l tot) {i : Nat} (h : 0 < (f i).w) : isIn f i := by
  by_cases q : isIn f i
  · exact q
  · rw [T.out i q] at h; exact absurd h (by decide)
theorem TT.inp (T : TT e m f l tot) {i : Nat} (h : 0 < (f i).p) : isIn f i := by
  by_cases q : isIn f i
  · exact q
  · rw [T.out i q] at h; exact absurd h (by decide)
theorem TT.lt_p (T : TT e m f l tot) {i : Nat} (h : 0 < (f i).p) : i < m := by
  by_cases q : i < m
  · exact q
  · rw [T.far i (by omega)] at h; exact absurd h (by decide)
theorem TT.owed (T : TT e m f l tot) {i : Nat} (hi : i < m) {r : Rw} (hr : r ∈ l) (ho : owes i r = 1) : 0 < (f i).w := by
  rw [T.bal i hi]
  have := sumR_le (g := owes i) l (fun r _ => owes_ge0 i r) r hr
  have := sumN_ge0 (g := fun j => kid i (f j)) m fun j _ => kid_ge0 i _
  omega
theorem TT.kid1 (T : TT e m f l tot) {i j : Nat} (hi : i < m) (hk : (f j).k = some (i : Int)) : 0 < (f i).w := by
  have hj : j < m := by
    by_cases q : j < m
    · exact q
    · rw [T.far j (by omega)] at hk; cases hk
  rw [T.bal i hi]
  have := sumR_ge0 (g := owes i) l fun r _ => owes_ge0 i r
  have h2 := sumN_le (g := fun j => kid i (f j)) m (fun j _ => kid_ge0 i _) j hj
  have : kid i (f j) = 1 := by unfold kid; rw [if_pos hk]
  simp only [this] at h2
  omega
theorem isIn_up {h : Nat} {x : Hd} (hx : h ≠ 0 → (x.k.isSome = (f h).k.isSome)) (i : Nat) : isIn (up f h x) i ↔ isIn f i := by
  unfold isIn
  by_cases q : i = h
  · subst q
    rw [up_same]
    by_cases z : i = 0
    · simp [z]
    · rw [hx z]
  · rw [up_ne q]
/-- a change at one hand that keeps its waker -/
theorem TT.upd (T : TT e m f l tot) {h : Nat} (hh : h < m) {x : Hd} (e' : Option Nat) (l' : List Rw) (tot' : Int) (xk : x.k = (f h).k) (xp : 0 ≤ x.p) (xt : 0 ≤ x.t) (hin : isIn f h)
    (rows : ∀ r ∈ l', rowIn m r) (bal : ∀ i < m, (up f h x i).w = sumR (owes i) l' + sumN m (fun j => kid i (f j))) (bh : some h ≠ e' → 0 < x.p ∨ 0 < x.w) (ee : ∀ i, i ≠ h → some i ≠ e' → some i ≠ e)
    (ht : sumN m (fun i => (f i).p + (f i).t) - ((f h).p + (f h).t) + (x.p + x.t) + sumR amt l' = tot') : TT e' m (up f h x) l' tot' := by
  have ki : ∀ j, (up f h x j).k = (f j).k := fun j => by
    by_cases q : j = h
    · subst q; rw [up_same, xk]
    · rw [up_ne q]
  have ii : ∀ i, isIn (up f h x) i ↔ isIn f i := isIn_up fun _ => by rw [xk]
  have kk : ∀ i, sumN m (fun j => kid i (up f h x j)) = sumN m (fun j => kid i (f j)) := fun i => sumN_congr m fun j _ => by unfold kid; rw [ki]
  refine ⟨T.lo, fun i hi => ?_, by rw [ki]; exact T.k0, fun i => ?_, fun i => ?_, fun i s hs => ?_, rows, fun i hi => by rw [kk]; exact bal i hi, fun i hi => ?_, fun i him hi hie => ?_, ?_, ?_⟩
  · rw [up_ne (by omega)]; exact T.far i hi
  · by_cases q : i = h
    · subst q; rw [up_same]; exact xp
    · rw [up_ne q]; exact T.p i
  · by_cases q : i = h
    · subst q; rw [up_same]; exact xt
    · rw [up_ne q]; exact T.t i
  · rw [ki] at hs
    obtain ⟨s', h1, h2, h3⟩ := T.kr i s hs
    exact ⟨s', h1, h2, (ii s').mpr h3⟩
  · have hi' : ¬ isIn f i := fun z => hi ((ii i).mpr z)
    have hne : i ≠ h := fun z => hi' (by rw [z]; exact hin)
    rw [up_ne hne]
    exact T.out i hi'
  · by_cases q : i = h
    · subst q; rw [up_same]; exact bh hie
    · rw [up_ne q]; exact T.busy i him ((ii i).mp hi) (ee i q hie)
  · obtain ⟨r, hr⟩ := T.tree
    exact ⟨r, fun i s hs => hr i s (by rw [← ki]; exact hs)⟩
  · rw [sumN_up (G := fun x => x.p + x.t) m hh]
    exact ht

theorem TT.sent (T : TT none m f l tot) {h o : Nat} {p : Int} (hh : h < m) (ho : o < m) (p1 : 1 ≤ p) (pp : p ≤ (f h).p) : TT none m (up f h { f h with p := (f h).p - p, w := (f h).w + 1 }) (l ++ [.lt h o p]) tot := by
  have tt := T.tot
  refine T.upd hh none _ tot rfl (by show 0 ≤ (f h).p - p; omega) (T.t h) (T.inp (by omega)) (fun r hr => ?_) (fun i hi => ?_) (fun _ => .inr ?_) (fun _ _ z => z) ?_
  · rcases List.mem_append.mp hr with hr | hr
    · exact T.rows r hr
    · rw [List.mem_singleton.mp hr]; exact ⟨hh, ho, p1⟩
  · have b := T.bal i hi
    rw [sumR_snoc]
    by_cases q : i = h
    · subst q; rw [up_same]; simp only [owes, if_true]; omega
    · rw [up_ne q]; simp only [owes, if_neg (Ne.symm q)]; omega
  · have := T.w h; show 0 < (f h).w + 1; omega
  · rw [sumR_snoc]; simp only [amt]; omega
theorem TT.one (T : TT none m f l tot) {h : Nat} (pp : 0 < (f h).p) : TT (some h) m (up f h { f h with p := (f h).p - 1, t := (f h).t + 1 }) l tot := by
  have tt := T.tot
  have t0 := T.t h
  refine T.upd (T.lt_p pp) (some h) l tot rfl (by show 0 ≤ (f h).p - 1; omega) (by show 0 ≤ (f h).t + 1; omega) (T.inp pp) T.rows (fun i hi => ?_) (fun z => absurd rfl z) (fun i _ _ z => by cases z) (by simp only; omega)
  by_cases q : i = h
  · subst q; rw [up_same]; exact T.bal i hi
  · rw [up_ne q]; exact T.bal i hi
theorem TT.back (T : TT none m f l tot) {k g t : Nat} {y : Int} (hk : l[k]? = some (.an g t y)) : TT (some t) m (up f t { f t with w := (f t).w - 1, t := (f t).t + y }) (l.eraseIdx k) tot := by
  have tt := T.tot
  have hm := List.mem_of_getElem? hk
  obtain ⟨_, ht, y0⟩ := T.rows _ hm
  have t0 := T.t t
  have w0 := T.owed ht hm (by simp [owes])
  refine T.upd ht (some t) _ tot rfl (T.p t) (by show 0 ≤ (f t).t + y; omega) (T.inw w0) (fun r hr => T.rows r ((List.eraseIdx_sublist l k).subset hr)) (fun i hi => ?_) (fun z => absurd rfl z) (fun i _ _ z => by cases z) (by rw [sumR_erase l k _ hk]; simp only [amt]; omega)
  rw [sumR_erase l k _ hk]
  have b := T.bal i hi
  by_cases q : i = t
  · subst q; rw [up_same]; simp only [owes, if_true]; omega
  · rw [up_ne q]; simp only [owes, if_neg (Ne.symm q)]; omega
theorem TT.settleNo {h : Nat} (T : TT (some h) m f l tot) (hb : 0 < (f h).p ∨ 0 < (f h).w) : TT none m f l tot :=
  ⟨T.lo, T.far, T.k0, T.p, T.t, T.kr, T.rows, T.bal, T.out, fun i hi hin _ => by
      by_cases q : i = h
      · subst q; exact hb
      · exact T.busy i hi hin fun z => q (Option.some.inj z), T.tree, T.tot⟩
theorem TT.settleN {h : Nat} (T : TT (some h) m f l tot) (h0 : h ≠ 0) (hh : h < m) (hp : (f h).p = 0) (hw : (f h).w = 0) {s : Nat} (hk : (f h).k = some (s : Int)) : s < m ∧ TT none m (up f h z4) (l ++ [.an h s (f h).t]) tot := by
  obtain ⟨s', e1, hs, sin⟩ := T.kr h _ hk
  have e1 : s = s' := by omega
  subst e1
  obtain ⟨rk, hrk⟩ := T.tree
  have hsh : s ≠ h := fun z => by have := hrk h s hk; rw [z] at this; omega
  have nok : ∀ j, (f j).k ≠ some (h : Int) := fun j z => by have := T.kid1 hh z; omega
  have tt := T.tot
  have inb : ∀ i, i ≠ h → (isIn (up f h z4) i ↔ isIn f i) := fun i q => by unfold isIn; rw [up_ne q]
  have noth : ¬ isIn (up f h z4) h := fun z => by
    rcases z with z | z
    · exact h0 z
    · rw [up_same] at z; cases z
  refine ⟨hs, T.lo, fun i hi => ?_, ?_, fun i => ?_, fun i => ?_, fun i s'' hs' => ?_, fun r hr => ?_, fun i hi => ?_, fun i hi => ?_, fun i him hi _ => ?_, ⟨rk, fun i s' hs' => ?_⟩, ?_⟩
  · rw [up_ne (by omega)]; exact T.far i hi
  · rw [up_ne (Ne.symm h0)]; exact T.k0
  · by_cases q : i = h
    · subst q; rw [up_same]; decide
    · rw [up_ne q]; exact T.p i
  · by_cases q : i = h
    · subst q; rw [up_same]; decide
    · rw [up_ne q]; exact T.t i
  · by_cases q : i = h
    · subst q; rw [up_same] at hs'; cases hs'
    · rw [up_ne q] at hs'
      obtain ⟨s1, h1, h2, h3⟩ := T.kr i s'' hs'
      refine ⟨s1, h1, h2, (inb s1 fun z => nok i ?_).mpr h3⟩
      rw [hs', h1, z]
  · rcases List.mem_append.mp hr with hr | hr
    · exact T.rows r hr
    · rw [List.mem_singleton.mp hr]; exact ⟨hh, hs, T.t h⟩
  · have b := T.bal i hi
    have ks := sumN_up (f := f) (G := kid i) (x := z4) m hh
    have kz : kid i z4 = 0 := by unfold kid; rw [if_neg (by simp [z4])]
    have kh : kid i (f h) = if i = s then 1 else 0 := by
      unfold kid; rw [hk]
      by_cases q : i = s
      · subst q; simp
      · rw [if_neg (by simp; omega), if_neg q]
    rw [sumR_snoc, ks, kz, kh]
    by_cases q : i = h
    · subst q
      rw [up_same]
      rw [hw] at b
      simp only [owes, if_neg hsh, if_neg (Ne.symm hsh)]
      show (0 : Int) = _
      omega
    · rw [up_ne q]
      by_cases z : i = s
      · subst z; simp only [owes, if_true]; omega
      · simp only [owes, if_neg z, if_neg (Ne.symm z)]; omega
  · by_cases q : i = h
    · subst q; rw [up_same]
    · rw [up_ne q]; exact T.out i fun z => hi ((inb i q).mpr z)
  · by_cases q : i = h
    · subst q; exact absurd hi noth
    · rw [up_ne q]; exact T.busy i him ((inb i q).mp hi) fun z => q (Option.some.inj z)
  · by_cases q : i = h
    · subst q; rw [up_same] at hs'; cases hs'
    · rw [up_ne q] at hs'; exact hrk i s' hs'
  · rw [sumN_up (G := fun x => x.p + x.t) m hh, sumR_snoc]
    simp only [amt, z4]
    omega
/-- the first hand's end is the end of all -/
theorem TT.noKid (T : TT e m f l tot) (hw : (f 0).w = 0) : ∀ i, (f i).k = none := by
  obtain ⟨rk, hrk⟩ := T.tree
  have key : ∀ n i, rk i ≤ n → (f i).k ≠ none → False := by
    intro n
    induction n with
    | zero =>
      intro i hi hk
      obtain ⟨s, hs⟩ := Option.ne_none_iff_exists'.mp hk
      obtain ⟨s', rfl, hs', _⟩ := T.kr i s hs
      have := hrk i s' hs
      omega
    | succ n ih =>
      intro i hi hk
      obtain ⟨s, hs⟩ := Option.ne_none_iff_exists'.mp hk
      obtain ⟨s', rfl, hs', sin⟩ := T.kr i s hs
      have := hrk i s' hs
      rcases sin with rfl | sin
      · have := T.kid1 T.lo hs; omega
      · exact ih s' (by omega) fun z => by rw [z] at sin; cases sin
  intro i
  cases q : (f i).k with
  | none => rfl
  | some s => exact (key (rk i) i (Nat.le_refl _) (by rw [q]; exact nofun)).elim
theorem TT.settle0 (T : TT e m f l tot) (hp : (f 0).p = 0) (hw : (f 0).w = 0) : l = [] ∧ (∀ i, i ≠ 0 → f i = z4) ∧ (f 0).t = tot := by
  have nk := T.noKid hw
  have nin : ∀ i, i ≠ 0 → ¬ isIn f i := fun i hi z => by
    rcases z with z | z
    · exact hi z
    · rw [nk i] at z; cases z
  have z := fun i hi => T.out i (nin i hi)
  have hl : l = [] := by
    cases q : l with
    | nil => rfl
    | cons r l' =>
      exfalso
      have hr : r ∈ l := by rw [q]; exact .head _
      have ri := T.rows r hr
      cases r with
      | lt s n p =>
        have := T.owed ri.1 hr (by simp [owes])
        by_cases q : s = 0
        · subst q; omega
        · rw [z s q] at this; exact absurd this (by decide)
      | an g t y =>
        have := T.owed ri.2.1 hr (by simp [owes])
        by_cases q : t = 0
        · subst q; omega
        · rw [z t q] at this; exact absurd this (by decide)
  refine ⟨hl, z, ?_⟩
  have tt := T.tot
  rw [hl] at tt
  have : ∀ n, 1 ≤ n → sumN n (fun i => (f i).p + (f i).t) = (f 0).t := by
    intro n hn
    induction n with
    | zero => omega
    | succ n ih =>
      simp only [sumN]
      by_cases q : n = 0
      · subst q; simp only [sumN, hp]; omega
      · rw [ih (by omega), z n q]; show _ + (0 + 0) = _; omega
  rw [this m T.lo] at tt
  simp only [sumR] at tt
  omega
theorem TT.cameIn (T : TT none m f l tot) {k s n : Nat} {p : Int} (hk : l[k]? = some (.lt s n p)) (hin : isIn f n) : TT none m (up f n { f n with p := (f n).p + p }) (l.eraseIdx k ++ [.an n s 0]) tot := by
  have tt := T.tot
  have hm := List.mem_of_getElem? hk
  obtain ⟨hs, hn, p1⟩ := T.rows _ hm
  have p0 := T.p n
  refine T.upd hn none _ tot rfl (by show 0 ≤ (f n).p + p; omega) (T.t n) hin (fun r hr => ?_) (fun i hi => ?_) (fun _ => .inl (by show 0 < (f n).p + p; omega)) (fun _ _ z => z) (by rw [sumR_snoc, sumR_erase l k _ hk]; simp only [amt]; omega)
  · rcases List.mem_append.mp hr with hr | hr
    · exact T.rows r ((List.eraseIdx_sublist l k).subset hr)
    · rw [List.mem_singleton.mp hr]; exact ⟨hn, hs, Int.le_refl 0⟩
  · rw [sumR_snoc, sumR_erase l k _ hk]
    have b := T.bal i hi
    have e : (up f n { f n with p := (f n).p + p } i).w = (f i).w := by
      by_cases q : i = n
      · subst q; rw [up_same]
      · rw [up_ne q]
    rw [e]
    simp only [owes]; omega
theorem TT.cameOut (T : TT none m f l tot) {k s n : Nat} {p : Int} (hk : l[k]? = some (.lt s n p)) (hin : ¬ isIn f n) : TT none m (up f n { f n with p := (f n).p + p, k := some (s : Int) }) (l.eraseIdx k) tot := by
  have tt := T.tot
  have hm := List.mem_of_getElem? hk
  obtain ⟨hs, hn, p1⟩ := T.rows _ hm
  have ws := T.owed hs hm (by simp [owes])
  have sin := T.inw ws
  have nz : n ≠ 0 := fun z => hin (.inl z)
  have fz := T.out n hin
  have nok : ∀ j, (f j).k ≠ some (n : Int) := fun j z => by have := T.kid1 hn z; rw [fz] at this; exact absurd this (by decide)
  have hsn : s ≠ n := fun z => hin (z ▸ sin)
  obtain ⟨rk, hrk⟩ := T.tree
  rw [fz]
  have x0 : ({ z4 with p := z4.p + p, k := some (s : Int) } : Hd) = ⟨p, 0, some (s : Int), 0⟩ := by simp [z4]
  rw [x0]
  have inb : ∀ i, i ≠ n → (isIn (up f n ⟨p, 0, some (s : Int), 0⟩) i ↔ isIn f i) := fun i q => by unfold isIn; rw [up_ne q]
  have inn : isIn (up f n ⟨p, 0, some (s : Int), 0⟩) n := .inr (by rw [up_same]; rfl)
  refine ⟨T.lo, fun i hi => ?_, ?_, fun i => ?_, fun i => ?_, fun i s'' hs' => ?_, fun r hr => T.rows r ((List.eraseIdx_sublist l k).subset hr), fun i hi => ?_, fun i hi => ?_, fun i him hi _ => ?_, ⟨fun i => if i = n then rk s + 1 else rk i, fun i s' hs' => ?_⟩, ?_⟩
  · rw [up_ne (by omega)]; exact T.far i hi
  · rw [up_ne (Ne.symm nz)]; exact T.k0
  · by_cases q : i = n
    · subst q; rw [up_same]; show 0 ≤ p; omega
    · rw [up_ne q]; exact T.p i
  · by_cases q : i = n
    · subst q; rw [up_same]; exact Int.le_refl 0
    · rw [up_ne q]; exact T.t i
  · by_cases q : i = n
    · subst q
      rw [up_same] at hs'
      exact ⟨s, (Option.some.inj hs').symm, hs, (inb s hsn).mpr sin⟩
    · rw [up_ne q] at hs'
      obtain ⟨s1, h1, h2, h3⟩ := T.kr i s'' hs'
      refine ⟨s1, h1, h2, ?_⟩
      by_cases z : s1 = n
      · rw [z]; exact inn
      · exact (inb s1 z).mpr h3
  · have b := T.bal i hi
    have ks := sumN_up (f := f) (G := kid i) (x := ⟨p, 0, some (s : Int), 0⟩) m hn
    have kz : kid i (f n) = 0 := by rw [fz]; unfold kid; rw [if_neg (by simp [z4])]
    have kh : kid i ⟨p, 0, some (s : Int), 0⟩ = if i = s then 1 else 0 := by
      unfold kid
      by_cases q : i = s
      · subst q; simp
      · rw [if_neg (by simp; omega), if_neg q]
    rw [sumR_erase l k _ hk, ks, kz, kh]
    by_cases q : i = n
    · subst q
      rw [up_same]
      rw [fz] at b
      simp only [z4] at b
      simp only [owes, if_neg hsn, if_neg (Ne.symm hsn)]
      omega
    · rw [up_ne q]
      by_cases z : i = s
      · subst z; simp only [owes, if_true]; omega
      · simp only [owes, if_neg z, if_neg (Ne.symm z)]; omega
  · by_cases q : i = n
    · subst q; exact absurd inn hi
    · rw [up_ne q]; exact T.out i fun z => hi ((inb i q).mpr z)
  · by_cases q : i = n
    · subst q; rw [up_same]; exact .inl (by show 0 < p; omega)
    · rw [up_ne q]; exact T.busy i him ((inb i q).mp hi) nofun
  · by_cases q : i = n
    · subst q
      rw [up_same] at hs'
      have : s' = s := by have := Option.some.inj hs'; omega
      subst this
      simp only [if_neg hsn, if_true]; omega
    · rw [up_ne q] at hs'
      have hsn' : s' ≠ n := fun z => nok i (by rw [hs', z])
      simp only [if_neg hsn', if_neg q]
      exact hrk i s' hs'
  · rw [sumN_up (G := fun x => x.p + x.t) m hn, sumR_erase l k _ hk, fz]
    simp only [amt, z4]
    omega
end

set_option autoImplicit false

set_option maxHeartbeats 2000000
set_option linter.unusedVariables false
set_option linter.unusedSimpArgs false
open PySem

noncomputable def endRow (t : Int) : V := .tup [sV "end", .int t]
noncomputable def woken (n s : Int) : V := .tup [sV "woken", .int n, .int s]
/-- what a deed tells -/
inductive Eo where
  | no
  | lt (h o : Nat) (p : Int)
  | an (g t : Nat) (y : Int)
  | wk (n s : Nat)
  | en (t : Int)
noncomputable def Eo.R : Eo → List V
  | .no => []
  | .lt h o p => [letter h o p]
  | .an g t y => [ans g t y]
  | .wk n s => [woken n s]
  | .en t => [endRow t]
noncomputable def Eo.c : Eo → Int
  | .lt _ _ _ => 1
  | .an _ _ _ => -1
  | _ => 0
noncomputable def Eo.isEnd : Eo → Bool
  | .en _ => true
  | _ => false
theorem Eo.len (e : Eo) : e.R.length ≤ 1 := by cases e <;> simp [Eo.R]
theorem rV_get {l : List Rw} {k : Nat} {r : Rw} (h : l[k]? = some r) : (rV l)[k]? = some r.v := by
  unfold rV; rw [List.getElem?_map, h]; rfl

noncomputable def lrow : Rw → Int
  | .lt _ _ p => p + 1
  | .an _ _ _ => 0
noncomputable def nA : Rw → Int
  | .lt _ _ _ => 0
  | .an _ _ _ => 1
noncomputable def lft (m : Nat) (f : Nat → Hd) (l : List Rw) : Int := sumN m (fun i => (f i).p + (f i).w) + sumR lrow l
noncomputable def dlt (m : Nat) (f : Nat → Hd) (l : List Rw) : Int := sumN m (fun i => (f i).w) - sumR nA l
noncomputable def JJ (m : Nat) (f : Nat → Hd) (go : Bool) (l : List Rw) (tot : Int) : Prop := (go = true ∧ TT none m f l tot) ∨ (go = false ∧ 1 ≤ m ∧ (∀ i, f i = z4) ∧ l = [] ∧ tot = 0)
structure Stp (m : Nat) (f : Nat → Hd) (l : List Rw) (tot d : Int) (e : Eo) (f' : Nat → Hd) (go' : Bool) (l' : List Rw) (tot' : Int) : Prop where
  j : JJ m f' go' l' tot'
  left : lft m f' l' = lft m f l + d
  dl : dlt m f' l' = dlt m f l + e.c
  en : e.isEnd = true → go' = false ∧ e = .en tot ∧ tot' = 0
  ne : e.isEnd = false → go' = true ∧ tot' = tot
  len : l'.length ≤ l.length + 1
theorem lft_up {m h : Nat} {f : Nat → Hd} {x : Hd} {l l' : List Rw} (hh : h < m) : lft m (up f h x) l' = lft m f l - ((f h).p + (f h).w) + (x.p + x.w) - sumR lrow l + sumR lrow l' := by
  unfold lft
  rw [sumN_up (G := fun x => x.p + x.w) m hh]
  omega
theorem dlt_up {m h : Nat} {f : Nat → Hd} {x : Hd} {l l' : List Rw} (hh : h < m) : dlt m (up f h x) l' = dlt m f l - (f h).w + x.w + sumR nA l - sumR nA l' := by
  unfold dlt
  rw [sumN_up (G := fun x => x.w) m hh]
  omega
theorem sumN_zero {g : Nat → Int} : ∀ (m : Nat), (∀ i < m, g i = 0) → sumN m g = 0
  | 0, _ => rfl
  | m + 1, h => by
    simp only [sumN]
    rw [sumN_zero m fun i hi => h i (by omega), h m (by omega)]; rfl

section
variable {m : Nat} {f : Nat → Hd} {go : Bool} {l : List Rw} {tot : Int} {kn : List V}
theorem JJ.lo (J : JJ m f go l tot) : 1 ≤ m := by
  rcases J with ⟨_, T⟩ | ⟨_, h, _⟩
  · exact T.lo
  · exact h
theorem JJ.goes (J : JJ m f go l tot) {h : Nat} (hp : 0 < (f h).p) : go = true ∧ TT none m f l tot := by
  rcases J with J | ⟨_, _, z, _⟩
  · exact J
  · rw [z h] at hp; exact absurd hp (by decide)
theorem JJ.goesR (J : JJ m f go l tot) {k : Nat} {r : Rw} (hk : l[k]? = some r) : go = true ∧ TT none m f l tot := by
  rcases J with J | ⟨_, _, _, z, _⟩
  · exact J
  · rw [z] at hk; cases hk
theorem JJ.rows (J : JJ m f go l tot) : ∀ r ∈ l, rowIn m r := by
  rcases J with ⟨_, T⟩ | ⟨_, _, _, z, _⟩
  · exact T.rows
  · rw [z]; intro r hr; cases hr
theorem JJ.begin (J : JJ m f false l tot) {i : Int} (h : 1 ≤ i) : JJ m (up f 0 { f 0 with p := i }) true l i := by
  rcases J with ⟨z, _⟩ | ⟨_, lo, z, hl, _⟩
  · cases z
  · subst hl
    have z0 : f = fun _ => z4 := funext z
    subst z0
    have u : ∀ j, j ≠ 0 → up (fun _ => z4) 0 { z4 with p := i } j = z4 := fun j hj => up_ne hj
    refine .inl ⟨rfl, lo, fun j hj => u j (by omega), by rw [up_same]; rfl, fun j => ?_, fun j => ?_, fun j s hs => ?_, (fun r hr => nomatch hr), fun j hj => ?_, fun j hj => ?_, fun j hj hin _ => ?_, ⟨fun _ => 0, fun j s hs => ?_⟩, ?_⟩
    · by_cases q : j = 0
      · subst q; rw [up_same]; show 0 ≤ i; omega
      · rw [u j q]; decide
    · by_cases q : j = 0
      · subst q; rw [up_same]; exact Int.le_refl 0
      · rw [u j q]; decide
    · by_cases q : j = 0
      · subst q; rw [up_same] at hs; cases hs
      · rw [u j q] at hs; cases hs
    · have : sumN m (fun k => kid j (up (fun _ => z4) 0 { z4 with p := i } k)) = 0 := sumN_zero m fun k _ => by
        unfold kid
        rw [if_neg]
        by_cases q : k = 0
        · subst q; rw [up_same]; exact nofun
        · rw [u k q]; exact nofun
      rw [this]
      by_cases q : j = 0
      · subst q; rw [up_same]; rfl
      · rw [u j q]; rfl
    · refine u j fun q => hj (.inl q)
    · rcases hin with q | q
      · subst q; rw [up_same]; exact .inl (by show 0 < i; omega)
      · by_cases z : j = 0
        · subst z; rw [up_same] at q; cases q
        · rw [u j z] at q; cases q
    · by_cases q : j = 0
      · subst q; rw [up_same] at hs; cases hs
      · rw [u j q] at hs; cases hs
    · rw [sumN_up (f := fun _ => z4) (G := fun x => x.p + x.t) m lo, sumN_zero (g := fun _ => z4.p + z4.t) m fun _ _ => rfl]
      simp [sumR, z4]
theorem JJ.new (h : 1 ≤ m) : JJ m (fun _ => z4) false [] 0 := .inr ⟨rfl, h, fun _ => rfl, rfl, rfl⟩

theorem settle_step {h : Nat} (T : TT (some h) m f l tot) (hh : h < m) (hin : isIn f h) : ∃ e f' go' l' tot', (cf m f true (rV l) kn).settle (h : Int) = (cf m f' go' (rV l') kn, e.R) ∧ Stp m f l tot 0 e f' go' l' tot' := by
  have p0 := T.p h
  have w0 := T.w h
  have hm : (h : Int).toNat < m := by omega
  by_cases hb : 0 < (f h).p ∨ 0 < (f h).w
  · refine ⟨.no, f, true, l, tot, ?_, .inl ⟨rfl, T.settleNo hb⟩, by omega, by simp [Eo.c], nofun, fun _ => ⟨rfl, rfl⟩, by omega⟩
    refine cf_settle_no hm ?_
    rw [Int.toNat_natCast]
    rcases hb with hb | hb
    · exact .inl hb
    · exact .inr (.inl hb)
  · have hp : (f h).p = 0 := by omega
    have hw : (f h).w = 0 := by omega
    by_cases h0 : h = 0
    · subst h0
      obtain ⟨hl, hz, ht⟩ := T.settle0 hp hw
      subst hl
      have ez : up f 0 { f 0 with t := 0 } = fun _ => z4 := by
        funext j
        by_cases q : j = 0
        · subst q
          rw [up_same]
          show (⟨(f 0).p, (f 0).w, (f 0).k, 0⟩ : Hd) = z4
          rw [hp, hw, T.k0]; rfl
        · rw [up_ne q, hz j q]
      refine ⟨.en tot, fun _ => z4, false, [], 0, ?_, JJ.new T.lo, ?_, ?_, fun _ => ⟨rfl, rfl, rfl⟩, nofun, by simp⟩
      · have := cf_settle_0 (m := m) (f := f) (go := true) (rl := rV []) (kn := kn) hh (by omega) (by omega) rfl
        rw [ez, ht] at this
        exact this
      · unfold lft
        rw [sumN_zero (g := fun i => ((fun _ => z4) i : Hd).p + ((fun _ => z4) i : Hd).w) m fun _ _ => rfl, sumN_zero (g := fun i => (f i).p + (f i).w) m fun i _ => ?_]
        · rfl
        · by_cases q : i = 0
          · subst q; rw [hp, hw]; rfl
          · rw [hz i q]; rfl
      · unfold dlt
        rw [sumN_zero (g := fun i => ((fun _ => z4) i : Hd).w) m fun _ _ => rfl, sumN_zero (g := fun i => (f i).w) m fun i _ => ?_]
        · rfl
        · by_cases q : i = 0
          · subst q; rw [hw]
          · rw [hz i q]; rfl
    · obtain ⟨s, hs⟩ := Option.isSome_iff_exists.mp (hin.resolve_left h0)
      obtain ⟨s', rfl, _, _⟩ := T.kr h s hs
      obtain ⟨sm, T'⟩ := T.settleN h0 hh hp hw hs
      have ex : ({ f h with k := none, t := 0 } : Hd) = z4 := by
        show (⟨(f h).p, (f h).w, none, 0⟩ : Hd) = z4
        rw [hp, hw]; rfl
      refine ⟨.an h s' (f h).t, up f h z4, true, l ++ [.an h s' (f h).t], tot, ?_, .inl ⟨rfl, T'⟩, ?_, ?_, nofun, fun _ => ⟨rfl, rfl⟩, by simp⟩
      · have := cf_settle_n (m := m) (f := f) (go := true) (rl := rV l) (kn := kn) (i := (h : Int)) (s := (s' : Int)) hm (by omega) (by rw [Int.toNat_natCast]; omega) (by rw [Int.toNat_natCast]; omega) (by rw [Int.toNat_natCast]; exact hs)
        rw [Int.toNat_natCast, ex] at this
        rw [this, ← rV_snoc]
        rfl
      · rw [lft_up (l := l) hh, sumR_snoc]; simp only [lrow, z4]; omega
      · rw [dlt_up (l := l) hh, sumR_snoc]; simp only [nA, z4, Eo.c]; omega
theorem Stp.trans {f₁ : Nat → Hd} {l₁ : List Rw} {d : Int} {e : Eo} {f' : Nat → Hd} {go' : Bool} {l' : List Rw} {tot' : Int} (hl : lft m f₁ l₁ = lft m f l + d) (hd : dlt m f₁ l₁ = dlt m f l) (hn : l₁.length ≤ l.length) (S : Stp m f₁ l₁ tot 0 e f' go' l' tot') : Stp m f l tot d e f' go' l' tot' :=
  ⟨S.j, by rw [S.left, hl]; omega, by rw [S.dl, hd], S.en, S.ne, Nat.le_trans S.len (by omega)⟩

theorem do_step (J : JJ m f go l tot) {h : Nat} (hp : 0 < (f h).p) : go = true ∧ ∃ e f' go' l' tot', (cf m f go (rV l) kn).doit (h : Int) = cf m f' go' (rV l') (kn ++ e.R) ∧ (((cf m f go (rV l) kn).one (h : Int)).settle (h : Int)).2 = e.R ∧ Stp m f l tot (-1) e f' go' l' tot' := by
  obtain ⟨rfl, T⟩ := J.goes hp
  have hh := T.lt_p hp
  have hm : (h : Int).toNat < m := by omega
  have T1 := T.one hp
  have hin : isIn (up f h { f h with p := (f h).p - 1, t := (f h).t + 1 }) h := (isIn_up (f := f) (h := h) (x := { f h with p := (f h).p - 1, t := (f h).t + 1 }) (fun _ => rfl) h).mpr (T.inp hp)
  obtain ⟨e, f', go', l', tot', es, S⟩ := settle_step (kn := kn) T1 hh hin
  refine ⟨rfl, e, f', go', l', tot', ?_, ?_, S.trans ?_ ?_ (Nat.le_refl _)⟩
  · unfold Co.doit
    rw [cf_one hm, Int.toNat_natCast, es]
    rfl
  · rw [cf_one hm, Int.toNat_natCast, es]
  · rw [lft_up (l := l) hh]; simp only; omega
  · rw [dlt_up (l := l) hh]; simp only; omega

theorem sent_step (J : JJ m f go l tot) {h o : Nat} {p : Int} (hh : h < m) (ho : o < m) (p1 : 1 ≤ p) (pp : p ≤ (f h).p) : go = true ∧ ∃ f' l', (cf m f go (rV l) kn).sent (h : Int) (o : Int) p = cf m f' go (rV l') (kn ++ [letter h o p]) ∧ Stp m f l tot 2 (.lt h o p) f' go l' tot := by
  obtain ⟨rfl, T⟩ := J.goes (h := h) (by omega)
  have hm : (h : Int).toNat < m := by omega
  refine ⟨rfl, up f h { f h with p := (f h).p - p, w := (f h).w + 1 }, l ++ [.lt h o p], ?_, .inl ⟨rfl, T.sent hh ho p1 pp⟩, ?_, ?_, nofun, fun _ => ⟨rfl, rfl⟩, by simp⟩
  · rw [cf_sent hm, Int.toNat_natCast, ← rV_snoc]; rfl
  · rw [lft_up (l := l) hh, sumR_snoc]; simp only [lrow]; omega
  · rw [dlt_up (l := l) hh, sumR_snoc]; simp only [nA, Eo.c]; omega

theorem came_step (J : JJ m f go l tot) {k s n : Nat} {p : Int} (hk : l[k]? = some (.lt s n p)) : go = true ∧ ∃ e f' l', Co.note (({ cf m f go (rV l) kn with rl := (cf m f go (rV l) kn).rl.eraseIdx k } : Co).came (s : Int) (n : Int) p) = cf m f' go (rV l') (kn ++ e.R) ∧ (({ cf m f go (rV l) kn with rl := (cf m f go (rV l) kn).rl.eraseIdx k } : Co).came (s : Int) (n : Int) p).2 = e.R ∧ Stp m f l tot (-1) e f' go l' tot ∧ (e = .an n s 0 ∨ e = .wk n s) := by
  obtain ⟨rfl, T⟩ := J.goesR hk
  obtain ⟨hs, hn, p1⟩ := T.rows _ (List.mem_of_getElem? hk)
  have hm : (n : Int).toNat < m := by omega
  have eC : ({ cf m f true (rV l) kn with rl := (cf m f true (rV l) kn).rl.eraseIdx k } : Co) = cf m f true (rV (l.eraseIdx k)) kn := by rw [← rV_erase]; rfl
  rw [eC]
  have le := List.length_eraseIdx_le l k
  by_cases hin : isIn f n
  · have hi' : (if (n : Int) = 0 then true else (f (n : Int).toNat).k.isSome) = true := by
      rw [Int.toNat_natCast]
      split
      · rfl
      · exact hin.resolve_left (by omega)
    refine ⟨rfl, .an n s 0, up f n { f n with p := (f n).p + p }, l.eraseIdx k ++ [.an n s 0], ?_, ?_, ⟨.inl ⟨rfl, T.cameIn hk hin⟩, ?_, ?_, nofun, fun _ => ⟨rfl, rfl⟩, by simp; omega⟩, .inl rfl⟩
    · rw [cf_came_in hm hi', Int.toNat_natCast, ← rV_snoc]; rfl
    · rw [cf_came_in hm hi']; rfl
    · rw [lft_up (l := l) hn, sumR_snoc, sumR_erase l k _ hk]; simp only [lrow]; omega
    · rw [dlt_up (l := l) hn, sumR_snoc, sumR_erase l k _ hk]; simp only [nA, Eo.c]; omega
  · have nz : n ≠ 0 := fun z => hin (.inl z)
    have ns : (f n).k.isSome = false := by cases q : (f n).k.isSome with | false => rfl | true => exact (hin (.inr q)).elim
    refine ⟨rfl, .wk n s, up f n { f n with p := (f n).p + p, k := some (s : Int) }, l.eraseIdx k, ?_, ?_, ⟨.inl ⟨rfl, T.cameOut hk hin⟩, ?_, ?_, nofun, fun _ => ⟨rfl, rfl⟩, by omega⟩, .inr rfl⟩
    · rw [cf_came_out hm (by rw [Int.toNat_natCast, if_neg (by omega)]; exact ns), Int.toNat_natCast]; rfl
    · rw [cf_came_out hm (by rw [Int.toNat_natCast, if_neg (by omega)]; exact ns)]; rfl
    · rw [lft_up (l := l) hn, sumR_erase l k _ hk]; simp only [lrow]; omega
    · rw [dlt_up (l := l) hn, sumR_erase l k _ hk]; simp only [nA, Eo.c]; omega

theorem back_step (J : JJ m f go l tot) {k g t : Nat} {y : Int} (hk : l[k]? = some (.an g t y)) : go = true ∧ ∃ e f' go' l' tot', Co.note ((({ cf m f go (rV l) kn with rl := (cf m f go (rV l) kn).rl.eraseIdx k } : Co).back (t : Int) y).settle (t : Int)) = cf m f' go' (rV l') (kn ++ e.R) ∧ ((({ cf m f go (rV l) kn with rl := (cf m f go (rV l) kn).rl.eraseIdx k } : Co).back (t : Int) y).settle (t : Int)).2 = e.R ∧ Stp m f l tot (-1) e f' go' l' tot' := by
  obtain ⟨rfl, T⟩ := J.goesR hk
  have hmem := List.mem_of_getElem? hk
  obtain ⟨_, ht, y0⟩ := T.rows _ hmem
  have hm : (t : Int).toNat < m := by omega
  have eC : ({ cf m f true (rV l) kn with rl := (cf m f true (rV l) kn).rl.eraseIdx k } : Co) = cf m f true (rV (l.eraseIdx k)) kn := by rw [← rV_erase]; rfl
  rw [eC]
  have le := List.length_eraseIdx_le l k
  have T1 := T.back hk
  have hin : isIn (up f t { f t with w := (f t).w - 1, t := (f t).t + y }) t := (isIn_up (f := f) (h := t) (x := { f t with w := (f t).w - 1, t := (f t).t + y }) (fun _ => rfl) t).mpr (T.inw (T.owed ht hmem (by simp [owes])))
  obtain ⟨e, f', go', l', tot', es, S⟩ := settle_step (kn := kn) T1 ht hin
  refine ⟨rfl, e, f', go', l', tot', ?_, ?_, S.trans ?_ ?_ le⟩
  · rw [cf_back hm, Int.toNat_natCast, es]; rfl
  · rw [cf_back hm, Int.toNat_natCast, es]
  · rw [lft_up (l := l) ht, sumR_erase l k _ hk]; simp only [lrow]; omega
  · rw [dlt_up (l := l) ht, sumR_erase l k _ hk]; simp only [nA]; omega
end

set_option autoImplicit false

set_option maxHeartbeats 2000000
set_option linter.unusedVariables false
set_option linter.unusedSimpArgs false
open PySem

structure KD (c : Ctx) : Prop where
  isf : Def c sg "is_from" p_is_from b_is_from
  pini : Def c sg "Post.__init__" p_Post___init__ b_Post___init__
  put : Def c sg "Post.put" p_Post_put b_Post_put
  take : Def c sg "Post.take" p_Post_take b_Post_take
  pund : Def c sg "Post.under" p_Post_under b_Post_under
  ini : Def c sg "Company.__init__" p_Company___init__ b_Company___init__
  need : Def c sg "Company.need_hand" p_Company_need_hand b_Company_need_hand
  isin : Def c sg "Company.is_in" p_Company_is_in b_Company_is_in
  noted : Def c sg "Company.noted" p_Company_noted b_Company_noted
  settled : Def c sg "Company.settled" p_Company_settled b_Company_settled
  beg : Def c sg "Company.begin" p_Company_begin b_Company_begin
  do_ : Def c sg "Company.do" p_Company_do b_Company_do
  hon : Def c sg "Company.hand_on" p_Company_hand_on b_Company_hand_on
  came : Def c sg "Company.letter_came" p_Company_letter_came b_Company_letter_came
  carry : Def c sg "Company.carry" p_Company_carry b_Company_carry
  hand : Def c sg "Company.hand" p_Company_hand b_Company_hand
  under : Def c sg "Company.under" p_Company_under b_Company_under
  runs : Def c sg "Company.runs" p_Company_runs b_Company_runs
  log : Def c sg "Company.log" p_Company_log b_Company_log
  cell : Def c sg "_law_cell_at" p__law_cell_at b__law_cell_at
  mixed : Def c sg "_law_mixed" p__law_mixed b__law_mixed
  many : Def c sg "_law_many_by" p__law_many_by b__law_many_by
  next : Def c sg "_law_next" p__law_next b__law_next
  done : Def c sg "_law_done" p__law_done b__law_done

noncomputable def After (μ : Mem) (a : Ad) (m : Nat) (f : Nat → Hd) (l : List Rw) (tot : Int) (kn : List V) (d : Int) (Q : V → Mem → Prop) : Prop :=
  ∀ μ' a' r e f' go' l' tot', a'.c = a.c → Comp μ' a' (cf m f' go' (rV l') (kn ++ e.R)) → Stp m f l tot d e f' go' l' tot' → Keep a a' μ μ' → μ' r = some (.list e.R) → r ∉ a'.list → μ r = none → Q (.ref r) μ'
/-- a deed that can be done: a letter handed on (b), a piece done, a row that arrives -/
noncomputable def Deed (m : Nat) (f : Nat → Hd) (l : List Rw) (b : Bool) (v : V) : Prop :=
  (b = true ∧ ∃ (h o : Nat) (p : Int), v = .tup [sV "hand", .int h, .int o, .int p] ∧ h < m ∧ o < m ∧ 1 ≤ p ∧ p ≤ (f h).p) ∨
  (b = false ∧ ∃ h : Nat, v = .tup [sV "do", .int h] ∧ 0 < (f h).p) ∨
  (b = false ∧ ∃ k : Nat, v = .tup [sV "carry", .int k] ∧ k < l.length)

theorem row_lt {r : Rw} {s n p : Int} (h : letter s n p = r.v) : ∃ s' n' : Nat, r = .lt s' n' p ∧ s = s' ∧ n = n' := by
  cases r with
  | lt a b d =>
    simp only [Rw.v, letter, V.tup.injEq, List.cons.injEq, V.int.injEq, and_true, true_and] at h
    obtain ⟨rfl, rfl, rfl⟩ := h
    exact ⟨a, b, rfl, rfl, rfl⟩
  | an a b d =>
    simp only [Rw.v, letter, ans] at h
    injection h with h
    injection h with h
    exact absurd h (by unfold sV; intro q; injection q with q; exact absurd q (by decide +kernel))
theorem row_an {r : Rw} {s n p : Int} (h : ans s n p = r.v) : ∃ s' n' : Nat, r = .an s' n' p ∧ s = s' ∧ n = n' := by
  cases r with
  | an a b d =>
    simp only [Rw.v, ans, V.tup.injEq, List.cons.injEq, V.int.injEq, and_true, true_and] at h
    obtain ⟨rfl, rfl, rfl⟩ := h
    exact ⟨a, b, rfl, rfl, rfl⟩
  | lt a b d =>
    simp only [Rw.v, letter, ans] at h
    injection h with h
    injection h with h
    exact absurd h (by unfold sV; intro q; injection q with q; exact absurd q (by decide +kernel))

section
variable {c : Ctx} (G : Good c sg) (K : KD c)
include G K
variable {hd : Bool} {μ : Mem} {Q : V → Mem → Prop} {X : String → Mem → Prop} {a : Ad} {m : Nat} {f : Nat → Hd} {go : Bool} {l : List Rw} {tot : Int} {kn rl : List V}

theorem hand_J (m1 : 1 ≤ m) (m2 : m ≤ 60) (hC : Comp μ a (cf m f go rl kn)) {h : Nat} (hh : h < m) (hQ : Q (.tup [.int (f h).p, .int (f h).w, oV (f h).k, .int (f h).t]) μ) : SC c 3 hd "Company.hand" [.ref a.c, .int h] μ Q X := by
  have hm : (h : Int).toNat < m := by omega
  refine sc_up (hand_spec G K.isf K.need K.hand hC (cf_ok m1 m2) (fun _ => ?_) (fun q => absurd ⟨by omega, by rw [cf_len]; omega⟩ q)) (by decide)
  rw [cf_P hm, cf_W hm, cf_K hm, cf_T hm, Int.toNat_natCast]
  exact hQ
theorem do_J (m2 : m ≤ 60) (J : JJ m f go l tot) (hC : Comp μ a (cf m f go (rV l) kn)) (zl : l.length < 100000) (zk : kn.length < 100000) {h : Nat} (hp : 0 < (f h).p) (k : After μ a m f l tot kn (-1) Q) : SC c 3 false "Company.do" [.ref a.c, .int h] μ Q X := by
  obtain ⟨rfl, e, f', go', l', tot', e1, e2, S⟩ := do_step (kn := kn) J hp
  have hh := (J.goes hp).2.lt_p hp
  have hm : (h : Int).toNat < m := by omega
  refine do_spec G K.isf K.need K.isin K.put K.settled K.noted K.do_ hC (cf_ok J.lo m2) (by show (rV l).length < 1048576; rw [rV_len]; omega) (by show kn.length < 1048576; omega) (fun q => absurd ⟨by omega, by rw [cf_len]; omega⟩ q) (fun _ q => ?_) (fun _ _ μ' r hC' o' hr nr r0 => ?_)
  · rw [cf_P hm, Int.toNat_natCast] at q; omega
  · rw [e1] at hC'
    rw [e2] at hr
    exact k μ' a r e f' go' l' tot' rfl hC' S (Keep.of_off o') hr nr r0
theorem hon_J (m2 : m ≤ 60) (J : JJ m f go l tot) (hC : Comp μ a (cf m f go (rV l) kn)) (zl : l.length < 100000) (zk : kn.length < 100000) {h o : Nat} {p : Int} (hh : h < m) (ho : o < m) (p1 : 1 ≤ p) (pp : p ≤ (f h).p)
    (k : ∀ μ' r f' l', Comp μ' a (cf m f' go (rV l') (kn ++ [letter h o p])) → Stp m f l tot 2 (.lt h o p) f' go l' tot → Off a.list μ μ' → μ' r = some (.list [letter h o p]) → r ∉ a.list → μ r = none → Q (.ref r) μ') : SC c 3 hd "Company.hand_on" [.ref a.c, .int h, .int o, .int p] μ Q X := by
  obtain ⟨rfl, f', l', e1, S⟩ := sent_step (kn := kn) J hh ho p1 pp
  have hm : (h : Int).toNat < m := by omega
  refine hand_on_spec G K.isf K.need K.put K.noted K.hon hC (cf_ok J.lo m2) (by show kn.length < 1048576; omega) (by show (rV l).length < 1048576; rw [rV_len]; omega) (fun q => absurd ⟨⟨by omega, by rw [cf_len]; omega⟩, by omega, by rw [cf_len]; omega⟩ q) (fun _ _ q => ?_) (fun _ _ _ μ' r hC' o' hr nr r0 => ?_)
  · rw [cf_P hm, Int.toNat_natCast] at q; omega
  · rw [e1] at hC'
    exact k μ' r f' l' hC' S o' hr nr r0
theorem carry_J (m2 : m ≤ 60) (J : JJ m f go l tot) (hC : Comp μ a (cf m f go (rV l) kn)) (zl : l.length < 100000) (zk : kn.length < 100000) {i : Nat} (hi : i < l.length) (k : After μ a m f l tot kn (-1) Q) : SC c 3 false "Company.carry" [.ref a.c, .int i] μ Q X := by
  have hr : l[i]? = some l[i] := List.getElem?_eq_getElem hi
  have hv := rV_get hr
  have hin := J.rows _ (List.getElem_mem hi)
  generalize l[i] = r at hr hv hin
  have eI : (i : Int).toNat = i := Int.toNat_natCast i
  refine carry_spec G K.isf K.take K.isin K.put K.came K.settled K.noted K.carry hC (cf_ok J.lo m2) (by show (rV l).length < 1048576; rw [rV_len]; omega) (by show kn.length < 1048576; omega) (fun q => (q ⟨by omega, by show (i : Int) < ((rV l).length : Int); rw [rV_len]; omega⟩).elim) (fun v hv' => ?_) (fun s n p hv' μ' a' r' ac hC' kp hr' nr' r0 => ?_) (fun g t y hv' μ' a' r' ac hC' kp hr' nr' r0 => ?_)
  · rw [eI] at hv'
    have := Option.some.inj (hv'.symm.trans hv)
    subst this
    rw [cf_len]
    cases r with
    | lt s n p => exact .inl ⟨s, n, p, rfl, by omega, by have := hin.2.1; omega⟩
    | an g t y => exact .inr ⟨g, t, y, rfl, by omega, by have := hin.2.1; omega⟩
  · rw [eI] at hv' hC' hr'
    obtain ⟨s', n', rfl, rfl, rfl⟩ := row_lt (Option.some.inj (hv'.symm.trans hv))
    obtain ⟨rfl, e, f', l', e1, e2, S, _⟩ := came_step (kn := kn) J hr
    rw [e1] at hC'
    rw [e2] at hr'
    exact k μ' a' r' e f' true l' tot ac hC' S kp hr' nr' r0
  · rw [eI] at hv' hC' hr'
    obtain ⟨s', n', rfl, rfl, rfl⟩ := row_an (Option.some.inj (hv'.symm.trans hv))
    obtain ⟨rfl, e, f', go', l', tot', e1, e2, S⟩ := back_step (kn := kn) J hr
    rw [e1] at hC'
    rw [e2] at hr'
    exact k μ' a' r' e f' go' l' tot' ac hC' S kp hr' nr' r0

theorem done_spec (m2 : m ≤ 60) (J : JJ m f go l tot) (hC : Comp μ a (cf m f go (rV l) kn)) (zl : l.length < 100000) (zk : kn.length < 100000) {b : Bool} {v : V} (hv : Deed m f l b v) (k : After μ a m f l tot kn (if b then 2 else -1) Q) : SC c 4 false "_law_done" [.ref a.c, v] μ Q X := by
  refine call_in G K.done rfl ?_
  unfold b__law_done
  have h1 := hC.c
  have h2 := hC.cd
  rcases hv with ⟨rfl, h, o, p, rfl, hh, ho, p1, pp⟩ | ⟨rfl, h, rfl, hp⟩ | ⟨rfl, i, rfl, hi⟩
  · walk_at "xx"
    refine cmp_in (r := true) (deq_str (by decide +kernel)) ?_
    walk_at "xx"
    refine meth_own "Company.hand_on" h1 h2 (by rfl) (by rfl) (by rfl) ?_
    walk_at "xx"
    refine hon_J G K m2 J hC zl zk hh ho p1 pp fun μ' r f' l' hC' S o' hr nr r0 => ?_
    exact k μ' a r (.lt h o p) f' go l' tot rfl hC' S (Keep.of_off o') hr nr r0
  · walk_at "xx"
    refine cmp_in (r := false) (deq_ne (by decide +kernel) (by decide +kernel) (by decide +kernel)) ?_
    walk_at "xx"
    refine cmp_in (r := true) (deq_str (by decide +kernel)) ?_
    walk_at "xx"
    refine meth_own "Company.do" h1 h2 (by rfl) (by rfl) (by rfl) ?_
    walk_at "xx"
    exact do_J G K m2 J hC zl zk hp k
  · walk_at "xx"
    refine cmp_in (r := false) (deq_ne (by decide +kernel) (by decide +kernel) (by decide +kernel)) ?_
    walk_at "xx"
    refine cmp_in (r := false) (deq_ne (by decide +kernel) (by decide +kernel) (by decide +kernel)) ?_
    walk_at "xx"
    refine meth_own "Company.carry" h1 h2 (by rfl) (by rfl) (by rfl) ?_
    walk_at "xx"
    exact carry_J G K m2 J hC zl zk hi k

theorem workers {ρ : Loc} {Q : V → Mem → Prop} (m1 : 1 ≤ m) (m2 : m ≤ 60) (hC : Comp μ a (cf m f go rl kn)) {px p1 p2 p3 p4 p5 p6 p7 p8 p9 : Pos} (hρ : ρ "_law_company" = some (.ref a.c))
    (fin : ∀ n, μ n = none → Q (.ref n) (updM μ n (.list (pick m fun i => decide (0 < (f i).p))))) :
    compW sg (SC c 3) false ρ Q (.loc "_law_k" px) "_law_k" ["_law_company"] [.cmp .Gt (.sub (.meth (.loc "_law_company" p1) "hand" [.loc "_law_k" p2] p3 p4) (.int 0 p5) p6) (.int 0 p7) p8] (.rng 0 m 1) μ := by
  refine comp_pick (fun i => decide (0 < (f i).p)) (by omega) (fun i μ' K' hi hx hK => ?_) fin
  have hC' := hC.ext hx
  walk_at "xx"
  refine meth_own "Company.hand" hC'.c hC'.cd (by rfl) (by rfl) (by rfl) ?_
  walk_at "xx"
  refine hand_J G K m1 m2 hC' hi ?_
  walk_at "xx"
  exact hK

theorem next_spec (m1 : 1 ≤ m) (m2 : m ≤ 60) (hC : Comp μ a (cf m f go (rV l) kn)) (zl : l.length < 100000) {n : Int} (k : ∀ μ' v, Ext μ μ' → ((∃ b, Deed m f l b v) ∨ (v = .none ∧ (∀ i < m, ¬ 0 < (f i).p) ∧ l = [])) → Q v μ') :
    SC c 4 false "_law_next" [.ref a.c, .int m, .int n] μ Q X := by
  refine call_in G K.next rfl ?_
  unfold b__law_next
  walk_at "xx"
  refine e_comp rfl ?_
  walk_at "xx"
  refine rng1 (Int.le_trans (show (m : Int) ≤ 1048576 by omega) (Int.le_refl _)) (by omega) ?_
  refine workers G K m1 m2 hC (by rfl) (p9 := ⟨0, 0, 0, 0⟩) fun ws hws => ?_
  have e1 := Ext.new hws (.list (pick m fun i => decide (0 < (f i).p)))
  have here : updM μ ws (.list (pick m fun i => decide (0 < (f i).p))) ws = some (.list (pick m fun i => decide (0 < (f i).p))) := mem_here
  generalize updM μ ws (.list (pick m fun i => decide (0 < (f i).p))) = μ₁ at e1 here ⊢
  have hC1 := hC.ext e1
  walk_at "xx"
  refine meth_own "Company.under" hC1.c hC1.cd (by rfl) (by rfl) (by rfl) ?_
  walk_at "xx"
  refine sc_up (under_spec G K.pund K.under hC1 (by show (rV l).length ≤ 1048576; rw [rV_len]; omega) fun u hu => ?_) (by decide)
  have e2 := Ext.new hu (.list (rV l))
  have hereU : updM μ₁ u (.list (rV l)) u = some (.list (rV l)) := mem_here
  show wpSs _ _ _ _ _ (updM μ₁ u (.list (rV l))) _ _
  generalize updM μ₁ u (.list (rV l)) = μ₂ at e2 hereU ⊢
  have here := e2 _ _ here
  have hC2 := hC1.ext e2
  have e12 := e1.trans e2
  have work : 0 < ((pick m fun i => decide (0 < (f i).p)).length : Int) → ∀ {body : List S}, body = (match b__law_next with | [_, _, .ite _ b _ _, _, _] => b | _ => []) → ∀ {ρ : Loc} {R : Loc → Mem → Prop} {X : String → Loc → Mem → Prop}, ρ "_law_company" = some (.ref a.c) → ρ "_law_many" = some (.int m) → ρ "_law_number" = some (.int n) → ρ "_law_workers" = some (.ref ws) → wpSs sg (SC c 3) false body ρ μ₂ (sq R (fq Q)) X := fun ne body eb ρ R X r1 r2 r3 r4 => by
    subst eb
    simp only [b__law_next]
    walk_at "xx"
    refine mod_i ne ?_
    obtain ⟨j0, j1⟩ := mod_bd (a := n / 8) ne
    obtain ⟨h, hh, hm, ht⟩ := pick_get j0 j1
    have ht : 0 < (f h).p := of_decide_eq_true ht
    refine sub_l here hh ?_
    walk_at "xx"
    refine br_d (fun q => ?_) (fun q => ?_)
    · walk_at "xx"
      refine mod_i (by omega) ?_
      obtain ⟨o0, o1⟩ := mod_bd (a := n / 97) (show (0 : Int) < m by omega)
      generalize n / 97 % (m : Int) = o at o0 o1 ⊢
      obtain ⟨o, rfl⟩ := Int.eq_ofNat_of_zero_le o0
      walk_at "xx"
      refine meth_own "Company.hand" hC2.c hC2.cd (by rfl) (by rfl) (by rfl) ?_
      walk_at "xx"
      refine hand_J G K m1 m2 hC2 hm ?_
      walk_at "xx"
      refine mod_i ht ?_
      obtain ⟨p0, p1⟩ := mod_bd (a := n / 5) ht
      generalize n / 5 % (f h).p = p at p0 p1 ⊢
      walk_at "xx"
      exact k _ _ e12 (.inl ⟨true, .inl ⟨rfl, h, o, 1 + p, rfl, hm, by omega, by omega, by omega⟩⟩)
    · walk_at "xx"
      exact k _ _ e12 (.inl ⟨false, .inr (.inl ⟨rfl, h, rfl, ht⟩)⟩)
  have rest : ∀ {body : List S}, body = (match b__law_next with | [_, _, _, s1, s2] => [s1, s2] | _ => []) → ((l.length : Int) = 0 → ¬ 0 < ((pick m fun i => decide (0 < (f i).p)).length : Int)) → ∀ {ρ : Loc} {X : String → Loc → Mem → Prop}, ρ "_law_number" = some (.int n) → ρ "_law_under" = some (.ref u) → wpSs sg (SC c 3) false body ρ μ₂ (fq Q) X := fun {body} eb none {ρ X} r1 r2 => by
    subst eb
    simp only [b__law_next]
    walk_at "xx"
    rw [rV_len]
    refine br_d (fun q => ?_) (fun q => ?_)
    · walk_at "xx"
      exact k _ _ e12 (.inr ⟨rfl, fun i hi z => by have := pick_nil (none q) i hi; simp only [decide_eq_false_iff_not] at this; exact this z, List.length_eq_zero_iff.mp (by omega)⟩)
    · walk_at "xx"
      rw [rV_len]
      have ne : 0 < (l.length : Int) := by omega
      refine mod_i ne ?_
      obtain ⟨j0, j1⟩ := mod_bd (a := n / 8) ne
      generalize n / 8 % (l.length : Int) = i at j0 j1 ⊢
      obtain ⟨i, rfl⟩ := Int.eq_ofNat_of_zero_le j0
      walk_at "xx"
      exact k _ _ e12 (.inl ⟨false, .inr (.inr ⟨rfl, i, rfl, by omega⟩)⟩)
  walk_at "xx"
  refine br_d (fun z => ?_) (fun z => ?_)
  · walk_at "xx"
    refine br_d (fun z2 => ?_) (fun z2 => ?_)
    · walk_at "w"
      walk_at "w"
      exact work z rfl (by walk_at "ro") (by walk_at "ro") (by walk_at "ro") (by walk_at "ro")
    · walk_at "xx"
      rw [rV_len]
      refine br_d (fun z3 => ?_) (fun z3 => ?_)
      · exact work z rfl (by walk_at "ro") (by walk_at "ro") (by walk_at "ro") (by walk_at "ro")
      · exact rest rfl (fun q => absurd q z3) (by walk_at "ro") (by walk_at "ro")
  · walk_at "w"
    walk_at "w"
    exact rest rfl (fun _ => z) (by walk_at "ro") (by walk_at "ro")
end

set_option autoImplicit false

set_option maxHeartbeats 2000000
set_option maxRecDepth 4000
set_option linter.unusedVariables false
set_option linter.unusedSimpArgs false
open PySem

/-! The way up, in plain Lean. -/
inductive Way (f : Nat → Hd) : Nat → List Nat → Prop
  | top : Way f 0 [0]
  | up {n s : Nat} {p : List Nat} : n ≠ 0 → (f n).k = some (s : Int) → Way f s p → Way f n (n :: p)
section
variable {f : Nat → Hd} {m n : Nat} {p : List Nat}
theorem Way.uniq {n : Nat} {p q : List Nat} (w : Way f n p) (v : Way f n q) : p = q := by
  induction w generalizing q with
  | top => cases v with
    | top => rfl
    | up h _ _ => exact absurd rfl h
  | up h e _ ih => cases v with
    | top => exact absurd rfl h
    | up _ e' w' =>
      have := Int.ofNat.inj (Option.some.inj (e.symm.trans e'))
      subst this
      rw [ih w']
theorem Way.head (w : Way f n p) : ∃ q, p = n :: q := by cases w <;> exact ⟨_, rfl⟩
theorem Way.ne (w : Way f n p) : 0 < p.length := by obtain ⟨q, rfl⟩ := w.head; exact Nat.succ_pos _
theorem Way.first (w : Way f n p) : p[0]? = some n := by obtain ⟨q, rfl⟩ := w.head; rfl
/-- at each place of the way: its end is at nought, and else the waker comes next -/
theorem Way.at {n : Nat} {p : List Nat} (w : Way f n p) : ∀ (j i : Nat), p[j]? = some i → (i = 0 ∧ j + 1 = p.length) ∨ (i ≠ 0 ∧ ∃ s : Nat, (f i).k = some (s : Int) ∧ p[j + 1]? = some s) := by
  induction w with
  | top => intro j i h; cases j with
    | zero => cases h; exact .inl ⟨rfl, rfl⟩
    | succ j => simp at h
  | @up n s p hn e w ih =>
    intro j i h
    cases j with
    | zero =>
      cases h
      exact .inr ⟨hn, s, e, by rw [List.getElem?_cons_succ]; exact w.first⟩
    | succ j =>
      rw [List.getElem?_cons_succ] at h
      rcases ih j i h with ⟨h1, h2⟩ | ⟨h1, s', h2, h3⟩
      · exact .inl ⟨h1, by rw [List.length_cons, h2]⟩
      · exact .inr ⟨h1, s', h2, by rw [List.getElem?_cons_succ]; exact h3⟩
theorem Way.last {n : Nat} {p : List Nat} (w : Way f n p) : p[p.length - 1]? = some 0 := by
  have hl := w.ne
  have h : p[p.length - 1]? = some p[p.length - 1] := List.getElem?_eq_getElem (by omega)
  rcases w.at _ _ h with ⟨h1, _⟩ | ⟨_, s, _, h3⟩
  · rw [h, h1]
  · have := (List.getElem?_eq_some_iff.mp h3).1; omega
theorem Way.rank {r : Nat → Nat} (hr : ∀ (i s : Nat), (f i).k = some (s : Int) → r s < r i) {n : Nat} {p : List Nat} (w : Way f n p) : (∀ i ∈ p, r i ≤ r n) ∧ p.Nodup := by
  induction w with
  | top => exact ⟨fun i hi => by cases List.mem_singleton.mp hi; exact Nat.le_refl _, by simp⟩
  | @up n s p hn e w ih =>
    have h := hr n s e
    refine ⟨fun i hi => ?_, List.nodup_cons.mpr ⟨fun hi => ?_, ih.2⟩⟩
    · rcases List.mem_cons.mp hi with rfl | hi
      · exact Nat.le_refl _
      · have := ih.1 i hi; omega
    · have := ih.1 n hi; omega
theorem len_le : ∀ (m : Nat) {p : List Nat}, p.Nodup → (∀ i ∈ p, i < m) → p.length ≤ m
  | 0, [], _, _ => Nat.le_refl _
  | 0, i :: _, _, h => absurd (h i (.head _)) (by omega)
  | m + 1, p, hn, h => by
    by_cases q : m ∈ p
    · have := len_le m (hn.erase m) fun i hi => by
        have h1 := h i (List.mem_of_mem_erase hi)
        have h2 : i ≠ m := fun z => by subst z; exact absurd hi hn.not_mem_erase
        omega
      rw [List.length_erase_of_mem q] at this
      omega
    · have := len_le m hn fun i hi => by
        have h1 := h i hi
        have h2 : i ≠ m := fun z => by subst z; exact q hi
        omega
      omega
end
/-- who is in the tree -/
noncomputable def inT (f : Nat → Hd) (go : Bool) (n : Nat) : Bool := (f n).k.isSome || (decide (n = 0) && go)
section
variable {m : Nat} {f : Nat → Hd} {go : Bool} {l : List Rw} {tot : Int}
theorem JJ.k0 (J : JJ m f go l tot) : (f 0).k = none := by
  rcases J with ⟨_, T⟩ | ⟨_, _, h, _⟩
  · exact T.k0
  · rw [h]; rfl
theorem JJ.waker (J : JJ m f go l tot) {i : Nat} {s : Int} (h : (f i).k = some s) : go = true ∧ i ≠ 0 ∧ i < m ∧ ∃ s' : Nat, s = s' ∧ s' < m ∧ inT f go s' = true := by
  rcases J with ⟨hg, T⟩ | ⟨_, _, hz, _⟩
  · have hi : i ≠ 0 := fun z => by rw [z, T.k0] at h; cases h
    have him : i < m := Nat.lt_of_not_le fun q => by rw [T.far i q] at h; cases h
    obtain ⟨s', e, h1, h2⟩ := T.kr i s h
    refine ⟨hg, hi, him, s', e, h1, ?_⟩
    unfold inT
    rcases h2 with rfl | h2
    · rw [hg]; simp
    · rw [h2]; rfl
  · rw [hz] at h; cases h
theorem JJ.rank (J : JJ m f go l tot) : ∃ r : Nat → Nat, ∀ (i s : Nat), (f i).k = some (s : Int) → r s < r i := by
  rcases J with ⟨hg, T⟩ | ⟨_, _, hz, _⟩
  · exact T.tree
  · exact ⟨fun _ => 0, fun i s h => by rw [hz] at h; cases h⟩
theorem JJ.way (J : JJ m f go l tot) {n : Nat} (hm : n < m) (h : inT f go n = true) : ∃ p, Way f n p ∧ (∀ i ∈ p, i < m) ∧ p.Nodup := by
  obtain ⟨r, hr⟩ := J.rank
  have key : ∀ (k n : Nat), r n ≤ k → n < m → inT f go n = true → ∃ p, Way f n p ∧ ∀ i ∈ p, i < m := by
    intro k
    induction k with
    | zero =>
      intro n hk hm h
      by_cases h0 : n = 0
      · subst h0; exact ⟨[0], .top, fun i hi => by cases List.mem_singleton.mp hi; exact hm⟩
      · unfold inT at h
        rw [decide_eq_false h0, Bool.false_and, Bool.or_false] at h
        obtain ⟨s, hs⟩ := Option.isSome_iff_exists.mp h
        obtain ⟨_, _, _, s', rfl, _, _⟩ := J.waker hs
        have := hr n s' hs
        omega
    | succ k ih =>
      intro n hk hm h
      by_cases h0 : n = 0
      · subst h0; exact ⟨[0], .top, fun i hi => by cases List.mem_singleton.mp hi; exact hm⟩
      · unfold inT at h
        rw [decide_eq_false h0, Bool.false_and, Bool.or_false] at h
        obtain ⟨s, hs⟩ := Option.isSome_iff_exists.mp h
        obtain ⟨_, _, _, s', rfl, hm', hi⟩ := J.waker hs
        have := hr n s' hs
        obtain ⟨p, hp, hb⟩ := ih s' (by omega) hm' hi
        exact ⟨n :: p, .up h0 hs hp, fun i hi => (List.mem_cons.mp hi).elim (fun z => z ▸ hm) (hb i)⟩
  obtain ⟨p, hp, hb⟩ := key (r n) n (Nat.le_refl _) hm h
  exact ⟨p, hp, hb, (hp.rank hr).2⟩
theorem JJ.out (J : JJ m f go l tot) {n : Nat} (h : inT f go n = false) : f n = z4 := by
  rcases J with ⟨hg, T⟩ | ⟨_, _, hz, _⟩
  · refine T.out n fun q => ?_
    unfold inT at h
    rw [hg] at h
    rcases q with rfl | q
    · simp at h
    · rw [q] at h; cases h
  · exact hz n
end
/-- the hands that have a waker, with it -/
noncomputable def dts (m : Nat) (f : Nat → Hd) : List (Nat × Int) := (List.range m).filterMap fun i => (f i).k.map fun s => (i, s)
noncomputable def dV (q : Nat × Int) : V := .tup [.int q.1, .int q.2]
noncomputable def kids (m : Nat) (f : Nat → Hd) (n : Nat) : List V := pick m fun j => decide ((f j).k = some (n : Int))
theorem kids_dts (m : Nat) (f : Nat → Hd) (n : Nat) : (dts m f).filterMap (fun q => if q.2 = (n : Int) then some (V.int q.1) else none) = kids m f n := by
  unfold dts kids pick
  generalize List.range m = L
  induction L with
  | nil => rfl
  | cons i L ih =>
    rw [List.filterMap_cons, List.filter_cons]
    cases h : (f i).k with
    | none => simpa [h] using ih
    | some s =>
      simp only [Option.map_some, List.filterMap_cons]
      by_cases q : s = (n : Int)
      · subst q; simpa using ih
      · simp only [q, if_false, Option.some.injEq, decide_false, Bool.false_eq_true]
        exact ih
theorem dV_plain (q : Nat × Int) : plain 1 (dV q) = true := rfl
theorem kids_plain (m : Nat) (f : Nat → Hd) (n : Nat) : ∀ v ∈ kids m f n, plain 0 v = true := fun v hv => by
  unfold kids pick at hv
  obtain ⟨i, _, rfl⟩ := List.mem_map.mp hv
  rfl

structure DD (c : Ctx) : Prop where
  k : KD c
  size : Def c sg "Company.size" p_Company_size b_Company_size
  pby : Def c sg "_law_pieces_by" p__law_pieces_by b__law_pieces_by
  whole : Def c sg "_law_whole" p__law_whole b__law_whole
  alike : Def c sg "_law_alike" p__law_alike b__law_alike
  debts : Def c sg "debts" p_debts b_debts
  intree : Def c sg "in_tree" p_in_tree b_in_tree
  way : Def c sg "way" p_way b_way
  woken : Def c sg "woken_by" p_woken_by b_woken_by
  wayg : Def c sg "_law_way_good" p__law_way_good b__law_way_good
  wdue : Def c sg "_law_woken_due" p__law_woken_due b__law_woken_due
  wgood : Def c sg "_law_woken_good" p__law_woken_good b__law_woken_good
  dgood : Def c sg "_law_debts_good" p__law_debts_good b__law_debts_good
  good : Def c sg "_law_good" p__law_good b__law_good
  law : Def c sg "law" p_law b_law

section
variable {c : Ctx} (G : Good c sg) (D : DD c)
include G D
variable {μ : Mem} {Q : V → Mem → Prop} {X : String → Mem → Prop} {a : Ad} {m : Nat} {f : Nat → Hd} {go : Bool} {l : List Rw} {tot : Int} {kn rl : List V}

theorem pby_spec {i : Int} (h : ∀ p, 1 ≤ p → p ≤ 999999 → Q (.int p) μ) : SC c 1 false "_law_pieces_by" [.int i] μ Q X := by
  refine call_in G D.pby rfl ?_
  unfold b__law_pieces_by
  walk_at "xx"
  refine br_d (fun hk => ?_) (fun hk => ?_)
  · walk_at "xx"
    exact h _ (by omega) (by omega)
  walk_at "xx"
  refine br_d (fun hk => ?_) (fun hk => ?_)
  · walk_at "xx"
    exact h _ (by omega) (by omega)
  · walk_at "xx"
    exact h _ (by omega) (by omega)
theorem size_spec (hC : Comp μ a (cf m f go rl kn)) (h : Q (.int m) μ) : SC c 1 false "Company.size" [.ref a.c] μ Q X := by
  refine call_in G D.size rfl ?_
  unfold b_Company_size
  have h1 := hC.c
  have h2 := hC.cd
  have h3 := hC.p
  walk_at "xx"
  rw [iL_length, cf_len]
  exact h
theorem intree_spec (m1 : 1 ≤ m) (m2 : m ≤ 60) (hC : Comp μ a (cf m f go rl kn)) {n : Nat} (hn : n < m) (h : Q (.bool (inT f go n)) μ) : SC c 4 false "in_tree" [.ref a.c, .int n] μ Q X := by
  refine call_in G D.intree rfl ?_
  unfold b_in_tree
  walk_at "xx"
  refine meth_own "Company.hand" hC.c hC.cd (by rfl) (by rfl) (by rfl) ?_
  walk_at "xx"
  refine hand_J G D.k m1 m2 hC hn ?_
  walk_at "xx"
  unfold inT at h
  cases hk : (f n).k with
  | some s =>
    rw [hk] at h
    refine cmp_in (r := true) (by rfl) ?_
    walk_at "xx"
    exact h
  | none =>
    rw [hk] at h
    refine cmp_in (r := false) (by rfl) ?_
    walk_at "xx"
    refine br_d (fun q => ?_) (fun q => ?_)
    · walk_at "xx"
      refine meth_own "Company.runs" hC.c hC.cd (by rfl) (by rfl) (by rfl) ?_
      walk_at "xx"
      refine sc_up (runs_spec G D.k.runs hC ?_) (by decide)
      walk_at "xx"
      rw [decide_eq_true (show n = 0 by omega)] at h
      exact h
    · walk_at "xx"
      rw [decide_eq_false (show ¬ n = 0 by omega)] at h
      rw [decide_eq_false q]
      exact h
end

set_option autoImplicit false

set_option maxHeartbeats 2000000
set_option maxRecDepth 4000
set_option linter.unusedVariables false
set_option linter.unusedSimpArgs false
open PySem

theorem s_while {sg : Sig} {sc : Bool → Sc} {hd : Bool} {ρ : Loc} {μ : Mem} {r : List S} {Q : Fl → Loc → Mem → Prop} {X : String → Loc → Mem → Prop} {e : E} {body : List S} {p : Pos} (I : Nat → Loc → Mem → Prop) (i0 : ∃ n, I n ρ μ)
    (turn : ∀ n ρ μ, I n ρ μ → wpE sg sc hd e ρ μ (fun v μ₁ => tr v fun b => br b (wpSs sg sc hd body ρ μ₁ (sq (fun ρ' μ' => ∃ k, k < n ∧ I k ρ' μ') (sq (rW sg sc hd X Q r) Q)) fun _ _ _ => False) (wpSs sg sc hd r ρ μ₁ Q X)) fun _ _ => False) : wpSs sg sc hd (.while_ e body p :: r) ρ μ Q X := ⟨I, i0, turn⟩
/-- a comprehension over pairs, whose turns leave the memory as it is -/
theorem compP_gen {α : Type} {sg : Sig} {sc : Bool → Sc} {hd : Bool} {ρ : Loc} {μ : Mem} {Q : V → Mem → Prop} {x y : String} {cs : List String} {elt : E} {ifs : List E} {v : V} {L : List α} {ga gb : α → V} (F : α → Option V) (e : itemsOf μ v = some (L.map fun a => V.tup [ga a, gb a])) (hz : L.length ≤ lim)
    (turn : ∀ a ∈ L, ∀ (μ' : Mem) (K : Option V → Mem → Prop), Ext μ μ' → K (F a) μ' → wpIf sg sc hd ifs (updL (updL (capL cs ρ) x (ga a)) y (gb a)) μ' fun b μ₃ => br b (wpE sg sc hd elt (updL (updL (capL cs ρ) x (ga a)) y (gb a)) μ₃ (fun r μ'' => K (some r) μ'') fun _ _ => False) (K none μ₃))
    (fin : ∀ n, μ n = none → Q (.ref n) (updM μ n (.list (L.filterMap F)))) : compPW sg sc hd ρ Q elt x y cs ifs v μ := by
  unfold compPW
  rw [e]
  intro n hn
  refine ⟨fun k μ' => μ' = updM μ n (.list ((L.take k).filterMap F)), rfl, fun k μ' h => by rw [h]; exact itemsOf_new hn e, fun k w μ' hk h => ?_, fun μ' h => ?_⟩
  · subst h
    rw [List.getElem?_map] at hk
    obtain ⟨a, ha, rfl⟩ := Option.map_eq_some_iff.mp hk
    have hlt : k < L.length := (List.getElem?_eq_some_iff.mp ha).1
    have ht := take_filter F L k a ha
    refine turn a (List.mem_of_getElem? ha) _ (compT n fun μ' => μ' = updM μ n (.list ((L.take (k + 1)).filterMap F))) (Ext.new hn _) ?_
    rw [ht]
    cases hF : F a with
    | none =>
      show _ = _
      simp only [List.append_nil]
    | some r =>
      refine ⟨(L.take k).filterMap F, by simp [updM], ?_, ?_⟩
      · have h1 := List.length_filterMap_le F (L.take k)
        rw [List.length_take] at h1
        omega
      · funext b
        simp only [updM]
        split <;> rfl
  · subst h
    rw [List.length_map, List.take_length]
    exact fin n hn
theorem idx_last {l : List V} {v : V} : idx (l ++ [v]) (-1) = some v := by
  unfold idx
  rw [if_neg (by decide), if_pos (by simp; omega)]
  have : (-1 + ((l ++ [v]).length : Int)).toNat = l.length := by simp; omega
  rw [this]; simp
noncomputable def prV (f : Nat → Hd) (i : Nat) : V := .tup [.int i, oV (f i).k]
theorem prs_dts (m : Nat) (f : Nat → Hd) : (List.range m).filterMap (fun i => if (f i).k.isSome then some (prV f i) else none) = (dts m f).map dV := by
  unfold dts
  generalize List.range m = L
  induction L with
  | nil => rfl
  | cons i L ih =>
    rw [List.filterMap_cons, List.filterMap_cons]
    cases h : (f i).k with
    | none => simpa [h] using ih
    | some s =>
      simp only [Option.isSome_some, if_true, Option.map_some, List.map_cons, ih]
      unfold prV dV
      rw [h]; rfl
theorem dts_len (m : Nat) (f : Nat → Hd) : (dts m f).length ≤ m := by
  unfold dts
  exact Nat.le_trans (List.length_filterMap_le _ _) (by rw [List.length_range]; exact Nat.le_refl _)

section
variable {c : Ctx} (G : Good c sg) (D : DD c)
include G D
variable {μ : Mem} {Q : V → Mem → Prop} {X : String → Mem → Prop} {a : Ad} {m : Nat} {f : Nat → Hd} {go : Bool} {l : List Rw} {tot : Int} {kn rl : List V}

theorem debts_spec (m1 : 1 ≤ m) (m2 : m ≤ 60) (hC : Comp μ a (cf m f go rl kn)) (k : ∀ μ' r, Ext μ μ' → μ' r = some (.list ((dts m f).map dV)) → μ r = none → Q (.ref r) μ') : SC c 4 false "debts" [.ref a.c] μ Q X := by
  refine call_in G D.debts rfl ?_
  unfold b_debts
  walk_at "xx"
  refine e_comp rfl ?_
  walk_at "xx"
  refine meth_own "Company.size" hC.c hC.cd (by rfl) (by rfl) (by rfl) ?_
  walk_at "xx"
  refine sc_up (size_spec G D hC ?_) (by decide)
  walk_at "xx"
  refine rng1 (Int.le_trans (show (m : Int) ≤ 1048576 by omega) (Int.le_refl _)) (by omega) ?_
  refine comp_gen (L := List.range m) (g := fun (i : Nat) => V.int i) (fun i => some (prV f i)) (by show some (rngItems 0 m 1) = _; rw [rng_items]) (by rw [List.length_range]; unfold lim; omega) (fun i hi μ' K x hK => ?_) (fun hs hhs => ?_)
  · have hC' := hC.ext x
    refine if_nil (br_t ?_)
    walk_at "xx"
    refine meth_own "Company.hand" hC'.c hC'.cd (by rfl) (by rfl) (by rfl) ?_
    walk_at "xx"
    refine hand_J G D.k m1 m2 hC' (List.mem_range.mp hi) ?_
    walk_at "xx"
    exact hK
  have em : (List.range m).filterMap (fun i => some (prV f i)) = (List.range m).map (prV f) := by rw [List.filterMap_eq_map']
  rw [em]
  have e1 := Ext.new hhs (.list ((List.range m).map (prV f)))
  have here1 : updM μ hs (.list ((List.range m).map (prV f))) hs = _ := mem_here
  generalize updM μ hs (.list ((List.range m).map (prV f))) = μ₁ at e1 here1 ⊢
  walk_at "xx"
  refine e_comp rfl ?_
  walk_at "xx"
  refine comp_gen (L := List.range m) (g := prV f) (fun i => if (f i).k.isSome then some (prV f i) else none) (by simp only [itemsOf, here1]) (by rw [List.length_range]; unfold lim; omega) (fun i hi μ' K x hK => ?_) (fun r hr => ?_)
  · refine if_one ?_
    unfold prV
    walk_at "xx"
    unfold prV at hK
    cases hk : (f i).k with
    | none =>
      rw [hk] at hK
      refine cmp_in (r := false) (by rfl) ?_
      walk_at "xx"
      exact hK
    | some s =>
      rw [hk] at hK
      refine cmp_in (r := true) (by rfl) ?_
      walk_at "xx"
      exact hK
  · rw [prs_dts]
    walk_at "xx"
    refine k _ r (e1.trans (Ext.new hr _)) mem_here ?_
    cases q : μ r with
    | none => rfl
    | some o => rw [e1 _ _ q] at hr; cases hr

/-- what way gives -/
noncomputable def WayOf (f : Nat → Hd) (go : Bool) (n : Nat) (p : List Nat) : Prop := (inT f go n = false ∧ p = []) ∨ (inT f go n = true ∧ Way f n p)
omit G D in
theorem WayOf.uniq {n : Nat} {p q : List Nat} (x : WayOf f go n p) (y : WayOf f go n q) : p = q := by
  rcases x with ⟨h, rfl⟩ | ⟨h, w⟩ <;> rcases y with ⟨h', rfl⟩ | ⟨h', w'⟩
  · rfl
  · rw [h] at h'; cases h'
  · rw [h] at h'; cases h'
  · exact w.uniq w'
noncomputable def nV (p : List Nat) : List V := p.map fun (i : Nat) => V.int i

theorem way_spec (m2 : m ≤ 60) (J : JJ m f go l tot) (hC : Comp μ a (cf m f go rl kn)) {n : Nat} (hn : n < m) (k : ∀ μ' r p, Ext μ μ' → μ' r = some (.list (nV p)) → μ r = none → WayOf f go n p → Q (.ref r) μ') : SC c 5 false "way" [.ref a.c, .int n] μ Q X := by
  have m1 := J.lo
  refine call_in G D.way rfl ?_
  unfold b_way
  walk_at "xx"
  refine intree_spec G D m1 m2 hC hn ?_
  cases ht : inT f go n with
  | false =>
    walk_at "xx"
    refine newL_in (Nat.zero_le _) fun r hr => ?_
    walk_at "xx"
    exact k _ r [] (Ext.new hr _) mem_here hr (.inl ⟨ht, rfl⟩)
  | true =>
    obtain ⟨p, hp, hb, hd⟩ := J.way hn ht
    have hlen : p.length ≤ m := len_le m hd hb
    walk_at "xx"
    refine newL_in (show 1 ≤ 1048576 by decide) fun r hr => ?_
    walk_at "xx"
    refine s_while (fun q ρ μ' => ∃ j, q + j + 1 = p.length ∧ ρ "company" = some (.ref a.c) ∧ ρ "found" = some (.ref r) ∧ μ' = updM μ r (.list (nV (p.take (j + 1))))) ⟨p.length - 1, 0, by have := hp.ne; omega, by rfl, by rfl, ?_⟩ (fun q ρ μ' hI => ?_)
    · obtain ⟨t, rfl⟩ := hp.head; rfl
    · obtain ⟨j, hj, r1, r2, rfl⟩ := hI
      have hx : p[j]? = some p[j] := List.getElem?_eq_getElem (by omega)
      generalize p[j] = i at hx
      have htk : p.take (j + 1) = p.take j ++ [i] := by rw [List.take_add_one, hx]; rfl
      have here : updM μ r (.list (nV (p.take (j + 1)))) r = some (.list (nV (p.take j) ++ [.int i])) := by rw [htk]; unfold nV; rw [List.map_append]; exact mem_here
      have hC' := hC.ext (Ext.new hr (.list (nV (p.take (j + 1)))))
      generalize hμ : updM μ r (.list (nV (p.take (j + 1)))) = μ' at here hC' ⊢
      have him : i < m := hb i (List.mem_of_getElem? hx)
      walk_at "xx"
      refine sub_l here idx_last ?_
      walk_at "xx"
      rcases hp.at j i hx with ⟨rfl, hl⟩ | ⟨hi, s, hs, hnext⟩
      · refine br_ndt rfl ?_
        walk_at "xx"
        subst hμ
        have : p.take (j + 1) = p := List.take_of_length_le (by omega)
        rw [this] at hC' ⊢
        exact k _ r p (Ext.new hr _) mem_here hr (.inr ⟨ht, hp⟩)
      · refine br_ndf (by omega) ?_
        walk_at "xx"
        refine meth_own "Company.hand" hC'.c hC'.cd (by rfl) (by rfl) (by rfl) ?_
        walk_at "xx"
        refine sub_l here idx_last ?_
        walk_at "xx"
        refine sc_up (hand_J G D.k m1 m2 hC' him ?_) (by decide)
        walk_at "xx"
        rw [hs]
        refine app_l here (by show (nV (p.take j) ++ [V.int i]).length < 1048576; unfold nV; rw [List.length_append, List.length_map, List.length_take]; simp; omega) ?_
        have hlt := (List.getElem?_eq_some_iff.mp hnext).1
        walk_at "xx"
        refine ⟨q - 1, by omega, j + 1, by omega, r1, r2, ?_⟩
        subst hμ
        have e2 : nV (p.take (j + 1 + 1)) = nV (p.take j) ++ [.int i] ++ [.int s] := by
          rw [List.take_add_one, hnext, htk]; unfold nV; simp
        rw [e2]
        funext b
        simp only [updM]
        split <;> rfl
end

set_option autoImplicit false

set_option maxHeartbeats 2000000
set_option maxRecDepth 4000
set_option linter.unusedVariables false
set_option linter.unusedSimpArgs false
open PySem

/-- what woken_by gives: a dict of lists -/
structure Wb (μ : Mem) (D : Addr) (m k : Nat) (f : Nat → Hd) (go : Bool) (es : List (Nat × Addr)) : Prop where
  d : ∃ ep, μ D = some (.dict ep (es.map fun q => ((q.1 : Int), V.ref q.2)))
  ks : es.map (·.1) = (List.range k).filter (inT f go)
  ls : ∀ q ∈ es, μ q.2 = some (.list (kids m f q.1))
theorem Wb.len {μ : Mem} {D : Addr} {m k : Nat} {f : Nat → Hd} {go : Bool} {es : List (Nat × Addr)} (h : Wb μ D m k f go es) : es.length ≤ k := by
  have h1 := congrArg List.length h.ks
  rw [List.length_map] at h1
  rw [h1]
  exact Nat.le_trans (List.length_filter_le _ _) (by rw [List.length_range]; exact Nat.le_refl _)
theorem filt_no {k : Nat} {t : Nat → Bool} (h : t k = false) : (List.range (k + 1)).filter t = (List.range k).filter t := by
  rw [List.range_succ, List.filter_append, List.filter_cons, h]; simp
theorem filt_yes {k : Nat} {t : Nat → Bool} (h : t k = true) : (List.range (k + 1)).filter t = (List.range k).filter t ++ [k] := by
  rw [List.range_succ, List.filter_append, List.filter_cons, h]; simp

section
variable {c : Ctx} (G : Good c sg) (D : DD c)
include G D
variable {μ : Mem} {Q : V → Mem → Prop} {X : String → Mem → Prop} {a : Ad} {m : Nat} {f : Nat → Hd} {go : Bool} {l : List Rw} {tot : Int} {kn rl : List V}

theorem woken_spec (m1 : 1 ≤ m) (m2 : m ≤ 60) (hC : Comp μ a (cf m f go rl kn)) (k : ∀ μ' d es, Ext μ μ' → Wb μ' d m m f go es → (μ d = none ∧ ∀ q ∈ es, μ q.2 = none) → d ≠ 1 → Q (.ref d) μ') : SC c 5 false "woken_by" [.ref a.c] μ Q X := by
  refine call_in G D.woken rfl ?_
  unfold b_woken_by
  walk_at "xx"
  refine e_dnew fun d ep hd d1 => ?_
  walk_at "xx"
  refine s_for rfl ?_
  have hC0 := hC.ext (Ext.new hd (.dict ep []))
  walk_at "xx"
  refine meth_own "Company.size" hC0.c hC0.cd (by rfl) (by rfl) (by rfl) ?_
  walk_at "xx"
  refine sc_up (size_spec G D hC0 ?_) (by decide)
  walk_at "xx"
  refine rng1 (Int.le_trans (show (m : Int) ≤ 1048576 by omega) (Int.le_refl _)) (by omega) ?_
  refine for_nat (fun i ρ μ' => ρ "company" = some (.ref a.c) ∧ ρ "found" = some (.ref d) ∧ ∃ es, Ext μ μ' ∧ Wb μ' d m i f go es ∧ ∀ q ∈ es, μ q.2 = none ∧ q.2 ≠ d) ⟨by rfl, by rfl, [], Ext.new hd _, ⟨⟨ep, mem_here⟩, rfl, (fun q hq => by cases hq)⟩, (fun q hq => by cases hq)⟩ (fun i ρ μ' hi hI => ?_) (fun ρ μ' hI => ?_)
  · obtain ⟨r1, r2, es, x, W, hn⟩ := hI
    have hC1 := hC.ext x
    walk_at "xx"
    refine intree_spec G D m1 m2 hC1 hi ?_
    cases ht : inT f go i with
    | false =>
      walk_at "xx"
      exact ⟨by walk_at "ro", by walk_at "ro", es, x, ⟨W.d, by rw [W.ks, filt_no ht], W.ls⟩, hn⟩
    | true =>
      walk_at "xx"
      refine e_compP rfl ?_
      walk_at "xx"
      refine debts_spec G D m1 m2 hC1 fun μ₂ r x2 hr r0 => ?_
      refine compP_gen (L := dts m f) (ga := fun q => .int q.1) (gb := fun q => .int q.2) (fun q => if q.2 = (i : Int) then some (V.int q.1) else none) (by simp only [itemsOf, hr]; rfl) (Nat.le_trans (dts_len m f) (by unfold lim; omega)) (fun q hq μ₃ K x3 hK => ?_) (fun n hn' => ?_)
      · refine if_one ?_
        walk_at "xx"
        by_cases e : q.2 = (i : Int)
        · rw [if_pos e] at hK
          refine br_dt e ?_
          walk_at "xx"
          exact hK
        · rw [if_neg e] at hK
          refine br_df e ?_
          exact hK
      · rw [kids_dts]
        obtain ⟨ep', hd'⟩ := W.d
        have x3 := Ext.new hn' (.list (kids m f i))
        have here := x3 _ _ (x2 _ _ hd')
        have nd : n ≠ d := fun z => by rw [z] at hn'; rw [x2 _ _ hd'] at hn'; cases hn'
        have n0 : μ n = none := by
          cases q : μ n with
          | none => rfl
          | some o => rw [x2 _ _ (x _ _ q)] at hn'; cases hn'
        have hlen := W.len
        walk_at "xx"
        refine dset_in here ?_ (by rw [List.length_map]; omega) fun ep'' => ?_
        · intro hm
          rw [List.map_map] at hm
          obtain ⟨q, hq, e⟩ := List.mem_map.mp hm
          have : q.1 ∈ es.map (·.1) := List.mem_map.mpr ⟨q, hq, rfl⟩
          rw [W.ks, List.mem_filter, List.mem_range] at this
          have e : (q.1 : Int) = i := e
          omega
        · walk_at "xx"
          refine ⟨by walk_at "ro", by walk_at "ro", es ++ [(i, n)], fun b o hb => ?_, ⟨⟨ep'', ?_⟩, by rw [List.map_append, W.ks, filt_yes ht]; rfl, fun q hq => ?_⟩, fun q hq => ?_⟩
          · rw [updM_ne (fun z => by rw [z, hd] at hb; cases hb)]
            exact x3 _ _ (x2 _ _ (x _ _ hb))
          · rw [List.map_append]; exact mem_here
          · rcases List.mem_append.mp hq with hq | hq
            · rw [updM_ne (hn q hq).2]
              exact x3 _ _ (x2 _ _ (W.ls q hq))
            · cases List.mem_singleton.mp hq
              rw [updM_ne nd]
              exact mem_here
          · rcases List.mem_append.mp hq with hq | hq
            · exact hn q hq
            · cases List.mem_singleton.mp hq
              exact ⟨n0, nd⟩
  · obtain ⟨r1, r2, es, x, W, hn⟩ := hI
    walk_at "xx"
    exact k μ' d es x W ⟨hd, fun q hq => (hn q hq).1⟩ d1
end

set_option autoImplicit false

set_option maxHeartbeats 2000000
set_option maxRecDepth 4000
set_option linter.unusedVariables false
set_option linter.unusedSimpArgs false
open PySem

/-- the wakers, as the law holds them -/
noncomputable def wkV (m : Nat) (f : Nat → Hd) : List V := oL (mp m fun i => (f i).k)
theorem wk_at {m : Nat} {f : Nat → Hd} {i : Nat} (h : i < m) : idx (wkV m f) (i : Int) = some (oV (f i).k) := by
  unfold wkV
  rw [idx_oL (by omega) (by rw [mp_len]; omega), Int.toNat_natCast, mp_get (fun i => (f i).k) none h]
theorem deq_o {μ : Mem} {o : Option Int} {k : Int} : deq μ (oV o) (.int k) = some (decide (o = some k)) := by
  cases o with
  | none => rfl
  | some s =>
    show some (decide (s = k)) = _
    simp
noncomputable def prD (q : Nat × Addr) : V := .tup [.int q.1, .ref q.2]

section
variable {c : Ctx} (G : Good c sg) (D : DD c)
include G D
variable {μ : Mem} {Q : V → Mem → Prop} {X : String → Mem → Prop} {a : Ad} {m : Nat} {f : Nat → Hd} {go : Bool} {l : List Rw} {tot : Int} {kn rl : List V}

theorem wdue_spec (m1 : 1 ≤ m) (m2 : m ≤ 60) (hC : Comp μ a (cf m f go rl kn)) {w : Addr} (hw : μ w = some (.list (wkV m f))) (k : ∀ μ' r (es : List (Nat × Addr)), Ext μ μ' → μ' r = some (.list (es.map prD)) → es.map (·.1) = (List.range m).filter (inT f go) → (∀ q ∈ es, μ' q.2 = some (.list (kids m f q.1))) → Q (.ref r) μ') : SC c 4 false "_law_woken_due" [.ref a.c, .int m, .ref w] μ Q X := by
  refine call_in G D.wdue rfl ?_
  unfold b__law_woken_due
  walk_at "xx"
  refine newL_in (Nat.zero_le _) fun r hr => ?_
  walk_at "xx"
  refine s_for rfl ?_
  walk_at "xx"
  refine rng1 (Int.le_trans (show (m : Int) ≤ 1048576 by omega) (Int.le_refl _)) (by omega) ?_
  refine for_nat (fun i ρ μ' => ρ "_law_company" = some (.ref a.c) ∧ ρ "_law_many" = some (.int m) ∧ ρ "_law_wakers" = some (.ref w) ∧ ρ "_law_pairs" = some (.ref r) ∧ ∃ es : List (Nat × Addr), Ext μ μ' ∧ μ' r = some (.list (es.map prD)) ∧ es.map (·.1) = (List.range i).filter (inT f go) ∧ ∀ q ∈ es, μ' q.2 = some (.list (kids m f q.1)) ∧ q.2 ≠ r)
    ⟨by rfl, by rfl, by rfl, by rfl, [], Ext.new hr _, mem_here, rfl, (fun q hq => by cases hq)⟩ (fun i ρ μ' hi hI => ?_) (fun ρ μ' hI => ?_)
  · obtain ⟨r1, r2, r3, r4, es, x, hr', ks, ls⟩ := hI
    have hC1 := hC.ext x
    have hw1 := x _ _ hw
    have hlen : es.length ≤ i := by
      have h1 := congrArg List.length ks
      rw [List.length_map] at h1
      rw [h1]
      exact Nat.le_trans (List.length_filter_le _ _) (by rw [List.length_range]; exact Nat.le_refl _)
    -- the hand is in the tree
    have yes : inT f go i = true → ∀ {body : List S}, body = (match b__law_woken_due with | [_, .for_ _ _ [.ite _ b _ _] _ _, _] => b | _ => []) → ∀ {ρ : Loc} {Q' : Fl → Loc → Mem → Prop} {X' : String → Loc → Mem → Prop}, ρ "_law_many" = some (.int m) → ρ "_law_wakers" = some (.ref w) → ρ "_law_pairs" = some (.ref r) → ρ "_law_k" = some (.int i) →
        (∀ μ'', (∃ es : List (Nat × Addr), Ext μ μ'' ∧ μ'' r = some (.list (es.map prD)) ∧ es.map (·.1) = (List.range (i + 1)).filter (inT f go) ∧ ∀ q ∈ es, μ'' q.2 = some (.list (kids m f q.1)) ∧ q.2 ≠ r) → Q' .next ρ μ'') → wpSs sg (SC c 3) false body ρ μ' Q' X' := fun ht body eb ρ Q' X' u2 u3 u4 u5 kk => by
      subst eb
      simp only [b__law_woken_due]
      walk_at "xx"
      refine e_comp rfl ?_
      walk_at "xx"
      refine rng1 (Int.le_trans (show (m : Int) ≤ 1048576 by omega) (Int.le_refl _)) (by omega) ?_
      refine comp_pick (fun j => decide ((f j).k = some (i : Int))) (by omega) (fun j μ₂ K hj x2 hK => ?_) (fun n hn => ?_)
      · have hw2 := x2 _ _ hw1
        walk_at "xx"
        refine sub_l hw2 (wk_at hj) ?_
        walk_at "xx"
        refine cmp_in deq_o ?_
        walk_at "xx"
        exact hK
      · have x2 := Ext.new hn (.list (kids m f i))
        have nr : n ≠ r := fun z => by rw [z, hr'] at hn; cases hn
        have n0 : μ n = none := by
          cases q : μ n with
          | none => rfl
          | some o => rw [x _ _ q] at hn; cases hn
        have hr2 := x2 _ _ hr'
        show es1 _ _ _ _ _ _ _ _ (updM μ' n (.list (kids m f i)))
        walk_at "xx"
        refine app_l hr2 (by rw [List.length_map]; show es.length < 1048576; omega) ?_
        walk_at "xx"
        refine kk _ ⟨es ++ [(i, n)], fun b o hb => ?_, ?_, by rw [List.map_append, ks, filt_yes ht]; rfl, fun q hq => ?_⟩
        · rw [updM_ne (fun z => by rw [z, hr] at hb; cases hb)]
          exact x2 _ _ (x _ _ hb)
        · rw [List.map_append]; exact mem_here
        · rcases List.mem_append.mp hq with hq | hq
          · rw [updM_ne (ls q hq).2]
            exact ⟨x2 _ _ (ls q hq).1, (ls q hq).2⟩
          · cases List.mem_singleton.mp hq
            rw [updM_ne nr]
            exact ⟨mem_here, nr⟩
    walk_at "xx"
    refine sub_l hw1 (wk_at hi) ?_
    walk_at "xx"
    cases hk : (f i).k with
    | some s =>
      refine cmp_in (r := true) (by rfl) ?_
      walk_at "w"
      walk_at "w"
      walk_at "w"
      walk_at "w"
      refine yes (by unfold inT; rw [hk]; rfl) rfl (by walk_at "ro") (by walk_at "ro") (by walk_at "ro") (by walk_at "ro") fun μ'' h => ?_
      walk_at "xx"
      exact ⟨by walk_at "ro", by walk_at "ro", by walk_at "ro", by walk_at "ro", h⟩
    | none =>
      refine cmp_in (r := false) (by rfl) ?_
      walk_at "xx"
      refine br_d (fun q => ?_) (fun q => ?_)
      · walk_at "xx"
        refine meth_own "Company.runs" hC1.c hC1.cd (by rfl) (by rfl) (by rfl) ?_
        walk_at "xx"
        refine sc_up (runs_spec G D.k.runs hC1 ?_) (by decide)
        cases go with
        | true =>
          show ifK _ _ _ _ _ _ _ _ (.bool true) _
          walk_at "w"
          walk_at "w"
          refine yes (by unfold inT; rw [decide_eq_true (show i = 0 by omega)]; simp) rfl (by walk_at "ro") (by walk_at "ro") (by walk_at "ro") (by walk_at "ro") fun μ'' h => ?_
          walk_at "xx"
          exact ⟨by walk_at "ro", by walk_at "ro", by walk_at "ro", by walk_at "ro", h⟩
        | false =>
          show ifK _ _ _ _ _ _ _ _ (.bool false) _
          walk_at "xx"
          have ht : inT f false i = false := by unfold inT; rw [hk]; simp
          exact ⟨by walk_at "ro", by walk_at "ro", by walk_at "ro", by walk_at "ro", es, x, hr', by rw [ks, filt_no ht], ls⟩
      · walk_at "xx"
        have ht : inT f go i = false := by unfold inT; rw [hk, decide_eq_false (show ¬ i = 0 by omega)]; rfl
        exact ⟨by walk_at "ro", by walk_at "ro", by walk_at "ro", by walk_at "ro", es, x, hr', by rw [ks, filt_no ht], ls⟩
  · obtain ⟨r1, r2, r3, r4, es, x, hr', ks, ls⟩ := hI
    walk_at "xx"
    exact k μ' r es x hr' ks fun q hq => (ls q hq).1

theorem alike_pair {i : Int} {x y : Addr} {l : List V} (hx : μ x = some (.list l)) (hy : μ y = some (.list l)) (hz : l.length ≤ lim) (hp : ∀ v ∈ l, plain 0 v = true) (h : Q (.bool true) μ) : SC c 4 false "_law_alike" [.tup [.int i, .ref x], .tup [.int i, .ref y]] μ Q X := by
  refine call_in G D.alike rfl ?_
  unfold b__law_alike
  walk_at "ww"
  refine cmp_in (r := false) (by rfl) ?_
  walk_at "ww"
  refine br_ndt rfl ?_
  refine s_for rfl ?_
  walk_at "ww"
  refine rng1 (show (2 : Int) ≤ 1048576 by decide) (show (-2 ^ 62 : Int) < 2 by decide) ?_
  refine for_rng (fun j ρ μ' => ρ "_law_found" = some (.tup [.int i, .ref x]) ∧ ρ "_law_due" = some (.tup [.int i, .ref y]) ∧ μ' = μ) ⟨by rfl, by rfl, rfl⟩ (fun j ρ μ' h0 h1 hi => ?_) (fun ρ μ' hi => ?_)
  · obtain ⟨r1, r2, rfl⟩ := hi
    have : j = 0 ∨ j = 1 := by have h1 : j < 2 := h1; omega
    rcases this with rfl | rfl
    · walk_at "ww"
      refine sub_t (v := .int i) rfl ?_
      walk_at "ww"
      refine sub_t (v := .int i) rfl ?_
      walk_at "ww"
      refine sc_up (alike_plain G D.whole D.alike 0 rfl ?_) (by decide)
      walk_at "ww"
      exact ⟨by walk_at "ro", by walk_at "ro", rfl⟩
    · walk_at "ww"
      refine sub_t (v := .ref x) rfl ?_
      walk_at "ww"
      refine sub_t (v := .ref y) rfl ?_
      walk_at "ww"
      refine alike_list G D.whole D.alike hx hy hz hp ?_
      walk_at "ww"
      exact ⟨by walk_at "ro", by walk_at "ro", rfl⟩
  · obtain ⟨r1, r2, rfl⟩ := hi
    walk_at "ww"
    exact h
theorem alike_pairs {x y : Addr} {us ws : List (Nat × Addr)} {F : Nat → List V} (hx : μ x = some (.list (us.map prD))) (hy : μ y = some (.list (ws.map prD))) (hk : us.map (·.1) = ws.map (·.1)) (hu : ∀ q ∈ us, μ q.2 = some (.list (F q.1))) (hw : ∀ q ∈ ws, μ q.2 = some (.list (F q.1))) (hF : ∀ i, (F i).length ≤ 1000 ∧ ∀ v ∈ F i, plain 0 v = true) (hz : us.length ≤ 1000) (h : Q (.bool true) μ) : SC c 5 false "_law_alike" [.ref x, .ref y] μ Q X := by
  have hlen : us.length = ws.length := by have := congrArg List.length hk; simpa using this
  refine call_in G D.alike rfl ?_
  unfold b__law_alike
  walk_at "ww"
  refine cmp_in (r := false) (by rfl) ?_
  walk_at "ww"
  refine isi_list hy (by simp) (b := false) (by rfl) ?_
  walk_at "ww"
  refine isi_list hy (by simp) (b := false) (by rfl) ?_
  walk_at "ww"
  refine isi_list hy (by simp) (b := false) (by rfl) ?_
  walk_at "ww"
  refine isi_list hy (by simp) (b := false) (by rfl) ?_
  walk_at "ww"
  refine isi_list hy (by simp) (b := true) (by rfl) ?_
  walk_at "ww"
  refine isi_list hx (by simp) (b := true) (by rfl) ?_
  walk_at "ww"
  rw [List.length_map, List.length_map, hlen]
  refine br_ndt rfl ?_
  refine s_for rfl ?_
  walk_at "ww"
  rw [List.length_map]
  refine rng1 (Int.le_trans (show (ws.length : Int) ≤ 1048576 by omega) (Int.le_refl _)) (by omega) ?_
  refine for_nat (fun i ρ μ' => ρ "_law_found" = some (.ref x) ∧ ρ "_law_due" = some (.ref y) ∧ μ' = μ) ⟨by rfl, by rfl, rfl⟩ (fun i ρ μ' hi hI => ?_) (fun ρ μ' hI => ?_)
  · obtain ⟨r1, r2, rfl⟩ := hI
    have e1 : us[i]? = some us[i] := List.getElem?_eq_getElem (by omega)
    have e2 : ws[i]? = some ws[i] := List.getElem?_eq_getElem (by omega)
    generalize us[i] = u at e1
    generalize ws[i] = w at e2
    have ek : u.1 = w.1 := by
      have h1 : (us.map (·.1))[i]? = some u.1 := by rw [List.getElem?_map, e1]; rfl
      have h2 : (ws.map (·.1))[i]? = some w.1 := by rw [List.getElem?_map, e2]; rfl
      rw [hk, h2] at h1
      exact (Option.some.inj h1).symm
    have i1 : idx (us.map prD) (i : Int) = some (prD u) := by unfold idx; rw [if_pos (by omega), Int.toNat_natCast, List.getElem?_map, e1]; rfl
    have i2 : idx (ws.map prD) (i : Int) = some (prD w) := by unfold idx; rw [if_pos (by omega), Int.toNat_natCast, List.getElem?_map, e2]; rfl
    have g1 := hu u (List.mem_of_getElem? e1)
    have g2 := hw w (List.mem_of_getElem? e2)
    rw [ek] at g1
    walk_at "ww"
    refine sub_l hx i1 ?_
    walk_at "ww"
    refine sub_l hy i2 ?_
    walk_at "ww"
    unfold prD
    rw [ek]
    refine alike_pair G D g1 g2 (Nat.le_trans (hF w.1).1 (by unfold lim; omega)) (hF w.1).2 ?_
    walk_at "ww"
    exact ⟨by walk_at "ro", by walk_at "ro", rfl⟩
  · obtain ⟨r1, r2, rfl⟩ := hI
    walk_at "ww"
    exact h
end

set_option autoImplicit false

set_option maxHeartbeats 2000000
set_option maxRecDepth 4000
set_option linter.unusedVariables false
set_option linter.unusedSimpArgs false
open PySem

theorem nV_ints (p : List Nat) : nV p = (p.map fun (i : Nat) => (i : Int)).map V.int := by unfold nV; rw [List.map_map]; rfl
theorem nV_len (p : List Nat) : (nV p).length = p.length := List.length_map ..
theorem nV_at {p : List Nat} {j i : Nat} (h : p[j]? = some i) : idx (nV p) (j : Int) = some (.int i) := by
  unfold idx nV
  rw [if_pos (by omega), Int.toNat_natCast, List.getElem?_map, h]; rfl
theorem nV_end {p : List Nat} {i : Nat} (hl : 0 < p.length) (h : p[p.length - 1]? = some i) : idx (nV p) (-1) = some (.int i) := by
  unfold idx
  rw [if_neg (by decide), if_pos (by rw [nV_len]; omega)]
  have : (-1 + ((nV p).length : Int)).toNat = p.length - 1 := by rw [nV_len]; omega
  rw [this]
  unfold nV
  rw [List.getElem?_map, h]; rfl
theorem nV_plain (p : List Nat) : ∀ v ∈ nV p, plain 0 v = true := fun v hv => by
  unfold nV at hv
  obtain ⟨i, _, rfl⟩ := List.mem_map.mp hv
  rfl

section
variable {c : Ctx} (G : Good c sg) (D : DD c)
include G D
variable {μ : Mem} {Q : V → Mem → Prop} {X : String → Mem → Prop} {a : Ad} {m : Nat} {f : Nat → Hd} {go : Bool} {l : List Rw} {tot : Int} {kn rl : List V}

theorem wayg_spec (m2 : m ≤ 60) (J : JJ m f go l tot) (hC : Comp μ a (cf m f go rl kn)) {w : Addr} (hw : μ w = some (.list (wkV m f))) {n : Nat} (hn : n < m) (k : ∀ μ', Ext μ μ' → Q (.bool true) μ') : SC c 6 false "_law_way_good" [.ref a.c, .int m, .ref w, .int n] μ Q X := by
  have m1 := J.lo
  refine call_in G D.wayg rfl ?_
  unfold b__law_way_good
  walk_at "xx"
  refine way_spec G D m2 J hC hn fun μ₁ r p x hr r0 hp => ?_
  have hC1 := hC.ext x
  have hw1 := x _ _ hw
  have rest : inT f go n = true → ∀ {body : List S}, body = (match b__law_way_good with | [_, _, s1, s2, s3, s4] => [s1, s2, s3, s4] | _ => []) → ∀ {ρ : Loc} {X' : String → Loc → Mem → Prop}, ρ "_law_many" = some (.int m) → ρ "_law_wakers" = some (.ref w) → ρ "_law_number" = some (.int n) → ρ "_law_found" = some (.ref r) → wpSs sg (SC c 5) false body ρ μ₁ (fq Q) X' := fun ht body eb ρ X' u1 u2 u3 u4 => by
    subst eb
    simp only [b__law_way_good]
    have hw' : Way f n p := by
      rcases hp with ⟨h, _⟩ | ⟨_, h⟩
      · rw [ht] at h; cases h
      · exact h
    obtain ⟨p', hp', hb, hd⟩ := J.way hn ht
    rw [hp'.uniq hw'] at hb hd
    have hlen : p.length ≤ m := len_le m hd hb
    have hpos := hw'.ne
    walk_at "xx"
    refine isi_list hr (by simp) (b := true) (by rfl) ?_
    walk_at "xx"
    rw [nV_len]
    refine br_df (by omega) ?_
    walk_at "xx"
    rw [nV_len]
    refine br_df (by omega) ?_
    walk_at "xx"
    refine lenset_in (ns := p.map fun (i : Nat) => (i : Int)) rfl (by rw [hr, nV_ints]) (List.pairwise_map.mpr (hd.imp fun h q => h (Int.ofNat.inj q))) (by rw [List.length_map]; omega) ?_
    walk_at "xx"
    rw [nV_len, List.length_map]
    refine br_ndt rfl ?_
    walk_at "xx"
    refine sub_l hr (nV_at (j := 0) hw'.first) ?_
    walk_at "xx"
    refine sc_up (whole_spec G D.whole ?_) (by decide)
    walk_at "xx"
    refine sub_l hr (nV_at (j := 0) hw'.first) ?_
    walk_at "xx"
    refine br_ndt rfl ?_
    walk_at "xx"
    refine sub_l hr (nV_end hpos hw'.last) ?_
    walk_at "xx"
    refine br_ndt rfl ?_
    walk_at "xx"
    refine s_for rfl ?_
    walk_at "xx"
    rw [nV_len]
    refine rng2 (Int.le_trans (show (p.length : Int) - 1 ≤ 1048576 by omega) (Int.le_refl _)) (by omega) (by decide) ?_
    refine for_rng (fun j ρ' μ' => ρ' "_law_wakers" = some (.ref w) ∧ ρ' "_law_found" = some (.ref r) ∧ μ' = μ₁) ⟨u2, u4, rfl⟩ (fun j ρ' μ' h0 h1 hI => ?_) (fun ρ' μ' hI => ?_)
    · obtain ⟨v2, v4, rfl⟩ := hI
      obtain ⟨j, rfl⟩ := Int.eq_ofNat_of_zero_le (show 0 ≤ j by omega)
      have e1 : p[j - 1]? = some p[j - 1] := List.getElem?_eq_getElem (by omega)
      generalize p[j - 1] = i at e1
      have him := hb i (List.mem_of_getElem? e1)
      rcases hw'.at _ _ e1 with ⟨_, q⟩ | ⟨_, s, hs, hnx⟩
      · omega
      rw [show j - 1 + 1 = j by omega] at hnx
      have e2 : idx (nV p) ((j : Int) - 1) = some (.int i) := by rw [show (j : Int) - 1 = ((j - 1 : Nat) : Int) by omega]; exact nV_at e1
      walk_at "xx"
      refine sub_l hr (nV_at hnx) ?_
      walk_at "xx"
      refine sc_up (whole_spec G D.whole ?_) (by decide)
      walk_at "xx"
      refine sub_l hr e2 ?_
      walk_at "xx"
      refine sub_l hw1 (wk_at him) ?_
      walk_at "xx"
      refine sub_l hr (nV_at hnx) ?_
      rw [hs]
      refine cmp_in (cmp_ne (deq_o (o := some (s : Int)))) ?_
      rw [decide_eq_true rfl]
      walk_at "xx"
      exact ⟨by walk_at "ro", by walk_at "ro", rfl⟩
    · obtain ⟨v2, v4, rfl⟩ := hI
      walk_at "xx"
      refine sub_l hw1 (wk_at (i := 0) m1) ?_
      rw [J.k0]
      walk_at "xx"
      refine cmp_in (r := true) (by rfl) ?_
      walk_at "xx"
      exact k _ x
  have none_ : inT f go n = false → p = [] := fun h => by
    rcases hp with ⟨_, h'⟩ | ⟨h', _⟩
    · exact h'
    · rw [h] at h'; cases h'
  walk_at "xx"
  refine sub_l hw1 (wk_at hn) ?_
  walk_at "xx"
  cases hk : (f n).k with
  | some s =>
    refine cmp_in (r := false) (by rfl) ?_
    walk_at "w"
    walk_at "w"
    walk_at "w"
    walk_at "w"
    refine rest (by unfold inT; rw [hk]; rfl) rfl ?_ ?_ ?_ ?_ <;> rfl
  | none =>
    refine cmp_in (r := true) (by rfl) ?_
    have fin : inT f go n = false → ∀ {body : List S}, body = (match b__law_way_good with | [_, .ite _ b _ _, _, _, _, _] => b | _ => []) → ∀ {ρ : Loc} {R : Loc → Mem → Prop} {X' : String → Loc → Mem → Prop}, ρ "_law_found" = some (.ref r) → wpSs sg (SC c 5) false body ρ μ₁ (sq R (fq Q)) X' := fun ht body eb ρ R X' u4 => by
      subst eb
      simp only [b__law_way_good]
      rw [none_ ht] at hr
      walk_at "xx"
      refine newL_in (Nat.zero_le _) fun r2 hr2 => ?_
      have x2 := Ext.new hr2 (.list [])
      walk_at "xx"
      refine sc_up (alike_list G D.whole D.alike (n := 0) (l := []) (x2 _ _ hr) mem_here (Nat.zero_le _) (fun v hv => by cases hv) ?_) (by decide)
      walk_at "xx"
      exact k _ (x.trans x2)
    walk_at "xx"
    refine br_d (fun q => ?_) (fun q => ?_)
    · walk_at "w"
      walk_at "w"
      refine fin (by unfold inT; rw [hk, decide_eq_false (show ¬ n = 0 by omega)]; rfl) rfl ?_
      rfl
    · walk_at "xx"
      refine meth_own "Company.runs" hC1.c hC1.cd (by rfl) (by rfl) (by rfl) ?_
      walk_at "xx"
      refine sc_up (runs_spec G D.k.runs hC1 ?_) (by decide)
      cases go with
      | false =>
        show notK _ (.bool false) _
        walk_at "w"
        show ifK _ _ _ _ _ _ _ _ (.bool true) _
        walk_at "w"
        walk_at "w"
        refine fin (by unfold inT; rw [hk]; simp) rfl ?_
        rfl
      | true =>
        show notK _ (.bool true) _
        walk_at "w"
        show ifK _ _ _ _ _ _ _ _ (.bool false) _
        walk_at "w"
        walk_at "w"
        refine rest (by unfold inT; rw [decide_eq_true (show n = 0 by omega)]; simp) rfl ?_ ?_ ?_ ?_ <;> rfl
end

set_option autoImplicit false

set_option maxHeartbeats 2000000
set_option maxRecDepth 4000
set_option linter.unusedVariables false
set_option linter.unusedSimpArgs false
open PySem

/-- a dict that the law holds, with what it told then -/
noncomputable def PairOk (μ : Mem) (N : Addr → Prop) (e : Addr) : Prop := ∃ (u d : Addr) (ep : Nat) (zs es : List (Nat × Addr)) (F : Nat → List V), μ e = some (.list [.ref u, .ref d]) ∧ μ u = some (.list (zs.map prD)) ∧ μ d = some (.dict ep (es.map fun q => ((q.1 : Int), V.ref q.2))) ∧ zs.map (·.1) = es.map (·.1) ∧
  (∀ q ∈ zs, μ q.2 = some (.list (F q.1)) ∧ N q.2) ∧ (∀ q ∈ es, μ q.2 = some (.list (F q.1)) ∧ N q.2) ∧ (∀ i, (F i).length ≤ 60 ∧ ∀ v ∈ F i, plain 0 v = true) ∧ es.length ≤ 60 ∧ N e ∧ N u ∧ N d ∧ d ≠ 1
theorem PairOk.keep {μ μ' : Mem} {N N' : Addr → Prop} {e : Addr} (h : PairOk μ N e) (k : ∀ b o, μ b = some o → N b → μ' b = some o ∧ N' b) : PairOk μ' N' e := by
  obtain ⟨u, d, ep, zs, es, F, h1, h2, h3, h4, h5, h6, h7, h8, n1, n2, n3, d1⟩ := h
  exact ⟨u, d, ep, zs, es, F, (k _ _ h1 n1).1, (k _ _ h2 n2).1, (k _ _ h3 n3).1, h4, fun q hq => k _ _ (h5 q hq).1 (h5 q hq).2, fun q hq => k _ _ (h6 q hq).1 (h6 q hq).2, h7, h8, (k _ _ h1 n1).2, (k _ _ h2 n2).2, (k _ _ h3 n3).2, d1⟩
/-- debts that the law holds, twice -/
noncomputable def HeldOk (μ : Mem) (N : Addr → Prop) (e : Addr) : Prop := ∃ u w R, μ e = some (.list [.ref u, .ref w]) ∧ μ u = some (.list R) ∧ μ w = some (.list R) ∧ (∀ v ∈ R, plain 1 v = true) ∧ N e ∧ N u ∧ N w
theorem HeldOk.keep {μ μ' : Mem} {N N' : Addr → Prop} {e : Addr} (h : HeldOk μ N e) (k : ∀ b o, μ b = some o → N b → μ' b = some o ∧ N' b) : HeldOk μ' N' e := by
  obtain ⟨u, w, R, h1, h2, h3, h4, n1, n2, n3⟩ := h
  exact ⟨u, w, R, (k _ _ h1 n1).1, (k _ _ h2 n2).1, (k _ _ h3 n3).1, h4, (k _ _ h1 n1).2, (k _ _ h2 n2).2, (k _ _ h3 n3).2⟩
theorem look_es {es : List (Nat × Addr)} (hn : (es.map (·.1)).Nodup) {q : Nat × Addr} (hq : q ∈ es) : (es.map fun q => ((q.1 : Int), V.ref q.2)).lookup (q.1 : Int) = some (.ref q.2) := by
  induction es with
  | nil => cases hq
  | cons p es ih =>
    rw [List.map_cons, List.nodup_cons] at hn
    rw [List.map_cons, List.lookup_cons]
    rcases List.mem_cons.mp hq with rfl | hq
    · simp
    · have : q.1 ≠ p.1 := fun z => hn.1 (z ▸ List.mem_map.mpr ⟨q, hq, rfl⟩)
      rw [show ((q.1 : Int) == (p.1 : Int)) = false from beq_false_of_ne (by omega)]
      exact ih hn.2 hq
theorem kids_len (m : Nat) (f : Nat → Hd) (n : Nat) : (kids m f n).length ≤ m := pick_len ..
theorem Wb.nodup {μ : Mem} {D : Addr} {m k : Nat} {f : Nat → Hd} {go : Bool} {es : List (Nat × Addr)} (h : Wb μ D m k f go es) : (es.map (·.1)).Nodup := by
  rw [h.ks]; exact List.nodup_range.sublist List.filter_sublist
theorem pairs_es (es : List (Nat × Addr)) : pairs (es.map fun q => ((q.1 : Int), V.ref q.2)) = es.map prD := by
  unfold pairs
  rw [List.map_map]; rfl

section
variable {c : Ctx} (G : Good c sg) (D : DD c)
include G D
variable {μ : Mem} {Q : V → Mem → Prop} {X : String → Mem → Prop} {a : Ad} {m : Nat} {f : Nat → Hd} {go : Bool} {l : List Rw} {tot : Int} {kn rl : List V}

/-- the lists of a dict that is thrown away are written to -/
theorem spoil {ρ : Loc} {r : List S} {Q : Fl → Loc → Mem → Prop} {X : String → Loc → Mem → Prop} {μ₀ : Mem} {d : Addr} {es : List (Nat × Addr)} {body : List S} (eb : body = (match b__law_woken_good with | [_, _, _, _, .for_ _ _ b _ _, _] => b | _ => []))
    (m2 : m ≤ 60) (x0 : Ext μ₀ μ) (W : Wb μ d m m f go es) (hn : ∀ q ∈ es, μ₀ q.2 = none) (d1 : d ≠ 1) (u1 : ρ "_law_again" = some (.ref d)) {ep : Nat} (hd : μ d = some (.dict ep (es.map fun q => ((q.1 : Int), V.ref q.2))))
    (fin : ∀ ρ' μ', Ext μ₀ μ' → wpSs sg (SC c 6) false r ρ' μ' Q X) : forW sg (SC c 6) false "_law_k" body r ρ Q X (.dk d ep ((es.map fun q => ((q.1 : Int), V.ref q.2)).map (·.1))) μ := by
  subst eb
  have hlen := W.len
  refine for_in (items := es.map fun q => V.int q.1) ?_ (fun k ρ' μ' => ρ' "_law_again" = some (.ref d) ∧ Ext μ₀ μ' ∧ μ' d = some (.dict ep (es.map fun q => ((q.1 : Int), V.ref q.2))) ∧ ∀ q ∈ es, ∃ l, μ' q.2 = some (.list l) ∧ l.length ≤ 60 + k) ⟨u1, x0, hd, fun q hq => ⟨_, W.ls q hq, Nat.le_trans (kids_len ..) m2⟩⟩ (fun k ρ' μ' hI => ?_) (fun k w ρ' μ' hk hI => ?_) (fun ρ' μ' hI => fin ρ' μ' hI.2.1)
  · unfold itemsOf
    simp only [hd, d1, ne_eq, not_false_eq_true, true_and, if_true, List.map_map]
    rfl
  · unfold itemsOf
    simp only [hI.2.2.1, d1, ne_eq, not_false_eq_true, true_and, if_true, List.map_map]
    rfl
  · obtain ⟨r1, x, hd', ls⟩ := hI
    rw [List.getElem?_map] at hk
    obtain ⟨q, hq, rfl⟩ := Option.map_eq_some_iff.mp hk
    have hkl := (List.getElem?_eq_some_iff.mp hq).1
    have hm := List.mem_of_getElem? hq
    obtain ⟨l, hl, hz⟩ := ls q hm
    simp only [b__law_woken_good]
    walk_at "xx"
    refine dsub_in hd' (look_es W.nodup hm) ?_
    walk_at "xx"
    refine app_l hl (by show l.length < 1048576; omega) ?_
    have nd : d ≠ q.2 := fun z => by rw [z, hl] at hd'; cases hd'
    walk_at "xx"
    refine ⟨by walk_at "ro", fun b o hb => ?_, ?_, fun p hp => ?_⟩
    · rw [updM_ne (fun z => by rw [z, hn q hm] at hb; cases hb)]; exact x _ _ hb
    · rw [updM_ne nd]; exact hd'
    · by_cases z : p.2 = q.2
      · rw [z]; exact ⟨_, mem_here, by rw [List.length_append]; show l.length + 1 ≤ _; omega⟩
      · obtain ⟨l', hl', hz'⟩ := ls p hp
        exact ⟨l', by rw [updM_ne z]; exact hl', by omega⟩

theorem wgood_spec (m1 : 1 ≤ m) (m2 : m ≤ 60) (hC : Comp μ a (cf m f go rl kn)) {w H : Addr} (hw : μ w = some (.list (wkV m f))) {L : List Addr} (hH : μ H = some (.list (L.map V.ref))) (hHa : H ∉ a.list) (hwH : w ≠ H) (zL : L.length < 10000)
    (k : ∀ μ' e, (∀ b o, μ b = some o → b ≠ H → μ' b = some o) → μ' H = some (.list ((L ++ [e]).map V.ref)) → PairOk μ' (fun b => μ b = none) e → Q (.bool true) μ') : SC c 7 false "_law_woken_good" [.ref a.c, .int m, .ref w, .ref H] μ Q X := by
  refine call_in G D.wgood rfl ?_
  have sp := fun {μ : Mem} {ρ : Loc} {r : List S} {Q : Fl → Loc → Mem → Prop} {X : String → Loc → Mem → Prop} {μ₀ : Mem} {d : Addr} {es : List (Nat × Addr)} {body : List S} => @spoil c G D μ m f go ρ r Q X μ₀ d es body
  unfold b__law_woken_good
  walk_at "xx"
  refine sc_up (woken_spec G D m1 m2 hC fun μ₁ d es x1 W hn d1 => ?_) (by decide)
  obtain ⟨ep, hd⟩ := W.d
  walk_at "xx"
  refine isd_in hd ?_
  walk_at "xx"
  refine items_in rfl hd d1 ?_
  rw [pairs_es]
  have hlen := W.len
  refine newL_in (by rw [List.length_map]; show es.length ≤ 1048576; omega) fun i hi => ?_
  have x2 := Ext.new hi (.list (es.map prD))
  have here2 : updM μ₁ i (.list (es.map prD)) i = some (.list (es.map prD)) := mem_here
  generalize updM μ₁ i (.list (es.map prD)) = μ₂ at x2 here2 ⊢
  have x12 := x1.trans x2
  walk_at "xx"
  refine sc_up (wdue_spec G D m1 m2 (hC.ext x12) (x12 _ _ hw) fun μ₃ r ws x3 hr ks ls => ?_) (by decide)
  have x13 := x12.trans x3
  walk_at "xx"
  refine sc_up (alike_pairs G D (F := kids m f) (x3 _ _ here2) hr (by rw [W.ks, ks]) (fun q hq => x3 _ _ (x2 _ _ (W.ls q hq))) ls (fun i => ⟨Nat.le_trans (kids_len ..) (by omega), kids_plain m f i⟩) (by omega) ?_) (by decide)
  have hd3 := x3 _ _ (x2 _ _ hd)
  have ls3 : ∀ q ∈ es, μ₃ q.2 = some (.list (kids m f q.1)) := fun q hq => x3 _ _ (x2 _ _ (W.ls q hq))
  have nodup := W.nodup
  clear hr ks ls
  have hH3 := x13 _ _ hH
  walk_at "xx"
  refine e_comp rfl ?_
  refine e_dkeys (by rfl) hd3 ?_
  refine comp_in (items := es.map fun q => V.int q.1) (by unfold itemsOf; simp only [hd3, d1, ne_eq, not_false_eq_true, true_and, if_true, List.map_map]; rfl) fun n hn' => ⟨fun j μ' => ∃ zs : List (Nat × Addr), zs.map (·.1) = (es.take j).map (·.1) ∧ Ext μ₃ μ' ∧ μ' n = some (.list (zs.map prD)) ∧ ∀ q ∈ zs, μ' q.2 = some (.list (kids m f q.1)) ∧ μ₃ q.2 = none ∧ q.2 ≠ n,
    ⟨[], rfl, Ext.new hn' _, mem_here, (fun q hq => by cases hq)⟩, fun j μ' hI => ?_, fun j v μ' hj hI => ?_, fun μ' hI => ?_⟩
  · obtain ⟨_, _, x, _⟩ := hI
    unfold itemsOf
    simp only [x _ _ hd3, d1, ne_eq, not_false_eq_true, true_and, if_true, List.map_map]
    rfl
  · obtain ⟨zs, hz, x, hzs, lz⟩ := hI
    rw [List.getElem?_map] at hj
    obtain ⟨q, hq, rfl⟩ := Option.map_eq_some_iff.mp hj
    have hm := List.mem_of_getElem? hq
    have hjl := (List.getElem?_eq_some_iff.mp hq).1
    have zlen : zs.length ≤ j := by
      have h1 := congrArg List.length hz
      rw [List.length_map, List.length_map, List.length_take] at h1
      omega
    refine if_nil (br_t ?_)
    walk_at "xx"
    refine dsub_in (x _ _ hd3) (look_es nodup hm) ?_
    walk_at "xx"
    refine list_l (x _ _ (ls3 q hm)) (newL_in (Nat.le_trans (kids_len ..) (by unfold lim; omega)) fun z hz' => ?_)
    walk_at "xx"
    have zn : z ≠ n := fun e => by rw [e, hzs] at hz'; cases hz'
    have z3 : μ₃ z = none := by
      cases e : μ₃ z with
      | none => rfl
      | some o => rw [x _ _ e] at hz'; cases hz'
    refine ⟨zs.map prD, ?_, by rw [List.length_map]; show zs.length < 1048576; omega, zs ++ [(q.1, z)], ?_, fun b o hb => ?_, ?_, fun p hp => ?_⟩
    · rw [updM_ne (Ne.symm zn)]; exact hzs
    · rw [List.map_append, hz, List.take_add_one, hq, List.map_append]; rfl
    · rw [updM_ne (fun e => by rw [e, hn'] at hb; cases hb), updM_ne (fun e => by rw [e, z3] at hb; cases hb)]
      exact x _ _ hb
    · rw [List.map_append]; exact mem_here
    · rcases List.mem_append.mp hp with hp | hp
      · obtain ⟨g1, g2, g3⟩ := lz p hp
        rw [updM_ne g3, updM_ne (fun e => by rw [e, hz'] at g1; cases g1)]
        exact ⟨g1, g2, g3⟩
      · cases List.mem_singleton.mp hp
        rw [updM_ne zn]
        exact ⟨mem_here, z3, zn⟩
  · obtain ⟨zs, hz, x4, hzs, lz⟩ := hI
    rw [List.length_map, List.take_length] at hz
    have new : ∀ {b : Addr}, μ₃ b = none → μ b = none := fun {b} h => by
      cases e : μ b with
      | none => rfl
      | some o => rw [x13 _ _ e] at h; cases h
    have hH4 := x4 _ _ (x13 _ _ hH)
    walk_at "xx"
    refine newL_in (show 2 ≤ 1048576 by decide) fun e he => ?_
    have x5 := Ext.new he (.list [.ref n, .ref d])
    have heH : H ≠ e := fun z => by rw [z, he] at hH4; cases hH4
    have hH5 := x5 _ _ hH4
    have e3 : μ₃ e = none := by
      cases q : μ₃ e with
      | none => rfl
      | some o => rw [x4 _ _ q] at he; cases he
    walk_at "xx"
    refine app_l hH5 (by rw [List.length_map]; show L.length < 1048576; omega) ?_
    -- the memory from here: all but H stands
    have old : ∀ b o, μ b = some o → b ≠ H → (updM (updM μ' e (.list [.ref n, .ref d])) H (.list (L.map V.ref ++ [.ref e]))) b = some o := fun b o hb hbH => by
      rw [updM_ne hbH]; exact x5 _ _ (x4 _ _ (x13 _ _ hb))
    have hHn : ∀ {b : Addr}, μ b = none → b ≠ H := fun {b} h z => by rw [z, hH] at h; cases h
    have P : PairOk (updM (updM μ' e (.list [.ref n, .ref d])) H (.list (L.map V.ref ++ [.ref e]))) (fun b => μ b = none) e := by
      refine ⟨n, d, ep, zs, es, kids m f, ?_, ?_, ?_, hz, fun q hq => ⟨?_, new (lz q hq).2.1⟩, fun q hq => ⟨?_, hn.2 q hq⟩, fun i => ⟨Nat.le_trans (kids_len ..) m2, kids_plain m f i⟩, by omega, new e3, new hn', hn.1, d1⟩
      · rw [updM_ne (Ne.symm heH)]; exact mem_here
      · rw [updM_ne (hHn (new hn'))]; exact x5 _ _ hzs
      · rw [updM_ne (hHn hn.1)]; exact x5 _ _ (x4 _ _ hd3)
      · rw [updM_ne (hHn (new (lz q hq).2.1))]; exact x5 _ _ (lz q hq).1
      · rw [updM_ne (hHn (hn.2 q hq))]; exact x5 _ _ (x4 _ _ (ls3 q hq))
    have hHe : (updM (updM μ' e (.list [.ref n, .ref d])) H (.list (L.map V.ref ++ [.ref e]))) H = some (.list ((L ++ [e]).map V.ref)) := by rw [List.map_append]; exact mem_here
    have hC6 : Comp (updM (updM μ' e (.list [.ref n, .ref d])) H (.list (L.map V.ref ++ [.ref e]))) a (cf m f go rl kn) := hC.mono fun b o hb hin => old b o hb (fun z => hHa (z ▸ hin))
    generalize updM (updM μ' e (.list [.ref n, .ref d])) H (.list (L.map V.ref ++ [.ref e])) = μ₆ at old P hHe hC6 ⊢
    walk_at "xx"
    refine sc_up (woken_spec G D m1 m2 hC6 fun μ₇ d' es' x7 W' hn7 d1' => ?_) (by decide)
    obtain ⟨ep', hd'⟩ := W'.d
    walk_at "xx"
    refine s_for rfl ?_
    refine e_dkeys (by rfl) hd' ?_
    refine sp rfl m2 x7 W' hn7.2 d1' (by rfl) hd' fun ρ' μ₈ x8 => ?_
    walk_at "xx"
    exact k μ₈ e (fun b o hb hbH => x8 _ _ (old b o hb hbH)) (x8 _ _ hHe) (P.keep fun b o hb hN => ⟨x8 _ _ hb, hN⟩)
end

set_option autoImplicit false

set_option maxHeartbeats 2000000
set_option maxRecDepth 4000
set_option linter.unusedVariables false
set_option linter.unusedSimpArgs false
open PySem

/-- what the law holds: debts told and dicts told, all of them new lists of its own -/
noncomputable def Nw (a : Ad) (H P b : Addr) : Prop := b ∉ a.list ∧ b ≠ H ∧ b ≠ P
structure HSt (μ : Mem) (a : Ad) (H P : Addr) (x y : Nat) (L M : List Addr) : Prop where
  h : μ H = some (.list (L.map V.ref))
  p : μ P = some (.list (M.map V.ref))
  zh : L.length ≤ x
  zp : M.length ≤ y
  hs : ∀ e ∈ L, HeldOk μ (Nw a H P) e
  ps : ∀ e ∈ M, PairOk μ (Nw a H P) e
  ha : H ∉ a.list
  pa : P ∉ a.list
  ne : H ≠ P
section
variable {μ μ' : Mem} {a a' : Ad} {H P : Addr} {h p : Nat} {L M : List Addr}
theorem HSt.move (s : HSt μ a H P h p L M) (kp : Keep a a' μ μ') : HSt μ' a' H P h p L M :=
  ⟨(kp _ _ s.h s.ha).1, (kp _ _ s.p s.pa).1, s.zh, s.zp, fun e he => (s.hs e he).keep fun b o hb n => ⟨(kp b o hb n.1).1, (kp b o hb n.1).2, n.2⟩, fun e he => (s.ps e he).keep fun b o hb n => ⟨(kp b o hb n.1).1, (kp b o hb n.1).2, n.2⟩, (kp _ _ s.h s.ha).2, (kp _ _ s.p s.pa).2, s.ne⟩
theorem HSt.ext (s : HSt μ a H P h p L M) (x : Ext μ μ') : HSt μ' a H P h p L M := s.move fun b o hb n => ⟨x b o hb, n⟩
theorem HSt.up (s : HSt μ a H P h p L M) {h' p' : Nat} (q : h ≤ h') (r : p ≤ p') : HSt μ a H P h' p' L M := ⟨s.h, s.p, Nat.le_trans s.zh q, Nat.le_trans s.zp r, s.hs, s.ps, s.ha, s.pa, s.ne⟩
theorem HSt.new (s : HSt μ a H P h p L M) {C : Co} (hC : Comp μ a C) {b : Addr} (hb : μ b = none) : Nw a H P b :=
  ⟨hC.notin hb, (fun z => by rw [z, s.h] at hb; cases hb), (fun z => by rw [z, s.p] at hb; cases hb)⟩
theorem HSt.held (s : HSt μ a H P h p L M) {C : Co} (hC : Comp μ a C) {e : Addr} (old : ∀ b o, μ b = some o → b ≠ H → μ' b = some o) (hH : μ' H = some (.list ((L ++ [e]).map V.ref))) (he : HeldOk μ' (fun b => μ b = none) e) : HSt μ' a H P (h + 1) p (L ++ [e]) M := by
  refine ⟨hH, old _ _ s.p (Ne.symm s.ne), by rw [List.length_append]; exact Nat.add_le_add_right s.zh 1, s.zp, fun q hq => ?_, fun q hq => (s.ps q hq).keep fun b o hb n => ⟨old b o hb n.2.1, n⟩, s.ha, s.pa, s.ne⟩
  rcases List.mem_append.mp hq with hq | hq
  · exact (s.hs q hq).keep fun b o hb n => ⟨old b o hb n.2.1, n⟩
  · rw [List.mem_singleton.mp hq]
    exact he.keep fun b o hb n => ⟨hb, s.new hC n⟩
theorem HSt.pair (s : HSt μ a H P h p L M) {C : Co} (hC : Comp μ a C) {e : Addr} (old : ∀ b o, μ b = some o → b ≠ P → μ' b = some o) (hP : μ' P = some (.list ((M ++ [e]).map V.ref))) (he : PairOk μ' (fun b => μ b = none) e) : HSt μ' a H P h (p + 1) L (M ++ [e]) := by
  refine ⟨old _ _ s.h s.ne, hP, s.zh, by rw [List.length_append]; exact Nat.add_le_add_right s.zp 1, fun q hq => (s.hs q hq).keep fun b o hb n => ⟨old b o hb n.2.2, n⟩, fun q hq => ?_, s.ha, s.pa, s.ne⟩
  rcases List.mem_append.mp hq with hq | hq
  · exact (s.ps q hq).keep fun b o hb n => ⟨old b o hb n.2.2, n⟩
  · rw [List.mem_singleton.mp hq]
    exact he.keep fun b o hb n => ⟨hb, s.new hC n⟩
end
theorem wk_map (m : Nat) (f : Nat → Hd) : (List.range m).filterMap (fun i => some (oV (f i).k)) = wkV m f := by
  rw [List.filterMap_eq_map']
  unfold wkV oL mp
  rw [List.map_map]; rfl
theorem dts_plain (m : Nat) (f : Nat → Hd) : ∀ v ∈ (dts m f).map dV, plain 1 v = true := fun v hv => by
  obtain ⟨q, _, rfl⟩ := List.mem_map.mp hv
  exact dV_plain q
theorem deq_first {μ : Mem} {x y u v : Addr} {l l' : List V} {n : Int} (hu : μ u = some (.list l)) (hv : μ v = some (.list l')) (h : ∀ v ∈ l, plain 0 v = true) (h' : ∀ v ∈ l', plain 0 v = true) (hx : μ x = some (.list [.ref u, .ref v, .int n])) (hy : μ y = some (.list [])) : deq μ (.ref x) (.ref y) = some false := by
  have e1 : rd μ 8 (.ref x) = some (.list [.list (pds l), .list (pds l'), .int n]) := by
    rw [show rd μ 8 (.ref x) = _ from by rw [rd]]
    simp only [hx, rdAll, rd_list (k := 6) hu h (by omega), rd_list (k := 6) hv h' (by omega)]
    rfl
  rw [deq_rd e1 (rd_list (n := 0) (k := 7) hy (fun _ h => by cases h) (by omega))]
  rfl

section
variable {c : Ctx} (G : Good c sg) (D : DD c)
include G D
variable {μ : Mem} {Q : V → Mem → Prop} {X : String → Mem → Prop} {a : Ad} {m : Nat} {f : Nat → Hd} {go : Bool} {l : List Rw} {tot : Int} {kn rl : List V}

theorem dgood_spec (m1 : 1 ≤ m) (m2 : m ≤ 60) (hC : Comp μ a (cf m f go rl kn)) {w H : Addr} (hw : μ w = some (.list (wkV m f))) {L : List Addr} (hH : μ H = some (.list (L.map V.ref))) (hHa : H ∉ a.list) (zL : L.length < 10000)
    (k : ∀ μ' e, (∀ b o, μ b = some o → b ≠ H → μ' b = some o) → μ' H = some (.list ((L ++ [e]).map V.ref)) → HeldOk μ' (fun b => μ b = none) e → Q (.bool true) μ') : SC c 7 false "_law_debts_good" [.ref a.c, .int m, .ref w, .ref H] μ Q X := by
  refine call_in G D.dgood rfl ?_
  unfold b__law_debts_good
  walk_at "xx"
  refine e_comp rfl ?_
  walk_at "xx"
  refine rng1 (Int.le_trans (show (m : Int) ≤ 1048576 by omega) (Int.le_refl _)) (by omega) ?_
  refine comp_gen (L := List.range m) (g := fun (i : Nat) => V.int i) (fun i => if (f i).k.isSome then some (prV f i) else none) (by show some (rngItems 0 m 1) = _; rw [rng_items]) (by rw [List.length_range]; unfold lim; omega) (fun i hi μ' K x hK => ?_) (fun u hu => ?_)
  · have hw' := x _ _ hw
    have hi := List.mem_range.mp hi
    refine if_one ?_
    walk_at "xx"
    refine sub_l hw' (wk_at hi) ?_
    walk_at "xx"
    unfold prV at hK
    cases hk : (f i).k with
    | none =>
      rw [hk] at hK
      refine cmp_in (r := false) (by rfl) ?_
      walk_at "xx"
      exact hK
    | some s =>
      rw [hk] at hK
      refine cmp_in (r := true) (by rfl) ?_
      walk_at "xx"
      refine sub_l hw' (wk_at hi) ?_
      walk_at "xx"
      rw [hk]
      exact hK
  rw [prs_dts]
  have x1 := Ext.new hu (.list ((dts m f).map dV))
  have here1 : updM μ u (.list ((dts m f).map dV)) u = some (.list ((dts m f).map dV)) := mem_here
  generalize updM μ u (.list ((dts m f).map dV)) = μ₁ at x1 here1 ⊢
  walk_at "xx"
  refine sc_up (debts_spec G D m1 m2 (hC.ext x1) fun μ₂ r x2 hr r0 => ?_) (by decide)
  have here2 := x2 _ _ here1
  have x12 := x1.trans x2
  have hlen := dts_len m f
  walk_at "xx"
  refine sc_up (alike_list G D.whole D.alike hr here2 (by rw [List.length_map]; unfold lim; omega) (dts_plain m f) ?_) (by decide)
  have new : ∀ {b : Addr}, μ₁ b = none → μ b = none := fun {b} h => by
    cases e : μ b with
    | none => rfl
    | some o => rw [x1 _ _ e] at h; cases h
  have hH2 := x12 _ _ hH
  walk_at "xx"
  refine newL_in (show 2 ≤ 1048576 by decide) fun e he => ?_
  have x3 := Ext.new he (.list [.ref u, .ref r])
  have heH : H ≠ e := fun z => by rw [z, he] at hH2; cases hH2
  have hH3 := x3 _ _ hH2
  have e0 : μ e = none := by
    cases q : μ e with
    | none => rfl
    | some o => rw [x12 _ _ q] at he; cases he
  walk_at "xx"
  refine app_l hH3 (by rw [List.length_map]; show L.length < 1048576; omega) ?_
  have old : ∀ b o, μ b = some o → b ≠ H → (updM (updM μ₂ e (.list [.ref u, .ref r])) H (.list (L.map V.ref ++ [.ref e]))) b = some o := fun b o hb hbH => by
    rw [updM_ne hbH]; exact x3 _ _ (x12 _ _ hb)
  have hHn : ∀ {b : Addr}, μ b = none → b ≠ H := fun {b} h z => by rw [z, hH] at h; cases h
  have P : HeldOk (updM (updM μ₂ e (.list [.ref u, .ref r])) H (.list (L.map V.ref ++ [.ref e]))) (fun b => μ b = none) e := by
    refine ⟨u, r, (dts m f).map dV, ?_, ?_, ?_, dts_plain m f, e0, hu, new r0⟩
    · rw [updM_ne (Ne.symm heH)]; exact mem_here
    · rw [updM_ne (hHn hu)]; exact x3 _ _ here2
    · rw [updM_ne (hHn (new r0))]; exact x3 _ _ hr
  have hHe : (updM (updM μ₂ e (.list [.ref u, .ref r])) H (.list (L.map V.ref ++ [.ref e]))) H = some (.list ((L ++ [e]).map V.ref)) := by rw [List.map_append]; exact mem_here
  have hC6 : Comp (updM (updM μ₂ e (.list [.ref u, .ref r])) H (.list (L.map V.ref ++ [.ref e]))) a (cf m f go rl kn) := hC.mono fun b o hb hin => old b o hb (fun z => hHa (z ▸ hin))
  generalize updM (updM μ₂ e (.list [.ref u, .ref r])) H (.list (L.map V.ref ++ [.ref e])) = μ₆ at old P hHe hC6 ⊢
  walk_at "xx"
  refine sc_up (debts_spec G D m1 m2 hC6 fun μ₇ r7 x7 hr7 r70 => ?_) (by decide)
  walk_at "xx"
  refine app_l hr7 (by rw [List.length_map]; show (dts m f).length < 1048576; omega) ?_
  walk_at "xx"
  have x8 : Ext μ₆ (updM μ₇ r7 (.list ((dts m f).map dV ++ [.tup [.int 0, .int 0]]))) := fun b o hb => by
    rw [updM_ne (fun z => by rw [z, r70] at hb; cases hb)]; exact x7 _ _ hb
  exact k _ e (fun b o hb hbH => x8 _ _ (old b o hb hbH)) (x8 _ _ hHe) (P.keep fun b o hb hN => ⟨x8 _ _ hb, hN⟩)
end

set_option autoImplicit false

set_option maxHeartbeats 2000000
set_option maxRecDepth 4000
set_option linter.unusedVariables false
set_option linter.unusedSimpArgs false
open PySem

theorem told_eq {μ : Mem} {p w t : Int} : ∃ r, deq μ (.tup [.int p, .int w, .none, .int t]) (.tup [.int 0, .int 0, .none, .int 0]) = some r :=
  ⟨_, deq_rd (rd_plain 1 8 _ rfl (by decide)) (rd_plain 1 8 _ rfl (by decide))⟩

section
variable {c : Ctx} (G : Good c sg) (D : DD c)
include G D
variable {μ : Mem} {Q : V → Mem → Prop} {X : String → Mem → Prop} {a : Ad} {m : Nat} {f : Nat → Hd} {go : Bool} {l : List Rw} {tot : Int} {kn rl : List V}

/-- every hand once: what it tells, and the way up -/
theorem good_turn {ρ : Loc} {R : Loc → Mem → Prop} {Q : Fl → Loc → Mem → Prop} {X : String → Loc → Mem → Prop} {n : Int} {i : Nat} {w : Addr} {body : List S} (eb : body = (match b__law_good with | [_, _, _, _, _, _, .for_ _ _ b _ _, _] => b | _ => []))
    (m2 : m ≤ 60) (J : JJ m f go l tot) (hC : Comp μ a (cf m f go rl kn)) (hw : μ w = some (.list (wkV m f))) (hi : i < m)
    (r1 : ρ "_law_company" = some (.ref a.c)) (r2 : ρ "_law_many" = some (.int m)) (r3 : ρ "_law_number" = some (.int n)) (r4 : ρ "_law_wakers" = some (.ref w)) (r5 : ρ "_law_k" = some (.int i))
    (k : ∀ v μ', Ext μ μ' → R (updL ρ "_law_told" v) μ') : wpSs sg (SC c 7) false body ρ μ (sq R Q) X := by
  subst eb
  have m1 := J.lo
  -- the second test
  have two : ∀ {body : List S}, body = (match b__law_good with | [_, _, _, _, _, _, .for_ _ _ [_, _, s] _ _, _] => [s] | _ => []) → ∀ {ρ' : Loc}, ρ' "_law_company" = some (.ref a.c) → ρ' "_law_many" = some (.int m) → ρ' "_law_number" = some (.int n) → ρ' "_law_wakers" = some (.ref w) → ρ' "_law_k" = some (.int i) → (∀ μ', Ext μ μ' → R ρ' μ') → wpSs sg (SC c 7) false body ρ' μ (sq R Q) X := fun {body} eb {ρ'} u1 u2 u3 u4 u5 kk => by
    subst eb
    simp only [b__law_good]
    walk_at "xx"
    refine br_d (fun q => ?_) (fun q => ?_)
    · walk_at "xx"
      refine sc_up (wayg_spec G D m2 J hC hw hi fun μ' x => ?_) (by decide)
      walk_at "xx"
      exact kk μ' x
    · walk_at "xx"
      refine br_d (fun q => ?_) (fun q => ?_)
      · walk_at "xx"
        refine sc_up (wayg_spec G D m2 J hC hw hi fun μ' x => ?_) (by decide)
        walk_at "xx"
        exact kk μ' x
      · walk_at "xx"
        exact kk μ (Ext.refl μ)
  simp only [b__law_good]
  walk_at "xx"
  refine meth_own "Company.hand" hC.c hC.cd (by rfl) (by rfl) (by rfl) ?_
  walk_at "xx"
  refine sc_up (hand_J G D.k m1 m2 hC hi ?_) (by decide)
  walk_at "xx"
  refine sub_l hw (wk_at hi) ?_
  walk_at "xx"
  cases hk : (f i).k with
  | some s =>
    refine cmp_in (r := false) (by rfl) ?_
    walk_at "w"
    walk_at "w"
    walk_at "w"
    walk_at "w"
    refine two rfl ?_ ?_ ?_ ?_ ?_ (k _) <;> walk_at "ro"
  | none =>
    refine cmp_in (r := true) (by rfl) ?_
    walk_at "xx"
    cases ht : inT f go i with
    | false =>
      have e := J.out ht
      have hd : deq μ (.tup [.int (f i).p, .int (f i).w, oV none, .int (f i).t]) (.tup [.int 0, .int 0, .none, .int 0]) = some true := by
        rw [e]; exact deq_plain (n := 1) rfl (by decide)
      refine cmp_in (cmp_ne hd) ?_
      walk_at "w"
      walk_at "w"
      walk_at "w"
      walk_at "w"
      refine two rfl ?_ ?_ ?_ ?_ ?_ (k _) <;> walk_at "ro"
    | true =>
      have hg : go = true ∧ i = 0 := by
        unfold inT at ht
        rw [hk] at ht
        simpa [and_comm] using ht
      obtain ⟨rfl, rfl⟩ := hg
      obtain ⟨r, hr⟩ := told_eq (μ := μ) (p := (f 0).p) (w := (f 0).w) (t := (f 0).t)
      refine cmp_in (cmp_ne hr) ?_
      cases r with
      | true =>
        walk_at "w"
        walk_at "w"
        walk_at "w"
        walk_at "w"
        refine two rfl ?_ ?_ ?_ ?_ ?_ (k _) <;> walk_at "ro"
      | false =>
        walk_at "xx"
        refine br_df (by omega) ?_
        walk_at "xx"
        refine meth_own "Company.runs" hC.c hC.cd (by rfl) (by rfl) (by rfl) ?_
        walk_at "xx"
        refine sc_up (runs_spec G D.k.runs hC ?_) (by decide)
        show notK _ (.bool true) _
        walk_at "w"
        show ifK _ _ _ _ _ _ _ _ (.bool false) _
        walk_at "w"
        walk_at "w"
        refine two rfl ?_ ?_ ?_ ?_ ?_ (k _) <;> walk_at "ro"

theorem good_tail {ρ : Loc} {Q : Fl → Loc → Mem → Prop} {X : String → Loc → Mem → Prop} {n : Int} {w H P : Addr} {h p : Nat} {L M : List Addr} {tl : List S} {body : List S} (eb : body = (match b__law_good with | [_, _, _, _, _, s5, s6, _] => s5 :: s6 :: tl | _ => []))
    (m2 : m ≤ 60) (J : JJ m f go l tot) (hC : Comp μ a (cf m f go rl kn)) (hw : μ w = some (.list (wkV m f))) (wH : w ≠ H) (s : HSt μ a H P h p L M) (hh : h < 9000)
    (r1 : ρ "_law_company" = some (.ref a.c)) (r2 : ρ "_law_many" = some (.int m)) (r3 : ρ "_law_number" = some (.int n)) (r4 : ρ "_law_wakers" = some (.ref w)) (r5 : ρ "_law_held" = some (.ref H)) (r6 : ρ "_law_pairs" = some (.ref P))
    (k : ∀ ρ' μ' L', Comp μ' a (cf m f go rl kn) → HSt μ' a H P (h + 1) p L' M → μ' w = some (.list (wkV m f)) → ρ' "_law_company" = some (.ref a.c) → ρ' "_law_many" = some (.int m) → ρ' "_law_number" = some (.int n) → ρ' "_law_wakers" = some (.ref w) → ρ' "_law_pairs" = some (.ref P) → wpSs sg (SC c 7) false tl ρ' μ' Q X) : wpSs sg (SC c 7) false body ρ μ Q X := by
  have gt := fun {μ : Mem} {ρ : Loc} {R : Loc → Mem → Prop} {Q : Fl → Loc → Mem → Prop} {X : String → Loc → Mem → Prop} {n : Int} {i : Nat} {w : Addr} {body : List S} => @good_turn c G D μ a m f go l tot kn rl ρ R Q X n i w body
  have m1 := J.lo
  subst eb
  simp only [b__law_good]
  have zh := s.zh
  walk_at "xx"
  refine dgood_spec G D m1 m2 hC hw s.h s.ha (by omega) fun μ₁ e old hH he => ?_
  have s1 := s.held hC old hH he
  have hC1 : Comp μ₁ a (cf m f go rl kn) := hC.mono fun b o hb hin => old b o hb (fun z => s.ha (z ▸ hin))
  have hw1 := old _ _ hw wH
  walk_at "xx"
  refine s_for rfl ?_
  walk_at "xx"
  refine rng1 (Int.le_trans (show (m : Int) ≤ 1048576 by omega) (Int.le_refl _)) (by omega) ?_
  refine for_nat (fun i ρ μ' => Ext μ₁ μ' ∧ ρ "_law_company" = some (.ref a.c) ∧ ρ "_law_many" = some (.int m) ∧ ρ "_law_number" = some (.int n) ∧ ρ "_law_wakers" = some (.ref w) ∧ ρ "_law_pairs" = some (.ref P)) ⟨Ext.refl _, r1, r2, r3, r4, r6⟩ (fun i ρ μ' hi hI => ?_) (fun ρ μ' hI => ?_)
  · obtain ⟨x, u1, u2, u3, u4, u6⟩ := hI
    refine gt rfl m2 J (hC1.ext x) (x _ _ hw1) hi ?_ ?_ (n := n) ?_ ?_ ?_ (fun v μ₂ x2 => ⟨x.trans x2, ?_, ?_, ?_, ?_, ?_⟩) <;> walk_at "ro"
  · obtain ⟨x, u1, u2, u3, u4, u6⟩ := hI
    exact k ρ μ' _ (hC1.ext x) (s1.ext x) (x _ _ hw1) u1 u2 u3 u4 u6

theorem good_end {ρ : Loc} {X : String → Loc → Mem → Prop} {n : Int} {w H P : Addr} {h p : Nat} {L M : List Addr} {body : List S} (eb : body = (match b__law_good with | [_, _, _, _, s4, s5, s6, s7] => [s4, s5, s6, s7] | _ => []))
    (m2 : m ≤ 60) (J : JJ m f go l tot) (hC : Comp μ a (cf m f go rl kn)) (hw : μ w = some (.list (wkV m f))) (wH : w ≠ H) (wP : w ≠ P) (s : HSt μ a H P h p L M) (hh : h < 9000) (hp : p < 9000)
    (r1 : ρ "_law_company" = some (.ref a.c)) (r2 : ρ "_law_many" = some (.int m)) (r3 : ρ "_law_number" = some (.int n)) (r4 : ρ "_law_wakers" = some (.ref w)) (r5 : ρ "_law_held" = some (.ref H)) (r6 : ρ "_law_pairs" = some (.ref P))
    (k : ∀ μ' L' M', Comp μ' a (cf m f go rl kn) → HSt μ' a H P (h + 1) (p + 1) L' M' → Q (.bool true) μ') : wpSs sg (SC c 7) false body ρ μ (fq Q) X := by
  have gt := fun {μ : Mem} {ρ : Loc} {Q : Fl → Loc → Mem → Prop} {X : String → Loc → Mem → Prop} {n : Int} {w H P : Addr} {h p : Nat} {L M : List Addr} {tl : List S} {body : List S} => @good_tail c G D μ a m f go l tot kn rl ρ Q X n w H P h p L M tl body
  have m1 := J.lo
  subst eb
  simp only [b__law_good]
  have zp := s.zp
  walk_at "xx"
  refine br_d (fun q => ?_) (fun q => ?_)
  · walk_at "xx"
    refine wgood_spec G D m1 m2 hC hw s.p s.pa wP (by omega) fun μ₁ e old hP he => ?_
    have s1 := s.pair hC old hP he
    have hC1 : Comp μ₁ a (cf m f go rl kn) := hC.mono fun b o hb hin => old b o hb (fun z => s.pa (z ▸ hin))
    walk_at "w"
    walk_at "w"
    walk_at "w"
    refine gt rfl m2 J hC1 (old _ _ hw wP) wH s1 hh r1 r2 r3 r4 r5 r6 fun ρ' μ' L' hC2 s2 hw2 u1 u2 u3 u4 u6 => ?_
    walk_at "xx"
    rw [decide_eq_true q]
    exact k _ _ _ hC2 s2
  · walk_at "w"
    walk_at "w"
    refine gt rfl m2 J hC hw wH s hh r1 r2 r3 r4 r5 r6 fun ρ' μ' L' hC2 s2 hw2 u1 u2 u3 u4 u6 => ?_
    walk_at "xx"
    refine wgood_spec G D m1 m2 hC2 hw2 s2.p s2.pa wP (by omega) fun μ₁ e old hP he => ?_
    have s3 := s2.pair hC2 old hP he
    have hC3 : Comp μ₁ a (cf m f go rl kn) := hC2.mono fun b o hb hin => old b o hb (fun z => s2.pa (z ▸ hin))
    walk_at "xx"
    exact k _ _ _ hC3 s3

theorem good_mid {ρ : Loc} {X : String → Loc → Mem → Prop} {n : Int} {y H P : Addr} {h p : Nat} {L M : List Addr} {body : List S} (eb : body = (match b__law_good with | [_, _, s2, s3, s4, s5, s6, s7] => [s2, s3, s4, s5, s6, s7] | _ => []))
    (m2 : m ≤ 60) (J : JJ m f go l tot) (hC : Comp μ a (cf m f go rl kn)) (s : HSt μ a H P h p L M) (hh : h < 9000) (hp : p < 9000)
    (hy : μ y = some (.list []) ∨ ∃ u v i q, μ y = some (.list [.ref u, .ref v, .int (i : Nat)]) ∧ μ u = some (.list (nV q)) ∧ μ v = some (.list (nV q)) ∧ i < m ∧ WayOf f go i q)
    (r1 : ρ "_law_company" = some (.ref a.c)) (r2 : ρ "_law_many" = some (.int m)) (r3 : ρ "_law_number" = some (.int n)) (r4 : ρ "_law_first" = some (.ref y)) (r5 : ρ "_law_held" = some (.ref H)) (r6 : ρ "_law_pairs" = some (.ref P))
    (k : ∀ μ' L' M', Comp μ' a (cf m f go rl kn) → HSt μ' a H P (h + 1) (p + 1) L' M' → Q (.bool true) μ') : wpSs sg (SC c 7) false body ρ μ (fq Q) X := by
  have ge := fun {μ : Mem} {ρ : Loc} {X : String → Loc → Mem → Prop} {n : Int} {w H P : Addr} {h p : Nat} {L M : List Addr} {body : List S} => @good_end c G D μ Q a m f go l tot kn rl ρ X n w H P h p L M body
  have m1 := J.lo
  subst eb
  simp only [b__law_good]
  walk_at "xx"
  refine e_comp rfl ?_
  walk_at "xx"
  refine rng1 (Int.le_trans (show (m : Int) ≤ 1048576 by omega) (Int.le_refl _)) (by omega) ?_
  refine comp_gen (L := List.range m) (g := fun (i : Nat) => V.int i) (fun i => some (oV (f i).k)) (by show some (rngItems 0 m 1) = _; rw [rng_items]) (by rw [List.length_range]; unfold lim; omega) (fun i hi μ' K x hK => ?_) (fun w hw => ?_)
  · have hC' := hC.ext x
    refine if_nil (br_t ?_)
    walk_at "xx"
    refine meth_own "Company.hand" hC'.c hC'.cd (by rfl) (by rfl) (by rfl) ?_
    walk_at "xx"
    refine sc_up (hand_J G D.k m1 m2 hC' (List.mem_range.mp hi) ?_) (by decide)
    walk_at "xx"
    exact hK
  rw [wk_map]
  have nw := s.new hC hw
  have x1 := Ext.new hw (.list (wkV m f))
  have here1 : updM μ w (.list (wkV m f)) w = some (.list (wkV m f)) := mem_here
  generalize updM μ w (.list (wkV m f)) = μ₁ at x1 here1 ⊢
  -- from there on, with the wakers
  have go_on : ∀ {μ₂ : Mem} {body : List S}, Ext μ₁ μ₂ → body = (match b__law_good with | [_, _, _, _, s4, s5, s6, s7] => [s4, s5, s6, s7] | _ => []) → ∀ {ρ' : Loc}, ρ' "_law_company" = some (.ref a.c) → ρ' "_law_many" = some (.int m) → ρ' "_law_number" = some (.int n) → ρ' "_law_wakers" = some (.ref w) → ρ' "_law_held" = some (.ref H) → ρ' "_law_pairs" = some (.ref P) → wpSs sg (SC c 7) false body ρ' μ₂ (fq Q) X := fun {μ₂ body} x2 eb {ρ'} u1 u2 u3 u4 u5 u6 =>
    ge eb m2 J (hC.ext (x1.trans x2)) (x2 _ _ here1) nw.2.1 nw.2.2 (s.ext (x1.trans x2)) hh hp u1 u2 u3 u4 u5 u6 k
  walk_at "xx"
  refine newL_in (Nat.zero_le _) fun z hz => ?_
  have x2 := Ext.new hz (.list [])
  have here2 : updM μ₁ z (.list []) z = some (.list []) := mem_here
  generalize updM μ₁ z (.list []) = μ₂ at x2 here2 ⊢
  have x12 := x1.trans x2
  rcases hy with hy | ⟨u, v, i, q, hy, hu, hv, hi, wo⟩
  · refine cmp_in (cmp_ne (deq_lists (n := 0) (x12 _ _ hy) here2 (fun v hv => by cases hv) (by decide))) ?_
    walk_at "w"
    walk_at "w"
    walk_at "w"
    walk_at "w"
    refine go_on x2 rfl ?_ ?_ ?_ ?_ ?_ ?_ <;> walk_at "ro"
  · have hy2 := x12 _ _ hy
    have hu2 := x12 _ _ hu
    have hv2 := x12 _ _ hv
    refine cmp_in (cmp_ne (deq_first hu2 hv2 (nV_plain q) (nV_plain q) hy2 here2)) ?_
    walk_at "xx"
    refine sc_up (way_spec G D m2 J (hC.ext x12) hi fun μ₃ r q' x3 hr r0 wo' => ?_) (by decide)
    rw [← wo.uniq wo'] at hr
    have hy3 := x3 _ _ hy2
    refine cmp_in (cmp_ne (deq_lists (x3 _ _ hu2) hr (nV_plain q) (by decide))) ?_
    walk_at "xx"
    refine cmp_in (cmp_ne (deq_lists (x3 _ _ hu2) (x3 _ _ hv2) (nV_plain q) (by decide))) ?_
    walk_at "w"
    walk_at "w"
    walk_at "w"
    walk_at "w"
    refine go_on (x2.trans x3) rfl ?_ ?_ ?_ ?_ ?_ ?_ <;> walk_at "ro"
end

set_option autoImplicit false

set_option maxHeartbeats 2000000
set_option maxRecDepth 4000
set_option linter.unusedVariables false
set_option linter.unusedSimpArgs false
open PySem

section
variable {c : Ctx} (G : Good c sg) (D : DD c)
include G D
variable {μ : Mem} {Q : V → Mem → Prop} {X : String → Mem → Prop} {a : Ad} {m : Nat} {f : Nat → Hd} {go : Bool} {l : List Rw} {tot : Int} {kn rl : List V}

theorem good_spec {n : Int} {H P : Addr} {h p : Nat} {L M : List Addr} (m2 : m ≤ 60) (J : JJ m f go l tot) (hC : Comp μ a (cf m f go rl kn)) (s : HSt μ a H P h p L M) (hh : h < 9000) (hp : p < 9000)
    (k : ∀ μ' L' M', Comp μ' a (cf m f go rl kn) → HSt μ' a H P (h + 1) (p + 1) L' M' → Q (.bool true) μ') : SC c 8 false "_law_good" [.ref a.c, .int m, .int n, .ref H, .ref P] μ Q X := by
  have gm := fun {μ : Mem} {ρ : Loc} {X : String → Loc → Mem → Prop} {n : Int} {y H P : Addr} {h p : Nat} {L M : List Addr} {body : List S} => @good_mid c G D μ Q a m f go l tot kn rl ρ X n y H P h p L M body
  have m1 := J.lo
  refine call_in G D.good rfl ?_
  unfold b__law_good
  walk_at "xx"
  refine newL_in (Nat.zero_le _) fun y hy => ?_
  have x1 := Ext.new hy (.list [])
  have here1 : updM μ y (.list []) y = some (.list []) := mem_here
  generalize updM μ y (.list []) = μ₁ at x1 here1 ⊢
  have hC1 := hC.ext x1
  have s1 := s.ext x1
  walk_at "xx"
  refine br_d (fun q => ?_) (fun q => ?_)
  · walk_at "xx"
    refine mod_i (by omega) ?_
    obtain ⟨q0, q1⟩ := mod_bd (a := n / 4) (show (0 : Int) < m by omega)
    have eq : ∃ i : Nat, (n / 4) % (m : Int) = i := Int.eq_ofNat_of_zero_le q0
    obtain ⟨i, ei⟩ := eq
    rw [ei] at q1 ⊢
    walk_at "xx"
    refine sc_up (way_spec G D m2 J hC1 (n := i) (by omega) fun μ₂ r p' x2 hr r0 wo => ?_) (by decide)
    have lenp : (nV p').length ≤ 1048576 := by
      rw [nV_len]
      rcases wo with ⟨_, rfl⟩ | ⟨ht, w⟩
      · exact Nat.zero_le _
      · obtain ⟨p2, hp2, hb, hd⟩ := J.way (show i < m by omega) ht
        rw [w.uniq hp2]
        have := len_le m hd hb
        omega
    walk_at "xx"
    refine newL_in lenp fun v hv => ?_
    have x3 := Ext.new hv (.list (nV p'))
    have here3 : updM μ₂ v (.list (nV p')) v = some (.list (nV p')) := mem_here
    generalize updM μ₂ v (.list (nV p')) = μ₃ at x3 here3 ⊢
    walk_at "xx"
    refine mod_i (by omega) ?_
    rw [ei]
    walk_at "xx"
    refine newL_in (show 3 ≤ 1048576 by decide) fun z hz => ?_
    have x4 := Ext.new hz (.list [.ref r, .ref v, .int i])
    have here4 : updM μ₃ z (.list [.ref r, .ref v, .int i]) z = some (.list [.ref r, .ref v, .int i]) := mem_here
    generalize updM μ₃ z (.list [.ref r, .ref v, .int i]) = μ₄ at x4 here4 ⊢
    have x14 := x2.trans (x3.trans x4)
    walk_at "w"
    refine gm rfl m2 J (hC1.ext x14) (s1.ext x14) hh hp (.inr ⟨r, v, i, p', here4, x4 _ _ (x3 _ _ hr), x4 _ _ here3, by omega, wo⟩) ?_ ?_ (n := n) ?_ ?_ ?_ ?_ k <;> rfl
  · refine gm rfl m2 J hC1 s1 hh hp (.inl here1) ?_ ?_ (n := n) ?_ ?_ ?_ ?_ k <;> rfl
end

set_option autoImplicit false

set_option maxHeartbeats 2000000
set_option maxRecDepth 4000
set_option linter.unusedVariables false
set_option linter.unusedSimpArgs false
open PySem

noncomputable def W8 (μ : Mem) (a : Ad) (m : Nat) (H P : Addr) (z : Nat) : Prop := ∃ f go l tot kn L M, Comp μ a (cf m f go (rV l) kn) ∧ JJ m f go l tot ∧ l.length ≤ z ∧ kn.length ≤ z ∧ HSt μ a H P z z L M
/-- lists of a number and a list each -/
noncomputable def pdP (F : Nat → List V) (i : Nat) : PyData := .tuple [.int i, .list (pds (F i))]
theorem pdP_self (F : Nat → List V) : ∀ L : List Nat, PyData.eqvAll (L.map (pdP F)) (L.map (pdP F)) = true
  | [] => rfl
  | i :: L => by
    have h : PyData.eqv (pdP F i) (pdP F i) = true := by
      unfold pdP
      rw [eqv_tup, eqvAll_cons, eqvAll_cons, eqv_int, eqv_list, pds_self, decide_eq_true rfl]; rfl
    rw [List.map_cons, eqvAll_cons, h, pdP_self F L]; rfl
theorem rdAll_prs {μ : Mem} {F : Nat → List V} (hF : ∀ i, ∀ v ∈ F i, plain 0 v = true) : ∀ zs : List (Nat × Addr), (∀ q ∈ zs, μ q.2 = some (.list (F q.1))) → rdAll (rd μ 7) (zs.map prD) = some ((zs.map (·.1)).map (pdP F))
  | [], _ => rfl
  | q :: zs, h => by
    have e : rd μ 7 (prD q) = some (pdP F q.1) := by
      show (rdAll (rd μ 6) [.int q.1, .ref q.2]).map _ = _
      simp only [rdAll, rd_list (k := 5) (h q (.head _)) (hF q.1) (by omega)]
      rfl
    simp only [List.map_cons, rdAll, e, rdAll_prs hF zs fun p hp => h p (.tail _ hp)]
theorem deq_prs {μ : Mem} {F : Nat → List V} {x y : Addr} {zs es : List (Nat × Addr)} (hF : ∀ i, ∀ v ∈ F i, plain 0 v = true) (hx : μ x = some (.list (zs.map prD))) (hy : μ y = some (.list (es.map prD))) (hz : ∀ q ∈ zs, μ q.2 = some (.list (F q.1))) (he : ∀ q ∈ es, μ q.2 = some (.list (F q.1))) (ks : zs.map (·.1) = es.map (·.1)) : deq μ (.ref x) (.ref y) = some true := by
  have e1 : rd μ 8 (.ref x) = some (.list ((zs.map (·.1)).map (pdP F))) := by
    rw [show rd μ 8 (.ref x) = _ from by rw [rd]]
    simp only [hx, rdAll_prs hF zs hz, Option.map_some]
  have e2 : rd μ 8 (.ref y) = some (.list ((zs.map (·.1)).map (pdP F))) := by
    rw [show rd μ 8 (.ref y) = _ from by rw [rd], ks]
    simp only [hy, rdAll_prs hF es he, Option.map_some]
  rw [deq_rd e1 e2]
  rw [eqv_list, pdP_self]
theorem allO_true : ∀ (L : List Addr), allO (L.filterMap fun _ => some (V.bool true)) = some true
  | [] => rfl
  | _ :: L => by
    show (allO (L.filterMap fun _ => some (V.bool true))).map (true && ·) = _
    rw [allO_true L]; rfl

section
variable {c : Ctx} (G : Good c sg) (D : DD c)
include G D
variable {μ : Mem} {a : Ad} {m : Nat} {f : Nat → Hd} {go : Bool} {l : List Rw} {tot : Int} {kn : List V} {ρ : Loc} {z : Nat} {H P : Addr} {L M : List Addr}

theorem deed_turn {Q : Fl → Loc → Mem → Prop} {X : String → Loc → Mem → Prop} {tl : List S} {v : V} {p1 p2 p3 p4 p5 p6 p7 p8 p9 : Pos} (m2 : m ≤ 60) (hC : Comp μ a (cf m f go (rV l) kn)) (J : JJ m f go l tot) (zl : l.length ≤ z) (zk : kn.length ≤ z) (s : HSt μ a H P z z L M) (hz : z < 10000)
    (hv : (∃ b, Deed m f l b v) ∨ v = .none) (r1 : ρ "_law_company" = some (.ref a.c)) (r2 : ρ "_law_deed" = some v)
    (k : ∀ μ' a', a'.c = a.c → (∃ f go l tot kn, Comp μ' a' (cf m f go (rV l) kn) ∧ JJ m f go l tot ∧ l.length ≤ z + 1 ∧ kn.length ≤ z + 1 ∧ HSt μ' a' H P z z L M) → wpSs sg (SC c 8) false tl ρ μ' Q X) :
    wpSs sg (SC c 8) false (.ite (.cmp .IsNot (.loc "_law_deed" p1) (.none p2) p3) [.expr (.call "_law_done" [.loc "_law_company" p4, .loc "_law_deed" p5] p6 p7) p8] [] p9 :: tl) ρ μ Q X := by
  walk_at "xx"
  rcases hv with ⟨b, hv⟩ | rfl
  · have hnone : cmpO .IsNot μ v .none = some true := by
      rcases hv with ⟨_, h, o, p, rfl, _⟩ | ⟨_, h, rfl, _⟩ | ⟨_, i, rfl, _⟩ <;> rfl
    refine cmp_in hnone ?_
    walk_at "xx"
    refine sc_up (done_spec G D.k m2 J hC (by omega) (by omega) hv fun μ₃ a₃ r e f' go' l' tot' ac3 hC3 S kp hr nr r0 => ?_) (by decide)
    have len := S.len
    have elen := Eo.len e
    have s3 := s.move kp
    walk_at "w"
    walk_at "w"
    walk_at "w"
    exact k μ₃ a₃ ac3 ⟨f', go', l', tot', kn ++ e.R, hC3, S.j, by omega, by rw [List.length_append]; omega, s3⟩
  · refine cmp_in (r := false) (by rfl) ?_
    walk_at "w"
    walk_at "w"
    exact k μ a rfl ⟨f, go, l, tot, kn, hC, J, by omega, by omega, s⟩

/-- one turn of the law's loop -/
theorem law_turn {R : Loc → Mem → Prop} {Q : Fl → Loc → Mem → Prop} {X : String → Loc → Mem → Prop} {ns : List Int} {i : Nat} {body : List S} (eb : body = (match b_law.drop 5 with | .for_ _ _ b _ _ :: _ => b | _ => []))
    (m2 : m ≤ 60) (w : W8 μ a m H P z) (hz : z < 5000)
    (r1 : ρ "_law_company" = some (.ref a.c)) (r2 : ρ "_law_many" = some (.int m)) (r3 : ρ "_law_script" = some (.frz ns)) (r4 : ρ "_law_held" = some (.ref H)) (r5 : ρ "_law_pairs" = some (.ref P)) (r6 : ρ "_law_k" = some (.int i))
    (k : ∀ ρ' μ' a', a'.c = a.c → W8 μ' a' m H P (z + 1) → ρ' "_law_company" = some (.ref a.c) → ρ' "_law_many" = some (.int m) → ρ' "_law_script" = some (.frz ns) → ρ' "_law_held" = some (.ref H) → ρ' "_law_pairs" = some (.ref P) → R ρ' μ') : wpSs sg (SC c 8) false body ρ μ (sq R Q) X := by
  subst eb
  obtain ⟨f, go, l, tot, kn, L, M, hC, J, zl, zk, s⟩ := w
  have m1 := J.lo
  simp only [b_law, List.drop]
  walk_at "xx"
  refine sc_up (mixed_spec G D.k.mixed fun nn _ _ => ?_) (by decide)
  walk_at "xx"
  refine sc_up (next_spec G D.k m1 m2 hC (by omega) fun μ₁ v e1 hv => ?_) (by decide)
  walk_at "w"
  refine deed_turn G D m2 (hC.ext e1) J zl zk (s.ext e1) (by omega) (hv.imp id (·.1)) (by walk_at "ro") (by walk_at "ro") fun μ₂ a₂ ac2 ⟨f₂, go₂, l₂, tot₂, kn₂, hC2, J2, zl2, zk2, s2⟩ => ?_
  rw [← ac2] at r1
  walk_at "xx"
  refine mod_i (by omega) ?_
  walk_at "xx"
  refine br_d (fun q => ?_) (fun q => ?_)
  · walk_at "xx"
    refine sc_up (good_spec G D m2 J2 hC2 s2 (by omega) (by omega) fun μ₃ L3 M3 hC3 s3 => ?_) (by decide)
    walk_at "xx"
    refine k _ _ a₂ ac2 ⟨_, _, _, _, _, _, _, hC3, J2, zl2, zk2, s3⟩ (by rw [← ac2]; walk_at "ro") ?_ ?_ ?_ ?_ <;> walk_at "ro"
  · walk_at "xx"
    refine k _ _ a₂ ac2 ⟨_, _, _, _, _, _, _, hC2, J2, zl2, zk2, s2.up (by omega) (by omega)⟩ (by rw [← ac2]; walk_at "ro") ?_ ?_ ?_ ?_ <;> walk_at "ro"

theorem law_mini {ns : List Int} : SC c 9 false "law" [.frz ns] (fun _ => none) (fun v _ => v = .bool true) (fun _ _ => False) := by
  refine call_in G D.law rfl ?_
  have tr := fun {μ : Mem} {a : Ad} {m : Nat} {ρ : Loc} {z : Nat} {H P : Addr} {R : Loc → Mem → Prop} {Q : Fl → Loc → Mem → Prop} {X : String → Loc → Mem → Prop} {i : Nat} {body : List S} => @law_turn c G D μ a m ρ z H P R Q X ns i body
  unfold b_law
  walk_at "xx"
  refine sc_up (cell_at_spec G D.k.cell (by decide) ?_) (by decide)
  walk_at "xx"
  refine sc_up (many_by_spec G D.k.many fun m m1 m2 => ?_) (by decide)
  walk_at "xx"
  intro x d hx hd hne
  show SC c 8 false "Company.__init__" [.ref x, .int m] (updM (updM (fun _ => none) d (.attrs [])) x (.inst "Company" d)) _ _
  refine sc_up (init_spec G D.k.isf D.k.pini D.k.ini (d := d) mem_here (by rw [updM_ne hne]; exact mem_here) (fun z => (z ⟨m1, m2⟩).elim) (fun _ μ a ax ad hC _ => ⟨trivial, ?_⟩)) (by decide)
  subst ax
  obtain ⟨m, rfl⟩ := Int.eq_ofNat_of_zero_le (show 0 ≤ m by omega)
  have m1' : 1 ≤ m := by omega
  have m2' : m ≤ 60 := by omega
  rw [newCo_cf] at hC
  have J0 : JJ m (fun _ => z4) false [] 0 := JJ.new m1'
  have hC : Comp μ a (cf m (fun _ => z4) false (rV []) []) := hC
  clear hx hd hne ad
  -- from any company
  have loops : ∀ {μ : Mem} {ρ : Loc} {f : Nat → Hd} {go : Bool} {tot : Int} {kn : List V}, Comp μ a (cf m f go (rV []) kn) → JJ m f go [] tot → kn.length ≤ 1 → ρ "_law_company" = some (.ref a.c) → ρ "_law_many" = some (.int m) → ρ "_law_script" = some (.frz ns) → ∀ {body : List S}, body = (match b_law with | [_, _, _, s3, s4, s5, s6, s7] => [s3, s4, s5, s6, s7] | _ => []) → wpSs sg (SC c 8) false body ρ μ (fq fun v _ => v = .bool true) (fx fun _ _ => False) := fun {μ ρ f go tot kn} hC J zk r1 r2 r3 {body} eb => by
    subst eb
    simp only [b_law]
    walk_at "xx"
    refine newL_in (Nat.zero_le _) fun H hH => ?_
    have x1 := Ext.new hH (.list [])
    have here1 : updM μ H (.list []) H = some (.list []) := mem_here
    have hC1 := hC.ext x1
    have hHa := hC.notin hH
    generalize updM μ H (.list []) = μ₁ at x1 here1 hC1 ⊢
    walk_at "xx"
    refine newL_in (Nat.zero_le _) fun P hP => ?_
    have x2 := Ext.new hP (.list [])
    have here2 : updM μ₁ P (.list []) P = some (.list []) := mem_here
    have hC2 := hC1.ext x2
    have hPa := hC1.notin hP
    have hHP : H ≠ P := fun z => by rw [z, hP] at here1; cases here1
    have here12 := x2 _ _ here1
    generalize updM μ₁ P (.list []) = μ₂ at x2 here2 hC2 here12 ⊢
    have s0 : HSt μ₂ a H P 1 1 [] [] := ⟨here12, here2, Nat.zero_le _, Nat.zero_le _, (fun e he => by cases he), (fun e he => by cases he), hHa, hPa, hHP⟩
    walk_at "w"
    refine s_for rfl ?_
    walk_at "xx"
    refine sc_up (cell_at_spec G D.k.cell (by decide) ?_) (by decide)
    walk_at "xx"
    obtain ⟨q0, q1⟩ := mod_bd (a := ns.getD (2 : Int).toNat 0) (show (0 : Int) < 91 by decide)
    generalize ns.getD (2 : Int).toNat 0 % 91 = cnt at q0 q1 ⊢
    obtain ⟨cnt, rfl⟩ := Int.eq_ofNat_of_zero_le q0
    refine rng1 (Int.le_trans (show (cnt : Int) ≤ 1048576 by omega) (Int.le_refl _)) (by omega) ?_
    refine for_nat (fun i ρ μ' => ∃ a', a'.c = a.c ∧ ρ "_law_company" = some (.ref a.c) ∧ ρ "_law_many" = some (.int m) ∧ ρ "_law_script" = some (.frz ns) ∧ ρ "_law_held" = some (.ref H) ∧ ρ "_law_pairs" = some (.ref P) ∧ W8 μ' a' m H P (1 + i)) ⟨a, rfl, by walk_at "ro", by walk_at "ro", by walk_at "ro", by walk_at "ro", by walk_at "ro", ⟨_, _, _, _, _, _, _, hC2, J, Nat.zero_le _, zk, s0⟩⟩ (fun i ρ μ' hi hI => ?_) (fun ρ μ' hI => ?_)
    · obtain ⟨a', ac, u1, u2, u3, u4, u5, w⟩ := hI
      rw [← ac] at u1
      refine tr rfl m2' w (by omega) ?_ ?_ ?_ ?_ ?_ (i := i) ?_ (fun ρ' μ₃ a₃ ac3 w3 v1 v2 v3 v4 v5 => ⟨a₃, ac3.trans ac, by rw [← ac]; exact v1, v2, v3, v4, v5, w3⟩) <;> walk_at "ro"
    · obtain ⟨a', ac, u1, u2, u3, u4, u5, f, go, l, tot, kn, L, M, hC, J, zl, zk, s⟩ := hI
      rw [← ac] at u1
      have sp := s.p
      have zM := s.zp
      refine s_for rfl ?_
      walk_at "xx"
      refine for_list (L := M) (g := V.ref) s.p (fun i ρ μ₃ => Ext μ' μ₃ ∧ ρ "_law_company" = some (.ref a'.c) ∧ ρ "_law_many" = some (.int m) ∧ ρ "_law_script" = some (.frz ns) ∧ ρ "_law_held" = some (.ref H) ∧ ρ "_law_pairs" = some (.ref P)) ⟨Ext.refl _, u1, u2, u3, u4, u5⟩ (fun i ρ μ₃ hI => hI.1 _ _ s.p) (fun i e ρ μ₃ he hI => ?_) (fun ρ μ₃ hI => ?_)
      · obtain ⟨x3, v1, v2, v3, v4, v5⟩ := hI
        obtain ⟨u, d, ep, zs, es, F, g1, g2, g3, g4, g5, g6, g7, g8, n1, n2, n3, d1⟩ := s.ps e (List.mem_of_getElem? he)
        have g1' := x3 _ _ g1
        walk_at "xx"
        refine items_in rfl (x3 _ _ g3) d1 ?_
        rw [pairs_es]
        refine newL_in (by rw [List.length_map]; show es.length ≤ 1048576; omega) fun y hy => ?_
        have x4 := Ext.new hy (.list (es.map prD))
        have here4 : updM μ₃ y (.list (es.map prD)) y = some (.list (es.map prD)) := mem_here
        generalize updM μ₃ y (.list (es.map prD)) = μ₄ at x4 here4 ⊢
        refine cmp_in (cmp_ne (deq_prs (fun i => (g7 i).2) (x4 _ _ (x3 _ _ g2)) here4 (fun q hq => x4 _ _ (x3 _ _ (g5 q hq).1)) (fun q hq => x4 _ _ (x3 _ _ (g6 q hq).1)) g4)) ?_
        walk_at "xx"
        exact ⟨x3.trans x4, by walk_at "ro", by walk_at "ro", by walk_at "ro", by walk_at "ro", by walk_at "ro"⟩
      · obtain ⟨x3, v1, v2, v3, v4, v5⟩ := hI
        walk_at "xx"
        refine sc_up (good_spec G D m2' J (hC.ext x3) (s.ext x3) (by omega) (by omega) fun μ₄ L4 M4 hC4 s4 => ?_) (by decide)
        have h4 := s4.h
        have z4' := s4.zh
        walk_at "xx"
        refine e_comp rfl ?_
        walk_at "xx"
        refine comp_gen (L := L4) (g := V.ref) (fun _ => some (.bool true)) (by simp only [itemsOf, h4]) (by unfold lim; omega) (fun e he μ₅ K x5 hK => ?_) (fun n hn => ?_)
        · refine if_nil (br_t ?_)
          obtain ⟨u, w, R, g1, g2, g3, g4, _⟩ := s4.hs e he
          have g1' := x5 _ _ g1
          walk_at "xx"
          refine cmp_in (r := true) (deq_lists (x5 _ _ g2) (x5 _ _ g3) g4 (by decide)) ?_
          exact hK
        · refine all_l rfl mem_here (allO_true L4) ?_
          walk_at "xx"
          rfl
  walk_at "xx"
  refine sc_up (cell_at_spec G D.k.cell (by decide) ?_) (by decide)
  walk_at "xx"
  refine br_nd (fun q => ?_) (fun q => ?_)
  · refine loops hC J0 (Nat.zero_le _) ?_ ?_ ?_ rfl <;> rfl
  · walk_at "xx"
    refine meth_own "Company.begin" hC.c hC.cd (by rfl) (by rfl) (by rfl) ?_
    walk_at "xx"
    refine sc_up (cell_at_spec G D.k.cell (by decide) ?_) (by decide)
    walk_at "xx"
    refine sc_up (pby_spec G D fun p p1 p2 => ?_) (by decide)
    walk_at "xx"
    refine sc_up (begin_spec G D.k.isf D.k.noted D.k.beg hC (cf_ok m1' m2') (show 0 < 1048576 by decide) nofun (fun _ q => absurd ⟨p1, p2⟩ q) (fun _ _ μ₃ _ hC3 o3 _ _ _ => ?_)) (by decide)
    rw [begin_cf m1'] at hC3
    walk_at "w"
    walk_at "w"
    walk_at "w"
    refine loops hC3 (J0.begin p1) (Nat.le_refl _) ?_ ?_ ?_ rfl <;> rfl
end

end Mine

namespace Mine
open PySem PySem.W PySem.Calls PyProof.Rows
theorem all_defs {w : World} {base : Heap} {p : Program} {loose : List Str} {mg mb : Str → Option Value} (X : (Kq w.params).In base) (T : TopRead p loose mg mb base) : DD (ctx w base) :=
  ⟨⟨d_is_from X T, d_Post___init__ X T, d_Post_put X T, d_Post_take X T, d_Post_under X T, d_Company___init__ X T, d_Company_need_hand X T, d_Company_is_in X T, d_Company_noted X T, d_Company_settled X T, d_Company_begin X T, d_Company_do X T, d_Company_hand_on X T, d_Company_letter_came X T, d_Company_carry X T, d_Company_hand X T, d_Company_under X T, d_Company_runs X T, d_Company_log X T, d__law_cell_at X T, d__law_mixed X T, d__law_many_by X T, d__law_next X T, d__law_done X T⟩, d_Company_size X T, d__law_pieces_by X T, d__law_whole X T, d__law_alike X T, d_debts X T, d_in_tree X T, d_way X T, d_woken_by X T, d__law_way_good X T, d__law_woken_due X T, d__law_woken_good X T, d__law_debts_good X T, d__law_good X T, d_law X T⟩
set_option maxRecDepth 100000 in
set_option maxHeartbeats 8000000 in
theorem said_q : OpenLaw.wellSaid Challenge.rw_uf040019_08 = true := by kernel_rfl
end Mine
open PySem PySem.W PyProof.Rows Mine
set_option maxRecDepth 100000 in
set_option maxHeartbeats 8000000 in
theorem PySem.Challenge.cw_uf040019_08_holds : PySem.Challenge.rw_uf040019_08.Holds := by
  w_on
  refine holds_law said_q fun said => ?_
  refine own_head (by assumption) ?hw ?hc
  case hw => w_witness2
  case hc =>
  intro w s₀ s₁ mg mb G Y fa o pm cd doc dV kV ho hd hcd hD hmg hg args vals as hpre hlay hrd hwl hlo
  clear ho hd hcd hD
  have KX := kq_of Y
  clear Y
  refine Ground.open G ?_
  intro T B D TE TW
  have TR := topRead_of T
  clear B D TE TW
  have hfa' : fa = 365 := Value.ref.inj (Option.some.inj (hmg.symm.trans (law_at KX TR)))
  clear hmg
  subst hfa'
  wrow_args hpre hlay hrd hwl hlo
  all_goals refine enter_call ?_
  with_reducible rename IntsAre _ _ => hI
  with_reducible rename Heap.IsList _ _ _ => hL
  with_reducible rename ¬ _ < _ => hlen
  have hn : ((_ : List Int).length) ≤ 63 := Int.ofNat_le.mp (Int.not_lt.mp hlen)
  exact top_sound (c := ctx w s₁.heap) rfl (by decide) rfl hL hI (Nat.le_trans hn (by decide)) (law_mini (good KX TR) (all_defs KX TR)) fun s' hk hos hgens => GoodW.toG ⟨.inl ⟨_, _, _, rfl, fun _ => rfl, .bool true, postW_of (X := true) rfl (by first | rfl | kernel_rfl | (simp; done)) rfl, fun _ => ⟨List.nodup_nil, nofun⟩⟩, hk, hos, hgens.trans hg⟩

